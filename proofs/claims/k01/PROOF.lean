import PyProof.Rows.All
import Wide.All
import OpenK.AllK
import Wide.FinOn
import HandS.ForMost
import HandS.Exc
import HandS.ForSpec
import HandS.Zip
import HandS.Strs
import HandS.SetFor
import HandS.SortInts
import HandS.IsInst
import HandS.WordsDict
import HandS.TupAny
import KE.GoesEnum
import HandS.Text
import HandS.ExcInit
import HandS.ExcIs
import KE.KExcIs
import HandS.TryMany
import HandS.Style
import HandS.HotCalls
import HandS.TupLe
import PyProof.FitsReplace
import HandS.Ends
import PyProof.ReprRoads
import HandS.Conv
import HandS.More
import HandS.SortKw
import KE.DataMinMax
import HandS.NoneIn
import KE.GoesRaise
import HandS.DictEq
import HandS.DictTup
import KE.KDictCopyH
import HandS.EndTab
import HandS.HeadHook4
import KE.DataMinKey
import OpenK.KWalk
import KE.KNestM
import PyProof.Rows.StrInSeq3
import KE.GoesMore
import KE.KDictDisplayH
import KE.KDictZip
import KE.KDictKeyed
import HandS.TupLen
import KE.KDictLaws
import KE.GoesZip
import HandS.ExcOwn
import HandS.Deep
import HandS.ExcValue
import HandS.Wide
import PySem.Challenge.RW_meetdesks_k01_refusals
set_option Elab.async false
set_option linter.all false
set_option maxRecDepth 100000
set_option maxHeartbeats 4000000
/-! MD: typed judgements over the hand layer: what is frozen is plain data, what is owned is a cell; a def's walk gives a condition in plain Lean. -/
namespace MD
open PySem PySem.Spec PyProof.Rows L2
/-! ### the weakest readings -/
section
variable (X : Cx)
def WE (e : Expr) : TE := fun σ H Q => ∀ pins s, Inv X pins σ H s → wpAny (model X.prog X.w) X.A (eval e X.env) (EP X pins σ Q) X.xe s
def WT (e : Expr) : TT := fun σ H Q => ∀ pins s, Inv X pins σ H s → wpAny (model X.prog X.w) X.A (isTrue e X.env (eval e X.env)) (TP X pins σ Q) X.xe s
def WW (e : Expr) : TT := fun σ H Q => ∀ (wh : Sem Value) pins s, Inv X pins σ H s → wpAny (model X.prog X.w) X.A (isTrue e X.env wh) (TP X pins σ Q) X.xe s
def WA (es : List Expr) : TA := fun σ H Q => ∀ (pos : Pos) pins s, Inv X pins σ H s → wpAny (model X.prog X.w) X.A (spliced (backTo pos (starEach es X.env))) (AP X pins σ Q) X.xe s
def WS (st : Stmt) : TS := fun D σ H => ∀ pins s, Inv X pins σ H s → wpAny (model X.prog X.w) X.A (exec st X.env) (SP X pins D) X.xe s
def WB (st : List Stmt) : TS := fun D σ H => ∀ pins s, Inv X pins σ H s → wpAny (model X.prog X.w) X.A (execs st X.env) (SP X pins D) X.xe s
def WG (tg : Expr) : TG := fun v σ H Q => ∀ pins s u, Inv X pins σ H s → RelV v u → wpAny (model X.prog X.w) X.A (assign tg X.env u) (fun _ s' => ∃ σ' H', Inv X pins σ' H' s' ∧ Q σ' H') X.xe s
def WGs (tgs : List Expr) : TGs := fun vs σ H Q => ∀ pins s us, Inv X pins σ H s → Vals vs us →
    wpAny (model X.prog X.w) X.A (assignInOrder ((assignEach tgs X.env).map (·.2)) us) (fun _ s' => ∃ σ' H', Inv X pins σ' H' s' ∧ Q σ' H') X.xe s
def WI (tg iter : Expr) : TI := fun σ H R => ∀ pins s, Inv X pins σ H s → wpAny (model X.prog X.w) X.A (eval iter X.env) (fun v s1 => wpAny (model X.prog X.w) X.A (pyIter v) (PIE X pins σ tg R) X.xe s1) X.xe s
def WTs (ifs : List Expr) : TT := fun σ H Q => ∀ pins s, Inv X pins σ H s →
    wpAny (model X.prog X.w) X.A (forIn ifs true fun c r => if r = true then do let ok ← isTrue c X.env (eval c X.env); pure (ForInStep.yield ok) else pure (ForInStep.yield r)) (TP X pins σ Q) X.xe s
end
section
variable {X : Cx}
theorem pe_w {e : Expr} : PE X e (WE X e) := ⟨fun pins s _ _ _ I h => h pins s I⟩
theorem pt_w {e : Expr} : PT X e (WT X e) := ⟨fun pins s _ _ _ I h => h pins s I⟩
theorem pw_w {e : Expr} : PW X e (WW X e) := ⟨fun wh pins s _ _ _ I h => h wh pins s I⟩
theorem pa_w {es : List Expr} : PA X es (WA X es) := ⟨fun pos pins s _ _ _ I h => h pos pins s I⟩
theorem ps_w {st : Stmt} : PS X st (WS X st) := ⟨fun pins s _ _ _ I h => h pins s I⟩
theorem pss_w {st : List Stmt} : PSs X st (WB X st) := ⟨fun pins s _ _ _ I h => h pins s I⟩
theorem pg_w {tg : Expr} : PG X tg (WG X tg) := ⟨fun pins s _ _ _ u _ I r h => h pins s u I r⟩
theorem pgs_w {tgs : List Expr} : PGs X tgs (WGs X tgs) := ⟨fun pins s _ _ _ us _ I r h => h pins s us I r⟩
theorem pi_w {tg iter : Expr} : PI X tg iter (WI X tg iter) := ⟨fun pins s _ _ _ I h => h pins s I⟩
theorem we {e : Expr} {t : TE} (h : PE X e t) {σ H Q} (q : t σ H Q) : WE X e σ H Q := fun pins s I => h.run pins s σ H Q I q
theorem wt {e : Expr} {t : TT} (h : PT X e t) {σ H Q} (q : t σ H Q) : WT X e σ H Q := fun pins s I => h.run pins s σ H Q I q
theorem ww {e : Expr} {t : TT} (h : PW X e t) {σ H Q} (q : t σ H Q) : WW X e σ H Q := fun wh pins s I => h.run wh pins s σ H Q I q
theorem wa {es : List Expr} {t : TA} (h : PA X es t) {σ H Q} (q : t σ H Q) : WA X es σ H Q := fun pos pins s I => h.run pos pins s σ H Q I q
theorem ws {st : Stmt} {t : TS} (h : PS X st t) {D σ H} (q : t D σ H) : WS X st D σ H := fun pins s I => h.run pins s σ H D I q
theorem wb {st : List Stmt} {t : TS} (h : PSs X st t) {D σ H} (q : t D σ H) : WB X st D σ H := fun pins s I => h.run pins s σ H D I q
theorem wg {tg : Expr} {t : TG} (h : PG X tg t) {v σ H Q} (q : t v σ H Q) : WG X tg v σ H Q := fun pins s u I r => h.run pins s σ H v u Q I r q
theorem wgs {tgs : List Expr} {t : TGs} (h : PGs X tgs t) {vs σ H Q} (q : t vs σ H Q) : WGs X tgs vs σ H Q := fun pins s us I r => h.run pins s σ H vs us Q I r q
theorem wi {tg iter : Expr} {t : TI} (h : PI X tg iter t) {σ H R} (q : t σ H R) : WI X tg iter σ H R := fun pins s I => h.run pins s σ H R I q
theorem wts {ifs : List Expr} {t : TT} (h : PTs X ifs t) {σ H Q} (q : t σ H Q) : WTs X ifs σ H Q := fun pins s I => h.run pins s σ H Q I q
end
/-! ### types -/
structure Ty (K : PySem.W.Frag) (α : Type) where
  rep : Hp → V → α → Prop
  mono : ∀ {F F' : Hp} {v : V} {x : α}, Same F F' → rep F v x → rep F' v x
/-- several values in a row -/
structure Tys (K : PySem.W.Frag) (α : Type) where
  rep : Hp → List V → α → Prop
  mono : ∀ {F F' : Hp} {v : List V} {x : α}, Same F F' → rep F v x → rep F' v x
theorem paired_mono {α β : Type} {f g : α → β → Prop} (h : ∀ a b, f a b → g a b) : ∀ {xs : List α} {ys : List β}, Paired f xs ys → Paired g xs ys
  | _, _, .nil => .nil
  | _, _, .cons r t => .cons (h _ _ r) (paired_mono h t)
section
variable {K : PySem.W.Frag} {α β γ : Type}
def tI : Ty K Int := ⟨fun _ v x => v = .int x, fun _ h => h⟩
def tB : Ty K Bool := ⟨fun _ v x => v = .bl x, fun _ h => h⟩
def tS : Ty K Str := ⟨fun _ v x => v = .str x ∧ PySem.PyData.strOk x = true, fun _ h => h⟩
def tN : Ty K Unit := ⟨fun _ v _ => v = .non, fun _ h => h⟩
def tR : Ty K Addr := ⟨fun _ v x => v = .ref x, fun _ h => h⟩
def tO (T : Ty K α) : Ty K (Option α) := ⟨fun F v x => match x with | none => v = .non | some y => T.rep F v y, fun {F F' v x} e h => by
  cases x with
  | none => exact h
  | some y => exact T.mono e h⟩
def Rl (T : Ty K α) (F : Hp) : List V → List α → Prop := Paired (T.rep F)
theorem Rl.mono {T : Ty K α} {F F' : Hp} {vs : List V} {xs : List α} (e : Same F F') (h : Rl T F vs xs) : Rl T F' vs xs := paired_mono (fun _ _ r => T.mono e r) h
def tL (T : Ty K α) : Ty K (List α) := ⟨fun F v xs => ∃ a vs, v = .ref a ∧ F a = some (.lst vs) ∧ Rl T F vs xs ∧ vs.length ≤ sizeLine, fun e ⟨a, vs, h1, h2, h3, h4⟩ => ⟨a, vs, h1, e _ _ h2, h3.mono e, h4⟩⟩
/-- a list that may be the module's own, or the script -/
def tLK (T : Ty K α) : Ty K (List α) := ⟨fun F v xs => ∃ a vs, v = .ref a ∧ SqL K F a vs ∧ Rl T F vs xs ∧ vs.length ≤ sizeLine, fun e ⟨a, vs, h1, h2, h3, h4⟩ => ⟨a, vs, h1, e.seq h2, h3.mono e, h4⟩⟩
def ts0 : Tys K Unit := ⟨fun _ vs _ => vs = [], fun _ h => h⟩
def ts1 (T : Ty K α) : Tys K α := ⟨fun F vs x => ∃ v, vs = [v] ∧ T.rep F v x, fun e ⟨v, h, r⟩ => ⟨v, h, T.mono e r⟩⟩
def tsC (T : Ty K α) (Ts : Tys K β) : Tys K (α × β) := ⟨fun F vs x => ∃ v r, vs = v :: r ∧ T.rep F v x.1 ∧ Ts.rep F r x.2, fun e ⟨v, r, h, a, b⟩ => ⟨v, r, h, T.mono e a, Ts.mono e b⟩⟩
/-- a tuple of written places -/
def tT (Ts : Tys K α) : Ty K α := ⟨fun F v x => ∃ a vs, v = .ref a ∧ F a = some (.tup vs) ∧ Ts.rep F vs x, fun e ⟨a, vs, h1, h2, h3⟩ => ⟨a, vs, h1, e _ _ h2, Ts.mono e h3⟩⟩
def tP (T : Ty K α) (U : Ty K β) : Ty K (α × β) := tT (tsC T (ts1 U))
end
/-! ### slots, cells -/
inductive Slot (K : PySem.W.Frag) : Type 1 where
  | un
  | val {α : Type} (T : Ty K α) (x : α)
def Slot.ok {K : PySem.W.Frag} (F : Hp) : Slot K → Option V → Prop
  | .un, _ => True
  | .val T x, o => ∃ v, o = some v ∧ T.rep F v x
theorem Slot.ok.mono {K : PySem.W.Frag} {F F' : Hp} (e : Same F F') : ∀ {s : Slot K} {o : Option V}, Slot.ok F s o → Slot.ok F' s o
  | .un, _, _ => trivial
  | .val T _, _, ⟨v, h, r⟩ => ⟨v, h, T.mono e r⟩
/-- what lies in a cell -/
structure CK (K : PySem.W.Frag) where
  rep : Hp → HO → Prop
  mono : ∀ {F F' : Hp} {o : HO}, Same F F' → rep F o → rep F' o
structure Cell (K : PySem.W.Frag) where
  a : Addr
  ck : CK K
def cL {K : PySem.W.Frag} {α : Type} (T : Ty K α) (xs : List α) : CK K := ⟨fun F o => ∃ vs, o = .lst vs ∧ Rl T F vs xs ∧ vs.length ≤ sizeLine, fun e ⟨vs, h, r, z⟩ => ⟨vs, h, r.mono e, z⟩⟩
/-- paired lists over any universe -/
inductive Prd {α : Type 1} {β : Type} (R : α → β → Prop) : List α → List β → Prop
  | nil : Prd R [] []
  | cons {a : α} {b : β} {as : List α} {bs : List β} : R a b → Prd R as bs → Prd R (a :: as) (b :: bs)
section
variable {α : Type 1} {β : Type} {R S : α → β → Prop}
theorem Prd.mono (h : ∀ a b, R a b → S a b) : ∀ {xs : List α} {ys : List β}, Prd R xs ys → Prd S xs ys
  | _, _, .nil => .nil
  | _, _, .cons r t => .cons (h _ _ r) (Prd.mono h t)
theorem Prd.get : ∀ {xs : List α} {ys : List β} {i : Nat} {x : α}, Prd R xs ys → xs[i]? = some x → ∃ y, ys[i]? = some y ∧ R x y
  | _, _, _, _, .nil, e => by simp at e
  | _, _, 0, _, .cons r _, e => by simp at e; subst e; exact ⟨_, rfl, r⟩
  | _, _, i + 1, x, .cons _ t, e => by
    obtain ⟨u, h1, h2⟩ := Prd.get (i := i) (x := x) t (by simpa using e)
    exact ⟨u, by simpa using h1, h2⟩
theorem Prd.set {x : α} {u : β} (r : R x u) : ∀ {xs : List α} {ys : List β} (i : Nat), Prd R xs ys → Prd R (xs.set i x) (ys.set i u)
  | _, _, _, .nil => .nil
  | _, _, 0, .cons _ t => .cons r t
  | _, _, i + 1, .cons q t => .cons q (Prd.set r i t)
theorem Prd.length : ∀ {xs : List α} {ys : List β}, Prd R xs ys → xs.length = ys.length
  | _, _, .nil => rfl
  | _, _, .cons _ t => by rw [List.length_cons, List.length_cons, t.length]
end
/-- a growth: F grows by new things, H keeps all -/
structure Grow (F H F' H' : Hp) : Prop where
  ff : Same F F'
  fh : Same F' H'
  hh : Same H H'
  fr : ∀ b, F b = none → F' b ≠ none → H b = none
section
variable {F F' H H' : Hp}
theorem Grow.refl (h : Same F H) : Grow F H F H := ⟨Same.refl F, h, Same.refl H, fun b h1 h2 => absurd h1 h2⟩
theorem Grow.trans {F1 H1 F2 H2 : Hp} (a : Grow F H F1 H1) (b : Grow F1 H1 F2 H2) : Grow F H F2 H2 where
  ff := a.ff.trans b.ff
  fh := b.fh
  hh := a.hh.trans b.hh
  fr := fun x h1 h2 => by
    by_cases h : F1 x = none
    · exact a.hh.free (b.fr x h h2)
    · exact a.fr x h1 h
/-- a new frozen thing -/
theorem grow_new (h : Same F H) {p : Addr} (hp : H p = none) (o : HO) : Grow F H (upd F p o) (upd H p o) where
  ff := fun b u e => by
    have : b ≠ p := fun z => by subst z; rw [h _ _ e] at hp; cases hp
    rw [upd_ne this]; exact e
  fh := fun b u e => by
    by_cases z : b = p
    · subst z; rw [upd_same] at e ⊢; exact e
    · rw [upd_ne z] at e ⊢; exact h _ _ e
  hh := fun b u e => by
    have : b ≠ p := fun z => by subst z; rw [e] at hp; cases hp
    rw [upd_ne this]; exact e
  fr := fun b n1 n2 => by
    by_cases z : b = p
    · subst z; exact hp
    · rw [upd_ne z] at n2; exact absurd n1 n2
end
/-- the weaker state that reading asks -/
structure Okw {K : PySem.W.Frag} (ρ : List (Slot K)) (cs : List (Cell K)) (F : Hp) (σ : L2.St) (H : Hp) : Prop where
  env : Prd (Slot.ok F) ρ σ
  same : Same F H
  cell : ∀ c ∈ cs, ∃ o, H c.a = some o ∧ c.ck.rep F o
section
variable {K : PySem.W.Frag} {ρ : List (Slot K)} {cs : List (Cell K)} {F F' H H' : Hp} {σ : L2.St}
theorem Okw.grow (o : Okw ρ cs F σ H) (g : Grow F H F' H') : Okw ρ cs F' σ H' :=
  ⟨o.env.mono fun _ _ r => r.mono g.ff, g.fh, fun c hc => let ⟨u, e, r⟩ := o.cell c hc; ⟨u, g.hh _ _ e, c.ck.mono g.ff r⟩⟩
theorem Okw.slot {α : Type} {T : Ty K α} {x : α} {i : Nat} (o : Okw ρ cs F σ H) (h : ρ[i]? = some (.val T x)) : ∃ v, σ[i]? = some (some v) ∧ T.rep F v x := by
  obtain ⟨u, h1, v, h2, r⟩ := o.env.get h
  subst h2
  exact ⟨v, h1, r⟩
end
/-! ### the judgements -/
section
/-- e gives x, if P; nothing that stands is changed -/
def PK (X : Cx) (e : Expr) (ρ : List (Slot X.K)) (cs : List (Cell X.K)) {α : Type} (T : Ty X.K α) (x : α) (P : Prop) : Prop :=
  ∀ F σ H, Okw ρ cs F σ H → P → ∀ Q : VK, (∀ v F' H', Grow F H F' H' → T.rep F' v x → Q v H') → WE X e σ H Q
def PAK (X : Cx) (es : List Expr) (ρ : List (Slot X.K)) (cs : List (Cell X.K)) {α : Type} (T : Tys X.K α) (x : α) (P : Prop) : Prop :=
  ∀ F σ H, Okw ρ cs F σ H → P → ∀ Q : List V → Hp → Prop, (∀ v F' H', Grow F H F' H' → T.rep F' v x → Q v H') → WA X es σ H Q
def PTK (X : Cx) (e : Expr) (ρ : List (Slot X.K)) (cs : List (Cell X.K)) (b : Bool) (P : Prop) : Prop :=
  ∀ F σ H, Okw ρ cs F σ H → P → ∀ Q : Bool → Hp → Prop, (∀ F' H', Grow F H F' H' → Q b H') → WT X e σ H Q
def PWK (X : Cx) (e : Expr) (ρ : List (Slot X.K)) (cs : List (Cell X.K)) (b : Bool) (P : Prop) : Prop :=
  ∀ F σ H, Okw ρ cs F σ H → P → ∀ Q : Bool → Hp → Prop, (∀ F' H', Grow F H F' H' → Q b H') → WW X e σ H Q
/-- an exception: its class, its fields -/
structure Exn (K : PySem.W.Frag) : Type 1 where
  c : Addr
  fs : List (Str × Slot K)
inductive FldOk {K : PySem.W.Frag} (F : Hp) : List (Str × Slot K) → List (Str × V) → Prop
  | nil : FldOk F [] []
  | cons {n : Str} {s : Slot K} {v : V} {as bs} : Slot.ok F s (some v) → FldOk F as bs → FldOk F ((n, s) :: as) ((n, v) :: bs)
def ExnRep {K : PySem.W.Frag} (F : Hp) (ex : Exn K) (cls : Value) (d : Option Addr) : Prop :=
  cls = .ref ex.c ∧ ((ex.fs = [] ∧ d = none) ∨ ∃ dd fs, d = some dd ∧ F dd = some (.xd fs) ∧ FldOk F ex.fs fs)
/-- what is wished of exceptions: ε of it, the cells kp as they were -/
structure Ec (K : PySem.W.Frag) : Type 1 where
  kp : List (Cell K)
  ε : Exn K → Prop
/-- the state that an expression asks -/
structure Okc {K : PySem.W.Frag} (ρ : List (Slot K)) (cs : List (Cell K)) (F : Hp) (σ : L2.St) (H : Hp) : Prop where
  env : Prd (Slot.ok F) ρ σ
  same : Same F H
  cell : ∀ c ∈ cs, F c.a = none ∧ ∃ o, H c.a = some o ∧ c.ck.rep F o
  nd : (cs.map Cell.a).Nodup
/-- from a state to another one: the cells cs alone have changed, and are cs' now, with new ones -/
structure Mv {K : PySem.W.Frag} (cs : List (Cell K)) (F H : Hp) (cs' : List (Cell K)) (F' H' : Hp) : Prop where
  ff : Same F F'
  fh : Same F' H'
  fr : ∀ b, F b = none → F' b ≠ none → H b = none
  kp : ∀ b o, H b = some o → (∀ c ∈ cs, c.a ≠ b) → H' b = some o
  cell : ∀ c ∈ cs', F' c.a = none ∧ ∃ o, H' c.a = some o ∧ c.ck.rep F' o
  nd : (cs'.map Cell.a).Nodup
  nw : ∀ c ∈ cs', (∃ c0 ∈ cs, c0.a = c.a) ∨ H c.a = none
  st : ∀ c ∈ cs, H' c.a ≠ none
section
variable {K : PySem.W.Frag} {ρ : List (Slot K)} {cs cs1 cs2 : List (Cell K)} {F F' F1 F2 H H' H1 H2 : Hp} {σ : L2.St}
theorem Okc.w (o : Okc ρ cs F σ H) : Okw ρ cs F σ H := ⟨o.env, o.same, fun c hc => (o.cell c hc).2⟩
theorem Okc.slot {α : Type} {T : Ty K α} {x : α} {i : Nat} (o : Okc ρ cs F σ H) (h : ρ[i]? = some (.val T x)) : ∃ v, σ[i]? = some (some v) ∧ T.rep F v x := o.w.slot h
theorem Okc.mv (o : Okc ρ cs F σ H) (m : Mv cs F H cs' F' H') : Okc ρ cs' F' σ H' := ⟨o.env.mono fun _ _ r => r.mono m.ff, m.fh, m.cell, m.nd⟩
theorem Okc.grow (o : Okc ρ cs F σ H) (g : Grow F H F' H') : Mv cs F H cs F' H' where
  ff := g.ff
  fh := g.fh
  fr := g.fr
  kp := fun b u e _ => g.hh b u e
  cell := fun c hc => by
    obtain ⟨n, u, e, r⟩ := o.cell c hc
    refine ⟨?_, u, g.hh _ _ e, c.ck.mono g.ff r⟩
    cases q : F' c.a with
    | none => rfl
    | some w =>
      have := g.fr c.a n (by rw [q]; simp)
      rw [e] at this; cases this
  nd := o.nd
  nw := fun c hc => .inl ⟨c, hc, rfl⟩
  st := fun c hc n => by
    obtain ⟨_, u, e, _⟩ := o.cell c hc
    rw [g.hh _ _ e] at n; cases n
theorem Okc.refl (o : Okc ρ cs F σ H) : Mv cs F H cs F H := o.grow (Grow.refl o.same)
theorem Mv.trans (a : Mv cs F H cs1 F1 H1) (b : Mv cs1 F1 H1 cs2 F2 H2) : Mv cs F H cs2 F2 H2 where
  ff := a.ff.trans b.ff
  fh := b.fh
  fr := fun x h1 h2 => by
    by_cases h : F1 x = none
    · have n1 := b.fr x h h2
      cases q : H x with
      | none => rfl
      | some o =>
        by_cases m : ∃ c ∈ cs, c.a = x
        · obtain ⟨c, hc, rfl⟩ := m
          exact absurd n1 (a.st c hc)
        · rw [a.kp x o q fun c hc e => m ⟨c, hc, e⟩] at n1; cases n1
    · exact a.fr x h1 h
  kp := fun x o e n => by
    have e1 := a.kp x o e n
    refine b.kp x o e1 fun c hc z => ?_
    rcases a.nw c hc with ⟨c0, h0, e0⟩ | h0
    · exact n c0 h0 (e0.trans z)
    · rw [z, e] at h0; cases h0
  cell := b.cell
  nd := b.nd
  nw := fun c hc => by
    rcases b.nw c hc with ⟨c0, h0, e0⟩ | h0
    · rcases a.nw c0 h0 with ⟨c1, h1, e1⟩ | h1
      · exact .inl ⟨c1, h1, e1.trans e0⟩
      · rw [e0] at h1; exact .inr h1
    · refine .inr ?_
      cases q : H c.a with
      | none => rfl
      | some o =>
        by_cases m : ∃ c1 ∈ cs, c1.a = c.a
        · obtain ⟨c1, hc1, e⟩ := m
          have := a.st c1 hc1
          rw [e] at this
          exact absurd h0 this
        · rw [a.kp c.a o q fun c1 hc1 e => m ⟨c1, hc1, e⟩] at h0; cases h0
  st := fun c hc n => by
    by_cases m : ∃ c1 ∈ cs1, c1.a = c.a
    · obtain ⟨c1, h1, e⟩ := m
      have := b.st c1 h1
      rw [e] at this
      exact this n
    · cases q : H1 c.a with
      | none => exact a.st c hc q
      | some o => rw [b.kp c.a o q fun c1 h1 e => m ⟨c1, h1, e⟩] at n; cases n
end
/-- where a def began -/
structure Hb (K : PySem.W.Frag) where
  F0 : Hp
  H0 : Hp
  cin : List (Cell K)
/-- the state of a def's body: names by slots, cells, and how it came from the beginning -/
structure Ok {K : PySem.W.Frag} (B : Hb K) (fl : Hp) (ρ : List (Slot K)) (cs : List (Cell K)) (F : Hp) (σ : L2.St) (H : Hp) : Prop where
  env : Prd (Slot.ok F) ρ σ
  mv : Mv B.cin B.F0 B.H0 cs F H
  flo : Same fl F
section
variable {K : PySem.W.Frag} {B : Hb K} {ρ : List (Slot K)} {cs cs1 cs2 : List (Cell K)} {F F' F1 F2 H H' H1 H2 : Hp} {σ : L2.St}
theorem Ok.c {fl : Hp} (o : Ok B fl ρ cs F σ H) : Okc ρ cs F σ H := ⟨o.env, o.mv.fh, o.mv.cell, o.mv.nd⟩
theorem Ok.to {fl : Hp} (o : Ok B fl ρ cs F σ H) (m : Mv cs F H cs1 F1 H1) : Ok B fl ρ cs1 F1 σ H1 := ⟨o.env.mono fun _ _ r => r.mono m.ff, o.mv.trans m, o.flo.trans m.ff⟩
theorem Ok.set {fl : Hp} {α : Type} {T : Ty K α} {x : α} {v : V} (i : Nat) (o : Ok B fl ρ cs F σ H) (r : T.rep F v x) : Ok B fl (ρ.set i (.val T x)) cs F (σ.set i (some v)) H := ⟨o.env.set (R := Slot.ok F) (x := .val T x) (u := some v) ⟨v, rfl, r⟩ i, o.mv, o.flo⟩
theorem Ok.low {fl fl' : Hp} (o : Ok B fl' ρ cs F σ H) (h : Same fl fl') : Ok B fl ρ cs F σ H := ⟨o.env, o.mv, h.trans o.flo⟩
theorem Okc.set {α : Type} {T : Ty K α} {x : α} {v : V} (i : Nat) (o : Okc ρ cs F σ H) (r : T.rep F v x) : Okc (ρ.set i (.val T x)) cs F (σ.set i (some v)) H := ⟨o.env.set (R := Slot.ok F) (x := .val T x) (u := some v) ⟨v, rfl, r⟩ i, o.same, o.cell, o.nd⟩
end
/-- what an expression's exceptions meet -/
def Xh (X : Cx) (Y : Ec X.K) (cs : List (Cell X.K)) (F : Hp) (σ : L2.St) (H : Hp) : Prop :=
  ∃ W, Takes X W ∧ ∀ ex cls d cs2 F' H', Mv cs F H cs2 F' H' → (∀ c ∈ Y.kp, c ∈ cs2) → ExnRep F' ex cls d → Y.ε ex → W cls d σ H'
theorem Xh.mv {X : Cx} {Y : Ec X.K} {cs cs1 : List (Cell X.K)} {F F1 H H1 : Hp} {σ : L2.St} (x : Xh X Y cs F σ H) (m : Mv cs F H cs1 F1 H1) : Xh X Y cs1 F1 σ H1 := by
  obtain ⟨W, tk, h⟩ := x
  exact ⟨W, tk, fun ex cls d cs2 F' H' m2 kp r e => h ex cls d cs2 F' H' (m.trans m2) kp r e⟩
/-- e gives vl y of the type T, y being what the condition M hands on; the cells behind it are cs' y -/
def EK (X : Cx) (Y : Ec X.K) (e : Expr) (ρ : List (Slot X.K)) (cs : List (Cell X.K)) {μ α : Type} (T : Ty X.K α) (vl : μ → α) (cs' : μ → List (Cell X.K)) (M : (μ → Prop) → Prop) : Prop :=
  ∀ F σ H, Okc ρ cs F σ H → Xh X Y cs F σ H → ∀ φ : μ → Prop, M φ → ∀ Q : VK, (∀ y v F' H', Mv cs F H (cs' y) F' H' → T.rep F' v (vl y) → φ y → Q v H') → WE X e σ H Q
def AK (X : Cx) (Y : Ec X.K) (es : List Expr) (ρ : List (Slot X.K)) (cs : List (Cell X.K)) {μ α : Type} (T : Tys X.K α) (vl : μ → α) (cs' : μ → List (Cell X.K)) (M : (μ → Prop) → Prop) : Prop :=
  ∀ F σ H, Okc ρ cs F σ H → Xh X Y cs F σ H → ∀ φ : μ → Prop, M φ → ∀ Q : List V → Hp → Prop, (∀ y v F' H', Mv cs F H (cs' y) F' H' → T.rep F' v (vl y) → φ y → Q v H') → WA X es σ H Q
def TK (X : Cx) (Y : Ec X.K) (e : Expr) (ρ : List (Slot X.K)) (cs : List (Cell X.K)) {μ : Type} (vl : μ → Bool) (cs' : μ → List (Cell X.K)) (M : (μ → Prop) → Prop) : Prop :=
  ∀ F σ H, Okc ρ cs F σ H → Xh X Y cs F σ H → ∀ φ : μ → Prop, M φ → ∀ Q : Bool → Hp → Prop, (∀ y F' H', Mv cs F H (cs' y) F' H' → φ y → Q (vl y) H') → WT X e σ H Q
/-- a block, from a state of that form, if φ -/
def SK (X : Cx) (B : Hb X.K) (Y : Ec X.K) (fl : Hp) (st : List Stmt) (ρ : List (Slot X.K)) (cs : List (Cell X.K)) (D : Ends) (φ : Prop) : Prop :=
  ∀ F σ H, Ok B fl ρ cs F σ H → φ → ∀ W, Takes X W → (∀ ex cls d cs2 F' H' σ', Mv B.cin B.F0 B.H0 cs2 F' H' → (∀ c ∈ Y.kp, c ∈ cs2) → ExnRep F' ex cls d → Y.ε ex → W cls d σ' H') → WB X st D σ H
end
end MD
namespace MD
open PySem PySem.Spec PyProof.Rows L2
section
variable {X : Cx} {Y : Ec X.K} {ρ : List (Slot X.K)} {cs : List (Cell X.K)} {α β γ : Type} {pos : Pos}
/-! ### names, constants -/
theorem pk_var {i : Nat} {nm : Str} {T : Ty X.K α} {x : α} (hρ : ρ[i]? = some (.val T x)) (hN : X.N[i]? = some nm := by rfl) (hv : Vis X.env.scope nm := by first | exact Or.inl rfl | exact Or.inr (Or.inl rfl) | exact Or.inr (Or.inr rfl))
    (hd : (nm == ("__debug__" : Str)) = false := by decide) (hcd : (nm == ("__classdict__" : Str)) = false := by decide) : PK X (.Name nm pos) ρ cs T x True := fun F σ H ok _ Q k => by
  obtain ⟨v, e, r⟩ := ok.slot hρ
  exact we (pe_var hN hv hd hcd) ⟨v, e, k v F H (Grow.refl ok.same) r⟩
theorem pk_int {i : Int} {j} : PK X (.Constant (.int i) j pos) ρ cs tI i True := fun F σ H ok _ Q k => we pe_int (k _ F H (Grow.refl ok.same) rfl)
theorem pk_bl {b : Bool} {j} : PK X (.Constant (.bool b) j pos) ρ cs tB b True := fun F σ H ok _ Q k => we pe_bl (k _ F H (Grow.refl ok.same) rfl)
theorem pk_str {s : Str} {j} (hs : PySem.PyData.strOk s = true := by decide +kernel) : PK X (.Constant (.str s) j pos) ρ cs tS s True := fun F σ H ok _ Q k => we pe_str (k _ F H (Grow.refl ok.same) ⟨rfl, hs⟩)
/-- a constant of a module -/
theorem pk_glob {nm : Str} {v : V} {u : Value} {T : Ty X.K α} {x : α} (hm : X.mg nm = some u) (r : RelV v u) (hT : ∀ F, T.rep F v x) (hg : Gl X nm := by rfl) (hd : (nm == ("__debug__" : Str)) = false := by decide) : PK X (.Name nm pos) ρ cs T x True :=
  fun F σ H ok _ Q k => we (pe_glob hg hm r hd) (k _ F H (Grow.refl ok.same) (hT F))
/-! ### between the judgements -/
theorem PK.to {e : Expr} {T : Ty X.K α} {x x' : α} {P P' : Prop} (h : PK X e ρ cs T x P) (hx : x = x') (hp : P' → P) : PK X e ρ cs T x' P' := by
  subst hx
  exact fun F σ H ok p Q k => h F σ H ok (hp p) Q k
theorem PK.some {e : Expr} {T : Ty X.K α} {x : α} {P : Prop} (h : PK X e ρ cs T x P) : PK X e ρ cs (tO T) (some x) P := fun F σ H ok p Q k => h F σ H ok p Q k
theorem PK.ek {e : Expr} {T : Ty X.K α} {x : α} {P : Prop} (h : PK X e ρ cs T x P) : EK X Y e ρ cs T (fun _ : Unit => x) (fun _ => cs) (fun φ => P ∧ φ ()) := fun F σ H ok _ φ m Q k =>
  h F σ H ok.w m.1 Q fun v F' H' g r => k () v F' H' (ok.grow g) r m.2
theorem PAK.ak {es : List Expr} {T : Tys X.K α} {x : α} {P : Prop} (h : PAK X es ρ cs T x P) : AK X Y es ρ cs T (fun _ : Unit => x) (fun _ => cs) (fun φ => P ∧ φ ()) := fun F σ H ok _ φ m Q k =>
  h F σ H ok.w m.1 Q fun v F' H' g r => k () v F' H' (ok.grow g) r m.2
theorem PTK.tk {e : Expr} {b : Bool} {P : Prop} (h : PTK X e ρ cs b P) : TK X Y e ρ cs (fun _ : Unit => b) (fun _ => cs) (fun φ => P ∧ φ ()) := fun F σ H ok _ φ m Q k =>
  h F σ H ok.w m.1 Q fun F' H' g => k () F' H' (ok.grow g) m.2
/-! ### operators -/
def R2K {K : PySem.W.Frag} (r : R2) (T1 : Ty K α) (T2 : Ty K β) (T3 : Ty K γ) (C : α → β → Prop) (f : α → β → γ) : Prop :=
  ∀ F H v w x y, Same F H → T1.rep F v x → T2.rep F w y → C x y → ∀ Q : VK, (∀ z F' H', Grow F H F' H' → T3.rep F' z (f x y) → Q z H') → r v w H Q
def yes2 : α → β → Prop := fun _ _ => True
section
variable {K : PySem.W.Frag}
theorem r2_I {C : Int → Int → Prop} {g : Int → Int → Int} : R2K (K := K) (rI C fun i j => .int (g i j)) tI tI tI C g := fun F H v w x y s h1 h2 c Q k => ⟨x, y, h1, h2, c, k _ F H (Grow.refl s) rfl⟩
theorem r2_I0 {g : Int → Int → Int} : R2K (K := K) (rI0 fun i j => .int (g i j)) tI tI tI yes2 g := fun F H v w x y s h1 h2 c Q k => ⟨x, y, h1, h2, k _ F H (Grow.refl s) rfl⟩
theorem r2_B0 {g : Int → Int → Bool} : R2K (K := K) (rI0 fun i j => .bl (g i j)) tI tI tB yes2 g := fun F H v w x y s h1 h2 c Q k => ⟨x, y, h1, h2, k _ F H (Grow.refl s) rfl⟩
theorem r2_eqI : R2K (K := K) rEq tI tI tB yes2 (fun i j => decide (i = j)) := fun F H v w x y s h1 h2 c Q k => by
  cases h1; cases h2
  refine ⟨rfl, k _ F H (Grow.refl s) ?_⟩
  show V.bl _ = V.bl _
  rw [dec_int, Bool.beq_eq_decide_eq]
theorem r2_neI : R2K (K := K) rNe tI tI tB yes2 (fun i j => !decide (i = j)) := fun F H v w x y s h1 h2 c Q k => by
  cases h1; cases h2
  refine ⟨rfl, k _ F H (Grow.refl s) ?_⟩
  show V.bl _ = V.bl _
  rw [dec_int, Bool.beq_eq_decide_eq]
theorem dec_strD {i j : Str} : decide (V.str i = V.str j) = decide (i = j) := by
  by_cases h : i = j
  · subst h; simp
  · rw [decide_eq_false h, decide_eq_false fun q => h (V.str.inj q)]
theorem r2_eqS : R2K (K := K) rEq tS tS tB yes2 (fun i j => decide (i = j)) := fun F H v w x y s h1 h2 c Q k => by
  obtain ⟨h1, _⟩ := h1; obtain ⟨h2, _⟩ := h2; cases h1; cases h2
  refine ⟨rfl, k _ F H (Grow.refl s) ?_⟩
  show V.bl _ = V.bl _
  rw [dec_strD]
theorem strOk_app {a b : Str} (ha : PySem.PyData.strOk a = true) (hb : PySem.PyData.strOk b = true) : PySem.PyData.strOk (a ++ b) = true := by
  unfold PySem.PyData.strOk at *
  show (a.cps ++ b.cps).all _ = true
  rw [Array.all_append, ha, hb]
  rfl
theorem r2_addS : R2K (K := K) (fun x y H Q => ∃ i j, x = .str i ∧ y = .str j ∧ i.length + j.length ≤ sizeLine ∧ Q (.str (i ++ j)) H) tS tS tS (fun i j => i.length + j.length ≤ sizeLine) (· ++ ·) :=
  fun F H v w x y s h1 h2 c Q k => ⟨x, y, h1.1, h2.1, c, k _ F H (Grow.refl s) ⟨rfl, strOk_app h1.2 h2.2⟩⟩
end
theorem pk_op {op : Operator} {a b : Expr} {r : R2} {T1 : Ty X.K α} {T2 : Ty X.K β} {T3 : Ty X.K γ} {C : α → β → Prop} {f : α → β → γ} {x : α} {y : β} {P1 P2 : Prop} (ho : OpR X (binaryOp op) r) (hr : R2K r T1 T2 T3 C f)
    (ha : PK X a ρ cs T1 x P1) (hb : PK X b ρ cs T2 y P2) : PK X (.BinOp a op b pos) ρ cs T3 (f x y) (P1 ∧ P2 ∧ C x y) := fun F σ H ok p Q k => by
  refine we (pe_op ho pe_w pe_w) ?_
  refine ha F σ H ok p.1 _ fun v F1 H1 g1 r1 => ?_
  refine hb F1 σ H1 (ok.grow g1) p.2.1 _ fun w F2 H2 g2 r2 => ?_
  exact hr F2 H2 v w x y g2.fh (T1.mono g2.ff r1) r2 p.2.2 Q fun z F3 H3 g3 r3 => k z F3 H3 ((g1.trans g2).trans g3) r3
theorem pk_cmp {op : CmpOp} {a b : Expr} {r : R2} {T1 : Ty X.K α} {T2 : Ty X.K β} {T3 : Ty X.K γ} {C : α → β → Prop} {f : α → β → γ} {x : α} {y : β} {P1 P2 : Prop} (ho : OpR X (compareOp op) r) (hr : R2K r T1 T2 T3 C f)
    (ha : PK X a ρ cs T1 x P1) (hb : PK X b ρ cs T2 y P2) (hm : behindInMarks op b = false := by first | exact nomark _ | rfl) : PK X (.Compare a [op] [b] pos) ρ cs T3 (f x y) (P1 ∧ P2 ∧ C x y) := fun F σ H ok p Q k => by
  refine we (pe_cmpR ho pe_w pe_w hm) ?_
  refine ha F σ H ok p.1 _ fun v F1 H1 g1 r1 => ?_
  refine hb F1 σ H1 (ok.grow g1) p.2.1 _ fun w F2 H2 g2 r2 => ?_
  exact hr F2 H2 v w x y g2.fh (T1.mono g2.ff r1) r2 p.2.2 Q fun z F3 H3 g3 r3 => k z F3 H3 ((g1.trans g2).trans g3) r3
theorem pt_cmp' {op : CmpOp} {a b : Expr} {r : R2} {T1 : Ty X.K α} {T2 : Ty X.K β} {C : α → β → Prop} {f : α → β → Bool} {x : α} {y : β} {P1 P2 : Prop} (ho : OpR X (compareOp op) r) (hr : R2K r T1 T2 tB C f)
    (ha : PK X a ρ cs T1 x P1) (hb : PK X b ρ cs T2 y P2) (hm : behindInMarks op b = false := by first | exact nomark _ | rfl) : PTK X (.Compare a [op] [b] pos) ρ cs (f x y) (P1 ∧ P2 ∧ C x y) := fun F σ H ok p Q k => by
  refine wt (pt_cmpR ho pe_w pe_w hm) ?_
  refine ha F σ H ok p.1 _ fun v F1 H1 g1 r1 => ?_
  refine hb F1 σ H1 (ok.grow g1) p.2.1 _ fun w F2 H2 g2 r2 => ?_
  exact hr F2 H2 v w x y g2.fh (T1.mono g2.ff r1) r2 p.2.2 _ fun z F3 H3 g3 r3 => ⟨_, r3, k F3 H3 ((g1.trans g2).trans g3)⟩
theorem pk_notB {a : Expr} {x : Bool} {P : Prop} (ha : PK X a ρ cs tB x P) : PK X (.UnaryOp .Not a pos) ρ cs tB (!x) P := fun F σ H ok p Q k => by
  refine we (pe_not pe_w) ?_
  exact ha F σ H ok p _ fun v F1 H1 g1 r1 => ⟨x, r1, k _ F1 H1 g1 rfl⟩
/-! ### tests -/
theorem pt_val' {e : Expr} {b : Bool} {P : Prop} (h : PK X e ρ cs tB b P) (he : ∀ whole, isTrue e X.env whole = (do let v ← whole; standAt e.pos; holding [v] (truthy v)) := by intro _; rfl) : PTK X e ρ cs b P := fun F σ H ok p Q k => by
  refine wt (pt_val pe_w he) ?_
  exact h F σ H ok p _ fun v F1 H1 g1 r1 => ⟨b, r1, k F1 H1 g1⟩
theorem pt_not' {e : Expr} {b : Bool} {P : Prop} (h : PTK X e ρ cs b P) : PTK X (.UnaryOp .Not e pos) ρ cs (!b) P := fun F σ H ok p Q k => by
  refine wt (pt_not pt_w) ?_
  exact h F σ H ok p _ fun F1 H1 g1 => k F1 H1 g1
theorem pw_or1' {a : Expr} {b : Bool} {P : Prop} (h : PTK X a ρ cs b P) : PWK X (.BoolOp .Or [a] pos) ρ cs b P := fun F σ H ok p Q k => ww (pw_or1 pt_w) (h F σ H ok p Q k)
theorem pw_or' {a b : Expr} {rest : List Expr} {x y : Bool} {P1 P2 : Prop} (ha : PTK X a ρ cs x P1) (hb : PWK X (.BoolOp .Or (b :: rest) pos) ρ cs y P2) : PWK X (.BoolOp .Or (a :: b :: rest) pos) ρ cs (x || y) (P1 ∧ (x = false → P2)) := fun F σ H ok p Q k => by
  refine ww (pw_or pt_w pw_w) ?_
  refine ha F σ H ok p.1 _ fun F1 H1 g1 => ?_
  cases x with
  | false => exact (if_neg Bool.false_ne_true).mpr (hb F1 σ H1 (ok.grow g1) (p.2 rfl) Q fun F2 H2 g2 => k F2 H2 (g1.trans g2))
  | true => exact (if_pos rfl).mpr (k F1 H1 g1)
theorem PWK.pt {e : Expr} {b : Bool} {P : Prop} (h : PWK X e ρ cs b P) : PTK X e ρ cs b P := fun F σ H ok p Q k => wt pw_w.pt (h F σ H ok p Q k)
/-! ### as values -/
theorem pk_one {a : Expr} {op} {T : Ty X.K α} {x : α} {P : Prop} (h : PK X a ρ cs T x P) : PK X (.BoolOp op [a] pos) ρ cs T x P := fun F σ H ok p Q k => we (pe_one pe_w) (h F σ H ok p Q k)
theorem pk_and {a b : Expr} {rest : List Expr} {x y : Bool} {P1 P2 : Prop} (ha : PK X a ρ cs tB x P1) (hb : PK X (.BoolOp .And (b :: rest) pos) ρ cs tB y P2) : PK X (.BoolOp .And (a :: b :: rest) pos) ρ cs tB (x && y) (P1 ∧ (x = true → P2)) := fun F σ H ok p Q k => by
  refine we (pe_and pe_w pe_w) ?_
  refine ha F σ H ok p.1 _ fun v F1 H1 g1 r1 => ⟨x, r1, ?_⟩
  cases x with
  | true => exact (if_pos rfl).mpr (hb F1 σ H1 (ok.grow g1) (p.2 rfl) Q fun w F2 H2 g2 r2 => k w F2 H2 (g1.trans g2) r2)
  | false => exact (if_neg Bool.false_ne_true).mpr (k _ F1 H1 g1 rfl)
/-! ### argument lists, displays -/
theorem pa_0 : PAK X [] ρ cs ts0 () True := fun F σ H ok _ Q k => wa pa_nil (k [] F H (Grow.refl ok.same) rfl)
theorem pa_1 {e : Expr} {T : Ty X.K α} {x : α} {P : Prop} (h : PK X e ρ cs T x P) (hs : starEach (e :: []) X.env = (false, eval e X.env) :: starEach [] X.env := by rfl) : PAK X [e] ρ cs (ts1 T) x P := fun F σ H ok p Q k => by
  refine wa (pa_cons pe_w pa_nil hs) ?_
  exact h F σ H ok p _ fun v F1 H1 g1 r1 => k [v] F1 H1 g1 ⟨v, rfl, r1⟩
theorem pa_C {e : Expr} {es : List Expr} {T : Ty X.K α} {Ts : Tys X.K β} {x : α} {y : β} {P1 P2 : Prop} (h : PK X e ρ cs T x P1) (hr : PAK X es ρ cs Ts y P2) (hs : starEach (e :: es) X.env = (false, eval e X.env) :: starEach es X.env := by rfl) :
    PAK X (e :: es) ρ cs (tsC T Ts) (x, y) (P1 ∧ P2) := fun F σ H ok p Q k => by
  refine wa (pa_cons pe_w pa_w hs) ?_
  refine h F σ H ok p.1 _ fun v F1 H1 g1 r1 => ?_
  exact hr F1 σ H1 (ok.grow g1) p.2 _ fun w F2 H2 g2 r2 => k (v :: w) F2 H2 (g1.trans g2) ⟨v, w, rfl, T.mono g2.ff r1, r2⟩
/-- of one type, as a list -/
def tsL {K : PySem.W.Frag} (T : Ty K α) : Tys K (List α) := ⟨fun F vs xs => Rl T F vs xs, fun e h => h.mono e⟩
theorem pl_0 {T : Ty X.K α} : PAK X [] ρ cs (tsL T) [] True := fun F σ H ok _ Q k => wa pa_nil (k [] F H (Grow.refl ok.same) .nil)
theorem pl_C {e : Expr} {es : List Expr} {T : Ty X.K α} {x : α} {y : List α} {P1 P2 : Prop} (h : PK X e ρ cs T x P1) (hr : PAK X es ρ cs (tsL T) y P2) (hs : starEach (e :: es) X.env = (false, eval e X.env) :: starEach es X.env := by rfl) :
    PAK X (e :: es) ρ cs (tsL T) (x :: y) (P1 ∧ P2) := fun F σ H ok p Q k => by
  refine wa (pa_cons pe_w pa_w hs) ?_
  refine h F σ H ok p.1 _ fun v F1 H1 g1 r1 => ?_
  exact hr F1 σ H1 (ok.grow g1) p.2 _ fun w F2 H2 g2 r2 => k (v :: w) F2 H2 (g1.trans g2) (.cons (T.mono g2.ff r1) r2)
theorem Rl.length {K : PySem.W.Frag} {T : Ty K α} {F : Hp} {vs : List V} {xs : List α} (h : Rl T F vs xs) : vs.length = xs.length := Paired.length h
/-! ### built-in functions -/
def RCK {K : PySem.W.Frag} (r : List V → Hp → VK → Prop) (Ts : Tys K α) (T3 : Ty K γ) (C : α → Prop) (f : α → γ) : Prop :=
  ∀ F H vs x, Same F H → Ts.rep F vs x → C x → ∀ Q : VK, (∀ z F' H', Grow F H F' H' → T3.rep F' z (f x) → Q z H') → r vs H Q
def yes1 : α → Prop := fun _ => True
theorem pk_cb {nm : Str} {p : Pos} {e : Expr} {es : List Expr} {id : String} {r : List V → Hp → VK → Prop} {Ts : Tys X.K α} {T3 : Ty X.K γ} {C : α → Prop} {f : α → γ} {x : α} {P : Prop} (hc : CallR X (.builtin id) r) (hm : X.mg nm = none) (hv : bootBuiltins nm = some (.builtin id)) (hr : RCK r Ts T3 C f)
    (ha : PAK X (e :: es) ρ cs Ts x P) (hg : Gl X nm := by rfl) (hn : nm ≠ "__name__" := by decide) (hdb : (nm == ("__debug__" : Str)) = false := by decide)
    (he : starEach (e :: es) X.env = (false, eval e X.env) :: starEach es X.env := by rfl) (hpl : (backTo pos (starEach es X.env)).any (·.1) = false := by rfl) : PK X (.Call (.Name nm p) (e :: es) [] pos) ρ cs T3 (f x) (P ∧ C x) := fun F σ H ok q Q k => by
  refine we (pe_callB hc hg hm hv pa_w hn hdb he hpl) ?_
  refine ha F σ H ok q.1 _ fun vs F1 H1 g1 r1 => ?_
  exact hr F1 H1 vs x g1.fh r1 q.2 Q fun z F2 H2 g2 r2 => k z F2 H2 (g1.trans g2) r2
section
variable {K : PySem.W.Frag}
def rLenQ (K : PySem.W.Frag) : List V → Hp → VK → Prop := fun xs H Q => ∃ p ys, xs = [.ref p] ∧ (SqL K H p ys ∨ SqT K H p ys) ∧ Q (.int ys.length) H
end
theorem cr_lenQ : CallR X (.builtin "len") (rLenQ X.K) := call_len_seq
/-! ### items -/
def pyIx [Inhabited α] (xs : List α) (i : Int) : α := (atI xs i).getD default
def IxOk (xs : List α) (i : Int) : Prop := -(xs.length : Int) ≤ i ∧ i < xs.length
theorem rl_atI {K : PySem.W.Frag} [Inhabited α] {T : Ty K α} {F : Hp} {vs : List V} {xs : List α} {i : Int} (h : Rl T F vs xs) (hi : IxOk xs i) : ∃ v, atI vs i = some v ∧ T.rep F v (pyIx xs i) := by
  have hl := Rl.length h
  unfold pyIx atI
  rw [hl]
  obtain ⟨h1, h2⟩ := hi
  have get : ∀ {ws : List V} {ys : List α} {j : Nat}, Rl T F ws ys → j < ys.length → ∃ v, ws[j]? = some v ∧ T.rep F v ((ys[j]?).getD default) := by
    intro ws ys j hh
    induction hh generalizing j with
    | nil => intro hj; exact absurd hj (Nat.not_lt_zero _)
    | cons r t ih =>
      intro hj
      cases j with
      | zero => exact ⟨_, rfl, r⟩
      | succ j =>
        obtain ⟨v, e, q⟩ := ih (Nat.lt_of_succ_lt_succ hj)
        exact ⟨v, by simpa using e, by simpa using q⟩
  by_cases h0 : 0 ≤ i
  · have e : ixN xs.length i = some i.toNat := by unfold ixN; rw [if_pos h0, if_pos h2]
    rw [e]
    exact get h (by omega)
  · have e : ixN xs.length i = some (i + xs.length).toNat := by unfold ixN; rw [if_neg h0, if_pos h1]
    rw [e]
    exact get h (by omega)
end
end MD
namespace MD
open PySem PySem.Spec PyProof.Rows L2
/-! ### contracts -/
structure Con (K : PySem.W.Frag) (A R γ : Type) where
  ins : A → List (Slot K)
  cin : A → List (Cell K)
  wp : A → (R → Prop) → (Exn K → Prop) → Prop
  T : Ty K γ
  rv : R → γ
  cout : A → R → List (Cell K)
  mono : ∀ a φ φ' ε ε', (∀ r, φ r → φ' r) → (∀ e, ε e → ε' e) → wp a φ ε → wp a φ' ε'
def Con.sp {K : PySem.W.Frag} {A R γ : Type} (C : Con K A R γ) : Sp := fun vs H Q E => ∃ (a : A) (F : Hp), Prd (fun s v => Slot.ok F s (some v)) (C.ins a) vs ∧ Same F H ∧
  (∀ c ∈ C.cin a, F c.a = none ∧ ∃ o, H c.a = some o ∧ c.ck.rep F o) ∧ ((C.cin a).map Cell.a).Nodup ∧
  C.wp a (fun r => ∀ v F' H', Mv (C.cin a) F H (C.cout a r) F' H' → C.T.rep F' v (C.rv r) → Q v H') (fun ex => ∀ cls d F' H', Mv (C.cin a) F H (C.cin a) F' H' → ExnRep F' ex cls d → E cls d H')
/-- a function of frozen data: where pre holds it is f -/
def Con.fn {K : PySem.W.Frag} {A γ : Type} (ins : A → List (Slot K)) (T : Ty K γ) (pre : A → Prop) (f : A → γ) : Con K A γ γ where
  ins := ins
  cin := fun _ => []
  wp := fun a φ _ => pre a ∧ ∀ r, r = f a → φ r
  T := T
  rv := fun r => r
  cout := fun _ _ => []
  mono := fun _ _ _ _ _ h _ w => ⟨w.1, fun r e => h r (w.2 r e)⟩
section
variable {P : Program} {w : World} {K : PySem.W.Frag} {mg : Str → Option Value} {base : Heap} {A R γ : Type}
theorem Prd.start {F : Hp} {n : Nat} : ∀ {ss : List (Slot K)} {vs : List V}, Prd (fun s v => Slot.ok F s (some v)) ss vs → Prd (Slot.ok F) (ss ++ List.replicate n .un) (vs.map some ++ List.replicate n none)
  | _, _, .cons r t => .cons r (Prd.start t)
  | _, _, .nil => by
    show Prd _ (List.replicate n Slot.un) (List.replicate n none)
    induction n with
    | zero => exact .nil
    | succ n ih => exact .cons trivial ih
/-- what a return is to reach -/
def retD (C : Con K A R γ) (a : A) (B : Hb K) (φ : R → Prop) : Ends where
  nx := fun _ H' => ∃ r F', Mv B.cin B.F0 B.H0 (C.cout a r) F' H' ∧ C.T.rep F' .non (C.rv r) ∧ φ r
  rt := fun v H' => ∃ r F', Mv B.cin B.F0 B.H0 (C.cout a r) F' H' ∧ C.T.rep F' v (C.rv r) ∧ φ r
theorem PSs.ends {X : Cx} {st : List Stmt} {D D' : Ends} {σ : L2.St} {H : Hp} (hn : ∀ σ H, D.nx σ H → D'.nx σ H) (hr : ∀ v H, D.rt v H → D'.rt v H) (hb : ∀ σ H, D.bk σ H → D'.bk σ H) (hc : ∀ σ H, D.ct σ H → D'.ct σ H) (h : WB X st D σ H) : WB X st D' σ H :=
  fun pins s I => thn (h pins s I) fun f s' q => by
    cases f with
    | next => obtain ⟨σ', H', I', q⟩ := q; exact ⟨σ', H', I', hn _ _ q⟩
    | brk => obtain ⟨σ', H', I', q⟩ := q; exact ⟨σ', H', I', hb _ _ q⟩
    | cont => obtain ⟨σ', H', I', q⟩ := q; exact ⟨σ', H', I', hc _ _ q⟩
    | ret u => obtain ⟨v, σ', H', I', r, q⟩ := q; exact ⟨v, σ', H', I', r, hr _ _ q⟩
/-- a def keeps its contract, by its body -/
theorem fn_con {x qual : Str} {st : Stmt} {f : Addr} {fd : FuncData} {N ps : List Str} {k : Nat} (C : Con K A R γ) (F : Fun K x qual st f fd) (S : FnScope N ps (defScope st)) (hl : ∀ a, (C.ins a).length = ps.length)
    (body : ∀ (cdv : Value) (Ar : Around) (outer : List Env) (s : Shared) (H : Hp) (E : XK) (F0 : Hp) (a : A) (φ : R → Prop) (ε : Exn K → Prop), Room k (Ar.deeper (envOfC qual (defScope st) s.heap.objs.size f cdv)) →
      PassesOwn (model P w) (Ar.deeper (envOfC qual (defScope st) s.heap.objs.size f cdv)) (envOfC qual (defScope st) s.heap.objs.size f cdv) (cxOf (L2.CX P w) P w K mg base N qual (defScope st) f cdv Ar outer s H E).xe →
      SK (cxOf (L2.CX P w) P w K mg base N qual (defScope st) f cdv Ar outer s H E) ⟨F0, H, C.cin a⟩ ⟨C.cin a, ε⟩ F0 (defBody st) (C.ins a ++ List.replicate (N.length - ps.length) .un) (C.cin a) (retD C a ⟨F0, H, C.cin a⟩ φ) (C.wp a φ ε)) :
    FnOk P w K mg base (L2.CX P w) (k + 1) f fd ps C.sp := by
  refine F.okX S (fun vs H Q E ⟨a, F, h, _⟩ => by rw [← h.length]; exact hl a) (fun cdv Ar outer s H vs Q E hr h => ?_)
  obtain ⟨a, F0, hv, hs, hc, hn, hw⟩ := h
  refine ⟨_, pss_w, ?_⟩
  have e : vs.length = ps.length := by rw [← hv.length]; exact hl a
  have Bo : Mv (C.cin a) F0 H (C.cin a) F0 H := ⟨Same.refl _, hs, fun b h1 h2 => absurd h1 h2, fun b o e _ => e, hc, hn, fun c hc => .inl ⟨c, hc, rfl⟩, fun c hcm z => by
    obtain ⟨_, o, e, _⟩ := hc c hcm
    rw [e] at z; cases z⟩
  have hb := body cdv Ar outer s H E F0 a _ _ hr (passes_of rfl) F0 (L2.start N vs) H ⟨by
    unfold L2.start
    rw [e]
    exact hv.start, Bo, Same.refl _⟩ hw (fun cls d _ H => E cls d H) (takes_of rfl rfl rfl rfl) (fun ex cls d cs2 F' H' σ' mv kp r ep => ep cls d F' H' ⟨mv.ff, mv.fh, mv.fr, mv.kp, fun c hc => mv.cell c (kp c hc), hn, fun c hc => .inl ⟨c, hc, rfl⟩, mv.st⟩ r)
  refine PSs.ends ?_ ?_ ?_ ?_ hb
  · intro _ H' ⟨r, F', m, t, q⟩
    exact q .non F' H' m t
  · intro v H' ⟨r, F', m, t, q⟩
    exact q v F' H' m t
  · exact fun _ _ z => z
  · exact fun _ _ z => z
/-- the condition -/
theorem SK.vc {X : Cx} {B : Hb X.K} {Y : Ec X.K} {st : List Stmt} {ρ : List (Slot X.K)} {cs : List (Cell X.K)} {D : Ends} {φ ψ : Prop} {fl : Hp} (h : SK X B Y fl st ρ cs D φ) (v : ψ → φ) : SK X B Y fl st ρ cs D ψ := fun F σ H ok p => h F σ H ok (v p)
end
/-! ### calls -/
section
variable {X : Cx} {Y : Ec X.K} {ρ : List (Slot X.K)} {cs : List (Cell X.K)} {A R α γ μ : Type} {pos : Pos}
/-- a pure function's call -/
theorem pk_call {k : Nat} {f : Addr} {fd : FuncData} {ps : List Str} {nm : Str} {p : Pos} {e : Expr} {es : List Expr} {ins : A → List (Slot X.K)} {T : Ty X.K γ} {pre : A → Prop} {g : A → γ} {β : Type} {Ts : Tys X.K β} {x : β} {Pa : Prop} (a : A)
    (F : FnOk X.prog X.w X.K X.mg X.base (L2.CX X.prog X.w) k f fd ps (Con.fn ins T pre g).sp) (hr : Room k X.A) (hm : X.mg nm = some (.ref f)) (hk : PySem.W.keepIn X.K (.ref f) = true) (hb : Binds X.K fd ps [])
    (ha : PAK X (e :: es) ρ cs Ts x Pa) (hi : ∀ F vs, Ts.rep F vs x → Prd (fun s v => Slot.ok F s (some v)) (ins a) vs) (hg : Gl X nm := by rfl)
    (hdb : (nm == ("__debug__" : Str)) = false := by decide) (he : starEach (e :: es) X.env = (false, eval e X.env) :: starEach es X.env := by rfl) (hpl : (backTo pos (starEach es X.env)).any (·.1) = false := by rfl) :
    PK X (.Call (.Name nm p) (e :: es) [] pos) ρ cs T (g a) (Pa ∧ pre a) := fun F0 σ H ok q Q kk => by
  refine we (pe_call F hr hg hm hk hb .nil (E := E0) (passL) pa_w hdb he hpl) ?_
  refine ha F0 σ H ok q.1 _ fun vs F1 H1 g1 r1 => ?_
  refine ⟨a, F1, by rw [List.append_nil]; exact hi F1 vs r1, g1.fh, fun c hc => absurd hc (by simp [Con.fn]), by simp [Con.fn], q.2, fun r er v F2 H2 m rr => ?_⟩
  subst er
  exact kk v F2 H2 (g1.trans ⟨m.ff, m.fh, fun b o e => m.kp b o e fun c hc => absurd hc (by simp [Con.fn]), m.fr⟩) rr
end
end MD
namespace MD
open PySem PySem.Spec PyProof.Rows L2
/-! ### statements -/
section
variable {X : Cx} {fl : Hp} {B : Hb X.K} {Y : Ec X.K} {ρ : List (Slot X.K)} {cs : List (Cell X.K)} {α β γ μ : Type} {pos : Pos} {rest : List Stmt} {D : Ends} {e : Expr}
/-- the exceptions' wish within -/
theorem xh_of {F H : Hp} {σ : L2.St} {W : WX} (ok : Ok B fl ρ cs F σ H) (tk : Takes X W) (hx : ∀ ex cls d cs2 F' H' σ', Mv B.cin B.F0 B.H0 cs2 F' H' → (∀ c ∈ Y.kp, c ∈ cs2) → ExnRep F' ex cls d → Y.ε ex → W cls d σ' H') : Xh X Y cs F σ H :=
  ⟨W, tk, fun ex cls d cs2 F' H' m kp r ep => hx ex cls d cs2 F' H' σ (ok.mv.trans m) kp r ep⟩
theorem sk_set {i : Nat} {nm : Str} {pos' : Pos} {T : Ty X.K α} {x : α} {P : Prop} {φ : α → Prop} (hN : X.N.Nodup) (he : PK X e ρ cs T x P) (k : ∀ z, SK X B Y fl rest (ρ.set i (.val T z)) cs D (φ z)) (hi : X.N[i]? = some nm := by rfl) (hx : Loc X.env.scope nm := by first | exact Or.inl rfl | exact Or.inr rfl)
    (hs : swapsWith e (some (.Name nm pos')) pos.line X.env = pure false := by rfl) (hf : X.fn nm = true ∨ X.env.scope.names.lookup nm = some .local := by first | exact .inl rfl | exact .inr rfl) :
    SK X B Y fl (.Assign [.Name nm pos'] e pos :: rest) ρ cs D (P ∧ ∀ z, z = x → φ z) := fun F σ H ok p W tk hx' => by
  refine wb (pss_cons (ps_set hN hi hx pe_w hs hf) pss_w) ?_
  refine he F σ H ok.c.w p.1 _ fun v F' H' g r => ?_
  have ok1 := ok.to (ok.c.grow g)
  exact k x F' _ H' (ok1.set i r) (p.2 x rfl) W tk hx'
theorem sk_setE {i : Nat} {nm : Str} {pos' : Pos} {T : Ty X.K α} {vl : μ → α} {cs' : μ → List (Cell X.K)} {M : (μ → Prop) → Prop} {φ : μ → α → Prop} (hN : X.N.Nodup) (he : EK X Y e ρ cs T vl cs' M) (k : ∀ y z, SK X B Y fl rest (ρ.set i (.val T z)) (cs' y) D (φ y z)) (hi : X.N[i]? = some nm := by rfl)
    (hx : Loc X.env.scope nm := by first | exact Or.inl rfl | exact Or.inr rfl)
    (hs : swapsWith e (some (.Name nm pos')) pos.line X.env = pure false := by rfl) (hf : X.fn nm = true ∨ X.env.scope.names.lookup nm = some .local := by first | exact .inl rfl | exact .inr rfl) :
    SK X B Y fl (.Assign [.Name nm pos'] e pos :: rest) ρ cs D (M fun y => ∀ z, z = vl y → φ y z) := fun F σ H ok p W tk hx' => by
  refine wb (pss_cons (ps_set hN hi hx pe_w hs hf) pss_w) ?_
  refine he F σ H ok.c (xh_of ok tk hx') _ p _ fun y v F' H' m r q => ?_
  exact k y (vl y) F' _ H' ((ok.to m).set i r) (q _ rfl) W tk hx'
theorem sk_expr {T : Ty X.K α} {vl : μ → α} {cs' : μ → List (Cell X.K)} {M : (μ → Prop) → Prop} {φ : μ → Prop} (he : EK X Y e ρ cs T vl cs' M) (k : ∀ y, SK X B Y fl rest ρ (cs' y) D (φ y)) (hs : swapsWith e none pos.line X.env = pure false := by rfl) :
    SK X B Y fl (.Expr e pos :: rest) ρ cs D (M φ) := fun F σ H ok p W tk hx' => by
  refine wb (pss_cons (ps_expr pe_w hs) pss_w) ?_
  refine he F σ H ok.c (xh_of ok tk hx') _ p _ fun y v F' H' m r q => ?_
  exact k y F' _ H' (ok.to m) q W tk hx'
/-- one statement -/
def SK1 (X : Cx) (B : Hb X.K) (Y : Ec X.K) (fl : Hp) (st : Stmt) (ρ : List (Slot X.K)) (cs : List (Cell X.K)) (D : Ends) (φ : Prop) : Prop :=
  ∀ F σ H, Ok B fl ρ cs F σ H → φ → ∀ W, Takes X W → (∀ ex cls d cs2 F' H' σ', Mv B.cin B.F0 B.H0 cs2 F' H' → (∀ c ∈ Y.kp, c ∈ cs2) → ExnRep F' ex cls d → Y.ε ex → W cls d σ' H') → WS X st D σ H
/-- the rest behind each end -/
theorem sk_seq {st : Stmt} {φ : Prop} (h : SK1 X B Y fl st ρ cs { D with nx := WB X rest D } φ) : SK X B Y fl (st :: rest) ρ cs D φ := fun F σ H ok p W tk hx' => wb (pss_cons ps_w pss_w) (h F σ H ok p W tk hx')
theorem sk_if1 {c : Expr} {a b : List Stmt} {bv : Bool} {P φ1 φ2 : Prop} (hc : PTK X c ρ cs bv P) (ha : SK X B Y fl a ρ cs D φ1) (hb : SK X B Y fl b ρ cs D φ2) :
    SK1 X B Y fl (.If c a b pos) ρ cs D (P ∧ (bv = true → φ1) ∧ (bv = false → φ2)) := fun F σ H ok p W tk hx' => by
  refine ws (ps_if pt_w pss_w pss_w) ?_
  refine hc F σ H ok.c.w p.1 _ fun F' H' g => ?_
  have ok1 := ok.to (ok.c.grow g)
  cases bv with
  | true => exact (if_pos rfl).mpr (ha F' σ H' ok1 (p.2.1 rfl) W tk hx')
  | false => exact (if_neg Bool.false_ne_true).mpr (hb F' σ H' ok1 (p.2.2 rfl) W tk hx')
theorem sk_if1E {c : Expr} {a b : List Stmt} {vl : μ → Bool} {cs' : μ → List (Cell X.K)} {M : (μ → Prop) → Prop} {φ1 φ2 : μ → Prop} (hc : TK X Y c ρ cs vl cs' M) (ha : ∀ y, SK X B Y fl a ρ (cs' y) D (φ1 y)) (hb : ∀ y, SK X B Y fl b ρ (cs' y) D (φ2 y)) :
    SK1 X B Y fl (.If c a b pos) ρ cs D (M fun y => (vl y = true → φ1 y) ∧ (vl y = false → φ2 y)) := fun F σ H ok p W tk hx' => by
  refine ws (ps_if pt_w pss_w pss_w) ?_
  refine hc F σ H ok.c (xh_of ok tk hx') _ p _ fun y F' H' m q => ?_
  have ok1 := ok.to m
  cases hv : vl y with
  | true => exact (if_pos rfl).mpr (ha y F' σ H' ok1 (q.1 hv) W tk hx')
  | false => exact (if_neg Bool.false_ne_true).mpr (hb y F' σ H' ok1 (q.2 hv) W tk hx')
/-- one state may stand for another -/
inductive Le {K : PySem.W.Frag} : List (Slot K) → List (Slot K) → Prop
  | nil : Le [] []
  | same {s : Slot K} {a b : List (Slot K)} : Le a b → Le (s :: a) (s :: b)
  | un {s : Slot K} {a b : List (Slot K)} : Le a b → Le (s :: a) (.un :: b)
theorem Le.refl {K : PySem.W.Frag} : ∀ a : List (Slot K), Le a a
  | [] => .nil
  | _ :: a => .same (Le.refl a)
theorem Le.env {K : PySem.W.Frag} {F : Hp} : ∀ {a b : List (Slot K)} {σ : L2.St}, Le a b → Prd (Slot.ok F) a σ → Prd (Slot.ok F) b σ
  | _, _, _, .nil, .nil => .nil
  | _, _, _, .same t, .cons r q => .cons r (Le.env t q)
  | _, _, _, .un t, .cons _ q => .cons trivial (Le.env t q)
/-- a state of that form, of which R holds -/
def Mid {K : PySem.W.Frag} (B : Hb K) (fl : Hp) (ρ' : β → List (Slot K)) (cs' : β → List (Cell K)) (R : β → Prop) : L2.St → Hp → Prop := fun σ H => ∃ z F, Ok B fl (ρ' z) (cs' z) F σ H ∧ R z
/-- a statement whose ends meet in one form -/
theorem sk_join {st : Stmt} (ρ' : β → List (Slot X.K)) (cs' : β → List (Cell X.K)) {ψ : (β → Prop) → Prop} {φ : β → Prop} (h : ∀ R, SK1 X B Y fl st ρ cs { D with nx := Mid B fl ρ' cs' R } (ψ R)) (k : ∀ z, SK X B Y fl rest (ρ' z) (cs' z) D (φ z)) :
    SK X B Y fl (st :: rest) ρ cs D (∃ R, ψ R ∧ ∀ z, R z → φ z) := fun F σ H ok p W tk hx' => by
  obtain ⟨R, p1, p2⟩ := p
  have q := h R F σ H ok p1 W tk hx'
  refine fun pins s I => ?_
  refine wpAny_execs_cons (thn (q pins s I) fun f s1 q3 => ?_)
  cases f with
  | next =>
    obtain ⟨σ', H', I', z, F', ok', r⟩ := q3
    exact k z F' σ' H' ok' (p2 z r) W tk hx' pins s1 I'
  | ret v => exact q3
  | brk => exact q3
  | cont => exact q3
/-- return -/
theorem sk_ret {A R : Type} {C : Con X.K A R γ} {a : A} {ψ : R → Prop} {n b' c' : L2.St → Hp → Prop} {x : γ} {P : Prop} {r : List Stmt} (q : R) (he : PK X e ρ cs C.T x P) (hv : C.rv q = x) (hc : C.cout a q = cs) :
    SK X B Y fl (.Return (some e) pos :: r) ρ cs { retD C a B ψ with nx := n, bk := b', ct := c' } (P ∧ ψ q) := fun F σ H ok p W tk hx' => by
  refine wb (pss_cons (ps_ret pe_w) pss_w) ?_
  refine he F σ H ok.c.w p.1 _ fun v F' H' g t => ?_
  have ok1 := ok.to (ok.c.grow g)
  subst hv
  exact ⟨q, F', by rw [hc]; exact ok1.mv, t, p.2⟩
theorem sk_retE {A R : Type} {C : Con X.K A R γ} {a : A} {ψ : R → Prop} {n b' c' : L2.St → Hp → Prop} {vl : μ → γ} {cs' : μ → List (Cell X.K)} {M : (μ → Prop) → Prop} {r : List Stmt} (q : μ → R) (he : EK X Y e ρ cs C.T vl cs' M) (hv : ∀ y, C.rv (q y) = vl y) (hc : ∀ y, C.cout a (q y) = cs' y) :
    SK X B Y fl (.Return (some e) pos :: r) ρ cs { retD C a B ψ with nx := n, bk := b', ct := c' } (M fun y => ψ (q y)) := fun F σ H ok p W tk hx' => by
  refine wb (pss_cons (ps_ret pe_w) pss_w) ?_
  refine he F σ H ok.c (xh_of ok tk hx') _ p _ fun y v F' H' m t h => ?_
  have ok1 := ok.to m
  refine ⟨q y, F', by rw [hc]; exact ok1.mv, ?_, h⟩
  rw [hv]
  exact t
/-! ### owned lists -/
theorem mv_upd {F H : Hp} {j : Nat} {l : Addr} {k0 k : CK X.K} {o : HO} (ok : Okc ρ cs F σ H) (hc : cs[j]? = some ⟨l, k0⟩) (hr : k.rep F o) : Mv cs F H (cs.set j ⟨l, k⟩) F (upd H l o) := by
  have hj : j < cs.length := (List.getElem?_eq_some_iff.mp hc).1
  have hm : ⟨l, k0⟩ ∈ cs := List.mem_of_getElem? hc
  have hFl := (ok.cell _ hm).1
  have map_eq : (cs.set j ⟨l, k⟩).map Cell.a = cs.map Cell.a := by
    rw [List.map_set]
    apply List.ext_getElem?
    intro n
    by_cases hn : j = n
    · subst hn
      rw [List.getElem?_set_self (by simpa using hj), List.getElem?_map, hc]
      rfl
    · rw [List.getElem?_set_ne hn]
  have others : ∀ (n : Nat) (c : Cell X.K), n ≠ j → cs[n]? = some c → c.a ≠ l := fun n c hn e z => by
    have nd := ok.nd
    have e1 : (cs.map Cell.a)[n]? = some l := by rw [List.getElem?_map, e]; exact congrArg some z
    have e2 : (cs.map Cell.a)[j]? = some l := by rw [List.getElem?_map, hc]; rfl
    obtain ⟨h1, q1⟩ := List.getElem?_eq_some_iff.mp e1
    obtain ⟨h2, q2⟩ := List.getElem?_eq_some_iff.mp e2
    exact hn ((List.getElem_inj nd).mp (q1.trans q2.symm))
  refine ⟨Same.refl F, fun b u e => ?_, fun b h1 h2 => absurd h1 h2, fun b u e n => ?_, fun c hcm => ?_, by rw [map_eq]; exact ok.nd, fun c hcm => ?_, fun c hcm z => ?_⟩
  · have : b ≠ l := fun z => by rw [z, hFl] at e; cases e
    rw [upd_ne this]; exact ok.same _ _ e
  · have : b ≠ l := fun z => n _ hm z.symm
    rw [upd_ne this]; exact e
  · obtain ⟨n, e⟩ := List.getElem?_of_mem hcm
    by_cases hn : n = j
    · subst hn
      rw [List.getElem?_set_self hj] at e
      cases e
      exact ⟨hFl, o, upd_same, hr⟩
    · rw [List.getElem?_set_ne (Ne.symm hn)] at e
      obtain ⟨n1, u, e1, r1⟩ := ok.cell c (List.mem_of_getElem? e)
      exact ⟨n1, u, by rw [upd_ne (others n c hn e)]; exact e1, r1⟩
  · obtain ⟨n, e⟩ := List.getElem?_of_mem hcm
    by_cases hn : n = j
    · subst hn
      rw [List.getElem?_set_self hj] at e
      cases e
      exact .inl ⟨_, hm, rfl⟩
    · rw [List.getElem?_set_ne (Ne.symm hn)] at e
      exact .inl ⟨c, List.mem_of_getElem? e, rfl⟩
  · by_cases hl : c.a = l
    · rw [hl, upd_same] at z; cases z
    · rw [upd_ne hl] at z
      obtain ⟨_, u, e1, _⟩ := ok.cell c hcm
      rw [e1] at z; cases z
theorem Rl.set {K : PySem.W.Frag} {T : Ty K α} {F : Hp} {v : V} {x : α} : ∀ {vs : List V} {xs : List α} {i : Nat}, Rl T F vs xs → T.rep F v x → Rl T F (vs.set i v) (xs.set i x)
  | _, _, _, .nil, _ => .nil
  | _, _, 0, .cons _ t, h => .cons h t
  | _, _, i + 1, .cons r t, h => .cons r (Rl.set (i := i) t h)
theorem Rl.append {K : PySem.W.Frag} {T : Ty K α} {F : Hp} : ∀ {vs ws : List V} {xs ys : List α}, Rl T F vs xs → Rl T F ws ys → Rl T F (vs ++ ws) (xs ++ ys)
  | _, _, _, _, .nil, h => h
  | _, _, _, _, .cons r t, h => .cons r (Rl.append t h)
def IxW (xs : List α) (i : Int) : Prop := 0 ≤ i ∧ i < xs.length
/-- l[i] = e, l an owned list, i a place -/
theorem sk_setIx {o ie : Expr} {T : Ty X.K α} {vl : μ → α} {cs' : μ → List (Cell X.K)} {M : (μ → Prop) → Prop} {l : Addr} {xs : μ → List α} {i : μ → Int} {P1 P2 : μ → Prop} {φ : μ → List α → Prop} {p1 : Pos} (j : Nat) (he : EK X Y e ρ cs T vl cs' M) (ho : ∀ y, PK X o ρ (cs' y) tR l (P1 y))
    (hi : ∀ y, PK X ie ρ (cs' y) tI (i y) (P2 y)) (hc : ∀ y, (cs' y)[j]? = some ⟨l, cL T (xs y)⟩) (k : ∀ y z, SK X B Y fl rest ρ ((cs' y).set j ⟨l, cL T z⟩) D (φ y z))
    (ha : ∀ v, assign (.Subscript o ie p1) X.env v = (do
      let ov ← holding [v] (eval o X.env)
      let iv ← holding [v, ov] (eval ie X.env)
      standAt p1
      holding [v, ov, iv] (setItem ov iv v)
      release [v, ov, iv] []) := by intro _; rfl) (hs : swapsWithSole [.Subscript o ie p1] e pos.line X.env = pure false := by rfl) (hw : swappedStores [.Subscript o ie p1] e X.env = pure none := by rfl)
    (h1 : (assignEach [.Subscript o ie p1] X.env).map (·.2) = [assign (.Subscript o ie p1) X.env] := by rfl) :
    SK X B Y fl (.Assign [.Subscript o ie p1] e pos :: rest) ρ cs D (M fun y => P1 y ∧ P2 y ∧ IxW (xs y) (i y) ∧ ∀ z, z = (xs y).set (i y).toNat (vl y) → φ y z) := fun F σ H ok p W tk hx' => by
  refine wb (pss_cons (ps_asg pe_w (pg_sub pe_w pe_w set_list ha) hs hw h1) pss_w) ?_
  refine he F σ H ok.c (xh_of ok tk hx') _ p _ fun y v F1 H1 m t q => ?_
  have ok1 := ok.to m
  refine ho y F1 σ H1 ok1.c.w q.1 _ fun v2 F2 H2 g2 r2 => ?_
  have ok2 := ok1.to (ok1.c.grow g2)
  refine hi y F2 σ H2 ok2.c.w q.2.1 _ fun v3 F3 H3 g3 r3 => ?_
  have ok3 := ok2.to (ok2.c.grow g3)
  obtain ⟨_, ob, hob, vs, e1, rl, z⟩ := ok3.c.cell _ (List.mem_of_getElem? (hc y))
  subst e1
  have hix : ixN vs.length (i y) = some (i y).toNat := by
    unfold ixN
    rw [if_pos q.2.2.1.1, if_pos (by rw [Rl.length rl]; exact q.2.2.1.2)]
  refine ⟨l, vs, i y, (i y).toNat, r2, r3, hob, hix, ?_⟩
  exact k y _ F3 σ _ (ok3.to (mv_upd (k := cL T ((xs y).set (i y).toNat (vl y))) ok3.c (hc y) ⟨_, rfl, Rl.set rl (T.mono (g2.ff.trans g3.ff) t), by rw [List.length_set]; exact z⟩)) (q.2.2.2 _ rfl) W tk hx'
/-- a method of an owned list: what it asks, what it leaves, what it gives -/
def MLK {K : PySem.W.Frag} (r : V → List V → Hp → VK → Prop) (T : Ty K α) (Ts : Tys K β) (U : Ty K γ) (C : List α → β → Prop) (f : List α → β → List α) (g : List α → β → γ) : Prop :=
  ∀ F H l vs ws x y, Same F H → H l = some (.lst vs) → Rl T F vs x → vs.length ≤ sizeLine → Ts.rep F ws y → C x y → ∀ Q : VK, (∀ v vs', Rl T F vs' (f x y) → vs'.length ≤ sizeLine → U.rep F v (g x y) → Q v (upd H l (.lst vs'))) → r (.ref l) ws H Q
theorem ek_mL {o : Expr} {es : List Expr} {name : Str} {id : String} {r : V → List V → Hp → VK → Prop} {T : Ty X.K α} {Ts : Tys X.K β} {U : Ty X.K γ} {C : List α → β → Prop} {f : List α → β → List α} {g : List α → β → γ} {vl : μ → β} {cs' : μ → List (Cell X.K)} {M : (μ → Prop) → Prop} {l : Addr} {xs : μ → List α} {P1 : Prop} {apos cpos : Pos}
    (slot : PySem.Slot "list" name id) (hty : typeOf (.builtin id) = pure (.type "method_descriptor")) (hm : MtR X id r) (hr : MLK r T Ts U C f g) (j : Nat) (ho : PK X o ρ cs tR l P1) (he : AK X Y (e :: es) ρ cs Ts vl cs' M)
    (hc : ∀ y, (cs' y)[j]? = some ⟨l, cL T (xs y)⟩) (hc0 : ∃ x0, cs[j]? = some ⟨l, cL T x0⟩)
    (hbase : attributeBase o name X.env (eval o X.env) = eval o X.env := by rfl)
    (hfew : ((backTo cpos (starEach (e :: es) X.env)).all (fun x => !x.1) && (backToKw cpos (keywordEach [] X.env)).all (fun x => x.1.isSome)
      && decide ((e :: es).length + ([] : List Keyword).length + (if ([] : List Keyword).isEmpty then 0 else 1) < 30)) = true := by rfl)
    (hline : (apos.endLine == cpos.line) = true := by rfl) (hs : starEach (e :: es) X.env = (false, eval e X.env) :: starEach es X.env := by rfl) (hplain : (backTo cpos (starEach es X.env)).any (·.1) = false := by rfl) :
    EK X Y (.Call (.Attribute o name apos) (e :: es) [] cpos) ρ cs U (fun y : μ × List α => g (xs y.1) (vl y.1)) (fun y => (cs' y.1).set j ⟨l, cL T y.2⟩) (fun φ => P1 ∧ M fun y => C (xs y) (vl y) ∧ ∀ z, z = f (xs y) (vl y) → φ (y, z)) := fun F σ H ok xh φ p Q k => by
  refine we (pe_bm PySem.F.plainAttrs_list slot hty hm pe_w pa_w hbase hfew hline hs hplain) ?_
  refine ho F σ H ok.w p.1 _ fun v0 F0 H0 g0 r0 => ?_
  have m0 := ok.grow g0
  have ok0 := ok.mv m0
  obtain ⟨x0, hc0⟩ := hc0
  obtain ⟨_, ob0, hob0, vs0, e0, _, _⟩ := ok0.cell _ (List.mem_of_getElem? hc0)
  subst e0
  cases r0
  refine ⟨.inl ⟨rfl, _, SqL.of hob0⟩, ?_⟩
  refine he F0 σ H0 ok0 (xh.mv m0) _ p.2 _ fun y ws F1 H1 m t q => ?_
  have ok1 := ok0.mv m
  obtain ⟨_, ob, hob, vs, e1, rl, z⟩ := ok1.cell _ (List.mem_of_getElem? (hc y))
  subst e1
  refine hr F1 H1 l vs ws (xs y) (vl y) m.fh hob rl z t q.1 Q fun v vs' rl' z' u => ?_
  exact k (y, f (xs y) (vl y)) v F1 _ ((m0.trans m).trans (mv_upd (k := cL T (f (xs y) (vl y))) ok1 (hc y) ⟨_, rfl, rl', z'⟩)) u (q.2 _ rfl)
theorem ml_append {K : PySem.W.Frag} {T : Ty K α} : MLK rAppend T (ts1 T) tN (fun xs _ => xs.length < sizeLine) (fun xs x => xs ++ [x]) (fun _ _ => ()) := fun F H l vs ws x y s h rl z ⟨w, e, t⟩ c Q k => by
  subst e
  exact ⟨l, vs, w, rfl, rfl, h, by rw [Rl.length rl]; exact c, k _ _ (Rl.append rl (.cons t .nil)) (by rw [List.length_append, List.length_singleton, Rl.length rl]; exact c) rfl⟩
end
end MD
namespace MD
open PySem PySem.Spec PyProof.Rows L2
section
variable {X : Cx} {fl : Hp} {B : Hb X.K} {Y : Ec X.K} {ρ : List (Slot X.K)} {cs : List (Cell X.K)} {α β γ μ : Type} {pos : Pos} {rest : List Stmt} {D : Ends} {e : Expr}
/-! ### targets -/
/-- a value x of type T goes to a target: G, what the names hold behind it; vs, the places that it may change -/
def GK (X : Cx) (tg : Expr) (T : Ty X.K α) (G : List (Slot X.K) → α → List (Slot X.K)) (vs : List Nat) : Prop :=
  ∀ F σ H v x ρ, Prd (Slot.ok F) ρ σ → Same F H → T.rep F v x → ∀ Q : L2.St → Hp → Prop, (∀ σ', Prd (Slot.ok F) (G ρ x) σ' → (∀ ws : List Nat, (∀ j ∈ vs, j ∈ ws) → wipe σ' ws = wipe σ ws) → Q σ' H) → WG X tg v σ H Q
def GsK (X : Cx) (tgs : List Expr) (T : Tys X.K α) (G : List (Slot X.K) → α → List (Slot X.K)) (vs : List Nat) : Prop :=
  ∀ F σ H us x ρ, Prd (Slot.ok F) ρ σ → Same F H → T.rep F us x → ∀ Q : L2.St → Hp → Prop, (∀ σ', Prd (Slot.ok F) (G ρ x) σ' → (∀ ws : List Nat, (∀ j ∈ vs, j ∈ ws) → wipe σ' ws = wipe σ ws) → Q σ' H) → WGs X tgs us σ H Q
theorem set_none_comm {σ : L2.St} {o : Option V} (i j : Nat) : (σ.set i o).set j none = if i = j then σ.set j none else (σ.set j none).set i o := by
  by_cases h : i = j
  · subst h; rw [if_pos rfl, List.set_set]
  · rw [if_neg h, List.set_comm _ _ h]
theorem wipe_set {o : Option V} {i : Nat} : ∀ (ws : List Nat) (σ : L2.St), i ∈ ws → wipe (σ.set i o) ws = wipe σ ws
  | [], _, h => absurd h (by simp)
  | j :: ws, σ, h => by
    have key : ∀ (ws : List Nat) (σ : L2.St), wipe (σ.set i o) ws = if i ∈ ws then wipe σ ws else (wipe σ ws).set i o := by
      intro ws
      induction ws with
      | nil => intro σ; simp [wipe]
      | cons j ws ih =>
        intro σ
        show (wipe (σ.set i o) ws).set j none = if i ∈ j :: ws then (wipe σ ws).set j none else ((wipe σ ws).set j none).set i o
        rw [ih σ]
        by_cases hm : i ∈ ws
        · rw [if_pos hm, if_pos (List.mem_cons_of_mem _ hm)]
        · rw [if_neg hm, set_none_comm]
          by_cases hij : i = j
          · rw [if_pos hij, if_pos (by rw [hij]; exact List.mem_cons_self)]
          · rw [if_neg hij, if_neg (by simp only [List.mem_cons, not_or]; exact ⟨hij, hm⟩)]
    rw [key, if_pos h]
theorem gk_name {T : Ty X.K α} {i : Nat} {nm : Str} (hN : X.N.Nodup) (hi : X.N[i]? = some nm := by rfl) (hx : Loc X.env.scope nm := by first | exact Or.inl rfl | exact Or.inr rfl) (hf : X.fn nm = true ∨ X.env.scope.names.lookup nm = some .local := by first | exact .inl rfl | exact .inr rfl) :
    GK X (.Name nm pos) T (fun ρ x => ρ.set i (.val T x)) [i] := fun F σ H v x ρ hρ hs r Q k => by
  refine wg (pg_name hN hi hx hf) ?_
  exact k _ (hρ.set (R := Slot.ok F) (x := .val T x) (u := some v) ⟨v, rfl, r⟩ i) fun ws hw => wipe_set ws σ (hw i (by simp))
theorem gs_C {t : Expr} {ts : List Expr} {T : Ty X.K α} {Ts : Tys X.K β} {G1 : List (Slot X.K) → α → List (Slot X.K)} {G2 : List (Slot X.K) → β → List (Slot X.K)} {v1 v2 : List Nat} (h1 : GK X t T G1 v1) (h2 : GsK X ts Ts G2 v2)
    (hs : (assignEach (t :: ts) X.env).map (·.2) = assign t X.env :: (assignEach ts X.env).map (·.2) := by rfl) : GsK X (t :: ts) (tsC T Ts) (fun ρ x => G2 (G1 ρ x.1) x.2) (v1 ++ v2) := fun F σ H us x ρ hρ hs' ⟨v, r, e, ra, rb⟩ Q k => by
  subst e
  refine wgs (pgs_cons pg_w pgs_w hs) ⟨v, r, rfl, ?_⟩
  refine h1 F σ H v x.1 ρ hρ hs' ra _ fun σ1 hρ1 w1 => ?_
  exact h2 F σ1 H r x.2 _ hρ1 hs' rb Q fun σ2 hρ2 w2 => k σ2 hρ2 fun ws hw => (w2 ws fun j hj => hw j (List.mem_append_right _ hj)).trans (w1 ws fun j hj => hw j (List.mem_append_left _ hj))
theorem gs_1 {t : Expr} {T : Ty X.K α} {G1 : List (Slot X.K) → α → List (Slot X.K)} {v1 : List Nat} (h1 : GK X t T G1 v1)
    (hs : (assignEach (t :: []) X.env).map (·.2) = assign t X.env :: (assignEach [] X.env).map (·.2) := by rfl) : GsK X [t] (ts1 T) G1 v1 := fun F σ H us x ρ hρ hs' ⟨v, e, ra⟩ Q k => by
  subst e
  refine wgs (pgs_cons pg_w pgs_nil hs) ⟨v, [], rfl, ?_⟩
  exact h1 F σ H v x ρ hρ hs' ra _ fun σ1 hρ1 w1 => ⟨rfl, k σ1 hρ1 w1⟩
theorem gk_tup {tgs : List Expr} {k0 : Nat} {Ts : Tys X.K α} {G : List (Slot X.K) → α → List (Slot X.K)} {vs : List Nat} {n : Nat} (hc : X.calm = true) (h : GsK X tgs Ts G vs) (hl : ∀ F us x, Ts.rep F us x → us.length = n)
    (hn : (assignEach tgs X.env).length = n := by rfl) (hst : (assignEach tgs X.env).findIdx? (·.1) = none := by rfl) : GK X (.Tuple tgs k0 pos) (tT Ts) G vs := fun F σ H v x ρ hρ hs ⟨a, us, e, hq, r⟩ Q k => by
  subst e
  refine wg (pg_tup hc pgs_w hn hst) ?_
  exact ⟨a, us, rfl, SqT.of (hs _ _ hq), hl F us x r, h F σ H us x ρ hρ hs r Q k⟩
theorem tl1 {K : PySem.W.Frag} {T : Ty K α} : ∀ F us (x : α), (ts1 T).rep F us x → us.length = 1 := fun F us x ⟨v, e, _⟩ => by subst e; rfl
theorem tlC {K : PySem.W.Frag} {T : Ty K α} {Ts : Tys K β} {n : Nat} (h : ∀ F us (x : β), Ts.rep F us x → us.length = n) : ∀ F us (x : α × β), (tsC T Ts).rep F us x → us.length = n + 1 := fun F us x ⟨v, r, e, _, q⟩ => by subst e; rw [List.length_cons, h F r x.2 q]
/-! ### what is walked -/
def ItOk {K : PySem.W.Frag} (T : Ty K α) (J : It) (F : Hp) (xs : List α) : Prop := ∀ (i : Nat) F1 H1, Same F F1 → Same F1 H1 →
  (∀ x, xs[i]? = some x → J.go i H1 ∧ ∀ v H2, J.yld i H1 v H2 → ∃ F2, Grow F1 H1 F2 H2 ∧ T.rep F2 v x) ∧ (xs.length ≤ i → J.stop i H1)
def IK (X : Cx) (tg iter : Expr) (ρ : List (Slot X.K)) (cs : List (Cell X.K)) (T : Ty X.K α) (xs : List α) (P : Prop) : Prop :=
  ∀ F σ H, Okw ρ cs F σ H → P → ∀ R : It → Hp → Prop, (∀ J F' H', Grow F H F' H' → ItOk T J F' xs → xs.length ≤ sizeLine → R J H') → WI X tg iter σ H R
theorem rl_get {K : PySem.W.Frag} {T : Ty K α} {F : Hp} : ∀ {vs : List V} {xs : List α} {i : Nat} {x : α}, Rl T F vs xs → xs[i]? = some x → ∃ v, vs[i]? = some v ∧ T.rep F v x
  | _, _, _, _, .nil, e => by simp at e
  | _, _, 0, _, .cons r _, e => by simp at e; subst e; exact ⟨_, rfl, r⟩
  | _, _, i + 1, x, .cons _ t, e => by
    obtain ⟨u, h1, h2⟩ := rl_get (i := i) (x := x) t (by simpa using e)
    exact ⟨u, by simpa using h1, h2⟩
/-- range(a), range(a, b) as lists -/
def rng (a b : Int) : List Int := (List.range (b - a).toNat).map fun (i : Nat) => a + (i : Int)
theorem rng_get {a b : Int} {i : Nat} {x : Int} (h : (rng a b)[i]? = some x) : x = a + i ∧ i < (b - a).toNat := by
  unfold rng at h
  rw [List.getElem?_map] at h
  by_cases hi : i < (b - a).toNat
  · rw [List.getElem?_range hi] at h
    exact ⟨(Option.some.inj h).symm, hi⟩
  · rw [List.getElem?_eq_none (by rw [List.length_range]; omega)] at h
    cases h
theorem rng_length {a b : Int} : (rng a b).length = (b - a).toNat := by unfold rng; rw [List.length_map, List.length_range]
theorem itr_ok {K : PySem.W.Frag} {F : Hp} {a b : Int} : ItOk (tI (K := K)) (Itr a (b - a).toNat) F (rng a b) := fun i F1 H1 e1 e2 => by
  refine ⟨fun x hx => ?_, fun hi => by rw [rng_length] at hi; exact hi⟩
  obtain ⟨e, hi⟩ := rng_get hx
  refine ⟨hi, fun v H2 ⟨eh, ev⟩ => ?_⟩
  subst eh
  exact ⟨F1, Grow.refl e2, by rw [ev, e]; rfl⟩
theorem ik_range1 {tg a : Expr} {x : Int} {P : Prop} {p : Pos} (hm : X.mg "range" = none) (h : PK X a ρ cs tI x P) (hg : Gl X "range" := by rfl) (hs : starEach [a] X.env = [(false, eval a X.env)] := by rfl) :
    IK X tg (.Call (.Name "range" p) [a] [] pos) ρ cs tI (rng 0 x) (P ∧ -(2 ^ 62) ≤ x ∧ x ≤ 16777216) := fun F σ H ok q R k => by
  refine wi (pi_range1 hg hm (pa_cons pe_w pa_nil hs) hs) ?_
  refine h F σ H ok q.1 _ fun v F1 H1 g r => ⟨x, by cases r; rfl, q.2.1, by have := q.2.2; omega, k _ F1 H1 g ?_ (by rw [rng_length, sizeLine_eq]; have := q.2.2; omega)⟩
  have := itr_ok (K := X.K) (F := F1) (a := 0) (b := x)
  rw [show (x - 0).toNat = x.toNat by rw [Int.sub_zero]] at this
  exact this
/-- the signs of a text -/
def signs (s : Str) : List Str := s.cps.toList.map fun c => ⟨#[c]⟩
theorem strOk_sign {x : Str} {c : Nat} (h : PySem.PyData.strOk x = true) (hc : c ∈ x.cps.toList) : PySem.PyData.strOk ⟨#[c]⟩ = true := by
  unfold PySem.PyData.strOk at *
  rw [← Array.all_toList] at *
  have := List.all_eq_true.mp h c hc
  simpa using this
theorem ik_str {tg : Expr} {x : Str} {P : Prop} (h : PK X e ρ cs tS x P) : IK X tg e ρ cs tS (signs x) (P ∧ x.length ≤ sizeLine) := fun F σ H ok p R k => by
  refine wi (pi_str pe_w) ?_
  refine h F σ H ok p.1 _ fun v F1 H1 g r => ⟨x, r.1, k _ F1 H1 g (fun i F2 H2 e1 e2 => ?_) (by unfold signs; rw [List.length_map, Array.length_toList]; exact p.2)⟩
  refine ⟨fun y hy => ?_, fun hi => by unfold signs at hi; rw [List.length_map, Array.length_toList] at hi; exact hi⟩
  unfold signs at hy
  rw [List.getElem?_map] at hy
  cases q : x.cps.toList[i]? with
  | none => rw [q] at hy; cases hy
  | some c =>
    rw [q] at hy
    have hc : x.cps[i]? = some c := by simpa using q
    refine ⟨(Array.getElem?_eq_some_iff.mp hc).1, fun v2 H3 ⟨eh, c', e', ev⟩ => ?_⟩
    subst eh
    rw [hc] at e'
    cases e'
    refine ⟨F2, Grow.refl e2, ?_⟩
    have ey : (⟨#[c]⟩ : Str) = y := Option.some.inj hy
    rw [← ey]
    exact ⟨ev, strOk_sign r.2 (List.mem_of_getElem? q)⟩
/-- with its number -/
def enumF (xs : List α) : List (Int × α) := (List.range xs.length).zip xs |>.map fun p => ((p.1 : Int), p.2)
theorem enumF_get {xs : List α} {i : Nat} {y : Int × α} (h : (enumF xs)[i]? = some y) : y.1 = i ∧ xs[i]? = some y.2 := by
  unfold enumF at h
  rw [List.getElem?_map] at h
  cases q : ((List.range xs.length).zip xs)[i]? with
  | none => rw [q] at h; cases h
  | some p =>
    rw [q] at h
    have e := Option.some.inj h
    rw [List.getElem?_zip_eq_some] at q
    obtain ⟨h1, h2⟩ := q
    have hi : i < xs.length := (List.getElem?_eq_some_iff.mp h2).1
    rw [List.getElem?_range hi] at h1
    have e1 := Option.some.inj h1
    subst e
    exact ⟨by show ((p.1 : Nat) : Int) = i; rw [← e1], h2⟩
theorem enumF_length {xs : List α} : (enumF xs).length = xs.length := by
  unfold enumF
  rw [List.length_map, List.length_zip, List.length_range, Nat.min_self]
theorem grow_tup2 {K : PySem.W.Frag} {T1 : Ty K α} {T2 : Ty K β} {F H : Hp} {p : Addr} {v w : V} {x : α} {y : β} (h : Same F H) (hp : H p = none) (r1 : T1.rep F v x) (r2 : T2.rep F w y) : Grow F H (upd F p (.tup [v, w])) (upd H p (.tup [v, w])) ∧ (tP T1 T2).rep (upd F p (.tup [v, w])) (.ref p) (x, y) :=
  let g := grow_new h hp (.tup [v, w])
  ⟨g, p, _, rfl, upd_same, v, _, rfl, T1.mono g.ff r1, w, rfl, T2.mono g.ff r2⟩
theorem ik_enum {a : Expr} {T : Ty X.K α} {xs : List α} {P : Prop} {p tpos : Pos} {elts : List Expr} {kk : Nat} (hm : X.mg "enumerate" = none) (h : PK X a ρ cs (tL T) xs P) (hg : Gl X "enumerate" := by rfl) (hs : starEach [a] X.env = [(false, eval a X.env)] := by rfl) :
    IK X (.Tuple elts kk tpos) (.Call (.Name "enumerate" p) [a] [] pos) ρ cs (tP tI T) (enumF xs) P := fun F σ H ok q R k => by
  refine wi (pi_enum hg hm (pa_cons pe_w pa_nil hs) hs) ?_
  refine h F σ H ok q _ fun v F1 H1 g ⟨a, vs, e1, hq, r, z⟩ => ⟨a, vs, by rw [e1], SqL.of (g.fh _ _ hq), k _ F1 H1 g (fun i F2 H2 e1 e2 => ?_) (by rw [enumF_length, ← Rl.length r]; exact z)⟩
  have hq2 := SqL.of (K := X.K) ((e1.trans e2) _ _ hq)
  refine ⟨fun y hy => ?_, fun hi => ⟨vs, hq2, by rw [Rl.length r]; rw [enumF_length] at hi; exact hi⟩⟩
  obtain ⟨hy1, hy2⟩ := enumF_get hy
  obtain ⟨v, hv, rv⟩ := rl_get r hy2
  refine ⟨⟨vs, v, hq2, hv⟩, fun v' H3 ⟨t, x', ev, hn, eh, hx⟩ => ?_⟩
  have := (hx vs hq2).symm.trans hv
  cases this
  subst ev; subst eh
  obtain ⟨g2, r2⟩ := grow_tup2 (T1 := tI (K := X.K)) (T2 := T) (x := y.1) (y := y.2) (v := .int (i : Nat)) e2 hn (by rw [hy1]; rfl) (T.mono e1 rv)
  exact ⟨_, g2, r2⟩
theorem zip_get {xs : List α} {ys : List β} {i : Nat} {z : α × β} (h : (xs.zip ys)[i]? = some z) : xs[i]? = some z.1 ∧ ys[i]? = some z.2 := List.getElem?_zip_eq_some.mp h
theorem ik_zipL {a b : Expr} {T : Ty X.K α} {U : Ty X.K β} {xs : List α} {ys : List β} {P1 P2 : Prop} {p tpos : Pos} {elts : List Expr} {kk : Nat} (hm : X.mg "zip" = none) (h1 : PK X a ρ cs (tL T) xs P1) (h2 : PK X b ρ cs (tL U) ys P2) (hg : Gl X "zip" := by rfl)
    (hs : starEach [a, b] X.env = (false, eval a X.env) :: starEach [b] X.env := by rfl) (hs2 : starEach [b] X.env = (false, eval b X.env) :: starEach [] X.env := by rfl) (hpl : (backTo pos (starEach [b] X.env)).any (·.1) = false := by rfl) :
    IK X (.Tuple elts kk tpos) (.Call (.Name "zip" p) [a, b] [] pos) ρ cs (tP T U) (xs.zip ys) (P1 ∧ P2) := fun F σ H ok q R k => by
  refine wi (pi_zip hg hm (pa_cons pe_w (pa_cons pe_w pa_nil hs2) hs) hs hpl) ?_
  refine h1 F σ H ok q.1 _ fun v F1 H1 g1 ⟨a1, vs, e1, hq1, r1, z1⟩ => ?_
  refine h2 F1 σ H1 (ok.grow g1) q.2 _ fun w F2 H2 g2 ⟨a2, ws, e2, hq2, r2, z2⟩ => ⟨a1, a2, vs, ws, by rw [e1, e2], SqL.of ((g2.ff.trans g2.fh) _ _ hq1), SqL.of (g2.fh _ _ hq2), k _ F2 H2 (g1.trans g2) (fun i F3 H3 e3 e4 => ?_) (by rw [List.length_zip]; have := Rl.length r1; omega)⟩
  have q1 := SqL.of (K := X.K) (((g2.ff.trans e3).trans e4) _ _ hq1)
  have q2 := SqL.of (K := X.K) ((e3.trans e4) _ _ hq2)
  refine ⟨fun z hz => ?_, fun hi => ⟨vs, ws, q1, q2, by rw [Rl.length r1, Rl.length r2]; rw [List.length_zip] at hi; omega⟩⟩
  obtain ⟨hx, hy⟩ := zip_get hz
  obtain ⟨v1, hv1, rv1⟩ := rl_get r1 hx
  obtain ⟨w1, hw1, rw1⟩ := rl_get r2 hy
  refine ⟨⟨vs, ws, v1, w1, q1, q2, hv1, hw1⟩, fun v' H4 ⟨t, x', y', ev, hn, eh, hx', hy'⟩ => ?_⟩
  have t1 := (hx' vs q1).symm.trans hv1
  have t2 := (hy' ws q2).symm.trans hw1
  cases t1; cases t2
  subst ev; subst eh
  obtain ⟨g3, r3⟩ := grow_tup2 (T1 := T) (T2 := U) (x := z.1) (y := z.2) e4 hn (T.mono (g2.ff.trans e3) rv1) (U.mono e3 rw1)
  exact ⟨_, g3, r3⟩
/-! ### loops -/
/-- for tg in iter: body; z: what a turn changes -/
theorem sk_for {tg iter : Expr} {body : List Stmt} {T : Ty X.K α} {xs : List α} {P : Prop} {G : List (Slot X.K) → α → List (Slot X.K)} {vs : List Nat} (ρ' : β → List (Slot X.K)) (cs' : β → List (Cell X.K)) (z0 : β) {φb : (β → Prop) → β → α → Prop} {φr : β → Prop}
    (hp : PassesOwn (model X.prog X.w) X.A X.env X.xe) (hc : X.calm = true) (hi : IK X tg iter ρ cs T xs P) (hg : GK X tg T G vs) (hle : Le ρ (ρ' z0)) (hcs : cs = cs' z0)
    (hb : ∀ (fl' : Hp), Same fl fl' → ∀ (N : β → Prop) z x, SK X B Y fl' body (G (ρ' z) x) (cs' z) { D with nx := Mid B fl' ρ' cs' N, ct := Mid B fl' ρ' cs' N, bk := WB X rest D } (φb N z x))
    (hr : ∀ z, SK X B Y fl rest (ρ' z) (cs' z) D (φr z)) (hfo : ∀ x, foldedSetIterable iter X.env x = pure x := by intro _; rfl) :
    SK X B Y fl (.For tg iter body [] pos :: rest) ρ cs D (P ∧ ∃ I : Nat → β → Prop, I 0 z0 ∧ (∀ i z x, xs[i]? = some x → I i z → φb (I (i + 1)) z x) ∧ ∀ z, I xs.length z → φr z) := fun F σ H ok p W tk hx' => by
  subst hcs
  obtain ⟨pP, I, i0, iS, iE⟩ := p
  refine wb (pss_cons (ps_for hp hc pi_w pg_w pss_w hfo) pss_w) ?_
  refine hi F σ H ok.c.w pP _ fun J F1 H1 g it _ => ?_
  have ok1 := ok.to (ok.c.grow g)
  refine ⟨fun i m σ H => m = xs.length - i ∧ i ≤ xs.length ∧ ∃ z F2, Ok B F1 (ρ' z) (cs' z) F2 σ H ∧ I i z, ⟨xs.length, by simp, Nat.zero_le _, z0, F1, ⟨hle.env ok1.env, ok1.mv, Same.refl _⟩, i0⟩, ?_⟩
  rintro i m σ2 H2 ⟨rfl, hil, z, F2, ok2, hI⟩
  obtain ⟨go, stop⟩ := it i F2 H2 ok2.flo ok2.mv.fh
  by_cases hlt : i < xs.length
  · obtain ⟨hgo, hy⟩ := go xs[i] (List.getElem?_eq_getElem hlt)
    refine .inr ⟨hgo, Mid B F1 ρ' cs' (I (i + 1)), fun σ' H' ⟨z', F3, ok3, h3⟩ => ⟨xs.length - (i + 1), by omega, rfl, hlt, z', F3, ok3, h3⟩, fun v H3 hv => ?_⟩
    obtain ⟨F3, g3, rv⟩ := hy v H3 hv
    have ok3 := ok2.to (ok2.c.grow g3)
    refine hg F3 σ2 H3 v xs[i] (ρ' z) ok3.env ok3.mv.fh rv _ fun σ4 hρ4 _ => ?_
    exact hb F1 ok1.flo (I (i + 1)) z xs[i] F3 σ4 H3 ⟨hρ4, ok3.mv, ok3.flo⟩ (iS i z xs[i] (List.getElem?_eq_getElem hlt) hI) W tk hx'
  · exact .inl ⟨stop (by omega), hr z F2 σ2 H2 (ok2.low ok1.flo) (iE z (by rw [show xs.length = i by omega]; exact hI)) W tk hx'⟩
end
end MD
namespace MD
open PySem PySem.Spec PyProof.Rows L2
section
variable {X : Cx} {fl : Hp} {B : Hb X.K} {Y : Ec X.K} {ρ : List (Slot X.K)} {cs : List (Cell X.K)} {α β γ μ ν : Type} {pos : Pos} {rest : List Stmt} {D : Ends} {e : Expr}
/-! ### new lists -/
/-- e makes a new list of xs -/
def NK (X : Cx) (e : Expr) (ρ : List (Slot X.K)) (cs : List (Cell X.K)) (T : Ty X.K α) (xs : List α) (P : Prop) : Prop :=
  ∀ F σ H, Okw ρ cs F σ H → P → ∀ Q : VK, (∀ a vs F' H', Grow F H F' H' → H a = none → F' a = none → H' a = some (.lst vs) → Rl T F' vs xs → vs.length ≤ sizeLine → Q (.ref a) H') → WE X e σ H Q
def NE (X : Cx) (Y : Ec X.K) (e : Expr) (ρ : List (Slot X.K)) (cs : List (Cell X.K)) {μ α : Type} (T : Ty X.K α) (vl : μ → List α) (cs' : μ → List (Cell X.K)) (M : (μ → Prop) → Prop) : Prop :=
  ∀ F σ H, Okc ρ cs F σ H → Xh X Y cs F σ H → ∀ φ : μ → Prop, M φ → ∀ Q : VK, (∀ y a vs F' H', Mv cs F H (cs' y) F' H' → H a = none → F' a = none → H' a = some (.lst vs) → (∀ c ∈ cs' y, c.a ≠ a) → Rl T F' vs (vl y) → vs.length ≤ sizeLine → φ y → Q (.ref a) H') → WE X e σ H Q
theorem frz_grow {F H F' H' : Hp} {a : Addr} {o : HO} (g : Grow F H F' H') (hH : H a = none) (hF : F' a = none) (ho : H' a = some o) : Grow F H (upd F' a o) H' where
  ff := fun b u e => by
    have : b ≠ a := fun z => by rw [z] at e; rw [g.ff _ _ e] at hF; cases hF
    rw [upd_ne this]; exact g.ff _ _ e
  fh := fun b u e => by
    by_cases z : b = a
    · subst z; rw [upd_same] at e; cases e; exact ho
    · rw [upd_ne z] at e; exact g.fh _ _ e
  hh := g.hh
  fr := fun b h1 h2 => by
    by_cases z : b = a
    · subst z; exact hH
    · rw [upd_ne z] at h2; exact g.fr b h1 h2
theorem same_upd {F : Hp} {a : Addr} {o : HO} (h : F a = none) : Same F (upd F a o) := fun b u e => by
  have : b ≠ a := fun z => by rw [z, h] at e; cases e
  rw [upd_ne this]; exact e
theorem NK.pk {T : Ty X.K α} {xs : List α} {P : Prop} (h : NK X e ρ cs T xs P) : PK X e ρ cs (tL T) xs P := fun F σ H ok p Q k =>
  h F σ H ok p Q fun a vs F' H' g hH hF ho r z => k _ _ _ (frz_grow g hH hF ho) ⟨a, vs, rfl, upd_same, r.mono (same_upd hF), z⟩
theorem NK.ne {T : Ty X.K α} {xs : List α} {P : Prop} (h : NK X e ρ cs T xs P) : NE X Y e ρ cs T (fun _ : Unit => xs) (fun _ => cs) (fun φ => P ∧ φ ()) := fun F σ H ok xh φ p Q k =>
  h F σ H ok.w p.1 Q fun a vs F' H' g hH hF ho r z => k () a vs F' H' (ok.grow g) hH hF ho (fun c hc e => by
    obtain ⟨_, o, e1, _⟩ := ok.cell c hc
    rw [e, hH] at e1; cases e1) r z p.2
theorem frz_mv {cs cs' : List (Cell X.K)} {F H F' H' : Hp} {a : Addr} {o : HO} (m : Mv cs F H cs' F' H') (hH : H a = none) (hF : F' a = none) (ho : H' a = some o) (hn : ∀ c ∈ cs', c.a ≠ a) : Mv cs F H cs' (upd F' a o) H' where
  ff := m.ff.trans (same_upd hF)
  fh := fun b u e => by
    by_cases z : b = a
    · subst z; rw [upd_same] at e; cases e; exact ho
    · rw [upd_ne z] at e; exact m.fh _ _ e
  fr := fun b h1 h2 => by
    by_cases z : b = a
    · subst z; exact hH
    · rw [upd_ne z] at h2; exact m.fr b h1 h2
  kp := m.kp
  cell := fun c hc => by
    obtain ⟨n, u, e, r⟩ := m.cell c hc
    exact ⟨by rw [upd_ne (hn c hc)]; exact n, u, e, c.ck.mono (same_upd hF) r⟩
  nd := m.nd
  nw := m.nw
  st := m.st
theorem NE.ek {T : Ty X.K α} {vl : μ → List α} {cs' : μ → List (Cell X.K)} {M : (μ → Prop) → Prop} (h : NE X Y e ρ cs T vl cs' M) : EK X Y e ρ cs (tL T) vl cs' M := fun F σ H ok xh φ p Q k =>
  h F σ H ok xh φ p Q fun y a vs F' H' m hH hF ho hn r z q => k y _ _ _ (frz_mv m hH hF ho hn) ⟨a, vs, rfl, upd_same, r.mono (same_upd hF), z⟩ q
/-- as a cell, the last one -/
theorem new_mv {T : Ty X.K α} {xs : List α} {cs cs' : List (Cell X.K)} {F H F' H' : Hp} {a : Addr} {vs : List V} (m : Mv cs F H cs' F' H') (hH : H a = none) (hF : F' a = none) (ho : H' a = some (.lst vs)) (hn : ∀ c ∈ cs', c.a ≠ a) (r : Rl T F' vs xs) (z : vs.length ≤ sizeLine) :
    Mv cs F H (cs' ++ [⟨a, cL T xs⟩]) F' H' where
  ff := m.ff
  fh := m.fh
  fr := m.fr
  kp := m.kp
  cell := fun c hc => by
    rcases List.mem_append.mp hc with hc | hc
    · exact m.cell c hc
    · obtain rfl := List.mem_singleton.mp hc
      exact ⟨hF, _, ho, vs, rfl, r, z⟩
  nd := by
    rw [List.map_append]
    refine List.nodup_append.mpr ⟨m.nd, by simp, fun x hx y hy => ?_⟩
    obtain ⟨c, hc, rfl⟩ := List.mem_map.mp hx
    have : y = a := by simpa using hy
    rw [this]; exact hn c hc
  nw := fun c hc => by
    rcases List.mem_append.mp hc with hc | hc
    · exact m.nw c hc
    · obtain rfl := List.mem_singleton.mp hc
      exact .inr hH
  st := m.st
theorem NE.own {T : Ty X.K α} {vl : μ → List α} {cs' : μ → List (Cell X.K)} {M : (μ → Prop) → Prop} (h : NE X Y e ρ cs T vl cs' M) :
    EK X Y e ρ cs tR (fun y : μ × Addr × List α => y.2.1) (fun y => cs' y.1 ++ [⟨y.2.1, cL T y.2.2⟩]) (fun φ => M fun y => ∀ a z, z = vl y → φ (y, a, z)) := fun F σ H ok xh φ p Q k =>
  h F σ H ok xh _ p Q fun y a vs F' H' m hH hF ho hn r z q => k (y, a, vl y) _ _ _ (new_mv m hH hF ho hn r z) rfl (q a _ rfl)
/-- a display -/
theorem nk_lst {es : List Expr} {T : Ty X.K α} {x : List α} {P : Prop} (h : PAK X es ρ cs (tsL T) x P) (hl : x.length ≤ 1000 := by decide) : NK X (.List es pos) ρ cs T x P := fun F σ H ok p Q k => by
  refine we (pe_lst pa_w) ?_
  refine h F σ H ok p _ fun vs F1 H1 g1 r1 => ?_
  have hz : vs.length ≤ sizeLine := Nat.le_trans (by rw [Rl.length r1]; exact hl) (by decide)
  refine ⟨hz, fun q hq => ?_⟩
  have hF : F1 q = none := by
    cases e : F1 q with
    | none => rfl
    | some u => rw [g1.fh _ _ e] at hq; cases hq
  refine k q vs F1 _ ⟨g1.ff, fun b u e => ?_, fun b u e => ?_, g1.fr⟩ (g1.hh.free hq) hF upd_same r1 hz
  · have : b ≠ q := fun z => by rw [z, hF] at e; cases e
    rw [upd_ne this]; exact g1.fh _ _ e
  · have : b ≠ q := fun z => by rw [z, g1.hh.free hq] at e; cases e
    rw [upd_ne this]; exact g1.hh _ _ e
/-- a call that hands back a new list -/
theorem grow_upd {F H F1 H1 : Hp} {q : Addr} {o : HO} (g1 : Grow F H F1 H1) (hq : H1 q = none) : Grow F H F1 (upd H1 q o) ∧ F1 q = none := by
  have hF : F1 q = none := by
    cases e : F1 q with
    | none => rfl
    | some u => rw [g1.fh _ _ e] at hq; cases hq
  refine ⟨⟨g1.ff, fun b u e => ?_, fun b u e => ?_, g1.fr⟩, hF⟩
  · have : b ≠ q := fun z => by rw [z, hF] at e; cases e
    rw [upd_ne this]; exact g1.fh _ _ e
  · have : b ≠ q := fun z => by rw [z, g1.hh.free hq] at e; cases e
    rw [upd_ne this]; exact g1.hh _ _ e
/-! ### what is walked, with effects ahead -/
def IE (X : Cx) (Y : Ec X.K) (tg iter : Expr) (ρ : List (Slot X.K)) (cs : List (Cell X.K)) {μ α : Type} (T : Ty X.K α) (xs : μ → List α) (cs' : μ → List (Cell X.K)) (M : (μ → Prop) → Prop) : Prop :=
  ∀ F σ H, Okc ρ cs F σ H → Xh X Y cs F σ H → ∀ φ : μ → Prop, M φ → ∀ R : It → Hp → Prop, (∀ y J F' H', Mv cs F H (cs' y) F' H' → ItOk T J F' (xs y) → (xs y).length ≤ sizeLine → φ y → R J H') → WI X tg iter σ H R
theorem IK.ie {tg iter : Expr} {T : Ty X.K α} {xs : List α} {P : Prop} (h : IK X tg iter ρ cs T xs P) : IE X Y tg iter ρ cs T (fun _ : Unit => xs) (fun _ => cs) (fun φ => P ∧ φ ()) := fun F σ H ok xh φ p R k =>
  h F σ H ok.w p.1 R fun J F' H' g it z => k () J F' H' (ok.grow g) it z p.2
theorem ie_range1 {tg a : Expr} {vl : μ → Int} {cs' : μ → List (Cell X.K)} {M : (μ → Prop) → Prop} {p : Pos} (hm : X.mg "range" = none) (h : EK X Y a ρ cs tI vl cs' M) (hg : Gl X "range" := by rfl) (hs : starEach [a] X.env = [(false, eval a X.env)] := by rfl) :
    IE X Y tg (.Call (.Name "range" p) [a] [] pos) ρ cs tI (fun y => rng 0 (vl y)) cs' (fun φ => M fun y => -(2 ^ 62) ≤ vl y ∧ vl y ≤ 16777216 ∧ φ y) := fun F σ H ok xh φ q R k => by
  refine wi (pi_range1 hg hm (pa_cons pe_w pa_nil hs) hs) ?_
  refine h F σ H ok xh _ q _ fun y v F1 H1 m r q2 => ⟨vl y, by cases r; rfl, q2.1, by have := q2.2.1; omega, k y _ F1 H1 m ?_ (by rw [rng_length, sizeLine_eq]; have := q2.2.1; omega) q2.2.2⟩
  have := itr_ok (K := X.K) (F := F1) (a := 0) (b := vl y)
  rw [show (vl y - 0).toNat = (vl y).toNat by rw [Int.sub_zero]] at this
  exact this
/-! ### comprehensions -/
def TsK (X : Cx) (Y : Ec X.K) (ifs : List Expr) (ρ : List (Slot X.K)) (cs : List (Cell X.K)) {μ : Type} (vl : μ → Bool) (cs' : μ → List (Cell X.K)) (M : (μ → Prop) → Prop) : Prop :=
  ∀ F σ H, Okc ρ cs F σ H → Xh X Y cs F σ H → ∀ φ : μ → Prop, M φ → ∀ Q : Bool → Hp → Prop, (∀ y F' H', Mv cs F H (cs' y) F' H' → φ y → Q (vl y) H') → WTs X ifs σ H Q
theorem ts_0 : TsK X Y [] ρ cs (fun _ : Unit => true) (fun _ => cs) (fun φ => φ ()) := fun F σ H ok xh φ p Q k => wts pts_nil (k () F H ok.refl p)
theorem ts_1 {c : Expr} {vl : μ → Bool} {cs' : μ → List (Cell X.K)} {M : (μ → Prop) → Prop} (h : TK X Y c ρ cs vl cs' M) : TsK X Y [c] ρ cs vl cs' M := fun F σ H ok xh φ p Q k => wts (pts_one pt_w) (h F σ H ok xh φ p Q k)
def wipeS (ρ : List (Slot X.K)) : List Nat → List (Slot X.K)
  | [] => ρ
  | v :: vs => (wipeS ρ vs).set v .un
theorem wipe_prd {F : Hp} {σ : L2.St} (h : Prd (Slot.ok F) ρ σ) : ∀ vs : List Nat, Prd (Slot.ok F) (wipeS ρ vs) (wipe σ vs)
  | [] => h
  | v :: vs => (wipe_prd h vs).set (R := Slot.ok F) (x := .un) (u := none) trivial v
/-- no exception -/
abbrev Y0 (K : PySem.W.Frag) : Ec K := ⟨[], fun _ => False⟩
theorem xh0 {F H : Hp} {σ : L2.St} : Xh X (Y0 X.K) cs F σ H := ⟨fun _ _ _ _ => False, takes0, fun _ _ _ _ _ _ _ _ _ e => e.elim⟩
/-- the reading of a comprehension, its parts by their weakest readings -/
def gBlk (X : Cx) (tg : Expr) (scope : Scope) : TG := fun v σ H Q => ∀ (s : Shared) (H0 : Hp) (C : Addr) (cl : List (Str × Addr)) (fp : List Addr), WG (X.blk s H0 scope (compEnvC scope cl C X.env) fp) tg v σ H Q
def ttBlk (X : Cx) (ifs : List Expr) (scope : Scope) : TT := fun σ H Q => ∀ (s : Shared) (H0 : Hp) (C : Addr) (cl : List (Str × Addr)) (fp : List Addr), WTs (X.blk s H0 scope (compEnvC scope cl C X.env) fp) ifs σ H Q
def teBlk (X : Cx) (elt : Expr) (scope : Scope) : TE := fun σ H Q => ∀ (s : Shared) (H0 : Hp) (C : Addr) (cl : List (Str × Addr)) (fp : List Addr), WE (X.blk s H0 scope (compEnvC scope cl C X.env) fp) elt σ H Q
theorem pg_blk {tg : Expr} {scope : Scope} (s : Shared) (H : Hp) (C : Addr) (cl : List (Str × Addr)) (fp : List Addr) : PG (X.blk s H scope (compEnvC scope cl C X.env) fp) tg (gBlk X tg scope) := ⟨fun pins s' σ H1 v u Q I r h => h s H C cl fp pins s' u I r⟩
theorem pts_blk {ifs : List Expr} {scope : Scope} (s : Shared) (H : Hp) (C : Addr) (cl : List (Str × Addr)) (fp : List Addr) : PTs (X.blk s H scope (compEnvC scope cl C X.env) fp) ifs (ttBlk X ifs scope) := ⟨fun pins s' σ H1 Q I h => h s H C cl fp pins s' I⟩
theorem pe_blk {elt : Expr} {scope : Scope} (s : Shared) (H : Hp) (C : Addr) (cl : List (Str × Addr)) (fp : List Addr) : PE (X.blk s H scope (compEnvC scope cl C X.env) fp) elt (teBlk X elt scope) := ⟨fun pins s' σ H1 Q I h => h s H C cl fp pins s' I⟩
def tLcW (X : Cx) (elt tg iter : Expr) (ifs : List Expr) (scope : Scope) (own : List (Str × Nat)) : TE := tLc (WI X tg iter) (gBlk X tg scope) (ttBlk X ifs scope) (teBlk X elt scope) (own.map (·.2))
/-- a comprehension that makes a new list -/
def LcK (X : Cx) (Y : Ec X.K) (elt tg iter : Expr) (ifs : List Expr) (scope : Scope) (own : List (Str × Nat)) (ρ : List (Slot X.K)) (cs : List (Cell X.K)) {μ α : Type} (T : Ty X.K α) (vl : μ → List α) (cs' : μ → List (Cell X.K)) (M : (μ → Prop) → Prop) : Prop :=
  ∀ F σ H, Okc ρ cs F σ H → Xh X Y cs F σ H → ∀ φ : μ → Prop, M φ → ∀ Q : VK, (∀ y a vs F' H', Mv cs F H (cs' y) F' H' → H a = none → F' a = none → H' a = some (.lst vs) → (∀ c ∈ cs' y, c.a ≠ a) → Rl T F' vs (vl y) → vs.length ≤ sizeLine → φ y → Q (.ref a) H') → tLcW X elt tg iter ifs scope own σ H Q
theorem lc_k {elt tg iter : Expr} {ifs : List Expr} {scope : Scope} {own : List (Str × Nat)} {T : Ty X.K α} {U : Ty X.K γ} {xs : μ → List α} {cs1 : μ → List (Cell X.K)} {Mi : (μ → Prop) → Prop} {G : List (Slot X.K) → α → List (Slot X.K)} {vs : List Nat}
    {τ : β → α → Type} {υ : (z : β) → (x : α) → τ z x → Type} {cs' : β → List (Cell X.K)} {z0 : μ → β} {bt : (z : β) → (x : α) → τ z x → Bool} {s1 : (z : β) → (x : α) → τ z x → β} {Mt : (z : β) → (x : α) → (τ z x → Prop) → Prop}
    {vl : (z : β) → (x : α) → (y : τ z x) → υ z x y → γ} {s2 : (z : β) → (x : α) → (y : τ z x) → υ z x y → β} {Me : (z : β) → (x : α) → (y : τ z x) → (υ z x y → Prop) → Prop}
    (hi : IE X Y tg iter ρ cs T xs cs1 Mi) (hz : ∀ y, cs1 y = cs' (z0 y)) (hvs : ∀ j ∈ vs, j ∈ own.map (·.2))
    (hg : ∀ (s : Shared) (H : Hp) (C : Addr) (cl : List (Str × Addr)) (fp : List Addr), GK (X.blk s H scope (compEnvC scope cl C X.env) fp) tg T G vs)
    (ht : ∀ (s : Shared) (H : Hp) (C : Addr) (cl : List (Str × Addr)) (fp : List Addr) (z : β) (x : α), TsK (X.blk s H scope (compEnvC scope cl C X.env) fp) (Y0 X.K) ifs (G (wipeS ρ (own.map (·.2))) x) (cs' z) (bt z x) (fun y => cs' (s1 z x y)) (Mt z x))
    (he : ∀ (s : Shared) (H : Hp) (C : Addr) (cl : List (Str × Addr)) (fp : List Addr) (z : β) (x : α) (y : τ z x), EK (X.blk s H scope (compEnvC scope cl C X.env) fp) (Y0 X.K) elt (G (wipeS ρ (own.map (·.2))) x) (cs' (s1 z x y)) U (vl z x y) (fun u => cs' (s2 z x y u)) (Me z x y)) :
    LcK X Y elt tg iter ifs scope own ρ cs U (fun y : List γ × β => y.1) (fun y => cs' y.2) (fun φ => Mi fun w => ∃ I : Nat → List γ → β → Prop, I 0 [] (z0 w) ∧
      (∀ i acc z x, (xs w)[i]? = some x → I i acc z → Mt z x fun y => (bt z x y = true → Me z x y fun u => I (i + 1) (acc ++ [vl z x y u]) (s2 z x y u)) ∧ (bt z x y = false → I (i + 1) acc (s1 z x y))) ∧ ∀ acc z, I (xs w).length acc z → φ (acc, z)) := fun F σ H ok0 xh φ p Q k => by
  refine hi F σ H ok0 xh _ p _ fun w J F1 H1 m1 it hsz q => ?_
  obtain ⟨I, i0, iS, iE⟩ := q
  refine fun D hD => ⟨fun i m H2 => m = (xs w).length - i ∧ i ≤ (xs w).length ∧ ∃ z acc F2 us, Mv cs F H (cs' z) F2 H2 ∧ Same F1 F2 ∧ F2 D = none ∧ H2 D = some (.lst us) ∧ (∀ c ∈ cs' z, c.a ≠ D) ∧ Rl U F2 us acc ∧ us.length ≤ i ∧ I i acc z, ⟨(xs w).length, by simp, Nat.zero_le _, ?_⟩, ?_⟩
  · have hF : F1 D = none := by
      cases e : F1 D with
      | none => rfl
      | some u => rw [m1.fh _ _ e] at hD; cases hD
    have nD : ∀ c ∈ cs' (z0 w), c.a ≠ D := fun c hcm e => by
      rw [← hz] at hcm
      obtain ⟨_, o, e1, _⟩ := m1.cell c hcm
      rw [e, hD] at e1; cases e1
    refine ⟨z0 w, [], F1, [], ?_, Same.refl _, hF, upd_same, nD, .nil, Nat.zero_le _, i0⟩
    rw [← hz] at nD ⊢
    exact ⟨m1.ff, (fun b u e => by
        have : b ≠ D := fun z => by rw [z, hF] at e; cases e
        rw [upd_ne this]; exact m1.fh _ _ e), m1.fr, (fun b u e n => by
        have h1 := m1.kp b u e n
        have : b ≠ D := fun z => by rw [z, hD] at h1; cases h1
        rw [upd_ne this]; exact h1), (fun c hcm => by
        obtain ⟨n, o, e1, r⟩ := m1.cell c hcm
        exact ⟨n, o, by rw [upd_ne (nD c hcm)]; exact e1, r⟩), m1.nd, m1.nw, (fun c hcm e => by
        by_cases h : c.a = D
        · rw [h, upd_same] at e; cases e
        · rw [upd_ne h] at e; exact m1.st c hcm e)⟩
  · rintro i m H2 ⟨rfl, hil, z, acc, F2, us, m2, e12, hF2, hH2, nD, rl, hul, hI⟩
    have hHD : H D = none := by
      cases e : H D with
      | none => rfl
      | some u =>
        by_cases hx : ∃ c ∈ cs, c.a = D
        · obtain ⟨c, hcm, rfl⟩ := hx
          exact absurd hD (m1.st c hcm)
        · rw [m1.kp D u e fun c hcm e => hx ⟨c, hcm, e⟩] at hD; cases hD
    obtain ⟨go, stop⟩ := it i F2 H2 e12 m2.fh
    by_cases hlt : i < (xs w).length
    · obtain ⟨hgo, hy⟩ := go (xs w)[i] (List.getElem?_eq_getElem hlt)
      refine .inr ⟨hgo, fun H3 => ∃ z acc F3 us, Mv cs F H (cs' z) F3 H3 ∧ Same F1 F3 ∧ F3 D = none ∧ H3 D = some (.lst us) ∧ (∀ c ∈ cs' z, c.a ≠ D) ∧ Rl U F3 us acc ∧ us.length ≤ i + 1 ∧ I (i + 1) acc z, fun H3 h => ⟨(xs w).length - (i + 1), by omega, rfl, hlt, h⟩, fun v H3 hv => ?_⟩
      obtain ⟨F3, g3, rv⟩ := hy v H3 hv
      have ok2 : Okc ρ (cs' z) F2 σ H2 := ok0.mv m2
      have m23 := ok2.grow g3
      have ok3 := ok2.mv m23
      have step := iS i acc z (xs w)[i] (List.getElem?_eq_getElem hlt) hI
      -- D stands through whatever the cells do
      have keepD : ∀ {ca cb : List (Cell X.K)} {Fa Ha Fb Hb : Hp}, Mv ca Fa Ha cb Fb Hb → Fa D = none → Ha D = some (.lst us) → (∀ c ∈ ca, c.a ≠ D) → Fb D = none ∧ Hb D = some (.lst us) ∧ ∀ c ∈ cb, c.a ≠ D := fun {ca cb Fa Ha Fb Hb} mm h1 h2 h3 => by
        refine ⟨?_, mm.kp D _ h2 h3, fun c hcm e => ?_⟩
        · cases e : Fb D with
          | none => rfl
          | some u =>
            have := mm.fr D h1 (by rw [e]; simp)
            rw [h2] at this; cases this
        · rcases mm.nw c hcm with ⟨c0, h0, e0⟩ | h0
          · exact h3 c0 h0 (e0.trans e)
          · rw [e, h2] at h0; cases h0
      have d3 := keepD m23 hF2 hH2 nD
      intro s0 H0 C cl fp
      refine hg s0 H0 C cl fp F3 _ H3 v (xs w)[i] _ (wipe_prd ok3.env (own.map (·.2))) ok3.same rv _ ?_
      intro σ4 hρ4 hw4
      refine ⟨?_, ?_⟩
      · rw [hw4 _ hvs]
        have idem : ∀ (l l' : List Nat) (σ : L2.St), (∀ j ∈ l, j ∈ l') → wipe (wipe σ l) l' = wipe σ l' := by
          intro l
          induction l with
          | nil => intro l' σ _; rfl
          | cons j l ih =>
            intro l' σ h
            show wipe ((wipe σ l).set j none) l' = _
            rw [wipe_set l' _ (h j (by simp))]
            exact ih l' σ fun x hx => h x (List.mem_cons_of_mem _ hx)
        exact idem _ _ σ fun _ h => h
      have ok4 : Okc (G (wipeS ρ (own.map (·.2))) (xs w)[i]) (cs' z) F3 σ4 H3 := ⟨hρ4, ok3.same, ok3.cell, ok3.nd⟩
      intro s0 H0 C cl fp
      refine ht s0 H0 C cl fp z (xs w)[i] F3 σ4 H3 ok4 xh0 _ step _ fun y F5 H5 m5 q5 => ?_
      have d5 := keepD m5 d3.1 d3.2.1 d3.2.2
      have m05 := (m2.trans m23).trans m5
      cases hb : bt z (xs w)[i] y with
      | false =>
        exact (if_neg Bool.false_ne_true).mpr ⟨_, acc, F5, us, m05, (e12.trans g3.ff).trans m5.ff, d5.1, d5.2.1, d5.2.2, rl.mono (g3.ff.trans m5.ff), by omega, q5.2 hb⟩
      | true =>
        refine (if_pos rfl).mpr ?_
        intro s0 H0 C cl fp
        refine he s0 H0 C cl fp z (xs w)[i] y F5 σ4 H5 (ok4.mv m5) xh0 _ (q5.1 hb) _ fun u v6 F6 H6 m6 r6 q6 => ?_
        have d6 := keepD m6 d5.1 d5.2.1 d5.2.2
        refine ⟨us, d6.2.1, Nat.lt_of_le_of_lt hul (Nat.lt_of_lt_of_le hlt hsz), _, acc ++ [vl z (xs w)[i] y u], F6, us ++ [v6], ?_, ((e12.trans g3.ff).trans m5.ff).trans m6.ff, d6.1, upd_same, d6.2.2, Rl.append (rl.mono ((g3.ff.trans m5.ff).trans m6.ff)) (.cons r6 .nil), by rw [List.length_append, List.length_singleton]; omega, q6⟩
        have mm := m05.trans m6
        exact ⟨mm.ff, (fun b u e => by
            have : b ≠ D := fun z => by rw [z, d6.1] at e; cases e
            rw [upd_ne this]; exact mm.fh _ _ e), mm.fr, (fun b u e n => by
            have : b ≠ D := fun z => by rw [z, hHD] at e; cases e
            rw [upd_ne this]; exact mm.kp b u e n), (fun c hcm => by
            obtain ⟨n, o, e1, r⟩ := mm.cell c hcm
            exact ⟨n, o, by rw [upd_ne (d6.2.2 c hcm)]; exact e1, r⟩), mm.nd, mm.nw, (fun c hcm e => by
            by_cases h : c.a = D
            · rw [h, upd_same] at e; cases e
            · rw [upd_ne h] at e; exact mm.st c hcm e)⟩
    · refine .inl ⟨stop (by omega), ?_⟩
      have hl : i = (xs w).length := by omega
      exact k (acc, z) D us F2 H2 m2 hHD hF2 hH2 nD rl (by omega) (iE acc z (by rw [← hl]; exact hI))
/-- .. as a value -/
theorem ne_lc {elt tg iter : Expr} {ifs : List Expr} {scope : Scope} {own : List (Str × Nat)} {T : Ty X.K α} {vl : μ → List α} {cs' : μ → List (Cell X.K)} {M : (μ → Prop) → Prop} (hc : X.calm = true) (hN : X.N.Nodup) (ok : BlkOk X.N X.env.scope scope own) (h : LcK X Y elt tg iter ifs scope own ρ cs T vl cs' M)
    (hfo : ∀ x, foldedSetIterable iter X.env x = pure x := by intro _; rfl) : NE X Y (.ListComp elt [⟨tg, iter, ifs, 0⟩] scope pos) ρ cs T vl cs' M := fun F σ H ok0 xh φ p Q k =>
  we (pe_lc hc hN pi_w ok pg_blk pts_blk pe_blk hfo) (h F σ H ok0 xh φ p Q k)
/-! ### statements with cells -/
/-- x = a new owned list -/
theorem sk_setN {i : Nat} {nm : Str} {pos' : Pos} {T : Ty X.K α} {vl : μ → List α} {cs' : μ → List (Cell X.K)} {M : (μ → Prop) → Prop} {φ : μ → Addr → List α → Prop} (hN : X.N.Nodup) (he : NE X Y e ρ cs T vl cs' M) (k : ∀ y a z, SK X B Y fl rest (ρ.set i (.val tR a)) (cs' y ++ [⟨a, cL T z⟩]) D (φ y a z)) (hi : X.N[i]? = some nm := by rfl)
    (hx : Loc X.env.scope nm := by first | exact Or.inl rfl | exact Or.inr rfl)
    (hs : swapsWith e (some (.Name nm pos')) pos.line X.env = pure false := by rfl) (hf : X.fn nm = true ∨ X.env.scope.names.lookup nm = some .local := by first | exact .inl rfl | exact .inr rfl) :
    SK X B Y fl (.Assign [.Name nm pos'] e pos :: rest) ρ cs D (M fun y => ∀ a z, z = vl y → φ y a z) := fun F σ H ok p W tk hx' => by
  refine wb (pss_cons (ps_set hN hi hx pe_w hs hf) pss_w) ?_
  refine he F σ H ok.c (xh_of ok tk hx') _ p _ fun y a vs F' H' m hH hF ho hn r z q => ?_
  have ok1 := ok.to (new_mv m hH hF ho hn r z)
  exact k y a (vl y) F' _ H' (ok1.set (T := tR) i rfl) (q a _ rfl) W tk hx'
/-- a cell's content gets a name -/
theorem sk_name {st : List Stmt} {T : Ty X.K α} {l : Addr} {x : List α} {φ : List α → Prop} (j : Nat) (hc : cs[j]? = some ⟨l, cL T x⟩) (k : ∀ w, SK X B Y fl st ρ (cs.set j ⟨l, cL T w⟩) D (φ w)) : SK X B Y fl st ρ cs D (∀ w, w = x → φ w) := fun F σ H ok p W tk hx' => by
  have e : cs.set j ⟨l, cL T x⟩ = cs := by
    apply List.ext_getElem?
    intro n
    by_cases hn : j = n
    · subst hn
      rw [List.getElem?_set_self (List.getElem?_eq_some_iff.mp hc).1, hc]
    · rw [List.getElem?_set_ne hn]
  have q := k x
  rw [e] at q
  exact q F σ H ok (p x rfl) W tk hx'
/-- the cell at j is written no more: frozen; it was made here -/
theorem sk_freeze {st : List Stmt} {T : Ty X.K α} {l : Addr} {x : List α} {φ : Prop} (j i : Nat) (hc : cs[j]? = some ⟨l, cL T x⟩) (hρ : ρ[i]? = some (.val tR l)) (hB : (cs.map Cell.a).take B.cin.length = B.cin.map Cell.a) (hj : B.cin.length ≤ j) (k : SK X B Y fl st (ρ.set i (.val (tL T) x)) (cs.eraseIdx j) D φ) : SK X B Y fl st ρ cs D φ := fun F σ H ok p W tk hx' => by
  have hm : ⟨l, cL T x⟩ ∈ cs := List.mem_of_getElem? hc
  obtain ⟨hF, o, ho, vs, e, r, z⟩ := ok.mv.cell _ hm
  subst e
  have hlt : j < cs.length := (List.getElem?_eq_some_iff.mp hc).1
  have inj : ∀ (n : Nat) (d : Cell X.K), cs[n]? = some d → d.a = l → n = j := fun n d e z => by
    have e1 : (cs.map Cell.a)[n]? = some l := by rw [List.getElem?_map, e]; exact congrArg some z
    have e2 : (cs.map Cell.a)[j]? = some l := by rw [List.getElem?_map, hc]; rfl
    obtain ⟨h1, q1⟩ := List.getElem?_eq_some_iff.mp e1
    obtain ⟨h2, q2⟩ := List.getElem?_eq_some_iff.mp e2
    exact (List.getElem_inj ok.mv.nd).mp (q1.trans q2.symm)
  have notin : ∀ c ∈ B.cin, c.a ≠ l := fun c hcm e => by
    have h1 : c.a ∈ (cs.map Cell.a).take B.cin.length := by rw [hB]; exact List.mem_map.mpr ⟨c, hcm, rfl⟩
    obtain ⟨n, hn⟩ := List.getElem?_of_mem h1
    have hnl : n < B.cin.length := by
      have := (List.getElem?_eq_some_iff.mp hn).1
      rw [List.length_take] at this
      omega
    rw [List.getElem?_take_of_lt hnl, List.getElem?_map] at hn
    cases q : cs[n]? with
    | none => rw [q] at hn; cases hn
    | some d =>
      rw [q] at hn
      have : n = j := inj n d q ((Option.some.inj hn).trans e)
      omega
  have fresh : B.H0 l = none := by
    rcases ok.mv.nw _ hm with ⟨c0, h0, e0⟩ | h0
    · exact absurd e0 (notin c0 h0)
    · exact h0
  have sF : Same F (upd F l (.lst vs)) := same_upd hF
  have rest_ne : ∀ c ∈ cs.eraseIdx j, c ∈ cs ∧ c.a ≠ l := fun c hcm => by
    refine ⟨List.mem_of_mem_eraseIdx hcm, fun e => ?_⟩
    obtain ⟨n, hn⟩ := List.getElem?_of_mem hcm
    rw [List.getElem?_eraseIdx] at hn
    split at hn
    · have := inj n c hn e; omega
    · have := inj (n + 1) c hn e; omega
  have ok2 : Ok B fl (ρ.set i (.val (tL T) x)) (cs.eraseIdx j) (upd F l (.lst vs)) σ H := by
    obtain ⟨u, hu, hs⟩ := ok.env.get hρ
    obtain ⟨v, ev, rv⟩ := hs
    subst ev
    have hv : v = .ref l := rv
    subst hv
    have e1 : σ.set i (some (.ref l)) = σ := by
      apply List.ext_getElem?
      intro n
      by_cases hn : i = n
      · subst hn
        rw [List.getElem?_set_self (List.getElem?_eq_some_iff.mp hu).1, hu]
      · rw [List.getElem?_set_ne hn]
    have env2 : Prd (Slot.ok (upd F l (.lst vs))) (ρ.set i (.val (tL T) x)) (σ.set i (some (.ref l))) :=
      (ok.env.mono fun _ _ r => r.mono sF).set (R := Slot.ok (upd F l (.lst vs))) (x := .val (tL T) x) (u := some (.ref l)) ⟨_, rfl, l, vs, rfl, upd_same, r.mono sF, z⟩ i
    rw [e1] at env2
    refine ⟨env2, ⟨ok.mv.ff.trans sF, fun b u e => ?_, fun b h1 h2 => ?_, ok.mv.kp, fun c hcm => ?_, ?_, fun c hcm => ok.mv.nw c (rest_ne c hcm).1, ok.mv.st⟩, ok.flo.trans sF⟩
    · by_cases h : b = l
      · subst h; rw [upd_same] at e; cases e; exact ho
      · rw [upd_ne h] at e; exact ok.mv.fh _ _ e
    · by_cases h : b = l
      · subst h; exact fresh
      · rw [upd_ne h] at h2; exact ok.mv.fr b h1 h2
    · obtain ⟨hcm, hne⟩ := rest_ne c hcm
      obtain ⟨n, o, e, r⟩ := ok.mv.cell c hcm
      exact ⟨by rw [upd_ne hne]; exact n, o, e, c.ck.mono sF r⟩
    · exact ok.mv.nd.sublist ((List.eraseIdx_sublist _ _).map _)
  exact k _ σ H ok2 p W tk hx'
/-- return, the value as it is -/
theorem sk_retF {A γ : Type} {ins : A → List (Slot X.K)} {T : Ty X.K γ} {pre : A → Prop} {f : A → γ} {a : A} {ψ : γ → Prop} {n b' c' : L2.St → Hp → Prop} {x : γ} {P : Prop} {r : List Stmt} (he : PK X e ρ [] T x P) :
    SK X B Y fl (.Return (some e) pos :: r) ρ [] { retD (Con.fn ins T pre f) a B ψ with nx := n, bk := b', ct := c' } (P ∧ ψ x) := sk_ret (C := Con.fn ins T pre f) x he rfl rfl
end
end MD
namespace MD
open PySem PySem.Spec PyProof.Rows L2
section
variable {X : Cx} {fl : Hp} {B : Hb X.K} {Y : Ec X.K} {ρ : List (Slot X.K)} {cs : List (Cell X.K)} {A R α β γ μ ν : Type} {pos : Pos} {rest : List Stmt} {D : Ends} {e : Expr}
/-! ### contracts with one owned list -/
/-- from the callee's cells to the caller's: the cell at j goes, the further ones come behind -/
theorem mv_one {F H F' H' : Hp} {j : Nat} {c c' : Cell X.K} {more : List (Cell X.K)} (ok : Okc ρ cs F σ H) (hc : cs[j]? = some c) (ha : c'.a = c.a) (m : Mv [c] F H (c' :: more) F' H') : Mv cs F H (cs.set j c' ++ more) F' H' := by
  have hj : j < cs.length := (List.getElem?_eq_some_iff.mp hc).1
  have hm : c ∈ cs := List.mem_of_getElem? hc
  have map_eq : (cs.set j c').map Cell.a = cs.map Cell.a := by
    rw [List.map_set]
    apply List.ext_getElem?
    intro n
    by_cases hn : j = n
    · subst hn
      rw [List.getElem?_set_self (by simpa using hj), List.getElem?_map, hc, ha]
      rfl
    · rw [List.getElem?_set_ne hn]
  have others : ∀ (n : Nat) (d : Cell X.K), n ≠ j → cs[n]? = some d → d.a ≠ c.a := fun n d hn e z => by
    have e1 : (cs.map Cell.a)[n]? = some c.a := by rw [List.getElem?_map, e]; exact congrArg some z
    have e2 : (cs.map Cell.a)[j]? = some c.a := by rw [List.getElem?_map, hc]; rfl
    obtain ⟨h1, q1⟩ := List.getElem?_eq_some_iff.mp e1
    obtain ⟨h2, q2⟩ := List.getElem?_eq_some_iff.mp e2
    exact hn ((List.getElem_inj ok.nd).mp (q1.trans q2.symm))
  have newa : ∀ d ∈ more, H d.a = none := fun d hd => by
    rcases m.nw d (List.mem_cons_of_mem _ hd) with ⟨c0, h0, e0⟩ | h0
    · obtain rfl := List.mem_singleton.mp h0
      have nd := m.nd
      rw [List.map_cons, List.nodup_cons] at nd
      exact absurd (List.mem_map.mpr ⟨d, hd, e0.symm.trans ha.symm⟩) nd.1
    · exact h0
  -- the cells that were not handed
  have old : ∀ d ∈ cs, d.a ≠ c.a → F' d.a = none ∧ ∃ o, H' d.a = some o ∧ d.ck.rep F' o := fun d hd hne => by
    obtain ⟨n, o, e, r⟩ := ok.cell d hd
    refine ⟨?_, o, m.kp d.a o e (fun c0 h0 z => ?_), d.ck.mono m.ff r⟩
    · cases q : F' d.a with
      | none => rfl
      | some u =>
        have := m.fr d.a n (by rw [q]; simp)
        rw [e] at this; cases this
    · obtain rfl := List.mem_singleton.mp h0
      exact hne z.symm
  refine ⟨m.ff, m.fh, m.fr, fun b o e n => m.kp b o e fun c0 h0 => ?_, fun d hd => ?_, ?_, fun d hd => ?_, fun d hd => ?_⟩
  · obtain rfl := List.mem_singleton.mp h0
    exact n _ hm
  · rcases List.mem_append.mp hd with hd | hd
    · obtain ⟨n, e⟩ := List.getElem?_of_mem hd
      by_cases hn : n = j
      · subst hn
        rw [List.getElem?_set_self hj] at e
        cases e
        exact m.cell _ List.mem_cons_self
      · rw [List.getElem?_set_ne (Ne.symm hn)] at e
        exact old d (List.mem_of_getElem? e) (others n d hn e)
    · exact m.cell d (List.mem_cons_of_mem _ hd)
  · rw [List.map_append, map_eq]
    have nd := m.nd
    rw [List.map_cons, List.nodup_cons] at nd
    refine List.nodup_append.mpr ⟨ok.nd, nd.2, fun x hx y hy e => ?_⟩
    obtain ⟨d, hd, rfl⟩ := List.mem_map.mp hx
    obtain ⟨d', hd', rfl⟩ := List.mem_map.mp hy
    obtain ⟨_, o, e1, _⟩ := ok.cell d hd
    rw [e, newa d' hd'] at e1; cases e1
  · rcases List.mem_append.mp hd with hd | hd
    · obtain ⟨n, e⟩ := List.getElem?_of_mem hd
      by_cases hn : n = j
      · subst hn
        rw [List.getElem?_set_self hj] at e
        cases e
        exact .inl ⟨c, hm, ha.symm⟩
      · rw [List.getElem?_set_ne (Ne.symm hn)] at e
        exact .inl ⟨d, List.mem_of_getElem? e, rfl⟩
    · exact .inr (newa d hd)
  · by_cases hne : d.a = c.a
    · rw [hne]; exact m.st c (by simp)
    · intro z
      obtain ⟨_, o, e, _⟩ := old d hd hne
      rw [e] at z; cases z
theorem mv_zero {F H F' H' : Hp} {σ : L2.St} {more : List (Cell X.K)} (ok : Okc ρ cs F σ H) (m : Mv [] F H more F' H') : Mv cs F H (cs ++ more) F' H' := by
  have newa : ∀ d ∈ more, H d.a = none := fun d hd => by
    rcases m.nw d hd with ⟨c0, h0, _⟩ | h0
    · cases h0
    · exact h0
  have old : ∀ d ∈ cs, F' d.a = none ∧ ∃ o, H' d.a = some o ∧ d.ck.rep F' o := fun d hd => by
    obtain ⟨n, o, e, r⟩ := ok.cell d hd
    refine ⟨?_, o, m.kp d.a o e (fun c0 h0 => (by cases h0)), d.ck.mono m.ff r⟩
    cases q : F' d.a with
    | none => rfl
    | some u =>
      have := m.fr d.a n (by rw [q]; simp)
      rw [e] at this; cases this
  refine ⟨m.ff, m.fh, m.fr, fun b o e n => m.kp b o e (fun c0 h0 => (by cases h0)), fun d hd => ?_, ?_, fun d hd => ?_, fun d hd z => ?_⟩
  · rcases List.mem_append.mp hd with hd | hd
    · exact old d hd
    · exact m.cell d hd
  · rw [List.map_append]
    refine List.nodup_append.mpr ⟨ok.nd, m.nd, fun x hx y hy e => ?_⟩
    obtain ⟨d, hd, rfl⟩ := List.mem_map.mp hx
    obtain ⟨d', hd', rfl⟩ := List.mem_map.mp hy
    obtain ⟨_, o, e1, _⟩ := ok.cell d hd
    rw [e, newa d' hd'] at e1; cases e1
  · rcases List.mem_append.mp hd with hd | hd
    · exact .inl ⟨d, hd, rfl⟩
    · exact .inr (newa d hd)
  · obtain ⟨_, o, e, _⟩ := old d hd
    rw [e] at z; cases z
/-! ### effects in arguments and operands -/
theorem ak_1 {T : Ty X.K α} {vl : μ → α} {cs' : μ → List (Cell X.K)} {M : (μ → Prop) → Prop} (h : EK X Y e ρ cs T vl cs' M) (hs : starEach (e :: []) X.env = (false, eval e X.env) :: starEach [] X.env := by rfl) : AK X Y [e] ρ cs (ts1 T) vl cs' M := fun F σ H ok xh φ p Q k => by
  refine wa (pa_cons pe_w pa_nil hs) ?_
  exact h F σ H ok xh φ p _ fun y v F1 H1 m r q => k y [v] F1 H1 m ⟨v, rfl, r⟩ q
/-- a list of one type -/
theorem al_0 {T : Ty X.K α} : AK X Y [] ρ cs (tsL T) (fun _ : Unit => []) (fun _ => cs) (fun φ => φ ()) := fun F σ H ok xh φ p Q k => wa pa_nil (k () [] F H ok.refl .nil p)
theorem al_C {es : List Expr} {T : Ty X.K α} {vl : μ → α} {cs1 : μ → List (Cell X.K)} {M : (μ → Prop) → Prop} {vl2 : μ → ν → List α} {cs2 : μ → ν → List (Cell X.K)} {M2 : μ → (ν → Prop) → Prop} (h : EK X Y e ρ cs T vl cs1 M) (hr : ∀ y, AK X Y es ρ (cs1 y) (tsL T) (vl2 y) (cs2 y) (M2 y))
    (hs : starEach (e :: es) X.env = (false, eval e X.env) :: starEach es X.env := by rfl) : AK X Y (e :: es) ρ cs (tsL T) (fun y : μ × ν => vl y.1 :: vl2 y.1 y.2) (fun y => cs2 y.1 y.2) (fun φ => M fun y => M2 y fun u => φ (y, u)) := fun F σ H ok xh φ p Q k => by
  refine wa (pa_cons pe_w pa_w hs) ?_
  refine h F σ H ok xh _ p _ fun y v F1 H1 m r q => ?_
  refine hr y F1 σ H1 (ok.mv m) (xh.mv m) _ q _ fun u w F2 H2 m2 r2 q2 => ?_
  exact k (y, u) (v :: w) F2 H2 (m.trans m2) (.cons (T.mono m2.ff r) r2) q2
theorem ek_op {op : Operator} {a b : Expr} {r : R2} {T1 : Ty X.K α} {T2 : Ty X.K β} {T3 : Ty X.K γ} {C : α → β → Prop} {f : α → β → γ} {vl : μ → α} {cs1 : μ → List (Cell X.K)} {M : (μ → Prop) → Prop} {vl2 : μ → ν → β} {cs2 : μ → ν → List (Cell X.K)} {M2 : μ → (ν → Prop) → Prop} (ho : OpR X (binaryOp op) r) (hr : R2K r T1 T2 T3 C f)
    (ha : EK X Y a ρ cs T1 vl cs1 M) (hb : ∀ y, EK X Y b ρ (cs1 y) T2 (vl2 y) (cs2 y) (M2 y)) : EK X Y (.BinOp a op b pos) ρ cs T3 (fun y : μ × ν => f (vl y.1) (vl2 y.1 y.2)) (fun y => cs2 y.1 y.2) (fun φ => M fun y => M2 y fun u => C (vl y) (vl2 y u) ∧ φ (y, u)) := fun F σ H ok xh φ p Q k => by
  refine we (pe_op ho pe_w pe_w) ?_
  refine ha F σ H ok xh _ p _ fun y v F1 H1 m1 r1 q1 => ?_
  have ok1 := ok.mv m1
  refine hb y F1 σ H1 ok1 (xh.mv m1) _ q1 _ fun u w F2 H2 m2 r2 q2 => ?_
  exact hr F2 H2 v w _ _ m2.fh (T1.mono m2.ff r1) r2 q2.1 Q fun z F3 H3 g3 r3 => k (y, u) z F3 H3 ((m1.trans m2).trans ((ok1.mv m2).grow g3)) r3 q2.2
theorem tk_cmp {op : CmpOp} {a b : Expr} {r : R2} {T1 : Ty X.K α} {T2 : Ty X.K β} {C : α → β → Prop} {f : α → β → Bool} {vl : μ → α} {cs1 : μ → List (Cell X.K)} {M : (μ → Prop) → Prop} {vl2 : μ → ν → β} {cs2 : μ → ν → List (Cell X.K)} {M2 : μ → (ν → Prop) → Prop} (ho : OpR X (compareOp op) r) (hr : R2K r T1 T2 tB C f)
    (ha : EK X Y a ρ cs T1 vl cs1 M) (hb : ∀ y, EK X Y b ρ (cs1 y) T2 (vl2 y) (cs2 y) (M2 y)) (hm : behindInMarks op b = false := by first | exact nomark _ | rfl) : TK X Y (.Compare a [op] [b] pos) ρ cs (fun y : μ × ν => f (vl y.1) (vl2 y.1 y.2)) (fun y => cs2 y.1 y.2) (fun φ => M fun y => M2 y fun u => C (vl y) (vl2 y u) ∧ φ (y, u)) := fun F σ H ok xh φ p Q k => by
  refine wt (pt_cmpR ho pe_w pe_w hm) ?_
  refine ha F σ H ok xh _ p _ fun y v F1 H1 m1 r1 q1 => ?_
  have ok1 := ok.mv m1
  refine hb y F1 σ H1 ok1 (xh.mv m1) _ q1 _ fun u w F2 H2 m2 r2 q2 => ?_
  exact hr F2 H2 v w _ _ m2.fh (T1.mono m2.ff r1) r2 q2.1 _ fun z F3 H3 g3 r3 => ⟨_, r3, k (y, u) F3 H3 ((m1.trans m2).trans ((ok1.mv m2).grow g3)) q2.2⟩
theorem ek_ixL [Inhabited α] {a b : Expr} {T : Ty X.K α} {vl : μ → List α} {cs1 : μ → List (Cell X.K)} {M : (μ → Prop) → Prop} {vl2 : μ → ν → Int} {cs2 : μ → ν → List (Cell X.K)} {M2 : μ → (ν → Prop) → Prop} (ha : EK X Y a ρ cs (tL T) vl cs1 M) (hb : ∀ y, EK X Y b ρ (cs1 y) tI (vl2 y) (cs2 y) (M2 y)) (hs : PlainIx b := by exact fun _ _ => rfl) :
    EK X Y (.Subscript a b pos) ρ cs T (fun y : μ × ν => pyIx (vl y.1) (vl2 y.1 y.2)) (fun y => cs2 y.1 y.2) (fun φ => M fun y => M2 y fun u => IxOk (vl y) (vl2 y u) ∧ φ (y, u)) := fun F σ H ok xh φ p Q k => by
  refine we (pe_ix ix_list pe_w pe_w hs) ?_
  refine ha F σ H ok xh _ p _ fun y v F1 H1 m1 ⟨q, vs, e1, hq, r, z⟩ q1 => ?_
  refine hb y F1 σ H1 (ok.mv m1) (xh.mv m1) _ q1 _ fun u w F2 H2 m2 r2 q2 => ?_
  obtain ⟨x, hx, rx⟩ := rl_atI (Rl.mono m2.ff r) q2.1
  exact ⟨q, vs, _, x, e1, r2, SqL.of ((m2.ff.trans m2.fh) _ _ hq), hx, k (y, u) x F2 H2 (m1.trans m2) rx q2.2⟩
theorem ek_lst {es : List Expr} {T : Ty X.K α} {vl : μ → List α} {cs' : μ → List (Cell X.K)} {M : (μ → Prop) → Prop} (h : AK X Y es ρ cs (tsL T) vl cs' M) (hl : ∀ y, (vl y).length ≤ 1000) : NE X Y (.List es pos) ρ cs T vl cs' M := fun F σ H ok xh φ p Q k => by
  refine we (pe_lst pa_w) ?_
  refine h F σ H ok xh _ p _ fun y vs F1 H1 m r q => ?_
  have hz : vs.length ≤ sizeLine := Nat.le_trans (by rw [Rl.length r]; exact hl y) (by decide)
  refine ⟨hz, fun a ha => ?_⟩
  have g := grow_upd (o := .lst vs) (Grow.refl m.fh) ha
  have ok1 := ok.mv m
  have hH : H a = none := by
    cases e : H a with
    | none => rfl
    | some u =>
      by_cases hx : ∃ c ∈ cs, c.a = a
      · obtain ⟨c, hcm, rfl⟩ := hx
        exact absurd ha (m.st c hcm)
      · rw [m.kp a u e fun c hcm e => hx ⟨c, hcm, e⟩] at ha; cases ha
  refine k y a vs F1 _ (m.trans (ok1.grow g.1)) hH g.2 upd_same (fun c hc e => ?_) r hz q
  obtain ⟨_, o, e1, _⟩ := ok1.cell c hc
  rw [e, ha] at e1; cases e1
end
end MD
/-! MDs: sets of texts made of a list, and sorted. -/
namespace MD
open PySem PySem.Spec PyProof.Rows L2
/-- the text of an entry -/
def txtOf (e : Int × Value) : Str := match e.2 with | .str k _ => k | _ => Str.empty
def TxtE (P : Program) (w : World) (e : Int × Value) : Prop := ∃ k tk, e.2 = Value.str k tk ∧ e.1 = (strKind P w).hash k
/-- at a lies a set of just the texts L -/
def SetX (P : Program) (w : World) (h : Heap) (a : Addr) (L : List Str) : Prop :=
  ∃ o es ep t, h.get? a = some o ∧ o.ExactSet ∧ o.data = .set es ep t ∧ (∀ e ∈ es.toList, TxtE P w e) ∧ es.toList.map txtOf = L ∧ L.Nodup ∧
    es.size < scanBound ∧ t.fits es.size = true ∧ Ris t.place.toList ∧ (w.params.followText "set-order" = true ∨ t.led = true)
section
variable {P : Program} {w : World} {h h' : Heap} {a : Addr} {L : List Str}
theorem SetX.len (R : SetX P w h a L) : ∃ o es ep t, h.get? a = some o ∧ o.data = .set es ep t ∧ es.size = L.length := by
  obtain ⟨o, es, ep, t, ho, _, hd, _, hL, _⟩ := R
  exact ⟨o, es, ep, t, ho, hd, by rw [← hL, List.length_map, Array.length_toList]⟩
end
end MD
namespace MD
open PySem PySem.Spec PyProof.Rows L2
/-! ### views: what is seen of a value at a moment -/
abbrev Vw := Hp → Hp → V → Prop
section
variable {K : PySem.W.Frag} {α β γ : Type}
def sv (T : Ty K α) (x : α) : Vw := fun F _ v => T.rep F v x
/-- a list that stands, frozen or owned -/
def rL (T : Ty K α) (xs : List α) : Vw := fun F H v => ∃ a vs, v = .ref a ∧ H a = some (.lst vs) ∧ Rl T F vs xs ∧ vs.length ≤ sizeLine
/-- .. or known -/
def rK (T : Ty K α) (xs : List α) : Vw := fun F H v => ∃ a vs, v = .ref a ∧ SqL K H a vs ∧ Rl T F vs xs ∧ vs.length ≤ sizeLine
def rQ (T : Ty K α) (xs : List α) : Vw := fun F H v => ∃ a vs, v = .ref a ∧ (SqL K H a vs ∨ SqT K H a vs) ∧ Rl T F vs xs ∧ vs.length ≤ sizeLine
/-- it stays while things grow -/
def Stays (S : Vw) : Prop := ∀ F H F' H' v, Grow F H F' H' → S F H v → S F' H' v
theorem sv_stays {T : Ty K α} {x : α} : Stays (sv T x) := fun F H F' H' v g h => T.mono g.ff h
end
section
variable {X : Cx} {fl : Hp} {B : Hb X.K} {Y : Ec X.K} {ρ : List (Slot X.K)} {cs : List (Cell X.K)} {A R α β γ μ ν : Type} {pos : Pos} {rest : List Stmt} {D : Ends} {e : Expr}
def PV (X : Cx) (e : Expr) (ρ : List (Slot X.K)) (cs : List (Cell X.K)) (S : Vw) (P : Prop) : Prop :=
  ∀ F σ H, Okw ρ cs F σ H → P → ∀ Q : VK, (∀ v F' H', Grow F H F' H' → S F' H' v → Q v H') → WE X e σ H Q
def EV (X : Cx) (Y : Ec X.K) (e : Expr) (ρ : List (Slot X.K)) (cs : List (Cell X.K)) {μ : Type} (S : μ → Vw) (cs' : μ → List (Cell X.K)) (M : (μ → Prop) → Prop) : Prop :=
  ∀ F σ H, Okc ρ cs F σ H → Xh X Y cs F σ H → ∀ φ : μ → Prop, M φ → ∀ Q : VK, (∀ y v F' H', Mv cs F H (cs' y) F' H' → S y F' H' v → φ y → Q v H') → WE X e σ H Q
theorem PK.v {T : Ty X.K α} {x : α} {P : Prop} (h : PK X e ρ cs T x P) : PV X e ρ cs (sv T x) P := h
theorem PV.k {T : Ty X.K α} {x : α} {P : Prop} (h : PV X e ρ cs (sv T x) P) : PK X e ρ cs T x P := h
theorem EK.v {T : Ty X.K α} {vl : μ → α} {cs' : μ → List (Cell X.K)} {M : (μ → Prop) → Prop} (h : EK X Y e ρ cs T vl cs' M) : EV X Y e ρ cs (fun y => sv T (vl y)) cs' M := h
theorem EV.k {T : Ty X.K α} {vl : μ → α} {cs' : μ → List (Cell X.K)} {M : (μ → Prop) → Prop} (h : EV X Y e ρ cs (fun y => sv T (vl y)) cs' M) : EK X Y e ρ cs T vl cs' M := h
theorem PV.to {S S' : Vw} {P C : Prop} (h : PV X e ρ cs S P) (k : ∀ F H v, Same F H → S F H v → S' F H v) : PV X e ρ cs S' P := fun F σ H ok p Q q => h F σ H ok p Q fun v F' H' g s => q v F' H' g (k F' H' v g.fh s)
theorem EV.to {S S' : μ → Vw} {cs' : μ → List (Cell X.K)} {M : (μ → Prop) → Prop} (h : EV X Y e ρ cs S cs' M) (k : ∀ y F H v, Same F H → S y F H v → S' y F H v) : EV X Y e ρ cs S' cs' M := fun F σ H ok xh φ p Q q => h F σ H ok xh φ p Q fun y v F' H' m s => q y v F' H' m (k y F' H' v m.fh s)
/-! lists, frozen and owned -/
theorem PK.l {T : Ty X.K α} {xs : List α} {P : Prop} (h : PK X e ρ cs (tL T) xs P) : PV X e ρ cs (rL T xs) P := fun F σ H ok p Q q => h F σ H ok p Q fun v F' H' g ⟨a, vs, h1, h2, h3, h4⟩ => q v F' H' g ⟨a, vs, h1, g.fh _ _ h2, h3, h4⟩
theorem PK.lk {T : Ty X.K α} {xs : List α} {P : Prop} (h : PK X e ρ cs (tLK T) xs P) : PV X e ρ cs (rK T xs) P := fun F σ H ok p Q q => h F σ H ok p Q fun v F' H' g ⟨a, vs, h1, h2, h3, h4⟩ => q v F' H' g ⟨a, vs, h1, g.fh.seq h2, h3, h4⟩
theorem PK.own {T : Ty X.K α} {l : Addr} {xs : List α} {P : Prop} (j : Nat) (h : PK X e ρ cs tR l P) (hc : cs[j]? = Option.some ⟨l, cL T xs⟩) : PV X e ρ cs (rL T xs) P := fun F σ H ok p Q q => h F σ H ok p Q fun v F' H' g h1 => by
  obtain ⟨o, ho, vs, e, r, z⟩ := (ok.grow g).cell _ (List.mem_of_getElem? hc)
  subst e
  exact q v F' H' g ⟨l, vs, h1, ho, r, z⟩
theorem EK.l {T : Ty X.K α} {vl : μ → List α} {cs' : μ → List (Cell X.K)} {M : (μ → Prop) → Prop} (h : EK X Y e ρ cs (tL T) vl cs' M) : EV X Y e ρ cs (fun y => rL T (vl y)) cs' M := fun F σ H ok xh φ p Q q => h F σ H ok xh φ p Q fun y v F' H' m ⟨a, vs, h1, h2, h3, h4⟩ => q y v F' H' m ⟨a, vs, h1, m.fh _ _ h2, h3, h4⟩
theorem NE.l {T : Ty X.K α} {vl : μ → List α} {cs' : μ → List (Cell X.K)} {M : (μ → Prop) → Prop} (h : NE X Y e ρ cs T vl cs' M) : EV X Y e ρ cs (fun y => rL T (vl y)) cs' M := h.ek.l
theorem NK.l {T : Ty X.K α} {xs : List α} {P : Prop} (h : NK X e ρ cs T xs P) : PV X e ρ cs (rL T xs) P := h.pk.l
theorem PV.lk {T : Ty X.K α} {xs : List α} {P : Prop} (h : PV X e ρ cs (rL T xs) P) : PV X e ρ cs (rK T xs) P := PV.to (C := True) h fun F H v _ ⟨a, vs, h1, h2, h3, h4⟩ => ⟨a, vs, h1, SqL.of h2, h3, h4⟩
theorem PV.q {T : Ty X.K α} {xs : List α} {P : Prop} (h : PV X e ρ cs (rL T xs) P) : PV X e ρ cs (rQ T xs) P := PV.to (C := True) h fun F H v _ ⟨a, vs, h1, h2, h3, h4⟩ => ⟨a, vs, h1, .inl (SqL.of h2), h3, h4⟩
theorem PV.kq {T : Ty X.K α} {xs : List α} {P : Prop} (h : PV X e ρ cs (rK T xs) P) : PV X e ρ cs (rQ T xs) P := PV.to (C := True) h fun F H v _ ⟨a, vs, h1, h2, h3, h4⟩ => ⟨a, vs, h1, .inl h2, h3, h4⟩
theorem EV.lk {T : Ty X.K α} {vl : μ → List α} {cs' : μ → List (Cell X.K)} {M : (μ → Prop) → Prop} (h : EV X Y e ρ cs (fun y => rL T (vl y)) cs' M) : EV X Y e ρ cs (fun y => rK T (vl y)) cs' M := h.to fun y F H v _ ⟨a, vs, h1, h2, h3, h4⟩ => ⟨a, vs, h1, SqL.of h2, h3, h4⟩
theorem EV.q {T : Ty X.K α} {vl : μ → List α} {cs' : μ → List (Cell X.K)} {M : (μ → Prop) → Prop} (h : EV X Y e ρ cs (fun y => rL T (vl y)) cs' M) : EV X Y e ρ cs (fun y => rQ T (vl y)) cs' M := h.to fun y F H v _ ⟨a, vs, h1, h2, h3, h4⟩ => ⟨a, vs, h1, .inl (SqL.of h2), h3, h4⟩
/-! ### a built-in function of one thing -/
/-- from a view to a view -/
def U1 (r : List V → Hp → VK → Prop) (S : Vw) (C : Prop) (S' : Vw) : Prop := ∀ F H v, Same F H → S F H v → C → ∀ Q : VK, (∀ z F' H', Grow F H F' H' → S' F' H' z → Q z H') → r [v] H Q
/-- .. to a new list -/
def UN {K : PySem.W.Frag} (r : List V → Hp → VK → Prop) (S : Vw) (C : Prop) (T : Ty K α) (xs : List α) : Prop := ∀ F H v, Same F H → S F H v → C → ∀ Q : VK, (∀ a vs, H a = none → Rl T F vs xs → vs.length ≤ sizeLine → Q (.ref a) (upd H a (.lst vs))) → r [v] H Q
section
variable {nm : Str} {p : Pos} {id : String} {r : List V → Hp → VK → Prop} {S S' : Vw} {P C : Prop} {Se Se' : μ → Vw} {Ce : μ → Prop} {cs' : μ → List (Cell X.K)} {M : (μ → Prop) → Prop}
theorem pv_cb (hc : CallR X (.builtin id) r) (hm : X.mg nm = none) (hv : bootBuiltins nm = some (.builtin id)) (hr : U1 r S C S') (h : PV X e ρ cs S P) (hg : Gl X nm := by rfl) (hn : nm ≠ "__name__" := by decide) (hdb : (nm == ("__debug__" : Str)) = false := by decide)
    (he : starEach (e :: []) X.env = (false, eval e X.env) :: starEach [] X.env := by rfl) (hpl : (backTo pos (starEach [] X.env)).any (·.1) = false := by rfl) : PV X (.Call (.Name nm p) [e] [] pos) ρ cs S' (P ∧ C) := fun F σ H ok q Q k => by
  refine we (pe_callB hc hg hm hv (pa_cons pe_w pa_nil he) hn hdb he hpl) ?_
  refine h F σ H ok q.1 _ fun v F1 H1 g1 s => ?_
  exact hr F1 H1 v g1.fh s q.2 Q fun z F2 H2 g2 s2 => k z F2 H2 (g1.trans g2) s2
theorem ev_cb (hc : CallR X (.builtin id) r) (hm : X.mg nm = none) (hv : bootBuiltins nm = some (.builtin id)) (hr : ∀ y, U1 r (Se y) (Ce y) (Se' y)) (h : EV X Y e ρ cs Se cs' M) (hg : Gl X nm := by rfl) (hn : nm ≠ "__name__" := by decide) (hdb : (nm == ("__debug__" : Str)) = false := by decide)
    (he : starEach (e :: []) X.env = (false, eval e X.env) :: starEach [] X.env := by rfl) (hpl : (backTo pos (starEach [] X.env)).any (·.1) = false := by rfl) : EV X Y (.Call (.Name nm p) [e] [] pos) ρ cs Se' cs' (fun φ => M fun y => Ce y ∧ φ y) := fun F σ H ok xh φ q Q k => by
  refine we (pe_callB hc hg hm hv (pa_cons pe_w pa_nil he) hn hdb he hpl) ?_
  refine h F σ H ok xh _ q _ fun y v F1 H1 m1 s q1 => ?_
  exact hr y F1 H1 v m1.fh s q1.1 Q fun z F2 H2 g2 s2 => k y z F2 H2 (m1.trans ((ok.mv m1).grow g2)) s2 q1.2
theorem new_ne {cs cs1 : List (Cell X.K)} {F H F1 H1 : Hp} {σ : L2.St} {a : Addr} {vs : List V} (ok : Okc ρ cs F σ H) (m : Mv cs F H cs1 F1 H1) (ha : H1 a = none) : Mv cs F H cs1 F1 (upd H1 a (.lst vs)) ∧ H a = none ∧ F1 a = none ∧ ∀ c ∈ cs1, c.a ≠ a := by
  have g := grow_upd (o := .lst vs) (Grow.refl m.fh) ha
  have ok1 := ok.mv m
  refine ⟨m.trans (ok1.grow g.1), ?_, g.2, fun c hc e => ?_⟩
  · cases e : H a with
    | none => rfl
    | some u =>
      by_cases hx : ∃ c ∈ cs, c.a = a
      · obtain ⟨c, hcm, rfl⟩ := hx
        exact absurd ha (m.st c hcm)
      · rw [m.kp a u e fun c hcm e => hx ⟨c, hcm, e⟩] at ha; cases ha
  · obtain ⟨_, o, e1, _⟩ := ok1.cell c hc
    rw [e, ha] at e1; cases e1
variable {T : Ty X.K α} {xs : List α} {vl : μ → List α}
theorem nk_ct (hc : CallR X (.type id) r) (hm : X.mg nm = none) (hv : bootBuiltins nm = some (.type id)) (hr : UN r S C T xs) (h : PV X e ρ cs S P) (hg : Gl X nm := by rfl) (hn : nm ≠ "__name__" := by decide) (hdb : (nm == ("__debug__" : Str)) = false := by decide)
    (he : starEach (e :: []) X.env = (false, eval e X.env) :: starEach [] X.env := by rfl) (hpl : (backTo pos (starEach [] X.env)).any (·.1) = false := by rfl) : NK X (.Call (.Name nm p) [e] [] pos) ρ cs T xs (P ∧ C) := fun F σ H ok q Q k => by
  refine we (pe_callTy hc hg hm hv (pa_cons pe_w pa_nil he) hn hdb he hpl) ?_
  refine h F σ H ok q.1 _ fun v F1 H1 g1 s => ?_
  refine hr F1 H1 v g1.fh s q.2 Q fun a vs hn r z => ?_
  obtain ⟨g2, hF⟩ := grow_upd (o := .lst vs) g1 hn
  exact k a vs F1 _ g2 (g1.hh.free hn) hF upd_same r z
end
end
/-! ### the order of texts -/
def leS (a b : Str) : Bool := !decide (b.cps.toList < a.cps.toList)
theorem str_ext {a b : Str} (h : a.cps.toList = b.cps.toList) : a = b := by
  cases a; cases b
  simp at h
  rw [h]
def sortS (xs : List Str) : List Str := xs.mergeSort leS
theorem sortS_perm (xs : List Str) : (sortS xs).Perm xs := List.mergeSort_perm xs leS
theorem sortS_mem {xs : List Str} {x : Str} : x ∈ sortS xs ↔ x ∈ xs := (sortS_perm xs).mem_iff
end MD
namespace MD
open PySem PySem.Spec PyProof.Rows L2
section
variable {K : PySem.W.Frag} {α β γ : Type}
theorem strOk_iff {x : Str} : PySem.PyData.strOk x = true ↔ ∀ c ∈ x.cps.toList, c < 0x110000 := by
  unfold PySem.PyData.strOk
  rw [← Array.all_toList, List.all_eq_true]
  simp
theorem strOk_join {sep : Str} {ys : List Str} (h : PySem.PyData.strOk sep = true) (hy : ∀ y ∈ ys, PySem.PyData.strOk y = true) : PySem.PyData.strOk (Str.join sep ys) = true := by
  rw [strOk_iff] at *
  intro c hc
  rcases (mem_join sep c ys).mp hc with ⟨t, ht, h1⟩ | ⟨_, h1⟩
  · exact strOk_iff.mp (hy t ht) c h1
  · exact h c h1
theorem strOk_cut {z : Str} {lo hi : Option Int} (h : PySem.PyData.strOk z = true) : PySem.PyData.strOk (cutS z lo hi) = true := by
  rw [strOk_iff] at *
  intro c hc
  exact h c (List.mem_of_mem_drop (List.mem_of_mem_take (by simpa [cutS] using hc)))
theorem rl_strs {F : Hp} {vs : List V} {xs : List Str} (h : Rl (tS (K := K)) F vs xs) : vs = xs.map V.str ∧ ∀ x ∈ xs, PySem.PyData.strOk x = true := by
  induction h with
  | nil => exact ⟨rfl, fun x hx => (by cases hx)⟩
  | cons r _ ih => exact ⟨by rw [List.map_cons, r.1, ih.1], fun x hx => (List.mem_cons.mp hx).elim (fun e => by rw [e]; exact r.2) (ih.2 x)⟩
theorem rl_of_ints {F : Hp} : ∀ {xs : List Int}, Rl (tI (K := K)) F (xs.map V.int) xs
  | [] => .nil
  | x :: xs => .cons rfl rl_of_ints
theorem rl_bls {F : Hp} {vs : List V} {xs : List Bool} (h : Rl (tB (K := K)) F vs xs) : vs = xs.map V.bl := by
  induction h with
  | nil => rfl
  | cons r _ ih => rw [List.map_cons, ih]; congr
/-! ### built-in functions of one thing -/
theorem u_len {T : Ty K α} {xs : List α} : U1 (rLenQ K) (rQ T xs) True (sv (tI (K := K)) (xs.length : Int)) := fun F H v s ⟨a, vs, e, h, r, z⟩ _ Q k => by
  subst e
  exact ⟨a, vs, rfl, h, by rw [Rl.length r]; exact k _ F H (Grow.refl s) rfl⟩
theorem u_lenS {x : Str} : U1 (fun xs H Q => ∃ z, xs = [.str z] ∧ z.length ≤ sizeLine ∧ Q (.int z.length) H) (sv (tS (K := K)) x) (x.length ≤ sizeLine) (sv (tI (K := K)) (x.length : Int)) := fun F H v s h c Q k => ⟨x, by rw [h.1], c, k _ F H (Grow.refl s) rfl⟩
/-- the texts of xs, each once, sorted -/
def setS (xs : List Str) : List Str := sortS xs.eraseDups
theorem nodup_eraseDups [BEq α] [LawfulBEq α] : ∀ (xs : List α), xs.eraseDups.Nodup
  | [] => by simp
  | x :: xs => by
    rw [List.eraseDups_cons]
    refine List.nodup_cons.mpr ⟨fun h => ?_, nodup_eraseDups _⟩
    have := List.mem_eraseDups.mp h
    simp at this
  termination_by xs => xs.length
  decreasing_by
    have := List.length_filter_le (fun b => !b == x) xs
    simp only [List.length_cons]
    omega
theorem n_list {T : Ty K α} {xs : List α} : UN (fun vs H Q => ∃ p ys, vs = [.ref p] ∧ (SqL K H p ys ∨ SqT K H p ys) ∧ ∀ l, H l = none → Q (.ref l) (upd H l (.lst ys))) (rQ T xs) True T xs := fun F H v s ⟨a, vs, e, h, r, z⟩ _ Q k => by
  subst e
  exact ⟨a, vs, rfl, h, fun l hl => k l vs hl r z⟩
theorem u_all {xs : List Bool} : U1 (rAll K) (rK (tB (K := K)) xs) True (sv (tB (K := K)) (xs.all id)) := fun F H v s ⟨a, vs, e, h, r, z⟩ _ Q k => by
  subst e
  obtain rfl := rl_bls r
  exact ⟨a, xs, rfl, h, k _ F H (Grow.refl s) rfl⟩
/-! ### flat things in a row -/
structure FT [DecidableEq α] (T : Ty K α) : Prop where
  flat : ∀ F v x, T.rep F v x → flatV v = true
  eqv : ∀ F v w x y, T.rep F v x → T.rep F w y → eqV v w = decide (x = y)
theorem fI : FT (tI (K := K)) := ⟨fun F v x h => by cases h; rfl, fun F v w x y h1 h2 => by
  cases h1; cases h2
  show (x == y) = _
  exact Bool.beq_eq_decide_eq _ _⟩
theorem fS : FT (tS (K := K)) := ⟨fun F v x h => by obtain ⟨e, _⟩ := h; subst e; rfl, fun F v w x y h1 h2 => by
  obtain ⟨e1, _⟩ := h1; obtain ⟨e2, _⟩ := h2
  subst e1; subst e2
  show (x == y) = _
  exact Bool.beq_eq_decide_eq _ _⟩
theorem ft_all [DecidableEq α] {T : Ty K α} (f : FT T) {F : Hp} {vs : List V} {xs : List α} (r : Rl T F vs xs) : vs.all flatV = true := by
  induction r with
  | nil => rfl
  | cons r _ ih => rw [List.all_cons, f.flat _ _ _ r, ih] <;> rfl
theorem ft_in [DecidableEq α] {T : Ty K α} (f : FT T) {F : Hp} {v : V} {x : α} {vs : List V} {xs : List α} (h : T.rep F v x) (r : Rl T F vs xs) : inV v vs = decide (x ∈ xs) := by
  unfold inV
  induction r with
  | nil => simp
  | cons r _ ih =>
    rw [List.any_cons, ih, f.eqv _ _ _ _ _ r h, ← Bool.decide_or]
    exact decide_eq_decide.mpr (by rw [List.mem_cons, eq_comm])
end
section
variable {X : Cx} {fl : Hp} {B : Hb X.K} {Y : Ec X.K} {ρ : List (Slot X.K)} {cs : List (Cell X.K)} {A R α β γ μ ν : Type} {pos : Pos} {rest : List Stmt} {D : Ends} {e : Expr}
theorem pt_in [DecidableEq α] {a b : Expr} {T : Ty X.K α} {x : α} {xs : List α} {P1 P2 : Prop} (f : FT T) (ha : PK X a ρ cs T x P1) (hb : PV X b ρ cs (rQ T xs) P2) (hm : behindInMarks .In b = false := by rfl) : PTK X (.Compare a [.In] [b] pos) ρ cs (decide (x ∈ xs)) (P1 ∧ P2) := fun F σ H ok p Q k => by
  refine wt (pt_cmpR op_in_seq pe_w pe_w hm) ?_
  refine ha F σ H ok p.1 _ fun v F1 H1 g1 r1 => ?_
  refine hb F1 σ H1 (ok.grow g1) p.2 _ fun w F2 H2 g2 ⟨q, vs, e, h, r, z⟩ => ?_
  refine ⟨q, vs, e, h, f.flat _ _ _ r1, ft_all f r, ?_⟩
  rw [ft_in f (T.mono g2.ff r1) r]
  exact ⟨_, rfl, k F2 H2 (g1.trans g2)⟩
theorem pt_nin [DecidableEq α] {a b : Expr} {T : Ty X.K α} {x : α} {xs : List α} {P1 P2 : Prop} (f : FT T) (ha : PK X a ρ cs T x P1) (hb : PV X b ρ cs (rQ T xs) P2) (hm : behindInMarks .NotIn b = false := by rfl) : PTK X (.Compare a [.NotIn] [b] pos) ρ cs (!decide (x ∈ xs)) (P1 ∧ P2) := fun F σ H ok p Q k => by
  refine wt (pt_cmpR op_notIn_seq pe_w pe_w hm) ?_
  refine ha F σ H ok p.1 _ fun v F1 H1 g1 r1 => ?_
  refine hb F1 σ H1 (ok.grow g1) p.2 _ fun w F2 H2 g2 ⟨q, vs, e, h, r, z⟩ => ?_
  refine ⟨q, vs, e, h, f.flat _ _ _ r1, ft_all f r, ?_⟩
  show ∃ k, V.bl (!inV v vs) = .bl k ∧ Q k H2
  rw [ft_in f (T.mono g2.ff r1) r]
  exact ⟨_, rfl, k F2 H2 (g1.trans g2)⟩
/-! ### items of what stands -/
theorem pk_ixR [Inhabited α] {a b : Expr} {T : Ty X.K α} {xs : List α} {i : Int} {P1 P2 : Prop} (ha : PV X a ρ cs (rK T xs) P1) (hb : PK X b ρ cs tI i P2) (hs : PlainIx b := by exact fun _ _ => rfl) : PK X (.Subscript a b pos) ρ cs T (pyIx xs i) (P1 ∧ P2 ∧ IxOk xs i) := fun F σ H ok p Q k => by
  refine we (pe_ix ix_list pe_w pe_w hs) ?_
  refine ha F σ H ok p.1 _ fun v F1 H1 g1 ⟨q, vs, e1, hq, r, z⟩ => ?_
  refine hb F1 σ H1 (ok.grow g1) p.2.1 _ fun w F2 H2 g2 r2 => ?_
  obtain ⟨u, hu, ru⟩ := rl_atI (Rl.mono g2.ff r) p.2.2
  exact ⟨q, vs, i, u, e1, r2, g2.hh.seq hq, hu, k u F2 H2 (g1.trans g2) ru⟩
theorem atI_signs {z : Str} {i : Int} (hi : IxOk (signs z) i) : ∃ c, atI z.cps.toList i = some c ∧ c ∈ z.cps.toList ∧ pyIx (signs z) i = ⟨#[c]⟩ := by
  have hl : (signs z).length = z.cps.toList.length := by unfold signs; rw [List.length_map]
  unfold IxOk at hi
  rw [hl] at hi
  unfold pyIx atI
  rw [hl]
  have get : ∀ j : Nat, j < z.cps.toList.length → ∃ c, z.cps.toList[j]? = some c ∧ c ∈ z.cps.toList ∧ ((signs z)[j]?).getD default = ⟨#[c]⟩ := fun j hj => by
    refine ⟨z.cps.toList[j], List.getElem?_eq_getElem hj, List.getElem_mem hj, ?_⟩
    unfold signs
    rw [List.getElem?_map, List.getElem?_eq_getElem hj]
    rfl
  by_cases h0 : 0 ≤ i
  · have e : ixN z.cps.toList.length i = some i.toNat := by unfold ixN; rw [if_pos h0, if_pos hi.2]
    rw [e]
    exact get _ (by omega)
  · have e : ixN z.cps.toList.length i = some (i + z.cps.toList.length).toNat := by unfold ixN; rw [if_neg h0, if_pos hi.1]
    rw [e]
    exact get _ (by omega)
/-- a sign of a text -/
theorem pk_ixS {a b : Expr} {z : Str} {i : Int} {P1 P2 : Prop} (ha : PK X a ρ cs tS z P1) (hb : PK X b ρ cs tI i P2) (hs : PlainIx b := by exact fun _ _ => rfl) : PK X (.Subscript a b pos) ρ cs tS (pyIx (signs z) i) (P1 ∧ P2 ∧ z.length ≤ sizeLine ∧ IxOk (signs z) i) := fun F σ H ok p Q k => by
  refine we (pe_ix ix_str pe_w pe_w hs) ?_
  refine ha F σ H ok p.1 _ fun v F1 H1 g1 r1 => ?_
  refine hb F1 σ H1 (ok.grow g1) p.2.1 _ fun w F2 H2 g2 r2 => ?_
  obtain ⟨c, h1, h2, h3⟩ := atI_signs p.2.2.2
  exact ⟨z, i, c, r1.1, r2, p.2.2.1, h1, k _ F2 H2 (g1.trans g2) ⟨by rw [h3], by rw [h3]; exact strOk_sign r1.2 h2⟩⟩
theorem ek_ixS {a b : Expr} {vl : μ → Str} {cs1 : μ → List (Cell X.K)} {M : (μ → Prop) → Prop} {vl2 : μ → ν → Int} {cs2 : μ → ν → List (Cell X.K)} {M2 : μ → (ν → Prop) → Prop} (ha : EK X Y a ρ cs tS vl cs1 M) (hb : ∀ y, EK X Y b ρ (cs1 y) tI (vl2 y) (cs2 y) (M2 y)) (hs : PlainIx b := by exact fun _ _ => rfl) :
    EK X Y (.Subscript a b pos) ρ cs tS (fun y : μ × ν => pyIx (signs (vl y.1)) (vl2 y.1 y.2)) (fun y => cs2 y.1 y.2) (fun φ => M fun y => M2 y fun u => (vl y).length ≤ sizeLine ∧ IxOk (signs (vl y)) (vl2 y u) ∧ φ (y, u)) := fun F σ H ok xh φ p Q k => by
  refine we (pe_ix ix_str pe_w pe_w hs) ?_
  refine ha F σ H ok xh _ p _ fun y v F1 H1 m1 r1 q1 => ?_
  refine hb y F1 σ H1 (ok.mv m1) (xh.mv m1) _ q1 _ fun u w F2 H2 m2 r2 q2 => ?_
  obtain ⟨c, h1, h2, h3⟩ := atI_signs q2.2.1
  exact ⟨_, _, c, r1.1, r2, q2.1, h1, k (y, u) _ F2 H2 (m1.trans m2) ⟨by show V.str _ = V.str (pyIx (signs (vl y)) (vl2 y u)); rw [h3], by show PySem.PyData.strOk (pyIx (signs (vl y)) (vl2 y u)) = true; rw [h3]; exact strOk_sign r1.2 h2⟩ q2.2.2⟩
/-- the n-th of a tuple of written places -/
inductive Nth {K : PySem.W.Frag} : {α β : Type} → Nat → Tys K α → Ty K β → (α → β) → Prop
  | one {α : Type} {T : Ty K α} : Nth 0 (ts1 T) T fun x => x
  | here {α β : Type} {T : Ty K α} {Ts : Tys K β} : Nth 0 (tsC T Ts) T fun x => x.1
  | next {α β γ : Type} {n : Nat} {T : Ty K α} {Ts : Tys K β} {U : Ty K γ} {f : β → γ} : Nth n Ts U f → Nth (n + 1) (tsC T Ts) U fun x => f x.2
theorem Nth.get {K : PySem.W.Frag} {α β : Type} {n : Nat} {Ts : Tys K α} {U : Ty K β} {f : α → β} (h : Nth n Ts U f) : ∀ {F : Hp} {vs : List V} {x : α}, Ts.rep F vs x → ∃ v, vs[n]? = some v ∧ U.rep F v (f x) := by
  induction h with
  | one => intro F vs x ⟨v, e, r⟩; subst e; exact ⟨v, rfl, r⟩
  | here => intro F vs x ⟨v, r, e, h, _⟩; subst e; exact ⟨v, rfl, h⟩
  | next _ ih =>
    intro F vs x ⟨v, r, e, _, h⟩
    subst e
    obtain ⟨u, e1, q⟩ := ih h
    exact ⟨u, by simpa using e1, q⟩
/-! ### join -/
theorem rq_strs {F H : Hp} {v : V} {ys : List Str} (h : rQ (tS (K := X.K)) ys F H v) : ∃ p, v = .ref p ∧ (SqL X.K H p (ys.map V.str) ∨ SqT X.K H p (ys.map V.str)) ∧ ∀ y ∈ ys, PySem.PyData.strOk y = true := by
  obtain ⟨p, vs, e, h, r, z⟩ := h
  obtain ⟨e1, ok⟩ := rl_strs r
  subst e1
  exact ⟨p, e, h, ok⟩
theorem ek_join {o a : Expr} {sep : Str} {vl : μ → List Str} {cs1 : μ → List (Cell X.K)} {M : (μ → Prop) → Prop} {P1 : Prop} {apos : Pos} (ho : PK X o ρ cs tS sep P1) (ha : EV X Y a ρ cs (fun y => rQ (tS (K := X.K)) (vl y)) cs1 M) (hs : starEach [a] X.env = [(false, eval a X.env)] := by rfl) (hbase : attributeBase o "join" X.env (eval o X.env) = eval o X.env := by rfl) (hline : (apos.endLine == pos.line) = true := by rfl) :
    EK X Y (.Call (.Attribute o "join" apos) [a] [] pos) ρ cs tS (fun y => Str.join sep (vl y)) cs1 (fun φ => P1 ∧ M fun y => ((vl y).map (·.length)).sum + (vl y).length * sep.length ≤ 16777216 ∧ φ y) := fun F σ H ok xh φ p Q k => by
  refine we (pe_join pe_w pe_w hs hbase hline) ?_
  refine ho F σ H ok.w p.1 _ fun v F1 H1 g1 r1 => ⟨⟨sep, r1.1⟩, ?_⟩
  have m0 := ok.grow g1
  refine ha F1 σ H1 (ok.mv m0) (xh.mv m0) _ p.2 _ fun y w F2 H2 m2 s q2 => ?_
  obtain ⟨q, e, h, oky⟩ := rq_strs s
  refine ⟨sep, q, vl y, r1.1, by rw [e], h, q2.1, ?_⟩
  exact k y _ F2 H2 (m0.trans m2) ⟨congrArg V.str (PySem.StrLaws.glued_eq_join sep (vl y)), strOk_join r1.2 oky⟩ q2.2
end
end MD
namespace MD
open PySem PySem.Spec PyProof.Rows L2
section
variable {K : PySem.W.Frag} {α β γ : Type}
/-! ### methods of owned lists -/
theorem Rl.erase {T : Ty K α} {F : Hp} : ∀ {vs : List V} {xs : List α} (i : Nat), Rl T F vs xs → Rl T F (vs.eraseIdx i) (xs.eraseIdx i)
  | _, _, _, .nil => .nil
  | _, _, 0, .cons _ t => t
  | _, _, i + 1, .cons r t => .cons r (Rl.erase i t)
theorem Rl.drop {T : Ty K α} {F : Hp} : ∀ {vs : List V} {xs : List α} (i : Nat), Rl T F vs xs → Rl T F (vs.drop i) (xs.drop i)
  | _, _, 0, h => h
  | _, _, _ + 1, .nil => .nil
  | _, _, i + 1, .cons _ t => Rl.drop i t
theorem Rl.take {T : Ty K α} {F : Hp} : ∀ {vs : List V} {xs : List α} (i : Nat), Rl T F vs xs → Rl T F (vs.take i) (xs.take i)
  | _, _, 0, _ => .nil
  | _, _, _ + 1, .nil => .nil
  | _, _, i + 1, .cons r t => .cons r (Rl.take i t)
theorem Rl.rev {T : Ty K α} {F : Hp} : ∀ {vs : List V} {xs : List α}, Rl T F vs xs → Rl T F vs.reverse xs.reverse
  | _, _, .nil => .nil
  | _, _, .cons r t => by rw [List.reverse_cons, List.reverse_cons]; exact Rl.append (Rl.rev t) (.cons r .nil)
/-! ### plain data -/
structure DT (T : Ty K α) where
  d : α → PyData
  n : Nat
  dp : ∀ F H v x, Same F H → T.rep F v x → Dp K H v (d x)
  lay : ∀ F v x, T.rep F v x → (d x).canLay0 = true
  dep : ∀ x, (d x).depth ≤ n
  eqv : ∀ x y, PyData.eqv (d x) (d y) = true ↔ x = y
structure DTs (T : Tys K α) where
  d : α → List PyData
  n : Nat
  dp : ∀ F H v x, Same F H → T.rep F v x → DpAll K H v (d x)
  lay : ∀ F v x, T.rep F v x → PyData.canLayAll0 (d x) = true
  dep : ∀ x, PyData.depthAll (d x) ≤ n
  eqv : ∀ x y, PyData.eqvAll (d x) (d y) = true ↔ x = y
def dB : DT (tB (K := K)) := ⟨.bool, 0, fun F H v x s h => by cases h; exact .bl x, fun F v x h => by simp [PyData.canLay0], fun x => by simp [PyData.depth], fun x y => by simp [PyData.eqv]⟩
def dS : DT (tS (K := K)) := ⟨.str, 0, fun F H v x s h => by obtain ⟨e, _⟩ := h; subst e; exact .str x, fun F v x h => by simp only [PyData.canLay0]; exact h.2, fun x => by simp [PyData.depth], fun x y => by simp [PyData.eqv]⟩
theorem dp_all {T : Ty K α} (D : DT T) {F H : Hp} (s : Same F H) : ∀ {vs : List V} {xs : List α}, Rl T F vs xs → DpAll K H vs (xs.map D.d)
  | _, _, .nil => .nil
  | _, _, .cons r t => .cons (D.dp F H _ _ s r) (dp_all D s t)
theorem lay_all {T : Ty K α} (D : DT T) {F : Hp} : ∀ {vs : List V} {xs : List α}, Rl T F vs xs → PyData.canLayAll0 (xs.map D.d) = true
  | _, _, .nil => by simp [PyData.canLayAll0]
  | _, _, .cons r t => by simp only [List.map_cons, PyData.canLayAll0, D.lay _ _ _ r, lay_all D t, Bool.and_self]
theorem dep_all {T : Ty K α} (D : DT T) : ∀ xs : List α, PyData.depthAll (xs.map D.d) ≤ D.n
  | [] => by simp [PyData.depthAll]
  | x :: xs => by simp only [List.map_cons, PyData.depthAll]; exact Nat.max_le.mpr ⟨D.dep x, dep_all D xs⟩
theorem eqv_all {T : Ty K α} (D : DT T) : ∀ xs ys : List α, PyData.eqvAll (xs.map D.d) (ys.map D.d) = true ↔ xs = ys
  | [], [] => by simp [PyData.eqvAll]
  | [], y :: ys => by simp [PyData.eqvAll]
  | x :: xs, [] => by simp [PyData.eqvAll]
  | x :: xs, y :: ys => by simp only [List.map_cons, PyData.eqvAll, Bool.and_eq_true, D.eqv, eqv_all D xs ys, List.cons.injEq]
def dL {T : Ty K α} (D : DT T) : DT (tL T) := ⟨fun xs => .list (xs.map D.d), D.n + 1, fun F H v x s ⟨a, vs, e, h, r, z⟩ => by subst e; exact .lst (SqL.of (s _ _ h)) (dp_all D s r), fun F v x ⟨a, vs, e, h, r, z⟩ => by simp only [PyData.canLay0]; exact lay_all D r,
  fun x => by simp only [PyData.depth]; exact Nat.succ_le_succ (dep_all D x), fun x y => by simp only [PyData.eqv]; exact eqv_all D x y⟩
def dT {Ts : Tys K α} (D : DTs Ts) : DT (tT Ts) := ⟨fun x => .tuple (D.d x), D.n + 1, fun F H v x s ⟨a, vs, e, h, r⟩ => by subst e; exact .tup (SqT.of (s _ _ h)) (D.dp F H _ _ s r), fun F v x ⟨a, vs, e, h, r⟩ => by simp only [PyData.canLay0]; exact D.lay _ _ _ r,
  fun x => by simp only [PyData.depth]; exact Nat.succ_le_succ (D.dep x), fun x y => by simp only [PyData.eqv]; exact D.eqv x y⟩
/-- a view of plain data -/
def DV (K : PySem.W.Frag) (S : Vw) (d : PyData) : Prop := ∀ F H v, Same F H → S F H v → Dp K H v d ∧ SeqAt.shaped d = true
theorem shaped_of {d : PyData} {n : Nat} (h : d.canLay0 = true) (h2 : d.depth ≤ n) (hn : n ≤ 64) : SeqAt.shaped d = true := by
  unfold SeqAt.shaped
  rw [h, Bool.true_and, decide_eq_true_eq]
  omega
theorem dv_sv {T : Ty K α} (D : DT T) {x : α} (hn : D.n ≤ 64 := by exact Nat.le_of_ble_eq_true rfl) : DV K (sv T x) (D.d x) := fun F H v s h => ⟨D.dp F H v x s h, shaped_of (D.lay _ _ _ h) (D.dep x) hn⟩
theorem eqv_dec [DecidableEq α] {T : Ty K α} (D : DT T) (x y : α) : PyData.eqv (D.d x) (D.d y) = decide (x = y) := by
  rw [Bool.eq_iff_iff, D.eqv, decide_eq_true_eq]
/-! ### what is of which type -/
def TVw (K : PySem.W.Frag) (S : Vw) (t : String) : Prop := ∀ F H v, Same F H → S F H v → TyX K H v (.type t)
theorem ty_I {x : Int} : TVw K (sv (tI (K := K)) x) "int" := fun F H v s h => by cases h; exact .base (.int x)
theorem ty_S {x : Str} : TVw K (sv (tS (K := K)) x) "str" := fun F H v s h => by obtain ⟨e, _⟩ := h; subst e; exact .base (.str x)
theorem ty_Lf {T : Ty K α} {x : List α} : TVw K (sv (tL T) x) "list" := fun F H v s ⟨a, vs, e, h, r, z⟩ => by subst e; exact .base (.lst (s _ _ h))
def cutA (xs : List α) (lo hi : Option Int) : List α := (xs.drop (HT.sIx xs.length 0 lo)).take (HT.sIx xs.length xs.length hi - HT.sIx xs.length 0 lo)
theorem Rl.cut {T : Ty K α} {F : Hp} {vs : List V} {xs : List α} {lo hi : Option Int} (h : Rl T F vs xs) : Rl T F (cutV vs lo hi) (cutA xs lo hi) := by
  unfold cutV cutA
  rw [Rl.length h]
  exact Rl.take _ (Rl.drop _ h)
end
section
variable {X : Cx} {fl : Hp} {B : Hb X.K} {Y : Ec X.K} {ρ : List (Slot X.K)} {cs : List (Cell X.K)} {A R α β γ μ ν : Type} {pos : Pos} {rest : List Stmt} {D : Ends} {e : Expr}
theorem pk_eqV {a b : Expr} {S1 S2 : Vw} {d1 d2 : PyData} {r : Bool} {P1 P2 : Prop} (hu : X.A.units + 64 < cLine) (h1 : DV X.K S1 d1) (h2 : DV X.K S2 d2) (st : Stays S1) (he : PyData.eqv d1 d2 = r) (ha : PV X a ρ cs S1 P1) (hb : PV X b ρ cs S2 P2) (hm : behindInMarks .Eq b = false := by first | exact nomark _ | rfl) :
    PK X (.Compare a [.Eq] [b] pos) ρ cs tB r (P1 ∧ P2) := fun F σ H ok p Q k => by
  refine we (pe_cmpR (op_eqD hu) pe_w pe_w hm) ?_
  refine ha F σ H ok p.1 _ fun v F1 H1 g1 s1 => ?_
  refine hb F1 σ H1 (ok.grow g1) p.2 _ fun w F2 H2 g2 s2 => ?_
  have q1 := h1 F2 H2 v g2.fh (st _ _ _ _ _ g2 s1)
  have q2 := h2 F2 H2 w g2.fh s2
  exact ⟨d1, d2, q1.1, q2.1, q1.2, q2.2, k _ F2 H2 (g1.trans g2) (by rw [he]; rfl)⟩
theorem pk_isi {a : Expr} {S : Vw} {t c : String} {r : Bool} {P : Prop} {nm cn : Str} {p p2 : Pos} (h : TVw X.K S t) (ha : PV X a ρ cs S P) (hm : X.mg nm = none) (hv : bootBuiltins nm = some (.builtin "isinstance")) (hm2 : X.mg cn = none) (hv2 : bootBuiltins cn = some (.type c)) (hk : kitB t c = some r) (hg : Gl X nm := by rfl) (hg2 : Gl X cn := by rfl) (hn : nm ≠ "__name__" := by decide) (hdb : (nm == ("__debug__" : Str)) = false := by decide)
    (hn2 : cn ≠ "__name__" := by decide) (hdb2 : (cn == ("__debug__" : Str)) = false := by decide)
    (he : starEach (a :: [.Name cn p2]) X.env = (false, eval a X.env) :: starEach [.Name cn p2] X.env := by rfl) (he2 : starEach (.Name cn p2 :: []) X.env = (false, eval (.Name cn p2) X.env) :: starEach [] X.env := by rfl) (hpl : (backTo pos (starEach [.Name cn p2] X.env)).any (·.1) = false := by rfl) :
    PK X (.Call (.Name nm p) [a, .Name cn p2] [] pos) ρ cs tB r P := fun F σ H ok q Q k => by
  refine we (pe_callB call_isi hg hm hv (pa_cons pe_w (pa_cons (pe_bltn (v := .ty c) hg2 hm2 hv2 rfl hn2 hdb2) pa_nil he2) he) hn hdb he hpl) ?_
  refine ha F σ H ok q _ fun v F1 H1 g1 s1 => ?_
  exact ⟨v, .ty c, _, _, r, rfl, .ty c, h F1 H1 v g1.fh s1, kit_ty hk, k _ F1 H1 g1 rfl⟩
/-! ### slices -/
def WO (X : Cx) (e : Option Expr) : TO := fun σ H Q => ∀ pins s, Inv X pins σ H s → wpAny (model X.prog X.w) X.A (evalPart e X.env) (fun u s' => ∃ o H', Inv X pins σ H' s' ∧ IsPart u o ∧ Q o H') X.xe s
theorem po_w {e : Option Expr} : PO X e (WO X e) := ⟨fun pins s σ H Q I h => h pins s I⟩
def PKo (X : Cx) (e : Option Expr) (ρ : List (Slot X.K)) (cs : List (Cell X.K)) (o : Option Int) (P : Prop) : Prop :=
  ∀ F σ H, Okw ρ cs F σ H → P → ∀ Q : Option Int → Hp → Prop, (∀ F' H', Grow F H F' H' → Q o H') → WO X e σ H Q
theorem po_0 : PKo X none ρ cs none True := fun F σ H ok _ Q k => fun pins s I => po_none.run pins s σ H Q I (k F H (Grow.refl ok.same))
theorem po_1 {e : Expr} {i : Int} {P : Prop} (h : PK X e ρ cs tI i P) : PKo X (some e) ρ cs (some i) P := fun F σ H ok p Q k => fun pins s I => (po_some pe_w).run pins s σ H Q I (h F σ H ok p _ fun v F' H' g r => ⟨i, r, k F' H' g⟩)
theorem pk_slS {a : Expr} {lo hi : Option Expr} {z : Str} {l h : Option Int} {P P1 P2 : Prop} {p2 : Pos} (ha : PK X a ρ cs tS z P) (hl : PKo X lo ρ cs l P1) (hh : PKo X hi ρ cs h P2) : PK X (.Subscript a (.Slice lo hi none p2) pos) ρ cs tS (cutS z l h) (P ∧ P1 ∧ P2 ∧ z.length ≤ sizeLine) := fun F σ H ok q Q k => by
  refine we (pe_slice sl_str pe_w po_w po_w) ?_
  refine ha F σ H ok q.1 _ fun v F1 H1 g1 r1 => ?_
  refine hl F1 σ H1 (ok.grow g1) q.2.1 _ fun F2 H2 g2 => ?_
  refine hh F2 σ H2 (ok.grow (g1.trans g2)) q.2.2.1 _ fun F3 H3 g3 => ?_
  exact ⟨z, r1.1, q.2.2.2, k _ F3 H3 ((g1.trans g2).trans g3) ⟨rfl, strOk_cut r1.2⟩⟩
theorem nk_slL {a : Expr} {lo hi : Option Expr} {T : Ty X.K α} {xs : List α} {l h : Option Int} {P P1 P2 : Prop} {p2 : Pos} (ha : PV X a ρ cs (rK T xs) P) (hl : PKo X lo ρ cs l P1) (hh : PKo X hi ρ cs h P2) : NK X (.Subscript a (.Slice lo hi none p2) pos) ρ cs T (cutA xs l h) (P ∧ P1 ∧ P2) := fun F σ H ok q Q k => by
  refine we (pe_slice sl_list pe_w po_w po_w) ?_
  refine ha F σ H ok q.1 _ fun v F1 H1 g1 ⟨b, vs, e, hb, r, z⟩ => ?_
  refine hl F1 σ H1 (ok.grow g1) q.2.1 _ fun F2 H2 g2 => ?_
  refine hh F2 σ H2 (ok.grow (g1.trans g2)) q.2.2 _ fun F3 H3 g3 => ?_
  refine ⟨b, vs, e, (g2.hh.trans g3.hh).seq hb, fun p hp => ?_⟩
  have g := (g1.trans g2).trans g3
  obtain ⟨g4, hF⟩ := grow_upd (o := .lst (cutV vs l h)) g hp
  exact k p _ F3 _ g4 (g.hh.free hp) hF upd_same (Rl.cut (r.mono (g2.ff.trans g3.ff))) (Nat.le_trans (cutV_length ..) z)
/-! ### one behind another -/
theorem nk_cat {a b : Expr} {T : Ty X.K α} {xs ys : List α} {P1 P2 : Prop} (ha : PV X a ρ cs (rL T xs) P1) (hb : PV X b ρ cs (rL T ys) P2) : NK X (.BinOp a .Add b pos) ρ cs T (xs ++ ys) (P1 ∧ P2 ∧ xs.length + ys.length ≤ sizeLine) := fun F σ H ok q Q k => by
  refine we (pe_op op_cat pe_w pe_w) ?_
  refine ha F σ H ok q.1 _ fun v F1 H1 g1 ⟨l, vs, e, h, r, z⟩ => ?_
  refine hb F1 σ H1 (ok.grow g1) q.2.1 _ fun w F2 H2 g2 ⟨m, ws, e2, h2, r2, z2⟩ => ?_
  have hl : vs.length + ws.length ≤ sizeLine := by rw [Rl.length r, Rl.length r2]; exact q.2.2
  refine ⟨l, m, vs, ws, e, e2, g2.hh _ _ h, h2, hl, fun p hp => ?_⟩
  have g := g1.trans g2
  obtain ⟨g4, hF⟩ := grow_upd (o := .lst (vs ++ ws)) g hp
  exact k p _ F2 _ g4 (g.hh.free hp) hF upd_same (Rl.append (r.mono g2.ff) r2) (by rw [List.length_append]; exact hl)
theorem rc_max2 {K : PySem.W.Frag} : RCK (K := K) (fun xs H Q => ∃ i j, xs = [.int i, .int j] ∧ Q (.int (if j > i then j else i)) H) (tsC tI (ts1 tI)) tI yes1 (fun x => if x.2 > x.1 then x.2 else x.1) := fun F H vs x s ⟨v, r, e, h1, u, e2, h2⟩ c Q k => by
  subst e; subst e2; cases h1; cases h2
  exact ⟨_, _, rfl, k _ F H (Grow.refl s) rfl⟩
end
end MD
namespace MD
open PySem PySem.Spec PyProof.Rows L2
section
variable {K : PySem.W.Frag} {κ α β γ : Type}
/-! ### dicts with flat keys -/
structure KT (T : Ty K κ) where
  kf : κ → Key
  inj : ∀ x y, kf x = kf y → x = y
  val : ∀ F v x, T.rep F v x → v = kV (kf x)
def Ent {TK : Ty K κ} (k : KT TK) (T : Ty K α) (F : Hp) (e : Key × V) (p : κ × α) : Prop := e.1 = k.kf p.1 ∧ TK.rep F (kV e.1) p.1 ∧ T.rep F e.2 p.2
def Re {TK : Ty K κ} (k : KT TK) (T : Ty K α) (F : Hp) : List (Key × V) → List (κ × α) → Prop := Paired (Ent k T F)
theorem Re.mono {TK : Ty K κ} {k : KT TK} {T : Ty K α} {F F' : Hp} {es kvs} (e : Same F F') (h : Re k T F es kvs) : Re k T F' es kvs := paired_mono (fun _ _ r => ⟨r.1, TK.mono e r.2.1, T.mono e r.2.2⟩) h
theorem Re.length {TK : Ty K κ} {k : KT TK} {T : Ty K α} {F : Hp} {es : List (Key × V)} {kvs : List (κ × α)} (h : Re k T F es kvs) : es.length = kvs.length := Paired.length h
/-! ### instances -/
theorem FldOk.mono {F F' : Hp} (e : Same F F') : ∀ {fs : List (Str × Slot K)} {vs : List (Str × V)}, FldOk F fs vs → FldOk F' fs vs
  | _, _, .nil => .nil
  | _, _, .cons r t => .cons (r.mono e) (FldOk.mono e t)
theorem FldOk.len {F : Hp} : ∀ {fs : List (Str × Slot K)} {vs : List (Str × V)}, FldOk F fs vs → vs.length = fs.length
  | _, _, .nil => rfl
  | _, _, .cons _ t => by rw [List.length_cons, List.length_cons, t.len]
theorem FldOk.look {F : Hp} {f : Str} : ∀ {fs : List (Str × Slot K)} {vs : List (Str × V)}, FldOk F fs vs → (fs.lookup f = none ∧ vs.lookup f = none) ∨ ∃ s v, fs.lookup f = some s ∧ vs.lookup f = some v ∧ Slot.ok F s (some v)
  | _, _, .nil => .inl ⟨rfl, rfl⟩
  | _, _, .cons (n := n) (s := s) (v := v) r t => by
    by_cases h : f = n
    · subst h
      exact .inr ⟨s, v, List.lookup_cons_self, List.lookup_cons_self, r⟩
    · have hb : (f == n) = false := beq_eq_false_iff_ne.mpr h
      rcases FldOk.look (f := f) t with ⟨h1, h2⟩ | ⟨s', v', h1, h2, q⟩
      · exact .inl ⟨by rw [List.lookup_cons, hb]; exact h1, by rw [List.lookup_cons, hb]; exact h2⟩
      · exact .inr ⟨s', v', by rw [List.lookup_cons, hb]; exact h1, by rw [List.lookup_cons, hb]; exact h2, q⟩
def tIn (C : Addr) (fd : α → List (Str × Slot K)) : Ty K α := ⟨fun F v x => ∃ a dx vs, v = .ref a ∧ F a = some (.ins C dx vs) ∧ FldOk F (fd x) vs, fun e ⟨a, dx, vs, h1, h2, r⟩ => ⟨a, dx, vs, h1, e _ _ h2, r.mono e⟩⟩
/-- an instance that stands -/
def rI' (C : Addr) (fs : List (Str × Slot K)) : Vw := fun F H v => ∃ a dx vs, v = .ref a ∧ H a = some (.ins C dx vs) ∧ FldOk F fs vs
end
section
variable {X : Cx} {fl : Hp} {B : Hb X.K} {Y : Ec X.K} {ρ : List (Slot X.K)} {cs : List (Cell X.K)} {A R κ α β γ μ ν : Type} {pos : Pos} {rest : List Stmt} {D : Ends} {e : Expr}
theorem PK.ins {C : Addr} {fd : α → List (Str × Slot X.K)} {x : α} {P : Prop} (h : PK X e ρ cs (tIn C fd) x P) : PV X e ρ cs (rI' C (fd x)) P := fun F σ H ok p Q q => h F σ H ok p Q fun v F' H' g ⟨a, dx, vs, h1, h2, r⟩ => q v F' H' g ⟨a, dx, vs, h1, g.fh _ _ h2, r⟩
/-! ### reading dicts -/
end
end MD
namespace MD
open PySem PySem.Spec PyProof.Rows L2
section
variable {X : Cx} {fl : Hp} {B : Hb X.K} {Y : Ec X.K} {ρ : List (Slot X.K)} {cs : List (Cell X.K)} {A R κ α β γ δ μ ν : Type} {pos : Pos} {rest : List Stmt} {D : Ends} {e : Expr}
/-! ### freezing -/
theorem FldOk.set {K : PySem.W.Frag} {F : Hp} {f : Str} {s s2 : Slot K} : ∀ {fs : List (Str × Slot K)} {vs : List (Str × V)} {m : Nat}, FldOk F fs vs → fs[m]? = some (f, s) → (∀ v, Slot.ok F s (some v) → Slot.ok F s2 (some v)) → FldOk F (fs.set m (f, s2)) vs
  | _, _, _, .nil, h, _ => by simp at h
  | _, _, 0, .cons r t, h, k => by simp at h; obtain ⟨rfl, rfl⟩ := h; exact .cons (k _ r) t
  | _, _, m + 1, .cons r t, h, k => .cons r (FldOk.set (m := m) t (by simpa using h) k)
/-! ### walks over dicts -/
/-! ### making, methods -/
/-! ### ends -/
/-- a way that is never gone -/
theorem sk_never {st : List Stmt} : SK X B Y fl st ρ cs D False := fun F σ H ok p => p.elim
end
end MD
namespace MD
open PySem PySem.Spec PyProof.Rows L2
/-! ### calls by shape -/
/-- the arguments' types as slots -/
def Sl {K : PySem.W.Frag} {α : Type} (Ts : Tys K α) (ins : α → List (Slot K)) : Prop := ∀ F vs x, Ts.rep F vs x → Prd (fun s v => Slot.ok F s (some v)) (ins x) vs
section
variable {K : PySem.W.Frag} {α β γ δ : Type}
theorem sl0 : Sl (ts0 (K := K)) fun _ => [] := fun F vs x h => by
  have h : vs = [] := h
  subst h
  exact .nil
theorem sl1 {T : Ty K α} : Sl (ts1 T) fun x => [.val T x] := fun F vs x ⟨v, e, r⟩ => by subst e; exact .cons ⟨v, rfl, r⟩ .nil
theorem slC {T : Ty K α} {Ts : Tys K β} {ins : β → List (Slot K)} (h : Sl Ts ins) : Sl (tsC T Ts) fun x => .val T x.1 :: ins x.2 := fun F vs x ⟨v, r, e, h1, h2⟩ => by subst e; exact .cons ⟨v, rfl, h1⟩ (h F r x.2 h2)
/-- one owned list, then frozen things -/
def Con.o1 (T0 : Ty K δ) (ins : α → List (Slot K)) (T : Ty K γ) (pre : List δ → α → Prop) (post : List δ → α → γ → List δ → Prop) : Con K (Addr × List δ × α) (γ × List δ) γ where
  ins := fun a => .val tR a.1 :: ins a.2.2
  cin := fun a => [⟨a.1, cL T0 a.2.1⟩]
  wp := fun a φ _ => pre a.2.1 a.2.2 ∧ ∀ r c, post a.2.1 a.2.2 r c → φ (r, c)
  T := T
  rv := fun r => r.1
  cout := fun a r => [⟨a.1, cL T0 r.2⟩]
  mono := fun _ _ _ _ _ h _ w => ⟨w.1, fun r c e => h (r, c) (w.2 r c e)⟩
/-- frozen things, a new owned list -/
def Con.mk1 (ins : α → List (Slot K)) (T0 : Ty K δ) (pre : α → Prop) (post : α → List δ → Prop) : Con K α (Addr × List δ) Addr where
  ins := ins
  cin := fun _ => []
  wp := fun a φ _ => pre a ∧ ∀ l c, post a c → φ (l, c)
  T := tR
  rv := fun r => r.1
  cout := fun _ r => [⟨r.1, cL T0 r.2⟩]
  mono := fun _ _ _ _ _ h _ w => ⟨w.1, fun l c e => h (l, c) (w.2 l c e)⟩
end
section
variable {X : Cx} {fl : Hp} {B : Hb X.K} {Y : Ec X.K} {ρ : List (Slot X.K)} {cs : List (Cell X.K)} {A R α β γ δ μ ν : Type} {pos : Pos} {rest : List Stmt} {D : Ends} {e : Expr}
theorem pk_fn {k : Nat} {f : Addr} {fd : FuncData} {ps : List Str} {nm : Str} {p : Pos} {es : List Expr} {ins : α → List (Slot X.K)} {T : Ty X.K γ} {pre : α → Prop} {g : α → γ} {Ts : Tys X.K α} {x : α} {Pa : Prop}
    (F : FnOk X.prog X.w X.K X.mg X.base (L2.CX X.prog X.w) k f fd ps (Con.fn ins T pre g).sp) (hs : Sl Ts ins) (hr : Room k X.A) (hm : X.mg nm = some (.ref f)) (hk : PySem.W.keepIn X.K (.ref f) = true) (hb : Binds X.K fd ps [])
    (ha : PAK X (e :: es) ρ cs Ts x Pa) (hg : Gl X nm := by rfl) (hdb : (nm == ("__debug__" : Str)) = false := by decide) (he : starEach (e :: es) X.env = (false, eval e X.env) :: starEach es X.env := by rfl) (hpl : (backTo pos (starEach es X.env)).any (·.1) = false := by rfl) :
    PK X (.Call (.Name nm p) (e :: es) [] pos) ρ cs T (g x) (Pa ∧ pre x) := pk_call x F hr hm hk hb ha (fun F vs h => hs F vs x h) hg hdb he hpl
/-- f(l, ..), l an owned list at j -/
theorem ek_o1 {k : Nat} {f : Addr} {fd : FuncData} {ps : List Str} {nm : Str} {p : Pos} {es : List Expr} {T0 : Ty X.K δ} {ins : α → List (Slot X.K)} {T : Ty X.K γ} {pre : List δ → α → Prop} {post : List δ → α → γ → List δ → Prop} {Ts : Tys X.K α} {vl : μ → α} {cs1 : μ → List (Cell X.K)} {M : (μ → Prop) → Prop} {l : Addr} {c : μ → List δ} (j : Nat)
    (F : FnOk X.prog X.w X.K X.mg X.base (L2.CX X.prog X.w) k f fd ps (Con.o1 T0 ins T pre post).sp) (hs : Sl Ts ins) (hr : Room k X.A) (hm : X.mg nm = some (.ref f)) (hk : PySem.W.keepIn X.K (.ref f) = true) (hb : Binds X.K fd ps [])
    (hl : PK X e ρ cs tR l True) (ha : AK X Y es ρ cs Ts vl cs1 M) (hc : ∀ y, (cs1 y)[j]? = some ⟨l, cL T0 (c y)⟩) (hg : Gl X nm := by rfl) (hdb : (nm == ("__debug__" : Str)) = false := by decide) (he : starEach (e :: es) X.env = (false, eval e X.env) :: starEach es X.env := by rfl) (hpl : (backTo pos (starEach es X.env)).any (·.1) = false := by rfl) :
    EK X Y (.Call (.Name nm p) (e :: es) [] pos) ρ cs T (fun y : μ × γ × List δ => y.2.1) (fun y => (cs1 y.1).set j ⟨l, cL T0 y.2.2⟩) (fun φ => M fun y => pre (c y) (vl y) ∧ ∀ r w, post (c y) (vl y) r w → φ (y, r, w)) := fun F0 σ H ok xh φ q Q kk => by
  refine we (pe_call F hr hg hm hk hb .nil (E := E0) (passL) (pa_cons pe_w pa_w he) hdb he hpl) ?_
  refine hl F0 σ H ok.w trivial _ fun v F1 H1 g1 ev => ?_
  have m0 := ok.grow g1
  refine ha F1 σ H1 (ok.mv m0) (xh.mv m0) _ q _ fun y vs F2 H2 m2 r2 q2 => ?_
  have ok2 := (ok.mv m0).mv m2
  have hv : v = .ref l := ev
  subst hv
  refine ⟨(l, c y, vl y), F2, ?_, m2.fh, fun c0 h0 => ?_, by simp [Con.o1], q2.1, fun r w hp v F3 H3 m3 rr => ?_⟩
  · rw [List.append_nil]
    exact .cons ⟨_, rfl, rfl⟩ (hs F2 vs (vl y) r2)
  · have : c0 = ⟨l, cL T0 (c y)⟩ := by simpa [Con.o1] using h0
    subst this
    exact ok2.cell _ (List.mem_of_getElem? (hc y))
  · have m4 := mv_one (c' := ⟨l, cL T0 w⟩) (more := []) ok2 (hc y) rfl m3
    rw [List.append_nil] at m4
    exact kk (y, r, w) v F3 H3 ((m0.trans m2).trans m4) rr (q2.2 r w hp)
/-- x = f(..), a new owned list -/
theorem ek_mk1 {k : Nat} {f : Addr} {fd : FuncData} {ps : List Str} {nm : Str} {p : Pos} {es : List Expr} {T0 : Ty X.K δ} {ins : α → List (Slot X.K)} {pre : α → Prop} {post : α → List δ → Prop} {Ts : Tys X.K α} {vl : μ → α} {cs1 : μ → List (Cell X.K)} {M : (μ → Prop) → Prop}
    (F : FnOk X.prog X.w X.K X.mg X.base (L2.CX X.prog X.w) k f fd ps (Con.mk1 ins T0 pre post).sp) (hs : Sl Ts ins) (hr : Room k X.A) (hm : X.mg nm = some (.ref f)) (hk : PySem.W.keepIn X.K (.ref f) = true) (hb : Binds X.K fd ps [])
    (ha : AK X Y (e :: es) ρ cs Ts vl cs1 M) (hg : Gl X nm := by rfl) (hdb : (nm == ("__debug__" : Str)) = false := by decide) (he : starEach (e :: es) X.env = (false, eval e X.env) :: starEach es X.env := by rfl) (hpl : (backTo pos (starEach es X.env)).any (·.1) = false := by rfl) :
    EK X Y (.Call (.Name nm p) (e :: es) [] pos) ρ cs tR (fun y : μ × Addr × List δ => y.2.1) (fun y => cs1 y.1 ++ [⟨y.2.1, cL T0 y.2.2⟩]) (fun φ => M fun y => pre (vl y) ∧ ∀ l c, post (vl y) c → φ (y, l, c)) := fun F0 σ H ok xh φ q Q kk => by
  refine we (pe_call F hr hg hm hk hb .nil (E := E0) (passL) pa_w hdb he hpl) ?_
  refine ha F0 σ H ok xh _ q _ fun y vs F1 H1 m1 r1 q1 => ?_
  have ok1 := ok.mv m1
  refine ⟨vl y, F1, by rw [List.append_nil]; exact hs F1 vs (vl y) r1, m1.fh, fun c hc => absurd hc (by simp [Con.mk1]), by simp [Con.mk1], q1.1, fun l c hp v F2 H2 m rr => ?_⟩
  exact kk (y, l, c) v F2 H2 (m1.trans (mv_zero ok1 m)) rr (q1.2 l c hp)
/-! ### returns by shape -/
theorem sk_retO {T0 : Ty X.K δ} {ins : α → List (Slot X.K)} {T : Ty X.K γ} {pre : List δ → α → Prop} {post : List δ → α → γ → List δ → Prop} {a : Addr × List δ × α} {ψ : γ × List δ → Prop} {n b' c' : L2.St → Hp → Prop} {x : γ} {w : List δ} {P : Prop} {r : List Stmt} (he : PK X e ρ cs T x P) (hc : cs = [⟨a.1, cL T0 w⟩]) :
    SK X B Y fl (.Return (some e) pos :: r) ρ cs { retD (Con.o1 T0 ins T pre post) a B ψ with nx := n, bk := b', ct := c' } (P ∧ ψ (x, w)) := sk_ret (C := Con.o1 T0 ins T pre post) (x, w) he rfl hc.symm
theorem sk_retOE {T0 : Ty X.K δ} {ins : α → List (Slot X.K)} {T : Ty X.K γ} {pre : List δ → α → Prop} {post : List δ → α → γ → List δ → Prop} {a : Addr × List δ × α} {ψ : γ × List δ → Prop} {n b' c' : L2.St → Hp → Prop} {vl : μ → γ} {cs' : μ → List (Cell X.K)} {M : (μ → Prop) → Prop} {w : μ → List δ} {r : List Stmt} (he : EK X Y e ρ cs T vl cs' M) (hc : ∀ y, cs' y = [⟨a.1, cL T0 (w y)⟩]) :
    SK X B Y fl (.Return (some e) pos :: r) ρ cs { retD (Con.o1 T0 ins T pre post) a B ψ with nx := n, bk := b', ct := c' } (M fun y => ψ (vl y, w y)) := sk_retE (C := Con.o1 T0 ins T pre post) (fun y => (vl y, w y)) he (fun _ => rfl) fun y => (hc y).symm
/-- return [..], a new owned list -/
theorem sk_retN {ins : α → List (Slot X.K)} {T0 : Ty X.K δ} {pre : α → Prop} {post : α → List δ → Prop} {a : α} {ψ : Addr × List δ → Prop} {n b' c' : L2.St → Hp → Prop} {vl : μ → List δ} {M : (μ → Prop) → Prop} {r : List Stmt} (he : NE X Y e ρ [] T0 vl (fun _ => []) M) :
    SK X B Y fl (.Return (some e) pos :: r) ρ [] { retD (Con.mk1 ins T0 pre post) a B ψ with nx := n, bk := b', ct := c' } (M fun y => ∀ l c, c = vl y → ψ (l, c)) := sk_retE (C := Con.mk1 ins T0 pre post) (fun y : μ × Addr × List δ => (y.2.1, y.2.2)) he.own (fun _ => rfl) fun y => rfl
end
end MD
/-! MDt: enumerate(a tuple). -/
namespace MD
open PySem PySem.Spec PyProof.Rows L2
end MD
namespace MD
open PySem PySem.Spec PyProof.Rows L2
section
variable {X : Cx} {fl : Hp} {B : Hb X.K} {Y : Ec X.K} {ρ : List (Slot X.K)} {cs : List (Cell X.K)} {A R α β γ δ μ ν : Type} {pos : Pos} {rest : List Stmt} {D : Ends} {e : Expr}
theorem tk_val {vl : μ → Bool} {cs' : μ → List (Cell X.K)} {M : (μ → Prop) → Prop} (h : EK X Y e ρ cs tB vl cs' M) (he : ∀ whole, isTrue e X.env whole = (do let v ← whole; standAt e.pos; holding [v] (truthy v)) := by intro _; rfl) : TK X Y e ρ cs vl cs' M := fun F σ H ok xh φ p Q k => by
  refine wt (pt_val pe_w he) ?_
  exact h F σ H ok xh φ p _ fun y v F1 H1 m1 r1 q => ⟨vl y, r1, k y F1 H1 m1 q⟩
theorem tk_not {vl : μ → Bool} {cs' : μ → List (Cell X.K)} {M : (μ → Prop) → Prop} (h : TK X Y e ρ cs vl cs' M) : TK X Y (.UnaryOp .Not e pos) ρ cs (fun y => !vl y) cs' M := fun F σ H ok xh φ p Q k => by
  refine wt (pt_not pt_w) ?_
  exact h F σ H ok xh φ p _ fun y F1 H1 m1 q => k y F1 H1 m1 q
theorem sk_retFE {ins : A → List (Slot X.K)} {T : Ty X.K γ} {pre : A → Prop} {f : A → γ} {a : A} {ψ : γ → Prop} {n b' c' : L2.St → Hp → Prop} {vl : μ → γ} {cs' : μ → List (Cell X.K)} {M : (μ → Prop) → Prop} {r : List Stmt} (he : EK X Y e ρ cs T vl cs' M) (hc : ∀ y, cs' y = []) :
    SK X B Y fl (.Return (some e) pos :: r) ρ cs { retD (Con.fn ins T pre f) a B ψ with nx := n, bk := b', ct := c' } (M fun y => ψ (vl y)) := sk_retE (C := Con.fn ins T pre f) vl he (fun _ => rfl) fun y => (hc y).symm
/-! ### what is known of a callee, of a class -/
structure Cal (P : Program) (w : World) (K : PySem.W.Frag) (mg : Str → Option Value) (base : Heap) (nm : Str) (k : Nat) (ps : List Str) (sp : Sp) (f : Addr) (fd : FuncData) : Prop where
  F : FnOk P w K mg base (L2.CX P w) k f fd ps sp
  m : mg nm = some (.ref f)
  k : PySem.W.keepIn K (.ref f) = true
  b : Binds K fd ps []
theorem sk_st {st : List Stmt} {φ : Prop} {ρ2 : List (Slot X.K)} {cs2 : List (Cell X.K)} (h1 : ρ = ρ2) (h2 : cs = cs2) (k : SK X B Y fl st ρ2 cs2 D φ) : SK X B Y fl st ρ cs D φ := by subst h1; subst h2; exact k
theorem ek_ixR [Inhabited α] {a b : Expr} {T : Ty X.K α} {vl : μ → List α} {cs1 : μ → List (Cell X.K)} {M : (μ → Prop) → Prop} {i : Int} {P2 : Prop} (ha : EV X Y a ρ cs (fun y => rK T (vl y)) cs1 M) (hb : ∀ y, PK X b ρ (cs1 y) tI i P2) (hs : PlainIx b := by exact fun _ _ => rfl) :
    EK X Y (.Subscript a b pos) ρ cs T (fun y => pyIx (vl y) i) cs1 (fun φ => M fun y => P2 ∧ IxOk (vl y) i ∧ φ y) := fun F σ H ok xh φ p Q k => by
  refine we (pe_ix ix_list pe_w pe_w hs) ?_
  refine ha F σ H ok xh _ p _ fun y v F1 H1 m1 ⟨q, vs, e1, hq, r, z⟩ q1 => ?_
  refine hb y F1 σ H1 (ok.mv m1).w q1.1 _ fun w F2 H2 g2 r2 => ?_
  obtain ⟨u, hu, ru⟩ := rl_atI (Rl.mono g2.ff r) q1.2.1
  exact ⟨q, vs, i, u, e1, r2, g2.hh.seq hq, hu, k y u F2 H2 (m1.trans ((ok.mv m1).grow g2)) ru q1.2.2⟩
theorem sk_midX {ρ' : β → List (Slot X.K)} {cs' : β → List (Cell X.K)} {R : β → Prop} {z : β} (hn : D.nx = Mid B fl ρ' cs' R) (h : Le ρ (ρ' z)) (hc : cs = cs' z) : SK X B Y fl [] ρ cs D (R z) := fun F σ H ok p W tk hx' => by
  subst hc
  refine wb pss_nil ?_
  show D.nx σ H
  rw [hn]
  exact ⟨z, F, ⟨h.env ok.env, ok.mv, ok.flo⟩, p⟩
theorem sk_nilX {φ : Prop} {D' : Ends} (hn : D.nx = WB X rest D') (k : SK X B Y fl rest ρ cs D' φ) : SK X B Y fl [] ρ cs D φ := fun F σ H ok p W tk hx' => by
  refine wb pss_nil ?_
  show D.nx σ H
  rw [hn]
  exact k F σ H ok p W tk hx'
/-! ### chains of tests with effects -/
end
end MD
namespace MD
open PySem PySem.Spec PyProof.Rows L2
end MD
namespace MD
open PySem PySem.Spec PyProof.Rows L2
end MD
namespace MD
open PySem PySem.Spec PyProof.Rows L2
section
variable {X : Cx} {fl : Hp} {B : Hb X.K} {Y : Ec X.K} {ρ : List (Slot X.K)} {cs : List (Cell X.K)} {A R α β γ δ μ ν : Type} {pos : Pos} {rest : List Stmt} {D : Ends} {e : Expr}
/-! ### chains of two comparisons -/
/-! ### a sign in a text -/
/-! ### texts of a module -/
/-! ### split -/
theorem mem_join {sep : Str} : ∀ {ps : List Str} {p : Str} {c : Nat}, p ∈ ps → c ∈ p.cps.toList → c ∈ (Str.join sep ps).cps.toList
  | [], _, _, h, _ => by cases h
  | [x], p, c, h, hc => by
    have : p = x := by simpa using h
    subst this
    exact hc
  | x :: y :: r, p, c, h, hc => by
    have e : Str.join sep (x :: y :: r) = x ++ sep ++ Str.join sep (y :: r) := rfl
    have e2 : (x ++ sep ++ Str.join sep (y :: r)).cps.toList = x.cps.toList ++ sep.cps.toList ++ (Str.join sep (y :: r)).cps.toList := by
      show ((x.cps ++ sep.cps) ++ (Str.join sep (y :: r)).cps).toList = _
      rw [Array.toList_append, Array.toList_append]
    rw [e, e2]
    rcases List.mem_cons.mp h with h | h
    · subst h
      exact List.mem_append.mpr (.inl (List.mem_append.mpr (.inl hc)))
    · exact List.mem_append.mpr (.inr (mem_join h hc))
/-! ### for over what is made with effects -/
/-! ### equality behind effects -/
section
variable [DecidableEq α] {T : Ty X.K α} {vl : μ → α} {cs1 : μ → List (Cell X.K)} {M : (μ → Prop) → Prop} {vl2 : μ → ν → α} {cs2 : μ → ν → List (Cell X.K)} {M2 : μ → (ν → Prop) → Prop} {a b : Expr}
theorem tk_neE (hu : X.A.units + 64 < cLine) (dd : DT T) (ha : EK X Y a ρ cs T vl cs1 M) (hb : ∀ y, EK X Y b ρ (cs1 y) T (vl2 y) (cs2 y) (M2 y)) (hm : behindInMarks .NotEq b = false := by first | exact nomark _ | rfl) (hn : dd.n ≤ 64 := by exact Nat.le_of_ble_eq_true rfl) :
    TK X Y (.Compare a [.NotEq] [b] pos) ρ cs (fun y : μ × ν => !decide (vl y.1 = vl2 y.1 y.2)) (fun y => cs2 y.1 y.2) (fun φ => M fun y => M2 y fun u => φ (y, u)) := fun F σ H ok xh φ p Q k => by
  refine wt (pt_cmpR (op_neD hu) pe_w pe_w hm) ?_
  refine ha F σ H ok xh _ p _ fun y v F1 H1 m1 r1 q1 => ?_
  refine hb y F1 σ H1 (ok.mv m1) (xh.mv m1) _ q1 _ fun u w F2 H2 m2 r2 q2 => ?_
  have d1 := dv_sv dd hn F2 H2 v m2.fh (T.mono m2.ff r1)
  have d2 := dv_sv dd hn F2 H2 w m2.fh r2
  refine ⟨_, _, d1.1, d2.1, d1.2, d2.2, _, rfl, ?_⟩
  rw [eqv_dec dd]
  exact k (y, u) F2 H2 (m1.trans m2) q2
end
end
end MD
namespace MD
open PySem PySem.Spec PyProof.Rows L2
/-! ### refusals -/
inductive Rf where
  | noText (n : Int) | twice (s : Str) | badStep (i : Int) (s : Str) | badGood (i : Int) | noLetter (s : Str) | noDesk (s : Str)
  | otherLetters | notices (a b : List Str) | tooMany (n : Int) | noName (s : Str) | noKind | noRow
/-- where the classes stand -/
structure XA where
  NoText : Addr := 0
  Twice : Addr := 0
  BadStep : Addr := 0
  BadGood : Addr := 0
  NoLetter : Addr := 0
  NoDesk : Addr := 0
  OtherLetters : Addr := 0
  Notices : Addr := 0
  TooMany : Addr := 0
  NoName : Addr := 0
  NoKind : Addr := 0
  NoRow : Addr := 0
def exn {K : PySem.W.Frag} (xa : XA) : Rf → Exn K
  | .noText n => ⟨xa.NoText, [("line", .val tI n)]⟩
  | .twice s => ⟨xa.Twice, [("name", .val tS s)]⟩
  | .badStep i s => ⟨xa.BadStep, [("letter", .val tS s), ("state", .val tI i)]⟩
  | .badGood i => ⟨xa.BadGood, [("state", .val tI i)]⟩
  | .noLetter s => ⟨xa.NoLetter, [("letter", .val tS s)]⟩
  | .noDesk s => ⟨xa.NoDesk, [("desk", .val tS s)]⟩
  | .otherLetters => ⟨xa.OtherLetters, []⟩
  | .notices a b => ⟨xa.Notices, [("other", .val (tL tS) b), ("one", .val (tL tS) a)]⟩
  | .tooMany n => ⟨xa.TooMany, [("most", .val tI n)]⟩
  | .noName s => ⟨xa.NoName, [("name", .val tS s)]⟩
  | .noKind => ⟨xa.NoKind, []⟩
  | .noRow => ⟨xa.NoRow, []⟩
/-- what of the text an exception's class must have -/
structure XcT (K : PySem.W.Frag) (mg : Str → Option Value) (nm : Str) (C : Addr) : Prop where
  gC : mg nm = some (.ref C)
  ox : OexC K C
  is : ExcC K C
/-- .. its base, whose __init__ is ValueError's -/
structure MoT (K : PySem.W.Frag) (mg : Str → Option Value) (nm : Str) (B : Addr) : Prop where
  gB : mg nm = some (.ref B)
  sp : PySem.W.specialIn K (.ref B) "__getattribute__" = some (some (.builtin "type.__getattribute__"))
  rd : PySem.W.readsIn K B (.type "type") = true
  fi : PySem.W.findCls K (.ref B) (.type "type") "__init__" = some (.val (.builtin "ValueError.__init__"))
section
variable {X : Cx} {o e : Expr} {es : List Expr} {ta : TA} {p1 p2 pos : Pos}
/-- Base.__init__(self, ..) -/
theorem pe_moinit {nm : Str} {Ba : Addr} {pl : Sem Bool} (T : MoT X.K X.mg nm Ba) (ha : PA X (e :: es) ta) (hg : Gl X nm := by rfl) (hdb : (nm == ("__debug__" : Str)) = false := by decide)
    (hc : eval (.Call (.Attribute (.Name nm p1) "__init__" p2) (e :: es) [] pos) X.env = (do
      let ov ← eval (.Name nm p1) X.env
      standAt p2.atName
      let (f, first) ← holding [ov] (getMethod ov "__init__" pl)
      callWith pos f first (backTo pos (starEach (e :: es) X.env)) (backToKw pos (keywordEach [] X.env))) := by rfl)
    (he : starEach (e :: es) X.env = (false, eval e X.env) :: starEach es X.env := by rfl) (hpl : (backTo pos (starEach es X.env)).any (·.1) = false := by rfl) :
    PE X (.Call (.Attribute (.Name nm p1) "__init__" p2) (e :: es) [] pos) (tVeI X.K ta) := by
  refine ⟨fun pins s σ H Q inv0 hq0 => ?_⟩
  refine PySem.W.methodCall_KW (ld_glob inv0 hg T.gB ?_ hdb) hc
  refine PySem.W.method_cls inv0.kIn T.sp (PySem.W.cls_value inv0.kIn T.rd T.fi (by decide +kernel) ?_)
  show wpAny _ _ (callWith pos (Value.builtin "ValueError.__init__") [] _ []) _ _ _
  refine PyProof.Rows.callWith_method1 (thn (ha.run pos pins _ σ H _ (inv0.tok _) hq0) fun us s1 hh => ?_) he hpl
  obtain ⟨vs, H1, inv1, r1, a, C, ws, ev, hl, tt, ea, q⟩ := hh
  subst ev
  cases r1 with
  | @cons _ u0 _ ur ra rw' =>
    have eu : u0 = Value.ref a := ra
    subst eu
    have hlen : ur.length ≤ sizeLine := by
      have := Paired.length rw'
      rw [sizeLine_eq]
      omega
    exact oinit_ok tt inv1 ea hlen fun s' j => ⟨.non, H1, j, rfl, q⟩
end
/-! ### the promises of __init__ -/
/-- one field -/
def spX1 (C : Addr) (f : Str) : Sp := fun vs H Q _ => ∃ (a : Addr) (v : V), vs = [.ref a, v] ∧ H a = some (exo a C none) ∧ ∀ d, H d = none → d ≠ a → Q .non (upd (upd H d (exd d [(f, v)])) a (exo a C (some d)))
/-- two fields -/
def spX2 (C : Addr) (f g : Str) : Sp := fun vs H Q _ => ∃ (a : Addr) (v w : V), vs = [.ref a, v, w] ∧ H a = some (exo a C none) ∧ ∀ d, H d = none → d ≠ a → Q .non (upd (upd (upd H d (exd d [(f, v)])) a (exo a C (some d))) d (exd d [(g, w), (f, v)]))
end MD
namespace MD
open PySem PySem.Spec PyProof.Rows L2
/-! ### making and methods that may raise, at the slots as they are -/
/-! ### contracts of what may raise -/
theorem Mv.none {K : PySem.W.Frag} {cs cs1 : List (Cell K)} {F H F' H' : Hp} (m : Mv cs F H cs1 F' H') : Mv cs F H [] F' H' :=
  ⟨m.ff, m.fh, m.fr, m.kp, fun c h => (nomatch h), List.nodup_nil, fun c h => (nomatch h), m.st⟩
/-! ### calls of what may raise -/
end MD
namespace MD
open PySem PySem.Spec PyProof.Rows L2
/-! ### except clauses, each with a name or with none -/
/-! ### try, typed -/
end MD
namespace MD
open PySem PySem.Spec PyProof.Rows L2
section
variable {X : Cx} {fl : Hp} {B : Hb X.K} {Y : Ec X.K} {ρ : List (Slot X.K)} {cs : List (Cell X.K)} {A R α β γ δ μ ν : Type} {pos : Pos} {rest : List Stmt} {D : Ends} {e : Expr}
/-! ### any plain data -/
def tA {K : PySem.W.Frag} : Ty K PyData := ⟨fun F v d => (∀ H, Same F H → Dp K H v d) ∧ SeqAt.shaped d = true, fun e h => ⟨fun H s => h.1 H (e.trans s), h.2⟩⟩
theorem PK.any {T : Ty X.K α} {x : α} {P : Prop} (D : DT T) (h : PK X e ρ cs T x P) (hn : D.n ≤ 64 := by exact Nat.le_of_ble_eq_true rfl) : PK X e ρ cs tA (D.d x) P := fun F σ H ok p Q k =>
  h F σ H ok p Q fun v F' H' g r => k v F' H' g ⟨fun H2 s => D.dp F' H2 v x s r, shaped_of (D.lay _ _ _ r) (D.dep x) hn⟩
theorem EK.any {T : Ty X.K α} {vl : μ → α} {cs' : μ → List (Cell X.K)} {M : (μ → Prop) → Prop} (D : DT T) (h : EK X Y e ρ cs T vl cs' M) (hn : D.n ≤ 64 := by exact Nat.le_of_ble_eq_true rfl) : EK X Y e ρ cs tA (fun y => D.d (vl y)) cs' M := fun F σ H ok xh φ p Q k =>
  h F σ H ok xh φ p Q fun y v F' H' m r q => k y v F' H' m ⟨fun H2 s => D.dp F' H2 v (vl y) s r, shaped_of (D.lay _ _ _ r) (D.dep _) hn⟩ q
/-! ### None -/
/-! ### tuples with effects -/
/-! ### isinstance in a suite -/
/-- xs[::-1] -/
theorem nk_revL {a : Expr} {T : Ty X.K α} {xs : List α} {P : Prop} {kk : Nat} {p1 p2 p3 : Pos} (ha : PV X a ρ cs (rK T xs) P) : NK X (.Subscript a (.Slice none none (some (.UnaryOp .USub (.Constant (.int 1) kk p1) p2)) p3) pos) ρ cs T xs.reverse P := fun F σ H ok q Q k => by
  refine we (pe_revL pe_w) ?_
  refine ha F σ H ok q _ fun v F1 H1 g1 ⟨b, vs, e, hb, r, z⟩ => ?_
  refine ⟨b, vs, e, hb, fun p hp => ?_⟩
  obtain ⟨g4, hF⟩ := grow_upd (o := .lst vs.reverse) g1 hp
  exact k p _ F1 _ g4 (g1.hh.free hp) hF upd_same (Rl.rev r) (by rw [List.length_reverse]; exact z)
/-! ### all ways of a refusal -/
/-- what a raising needs of the class's __init__ -/
structure XiT (P : Program) (w : World) (K : PySem.W.Frag) (mg : Str → Option Value) (base : Heap) (C : Addr) (k : Nat) (ps : List Str) (sp : Sp) (f : Addr) (fd : FuncData) : Prop where
  iC : PySem.W.findIn K (.ref C) "__init__" = some (some (.ref f))
  tI : PySem.W.typeIn K (.ref f) = some (.type "function")
  F : FnOk P w K mg base (L2.CX P w) k f fd ps sp
  b : Binds K fd ps []
/-- a, b = e and its like -/
theorem sk_setG {tg : Expr} {T : Ty X.K α} {G : List (Slot X.K) → α → List (Slot X.K)} {vs : List Nat} {vl : μ → α} {cs' : μ → List (Cell X.K)} {M : (μ → Prop) → Prop} {φ : μ → α → Prop} (hg : GK X tg T G vs) (he : EK X Y e ρ cs T vl cs' M) (k : ∀ y z, SK X B Y fl rest (G ρ z) (cs' y) D (φ y z))
    (hs : swapsWithSole [tg] e pos.line X.env = pure false := by rfl) (hw : swappedStores [tg] e X.env = pure none := by rfl) (h1 : (assignEach [tg] X.env).map (·.2) = [assign tg X.env] := by rfl) :
    SK X B Y fl (.Assign [tg] e pos :: rest) ρ cs D (M fun y => ∀ z, z = vl y → φ y z) := fun F σ H ok p W tk hx' => by
  refine wb (pss_cons (ps_asg pe_w pg_w hs hw h1) pss_w) ?_
  refine he F σ H ok.c (xh_of ok tk hx') _ p _ fun y v F1 H1 m t q => ?_
  have ok1 := ok.to m
  refine hg F1 σ H1 v (vl y) ρ ok1.env ok1.mv.fh t _ fun σ2 hρ2 _ => ?_
  exact k y (vl y) F1 σ2 H1 ⟨hρ2, ok1.mv, ok1.flo⟩ (q _ rfl) W tk hx'
/-! ### a for over what effects made, in two rules -/
/-! ### the same, where the refusals are caught: no fragment in the condition -/
/-! ### the answers that the written part does not give at once -/
theorem kit_ref {K : PySem.W.Frag} {C E : Addr} {b : Bool} (h1 : PySem.W.subIn K (.ref C) (.type "BaseException") = some true) (hd : PySem.W.hasDictIn K C = true) (ht : PySem.W.typeIn K (.ref C) = some (.type "type")) (hs : PySem.W.subIn K (.ref C) (.ref C) = some true) (h4 : PySem.W.subIn K (.ref E) (.ref C) = some b) : PySem.W.kitOne K (.ref E) (.ref C) = some b := by
  have e := PySem.W.exm_ref h1 hd ht h4
  unfold PySem.W.exmOne at e
  rw [if_pos (by rw [h1] <;> rfl)] at e
  unfold PySem.W.kitOne
  split
  · rename_i z
    have z : (Value.ref E) = .ref C := beq_iff_eq.mp z
    cases z
    exact hs.symm.trans h4
  · exact e
theorem kit_typ {K : PySem.W.Frag} {E : Addr} {T : String} {b : Bool} (h : PySem.W.subIn K (.ref E) (.type T) = some b) (hm : PySem.W.kitMeta T = true := by decide +kernel) : PySem.W.kitOne K (.ref E) (.type T) = some b := by
  unfold PySem.W.kitOne
  rw [if_neg (fun z => by have z : Value.ref E = .type T := beq_iff_eq.mp z; cases z)]
  show (if PySem.W.kitMeta T = true then _ else _) = _
  rw [if_pos hm]
  exact h
end
end MD
namespace KP
open PySem PySem.Spec PyProof.Rows L2 MD
/-! ### words -/
def abc : Str := "abcdefghijklmnopqrstuvwxyz"
def Low (s : Str) : Prop := ∀ c ∈ s.cps.toList, 97 ≤ c ∧ c ≤ 122
def Word (s : Str) : Prop := 1 ≤ s.length ∧ s.length ≤ 8 ∧ Low s
def sgn (c : Nat) : Str := ⟨#[c]⟩
theorem abc_cps : abc.cps.toList = List.map (fun i => 97 + i) (List.range 26) := by decide +kernel
theorem abc_len : abc.length = 26 := by decide +kernel
theorem str_len (s : Str) : s.length = s.cps.toList.length := by
  show s.cps.size = _
  rw [Array.length_toList]
theorem signs_abc : MD.signs abc = List.map (fun i => sgn (97 + i)) (List.range 26) := by
  unfold MD.signs
  rw [abc_cps, List.map_map]
  rfl
theorem app_cps (a b : Str) : (a ++ b).cps.toList = a.cps.toList ++ b.cps.toList := by
  show (a.cps ++ b.cps).toList = _
  rw [Array.toList_append]
theorem app_len (a b : Str) : (a ++ b).length = a.length + b.length := by rw [str_len, str_len, str_len, app_cps, List.length_append]
theorem low_app {a b : Str} (ha : Low a) (hb : Low b) : Low (a ++ b) := fun c hc => by
  rw [app_cps] at hc
  exact (List.mem_append.mp hc).elim (ha c) (hb c)
theorem pyIx_abc {r : Int} (h0 : 0 ≤ r) (h1 : r < 26) : pyIx (MD.signs abc) r = sgn (97 + r.toNat) := by
  unfold pyIx atI
  have hl : (MD.signs abc).length = 26 := by rw [signs_abc, List.length_map, List.length_range]
  have e : ixN (MD.signs abc).length r = some r.toNat := by
    unfold ixN
    rw [if_pos h0, hl, if_pos (by omega)]
  rw [e]
  show ((MD.signs abc)[r.toNat]?).getD default = _
  rw [signs_abc, List.getElem?_map, List.getElem?_range (by omega)]
  rfl
theorem ixok_abc {r : Int} (h0 : 0 ≤ r) (h1 : r < 26) : IxOk (MD.signs abc) r := by
  have hl : (MD.signs abc).length = 26 := by rw [signs_abc, List.length_map, List.length_range]
  exact ⟨by rw [hl]; omega, by rw [hl]; omega⟩
theorem sgn_word {r : Nat} (h : r < 26) : Word (sgn (97 + r)) := ⟨Nat.le_refl _, by show 1 ≤ 8; decide, fun c hc => by
  have : c = 97 + r := by simpa [sgn] using hc
  omega⟩
/-- joined single letters -/
theorem join_letters : ∀ ls : List Str, (∀ s ∈ ls, s.length = 1 ∧ Low s) → (Str.join ⟨#[]⟩ ls).length = ls.length ∧ Low (Str.join ⟨#[]⟩ ls)
  | [], _ => ⟨rfl, fun c hc => by cases hc⟩
  | s :: ls, h => by
    obtain ⟨i1, i2⟩ := join_letters ls fun x hx => h x (List.mem_cons_of_mem _ hx)
    obtain ⟨h1, h2⟩ := h s List.mem_cons_self
    rw [join_nil_cons]
    exact ⟨by rw [app_len, h1, i1, List.length_cons]; omega, low_app h2 i2⟩
/-- fewer than 26 words leave a letter free -/
theorem nodup_sub_len {α : Type} [DecidableEq α] : ∀ {xs ys : List α}, xs.Nodup → (∀ x ∈ xs, x ∈ ys) → xs.length ≤ ys.length
  | [], _, _, _ => Nat.zero_le _
  | x :: xs, ys, h, hs => by
    obtain ⟨h1, h2⟩ := List.nodup_cons.mp h
    have hx : x ∈ ys := hs x List.mem_cons_self
    have := nodup_sub_len (xs := xs) (ys := ys.erase x) h2 fun y hy => (List.mem_erase_of_ne (show y ≠ x from fun e => h1 (by rw [← e]; exact hy))).mpr (hs y (List.mem_cons_of_mem _ hy))
    rw [List.length_erase_of_mem hx] at this
    have := List.length_pos_of_mem hx
    rw [List.length_cons]
    omega
theorem sgn_inj {a b : Nat} (h : sgn a = sgn b) : a = b := by
  have := congrArg (fun s : Str => s.cps.toList) h
  simpa [sgn] using this
theorem signs_nodup : (MD.signs abc).Nodup := by
  rw [signs_abc]
  exact List.Pairwise.map (R := fun a b => a ≠ b) _ (fun a b h e => h (by have := sgn_inj e; omega)) List.nodup_range
theorem free_letter {found : List Str} (h : found.length < 26) : ∃ s ∈ MD.signs abc, s ∉ found := by
  refine Classical.byContradiction fun hn => ?_
  have : ∀ s ∈ MD.signs abc, s ∈ found := fun s hs => Classical.byContradiction fun hf => hn ⟨s, hs, hf⟩
  have h2 := nodup_sub_len signs_nodup this
  rw [signs_abc, List.length_map, List.length_range] at h2
  omega
/-! ### pieces of texts and lists -/
theorem cutS_to (z : Str) {n : Nat} (h : n ≤ z.length) : (cutS z none (some (n : Int))).cps.toList = z.cps.toList.take n := by
  unfold cutS
  rw [HT.sIx_none, HT.sIx_nat, Nat.min_eq_left h]
  simp
theorem cutS_from (z : Str) {n : Nat} (h : n ≤ z.length) : (cutS z (some (n : Int)) none).cps.toList = z.cps.toList.drop n := by
  unfold cutS
  rw [HT.sIx_none, HT.sIx_nat, Nat.min_eq_left h]
  simp only [List.drop_zero, List.toList_toArray]
  exact List.take_of_length_le (by rw [List.length_drop, str_len]; omega)
theorem take_step {α : Type} {xs : List α} {i : Nat} {x : α} (h : xs[i]? = some x) : xs.take (i + 1) = xs.take i ++ [x] := by
  rw [List.take_add_one, h]
  rfl
theorem get_mem {α : Type} {xs : List α} {i : Nat} {x : α} (h : xs[i]? = some x) : x ∈ xs := List.mem_of_getElem? h
theorem pyIx_nat {α : Type} [Inhabited α] {xs : List α} {i : Int} (h0 : 0 ≤ i) (h1 : i < xs.length) : ∃ x, pyIx xs i = x ∧ xs[i.toNat]? = some x := by
  unfold pyIx atI
  have e : ixN xs.length i = some i.toNat := by unfold ixN; rw [if_pos h0, if_pos h1]
  rw [e]
  have hl : i.toNat < xs.length := by omega
  exact ⟨xs[i.toNat], by show (xs[i.toNat]?).getD default = _; rw [List.getElem?_eq_getElem hl]; rfl, List.getElem?_eq_getElem hl⟩
theorem pyIx_mem {α : Type} [Inhabited α] {xs : List α} {i : Int} (h0 : 0 ≤ i) (h1 : i < xs.length) : pyIx xs i ∈ xs := by
  obtain ⟨x, e, h⟩ := pyIx_nat h0 h1
  rw [e]; exact get_mem h
/-! ### sharings' rows -/
abbrev SRow := Str × List Str
def desksF (rows : List SRow) : List Str := (rows.map (·.2)).flatten
def desksOf (rows : List SRow) : List Str := setS (desksF rows)
theorem desksF_mem {rows : List SRow} {d : Str} : d ∈ desksF rows ↔ ∃ r ∈ rows, d ∈ r.2 := by
  unfold desksF
  rw [List.mem_flatten]
  constructor
  · rintro ⟨l, hl, hd⟩
    obtain ⟨r, hr, rfl⟩ := List.mem_map.mp hl
    exact ⟨r, hr, hd⟩
  · rintro ⟨r, hr, hd⟩
    exact ⟨r.2, List.mem_map.mpr ⟨r, hr, rfl⟩, hd⟩
theorem setS_mem {xs : List Str} {x : Str} : x ∈ setS xs ↔ x ∈ xs := by unfold setS; rw [sortS_mem, List.mem_eraseDups]
theorem setS_nodup (xs : List Str) : (setS xs).Nodup := (sortS_perm _).nodup_iff.mpr (nodup_eraseDups xs)
theorem desksOf_mem {rows : List SRow} {d : Str} : d ∈ desksOf rows ↔ ∃ r ∈ rows, d ∈ r.2 := by unfold desksOf; rw [setS_mem, desksF_mem]
def Names (n : Int) (r : List Str) : Prop := (r.length : Int) = n ∧ r.Nodup ∧ ∀ s ∈ r, Word s
structure RowsOk (rows : List SRow) : Prop where
  ne : rows ≠ []
  len : rows.length ≤ 6
  nd : (rows.map (·.1)).Nodup
  wl : ∀ r ∈ rows, Word r.1
  dne : ∀ r ∈ rows, r.2 ≠ []
  dnd : ∀ r ∈ rows, r.2.Nodup
  dw : ∀ r ∈ rows, ∀ d ∈ r.2, Word d
  all : (desksOf rows).length ≤ 4
theorem RowsOk.of {rows acc : List SRow} (h : RowsOk rows) (hf : (acc.map (·.1)).Perm (rows.map (·.1))) (hr : ∀ r ∈ acc, r.2 ≠ [] ∧ r.2.Nodup ∧ ∀ d ∈ r.2, Word d) {ds : List Str} (hl : ds.length ≤ 4) (hd : ∀ r ∈ acc, ∀ d ∈ r.2, d ∈ ds) : RowsOk acc where
  ne := fun e => by
    subst e
    have := hf.length_eq
    simp at this
    exact h.ne (List.length_eq_zero_iff.mp this.symm)
  len := by
    have := hf.length_eq
    rw [List.length_map, List.length_map] at this
    rw [this]; exact h.len
  nd := hf.nodup_iff.mpr h.nd
  wl := fun r hr => by
    have : r.1 ∈ rows.map (·.1) := hf.mem_iff.mp (List.mem_map.mpr ⟨r, hr, rfl⟩)
    obtain ⟨r0, h0, e⟩ := List.mem_map.mp this
    rw [← e]; exact h.wl r0 h0
  dne := fun r h => (hr r h).1
  dnd := fun r h => (hr r h).2.1
  dw := fun r h => (hr r h).2.2
  all := Nat.le_trans (nodup_sub_len (setS_nodup _) fun d hdd => by
    obtain ⟨r, h1, h2⟩ := desksOf_mem.mp hdd
    exact hd r h1 d h2) hl
/-! ### dicts of rows -/
/-! ### steps of comprehensions -/
section
variable {α β γ : Type}
theorem map_step {xs : List α} {i : Nat} {x : α} (g : α → γ) (h : xs[i]? = some x) : (xs.take (i + 1)).map g = (xs.take i).map g ++ [g x] := by
  rw [take_step h, List.map_append]
  rfl
theorem filt_yes {xs : List α} {i : Nat} {x : α} {p : α → Bool} (h : xs[i]? = some x) (hp : p x = true) : (xs.take (i + 1)).filter p = (xs.take i).filter p ++ [x] := by
  rw [take_step h, List.filter_append, List.filter_cons_of_pos hp]
  rfl
theorem filt_no {xs : List α} {i : Nat} {x : α} {p : α → Bool} (h : xs[i]? = some x) (hp : p x = false) : (xs.take (i + 1)).filter p = (xs.take i).filter p := by
  rw [take_step h, List.filter_append, List.filter_cons_of_neg (by simp [hp]), List.filter_nil, List.append_nil]
theorem cutA_to {xs : List α} {n : Nat} (h : n ≤ xs.length) : cutA xs none (some (n : Int)) = xs.take n := by
  unfold cutA
  rw [HT.sIx_none, HT.sIx_nat, Nat.min_eq_left h]
  simp
theorem cutA_to' {xs : List α} {n : Nat} : cutA xs none (some (n : Int)) = xs.take n := by
  by_cases h : n ≤ xs.length
  · exact cutA_to h
  · unfold cutA
    rw [HT.sIx_none, HT.sIx_nat, Nat.min_eq_right (by omega), List.take_of_length_le (by omega : xs.length ≤ n)]
    simp
end
/-! ### words made -/
theorem join_nil_len {ls : List Str} (h : ∀ s ∈ ls, s.length = 1 ∧ Low s) : (Str.join "" ls).length = ls.length ∧ Low (Str.join "" ls) := join_letters ls h
theorem sum_len {ls : List Str} (h : ∀ s ∈ ls, s.length = 1 ∧ Low s) : (ls.map (fun x => x.length)).sum = ls.length := by
  induction ls with
  | nil => rfl
  | cons x ls ih =>
    rw [List.map_cons, List.sum_cons, ih fun s hs => h s (List.mem_cons_of_mem _ hs), (h x List.mem_cons_self).1, List.length_cons]
    omega
theorem ins_low {w s : Str} {n : Nat} (hw : Low w) (hs : Low s) (h : n ≤ w.length) : Low (cutS w none (some (n : Int)) ++ s ++ cutS w (some (n : Int)) none) := by
  refine low_app (low_app (fun c hc => ?_) hs) (fun c hc => ?_)
  · rw [cutS_to w h] at hc; exact hw c (List.mem_of_mem_take hc)
  · rw [cutS_from w h] at hc; exact hw c (List.mem_of_mem_drop hc)
theorem ins_len {w s : Str} {n : Nat} (h : n ≤ w.length) : (cutS w none (some (n : Int)) ++ s ++ cutS w (some (n : Int)) none).length = w.length + s.length := by
  rw [str_len, app_cps, app_cps, cutS_to w h, cutS_from w h, List.length_append, List.length_append, List.length_take, List.length_drop, str_len s]
  have : w.length = w.cps.toList.length := str_len w
  omega
theorem ins_inj {w s t : Str} {n : Nat} (h : n ≤ w.length) (e : cutS w none (some (n : Int)) ++ s ++ cutS w (some (n : Int)) none = cutS w none (some (n : Int)) ++ t ++ cutS w (some (n : Int)) none) : s = t := by
  have e2 := congrArg (fun z : Str => z.cps.toList) e
  simp only [app_cps] at e2
  exact str_ext (List.append_cancel_left (List.append_cancel_right e2))
theorem len_sgn (c : Nat) : (sgn c).length = 1 := rfl
theorem low_sgn {r : Nat} (h : r < 26) : Low (sgn (97 + r)) := (sgn_word h).2.2
theorem zs_low : Low "zzzzzzzz" := by
  intro c hc
  have : ∀ c ∈ (Str.ofString "zzzzzzzz").cps.toList, 97 ≤ c ∧ c ≤ 122 := by decide +kernel
  exact this c hc
theorem cutS_zs {n : Nat} (h : n ≤ 7) : (cutS "zzzzzzzz" (some (n : Int)) none).length = 8 - n ∧ Low (cutS "zzzzzzzz" (some (n : Int)) none) := by
  have hz : (Str.ofString "zzzzzzzz").length = 8 := by decide +kernel
  have e := cutS_from "zzzzzzzz" (n := n) (by show n ≤ (Str.ofString "zzzzzzzz").length; omega)
  refine ⟨?_, fun c hc => ?_⟩
  · rw [str_len, e, List.length_drop, ← str_len]
    show (Str.ofString "zzzzzzzz").length - n = _
    rw [hz]
  · rw [e] at hc
    exact zs_low c (List.mem_of_mem_drop hc)
theorem nodup_set {α : Type} : ∀ {xs : List α} {x : α} {i : Nat}, xs.Nodup → x ∉ xs → (xs.set i x).Nodup
  | [], _, _, h, _ => h
  | a :: xs, x, 0, h, hx => by
    obtain ⟨h1, h2⟩ := List.nodup_cons.mp h
    rw [List.set_cons_zero]
    exact List.nodup_cons.mpr ⟨fun m => hx (List.mem_cons_of_mem _ m), h2⟩
  | a :: xs, x, i + 1, h, hx => by
    obtain ⟨h1, h2⟩ := List.nodup_cons.mp h
    rw [List.set_cons_succ]
    refine List.nodup_cons.mpr ⟨fun m => ?_, nodup_set h2 fun m => hx (List.mem_cons_of_mem _ m)⟩
    rcases List.mem_or_eq_of_mem_set m with m | e
    · exact h1 m
    · exact hx (by rw [← e]; exact List.mem_cons_self)
/-! ### what each def asks and gives -/
def Fl (fl : List Int) : Prop := ∃ a b c : Int, fl = [a, b, c] ∧ 0 ≤ c ∧ c < 1099511627776
def pre_draw (fl : List Int) (n : Int) : Prop := Fl fl ∧ 0 < n ∧ n ≤ 1000000
def post_draw (fl : List Int) (n r : Int) (fl2 : List Int) : Prop := 0 ≤ r ∧ r < n ∧ Fl fl2
def pre_cell (x : List Int × Int) : Prop := 0 ≤ x.2
def f_cell (x : List Int × Int) : Int := if x.2 < x.1.length then pyIx x.1 x.2 else (if 0 < x.1.length then pyIx x.1 (x.2 * 7 % x.1.length) % 2147483629 * 48271 + x.2 * 7919 else x.2 * 7919 + 5) % 2147483647 * 31
def pre_flow (x : List Int × Int) : Prop := 0 ≤ x.2 ∧ x.2 ≤ 1000000
def post_flow (x : List Int × Int) (r : List Int) : Prop := Fl r
def pre_names (fl : List Int) (n : Int) : Prop := Fl fl ∧ 1 ≤ n ∧ n ≤ 8
def post_names (fl : List Int) (n : Int) (r : List Str) (fl2 : List Int) : Prop := Names n r ∧ Fl fl2
end KP
namespace MD
open PySem PySem.Spec PyProof.Rows L2
/-! ### a def of one thing, the caught exception, called in a suite: nothing flies out of it -/
end MD
namespace MD
open PySem PySem.Spec PyProof.Rows L2
/-! ### dict(a list of pairs) -/
/-! ### is, of truths; what is never come to -/
/-! ### a slice of an owned list put otherwise -/
/-! ### equality where no cell changes -/
end MD
namespace MD
open PySem PySem.Spec PyProof.Rows L2
open PySem.Builtin PySem.Builtin.Str
/-! ### signs of pieces -/
/-! ### str.partition -/
/-! ### str.replace of written texts, a token out -/
/-! ### lists one behind another, pieces of lists, and; with effects -/
end MD
namespace MD
open PySem PySem.Spec PyProof.Rows L2
end MD
namespace MD
open PySem PySem.Spec PyProof.Rows L2
/-! ### a def within which repr may be asked: around it nothing is being shown -/
/-! ### its call -/
/-! ### repr -/
/-! ### the law's end -/
end MD
namespace MD
open PySem PySem.Spec PyProof.Rows L2
/-! ### tuple(a list), locked -/
section
variable {X : Cx} {Y : Ec X.K} {ρ : List (Slot X.K)} {cs : List (Cell X.K)} {A α β γ δ μ ν : Type} {pos : Pos} {e : Expr} {es : List Expr}
/-! ### l.index(y), a text that is there -/
/-! ### list(range(..)) -/
/-! ### nothing, of whatever type -/
/-! ### f(frozen, owned) -/
/-! ### f(what is made, ..) -/
theorem mv_sub {cs1 cs2 : List (Cell X.K)} {F H F' H' : Hp} (m : Mv cs F H cs1 F' H') (h : cs2.Sublist cs1) : Mv cs F H cs2 F' H' :=
  ⟨m.ff, m.fh, m.fr, m.kp, fun c hc => m.cell c (h.subset hc), m.nd.sublist (h.map _), fun c hc => m.nw c (h.subset hc), m.st⟩
theorem ek_o1M {k : Nat} {f : Addr} {fd : FuncData} {ps : List Str} {nm : Str} {p : Pos} {T0 : Ty X.K δ} {ins : α → List (Slot X.K)} {T : Ty X.K γ} {pre : List δ → α → Prop} {post : List δ → α → γ → List δ → Prop} {Ts : Tys X.K α} {cs1 : ν → List (Cell X.K)} {M0 : (ν × Addr × List δ → Prop) → Prop}
    {vl : ν × Addr × List δ → μ → α} {cs2 : ν × Addr × List δ → μ → List (Cell X.K)} {M : ν × Addr × List δ → (μ → Prop) → Prop}
    (F : FnOk X.prog X.w X.K X.mg X.base (L2.CX X.prog X.w) k f fd ps (Con.o1 T0 ins T pre post).sp) (hs : Sl Ts ins) (hr : Room k X.A) (hm : X.mg nm = some (.ref f)) (hk : PySem.W.keepIn X.K (.ref f) = true) (hb : Binds X.K fd ps [])
    (h0 : EK X Y e ρ cs tR (fun y : ν × Addr × List δ => y.2.1) (fun y => cs1 y.1 ++ [⟨y.2.1, cL T0 y.2.2⟩]) M0) (ha : ∀ y, AK X Y es ρ (cs1 y.1 ++ [⟨y.2.1, cL T0 y.2.2⟩]) Ts (vl y) (cs2 y) (M y)) (hc : ∀ y u, cs2 y u = (cs2 y u).dropLast ++ [⟨y.2.1, cL T0 y.2.2⟩])
    (hg : Gl X nm := by rfl) (hdb : (nm == ("__debug__" : Str)) = false := by decide) (he : starEach (e :: es) X.env = (false, eval e X.env) :: starEach es X.env := by rfl) (hpl : (backTo pos (starEach es X.env)).any (·.1) = false := by rfl) :
    EK X Y (.Call (.Name nm p) (e :: es) [] pos) ρ cs T (fun y : (ν × Addr × List δ) × μ × γ × List δ => y.2.2.1) (fun y => (cs2 y.1 y.2.1).dropLast) (fun φ => M0 fun y => M y fun u => pre y.2.2 (vl y u) ∧ ∀ r w, post y.2.2 (vl y u) r w → φ (y, u, r, w)) := fun F0 σ H ok xh φ q Q kk => by
  refine we (pe_call F hr hg hm hk hb .nil (E := E0) (passL) (pa_cons pe_w pa_w he) hdb he hpl) ?_
  refine h0 F0 σ H ok xh _ q _ fun y v F1 H1 m1 ev q1 => ?_
  refine ha y F1 σ H1 (ok.mv m1) (xh.mv m1) _ q1 _ fun u vs F2 H2 m2 r2 q2 => ?_
  have ok2 := (ok.mv m1).mv m2
  have hv : v = .ref y.2.1 := ev
  subst hv
  generalize hcx : (cs2 y u).dropLast = csx at *
  have hcu : cs2 y u = csx ++ [⟨y.2.1, cL T0 y.2.2⟩] := by rw [← hcx]; exact hc y u
  have hx : (cs2 y u)[csx.length]? = some ⟨y.2.1, cL T0 y.2.2⟩ := by rw [hcu, List.getElem?_append_right (Nat.le_refl _), Nat.sub_self]; rfl
  refine ⟨(y.2.1, y.2.2, vl y u), F2, ?_, m2.fh, fun c0 h0 => ?_, by simp [Con.o1], q2.1, fun r w hp v F3 H3 m3 rr => ?_⟩
  · rw [List.append_nil]
    exact .cons ⟨_, rfl, rfl⟩ (hs F2 vs (vl y u) r2)
  · have : c0 = ⟨y.2.1, cL T0 y.2.2⟩ := by simpa [Con.o1] using h0
    subst this
    exact ok2.cell _ (List.mem_of_getElem? hx)
  · have m4 := mv_one (c' := ⟨y.2.1, cL T0 w⟩) (more := []) ok2 hx rfl m3
    have e : (cs2 y u).set csx.length ⟨y.2.1, cL T0 w⟩ ++ [] = csx ++ [⟨y.2.1, cL T0 w⟩] := by
      rw [List.append_nil, hcu, List.set_append_right _ _ (Nat.le_refl _), Nat.sub_self]
      rfl
    rw [e] at m4
    have m5 := mv_sub ((m1.trans m2).trans m4) (List.sublist_append_left csx _)
    exact kk (y, u, r, w) v F3 H3 (by show Mv cs F0 H (cs2 y u).dropLast F3 H3; rw [hcx]; exact m5) rr (q2.2 r w hp)
/-! ### comparisons and `and`, as values, with effects -/
end
end MD
namespace MD
open PySem PySem.Spec PyProof.Rows L2
/-! ### a comprehension within one -/
end MD
/-! MDah: sets of ints made of a list, and sorted. -/
namespace MD
open PySem PySem.Spec PyProof.Rows L2
section
variable {K : PySem.W.Frag}
/-- a set of the ints of xs -/
def rI (w : World) (xs : List Int) : Vw := fun _ H v => ∃ p S m, v = .ref p ∧ H p = some (SetO w p S m) ∧ (∀ x, S x = true ↔ x ∈ xs) ∧ m ≤ xs.length
end
end MD
namespace MD
open PySem PySem.Spec PyProof.Rows L2
/-! ### a def whose value is told by a promise -/
end MD
namespace MD
open PySem PySem.Spec PyProof.Rows L2
end MD
namespace MD
open PySem PySem.Spec PyProof.Rows L2
end MD
namespace MD
open PySem PySem.Spec PyProof.Rows L2
end MD
namespace MD
open PySem PySem.Spec PyProof.Rows L2
/-! ### max(xs, default=d) of ints -/
section
variable {X : Cx} {fl : Hp} {B : Hb X.K} {Y : Ec X.K} {ρ : List (Slot X.K)} {cs : List (Cell X.K)} {A R α β γ δ μ ν : Type} {pos : Pos} {rest : List Stmt} {D : Ends} {e : Expr}
/-! ### what is read only: owned lists as frozen ones, for an expression whose value is flat -/
/-! ### a new owned list, or a refusal -/
def Con.nx {K : PySem.W.Frag} {A δ : Type} (xa : XA) (ins : A → List (Slot K)) (T0 : Ty K δ) (pre : A → Prop) (g : A → List δ ⊕ Rf) : Con K A (Addr × List δ) Addr where
  ins := ins
  cin := fun _ => []
  wp := fun a φ ε => pre a ∧ (∀ c, g a = .inl c → ∀ l, φ (l, c)) ∧ ∀ e, g a = .inr e → ε (exn xa e)
  T := tR
  rv := fun r => r.1
  cout := fun _ r => [⟨r.1, cL T0 r.2⟩]
  mono := fun _ _ _ _ _ h h' w => ⟨w.1, fun c e l => h (l, c) (w.2.1 c e l), fun e q => h' _ (w.2.2 e q)⟩
end
end MD
namespace MD
open PySem PySem.Spec PyProof.Rows L2
end MD
namespace MD
open PySem PySem.Spec PyProof.Rows L2
end MD
namespace MD
open PySem PySem.Spec PyProof.Rows L2
end MD
namespace MD
open PySem PySem.Spec PyProof.Rows L2
end MD
namespace MD
open PySem PySem.Spec PyProof.Rows L2
/-! ### an owned list lent as a frozen one to a call that leaves owned things -/
end MD
namespace MD
end MD
namespace MD
open PySem PySem.Spec PyProof.Rows L2
/-! ### a list of written places; a def as a value; owned lists lent, all at once -/
section
variable {K : PySem.W.Frag} {α β γ : Type}
def tLt (Ts : Tys K α) : Ty K α := ⟨fun F v x => ∃ a vs, v = .ref a ∧ F a = some (.lst vs) ∧ Ts.rep F vs x, fun e ⟨a, vs, h1, h2, h3⟩ => ⟨a, vs, h1, e _ _ h2, Ts.mono e h3⟩⟩
end
section
variable {X : Cx} {fl : Hp} {B : Hb X.K} {Y : Ec X.K} {ρ : List (Slot X.K)} {cs : List (Cell X.K)} {A R α β γ δ μ ν : Type} {pos : Pos} {rest : List Stmt} {D : Ends} {e : Expr}
theorem gk_lstT {tgs : List Expr} {k0 : Nat} {Ts : Tys X.K α} {G : List (Slot X.K) → α → List (Slot X.K)} {vs : List Nat} {n : Nat} (hc : X.calm = true) (h : GsK X tgs Ts G vs) (hl : ∀ F us x, Ts.rep F us x → us.length = n)
    (hn : (assignEach tgs X.env).length = n := by rfl) (hst : (assignEach tgs X.env).findIdx? (·.1) = none := by rfl) : GK X (.Tuple tgs k0 pos) (tLt Ts) G vs := fun F σ H v x ρ hρ hs ⟨a, us, e, hq, r⟩ Q k => by
  subst e
  refine wg (pg_unl hc pgs_w hn hst) ?_
  exact ⟨a, us, rfl, SqL.of (hs _ _ hq), hl F us x r, h F σ H us x ρ hρ hs r Q k⟩
end
/-! ### all owned lists lent -/
end MD
namespace MD
open PySem PySem.Spec PyProof.Rows L2
end MD
namespace MD
open PySem PySem.Spec PyProof.Rows L2
end MD
namespace MD
open PySem PySem.Spec PyProof.Rows L2
section
variable {X : Cx} {Y : Ec X.K} {ρ : List (Slot X.K)} {cs : List (Cell X.K)} {α μ : Type} {pos : Pos}
/-- xs[:e], e with effects -/
theorem ne_slH {a hi : Expr} {T : Ty X.K α} {xs : List α} {P : Prop} {p2 : Pos} {vl : μ → Int} {cs1 : μ → List (Cell X.K)} {M : (μ → Prop) → Prop} (ha : PK X a ρ cs (tL T) xs P) (hh : EK X Y hi ρ cs tI vl cs1 M) :
    NE X Y (.Subscript a (.Slice none (some hi) none p2) pos) ρ cs T (fun y => cutA xs none (some (vl y))) cs1 (fun φ => P ∧ M φ) := fun F σ H ok xh φ q Q k => by
  refine we (pe_slice sl_list pe_w po_none (po_some pe_w)) ?_
  refine ha F σ H ok.w q.1 _ fun v F1 H1 g1 ⟨b, vs, e, hb, r, z⟩ => ?_
  have m1 := ok.grow g1
  refine hh F1 σ H1 (ok.mv m1) (xh.mv m1) _ q.2 _ fun y w F2 H2 m2 r2 q2 => ?_
  refine ⟨_, r2, b, vs, e, SqL.of ((m2.ff.trans m2.fh) _ _ hb), fun p hp => ?_⟩
  obtain ⟨m3, h3, h4, h5⟩ := new_ne (vs := cutV vs none (some (vl y))) ok (m1.trans m2) hp
  exact k y p _ F2 _ m3 h3 h4 upd_same h5 (Rl.cut (r.mono m2.ff)) (Nat.le_trans (cutV_length ..) z) q2
end
end MD
namespace MD
open PySem PySem.Spec PyProof.Rows L2
end MD
namespace MD
open PySem PySem.Spec PyProof.Rows L2
/-! ### a comprehension whose element may raise -/
end MD
namespace MD
open PySem PySem.Spec PyProof.Rows L2
end MD
namespace MD
open PySem PySem.Spec PyProof.Rows L2
end MD
namespace MD
open PySem PySem.Spec PyProof.Rows L2
end MD
namespace MD
open PySem PySem.Spec PyProof.Rows L2
end MD
namespace MD
open PySem PySem.Spec PyProof.Rows L2
end MD
/-! ### == of dicts with tuple keys -/
namespace MD
open PySem PySem.W PySem.Calls PyProof.Rows PyProof.V PySem.Spec
end MD
namespace MD
open PySem PySem.Spec PyProof.Rows L2
end MD
namespace MD
open PySem PySem.Spec PyProof.Rows L2
section
variable {K : PySem.W.Frag} {κ α β γ : Type}
/-! ### dicts whose keys are tuples of whole numbers and texts -/
structure KTt (T : Ty K κ) where
  kf : κ → List Key
  inj : ∀ x y, kf x = kf y → x = y
  val : ∀ F v x, T.rep F v x → ∃ b, v = .ref b ∧ F b = some (.tup ((kf x).map kV))
def EntT {TK : Ty K κ} (k : KTt TK) (T : Ty K α) (F : Hp) (e : List Key × V) (p : κ × α) : Prop := e.1 = k.kf p.1 ∧ T.rep F e.2 p.2
def ReT {TK : Ty K κ} (k : KTt TK) (T : Ty K α) (F : Hp) : List (List Key × V) → List (κ × α) → Prop := Paired (EntT k T F)
theorem ReT.mono {TK : Ty K κ} {k : KTt TK} {T : Ty K α} {F F' : Hp} {es kvs} (e : Same F F') (h : ReT k T F es kvs) : ReT k T F' es kvs := paired_mono (fun _ _ r => ⟨r.1, T.mono e r.2⟩) h
theorem ReT.length {TK : Ty K κ} {k : KTt TK} {T : Ty K α} {F : Hp} {es : List (List Key × V)} {kvs : List (κ × α)} (h : ReT k T F es kvs) : es.length = kvs.length := Paired.length h
def cDt {TK : Ty K κ} (k : KTt TK) (T : Ty K α) (kvs : List (κ × α)) : CK K := ⟨fun F o => ∃ es, o = .dT es ∧ ReT k T F es kvs ∧ es.length ≤ sizeLine, fun e ⟨es, h, r, z⟩ => ⟨es, h, r.mono e, z⟩⟩
def tDt {TK : Ty K κ} (k : KTt TK) (T : Ty K α) : Ty K (List (κ × α)) := ⟨fun F v kvs => ∃ a es, v = .ref a ∧ F a = some (.dT es) ∧ ReT k T F es kvs ∧ es.length ≤ sizeLine, fun e ⟨a, es, h1, h2, r, z⟩ => ⟨a, es, h1, e _ _ h2, r.mono e, z⟩⟩
end
section
variable {X : Cx} {fl : Hp} {B : Hb X.K} {Y : Ec X.K} {ρ : List (Slot X.K)} {cs : List (Cell X.K)} {A R κ α β γ δ μ ν : Type} {pos : Pos} {rest : List Stmt} {D : Ends} {e : Expr}
/-! ### a new owned dict, or a refusal -/
def DE (X : Cx) (Y : Ec X.K) (e : Expr) (ρ : List (Slot X.K)) (cs : List (Cell X.K)) {μ κ α : Type} {TK : Ty X.K κ} (kt : KTt TK) (T : Ty X.K α) (vl : μ → List (κ × α)) (cs' : μ → List (Cell X.K)) (M : (μ → Prop) → Prop) : Prop :=
  ∀ F σ H, Okc ρ cs F σ H → Xh X Y cs F σ H → ∀ φ : μ → Prop, M φ → ∀ Q : VK, (∀ y a es F' H', Mv cs F H (cs' y) F' H' → H a = none → F' a = none → H' a = some (.dT es) → (∀ c ∈ cs' y, c.a ≠ a) → ReT kt T F' es (vl y) → es.length ≤ sizeLine → φ y → Q (.ref a) H') → WE X e σ H Q
theorem DE.ek {TK : Ty X.K κ} {kt : KTt TK} {T : Ty X.K α} {vl : μ → List (κ × α)} {cs' : μ → List (Cell X.K)} {M : (μ → Prop) → Prop} (h : DE X Y e ρ cs kt T vl cs' M) : EK X Y e ρ cs (tDt kt T) vl cs' M := fun F σ H ok xh φ p Q k =>
  h F σ H ok xh φ p Q fun y a es F' H' m hH hF ho hn r z q => k y _ _ _ (frz_mv m hH hF ho hn) ⟨a, es, rfl, upd_same, r.mono (same_upd hF), z⟩ q
def Con.nd {K : PySem.W.Frag} {A κ δ : Type} {TK : Ty K κ} (kt : KTt TK) (xa : XA) (ins : A → List (Slot K)) (T0 : Ty K δ) (pre : A → Prop) (g : A → List (κ × δ) ⊕ Rf) : Con K A (Addr × List (κ × δ)) Addr where
  ins := ins
  cin := fun _ => []
  wp := fun a φ ε => pre a ∧ (∀ c, g a = .inl c → ∀ l, φ (l, c)) ∧ ∀ e, g a = .inr e → ε (exn xa e)
  T := tR
  rv := fun r => r.1
  cout := fun _ r => [⟨r.1, cDt kt T0 r.2⟩]
  mono := fun _ _ _ _ _ h h' w => ⟨w.1, fun c e l => h (l, c) (w.2.1 c e l), fun e q => h' _ (w.2.2 e q)⟩
/-! ### comparisons, isinstance -/
end
end MD
namespace MD
open PySem PySem.Spec PyProof.Rows L2
end MD
namespace MD
open PySem PySem.Spec PyProof.Rows L2
section
variable {X : Cx} {fl : Hp} {B : Hb X.K} {Y : Ec X.K} {ρ : List (Slot X.K)} {cs : List (Cell X.K)} {A R κ α β γ δ μ ν : Type} {pos : Pos} {rest : List Stmt} {D : Ends} {e : Expr}
/-- what a value left owned may be left -/
theorem EK.drop {T : Ty X.K α} {vl : μ → α} {cs' : μ → List (Cell X.K)} {M : (μ → Prop) → Prop} (h : EK X Y e ρ cs T vl cs' M) : EK X Y e ρ cs T vl (fun _ => []) M := fun F σ H ok xh φ p Q k => h F σ H ok xh φ p Q fun y v F' H' m r q => k y v F' H' m.none r q
/-! ### dict(d), dict(rows), sorted(d) -/
/-! ### a walk over an owned dict that the body leaves alone -/
/-! ### range(a, b, -1) -/
end
end MD
namespace MD
open PySem PySem.Spec PyProof.Rows L2
open LamX (TabB CodeO lamEnv lamCx)
/-! ### a def's table of code objects, as a cell -/
def TabOf (F : Hp) (ps : Array Value) (q : Str) : Prop := TriplesOk ps.toList ∧ ∀ (pos : Pos) (cv : Value), codeAmong pos ps.toList = some cv → ∃ c, cv = .ref c ∧ F c = some (CodeO c q)
theorem TabOf.mono {F F' : Hp} {ps : Array Value} {q : Str} (e : Same F F') (t : TabOf F ps q) : TabOf F' ps q := ⟨t.1, fun pos cv hc => let ⟨c, e1, e2⟩ := t.2 pos cv hc; ⟨c, e1, e _ _ e2⟩⟩
/-! ### a lambda of one parameter -/
end MD
namespace MD
open PySem PySem.Spec PyProof.Rows L2
open LamX (TabB CodeO lamEnv lamCx)
/-! ### min(xs, key=lambda x: ..) of whole numbers -/
end MD
namespace MD
open PySem PySem.Spec PyProof.Rows L2
open LamX (TabB CodeO lamEnv lamCx)
/-! ### an owned list lent as a frozen one to what may raise -/
/-! ### a def whose code object is known -/
end MD
namespace MD
open PySem PySem.Spec PyProof.Rows L2
open LamX (TabB CodeO lamEnv lamCx)
/-! ### the end of a law whose run makes lambdas -/
end MD
namespace MD
open PySem PySem.Spec PyProof.Rows L2
/-! ### == and != of a value with effects and a view -/
end MD
namespace MD
open PySem PySem.Spec PyProof.Rows L2
/-! ### a new list, or None -/
section
variable {X : Cx} {fl : Hp} {B : Hb X.K} {Y : Ec X.K} {ρ : List (Slot X.K)} {cs : List (Cell X.K)} {A R α β γ δ μ ν : Type} {pos : Pos} {rest : List Stmt} {D : Ends} {e : Expr}
def NOE (X : Cx) (Y : Ec X.K) (e : Expr) (ρ : List (Slot X.K)) (cs : List (Cell X.K)) {μ α : Type} (T : Ty X.K α) (vl : μ → Option (List α)) (cs' : μ → List (Cell X.K)) (M : (μ → Prop) → Prop) : Prop :=
  ∀ F σ H, Okc ρ cs F σ H → Xh X Y cs F σ H → ∀ φ : μ → Prop, M φ → ∀ Q : VK, (∀ y F' H', Mv cs F H (cs' y) F' H' → vl y = none → φ y → Q .non H') →
    (∀ y xs a vs F' H', Mv cs F H (cs' y) F' H' → H a = none → F' a = none → H' a = some (.lst vs) → (∀ c ∈ cs' y, c.a ≠ a) → Rl T F' vs xs → vs.length ≤ sizeLine → vl y = some xs → φ y → Q (.ref a) H') → WE X e σ H Q
theorem NOE.ek {T : Ty X.K α} {vl : μ → Option (List α)} {cs' : μ → List (Cell X.K)} {M : (μ → Prop) → Prop} (h : NOE X Y e ρ cs T vl cs' M) : EK X Y e ρ cs (tO (tL T)) vl cs' M := fun F σ H ok xh φ p Q k =>
  h F σ H ok xh φ p Q (fun y F' H' m en q => k y .non F' H' m (by rw [en]; rfl) q) fun y xs a vs F' H' m hH hF ho hn r z es q => k y _ _ _ (frz_mv m hH hF ho hn) (by rw [es]; exact ⟨a, vs, rfl, upd_same, r.mono (same_upd hF), z⟩) q
end
/-! ### as a value: x is None -/
/-! ### l.count(x), texts -/
end MD
namespace MD
open PySem PySem.Spec PyProof.Rows L2
/-! ### zip of three lists, or of three tuples -/
end MD
namespace MD
open PySem PySem.Spec PyProof.Rows L2
/-! ### dict(pairs), d.update(pairs), {k: v} with tuple keys -/
end MD
namespace MD
open PySem PySem.Spec PyProof.Rows L2
section
variable {X : Cx} {fl : Hp} {B : Hb X.K} {Y : Ec X.K} {ρ : List (Slot X.K)} {cs : List (Cell X.K)} {A R κ α β γ δ μ ν : Type} {pos : Pos} {rest : List Stmt} {D : Ends} {e : Expr}
theorem EK.some {T : Ty X.K α} {vl : μ → α} {cs' : μ → List (Cell X.K)} {M : (μ → Prop) → Prop} (h : EK X Y e ρ cs T vl cs' M) : EK X Y e ρ cs (tO T) (fun y => Option.some (vl y)) cs' M := fun F σ H ok xh φ p Q k => h F σ H ok xh φ p Q k
/-! ### repr of None, or of a list -/
end
end MD
namespace MD
open PySem PySem.Spec PyProof.Rows L2
/-! ### zip of two, its tuples given to one name: the tuple handed out may still be held, or be gone -/
/-! ### the walk -/
end MD
namespace MD
open PySem PySem.Spec PyProof.Rows L2
/-! ### a dict whose keys are tuples (int, tuple of ints), told by its record alone -/
end MD
namespace MD
open PySem PySem.Spec PyProof.Rows L2
/-! ### an owned dict with keys (int, tuple of ints) and ints as values -/
end MD
namespace MD
open PySem PySem.Spec PyProof.Rows L2
/-! ### an owned dict with truths as keys and ints as values -/
end MD
namespace MD
open PySem PySem.Spec PyProof.Rows L2
/-! ### tuples of one type that are plain for sure: keys of dicts -/
section
variable {K : PySem.W.Frag} {α : Type}
def tUp (T : Ty K α) : Ty K (List α) := ⟨fun F v xs => ∃ a vs, v = .ref a ∧ F a = some (.tup vs) ∧ Rl T F vs xs ∧ vs.length ≤ sizeLine, fun e ⟨a, vs, h1, h2, h3, h4⟩ => ⟨a, vs, h1, e _ _ h2, h3.mono e, h4⟩⟩
end
/-! ### a, b = x, [..]: the second one owned -/
/-! ### how many a set of ints has -/
/-! ### how many a dict with tuple keys has -/
end MD
/-! a list so many times; a, b, c = x, y, z with plain local names -/
namespace MD
open PySem PySem.Spec PyProof.Rows L2
section
variable {X : Cx} {fl : Hp} {B : Hb X.K} {Y : Ec X.K} {ρ : List (Slot X.K)} {cs : List (Cell X.K)} {α β γ μ : Type} {pos : Pos} {rest : List Stmt} {D : Ends}
theorem Rl.rep {T : Ty X.K α} {F : Hp} {vs : List V} {xs : List α} (h : Rl T F vs xs) : ∀ n : Nat, Rl T F (List.replicate n vs).flatten (List.replicate n xs).flatten
  | 0 => .nil
  | n + 1 => by
    rw [List.replicate_succ, List.replicate_succ, List.flatten_cons, List.flatten_cons]
    exact Rl.append h (Rl.rep h n)
/-! ### range(a, b, s) -/
/-! ### a list of so many things as one of written places -/
structure LtC (T : Ty X.K α) (Ts : Tys X.K β) (n : Nat) (c : List α → β) : Prop where
  conv : ∀ F vs xs, Rl T F vs xs → xs.length = n → Ts.rep F vs (c xs)
theorem ltc1 [Inhabited α] {T : Ty X.K α} : LtC T (ts1 T) 1 (fun xs => xs.headD default) := ⟨fun F vs xs h hl => by
  cases h with
  | nil => cases hl
  | cons r t =>
    cases t with
    | nil => exact ⟨_, rfl, r⟩
    | cons _ _ => simp at hl⟩
theorem ltcC [Inhabited α] {T : Ty X.K α} {Ts : Tys X.K β} {n : Nat} {c : List α → β} (h : LtC T Ts n c) : LtC T (tsC T Ts) (n + 1) (fun xs => (xs.headD default, c xs.tail)) := ⟨fun F vs xs r hl => by
  cases r with
  | nil => cases hl
  | cons a t => exact ⟨_, _, rfl, a, h.conv F _ _ t (by simpa using hl)⟩⟩
theorem EK.lt {e : Expr} {Y : Ec X.K} {T : Ty X.K α} {Ts : Tys X.K β} {n : Nat} {c : List α → β} {vl : μ → List α} {cs' : μ → List (Cell X.K)} {M : (μ → Prop) → Prop} (hc : LtC T Ts n c) (h : EK X Y e ρ cs (tL T) vl cs' M) : EK X Y e ρ cs (tLt Ts) (fun y => c (vl y)) cs' (fun φ => M fun y => (vl y).length = n ∧ φ y) := fun F σ H ok xh φ p Q k =>
  h F σ H ok xh _ p Q fun y v F' H' m ⟨a, vs, h1, h2, h3, h4⟩ q => k y v F' H' m ⟨a, vs, h1, h2, hc.conv F' vs _ h3 q.1⟩ q.2
end
end MD
namespace MD
open PySem PySem.Spec PyProof.Rows L2
/-! ### zip of two, one a list and one a tuple, to two targets -/
/-! ### dicts keyed by three ints -/
end MD
namespace MD
open PySem PySem.Spec PyProof.Rows L2
/-! ### zip of three, its tuples given to one name -/
/-! ### the walk -/
end MD
namespace MD
open PySem PySem.Spec PyProof.Rows L2
/-! ### raising an exception whose class has no __init__ of its own: C() -/
def bmVE : List Value := [.type "ValueError", .type "Exception", .type "BaseException", .type "object"]
end MD
namespace MD
open PySem PySem.Spec PyProof.Rows L2 PySem.W
/-! ### sorted(set(ints)), any number of them -/
/-! ### isinstance of a caught exception, with fields or without -/
/-! ### f(own, ..) of a def within which repr may be asked -/
/-! ### a and b, both of which write the same owned list -/
end MD
namespace MD
open PySem PySem.Spec PyProof.Rows L2
/-! ### a dict whose keys are tuples of ints and texts, told by its record: which tuples its keys are -/
/-! ### the rules' readings -/
/-! ### the cell, the frozen dict -/
end MD
namespace MD
open PySem PySem.Spec PyProof.Rows L2
/-! ### made, written, frozen -/
/-! ### walked -/
/-! ### keys of ints and texts: tuples of any lengths -/
section
variable {K : PySem.W.Frag}
instance inhKey : Inhabited Key := ⟨.inl 0⟩
def yRep (K : PySem.W.Frag) (F : Hp) (v : V) : Key → Prop
  | .inl i => (tI (K := K)).rep F v i
  | .inr s => (tS (K := K)).rep F v s
theorem yRep_mono {F F' : Hp} (e : Same F F') {v : V} : ∀ {k : Key}, yRep K F v k → yRep K F' v k
  | .inl _, h => (tI (K := K)).mono e h
  | .inr _, h => (tS (K := K)).mono e h
def tY : Ty K Key := ⟨fun F v k => yRep K F v k, fun e h => yRep_mono e h⟩
/-- the number that a key is, the text -/
def keyI : Key → Int
  | .inl i => i
  | .inr _ => 0
end
section
variable {X : Cx} {Y : Ec X.K} {ρ : List (Slot X.K)} {cs : List (Cell X.K)} {α : Type} {e : Expr} {P : Prop} {pos : Pos}
theorem rl_YI {F : Hp} : ∀ {vs : List V} {ks : List Key}, Rl (tY (K := X.K)) F vs ks → (∀ x ∈ ks, ∃ i, x = .inl i) → Rl (tI (K := X.K)) F vs (ks.map keyI)
  | [], [], .nil, _ => .nil
  | v :: vs, k :: ks, .cons h t, hk => by
    obtain ⟨i, rfl⟩ := hk k List.mem_cons_self
    exact .cons h (rl_YI t fun x hx => hk x (List.mem_cons_of_mem _ hx))
/-- a tuple of n numbers, by its places -/
theorem PK.pt {β : Type} {Ts : Tys X.K β} {n : Nat} {c : List Int → β} {x : List Key} (hc : LtC (tI (K := X.K)) Ts n c) (h : PK X e ρ cs (tUp tY) x P) : PK X e ρ cs (tT Ts) (c (x.map keyI)) (P ∧ (∀ k ∈ x, ∃ i, k = .inl i) ∧ x.length = n) := fun F σ H ok p Q k => h F σ H ok p.1 Q fun v F' H' g ⟨a, vs, h1, h2, r, z⟩ =>
  k v F' H' g ⟨a, vs, h1, h2, hc.conv F' vs _ (rl_YI r p.2.1) (by rw [List.length_map]; exact p.2.2)⟩
end
end MD
namespace MD
open PySem PySem.Spec PyProof.Rows L2
/-! ### dict(pairs), its keys known; its keys as a list -/
end MD
namespace MD
open PySem PySem.Spec PyProof.Rows L2
end MD
/-! one of two sorts of things, told apart by what they are -/
namespace MD
open PySem PySem.Spec PyProof.Rows L2
section
variable {K : PySem.W.Frag} {α β : Type}
def smRep (T1 : Ty K α) (T2 : Ty K β) (F : Hp) (v : V) : α ⊕ β → Prop
  | .inl a => T1.rep F v a
  | .inr b => T2.rep F v b
theorem smRep_mono {T1 : Ty K α} {T2 : Ty K β} {F F' : Hp} (e : Same F F') {v : V} : ∀ {x : α ⊕ β}, smRep T1 T2 F v x → smRep T1 T2 F' v x
  | .inl _, h => T1.mono e h
  | .inr _, h => T2.mono e h
def tSm (T1 : Ty K α) (T2 : Ty K β) : Ty K (α ⊕ β) := ⟨fun F v x => smRep T1 T2 F v x, fun e h => smRep_mono e h⟩
instance inhSm [Inhabited α] : Inhabited (α ⊕ β) := ⟨.inl default⟩
end
section
variable {X : Cx} {Y : Ec X.K} {ρ : List (Slot X.K)} {cs : List (Cell X.K)} {α β μ : Type} {e : Expr} {P : Prop} {T1 : Ty X.K α} {T2 : Ty X.K β} {cs' : μ → List (Cell X.K)} {M : (μ → Prop) → Prop}
theorem pk_inl {x : α} (h : PK X e ρ cs T1 x P) : PK X e ρ cs (tSm T1 T2) (.inl x) P := fun F σ H ok p Q k => h F σ H ok p Q k
theorem pk_inr {x : β} (h : PK X e ρ cs T2 x P) : PK X e ρ cs (tSm T1 T2) (.inr x) P := fun F σ H ok p Q k => h F σ H ok p Q k
end
end MD
/-! refusals held as values: made, looked into, asked for their class -/
namespace MD
open PySem PySem.Spec PyProof.Rows L2
instance inhRf : Inhabited Rf := ⟨.noKind⟩
def rfRep (K : PySem.W.Frag) (xa : XA) (F : Hp) (v : V) (r : Rf) : Prop := ∃ a : Addr, v = .ref a ∧ (((exn (K := K) xa r).fs = [] ∧ F a = some (ExO (.ref (exn (K := K) xa r).c) a)) ∨
  ∃ d vs, F a = some (exo a (exn (K := K) xa r).c (some d)) ∧ F d = some (exd d vs) ∧ FldOk F (exn (K := K) xa r).fs vs)
theorem rfRep_mono {K : PySem.W.Frag} {xa : XA} {F F' : Hp} (e : Same F F') {v : V} {r : Rf} (h : rfRep K xa F v r) : rfRep K xa F' v r := by
  obtain ⟨a, ev, h⟩ := h
  refine ⟨a, ev, ?_⟩
  rcases h with ⟨h1, h2⟩ | ⟨d, vs, h1, h2, h3⟩
  · exact .inl ⟨h1, e _ _ h2⟩
  · exact .inr ⟨d, vs, e _ _ h1, e _ _ h2, h3.mono e⟩
def tRf {K : PySem.W.Frag} (xa : XA) : Ty K Rf := ⟨fun F v r => rfRep K xa F v r, fun e h => rfRep_mono e h⟩
def tMkV (C : Addr) (sp : Sp) (ta : TA) : TE := fun σ H Q => ta σ H fun vs H1 => vs.length ≤ 1000 ∧ ∀ a, H1 a = none → sp (.ref a :: vs) (upd H1 a (exo a C none)) (fun v H2 => v = .non ∧ Q (.ref a) H2) (fun _ _ _ => False)
section
variable {X : Cx} {o e : Expr} {es : List Expr} {ta : TA} {p pos : Pos}
/-- C(e, ..) as a value -/
theorem pe_oex {CX : CXT} {x : Str} {C fI : Addr} {k : Nat} {fd : FuncData} {ps : List Str} {sp : Sp} (T : OexC X.K C) (iC : PySem.W.findIn X.K (.ref C) "__init__" = some (some (.ref fI))) (tI : PySem.W.typeIn X.K (.ref fI) = some (.type "function"))
    (F1 : FnOk X.prog X.w X.K X.mg X.base CX k fI fd ps sp) (hr : Room (k + 1) X.A) (hb : Binds X.K fd ps []) (hx : Passes CX X (fun _ _ _ => False)) (hg : Gl X x) (hm : X.mg x = some (.ref C)) (ha : PA X (e :: es) ta)
    (hdb : (x == ("__debug__" : Str)) = false := by decide) (he : starEach (e :: es) X.env = (false, eval e X.env) :: starEach es X.env := by rfl) (hpl : (backTo pos (starEach es X.env)).any (·.1) = false := by rfl) :
    PE X (.Call (.Name x p) (e :: es) [] pos) (tMkV C sp ta) := by
  refine ⟨fun pins s σ H Q inv ask => ?_⟩
  obtain ⟨nm, q, N, bs, bm, sn, sub, ab, col, dd, k0, k1, k2, k3, k5, hC, hbm⟩ := T.cls
  refine wpAny_Call_Name_kw (ld_glob inv hg hm ?_ hdb)
  refine PySem.W.callWith_K (h₀ := X.base) inv.ok.mod.kin T.kC (thn (ha.run pos pins s σ H _ inv ask) fun us s1 hh => ?_) he hpl
  obtain ⟨vs, H1, inv1, r1, hz, q1⟩ := hh
  refine ⟨inv1.kIn, ?_⟩
  show wpAny _ _ (call (.ref C) us) _ _ _
  obtain ⟨hp, g, dr, tk, os⟩ := s1
  have hsz : hp.objs.size ≤ hp.objs.size + 1 := Nat.le_succ _
  have hq := q1 (hp.objs.size + 1) (inv1.hok.fresh hsz)
  have kept : ∀ b o, hp.get? b = some o → ((hp.push (PySem.W.kdv_tup us)).push (PySem.HandSPX.excO C hp.objs.size)).get? b = some o := fun b o e => Heap.get?_push_of_some _ (Heap.get?_push_of_some _ e)
  have got : ((hp.push (PySem.W.kdv_tup us)).push (PySem.HandSPX.excO C hp.objs.size)).get? (hp.objs.size + 1) = some (PySem.HandSPX.excO C hp.objs.size) := by heap_get
  have inv2 : Inv X pins σ (upd H1 (hp.objs.size + 1) (exo (hp.objs.size + 1) C none)) ⟨(hp.push (PySem.W.kdv_tup us)).push (PySem.HandSPX.excO C hp.objs.size), g, dr, tk, os⟩ :=
    inv1.laid (t' := tk) (a := hp.objs.size + 1) (o := exo (hp.objs.size + 1) C none) (h' := (hp.push (PySem.W.kdv_tup us)).push (PySem.HandSPX.excO C hp.objs.size)) kept hsz (exo_ok got)
  have rel2 : Vals (V.ref (hp.objs.size + 1) :: vs) (Value.ref (hp.objs.size + 1) :: us) := .cons rfl r1
  have len2 : (Value.ref (hp.objs.size + 1) :: us).length = ps.length := by rw [← rel2.length]; exact F1.len _ _ _ _ hq
  have lus : us.length ≤ sizeLine := by
    rw [← Paired.length r1, sizeLine_eq]
    omega
  have hb2 := hb _ (Value.ref (hp.objs.size + 1) :: us) inv2.kIn (by rw [List.append_nil]; exact len2)
  rw [List.append_nil] at hb2
  refine wpAny_call (PySem.HandSPX.call_own F.excBase_ValueError (fun Y => PySem.HandSPX.refsVE_contains Y bm hbm) (inv1.kIn _ _ hC) (PySem.W.looks_findIn inv1.kIn iC) (fun self => PySem.W.bind_fn inv1.kIn self tI) lus
    (codeAny_mono (F1.run _ X.stack _ _ ⟨Value.ref (hp.objs.size + 1) :: us, []⟩ (Value.ref (hp.objs.size + 1) :: us) _ _ (fun _ _ _ => False) (hr.make C us []) (inv2.env0.make C us []) hb2 rel2 hq) fun r s' hq' => ?_))
  cases r with
  | error er => exact hx pins σ _ _ er s' inv2 hq'
  | ok fl =>
    cases fl with
    | ret u =>
      obtain ⟨v, H2, os2, bare2, un2, hok2, rv, ev, q2⟩ := hq'
      subst ev
      exact ⟨rv, .ref (hp.objs.size + 1), H2, inv2.call' (ch := []) os2 un2 hok2 bare2 (fun _ z => nomatch z), rfl, q2⟩
    | next => exact False.elim hq'
    | brk => exact False.elim hq'
    | cont => exact False.elim hq'
/-- C(), without own __init__ -/
theorem pe_exc0 {x : Str} {C : Addr} (ox : OexC X.K C) (q : PySem.W.excIn X.K C bmVE "ValueError.__new__" = true) (gC : X.mg x = some (.ref C)) (hg : Gl X x)
    (hdb : (x == ("__debug__" : Str)) = false := by decide) : PE X (.Call (.Name x p) [] [] pos) (fun _ H Q => ∀ a, H a = none → Q (.ref a) (upd H a (ExO (.ref C) a))) := by
  refine ⟨fun pins s σ H Q inv h => ?_⟩
  refine wpAny_Call_Name_kw (ld_glob inv hg gC ?_ hdb)
  refine PySem.W.callWith_K0 inv.kIn ox.kC ?_
  show wpAny _ _ (call (.ref C) []) _ _ _
  obtain ⟨bm, N, nm, qn, bs, hdct, sn, sub, ab, col, dd, k0, k1, k2, k3, k5, mN, hC, hN, hni, T⟩ := exc_obj inv.kIn q
  refine wpAny_call_exc_subT PySem.F.excBase_ValueError T hC hN hni (fun h' a hm => ?_) (by show 0 ≤ sizeLine; omega)
  have hn : H a = none := inv.hok.gone hm.new
  obtain ⟨t, ht, _, _⟩ := hm.there
  exact ⟨.ref a, upd H a (ExO (.ref C) a), inv.laidN hm.keeps hm.new hn (exO_ok ht ⟨rfl, rfl⟩ rfl rfl rfl (show 4 < 6 by decide)), rfl, h a hn⟩
end
section
variable {X : Cx} {Y : Ec X.K} {ρ : List (Slot X.K)} {cs : List (Cell X.K)} {α β μ : Type} {p pos : Pos} {e : Expr}
theorem made1 {H : Hp} {a d : Addr} {o1 o2 o3 : HO} (h : d ≠ a) : upd (upd (upd H a o1) d o2) a o3 = upd (upd H d o2) a o3 := by
  funext b
  by_cases z : b = a
  · subst z; rw [upd_same, upd_same]
  · rw [upd_ne z, upd_ne z]
    by_cases y : b = d
    · subst y; rw [upd_same, upd_same]
    · rw [upd_ne y, upd_ne y, upd_ne z]
theorem made2 {H : Hp} {a d : Addr} {o1 o2 o3 o4 : HO} (h : d ≠ a) : upd (upd (upd (upd H a o1) d o2) a o3) d o4 = upd (upd H d o4) a o3 := by
  funext b
  by_cases y : b = d
  · subst y; rw [upd_same, upd_ne h, upd_same]
  · rw [upd_ne y]
    by_cases z : b = a
    · subst z; rw [upd_same, upd_same]
    · rw [upd_ne z, upd_ne z, upd_ne y, upd_ne y, upd_ne z]
theorem rf_laid {F H F1 H1 : Hp} {a d C : Addr} {xa : XA} {r : Rf} {fs : List (Str × Slot X.K)} {vs : List (Str × V)} (g1 : Grow F H F1 H1) (hna : H1 a = none) (hd : H1 d = none) (hda : d ≠ a) (er : exn (K := X.K) xa r = ⟨C, fs⟩) (hf : FldOk F1 fs vs) :
    Grow F H (upd (upd F1 d (exd d vs)) a (exo a C (some d))) (upd (upd H1 d (exd d vs)) a (exo a C (some d))) ∧ (tRf (K := X.K) xa).rep (upd (upd F1 d (exd d vs)) a (exo a C (some d))) (.ref a) r := by
  have g2 := grow_new g1.fh hd (exd d vs)
  have g3 := grow_new g2.fh (show upd H1 d (exd d vs) a = none by rw [upd_ne (Ne.symm hda)]; exact hna) (exo a C (some d))
  refine ⟨(g1.trans g2).trans g3, a, rfl, .inr ⟨d, vs, ?_, ?_, ?_⟩⟩
  · rw [er]; exact upd_same
  · rw [upd_ne hda, upd_same]
  · rw [er]; exact FldOk.mono (g2.ff.trans g3.ff) hf
theorem pk_mkX1 {nm f1 : Str} {C fI : Addr} {fd : FuncData} {ps : List Str} {k : Nat} {T1 : Ty X.K α} {x : α} {P : Prop} {xa : XA} {r : Rf} (T : XcT X.K X.mg nm C) (xi : XiT X.prog X.w X.K X.mg X.base C k ps (spX1 C f1) fI fd)
    (hr : Room (k + 1) X.A) (ha : PK X e ρ cs T1 x P) (er : exn (K := X.K) xa r = ⟨C, [(f1, .val T1 x)]⟩) (hg : Gl X nm := by rfl)
    (hdb : (nm == ("__debug__" : Str)) = false := by decide) (he : starEach (e :: []) X.env = (false, eval e X.env) :: starEach [] X.env := by rfl) (hpl : (backTo pos (starEach [] X.env)).any (·.1) = false := by rfl) :
    PK X (.Call (.Name nm p) [e] [] pos) ρ cs (tRf xa) r P := fun F σ H ok q Q kk => by
  refine we (pe_oex T.ox xi.iC xi.tI xi.F hr xi.b passL hg T.gC (pa_cons pe_w pa_nil he) hdb he hpl) ?_
  refine ha F σ H ok q _ fun v F1 H1 g1 r1 => ?_
  refine ⟨by show 1 ≤ 1000; decide, fun a hna => ⟨a, v, rfl, upd_same, fun d hd hda => ⟨rfl, ?_⟩⟩⟩
  rw [upd_ne hda] at hd
  rw [made1 hda]
  obtain ⟨g, rep⟩ := rf_laid g1 hna hd hda er (vs := [(f1, v)]) (.cons ⟨v, rfl, r1⟩ .nil)
  exact kk _ _ _ g rep
theorem pk_mkX2 {nm f1 f2 : Str} {C fI : Addr} {fd : FuncData} {ps : List Str} {k : Nat} {T1 : Ty X.K α} {T2 : Ty X.K β} {x : α} {y : β} {e2 : Expr} {P P2 : Prop} {xa : XA} {r : Rf} (T : XcT X.K X.mg nm C) (xi : XiT X.prog X.w X.K X.mg X.base C k ps (spX2 C f1 f2) fI fd)
    (hr : Room (k + 1) X.A) (ha : PK X e ρ cs T1 x P) (ha2 : PK X e2 ρ cs T2 y P2) (er : exn (K := X.K) xa r = ⟨C, [(f2, .val T2 y), (f1, .val T1 x)]⟩) (hg : Gl X nm := by rfl)
    (hdb : (nm == ("__debug__" : Str)) = false := by decide) (he : starEach (e :: [e2]) X.env = (false, eval e X.env) :: starEach [e2] X.env := by rfl) (he2 : starEach (e2 :: []) X.env = (false, eval e2 X.env) :: starEach [] X.env := by rfl) (hpl : (backTo pos (starEach [e2] X.env)).any (·.1) = false := by rfl) :
    PK X (.Call (.Name nm p) [e, e2] [] pos) ρ cs (tRf xa) r (P ∧ P2) := fun F σ H ok q Q kk => by
  refine we (pe_oex T.ox xi.iC xi.tI xi.F hr xi.b passL hg T.gC (pa_cons pe_w (pa_cons pe_w pa_nil he2) he) hdb he hpl) ?_
  refine ha F σ H ok q.1 _ fun v F1 H1 g1 r1 => ?_
  refine ha2 F1 σ H1 (ok.grow g1) q.2 _ fun w F2 H2 g2 r2 => ?_
  refine ⟨by show 2 ≤ 1000; decide, fun a hna => ⟨a, v, w, rfl, upd_same, fun d hd hda => ⟨rfl, ?_⟩⟩⟩
  rw [upd_ne hda] at hd
  rw [made2 hda]
  obtain ⟨g, rep⟩ := rf_laid (g1.trans g2) hna hd hda er (vs := [(f2, w), (f1, v)]) (.cons ⟨w, rfl, r2⟩ (.cons ⟨v, rfl, T1.mono g2.ff r1⟩ .nil))
  exact kk _ _ _ g rep
theorem pk_mkX0 {nm : Str} {C : Addr} {xa : XA} {r : Rf} (T : XcT X.K X.mg nm C) (q : PySem.W.excIn X.K C bmVE "ValueError.__new__" = true) (er : exn (K := X.K) xa r = ⟨C, []⟩) (hg : Gl X nm := by rfl) (hdb : (nm == ("__debug__" : Str)) = false := by decide) :
    PK X (.Call (.Name nm p) [] [] pos) ρ cs (tRf xa) r True := fun F σ H ok _ Q kk => by
  refine we (pe_exc0 T.ox q T.gC hg hdb) fun a hna => ?_
  exact kk _ _ _ (grow_new ok.same hna (ExO (.ref C) a)) ⟨a, rfl, .inl ⟨by rw [er], by rw [er]; exact upd_same⟩⟩
/-- e.f -/
theorem pk_xfV [Inhabited α] {xa : XA} {r : Rf} {f : Str} {T : Ty X.K α} {P : Prop} (acc : Rf → Option α) (ea : ∀ r : Rf, ExcC X.K (exn (K := X.K) xa r).c)
    (hl : ∀ r x, acc r = some x → (exn (K := X.K) xa r).fs.lookup f = some (.val T x) ∧ PySem.W.findIn X.K (.ref (exn (K := X.K) xa r).c) f = some none) (he : PK X e ρ cs (tRf xa) r P) (hb : attributeBase e f X.env (eval e X.env) = eval e X.env := by rfl) :
    PK X (.Attribute e f pos) ρ cs T ((acc r).getD default) (P ∧ (acc r).isSome = true) := fun F σ H ok p Q k => by
  obtain ⟨x, hx⟩ := Option.isSome_iff_exists.mp p.2
  rw [hx] at k
  obtain ⟨hlk, nf⟩ := hl r x hx
  have h0 : WE X e σ H (fun v H1 => ∃ (a d : Addr) (vs : List (Str × V)) (u : V), v = .ref a ∧ H1 a = some (exo a (exn (K := X.K) xa r).c (some d)) ∧ H1 d = some (exd d vs) ∧ vs.lookup f = some u ∧ Q u H1) := by
    refine he F σ H ok p.1 _ fun v F1 H1 g rv => ?_
    obtain ⟨a, ev, hd⟩ := rv
    rcases hd with ⟨h0, _⟩ | ⟨d, vs, h1, h2, hfl⟩
    · rw [h0] at hlk; cases hlk
    · rcases hfl.look (f := f) with ⟨h3, _⟩ | ⟨s0, u, h3, h4, q⟩
      · rw [hlk] at h3; cases h3
      · rw [hlk] at h3
        cases h3
        obtain ⟨u', e1, q⟩ := q
        cases e1
        exact ⟨a, d, vs, u, ev, g.fh _ _ h1, g.fh _ _ h2, h4, k u F1 H1 g q⟩
  refine fun pins s I => attr_of hb (thn (h0 pins s I) fun u s1 hh => ?_)
  obtain ⟨x1, H1, I1, rx, a, d, vs, u1, ex, ea1, ed1, lk, q⟩ := hh
  subst ex
  have eu : u = Value.ref a := rx
  subst eu
  obtain ⟨t1, ho⟩ := exo_at I1.hok ea1
  obtain ⟨mA, hns, hr⟩ := exd_at I1.hok ed1
  obtain ⟨od, hod, hlk2⟩ := lookIn_ns hns
  obtain ⟨w, hw, rw'⟩ := RelO.some_of (v := u1) (o := mA f) (by rw [← lk]; exact hr f)
  have ct := ea r
  have inst : PySem.W.InstAt s1.heap a _ (exn (K := X.K) xa r).c (some od) := ⟨ho, rfl, rfl, hod⟩
  exact HandSPX.exc_get I1.kIn inst ct.hg ct.hk ct.hs (PySem.W.findObj_own ct.hd nf rfl (by rw [hlk2, hw])) (handed_of rw') ⟨u1, H1, I1.tok _, rw', q⟩
def rIsV (K : PySem.W.Frag) : List V → Hp → VK → Prop := fun xs H Q => ∃ (a C : Addr) (c : V) (cv : Value) (b : Bool), xs = [.ref a, c] ∧ (∀ u, RelV c u → u = cv) ∧ ExcC K C ∧ OexC K C ∧ PySem.W.kitOne K (.ref C) cv = some b ∧
  (H a = some (ExO (.ref C) a) ∨ ∃ (d : Addr) (vs : List (Str × V)), H a = some (exo a C (some d)) ∧ H d = some (exd d vs)) ∧ Q (.bl b) H
theorem exO_at {P : Program} {w : World} {H : Hp} {h : Heap} {a : Addr} {cls : Value} (hok : HOk P w H h) (he : H a = some (ExO cls a)) : ∃ (oe : Obj) (vs : Array Value), h.get? a = some oe ∧ Zc cls none oe ∧ oe.data = .fields vs := by
  have x : ObjOk P w H h a (.ext fun h => ∃ (oe : Obj) (vs : Array Value), h.get? a = some oe ∧ Zc cls none oe ∧ oe.data = .fields vs ∧ vs[1]? = some .none ∧ vs[2]? = some .none ∧ 4 < vs.size) := hok a _ he
  obtain ⟨⟨oe, vs, h1, h2, h3, _⟩, _⟩ := x
  exact ⟨oe, vs, h1, h2, h3⟩
theorem call_isV : CallR X (.builtin "isinstance") (rIsV X.K) := by
  intro pins s σ H xs us Q I rel ask
  obtain ⟨a, C, c, cv, b, rfl, hcv, ct, ox, kit, hob, q⟩ := ask
  match us, rel with
  | [u0, u1], .cons rx (.cons rt .nil) =>
    cases rx
    have ec := hcv _ rt
    subst ec
    have hcl : (PySem.W.clsIn X.K C).isSome = true := by
      obtain ⟨nm, q, N, bs, bm, sn, sub, ab, col, dd, k0, k1, k2, k3, k5, hC, hbm⟩ := ox.cls
      unfold PySem.W.clsIn
      rw [hC]
      rfl
    rcases hob with h1 | ⟨d, vs, h1, h2⟩
    · obtain ⟨oe, vs, ho, hz, hv⟩ := exO_at I.hok h1
      have inst : PySem.W.InstAt s.heap a oe C none := ⟨ho, hz.1, by unfold PySem.W.notCls; rw [hv] <;> rfl, by rw [hz.2]; trivial⟩
      exact PySem.W.kia_one (PySem.W.kitx_exc hcl ct.hg ct.hk ct.hs ct.ha ct.hn ct.ht ct.hm) I.kIn inst kit (fun z => nomatch z) fun tk => ⟨.bl b, H, I.kept (t' := tk) fun _ _ z => z, rfl, q⟩
    · obtain ⟨t1, ho⟩ := exo_at I.hok h1
      obtain ⟨mA, hns, hr⟩ := exd_at I.hok h2
      obtain ⟨od, hod, _⟩ := lookIn_ns hns
      have inst : PySem.W.InstAt s.heap a _ C (some od) := ⟨ho, rfl, rfl, hod⟩
      exact PySem.W.kia_one (PySem.W.kitx_exc hcl ct.hg ct.hk ct.hs ct.ha ct.hn ct.ht ct.hm) I.kIn inst kit (fun z => nomatch z) fun tk => ⟨.bl b, H, I.kept (t' := tk) fun _ _ z => z, rfl, q⟩
end
def rfB (b1 b2 b3 b4 b5 b6 b7 b8 b9 b10 b11 b12 : Bool) : Rf → Bool
  | .noText _ => b1
  | .twice _ => b2
  | .badStep _ _ => b3
  | .badGood _ => b4
  | .noLetter _ => b5
  | .noDesk _ => b6
  | .otherLetters => b7
  | .notices _ _ => b8
  | .tooMany _ => b9
  | .noName _ => b10
  | .noKind => b11
  | .noRow => b12
theorem kt12 {K : PySem.W.Frag} {xa : XA} {v : Value} {b1 b2 b3 b4 b5 b6 b7 b8 b9 b10 b11 b12 : Bool} (h1 : PySem.W.kitOne K (.ref xa.NoText) v = some b1) (h2 : PySem.W.kitOne K (.ref xa.Twice) v = some b2) (h3 : PySem.W.kitOne K (.ref xa.BadStep) v = some b3) (h4 : PySem.W.kitOne K (.ref xa.BadGood) v = some b4) (h5 : PySem.W.kitOne K (.ref xa.NoLetter) v = some b5) (h6 : PySem.W.kitOne K (.ref xa.NoDesk) v = some b6) (h7 : PySem.W.kitOne K (.ref xa.OtherLetters) v = some b7) (h8 : PySem.W.kitOne K (.ref xa.Notices) v = some b8) (h9 : PySem.W.kitOne K (.ref xa.TooMany) v = some b9) (h10 : PySem.W.kitOne K (.ref xa.NoName) v = some b10) (h11 : PySem.W.kitOne K (.ref xa.NoKind) v = some b11) (h12 : PySem.W.kitOne K (.ref xa.NoRow) v = some b12) : ∀ r : Rf, PySem.W.kitOne K (.ref (exn (K := K) xa r).c) v = some (rfB b1 b2 b3 b4 b5 b6 b7 b8 b9 b10 b11 b12 r)
  | .noText _ => h1
  | .twice _ => h2
  | .badStep _ _ => h3
  | .badGood _ => h4
  | .noLetter _ => h5
  | .noDesk _ => h6
  | .otherLetters => h7
  | .notices _ _ => h8
  | .tooMany _ => h9
  | .noName _ => h10
  | .noKind => h11
  | .noRow => h12
structure ExA (K : PySem.W.Frag) (xa : XA) : Prop where
  ct : ∀ r : Rf, ExcC K (exn (K := K) xa r).c
  ox : ∀ r : Rf, OexC K (exn (K := K) xa r).c
theorem ea12 {K : PySem.W.Frag} {mg : Str → Option Value} {xa : XA} (h1 : XcT K mg "NoText" xa.NoText) (h2 : XcT K mg "Twice" xa.Twice) (h3 : XcT K mg "BadStep" xa.BadStep) (h4 : XcT K mg "BadGood" xa.BadGood) (h5 : XcT K mg "NoLetter" xa.NoLetter) (h6 : XcT K mg "NoDesk" xa.NoDesk) (h7 : XcT K mg "OtherLetters" xa.OtherLetters) (h8 : XcT K mg "Notices" xa.Notices) (h9 : XcT K mg "TooMany" xa.TooMany) (h10 : XcT K mg "NoName" xa.NoName) (h11 : XcT K mg "NoKind" xa.NoKind) (h12 : XcT K mg "NoRow" xa.NoRow) : ExA K xa where
  ct := fun r => match r with
    | .noText _ => h1.is
    | .twice _ => h2.is
    | .badStep _ _ => h3.is
    | .badGood _ => h4.is
    | .noLetter _ => h5.is
    | .noDesk _ => h6.is
    | .otherLetters => h7.is
    | .notices _ _ => h8.is
    | .tooMany _ => h9.is
    | .noName _ => h10.is
    | .noKind => h11.is
    | .noRow => h12.is
  ox := fun r => match r with
    | .noText _ => h1.ox
    | .twice _ => h2.ox
    | .badStep _ _ => h3.ox
    | .badGood _ => h4.ox
    | .noLetter _ => h5.ox
    | .noDesk _ => h6.ox
    | .otherLetters => h7.ox
    | .notices _ _ => h8.ox
    | .tooMany _ => h9.ox
    | .noName _ => h10.ox
    | .noKind => h11.ox
    | .noRow => h12.ox
def a_line : Rf → Option (Int)
  | .noText n => some n
  | _ => none
theorem hl_line {K : PySem.W.Frag} {xa : XA} (n0 : PySem.W.findIn K (.ref xa.NoText) "line" = some none) (r : Rf) (x : Int) (h : a_line r = some x) : (exn (K := K) xa r).fs.lookup ("line" : Str) = some (Slot.val (K := K) tI x) ∧ PySem.W.findIn K (.ref (exn (K := K) xa r).c) "line" = some none := by
  cases r
  · cases h; exact ⟨rfl, n0⟩
  · cases h
  · cases h
  · cases h
  · cases h
  · cases h
  · cases h
  · cases h
  · cases h
  · cases h
  · cases h
  · cases h
def a_name : Rf → Option (Str)
  | .twice n => some n
  | .noName n => some n
  | _ => none
theorem hl_name {K : PySem.W.Frag} {xa : XA} (n1 : PySem.W.findIn K (.ref xa.Twice) "name" = some none) (n9 : PySem.W.findIn K (.ref xa.NoName) "name" = some none) (r : Rf) (x : Str) (h : a_name r = some x) : (exn (K := K) xa r).fs.lookup ("name" : Str) = some (Slot.val (K := K) tS x) ∧ PySem.W.findIn K (.ref (exn (K := K) xa r).c) "name" = some none := by
  cases r
  · cases h
  · cases h; exact ⟨rfl, n1⟩
  · cases h
  · cases h
  · cases h
  · cases h
  · cases h
  · cases h
  · cases h
  · cases h; exact ⟨rfl, n9⟩
  · cases h
  · cases h
def a_state : Rf → Option (Int)
  | .badStep n _ => some n
  | .badGood n => some n
  | _ => none
theorem hl_state {K : PySem.W.Frag} {xa : XA} (n2 : PySem.W.findIn K (.ref xa.BadStep) "state" = some none) (n3 : PySem.W.findIn K (.ref xa.BadGood) "state" = some none) (r : Rf) (x : Int) (h : a_state r = some x) : (exn (K := K) xa r).fs.lookup ("state" : Str) = some (Slot.val (K := K) tI x) ∧ PySem.W.findIn K (.ref (exn (K := K) xa r).c) "state" = some none := by
  cases r
  · cases h
  · cases h
  · cases h; exact ⟨rfl, n2⟩
  · cases h; exact ⟨rfl, n3⟩
  · cases h
  · cases h
  · cases h
  · cases h
  · cases h
  · cases h
  · cases h
  · cases h
def a_letter : Rf → Option (Str)
  | .badStep _ n => some n
  | .noLetter n => some n
  | _ => none
theorem hl_letter {K : PySem.W.Frag} {xa : XA} (n2 : PySem.W.findIn K (.ref xa.BadStep) "letter" = some none) (n4 : PySem.W.findIn K (.ref xa.NoLetter) "letter" = some none) (r : Rf) (x : Str) (h : a_letter r = some x) : (exn (K := K) xa r).fs.lookup ("letter" : Str) = some (Slot.val (K := K) tS x) ∧ PySem.W.findIn K (.ref (exn (K := K) xa r).c) "letter" = some none := by
  cases r
  · cases h
  · cases h
  · cases h; exact ⟨rfl, n2⟩
  · cases h
  · cases h; exact ⟨rfl, n4⟩
  · cases h
  · cases h
  · cases h
  · cases h
  · cases h
  · cases h
  · cases h
def a_desk : Rf → Option (Str)
  | .noDesk n => some n
  | _ => none
theorem hl_desk {K : PySem.W.Frag} {xa : XA} (n5 : PySem.W.findIn K (.ref xa.NoDesk) "desk" = some none) (r : Rf) (x : Str) (h : a_desk r = some x) : (exn (K := K) xa r).fs.lookup ("desk" : Str) = some (Slot.val (K := K) tS x) ∧ PySem.W.findIn K (.ref (exn (K := K) xa r).c) "desk" = some none := by
  cases r
  · cases h
  · cases h
  · cases h
  · cases h
  · cases h
  · cases h; exact ⟨rfl, n5⟩
  · cases h
  · cases h
  · cases h
  · cases h
  · cases h
  · cases h
def a_one : Rf → Option (List Str)
  | .notices n _ => some n
  | _ => none
theorem hl_one {K : PySem.W.Frag} {xa : XA} (n7 : PySem.W.findIn K (.ref xa.Notices) "one" = some none) (r : Rf) (x : List Str) (h : a_one r = some x) : (exn (K := K) xa r).fs.lookup ("one" : Str) = some (Slot.val (K := K) (tL tS) x) ∧ PySem.W.findIn K (.ref (exn (K := K) xa r).c) "one" = some none := by
  cases r
  · cases h
  · cases h
  · cases h
  · cases h
  · cases h
  · cases h
  · cases h
  · cases h; exact ⟨rfl, n7⟩
  · cases h
  · cases h
  · cases h
  · cases h
def a_other : Rf → Option (List Str)
  | .notices _ n => some n
  | _ => none
theorem hl_other {K : PySem.W.Frag} {xa : XA} (n7 : PySem.W.findIn K (.ref xa.Notices) "other" = some none) (r : Rf) (x : List Str) (h : a_other r = some x) : (exn (K := K) xa r).fs.lookup ("other" : Str) = some (Slot.val (K := K) (tL tS) x) ∧ PySem.W.findIn K (.ref (exn (K := K) xa r).c) "other" = some none := by
  cases r
  · cases h
  · cases h
  · cases h
  · cases h
  · cases h
  · cases h
  · cases h
  · cases h; exact ⟨rfl, n7⟩
  · cases h
  · cases h
  · cases h
  · cases h
def a_most : Rf → Option (Int)
  | .tooMany n => some n
  | _ => none
theorem hl_most {K : PySem.W.Frag} {xa : XA} (n8 : PySem.W.findIn K (.ref xa.TooMany) "most" = some none) (r : Rf) (x : Int) (h : a_most r = some x) : (exn (K := K) xa r).fs.lookup ("most" : Str) = some (Slot.val (K := K) tI x) ∧ PySem.W.findIn K (.ref (exn (K := K) xa r).c) "most" = some none := by
  cases r
  · cases h
  · cases h
  · cases h
  · cases h
  · cases h
  · cases h
  · cases h
  · cases h
  · cases h; exact ⟨rfl, n8⟩
  · cases h
  · cases h
  · cases h
section
variable {X : Cx} {Y : Ec X.K} {ρ : List (Slot X.K)} {cs : List (Cell X.K)} {p p2 pos : Pos} {e e2 : Expr}
/-- isinstance(e, C2), C2 an own class -/
theorem pk_isVO {xa : XA} {r : Rf} {C2 : Addr} {P P2 : Prop} {nm : Str} {g : Rf → Bool} (ea : ExA X.K xa) (hk : ∀ r : Rf, PySem.W.kitOne X.K (.ref (exn (K := X.K) xa r).c) (.ref C2) = some (g r)) (hm : X.mg nm = none) (hv : bootBuiltins nm = some (.builtin "isinstance")) (he : PK X e ρ cs (tRf xa) r P) (ha : PK X e2 ρ cs tR C2 P2)
    (hg : Gl X nm := by rfl) (hn : nm ≠ "__name__" := by decide) (hdb : (nm == ("__debug__" : Str)) = false := by decide)
    (hst : starEach (e :: [e2]) X.env = (false, eval e X.env) :: starEach [e2] X.env := by rfl) (hst2 : starEach (e2 :: []) X.env = (false, eval e2 X.env) :: starEach [] X.env := by rfl) (hpl : (backTo pos (starEach [e2] X.env)).any (·.1) = false := by rfl) :
    PK X (.Call (.Name nm p) [e, e2] [] pos) ρ cs tB (g r) (P ∧ P2) := fun F σ H ok q Q k => by
  refine we (pe_callB call_isV hg hm hv (pa_cons pe_w (pa_cons pe_w pa_nil hst2) hst) hn hdb hst hpl) ?_
  refine he F σ H ok q.1 _ fun v F1 H1 g1 rv => ?_
  obtain ⟨a, ev, hd⟩ := rv
  refine ha F1 σ H1 (ok.grow g1) q.2 _ fun w F2 H2 g2 r2 => ?_
  have ew : w = .ref C2 := r2
  have ss := g2.ff.trans g2.fh
  refine ⟨a, (exn (K := X.K) xa r).c, .ref C2, .ref C2, g r, by rw [ev, ew], fun u hu => hu, ea.ct r, ea.ox r, hk r, ?_, k _ _ _ (g1.trans g2) rfl⟩
  rcases hd with ⟨_, h⟩ | ⟨d, vs, h1, h2, _⟩
  · exact .inl (ss _ _ h)
  · exact .inr ⟨d, vs, ss _ _ h1, ss _ _ h2⟩
/-- .. a built-in one -/
theorem pk_isVB {xa : XA} {r : Rf} {P : Prop} {nm cn : Str} {c : String} {g : Rf → Bool} (ea : ExA X.K xa) (hk : ∀ r : Rf, PySem.W.kitOne X.K (.ref (exn (K := X.K) xa r).c) (.type c) = some (g r)) (hm : X.mg nm = none) (hv : bootBuiltins nm = some (.builtin "isinstance")) (hm2 : X.mg cn = none) (hv2 : bootBuiltins cn = some (.type c)) (he : PK X e ρ cs (tRf xa) r P)
    (hg : Gl X nm := by rfl) (hg2 : Gl X cn := by rfl) (hn : nm ≠ "__name__" := by decide) (hdb : (nm == ("__debug__" : Str)) = false := by decide) (hn2 : cn ≠ "__name__" := by decide) (hdb2 : (cn == ("__debug__" : Str)) = false := by decide)
    (hst : starEach (e :: [.Name cn p2]) X.env = (false, eval e X.env) :: starEach [.Name cn p2] X.env := by rfl) (hst2 : starEach (.Name cn p2 :: []) X.env = (false, eval (.Name cn p2) X.env) :: starEach [] X.env := by rfl) (hpl : (backTo pos (starEach [.Name cn p2] X.env)).any (·.1) = false := by rfl) :
    PK X (.Call (.Name nm p) [e, .Name cn p2] [] pos) ρ cs tB (g r) P := fun F σ H ok q Q k => by
  refine we (pe_callB call_isV hg hm hv (pa_cons pe_w (pa_cons (pe_bltn (v := .ty c) hg2 hm2 hv2 rfl hn2 hdb2) pa_nil hst2) hst) hn hdb hst hpl) ?_
  refine he F σ H ok q _ fun v F1 H1 g1 rv => ?_
  obtain ⟨a, ev, hd⟩ := rv
  have ss := g1.fh
  refine ⟨a, (exn (K := X.K) xa r).c, .ty c, .type c, g r, by rw [ev], fun u hu => hu, ea.ct r, ea.ox r, hk r, ?_, k _ _ _ g1 rfl⟩
  rcases hd with ⟨_, h⟩ | ⟨d, vs, h1, h2, _⟩
  · exact .inl (ss _ _ h)
  · exact .inr ⟨d, vs, ss _ _ h1, ss _ _ h2⟩
end
/-! ### the twelve made -/
section
variable {X : Cx} {ρ : List (Slot X.K)} {cs : List (Cell X.K)} {p pos : Pos} {e e2 : Expr} {xa : XA} {fI : Addr} {fd : FuncData} {ps : List Str} {P P2 : Prop}
theorem pk_mNoText {x : Int} (T : XcT X.K X.mg "NoText" xa.NoText) (xi : XiT X.prog X.w X.K X.mg X.base xa.NoText 1 ps (spX1 xa.NoText "line") fI fd) (hr : Room 2 X.A) (ha : PK X e ρ cs tI x P) (hg : Gl X "NoText" := by rfl) (he : starEach (e :: []) X.env = (false, eval e X.env) :: starEach [] X.env := by rfl) (hpl : (backTo pos (starEach [] X.env)).any (·.1) = false := by rfl) : PK X (.Call (.Name "NoText" p) [e] [] pos) ρ cs (tRf xa) (.noText x) P := pk_mkX1 T xi hr ha rfl hg (by decide) he hpl
theorem pk_mTwice {x : Str} (T : XcT X.K X.mg "Twice" xa.Twice) (xi : XiT X.prog X.w X.K X.mg X.base xa.Twice 1 ps (spX1 xa.Twice "name") fI fd) (hr : Room 2 X.A) (ha : PK X e ρ cs tS x P) (hg : Gl X "Twice" := by rfl) (he : starEach (e :: []) X.env = (false, eval e X.env) :: starEach [] X.env := by rfl) (hpl : (backTo pos (starEach [] X.env)).any (·.1) = false := by rfl) : PK X (.Call (.Name "Twice" p) [e] [] pos) ρ cs (tRf xa) (.twice x) P := pk_mkX1 T xi hr ha rfl hg (by decide) he hpl
theorem pk_mBadStep {x : Int} {y : Str} (T : XcT X.K X.mg "BadStep" xa.BadStep) (xi : XiT X.prog X.w X.K X.mg X.base xa.BadStep 1 ps (spX2 xa.BadStep "state" "letter") fI fd) (hr : Room 2 X.A) (ha : PK X e ρ cs tI x P) (ha2 : PK X e2 ρ cs tS y P2) (hg : Gl X "BadStep" := by rfl) (he : starEach (e :: [e2]) X.env = (false, eval e X.env) :: starEach [e2] X.env := by rfl) (he2 : starEach (e2 :: []) X.env = (false, eval e2 X.env) :: starEach [] X.env := by rfl) (hpl : (backTo pos (starEach [e2] X.env)).any (·.1) = false := by rfl) : PK X (.Call (.Name "BadStep" p) [e, e2] [] pos) ρ cs (tRf xa) (.badStep x y) (P ∧ P2) := pk_mkX2 T xi hr ha ha2 rfl hg (by decide) he he2 hpl
theorem pk_mBadGood {x : Int} (T : XcT X.K X.mg "BadGood" xa.BadGood) (xi : XiT X.prog X.w X.K X.mg X.base xa.BadGood 1 ps (spX1 xa.BadGood "state") fI fd) (hr : Room 2 X.A) (ha : PK X e ρ cs tI x P) (hg : Gl X "BadGood" := by rfl) (he : starEach (e :: []) X.env = (false, eval e X.env) :: starEach [] X.env := by rfl) (hpl : (backTo pos (starEach [] X.env)).any (·.1) = false := by rfl) : PK X (.Call (.Name "BadGood" p) [e] [] pos) ρ cs (tRf xa) (.badGood x) P := pk_mkX1 T xi hr ha rfl hg (by decide) he hpl
theorem pk_mNoLetter {x : Str} (T : XcT X.K X.mg "NoLetter" xa.NoLetter) (xi : XiT X.prog X.w X.K X.mg X.base xa.NoLetter 1 ps (spX1 xa.NoLetter "letter") fI fd) (hr : Room 2 X.A) (ha : PK X e ρ cs tS x P) (hg : Gl X "NoLetter" := by rfl) (he : starEach (e :: []) X.env = (false, eval e X.env) :: starEach [] X.env := by rfl) (hpl : (backTo pos (starEach [] X.env)).any (·.1) = false := by rfl) : PK X (.Call (.Name "NoLetter" p) [e] [] pos) ρ cs (tRf xa) (.noLetter x) P := pk_mkX1 T xi hr ha rfl hg (by decide) he hpl
theorem pk_mNoDesk {x : Str} (T : XcT X.K X.mg "NoDesk" xa.NoDesk) (xi : XiT X.prog X.w X.K X.mg X.base xa.NoDesk 1 ps (spX1 xa.NoDesk "desk") fI fd) (hr : Room 2 X.A) (ha : PK X e ρ cs tS x P) (hg : Gl X "NoDesk" := by rfl) (he : starEach (e :: []) X.env = (false, eval e X.env) :: starEach [] X.env := by rfl) (hpl : (backTo pos (starEach [] X.env)).any (·.1) = false := by rfl) : PK X (.Call (.Name "NoDesk" p) [e] [] pos) ρ cs (tRf xa) (.noDesk x) P := pk_mkX1 T xi hr ha rfl hg (by decide) he hpl
theorem pk_mOtherLetters (T : XcT X.K X.mg "OtherLetters" xa.OtherLetters) (q : PySem.W.excIn X.K xa.OtherLetters bmVE "ValueError.__new__" = true) (hg : Gl X "OtherLetters" := by rfl) : PK X (.Call (.Name "OtherLetters" p) [] [] pos) ρ cs (tRf xa) .otherLetters True := pk_mkX0 T q rfl hg (by decide)
theorem pk_mNotices {x : List Str} {y : List Str} (T : XcT X.K X.mg "Notices" xa.Notices) (xi : XiT X.prog X.w X.K X.mg X.base xa.Notices 1 ps (spX2 xa.Notices "one" "other") fI fd) (hr : Room 2 X.A) (ha : PK X e ρ cs (tL tS) x P) (ha2 : PK X e2 ρ cs (tL tS) y P2) (hg : Gl X "Notices" := by rfl) (he : starEach (e :: [e2]) X.env = (false, eval e X.env) :: starEach [e2] X.env := by rfl) (he2 : starEach (e2 :: []) X.env = (false, eval e2 X.env) :: starEach [] X.env := by rfl) (hpl : (backTo pos (starEach [e2] X.env)).any (·.1) = false := by rfl) : PK X (.Call (.Name "Notices" p) [e, e2] [] pos) ρ cs (tRf xa) (.notices x y) (P ∧ P2) := pk_mkX2 T xi hr ha ha2 rfl hg (by decide) he he2 hpl
theorem pk_mTooMany {x : Int} (T : XcT X.K X.mg "TooMany" xa.TooMany) (xi : XiT X.prog X.w X.K X.mg X.base xa.TooMany 1 ps (spX1 xa.TooMany "most") fI fd) (hr : Room 2 X.A) (ha : PK X e ρ cs tI x P) (hg : Gl X "TooMany" := by rfl) (he : starEach (e :: []) X.env = (false, eval e X.env) :: starEach [] X.env := by rfl) (hpl : (backTo pos (starEach [] X.env)).any (·.1) = false := by rfl) : PK X (.Call (.Name "TooMany" p) [e] [] pos) ρ cs (tRf xa) (.tooMany x) P := pk_mkX1 T xi hr ha rfl hg (by decide) he hpl
theorem pk_mNoName {x : Str} (T : XcT X.K X.mg "NoName" xa.NoName) (xi : XiT X.prog X.w X.K X.mg X.base xa.NoName 1 ps (spX1 xa.NoName "name") fI fd) (hr : Room 2 X.A) (ha : PK X e ρ cs tS x P) (hg : Gl X "NoName" := by rfl) (he : starEach (e :: []) X.env = (false, eval e X.env) :: starEach [] X.env := by rfl) (hpl : (backTo pos (starEach [] X.env)).any (·.1) = false := by rfl) : PK X (.Call (.Name "NoName" p) [e] [] pos) ρ cs (tRf xa) (.noName x) P := pk_mkX1 T xi hr ha rfl hg (by decide) he hpl
theorem pk_mNoKind (T : XcT X.K X.mg "NoKind" xa.NoKind) (q : PySem.W.excIn X.K xa.NoKind bmVE "ValueError.__new__" = true) (hg : Gl X "NoKind" := by rfl) : PK X (.Call (.Name "NoKind" p) [] [] pos) ρ cs (tRf xa) .noKind True := pk_mkX0 T q rfl hg (by decide)
theorem pk_mNoRow (T : XcT X.K X.mg "NoRow" xa.NoRow) (q : PySem.W.excIn X.K xa.NoRow bmVE "ValueError.__new__" = true) (hg : Gl X "NoRow" := by rfl) : PK X (.Call (.Name "NoRow" p) [] [] pos) ρ cs (tRf xa) .noRow True := pk_mkX0 T q rfl hg (by decide)
end
/-! ### a def of two of a sort, for two sorts -/
section
variable {K : PySem.W.Frag} {α β : Type} {T1 : Ty K α} {T2 : Ty K β}
def sumP (p1 : α × α → Prop) (p2 : β × β → Prop) : (α ⊕ β) × (α ⊕ β) → Prop
  | (.inl a, .inl b) => p1 (a, b)
  | (.inr a, .inr b) => p2 (a, b)
  | _ => False
def sumF (f1 : α × α → Bool) (f2 : β × β → Bool) : (α ⊕ β) × (α ⊕ β) → Bool
  | (.inl a, .inl b) => f1 (a, b)
  | (.inr a, .inr b) => f2 (a, b)
  | _ => false
theorem sum_sp {p1 : α × α → Prop} {p2 : β × β → Prop} {f1 : α × α → Bool} {f2 : β × β → Bool} {vs : List V} {H : Hp} {Q : VK} {E : XK} (h : (Con.fn (K := K) (fun x : (α ⊕ β) × (α ⊕ β) => [.val (tSm T1 T2) x.1, .val (tSm T1 T2) x.2]) tB (sumP p1 p2) (sumF f1 f2)).sp vs H Q E) :
    (Con.fn (K := K) (fun x : α × α => [.val T1 x.1, .val T1 x.2]) tB p1 f1).sp vs H Q E ∨ (Con.fn (K := K) (fun x : β × β => [.val T2 x.1, .val T2 x.2]) tB p2 f2).sp vs H Q E := by
  obtain ⟨⟨x, y⟩, F, pr, same, hc, nd, wp⟩ := h
  cases x with
  | inl a =>
    cases y with
    | inl b =>
      cases pr with
      | cons r1 r => cases r with
        | cons r2 r => cases r; exact .inl ⟨(a, b), F, .cons r1 (.cons r2 .nil), same, hc, nd, wp⟩
    | inr b => exact wp.1.elim
  | inr a =>
    cases y with
    | inl b => exact wp.1.elim
    | inr b =>
      cases pr with
      | cons r1 r => cases r with
        | cons r2 r => cases r; exact .inr ⟨(a, b), F, .cons r1 (.cons r2 .nil), same, hc, nd, wp⟩
theorem FnOk.or {P : Program} {w : World} {mg : Str → Option Value} {base : Heap} {CX : CXT} {k : Nat} {f : Addr} {fd : FuncData} {ps : List Str} {sp1 sp2 sp : Sp} (F1 : FnOk P w K mg base CX k f fd ps sp1) (F2 : FnOk P w K mg base CX k f fd ps sp2) (h : ∀ vs H Q E, sp vs H Q E → sp1 vs H Q E ∨ sp2 vs H Q E) : FnOk P w K mg base CX k f fd ps sp :=
  ⟨fun vs H Q E q => (h _ _ _ _ q).elim (F1.len vs H Q E) (F2.len vs H Q E), fun A outer s H args us vs Q E hr he hb hv hs => (h _ _ _ _ hs).elim (F1.run A outer s H args us vs Q E hr he hb hv) (F2.run A outer s H args us vs Q E hr he hb hv)⟩
end
end MD
namespace K01
open PySem PySem.Spec PyProof.Rows L2 MD KP
def topS (i : Nat) : Stmt := PySem.Challenge.pw_meetdesks_k01_refusals.main.body.getD i (.Pass ⟨0, 0, 0, 0⟩)
structure Bs (mg : Str → Option Value) : Prop where
  m_len : mg "len" = none
  b_len : bootBuiltins "len" = some (.builtin "len")
  m_range : mg "range" = none
  b_range : bootBuiltins "range" = some (.type "range")
  m_list : mg "list" = none
  b_list : bootBuiltins "list" = some (.type "list")
  m_isinstance : mg "isinstance" = none
  b_isinstance : bootBuiltins "isinstance" = some (.builtin "isinstance")
  m_all : mg "all" = none
  b_all : bootBuiltins "all" = some (.builtin "all")
  m_int : mg "int" = none
  b_int : bootBuiltins "int" = some (.type "int")
  m_max : mg "max" = none
  b_max : bootBuiltins "max" = some (.builtin "max")
  m_bool : mg "bool" = none
  b_bool : bootBuiltins "bool" = some (.type "bool")
  m_str : mg "str" = none
  b_str : bootBuiltins "str" = some (.type "str")
  m_enumerate : mg "enumerate" = none
  b_enumerate : bootBuiltins "enumerate" = some (.type "enumerate")
  m_zip : mg "zip" = none
  b_zip : bootBuiltins "zip" = some (.type "zip")
  m_ValueError : mg "ValueError" = none
  b_ValueError : bootBuiltins "ValueError" = some (.type "ValueError")
structure Xs (K : PySem.W.Frag) (mg : Str → Option Value) (xa : XA) (C_MeetError : Addr) : Prop where
  o_NoText_NoText : PySem.W.kitOne K (.ref xa.NoText) (.ref xa.NoText) = some true
  o_Twice_NoText : PySem.W.kitOne K (.ref xa.Twice) (.ref xa.NoText) = some false
  o_BadStep_NoText : PySem.W.kitOne K (.ref xa.BadStep) (.ref xa.NoText) = some false
  o_BadGood_NoText : PySem.W.kitOne K (.ref xa.BadGood) (.ref xa.NoText) = some false
  o_NoLetter_NoText : PySem.W.kitOne K (.ref xa.NoLetter) (.ref xa.NoText) = some false
  o_NoDesk_NoText : PySem.W.kitOne K (.ref xa.NoDesk) (.ref xa.NoText) = some false
  o_OtherLetters_NoText : PySem.W.kitOne K (.ref xa.OtherLetters) (.ref xa.NoText) = some false
  o_Notices_NoText : PySem.W.kitOne K (.ref xa.Notices) (.ref xa.NoText) = some false
  o_TooMany_NoText : PySem.W.kitOne K (.ref xa.TooMany) (.ref xa.NoText) = some false
  o_NoName_NoText : PySem.W.kitOne K (.ref xa.NoName) (.ref xa.NoText) = some false
  o_NoKind_NoText : PySem.W.kitOne K (.ref xa.NoKind) (.ref xa.NoText) = some false
  o_NoRow_NoText : PySem.W.kitOne K (.ref xa.NoRow) (.ref xa.NoText) = some false
  c_NoText : XcT K mg "NoText" xa.NoText
  c_Twice : XcT K mg "Twice" xa.Twice
  c_BadStep : XcT K mg "BadStep" xa.BadStep
  c_BadGood : XcT K mg "BadGood" xa.BadGood
  c_NoLetter : XcT K mg "NoLetter" xa.NoLetter
  c_NoDesk : XcT K mg "NoDesk" xa.NoDesk
  c_OtherLetters : XcT K mg "OtherLetters" xa.OtherLetters
  c_Notices : XcT K mg "Notices" xa.Notices
  c_TooMany : XcT K mg "TooMany" xa.TooMany
  c_NoName : XcT K mg "NoName" xa.NoName
  c_NoKind : XcT K mg "NoKind" xa.NoKind
  c_NoRow : XcT K mg "NoRow" xa.NoRow
  g_NoText : mg "NoText" = some (.ref xa.NoText)
  o_NoText_Twice : PySem.W.kitOne K (.ref xa.NoText) (.ref xa.Twice) = some false
  o_Twice_Twice : PySem.W.kitOne K (.ref xa.Twice) (.ref xa.Twice) = some true
  o_BadStep_Twice : PySem.W.kitOne K (.ref xa.BadStep) (.ref xa.Twice) = some false
  o_BadGood_Twice : PySem.W.kitOne K (.ref xa.BadGood) (.ref xa.Twice) = some false
  o_NoLetter_Twice : PySem.W.kitOne K (.ref xa.NoLetter) (.ref xa.Twice) = some false
  o_NoDesk_Twice : PySem.W.kitOne K (.ref xa.NoDesk) (.ref xa.Twice) = some false
  o_OtherLetters_Twice : PySem.W.kitOne K (.ref xa.OtherLetters) (.ref xa.Twice) = some false
  o_Notices_Twice : PySem.W.kitOne K (.ref xa.Notices) (.ref xa.Twice) = some false
  o_TooMany_Twice : PySem.W.kitOne K (.ref xa.TooMany) (.ref xa.Twice) = some false
  o_NoName_Twice : PySem.W.kitOne K (.ref xa.NoName) (.ref xa.Twice) = some false
  o_NoKind_Twice : PySem.W.kitOne K (.ref xa.NoKind) (.ref xa.Twice) = some false
  o_NoRow_Twice : PySem.W.kitOne K (.ref xa.NoRow) (.ref xa.Twice) = some false
  g_Twice : mg "Twice" = some (.ref xa.Twice)
  o_NoText_BadStep : PySem.W.kitOne K (.ref xa.NoText) (.ref xa.BadStep) = some false
  o_Twice_BadStep : PySem.W.kitOne K (.ref xa.Twice) (.ref xa.BadStep) = some false
  o_BadStep_BadStep : PySem.W.kitOne K (.ref xa.BadStep) (.ref xa.BadStep) = some true
  o_BadGood_BadStep : PySem.W.kitOne K (.ref xa.BadGood) (.ref xa.BadStep) = some false
  o_NoLetter_BadStep : PySem.W.kitOne K (.ref xa.NoLetter) (.ref xa.BadStep) = some false
  o_NoDesk_BadStep : PySem.W.kitOne K (.ref xa.NoDesk) (.ref xa.BadStep) = some false
  o_OtherLetters_BadStep : PySem.W.kitOne K (.ref xa.OtherLetters) (.ref xa.BadStep) = some false
  o_Notices_BadStep : PySem.W.kitOne K (.ref xa.Notices) (.ref xa.BadStep) = some false
  o_TooMany_BadStep : PySem.W.kitOne K (.ref xa.TooMany) (.ref xa.BadStep) = some false
  o_NoName_BadStep : PySem.W.kitOne K (.ref xa.NoName) (.ref xa.BadStep) = some false
  o_NoKind_BadStep : PySem.W.kitOne K (.ref xa.NoKind) (.ref xa.BadStep) = some false
  o_NoRow_BadStep : PySem.W.kitOne K (.ref xa.NoRow) (.ref xa.BadStep) = some false
  g_BadStep : mg "BadStep" = some (.ref xa.BadStep)
  o_NoText_BadGood : PySem.W.kitOne K (.ref xa.NoText) (.ref xa.BadGood) = some false
  o_Twice_BadGood : PySem.W.kitOne K (.ref xa.Twice) (.ref xa.BadGood) = some false
  o_BadStep_BadGood : PySem.W.kitOne K (.ref xa.BadStep) (.ref xa.BadGood) = some false
  o_BadGood_BadGood : PySem.W.kitOne K (.ref xa.BadGood) (.ref xa.BadGood) = some true
  o_NoLetter_BadGood : PySem.W.kitOne K (.ref xa.NoLetter) (.ref xa.BadGood) = some false
  o_NoDesk_BadGood : PySem.W.kitOne K (.ref xa.NoDesk) (.ref xa.BadGood) = some false
  o_OtherLetters_BadGood : PySem.W.kitOne K (.ref xa.OtherLetters) (.ref xa.BadGood) = some false
  o_Notices_BadGood : PySem.W.kitOne K (.ref xa.Notices) (.ref xa.BadGood) = some false
  o_TooMany_BadGood : PySem.W.kitOne K (.ref xa.TooMany) (.ref xa.BadGood) = some false
  o_NoName_BadGood : PySem.W.kitOne K (.ref xa.NoName) (.ref xa.BadGood) = some false
  o_NoKind_BadGood : PySem.W.kitOne K (.ref xa.NoKind) (.ref xa.BadGood) = some false
  o_NoRow_BadGood : PySem.W.kitOne K (.ref xa.NoRow) (.ref xa.BadGood) = some false
  g_BadGood : mg "BadGood" = some (.ref xa.BadGood)
  o_NoText_NoLetter : PySem.W.kitOne K (.ref xa.NoText) (.ref xa.NoLetter) = some false
  o_Twice_NoLetter : PySem.W.kitOne K (.ref xa.Twice) (.ref xa.NoLetter) = some false
  o_BadStep_NoLetter : PySem.W.kitOne K (.ref xa.BadStep) (.ref xa.NoLetter) = some false
  o_BadGood_NoLetter : PySem.W.kitOne K (.ref xa.BadGood) (.ref xa.NoLetter) = some false
  o_NoLetter_NoLetter : PySem.W.kitOne K (.ref xa.NoLetter) (.ref xa.NoLetter) = some true
  o_NoDesk_NoLetter : PySem.W.kitOne K (.ref xa.NoDesk) (.ref xa.NoLetter) = some false
  o_OtherLetters_NoLetter : PySem.W.kitOne K (.ref xa.OtherLetters) (.ref xa.NoLetter) = some false
  o_Notices_NoLetter : PySem.W.kitOne K (.ref xa.Notices) (.ref xa.NoLetter) = some false
  o_TooMany_NoLetter : PySem.W.kitOne K (.ref xa.TooMany) (.ref xa.NoLetter) = some false
  o_NoName_NoLetter : PySem.W.kitOne K (.ref xa.NoName) (.ref xa.NoLetter) = some false
  o_NoKind_NoLetter : PySem.W.kitOne K (.ref xa.NoKind) (.ref xa.NoLetter) = some false
  o_NoRow_NoLetter : PySem.W.kitOne K (.ref xa.NoRow) (.ref xa.NoLetter) = some false
  g_NoLetter : mg "NoLetter" = some (.ref xa.NoLetter)
  o_NoText_NoDesk : PySem.W.kitOne K (.ref xa.NoText) (.ref xa.NoDesk) = some false
  o_Twice_NoDesk : PySem.W.kitOne K (.ref xa.Twice) (.ref xa.NoDesk) = some false
  o_BadStep_NoDesk : PySem.W.kitOne K (.ref xa.BadStep) (.ref xa.NoDesk) = some false
  o_BadGood_NoDesk : PySem.W.kitOne K (.ref xa.BadGood) (.ref xa.NoDesk) = some false
  o_NoLetter_NoDesk : PySem.W.kitOne K (.ref xa.NoLetter) (.ref xa.NoDesk) = some false
  o_NoDesk_NoDesk : PySem.W.kitOne K (.ref xa.NoDesk) (.ref xa.NoDesk) = some true
  o_OtherLetters_NoDesk : PySem.W.kitOne K (.ref xa.OtherLetters) (.ref xa.NoDesk) = some false
  o_Notices_NoDesk : PySem.W.kitOne K (.ref xa.Notices) (.ref xa.NoDesk) = some false
  o_TooMany_NoDesk : PySem.W.kitOne K (.ref xa.TooMany) (.ref xa.NoDesk) = some false
  o_NoName_NoDesk : PySem.W.kitOne K (.ref xa.NoName) (.ref xa.NoDesk) = some false
  o_NoKind_NoDesk : PySem.W.kitOne K (.ref xa.NoKind) (.ref xa.NoDesk) = some false
  o_NoRow_NoDesk : PySem.W.kitOne K (.ref xa.NoRow) (.ref xa.NoDesk) = some false
  g_NoDesk : mg "NoDesk" = some (.ref xa.NoDesk)
  o_NoText_OtherLetters : PySem.W.kitOne K (.ref xa.NoText) (.ref xa.OtherLetters) = some false
  o_Twice_OtherLetters : PySem.W.kitOne K (.ref xa.Twice) (.ref xa.OtherLetters) = some false
  o_BadStep_OtherLetters : PySem.W.kitOne K (.ref xa.BadStep) (.ref xa.OtherLetters) = some false
  o_BadGood_OtherLetters : PySem.W.kitOne K (.ref xa.BadGood) (.ref xa.OtherLetters) = some false
  o_NoLetter_OtherLetters : PySem.W.kitOne K (.ref xa.NoLetter) (.ref xa.OtherLetters) = some false
  o_NoDesk_OtherLetters : PySem.W.kitOne K (.ref xa.NoDesk) (.ref xa.OtherLetters) = some false
  o_OtherLetters_OtherLetters : PySem.W.kitOne K (.ref xa.OtherLetters) (.ref xa.OtherLetters) = some true
  o_Notices_OtherLetters : PySem.W.kitOne K (.ref xa.Notices) (.ref xa.OtherLetters) = some false
  o_TooMany_OtherLetters : PySem.W.kitOne K (.ref xa.TooMany) (.ref xa.OtherLetters) = some false
  o_NoName_OtherLetters : PySem.W.kitOne K (.ref xa.NoName) (.ref xa.OtherLetters) = some false
  o_NoKind_OtherLetters : PySem.W.kitOne K (.ref xa.NoKind) (.ref xa.OtherLetters) = some false
  o_NoRow_OtherLetters : PySem.W.kitOne K (.ref xa.NoRow) (.ref xa.OtherLetters) = some false
  g_OtherLetters : mg "OtherLetters" = some (.ref xa.OtherLetters)
  o_NoText_Notices : PySem.W.kitOne K (.ref xa.NoText) (.ref xa.Notices) = some false
  o_Twice_Notices : PySem.W.kitOne K (.ref xa.Twice) (.ref xa.Notices) = some false
  o_BadStep_Notices : PySem.W.kitOne K (.ref xa.BadStep) (.ref xa.Notices) = some false
  o_BadGood_Notices : PySem.W.kitOne K (.ref xa.BadGood) (.ref xa.Notices) = some false
  o_NoLetter_Notices : PySem.W.kitOne K (.ref xa.NoLetter) (.ref xa.Notices) = some false
  o_NoDesk_Notices : PySem.W.kitOne K (.ref xa.NoDesk) (.ref xa.Notices) = some false
  o_OtherLetters_Notices : PySem.W.kitOne K (.ref xa.OtherLetters) (.ref xa.Notices) = some false
  o_Notices_Notices : PySem.W.kitOne K (.ref xa.Notices) (.ref xa.Notices) = some true
  o_TooMany_Notices : PySem.W.kitOne K (.ref xa.TooMany) (.ref xa.Notices) = some false
  o_NoName_Notices : PySem.W.kitOne K (.ref xa.NoName) (.ref xa.Notices) = some false
  o_NoKind_Notices : PySem.W.kitOne K (.ref xa.NoKind) (.ref xa.Notices) = some false
  o_NoRow_Notices : PySem.W.kitOne K (.ref xa.NoRow) (.ref xa.Notices) = some false
  g_Notices : mg "Notices" = some (.ref xa.Notices)
  o_NoText_TooMany : PySem.W.kitOne K (.ref xa.NoText) (.ref xa.TooMany) = some false
  o_Twice_TooMany : PySem.W.kitOne K (.ref xa.Twice) (.ref xa.TooMany) = some false
  o_BadStep_TooMany : PySem.W.kitOne K (.ref xa.BadStep) (.ref xa.TooMany) = some false
  o_BadGood_TooMany : PySem.W.kitOne K (.ref xa.BadGood) (.ref xa.TooMany) = some false
  o_NoLetter_TooMany : PySem.W.kitOne K (.ref xa.NoLetter) (.ref xa.TooMany) = some false
  o_NoDesk_TooMany : PySem.W.kitOne K (.ref xa.NoDesk) (.ref xa.TooMany) = some false
  o_OtherLetters_TooMany : PySem.W.kitOne K (.ref xa.OtherLetters) (.ref xa.TooMany) = some false
  o_Notices_TooMany : PySem.W.kitOne K (.ref xa.Notices) (.ref xa.TooMany) = some false
  o_TooMany_TooMany : PySem.W.kitOne K (.ref xa.TooMany) (.ref xa.TooMany) = some true
  o_NoName_TooMany : PySem.W.kitOne K (.ref xa.NoName) (.ref xa.TooMany) = some false
  o_NoKind_TooMany : PySem.W.kitOne K (.ref xa.NoKind) (.ref xa.TooMany) = some false
  o_NoRow_TooMany : PySem.W.kitOne K (.ref xa.NoRow) (.ref xa.TooMany) = some false
  g_TooMany : mg "TooMany" = some (.ref xa.TooMany)
  o_NoText_NoName : PySem.W.kitOne K (.ref xa.NoText) (.ref xa.NoName) = some false
  o_Twice_NoName : PySem.W.kitOne K (.ref xa.Twice) (.ref xa.NoName) = some false
  o_BadStep_NoName : PySem.W.kitOne K (.ref xa.BadStep) (.ref xa.NoName) = some false
  o_BadGood_NoName : PySem.W.kitOne K (.ref xa.BadGood) (.ref xa.NoName) = some false
  o_NoLetter_NoName : PySem.W.kitOne K (.ref xa.NoLetter) (.ref xa.NoName) = some false
  o_NoDesk_NoName : PySem.W.kitOne K (.ref xa.NoDesk) (.ref xa.NoName) = some false
  o_OtherLetters_NoName : PySem.W.kitOne K (.ref xa.OtherLetters) (.ref xa.NoName) = some false
  o_Notices_NoName : PySem.W.kitOne K (.ref xa.Notices) (.ref xa.NoName) = some false
  o_TooMany_NoName : PySem.W.kitOne K (.ref xa.TooMany) (.ref xa.NoName) = some false
  o_NoName_NoName : PySem.W.kitOne K (.ref xa.NoName) (.ref xa.NoName) = some true
  o_NoKind_NoName : PySem.W.kitOne K (.ref xa.NoKind) (.ref xa.NoName) = some false
  o_NoRow_NoName : PySem.W.kitOne K (.ref xa.NoRow) (.ref xa.NoName) = some false
  g_NoName : mg "NoName" = some (.ref xa.NoName)
  o_NoText_NoKind : PySem.W.kitOne K (.ref xa.NoText) (.ref xa.NoKind) = some false
  o_Twice_NoKind : PySem.W.kitOne K (.ref xa.Twice) (.ref xa.NoKind) = some false
  o_BadStep_NoKind : PySem.W.kitOne K (.ref xa.BadStep) (.ref xa.NoKind) = some false
  o_BadGood_NoKind : PySem.W.kitOne K (.ref xa.BadGood) (.ref xa.NoKind) = some false
  o_NoLetter_NoKind : PySem.W.kitOne K (.ref xa.NoLetter) (.ref xa.NoKind) = some false
  o_NoDesk_NoKind : PySem.W.kitOne K (.ref xa.NoDesk) (.ref xa.NoKind) = some false
  o_OtherLetters_NoKind : PySem.W.kitOne K (.ref xa.OtherLetters) (.ref xa.NoKind) = some false
  o_Notices_NoKind : PySem.W.kitOne K (.ref xa.Notices) (.ref xa.NoKind) = some false
  o_TooMany_NoKind : PySem.W.kitOne K (.ref xa.TooMany) (.ref xa.NoKind) = some false
  o_NoName_NoKind : PySem.W.kitOne K (.ref xa.NoName) (.ref xa.NoKind) = some false
  o_NoKind_NoKind : PySem.W.kitOne K (.ref xa.NoKind) (.ref xa.NoKind) = some true
  o_NoRow_NoKind : PySem.W.kitOne K (.ref xa.NoRow) (.ref xa.NoKind) = some false
  g_NoKind : mg "NoKind" = some (.ref xa.NoKind)
  o_NoText_NoRow : PySem.W.kitOne K (.ref xa.NoText) (.ref xa.NoRow) = some false
  o_Twice_NoRow : PySem.W.kitOne K (.ref xa.Twice) (.ref xa.NoRow) = some false
  o_BadStep_NoRow : PySem.W.kitOne K (.ref xa.BadStep) (.ref xa.NoRow) = some false
  o_BadGood_NoRow : PySem.W.kitOne K (.ref xa.BadGood) (.ref xa.NoRow) = some false
  o_NoLetter_NoRow : PySem.W.kitOne K (.ref xa.NoLetter) (.ref xa.NoRow) = some false
  o_NoDesk_NoRow : PySem.W.kitOne K (.ref xa.NoDesk) (.ref xa.NoRow) = some false
  o_OtherLetters_NoRow : PySem.W.kitOne K (.ref xa.OtherLetters) (.ref xa.NoRow) = some false
  o_Notices_NoRow : PySem.W.kitOne K (.ref xa.Notices) (.ref xa.NoRow) = some false
  o_TooMany_NoRow : PySem.W.kitOne K (.ref xa.TooMany) (.ref xa.NoRow) = some false
  o_NoName_NoRow : PySem.W.kitOne K (.ref xa.NoName) (.ref xa.NoRow) = some false
  o_NoKind_NoRow : PySem.W.kitOne K (.ref xa.NoKind) (.ref xa.NoRow) = some false
  o_NoRow_NoRow : PySem.W.kitOne K (.ref xa.NoRow) (.ref xa.NoRow) = some true
  g_NoRow : mg "NoRow" = some (.ref xa.NoRow)
  w_OtherLetters : PySem.W.excIn K xa.OtherLetters bmVE "ValueError.__new__" = true
  w_NoKind : PySem.W.excIn K xa.NoKind bmVE "ValueError.__new__" = true
  w_NoRow : PySem.W.excIn K xa.NoRow bmVE "ValueError.__new__" = true
  o_NoText_MeetError : PySem.W.kitOne K (.ref xa.NoText) (.ref C_MeetError) = some true
  o_Twice_MeetError : PySem.W.kitOne K (.ref xa.Twice) (.ref C_MeetError) = some true
  o_BadStep_MeetError : PySem.W.kitOne K (.ref xa.BadStep) (.ref C_MeetError) = some true
  o_BadGood_MeetError : PySem.W.kitOne K (.ref xa.BadGood) (.ref C_MeetError) = some true
  o_NoLetter_MeetError : PySem.W.kitOne K (.ref xa.NoLetter) (.ref C_MeetError) = some true
  o_NoDesk_MeetError : PySem.W.kitOne K (.ref xa.NoDesk) (.ref C_MeetError) = some true
  o_OtherLetters_MeetError : PySem.W.kitOne K (.ref xa.OtherLetters) (.ref C_MeetError) = some true
  o_Notices_MeetError : PySem.W.kitOne K (.ref xa.Notices) (.ref C_MeetError) = some true
  o_TooMany_MeetError : PySem.W.kitOne K (.ref xa.TooMany) (.ref C_MeetError) = some true
  o_NoName_MeetError : PySem.W.kitOne K (.ref xa.NoName) (.ref C_MeetError) = some true
  o_NoKind_MeetError : PySem.W.kitOne K (.ref xa.NoKind) (.ref C_MeetError) = some true
  o_NoRow_MeetError : PySem.W.kitOne K (.ref xa.NoRow) (.ref C_MeetError) = some true
  g_MeetError : mg "MeetError" = some (.ref C_MeetError)
  b_NoText_ValueError : PySem.W.kitOne K (.ref xa.NoText) (.type "ValueError") = some true
  b_Twice_ValueError : PySem.W.kitOne K (.ref xa.Twice) (.type "ValueError") = some true
  b_BadStep_ValueError : PySem.W.kitOne K (.ref xa.BadStep) (.type "ValueError") = some true
  b_BadGood_ValueError : PySem.W.kitOne K (.ref xa.BadGood) (.type "ValueError") = some true
  b_NoLetter_ValueError : PySem.W.kitOne K (.ref xa.NoLetter) (.type "ValueError") = some true
  b_NoDesk_ValueError : PySem.W.kitOne K (.ref xa.NoDesk) (.type "ValueError") = some true
  b_OtherLetters_ValueError : PySem.W.kitOne K (.ref xa.OtherLetters) (.type "ValueError") = some true
  b_Notices_ValueError : PySem.W.kitOne K (.ref xa.Notices) (.type "ValueError") = some true
  b_TooMany_ValueError : PySem.W.kitOne K (.ref xa.TooMany) (.type "ValueError") = some true
  b_NoName_ValueError : PySem.W.kitOne K (.ref xa.NoName) (.type "ValueError") = some true
  b_NoKind_ValueError : PySem.W.kitOne K (.ref xa.NoKind) (.type "ValueError") = some true
  b_NoRow_ValueError : PySem.W.kitOne K (.ref xa.NoRow) (.type "ValueError") = some true
  n_NoText_line : PySem.W.findIn K (.ref xa.NoText) "line" = some none
  n_Twice_name : PySem.W.findIn K (.ref xa.Twice) "name" = some none
  n_NoName_name : PySem.W.findIn K (.ref xa.NoName) "name" = some none
  n_BadStep_state : PySem.W.findIn K (.ref xa.BadStep) "state" = some none
  n_BadGood_state : PySem.W.findIn K (.ref xa.BadGood) "state" = some none
  n_BadStep_letter : PySem.W.findIn K (.ref xa.BadStep) "letter" = some none
  n_NoLetter_letter : PySem.W.findIn K (.ref xa.NoLetter) "letter" = some none
  n_NoDesk_desk : PySem.W.findIn K (.ref xa.NoDesk) "desk" = some none
  n_Notices_one : PySem.W.findIn K (.ref xa.Notices) "one" = some none
  n_Notices_other : PySem.W.findIn K (.ref xa.Notices) "other" = some none
  n_TooMany_most : PySem.W.findIn K (.ref xa.TooMany) "most" = some none
/-! what the defs of k01 are asked and tell -/
def pre_draw (fl : List Int) (n : Int) : Prop := Fl fl ∧ 0 < n ∧ n ≤ 100000000000000000000
def clsB (k : Nat) (r : Rf) : Bool := rfB (k == 0) (k == 1) (k == 2) (k == 3) (k == 4) (k == 5) (k == 6) (k == 7) (k == 8) (k == 9) (k == 10) (k == 11) r
def pre_sorts (x : Rf) : Prop := True
def f_sorts (x : Rf) : List Bool := [clsB 0 x, clsB 1 x, clsB 2 x, clsB 3 x, clsB 4 x, clsB 5 x, clsB 6 x, clsB 7 x, clsB 8 x, clsB 9 x, clsB 10 x, clsB 11 x]
abbrev Vs := Int ⊕ Str ⊕ List Str
def pre_alikeI (x : Int × Int) : Prop := x.1 = x.2
def f_alikeI (x : Int × Int) : Bool := true
def pre_alikeS (x : Str × Str) : Prop := x.1 = x.2
def f_alikeS (x : Str × Str) : Bool := true
def pre_alikeLS (x : List Str × List Str) : Prop := x.1 = x.2 ∧ x.1.length ≤ 100
def f_alikeLS (x : List Str × List Str) : Bool := true
def pre_alikeV : Vs × Vs → Prop := sumP pre_alikeI (sumP pre_alikeS pre_alikeLS)
def f_alikeV : Vs × Vs → Bool := sumF f_alikeI (sumF f_alikeS f_alikeLS)
def OkV : Vs → Prop
  | .inl _ => True
  | .inr (.inl _) => True
  | .inr (.inr l) => l.length ≤ 100
def pre_alikeL (x : List Vs × List Vs) : Prop := x.1 = x.2 ∧ x.1.length ≤ 100 ∧ ∀ v ∈ x.1, OkV v
def f_alikeL (x : List Vs × List Vs) : Bool := true
def pre_number (fl : List Int) (_ : Unit) : Prop := Fl fl
def post_number (fl : List Int) (_ : Unit) (r : Int) (fl2 : List Int) : Prop := Fl fl2
def pre_right (fl : List Int) (_ : Unit) : Prop := Fl fl
def post_right (fl : List Int) (_ : Unit) (r : Bool) (fl2 : List Int) : Prop := r = true ∧ Fl fl2
def pre_law (x : List Int) : Prop := x.length ≤ 63
def f_law (x : List Int) : Bool := true
theorem zip_same {α : Type} {l : List α} {i : Nat} {x : α × α} (h : (l.zip l)[i]? = some x) : x.1 = x.2 ∧ x.1 ∈ l := by
  obtain ⟨h1, h2⟩ := List.getElem?_zip_eq_some.mp h
  exact ⟨Option.some.inj (h1.symm.trans h2), List.mem_of_getElem? h1⟩
theorem okV_pre {v : Vs} (h : OkV v) : pre_alikeV (v, v) := by
  rcases v with a | s | l
  · exact (rfl : a = a)
  · exact (rfl : s = s)
  · exact (⟨rfl, h⟩ : l = l ∧ l.length ≤ 100)
theorem okV_f {v : Vs} : f_alikeV (v, v) = true := by
  rcases v with a | s | l <;> rfl
abbrev someX (a b c d : Int) (u v w x y : Str) (one other : List Str) : List Rf := [.noText a, .twice u, .badStep b v, .badGood c, .noLetter w, .noDesk x, .otherLetters] ++ [.notices one other, .tooMany d, .noName y, .noKind, .noRow]
theorem rfB_true (r : Rf) : rfB true true true true true true true true true true true true r = true := by cases r <;> rfl
theorem sorts_right {a b c d : Int} {u v w x y : Str} {one other : List Str} {i : Nat} {p : Int × Rf} (h : (enumF (someX a b c d u v w x y one other))[i]? = some p) : f_sorts p.2 = (rng 0 12).map fun t => decide (t = p.1) := by
  obtain ⟨p1, p2⟩ := p
  have hm := List.mem_of_getElem? h
  have e : enumF (someX a b c d u v w x y one other) = [(0, .noText a), (1, .twice u), (2, .badStep b v), (3, .badGood c), (4, .noLetter w), (5, .noDesk x), (6, .otherLetters), (7, .notices one other), (8, .tooMany d), (9, .noName y), (10, .noKind), (11, .noRow)] := rfl
  rw [e] at hm
  simp only [List.mem_cons, Prod.mk.injEq, List.not_mem_nil, or_false] at hm
  rcases hm with ⟨rfl, rfl⟩ | ⟨rfl, rfl⟩ | ⟨rfl, rfl⟩ | ⟨rfl, rfl⟩ | ⟨rfl, rfl⟩ | ⟨rfl, rfl⟩ | ⟨rfl, rfl⟩ | ⟨rfl, rfl⟩ | ⟨rfl, rfl⟩ | ⟨rfl, rfl⟩ | ⟨rfl, rfl⟩ | ⟨rfl, rfl⟩ <;> rfl
end K01
namespace K01
open PySem PySem.Spec PyProof.Rows L2 MD KP
noncomputable section
variable {P : Program} {w : World} {K : PySem.W.Frag} {mg : Str → Option Value} {base : Heap}
abbrev s_BadGood_init : Stmt := (inClass (topS 5) 0)
theorem sc_BadGood_init : FnScope ["self", "state"] ["self", "state"] (defScope s_BadGood_init) := ⟨rfl, rfl, rfl, by decide +kernel, rfl, by decide +kernel, by decide +kernel⟩
theorem ok_BadGood_init {C B : Addr} (T : OexC K C) (M : MoT K mg "MeetError" B) (n0 : PySem.W.findIn K (.ref C) "state" = some none) {f : Addr} {fd : FuncData} (F : Fun K "__init__" "BadGood.__init__" s_BadGood_init f fd) : FnOk P w K mg base (L2.CX P w) 1 f fd ["self", "state"] (spX1 C "state") := by
  refine F.okX sc_BadGood_init (fun vs H Q E hh => ?_) (fun cdv A outer s H vs Q E hr hh => ⟨_, pss_cons (ps_expr (pe_moinit M (pa_cons (pv 0) (pa_cons (pv 1) pa_nil)))) (pss_one (ps_ost (pv 0) (pv 1))), ?_⟩)
  · obtain ⟨a, v0, rfl, _⟩ := hh
    rfl
  · obtain ⟨a, v0, rfl, ha, k⟩ := hh
    exact ⟨_, rfl, _, rfl, a, C, _, rfl, Nat.le_of_ble_eq_true rfl, T, ha, _, rfl, _, rfl, a, C, rfl, T, n0, .inl ⟨ha, fun d hd hda => k d hd hda⟩⟩
abbrev s_BadStep_init : Stmt := (inClass (topS 4) 0)
theorem sc_BadStep_init : FnScope ["self", "state", "letter"] ["self", "state", "letter"] (defScope s_BadStep_init) := ⟨rfl, rfl, rfl, by decide +kernel, rfl, by decide +kernel, by decide +kernel⟩
theorem ok_BadStep_init {C B : Addr} (T : OexC K C) (M : MoT K mg "MeetError" B) (n0 : PySem.W.findIn K (.ref C) "state" = some none) (n1 : PySem.W.findIn K (.ref C) "letter" = some none) {f : Addr} {fd : FuncData} (F : Fun K "__init__" "BadStep.__init__" s_BadStep_init f fd) : FnOk P w K mg base (L2.CX P w) 1 f fd ["self", "state", "letter"] (spX2 C "state" "letter") := by
  refine F.okX sc_BadStep_init (fun vs H Q E hh => ?_) (fun cdv A outer s H vs Q E hr hh => ⟨_, pss_cons (ps_expr (pe_moinit M (pa_cons (pv 0) (pa_cons (pv 1) (pa_cons (pv 2) pa_nil))))) (pss_cons (ps_ost (pv 0) (pv 1)) (pss_one (ps_ost (pv 0) (pv 2)))), ?_⟩)
  · obtain ⟨a, v0, v1, rfl, _⟩ := hh
    rfl
  · obtain ⟨a, v0, v1, rfl, ha, k⟩ := hh
    exact ⟨_, rfl, _, rfl, _, rfl, a, C, _, rfl, Nat.le_of_ble_eq_true rfl, T, ha, _, rfl, _, rfl, a, C, rfl, T, n0, .inl ⟨ha, fun d hd hda => ⟨_, rfl, _, rfl, a, C, rfl, T, n1, .inr ⟨d, _, upd_same, by rw [upd_ne hda, upd_same], Nat.le_of_ble_eq_true rfl, k d hd hda⟩⟩⟩⟩
abbrev s_NoDesk_init : Stmt := (inClass (topS 7) 0)
theorem sc_NoDesk_init : FnScope ["self", "desk"] ["self", "desk"] (defScope s_NoDesk_init) := ⟨rfl, rfl, rfl, by decide +kernel, rfl, by decide +kernel, by decide +kernel⟩
theorem ok_NoDesk_init {C B : Addr} (T : OexC K C) (M : MoT K mg "MeetError" B) (n0 : PySem.W.findIn K (.ref C) "desk" = some none) {f : Addr} {fd : FuncData} (F : Fun K "__init__" "NoDesk.__init__" s_NoDesk_init f fd) : FnOk P w K mg base (L2.CX P w) 1 f fd ["self", "desk"] (spX1 C "desk") := by
  refine F.okX sc_NoDesk_init (fun vs H Q E hh => ?_) (fun cdv A outer s H vs Q E hr hh => ⟨_, pss_cons (ps_expr (pe_moinit M (pa_cons (pv 0) (pa_cons (pv 1) pa_nil)))) (pss_one (ps_ost (pv 0) (pv 1))), ?_⟩)
  · obtain ⟨a, v0, rfl, _⟩ := hh
    rfl
  · obtain ⟨a, v0, rfl, ha, k⟩ := hh
    exact ⟨_, rfl, _, rfl, a, C, _, rfl, Nat.le_of_ble_eq_true rfl, T, ha, _, rfl, _, rfl, a, C, rfl, T, n0, .inl ⟨ha, fun d hd hda => k d hd hda⟩⟩
abbrev s_NoLetter_init : Stmt := (inClass (topS 6) 0)
theorem sc_NoLetter_init : FnScope ["self", "letter"] ["self", "letter"] (defScope s_NoLetter_init) := ⟨rfl, rfl, rfl, by decide +kernel, rfl, by decide +kernel, by decide +kernel⟩
theorem ok_NoLetter_init {C B : Addr} (T : OexC K C) (M : MoT K mg "MeetError" B) (n0 : PySem.W.findIn K (.ref C) "letter" = some none) {f : Addr} {fd : FuncData} (F : Fun K "__init__" "NoLetter.__init__" s_NoLetter_init f fd) : FnOk P w K mg base (L2.CX P w) 1 f fd ["self", "letter"] (spX1 C "letter") := by
  refine F.okX sc_NoLetter_init (fun vs H Q E hh => ?_) (fun cdv A outer s H vs Q E hr hh => ⟨_, pss_cons (ps_expr (pe_moinit M (pa_cons (pv 0) (pa_cons (pv 1) pa_nil)))) (pss_one (ps_ost (pv 0) (pv 1))), ?_⟩)
  · obtain ⟨a, v0, rfl, _⟩ := hh
    rfl
  · obtain ⟨a, v0, rfl, ha, k⟩ := hh
    exact ⟨_, rfl, _, rfl, a, C, _, rfl, Nat.le_of_ble_eq_true rfl, T, ha, _, rfl, _, rfl, a, C, rfl, T, n0, .inl ⟨ha, fun d hd hda => k d hd hda⟩⟩
abbrev s_NoName_init : Stmt := (inClass (topS 11) 0)
theorem sc_NoName_init : FnScope ["self", "name"] ["self", "name"] (defScope s_NoName_init) := ⟨rfl, rfl, rfl, by decide +kernel, rfl, by decide +kernel, by decide +kernel⟩
theorem ok_NoName_init {C B : Addr} (T : OexC K C) (M : MoT K mg "MeetError" B) (n0 : PySem.W.findIn K (.ref C) "name" = some none) {f : Addr} {fd : FuncData} (F : Fun K "__init__" "NoName.__init__" s_NoName_init f fd) : FnOk P w K mg base (L2.CX P w) 1 f fd ["self", "name"] (spX1 C "name") := by
  refine F.okX sc_NoName_init (fun vs H Q E hh => ?_) (fun cdv A outer s H vs Q E hr hh => ⟨_, pss_cons (ps_expr (pe_moinit M (pa_cons (pv 0) (pa_cons (pv 1) pa_nil)))) (pss_one (ps_ost (pv 0) (pv 1))), ?_⟩)
  · obtain ⟨a, v0, rfl, _⟩ := hh
    rfl
  · obtain ⟨a, v0, rfl, ha, k⟩ := hh
    exact ⟨_, rfl, _, rfl, a, C, _, rfl, Nat.le_of_ble_eq_true rfl, T, ha, _, rfl, _, rfl, a, C, rfl, T, n0, .inl ⟨ha, fun d hd hda => k d hd hda⟩⟩
abbrev s_NoText_init : Stmt := (inClass (topS 2) 0)
theorem sc_NoText_init : FnScope ["self", "line"] ["self", "line"] (defScope s_NoText_init) := ⟨rfl, rfl, rfl, by decide +kernel, rfl, by decide +kernel, by decide +kernel⟩
theorem ok_NoText_init {C B : Addr} (T : OexC K C) (M : MoT K mg "MeetError" B) (n0 : PySem.W.findIn K (.ref C) "line" = some none) {f : Addr} {fd : FuncData} (F : Fun K "__init__" "NoText.__init__" s_NoText_init f fd) : FnOk P w K mg base (L2.CX P w) 1 f fd ["self", "line"] (spX1 C "line") := by
  refine F.okX sc_NoText_init (fun vs H Q E hh => ?_) (fun cdv A outer s H vs Q E hr hh => ⟨_, pss_cons (ps_expr (pe_moinit M (pa_cons (pv 0) (pa_cons (pv 1) pa_nil)))) (pss_one (ps_ost (pv 0) (pv 1))), ?_⟩)
  · obtain ⟨a, v0, rfl, _⟩ := hh
    rfl
  · obtain ⟨a, v0, rfl, ha, k⟩ := hh
    exact ⟨_, rfl, _, rfl, a, C, _, rfl, Nat.le_of_ble_eq_true rfl, T, ha, _, rfl, _, rfl, a, C, rfl, T, n0, .inl ⟨ha, fun d hd hda => k d hd hda⟩⟩
abbrev s_Notices_init : Stmt := (inClass (topS 9) 0)
theorem sc_Notices_init : FnScope ["self", "one", "other"] ["self", "one", "other"] (defScope s_Notices_init) := ⟨rfl, rfl, rfl, by decide +kernel, rfl, by decide +kernel, by decide +kernel⟩
theorem ok_Notices_init {C B : Addr} (T : OexC K C) (M : MoT K mg "MeetError" B) (n0 : PySem.W.findIn K (.ref C) "one" = some none) (n1 : PySem.W.findIn K (.ref C) "other" = some none) {f : Addr} {fd : FuncData} (F : Fun K "__init__" "Notices.__init__" s_Notices_init f fd) : FnOk P w K mg base (L2.CX P w) 1 f fd ["self", "one", "other"] (spX2 C "one" "other") := by
  refine F.okX sc_Notices_init (fun vs H Q E hh => ?_) (fun cdv A outer s H vs Q E hr hh => ⟨_, pss_cons (ps_expr (pe_moinit M (pa_cons (pv 0) (pa_cons (pv 1) (pa_cons (pv 2) pa_nil))))) (pss_cons (ps_ost (pv 0) (pv 1)) (pss_one (ps_ost (pv 0) (pv 2)))), ?_⟩)
  · obtain ⟨a, v0, v1, rfl, _⟩ := hh
    rfl
  · obtain ⟨a, v0, v1, rfl, ha, k⟩ := hh
    exact ⟨_, rfl, _, rfl, _, rfl, a, C, _, rfl, Nat.le_of_ble_eq_true rfl, T, ha, _, rfl, _, rfl, a, C, rfl, T, n0, .inl ⟨ha, fun d hd hda => ⟨_, rfl, _, rfl, a, C, rfl, T, n1, .inr ⟨d, _, upd_same, by rw [upd_ne hda, upd_same], Nat.le_of_ble_eq_true rfl, k d hd hda⟩⟩⟩⟩
abbrev s_TooMany_init : Stmt := (inClass (topS 10) 0)
theorem sc_TooMany_init : FnScope ["self", "most"] ["self", "most"] (defScope s_TooMany_init) := ⟨rfl, rfl, rfl, by decide +kernel, rfl, by decide +kernel, by decide +kernel⟩
theorem ok_TooMany_init {C B : Addr} (T : OexC K C) (M : MoT K mg "MeetError" B) (n0 : PySem.W.findIn K (.ref C) "most" = some none) {f : Addr} {fd : FuncData} (F : Fun K "__init__" "TooMany.__init__" s_TooMany_init f fd) : FnOk P w K mg base (L2.CX P w) 1 f fd ["self", "most"] (spX1 C "most") := by
  refine F.okX sc_TooMany_init (fun vs H Q E hh => ?_) (fun cdv A outer s H vs Q E hr hh => ⟨_, pss_cons (ps_expr (pe_moinit M (pa_cons (pv 0) (pa_cons (pv 1) pa_nil)))) (pss_one (ps_ost (pv 0) (pv 1))), ?_⟩)
  · obtain ⟨a, v0, rfl, _⟩ := hh
    rfl
  · obtain ⟨a, v0, rfl, ha, k⟩ := hh
    exact ⟨_, rfl, _, rfl, a, C, _, rfl, Nat.le_of_ble_eq_true rfl, T, ha, _, rfl, _, rfl, a, C, rfl, T, n0, .inl ⟨ha, fun d hd hda => k d hd hda⟩⟩
abbrev s_Twice_init : Stmt := (inClass (topS 3) 0)
theorem sc_Twice_init : FnScope ["self", "name"] ["self", "name"] (defScope s_Twice_init) := ⟨rfl, rfl, rfl, by decide +kernel, rfl, by decide +kernel, by decide +kernel⟩
theorem ok_Twice_init {C B : Addr} (T : OexC K C) (M : MoT K mg "MeetError" B) (n0 : PySem.W.findIn K (.ref C) "name" = some none) {f : Addr} {fd : FuncData} (F : Fun K "__init__" "Twice.__init__" s_Twice_init f fd) : FnOk P w K mg base (L2.CX P w) 1 f fd ["self", "name"] (spX1 C "name") := by
  refine F.okX sc_Twice_init (fun vs H Q E hh => ?_) (fun cdv A outer s H vs Q E hr hh => ⟨_, pss_cons (ps_expr (pe_moinit M (pa_cons (pv 0) (pa_cons (pv 1) pa_nil)))) (pss_one (ps_ost (pv 0) (pv 1))), ?_⟩)
  · obtain ⟨a, v0, rfl, _⟩ := hh
    rfl
  · obtain ⟨a, v0, rfl, ha, k⟩ := hh
    exact ⟨_, rfl, _, rfl, a, C, _, rfl, Nat.le_of_ble_eq_true rfl, T, ha, _, rfl, _, rfl, a, C, rfl, T, n0, .inl ⟨ha, fun d hd hda => k d hd hda⟩⟩
abbrev s_cell : Stmt := topS 15
theorem sc_cell : FnScope ["_law_script", "_law_k", "_law_number_here"] ["_law_script", "_law_k"] (defScope s_cell) := ⟨rfl, rfl, rfl, by decide +kernel, rfl, by decide +kernel, by decide +kernel⟩
def c_cell (K : PySem.W.Frag) := Con.fn (K := K) (fun x : ((List Int) × Int) => [.val (tLK tI) x.1, .val tI x.2]) tI pre_cell f_cell
theorem ok_cell (bs : Bs mg) {f : Addr} {fd : FuncData} (F : Fun K "_law_cell" "_law_cell" s_cell f fd) : FnOk P w K mg base (L2.CX P w) 1 f fd ["_law_script", "_law_k"] (c_cell K).sp := by
  refine fn_con (c_cell K) F sc_cell (fun _ => rfl) ?_
  intro cdv Ar outer s H E F0 a φ ε hr hp
  have hu := hu_of hr
  have sc := sc_cell
  refine' SK.vc ?hh ?vc
  case hh =>
   refine' sk_seq (sk_if1 (pt_cmp' op_lt r2_B0 (pk_var (i := 1) rfl) (PV.k (pv_cb cr_lenQ bs.m_len bs.b_len u_len (PV.kq (PK.lk (pk_var (i := 0) rfl)))))) ?a12 ?b13)
   case a12 =>
    exact sk_retF (pk_ixR (T := tI) (PK.lk (pk_var (i := 0) rfl)) (pk_var (i := 1) rfl))
   case b13 =>
    refine' sk_nilX rfl ?k14
    case k14 =>
     refine' sk_set (i := 2) (by exact sc.nd) (pk_op op_add r2_I0 (pk_op op_mul r2_I (pk_var (i := 1) rfl) pk_int) pk_int) ?k15
     case k15 =>
      intro number_here_1
      refine' sk_st (ρ2 := [.val (tLK tI) a.1, .val tI a.2, .val tI number_here_1]) (cs2 := []) rfl rfl ?k16
      case k16 =>
       refine' sk_join (fun z_2 : Int => [.val (tLK tI) a.1, .val tI a.2, .val tI z_2]) (fun z_2 : Int => []) ?h17 ?k18
       case h17 =>
        intro R_3
        refine' sk_if1 (pt_cmp' op_gt r2_B0 (PV.k (pv_cb cr_lenQ bs.m_len bs.b_len u_len (PV.kq (PK.lk (pk_var (i := 0) rfl))))) pk_int) ?a19 ?b20
        case a19 =>
         refine' sk_set (i := 2) (by exact sc.nd) (pk_op op_add r2_I0 (pk_op op_mul r2_I (pk_op op_mod r2_I (pk_ixR (T := tI) (PK.lk (pk_var (i := 0) rfl)) (pk_op op_mod r2_I (pk_op op_mul r2_I (pk_var (i := 1) rfl) pk_int) (PV.k (pv_cb cr_lenQ bs.m_len bs.b_len u_len (PV.kq (PK.lk (pk_var (i := 0) rfl))))))) pk_int) pk_int) (pk_op op_mul r2_I (pk_var (i := 1) rfl) pk_int)) ?k21
         case k21 =>
          intro number_here_4
          refine' sk_st (ρ2 := [.val (tLK tI) a.1, .val tI a.2, .val tI number_here_4]) (cs2 := []) rfl rfl ?k22
          case k22 =>
           exact sk_midX (z := _) rfl (.same (.same (.same .nil))) rfl
        case b20 =>
         exact sk_midX (z := _) rfl (.same (.same (.same .nil))) rfl
       case k18 =>
        intro z_2
        exact sk_retF (pk_op op_mul r2_I (pk_op op_mod r2_I (pk_var (i := 2) rfl) pk_int) pk_int)
  case vc =>
   intro h
   simp only [true_and, and_true, yes1, yes2]
   obtain ⟨xs, k⟩ := a
   obtain ⟨hk, hφ⟩ := h
   have hk : 0 ≤ k := hk
   try dsimp only at hφ
   try dsimp only
   have l0 : (0 : Int) ≤ xs.length := Int.natCast_nonneg _
   refine ⟨fun h1 => ?_, fun h1 => ?_⟩
   · have h1 : k < xs.length := of_decide_eq_true h1
     refine ⟨⟨by omega, h1⟩, hφ _ ?_⟩
     unfold f_cell
     rw [if_pos h1]
   · have h1 : ¬ k < xs.length := of_decide_eq_false h1
     refine ⟨.inr ⟨by decide, by decide⟩, fun z hz => ⟨fun y => y = (if 0 < xs.length then pyIx xs (k * 7 % xs.length) % 2147483629 * 48271 + k * 7919 else k * 7919 + 5), ⟨fun h2 => ?_, fun h2 => ?_⟩, fun y hy => ?_⟩⟩
     · have h2 : 0 < (xs.length : Int) := of_decide_eq_true h2
       have h3 : 0 < xs.length := by omega
       refine ⟨⟨⟨⟨⟨⟨.inr ⟨by decide, by decide⟩, h2⟩, ?_⟩, by decide⟩, .inr ⟨by decide, by decide⟩⟩, .inr ⟨by decide, by decide⟩⟩, fun y hy => ?_⟩
       · have := Int.emod_nonneg (k * 7) (show (xs.length : Int) ≠ 0 by omega)
         exact ⟨by omega, Int.emod_lt_of_pos _ h2⟩
       · rw [if_pos h3]; exact hy
     · have h2 : ¬ 0 < (xs.length : Int) := of_decide_eq_false h2
       rw [if_neg (by omega)]; exact hz
     · refine ⟨⟨by decide, .inr ⟨by decide, by decide⟩⟩, hφ _ ?_⟩
       unfold f_cell
       rw [if_neg h1, hy]
abbrev s_flow : Stmt := topS 16
theorem sc_flow : FnScope ["_law_script", "_law_k", "_law_cell_here", "_law_own"] ["_law_script", "_law_k"] (defScope s_flow) := ⟨rfl, rfl, rfl, by decide +kernel, rfl, by decide +kernel, by decide +kernel⟩
def c_flow (K : PySem.W.Frag) := Con.mk1 (K := K) (fun x : ((List Int) × Int) => [.val (tLK tI) x.1, .val tI x.2]) tI pre_flow post_flow
theorem ok_flow (bs : Bs mg) {f_cell : Addr} {fd_cell : FuncData} (g_cell : Cal P w K mg base "_law_cell" 1 ["_law_script", "_law_k"] (c_cell K).sp f_cell fd_cell) {f : Addr} {fd : FuncData} (F : Fun K "_law_flow" "_law_flow" s_flow f fd) : FnOk P w K mg base (L2.CX P w) 2 f fd ["_law_script", "_law_k"] (c_flow K).sp := by
  refine fn_con (c_flow K) F sc_flow (fun _ => rfl) ?_
  intro cdv Ar outer s H E F0 a φ ε hr hp
  have hu := hu_of hr
  have sc := sc_flow
  refine' SK.vc ?hh ?vc
  case hh =>
   refine' sk_set (i := 2) (by exact sc.nd) (pk_fn g_cell.F (slC sl1) hr g_cell.m g_cell.k g_cell.b (pa_C (pk_var (i := 0) rfl) (pa_1 (pk_var (i := 1) rfl)))) ?k33
   case k33 =>
    intro cell_here_1
    refine' sk_st (ρ2 := [.val (tLK tI) a.1, .val tI a.2, .val tI cell_here_1, .un]) (cs2 := []) rfl rfl ?k34
    case k34 =>
     refine' sk_set (i := 3) (by exact sc.nd) pk_int ?k35
     case k35 =>
      intro own_2
      refine' sk_st (ρ2 := [.val (tLK tI) a.1, .val tI a.2, .val tI cell_here_1, .val tI own_2]) (cs2 := []) rfl rfl ?k36
      case k36 =>
       refine' sk_join (fun z_3 : Int => [.val (tLK tI) a.1, .val tI a.2, .val tI cell_here_1, .val tI z_3]) (fun z_3 : Int => []) ?h37 ?k38
       case h37 =>
        intro R_4
        refine' sk_if1 (pt_cmp' op_ge r2_B0 (pk_var (i := 2) rfl) (pk_op op_pow r2_I pk_int pk_int)) ?a39 ?b40
        case a39 =>
         refine' sk_set (i := 3) (by exact sc.nd) (pk_var (i := 2) rfl) ?k41
         case k41 =>
          intro own_5
          refine' sk_st (ρ2 := [.val (tLK tI) a.1, .val tI a.2, .val tI cell_here_1, .val tI own_5]) (cs2 := []) rfl rfl ?k42
          case k42 =>
           exact sk_midX (z := _) rfl (.same (.same (.same (.same .nil)))) rfl
        case b40 =>
         exact sk_midX (z := _) rfl (.same (.same (.same (.same .nil)))) rfl
       case k38 =>
        intro z_3
        exact sk_retN (NK.ne (nk_lst (pl_C (pk_var (i := 3) rfl) (pl_C pk_int (pl_C (pk_op op_add r2_I0 (pk_op op_mod r2_I (pk_var (i := 2) rfl) pk_int) (pk_op op_mul r2_I pk_int (pk_var (i := 1) rfl))) pl_0))) (Nat.le_of_ble_eq_true rfl)))
  case vc =>
   intro h
   simp only [true_and, and_true, yes1, yes2]
   obtain ⟨xs, k⟩ := a
   obtain ⟨⟨k0, k1⟩, hφ⟩ := h
   have k0 : 0 ≤ k := k0
   have k1 : k ≤ 1000000 := k1
   try dsimp only at hφ
   try dsimp only
   refine ⟨k0, fun c hc o ho => ⟨fun _ => True, ⟨⟨by decide, by decide, by decide⟩, fun _ _ _ => trivial, fun _ => trivial⟩, fun x _ => ⟨⟨by decide, .inl ⟨by decide, by decide⟩⟩, fun l r hr => hφ l r ?_⟩⟩⟩
   have m := Int.emod_nonneg c (show (2147483629 : Int) ≠ 0 by decide)
   have m2 := Int.emod_lt_of_pos c (show (0 : Int) < 2147483629 by decide)
   exact ⟨x, 0, c % 2147483629 + 40692 * k, hr, by omega, by omega⟩
abbrev s_draw : Stmt := topS 17
theorem sc_draw : FnScope ["_law_flow_here", "_law_many", "_law_digit", "_law_number_here"] ["_law_flow_here", "_law_many"] (defScope s_draw) := ⟨rfl, rfl, rfl, by decide +kernel, rfl, by decide +kernel, by decide +kernel⟩
def c_draw (K : PySem.W.Frag) := Con.o1 (K := K) tI (fun x : Int => [.val tI x]) tI pre_draw post_draw
theorem ok_draw (bs : Bs mg) {f : Addr} {fd : FuncData} (F : Fun K "_law_draw" "_law_draw" s_draw f fd) : FnOk P w K mg base (L2.CX P w) 1 f fd ["_law_flow_here", "_law_many"] (c_draw K).sp := by
  refine fn_con (c_draw K) F sc_draw (fun _ => rfl) ?_
  intro cdv Ar outer s H E F0 a φ ε hr hp
  have hu := hu_of hr
  have sc := sc_draw
  refine' SK.vc ?hh ?vc
  case hh =>
   refine' sk_seq (sk_if1 (pt_cmp' op_gt r2_B0 (pk_ixR (T := tI) (PV.lk (PK.own 0 (pk_var (i := 0) rfl) rfl)) pk_int) pk_int) ?a56 ?b57)
   case a56 =>
    refine' sk_set (i := 2) (by exact sc.nd) (pk_op op_mod r2_I (pk_ixR (T := tI) (PV.lk (PK.own 0 (pk_var (i := 0) rfl) rfl)) pk_int) (pk_var (i := 1) rfl)) ?k58
    case k58 =>
     intro digit_1
     refine' sk_st (ρ2 := [.val tR a.1, .val tI a.2.2, .val tI digit_1, .un]) (cs2 := [⟨a.1, cL tI a.2.1⟩]) rfl rfl ?k59
     case k59 =>
      refine' sk_setIx 0 (PK.ek (pk_op op_fdivW r2_I (pk_ixR (T := tI) (PV.lk (PK.own 0 (pk_var (i := 0) rfl) rfl)) pk_int) (pk_var (i := 1) rfl))) (fun _ => (pk_var (i := 0) rfl)) (fun _ => pk_int) (fun _ => rfl) ?k60
      case k60 =>
       intro y_2 w_3
       refine' sk_st (ρ2 := [.val tR a.1, .val tI a.2.2, .val tI digit_1, .un]) (cs2 := [⟨a.1, cL tI w_3⟩]) rfl rfl ?k61
       case k61 =>
        exact sk_retO (pk_var (i := 2) rfl) rfl
   case b57 =>
    refine' sk_nilX rfl ?k62
    case k62 =>
     refine' sk_setIx 0 (PK.ek (pk_op op_add r2_I0 (pk_ixR (T := tI) (PV.lk (PK.own 0 (pk_var (i := 0) rfl) rfl)) pk_int) pk_int)) (fun _ => (pk_var (i := 0) rfl)) (fun _ => pk_int) (fun _ => rfl) ?k63
     case k63 =>
      intro y_4 w_5
      refine' sk_st (ρ2 := [.val tR a.1, .val tI a.2.2, .un, .un]) (cs2 := [⟨a.1, cL tI w_5⟩]) rfl rfl ?k64
      case k64 =>
       refine' sk_set (i := 3) (by exact sc.nd) (pk_op op_mod r2_I (pk_op op_add r2_I0 (pk_op op_add r2_I0 (pk_op op_mul r2_I (pk_ixR (T := tI) (PV.lk (PK.own 0 (pk_var (i := 0) rfl) rfl)) pk_int) (pk_op op_add r2_I0 pk_int (pk_op op_mul r2_I pk_int (pk_ixR (T := tI) (PV.lk (PK.own 0 (pk_var (i := 0) rfl) rfl)) pk_int)))) (pk_op op_mul r2_I pk_int (pk_ixR (T := tI) (PV.lk (PK.own 0 (pk_var (i := 0) rfl) rfl)) pk_int))) pk_int) pk_int) ?k65
       case k65 =>
        intro number_here_6
        refine' sk_st (ρ2 := [.val tR a.1, .val tI a.2.2, .un, .val tI number_here_6]) (cs2 := [⟨a.1, cL tI w_5⟩]) rfl rfl ?k66
        case k66 =>
         refine' sk_set (i := 3) (by exact sc.nd) (pk_op op_mod r2_I (pk_op op_mul r2_I (pk_var (i := 3) rfl) (pk_var (i := 3) rfl)) pk_int) ?k67
         case k67 =>
          intro number_here_7
          refine' sk_st (ρ2 := [.val tR a.1, .val tI a.2.2, .un, .val tI number_here_7]) (cs2 := [⟨a.1, cL tI w_5⟩]) rfl rfl ?k68
          case k68 =>
           exact sk_retO (pk_op op_mod r2_I (pk_op op_fdiv r2_I (pk_op op_mod r2_I (pk_op op_mul r2_I (pk_op op_add r2_I0 (pk_var (i := 3) rfl) pk_int) (pk_op op_add r2_I0 (pk_var (i := 3) rfl) pk_int)) pk_int) pk_int) (pk_var (i := 1) rfl)) rfl
  case vc =>
   intro h
   simp only [true_and, and_true, yes1, yes2]
   obtain ⟨l, fl, n⟩ := a
   obtain ⟨⟨⟨x, b, c, hf, c0, c1⟩, n0, n1⟩, hφ⟩ := h
   simp only at hf n0 n1 hφ ⊢
   subst hf
   have i0 : pyIx [x, b, c] 0 = x := rfl
   have o0 : IxOk [x, b, c] 0 := ⟨by simp, by simp⟩
   have o1 : IxOk [x, b, c] 1 := ⟨by simp, by simp⟩
   have w0 : IxW [x, b, c] 0 := ⟨by simp, by simp⟩
   have w1 : IxW [x, b, c] 1 := ⟨by simp, by simp⟩
   rw [i0]
   refine ⟨o0, fun hx => ⟨⟨o0, n0⟩, fun z hz => ⟨⟨o0, ?_⟩, w0, fun z1 hz1 => hφ _ _ ⟨?_, ?_, ?_⟩⟩⟩, fun hx => ⟨o1, w1, fun z hz => ?_⟩⟩
   · exact wide_div (b := 67) n0 (Nat.lt_of_le_of_lt (show n.natAbs ≤ 100000000000000000000 by omega) (by decide)) (by decide) (by decide)
   · rw [hz]; exact Int.emod_nonneg _ (by omega)
   · rw [hz]; exact Int.emod_lt_of_pos _ n0
   · exact ⟨x / n, b, c, by rw [hz1]; rfl, c0, c1⟩
   · have hz' : z = [x, b + 1, c] := by rw [hz]; rfl
     clear hz
     subst hz'
     have j1 : pyIx [x, b + 1, c] 1 = b + 1 := rfl
     have j2 : pyIx [x, b + 1, c] 2 = c := rfl
     have p1 : IxOk [x, b + 1, c] 1 := ⟨by simp, by simp⟩
     have p2 : IxOk [x, b + 1, c] 2 := ⟨by simp, by simp⟩
     rw [j1, j2]
     refine ⟨⟨⟨⟨p2, ⟨p1, .inl ⟨by decide, by decide⟩⟩, .inl ⟨by omega, by omega⟩⟩, p1, .inl ⟨by decide, by decide⟩⟩, by decide⟩, fun z1 hz1 => ?_⟩
     have m1 : 0 ≤ z1 ∧ z1 < 2147483629 := by rw [hz1]; exact ⟨Int.emod_nonneg _ (by decide), Int.emod_lt_of_pos _ (by decide)⟩
     clear hz1
     refine ⟨⟨.inl ⟨by omega, by omega⟩, by decide⟩, fun z2 hz2 => ?_⟩
     have m2 : 0 ≤ z2 ∧ z2 < 2147483587 := by rw [hz2]; exact ⟨Int.emod_nonneg _ (by decide), Int.emod_lt_of_pos _ (by decide)⟩
     clear hz2
     refine ⟨⟨⟨⟨.inl ⟨by omega, by omega⟩, by decide⟩, ⟨by decide, by decide⟩⟩, n0⟩, hφ _ _ ⟨Int.emod_nonneg _ (by omega), Int.emod_lt_of_pos _ n0, x, b + 1, c, rfl, c0, c1⟩⟩
abbrev s_names : Stmt := topS 18
theorem sc_names : FnScope ["_law_flow_here", "_law_many", "_law_some", "_law_found", "_law_k", "_law_name", "_law_word", "_law_at", "_law_first", "_law_long", "_law_j", "_law_one"] ["_law_flow_here", "_law_many"] (defScope s_names) := ⟨rfl, rfl, rfl, by decide +kernel, rfl, by decide +kernel, by decide +kernel⟩
def c_names (K : PySem.W.Frag) := Con.o1 (K := K) tI (fun x : Int => [.val tI x]) (tL tS) pre_names post_names
theorem ok_names (bs : Bs mg) {f_draw : Addr} {fd_draw : FuncData} (g_draw : Cal P w K mg base "_law_draw" 1 ["_law_flow_here", "_law_many"] (c_draw K).sp f_draw fd_draw) {f : Addr} {fd : FuncData} (F : Fun K "_law_names" "_law_names" s_names f fd) : FnOk P w K mg base (L2.CX P w) 2 f fd ["_law_flow_here", "_law_many"] (c_names K).sp := by
  refine fn_con (c_names K) F sc_names (fun _ => rfl) ?_
  intro cdv Ar outer s H E F0 a φ ε hr hp
  have hu := hu_of hr
  have sc := sc_names
  refine' SK.vc ?hh ?vc
  case hh =>
   refine' sk_set (i := 2) (by exact sc.nd) pk_str ?k142
   case k142 =>
    intro some_1
    refine' sk_st (ρ2 := [.val tR a.1, .val tI a.2.2, .val tS some_1, .un, .un, .un, .un, .un, .un, .un, .un, .un]) (cs2 := [⟨a.1, cL tI a.2.1⟩]) rfl rfl ?k143
    case k143 =>
     refine' sk_seq (sk_if1E (tk_cmp op_eq r2_eqI (ek_o1 0 g_draw.F sl1 hr g_draw.m g_draw.k g_draw.b (pk_var (i := 0) rfl) (PAK.ak (pa_1 pk_int)) (fun _ => rfl)) (fun _ => (PK.ek pk_int))) ?a144 ?b145)
     case a144 =>
      intro y_2
      refine' sk_name 0 rfl ?k146
      case k146 =>
       intro w_4
       refine' sk_st (ρ2 := [.val tR a.1, .val tI a.2.2, .val tS some_1, .un, .un, .un, .un, .un, .un, .un, .un, .un]) (cs2 := [⟨a.1, cL tI w_4⟩]) rfl rfl ?k147
       case k147 =>
        refine' sk_setN (i := 3) (T := tS) (by exact sc.nd) (NK.ne (nk_lst (T := tS) (pl_0 (T := tS)) (Nat.zero_le _))) ?k148
        case k148 =>
         intro y_5 a_6 found_7
         refine' sk_st (ρ2 := [.val tR a.1, .val tI a.2.2, .val tS some_1, .val tR a_6, .un, .un, .un, .un, .un, .un, .un, .un]) (cs2 := [⟨a.1, cL tI w_4⟩, ⟨a_6, cL tS found_7⟩]) rfl rfl ?k149
         case k149 =>
          refine' sk_for (fun z_8 : (List Int × List Str) => [.val tR a.1, .val tI a.2.2, .val tS some_1, .val tR a_6, .un, .un, .un, .un, .un, .un, .un, .un]) (fun z_8 : (List Int × List Str) => [⟨a.1, cL tI z_8.1⟩, ⟨a_6, cL tS z_8.2⟩]) (_, _) hp rfl (ik_range1 bs.m_range (pk_var (i := 1) rfl)) (gk_name (i := 4) (by exact sc.nd)) (.same (.same (.same (.same (.same (.same (.same (.same (.same (.same (.same (.same .nil)))))))))))) rfl ?b150 ?k151
          case b150 =>
           intro fl_12 hs_11 N_10 z_8 x_9
           refine' sk_st (ρ2 := [.val tR a.1, .val tI a.2.2, .val tS some_1, .val tR a_6, .val tI x_9, .un, .un, .un, .un, .un, .un, .un]) (cs2 := [⟨a.1, cL tI z_8.1⟩, ⟨a_6, cL tS z_8.2⟩]) rfl rfl ?k152
           case k152 =>
            refine' sk_setE (i := 5) (by exact sc.nd) (ek_join pk_str (EV.q (NE.l (ne_lc rfl (by exact sc.nd) ?lc2 ?lc1 ?lc3)))) ?k156
            case lc2 =>
             exact blkOk_by (own := [("_law_j", 10)]) (N := ["_law_flow_here", "_law_many", "_law_some", "_law_found", "_law_k", "_law_name", "_law_word", "_law_at", "_law_first", "_law_long", "_law_j", "_law_one"]) (sc := defScope s_names) (by decide +kernel)
            case lc1 =>
             exact lc_k (own := [("_law_j", 10)]) (T := tI) (U := tS) (G := fun ρ x => (List.set ρ 10 (.val tI x))) (vs := [10]) (cs' := (fun c_13 : List Int => [⟨a.1, cL tI c_13⟩, ⟨a_6, cL tS z_8.2⟩])) (z0 := fun y => _) (ie_range1 bs.m_range (ek_op op_add r2_I0 (PK.ek pk_int) (fun _ => (ek_o1 0 g_draw.F sl1 hr g_draw.m g_draw.k g_draw.b (pk_var (i := 0) rfl) (PAK.ak (pa_1 pk_int)) (fun _ => rfl))))) (fun _ => rfl) (by decide) (fun _ _ _ _ _ => (gk_name (i := 10) (by exact sc.nd))) (fun _ _ _ _ _ _ _ => ts_0) (fun _ _ _ _ _ _ _ _ => (ek_ixS (PK.ek (pk_var (i := 2) rfl)) (fun _ => (ek_o1 0 g_draw.F sl1 hr g_draw.m g_draw.k g_draw.b (pk_var (i := 0) rfl) (PAK.ak (pa_1 pk_int)) (fun _ => rfl)))))
            case lc3 =>
             exact fun _ => rfl
            case k156 =>
             intro y_16 name_15
             refine' sk_name 0 rfl ?k157
             case k157 =>
              intro w_17
              refine' sk_st (ρ2 := [.val tR a.1, .val tI a.2.2, .val tS some_1, .val tR a_6, .val tI x_9, .val tS name_15, .un, .un, .un, .un, .un, .un]) (cs2 := [⟨a.1, cL tI w_17⟩, ⟨a_6, cL tS z_8.2⟩]) rfl rfl ?k158
              case k158 =>
               refine' sk_st (ρ2 := [.val tR a.1, .val tI a.2.2, .val tS some_1, .val tR a_6, .val tI x_9, .val tS name_15, .un, .un, .un, .un, .un, .un]) (cs2 := [⟨a.1, cL tI w_17⟩, ⟨a_6, cL tS z_8.2⟩]) rfl rfl ?k159
               case k159 =>
                refine' sk_join (fun z_18 : Str => [.val tR a.1, .val tI a.2.2, .val tS some_1, .val tR a_6, .val tI x_9, .val tS z_18, .un, .un, .un, .un, .un, .un]) (fun z_18 : Str => [⟨a.1, cL tI w_17⟩, ⟨a_6, cL tS z_8.2⟩]) ?h160 ?k161
                case h160 =>
                 intro R_19
                 refine' sk_if1 (pt_in fS (pk_var (i := 5) rfl) (PV.q (PK.own 1 (pk_var (i := 3) rfl) rfl))) ?a162 ?b163
                 case a162 =>
                  refine' sk_setE (i := 5) (by exact sc.nd) (ek_ixR (T := tS) (EV.lk (NE.l (ne_lc rfl (by exact sc.nd) ?lc14 ?lc13 ?lc15))) (fun _ => pk_int)) ?k167
                  case lc14 =>
                   exact blkOk_by (own := [("_law_one", 11)]) (N := ["_law_flow_here", "_law_many", "_law_some", "_law_found", "_law_k", "_law_name", "_law_word", "_law_at", "_law_first", "_law_long", "_law_j", "_law_one"]) (sc := defScope s_names) (by decide +kernel)
                  case lc13 =>
                   exact lc_k (own := [("_law_one", 11)]) (T := tS) (U := tS) (G := fun ρ x => (List.set ρ 11 (.val tS x))) (vs := [11]) (cs' := (fun _ : Unit => [⟨a.1, cL tI w_17⟩, ⟨a_6, cL tS z_8.2⟩])) (z0 := fun y => ()) (s1 := fun _ _ _ => ()) (s2 := fun _ _ _ _ => ()) (IK.ie (ik_str (pk_var (i := 2) rfl))) (fun _ => rfl) (by decide) (fun _ _ _ _ _ => (gk_name (i := 11) (by exact sc.nd))) (fun _ _ _ _ _ _ _ => (ts_1 (PTK.tk (pt_nin fS (pk_var (i := 11) rfl) (PV.q (PK.own 1 (pk_var (i := 3) rfl) rfl)))))) (fun _ _ _ _ _ _ _ _ => (PK.ek (pk_var (i := 11) rfl)))
                  case lc15 =>
                   exact fun _ => rfl
                  case k167 =>
                   intro y_25 name_24
                   refine' sk_st (ρ2 := [.val tR a.1, .val tI a.2.2, .val tS some_1, .val tR a_6, .val tI x_9, .val tS name_24, .un, .un, .un, .un, .un, .un]) (cs2 := [⟨a.1, cL tI w_17⟩, ⟨a_6, cL tS z_8.2⟩]) rfl rfl ?k168
                   case k168 =>
                    exact sk_midX (z := _) rfl (.same (.same (.same (.same (.same (.same (.same (.same (.same (.same (.same (.same .nil)))))))))))) rfl
                 case b163 =>
                  exact sk_midX (z := _) rfl (.same (.same (.same (.same (.same (.same (.same (.same (.same (.same (.same (.same .nil)))))))))))) rfl
                case k161 =>
                 intro z_18
                 refine' sk_expr (ek_mL PySem.F.slot_list_append PySem.F.type_list_append mt_append ml_append 1 (pk_var (i := 3) rfl) (ak_1 (PK.ek (pk_var (i := 5) rfl))) (fun _ => rfl) ⟨_, rfl⟩) ?k169
                 case k169 =>
                  intro y_26
                  refine' sk_name 1 rfl ?k170
                  case k170 =>
                   intro w_27
                   refine' sk_st (ρ2 := [.val tR a.1, .val tI a.2.2, .val tS some_1, .val tR a_6, .val tI x_9, .val tS z_18, .un, .un, .un, .un, .un, .un]) (cs2 := [⟨a.1, cL tI w_17⟩, ⟨a_6, cL tS w_27⟩]) rfl rfl ?k171
                   case k171 =>
                    exact sk_midX (z := (_, _)) rfl (.same (.same (.same (.same (.un (.un (.same (.same (.same (.same (.same (.same .nil)))))))))))) rfl
          case k151 =>
           intro z_8
           refine' sk_freeze 1 3 rfl rfl rfl (Nat.le_of_ble_eq_true rfl) ?k172
           case k172 =>
            refine' sk_st (ρ2 := [.val tR a.1, .val tI a.2.2, .val tS some_1, .val (tL tS) z_8.2, .un, .un, .un, .un, .un, .un, .un, .un]) (cs2 := [⟨a.1, cL tI z_8.1⟩]) rfl rfl ?k173
            case k173 =>
             exact sk_retO (pk_var (i := 3) rfl) rfl
     case b145 =>
      intro y_3
      refine' sk_name 0 rfl ?k174
      case k174 =>
       intro w_28
       refine' sk_st (ρ2 := [.val tR a.1, .val tI a.2.2, .val tS some_1, .un, .un, .un, .un, .un, .un, .un, .un, .un]) (cs2 := [⟨a.1, cL tI w_28⟩]) rfl rfl ?k175
       case k175 =>
        refine' sk_nilX rfl ?k176
        case k176 =>
         refine' sk_setE (i := 6) (by exact sc.nd) (ek_join pk_str (EV.q (NE.l (ne_lc rfl (by exact sc.nd) ?lc17 ?lc16 ?lc18)))) ?k180
         case lc17 =>
          exact blkOk_by (own := [("_law_j", 10)]) (N := ["_law_flow_here", "_law_many", "_law_some", "_law_found", "_law_k", "_law_name", "_law_word", "_law_at", "_law_first", "_law_long", "_law_j", "_law_one"]) (sc := defScope s_names) (by decide +kernel)
         case lc16 =>
          exact lc_k (own := [("_law_j", 10)]) (T := tI) (U := tS) (G := fun ρ x => (List.set ρ 10 (.val tI x))) (vs := [10]) (cs' := (fun c_29 : List Int => [⟨a.1, cL tI c_29⟩])) (z0 := fun y => _) (ie_range1 bs.m_range (ek_o1 0 g_draw.F sl1 hr g_draw.m g_draw.k g_draw.b (pk_var (i := 0) rfl) (PAK.ak (pa_1 pk_int)) (fun _ => rfl))) (fun _ => rfl) (by decide) (fun _ _ _ _ _ => (gk_name (i := 10) (by exact sc.nd))) (fun _ _ _ _ _ _ _ => ts_0) (fun _ _ _ _ _ _ _ _ => (ek_ixS (PK.ek (pk_var (i := 2) rfl)) (fun _ => (ek_o1 0 g_draw.F sl1 hr g_draw.m g_draw.k g_draw.b (pk_var (i := 0) rfl) (PAK.ak (pa_1 pk_int)) (fun _ => rfl)))))
         case lc18 =>
          exact fun _ => rfl
         case k180 =>
          intro y_32 word_31
          refine' sk_name 0 rfl ?k181
          case k181 =>
           intro w_33
           refine' sk_st (ρ2 := [.val tR a.1, .val tI a.2.2, .val tS some_1, .un, .un, .un, .val tS word_31, .un, .un, .un, .un, .un]) (cs2 := [⟨a.1, cL tI w_33⟩]) rfl rfl ?k182
           case k182 =>
            refine' sk_st (ρ2 := [.val tR a.1, .val tI a.2.2, .val tS some_1, .un, .un, .un, .val tS word_31, .un, .un, .un, .un, .un]) (cs2 := [⟨a.1, cL tI w_33⟩]) rfl rfl ?k183
            case k183 =>
             refine' sk_setE (i := 7) (by exact sc.nd) (ek_o1 0 g_draw.F sl1 hr g_draw.m g_draw.k g_draw.b (pk_var (i := 0) rfl) (PAK.ak (pa_1 (pk_op op_add r2_I0 (PV.k (pv_cb call_len_str bs.m_len bs.b_len u_lenS (PK.v (pk_var (i := 6) rfl)))) pk_int))) (fun _ => rfl)) ?k184
             case k184 =>
              intro y_35 at_34
              refine' sk_name 0 rfl ?k185
              case k185 =>
               intro w_36
               refine' sk_st (ρ2 := [.val tR a.1, .val tI a.2.2, .val tS some_1, .un, .un, .un, .val tS word_31, .val tI at_34, .un, .un, .un, .un]) (cs2 := [⟨a.1, cL tI w_36⟩]) rfl rfl ?k186
               case k186 =>
                refine' sk_st (ρ2 := [.val tR a.1, .val tI a.2.2, .val tS some_1, .un, .un, .un, .val tS word_31, .val tI at_34, .un, .un, .un, .un]) (cs2 := [⟨a.1, cL tI w_36⟩]) rfl rfl ?k187
                case k187 =>
                 refine' sk_setE (i := 8) (by exact sc.nd) (ek_o1 0 g_draw.F sl1 hr g_draw.m g_draw.k g_draw.b (pk_var (i := 0) rfl) (PAK.ak (pa_1 pk_int)) (fun _ => rfl)) ?k188
                 case k188 =>
                  intro y_38 first_37
                  refine' sk_name 0 rfl ?k189
                  case k189 =>
                   intro w_39
                   refine' sk_st (ρ2 := [.val tR a.1, .val tI a.2.2, .val tS some_1, .un, .un, .un, .val tS word_31, .val tI at_34, .val tI first_37, .un, .un, .un]) (cs2 := [⟨a.1, cL tI w_39⟩]) rfl rfl ?k190
                   case k190 =>
                    refine' sk_st (ρ2 := [.val tR a.1, .val tI a.2.2, .val tS some_1, .un, .un, .un, .val tS word_31, .val tI at_34, .val tI first_37, .un, .un, .un]) (cs2 := [⟨a.1, cL tI w_39⟩]) rfl rfl ?k191
                    case k191 =>
                     refine' sk_setN (i := 3) (T := tS) (by exact sc.nd) (ne_lc rfl (by exact sc.nd) ?lc20 ?lc19 ?lc21) ?k195
                     case lc20 =>
                      exact blkOk_by (own := [("_law_k", 4)]) (N := ["_law_flow_here", "_law_many", "_law_some", "_law_found", "_law_k", "_law_name", "_law_word", "_law_at", "_law_first", "_law_long", "_law_j", "_law_one"]) (sc := defScope s_names) (by decide +kernel)
                     case lc19 =>
                      exact lc_k (own := [("_law_k", 4)]) (T := tI) (U := tS) (G := fun ρ x => (List.set ρ 4 (.val tI x))) (vs := [4]) (cs' := (fun _ : Unit => [⟨a.1, cL tI w_39⟩])) (z0 := fun y => ()) (s1 := fun _ _ _ => ()) (s2 := fun _ _ _ _ => ()) (IK.ie (ik_range1 bs.m_range (pk_var (i := 1) rfl))) (fun _ => rfl) (by decide) (fun _ _ _ _ _ => (gk_name (i := 4) (by exact sc.nd))) (fun _ _ _ _ _ _ _ => ts_0) (fun _ _ _ _ _ _ _ _ => (PK.ek (pk_op op_add_str r2_addS (pk_op op_add_str r2_addS (pk_slS (pk_var (i := 6) rfl) po_0 (po_1 (pk_var (i := 7) rfl))) (pk_ixS (pk_var (i := 2) rfl) (pk_op op_mod r2_I (pk_op op_add r2_I0 (pk_var (i := 8) rfl) (pk_op op_mul r2_I pk_int (pk_var (i := 4) rfl))) pk_int))) (pk_slS (pk_var (i := 6) rfl) (po_1 (pk_var (i := 7) rfl)) po_0))))
                     case lc21 =>
                      exact fun _ => rfl
                     case k195 =>
                      intro y_42 a_43 found_44
                      refine' sk_st (ρ2 := [.val tR a.1, .val tI a.2.2, .val tS some_1, .val tR a_43, .un, .un, .val tS word_31, .val tI at_34, .val tI first_37, .un, .un, .un]) (cs2 := [⟨a.1, cL tI w_39⟩, ⟨a_43, cL tS found_44⟩]) rfl rfl ?k196
                      case k196 =>
                       refine' sk_join (fun z_45 : (List Int × List Str) => [.val tR a.1, .val tI a.2.2, .val tS some_1, .val tR a_43, .un, .un, .val tS word_31, .val tI at_34, .val tI first_37, .un, .un, .un]) (fun z_45 : (List Int × List Str) => [⟨a.1, cL tI z_45.1⟩, ⟨a_43, cL tS z_45.2⟩]) ?h197 ?k198
                       case h197 =>
                        intro R_46
                        refine' sk_if1E (tk_cmp op_eq r2_eqI (ek_o1 0 g_draw.F sl1 hr g_draw.m g_draw.k g_draw.b (pk_var (i := 0) rfl) (PAK.ak (pa_1 pk_int)) (fun _ => rfl)) (fun _ => (PK.ek pk_int))) ?a199 ?b200
                        case a199 =>
                         intro y_47
                         refine' sk_name 0 rfl ?k201
                         case k201 =>
                          intro w_49
                          refine' sk_st (ρ2 := [.val tR a.1, .val tI a.2.2, .val tS some_1, .val tR a_43, .un, .un, .val tS word_31, .val tI at_34, .val tI first_37, .un, .un, .un]) (cs2 := [⟨a.1, cL tI w_49⟩, ⟨a_43, cL tS found_44⟩]) rfl rfl ?k202
                          case k202 =>
                           refine' sk_set (i := 9) (by exact sc.nd) (pk_op op_add_str r2_addS (pk_var (i := 6) rfl) (pk_slS pk_str (po_1 (PV.k (pv_cb call_len_str bs.m_len bs.b_len u_lenS (PK.v (pk_var (i := 6) rfl))))) po_0)) ?k203
                           case k203 =>
                            intro long_50
                            refine' sk_st (ρ2 := [.val tR a.1, .val tI a.2.2, .val tS some_1, .val tR a_43, .un, .un, .val tS word_31, .val tI at_34, .val tI first_37, .val tS long_50, .un, .un]) (cs2 := [⟨a.1, cL tI w_49⟩, ⟨a_43, cL tS found_44⟩]) rfl rfl ?k204
                            case k204 =>
                             refine' sk_seq (sk_if1 (pt_nin fS (pk_var (i := 9) rfl) (PV.q (PK.own 1 (pk_var (i := 3) rfl) rfl))) ?a205 ?b206)
                             case a205 =>
                              refine' sk_setIx 1 (PK.ek (pk_var (i := 9) rfl)) (fun _ => (pk_var (i := 3) rfl)) (fun _ => pk_int) (fun _ => rfl) ?k207
                              case k207 =>
                               intro y_51 w_52
                               refine' sk_st (ρ2 := [.val tR a.1, .val tI a.2.2, .val tS some_1, .val tR a_43, .un, .un, .val tS word_31, .val tI at_34, .val tI first_37, .val tS long_50, .un, .un]) (cs2 := [⟨a.1, cL tI w_49⟩, ⟨a_43, cL tS w_52⟩]) rfl rfl ?k208
                               case k208 =>
                                refine' sk_nilX rfl ?k209
                                case k209 =>
                                 exact sk_midX (z := (_, _)) rfl (.same (.same (.same (.same (.same (.same (.same (.same (.same (.un (.same (.same .nil)))))))))))) rfl
                             case b206 =>
                              refine' sk_nilX rfl ?k210
                              case k210 =>
                               exact sk_midX (z := (_, _)) rfl (.same (.same (.same (.same (.same (.same (.same (.same (.same (.un (.same (.same .nil)))))))))))) rfl
                        case b200 =>
                         intro y_48
                         refine' sk_name 0 rfl ?k211
                         case k211 =>
                          intro w_53
                          refine' sk_st (ρ2 := [.val tR a.1, .val tI a.2.2, .val tS some_1, .val tR a_43, .un, .un, .val tS word_31, .val tI at_34, .val tI first_37, .un, .un, .un]) (cs2 := [⟨a.1, cL tI w_53⟩, ⟨a_43, cL tS found_44⟩]) rfl rfl ?k212
                          case k212 =>
                           exact sk_midX (z := (_, _)) rfl (.same (.same (.same (.same (.same (.same (.same (.same (.same (.same (.same (.same .nil)))))))))))) rfl
                       case k198 =>
                        intro z_45
                        refine' sk_freeze 1 3 rfl rfl rfl (Nat.le_of_ble_eq_true rfl) ?k213
                        case k213 =>
                         refine' sk_st (ρ2 := [.val tR a.1, .val tI a.2.2, .val tS some_1, .val (tL tS) z_45.2, .un, .un, .val tS word_31, .val tI at_34, .val tI first_37, .un, .un, .un]) (cs2 := [⟨a.1, cL tI z_45.1⟩]) rfl rfl ?k214
                         case k214 =>
                          exact sk_retO (pk_var (i := 3) rfl) rfl
  case vc =>
   intro h
   simp only [true_and, and_true, yes1, yes2]
   obtain ⟨l, fl, n⟩ := a
   obtain ⟨⟨hf, n0, n1⟩, hφ⟩ := h
   have hf : Fl fl := hf
   have n0 : 1 ≤ n := n0
   have n1 : n ≤ 8 := n1
   try dsimp only at hφ
   try dsimp only
   intro z hz
   have hz : z = abc := hz
   rw [hz]
   have al : abc.length ≤ sizeLine := by rw [abc_len, sizeLine_eq]; decide
   -- the letters of a word
   have word : ∀ (m : Int) (fl0 : List Int), 0 ≤ m → m ≤ 100 → Fl fl0 → ∀ Φ : List Str → List Int → Prop, (∀ acc w, Fl w → (acc.length : Int) = m → (∀ s ∈ acc, s.length = 1 ∧ Low s) → Φ acc w) →
     ∃ I : Nat → List Str → List Int → Prop, I 0 [] fl0 ∧ (∀ (i : Nat) (acc : List Str) (z_3 : List Int) (x : Int), (rng 0 m)[i]? = some x → I i acc z_3 →
       (True → pre_draw z_3 26 ∧ ∀ (r : Int) (w : List Int), post_draw z_3 26 r w → abc.length ≤ sizeLine ∧ IxOk (MD.signs abc) r ∧ I (i + 1) (acc ++ [pyIx (MD.signs abc) r]) w) ∧ (true = false → I (i + 1) acc z_3)) ∧
       ∀ (acc : List Str) (z_3 : List Int), I (rng 0 m).length acc z_3 → Φ acc z_3 := fun m fl0 m0 m1 hf0 Φ k => by
     refine ⟨fun i acc w => Fl w ∧ acc.length = i ∧ ∀ s ∈ acc, s.length = 1 ∧ Low s, ⟨hf0, rfl, fun s hs => (by cases hs)⟩, fun i acc w x hx ⟨i1, i2, i3⟩ => ⟨fun _ => ⟨⟨i1, by decide, by decide⟩, fun r w2 ⟨r0, r1, hw⟩ => ⟨al, ixok_abc r0 r1, hw, by rw [List.length_append, i2]; rfl, fun s hs => ?_⟩⟩, fun e => (by cases e)⟩, fun acc w ⟨i1, i2, i3⟩ => k acc w i1 (by rw [rng_length] at i2; omega) i3⟩
     rcases List.mem_append.mp hs with h | h
     · exact i3 s h
     · rw [List.mem_singleton.mp h, pyIx_abc r0 r1]
       exact ⟨len_sgn _, low_sgn (by omega)⟩
   refine ⟨⟨hf, by decide, by decide⟩, fun r w ⟨r0, r1, f1⟩ => ⟨fun _ w1 e1 _ found ef => ?_, fun _ w1 e1 => ?_⟩⟩
   · rw [e1, ef]
     refine ⟨⟨by omega, by omega⟩, fun i z => Fl z.1 ∧ z.2.length = i ∧ z.2.Nodup ∧ ∀ s ∈ z.2, Word s, ⟨f1, rfl, List.nodup_nil, fun s hs => (by cases hs)⟩, fun i z x hx ⟨i1, i2, i3, i4⟩ => ?_, fun z ⟨i1, i2, i3, i4⟩ => ?_⟩
     · obtain ⟨_, hi⟩ := rng_get hx
       refine ⟨⟨i1, by decide, by decide⟩, fun q w2 ⟨q0, q1, f2⟩ => ⟨by omega, by omega, ?_⟩⟩
       refine word (1 + q) w2 (by omega) (by omega) f2 _ fun acc w3 f3 hl hs => ?_
       obtain ⟨j1, j2⟩ := join_nil_len hs
       have hw : Word (Str.join "" acc) := ⟨by rw [j1]; omega, by rw [j1]; omega, j2⟩
       refine ⟨by rw [sum_len hs]; show acc.length + acc.length * 0 ≤ _; omega, fun nm en w4 e4 => ?_⟩
       rw [e4]
       have hwn : Word nm := by rw [en]; exact hw
       refine ⟨fun y => Word y ∧ y ∉ z.2, ⟨fun e => ⟨al, ?_⟩, fun e => ⟨hwn, of_decide_eq_false e⟩⟩, fun y ⟨y1, y2⟩ => ⟨by rw [sizeLine_eq]; omega, fun z5 e5 w5 f5 => ?_⟩⟩
       · refine ⟨fun j acc _ => acc = ((MD.signs abc).take j).filter fun d => !decide (d ∈ z.2), rfl, fun j acc _ d hd hI => ⟨fun e => ?_, fun e => ?_⟩, fun acc _ hI => ?_⟩
         · dsimp only at hI ⊢; rw [filt_yes hd e, hI]
         · dsimp only at hI ⊢; rw [filt_no hd e, hI]
         · dsimp only at hI
           rw [List.take_length] at hI
           obtain ⟨s, s1, s2⟩ := free_letter (found := z.2) (by omega)
           have hp : 0 < acc.length := List.length_pos_of_mem (a := s) (by rw [hI]; exact List.mem_filter.mpr ⟨s1, by simpa using s2⟩)
           refine ⟨⟨by omega, by omega⟩, fun y ey => ?_⟩
           have hm : y ∈ acc := by rw [ey]; exact pyIx_mem (by omega) (by omega)
           rw [hI] at hm
           obtain ⟨m1, m2⟩ := List.mem_filter.mp hm
           refine ⟨?_, by simpa using m2⟩
           rw [signs_abc] at m1
           obtain ⟨c, hc, rfl⟩ := List.mem_map.mp m1
           exact sgn_word (List.mem_range.mp hc)
       · rw [f5, e5]
         refine ⟨f3, by rw [List.length_append, i2]; rfl, List.nodup_append.mpr ⟨i3, by simp, fun u hu v hv e => ?_⟩, fun s hs => ?_⟩
         · rw [List.mem_singleton.mp hv] at e
           exact y2 (e ▸ hu)
         · rcases List.mem_append.mp hs with h | h
           · exact i4 s h
           · rw [List.mem_singleton.mp h]; exact y1
     · rw [rng_length] at i2
       exact hφ _ _ ⟨⟨by omega, i3, i4⟩, i1⟩
   · rw [e1]
     refine ⟨⟨f1, by decide, by decide⟩, fun q w2 ⟨q0, q1, f2⟩ => ⟨by omega, by omega, ?_⟩⟩
     refine word q w2 q0 (by omega) f2 _ fun acc w3 f3 hl hs => ?_
     obtain ⟨j1, j2⟩ := join_nil_len hs
     refine ⟨by rw [sum_len hs]; show acc.length + acc.length * 0 ≤ _; omega, fun wd ewd w4 e4 => ?_⟩
     rw [e4]
     have wl : wd.length ≤ 7 := by rw [ewd, j1]; omega
     have wlow : Low wd := by rw [ewd]; exact j2
     refine ⟨by rw [sizeLine_eq]; omega, ⟨f3, by omega, by omega⟩, fun at0 w5 ⟨a0, a1, f5⟩ at1 ea w6 e6 => ?_⟩
     rw [e6]
     refine ⟨⟨f5, by decide, by decide⟩, fun ft w7 ⟨t0, t1, f7⟩ ft1 ef w8 e8 => ?_⟩
     obtain ⟨na, rfl⟩ : ∃ na : Nat, at1 = (na : Int) := ⟨at1.toNat, by omega⟩
     have hna : na ≤ wd.length := by omega
     have t0' : 0 ≤ ft1 := by omega
     have mk : ∀ k : Int, 0 ≤ k → Word (cutS wd none (some (na : Int)) ++ pyIx (MD.signs abc) ((ft1 + 7 * k) % 26) ++ cutS wd (some (na : Int)) none) ∧ IxOk (MD.signs abc) ((ft1 + 7 * k) % 26) ∧ pyIx (MD.signs abc) ((ft1 + 7 * k) % 26) = sgn (97 + ((ft1 + 7 * k) % 26).toNat) := fun k k0 => by
       have m0 := Int.emod_nonneg (ft1 + 7 * k) (show (26 : Int) ≠ 0 by decide)
       have m1 := Int.emod_lt_of_pos (ft1 + 7 * k) (show (0 : Int) < 26 by decide)
       have e := pyIx_abc m0 m1
       refine ⟨?_, ixok_abc m0 m1, e⟩
       rw [e]
       refine ⟨?_, ?_, ins_low wlow (low_sgn (by omega)) hna⟩
       · rw [ins_len hna, len_sgn]; omega
       · rw [ins_len hna, len_sgn]; omega
     have cl : (cutS wd none (some (na : Int))).length ≤ 7 ∧ (cutS wd (some (na : Int)) none).length ≤ 7 := by
       have := str_len wd
       refine ⟨?_, ?_⟩
       · rw [str_len, cutS_to wd hna, List.length_take]; omega
       · rw [str_len, cutS_from wd hna, List.length_drop]; omega
     have wsz : wd.length ≤ sizeLine := by rw [sizeLine_eq]; omega
     refine ⟨⟨by omega, by omega⟩, fun i acc _ => acc.length = i ∧ acc.Nodup ∧ (∀ s ∈ acc, Word s) ∧ ∀ s ∈ acc, ∃ k : Nat, k < i ∧ s = cutS wd none (some (na : Int)) ++ pyIx (MD.signs abc) ((ft1 + 7 * (k : Int)) % 26) ++ cutS wd (some (na : Int)) none, ⟨rfl, List.nodup_nil, fun s hs => (by cases hs), fun s hs => (by cases hs)⟩, fun i acc _ x hx ⟨i1, i2, i3, i4⟩ => ⟨fun _ => ?_, fun e => (by cases e)⟩, fun acc _ ⟨i1, i2, i3, i4⟩ _ fd ef2 => ?_⟩
     · obtain ⟨ex, hi⟩ := rng_get hx
       have ex : x = (i : Int) := by omega
       subst ex
       obtain ⟨k1, k2, k3⟩ := mk (i : Int) (by omega)
       have l1 : (pyIx (MD.signs abc) ((ft1 + 7 * (i : Int)) % 26)).length = 1 := by rw [k3]; rfl
       refine ⟨⟨⟨wsz, ⟨⟨.inl ⟨by decide, by decide⟩, by decide⟩, al, k2⟩, by rw [sizeLine_eq]; omega⟩, wsz, by rw [app_len, sizeLine_eq]; omega⟩, by rw [List.length_append, i1]; rfl, List.nodup_append.mpr ⟨i2, by simp, fun u hu v hv e => ?_⟩, fun s hs => ?_, fun s hs => ?_⟩
       · rw [List.mem_singleton.mp hv] at e
         obtain ⟨k, hk, ek⟩ := i4 u hu
         rw [ek] at e
         have e2 := ins_inj hna e
         rw [(mk k (by omega)).2.2, k3] at e2
         have e3 := sgn_inj e2
         omega
       · rcases List.mem_append.mp hs with h | h
         · exact i3 s h
         · rw [List.mem_singleton.mp h]; exact k1
       · rcases List.mem_append.mp hs with h | h
         · obtain ⟨k, hk, ek⟩ := i4 s h
           exact ⟨k, by omega, ek⟩
         · exact ⟨i, by omega, List.mem_singleton.mp h⟩
     · rw [rng_length] at i1
       rw [ef2]
       obtain ⟨z1, z2⟩ := cutS_zs wl
       have zl : (Str.ofString "zzzzzzzz").length = 8 := by decide +kernel
       refine ⟨fun y => (y.2.length : Int) = n ∧ y.2.Nodup ∧ (∀ s ∈ y.2, Word s) ∧ Fl y.1, ⟨⟨by rw [e8]; exact f7, by decide, by decide⟩, fun q w ⟨_, _, g⟩ => ⟨fun _ w1 ew => ⟨⟨⟨wsz, by rw [zl, sizeLine_eq]; decide⟩, ?_⟩, fun lg elg => ⟨fun e => ⟨⟨by decide, by omega⟩, fun y ey => ?_⟩, fun _ => ?_⟩⟩, fun _ w1 ew => ?_⟩⟩, fun y ⟨y1, y2, y3, y4⟩ => hφ _ _ ⟨⟨y1, y2, y3⟩, y4⟩⟩
       · rw [sizeLine_eq]
         have : (cutS (Str.ofString "zzzzzzzz") (some (wd.length : Int)) none).length = 8 - wd.length := z1
         omega
       · rw [ew, ey]
         have nl : lg ∉ acc := by simpa using e
         refine ⟨by rw [List.length_set]; omega, nodup_set i2 nl, fun s hs => ?_, g⟩
         rcases List.mem_or_eq_of_mem_set hs with m | m
         · exact i3 s m
         · rw [m, elg]
           have z1' : (cutS (Str.ofString "zzzzzzzz") (some (wd.length : Int)) none).length = 8 - wd.length := z1
           refine ⟨by rw [app_len, z1']; omega, by rw [app_len, z1']; omega, low_app wlow z2⟩
       · rw [ew]
         exact ⟨by show (acc.length : Int) = n; omega, i2, i3, g⟩
       · rw [ew]
         exact ⟨by show (acc.length : Int) = n; omega, i2, i3, g⟩
abbrev s_sorts : Stmt := topS 19
theorem sc_sorts : FnScope ["_law_e", "_law_found"] ["_law_e"] (defScope s_sorts) := ⟨rfl, rfl, rfl, by decide +kernel, rfl, by decide +kernel, by decide +kernel⟩
def c_sorts (K : PySem.W.Frag) (xa : XA) := Con.fn (K := K) (fun x : Rf => [.val (tRf xa) x]) (tL tB) pre_sorts f_sorts
theorem ok_sorts (bs : Bs mg) {xa : XA} {C_MeetError : Addr} (xs : Xs K mg xa C_MeetError) {f : Addr} {fd : FuncData} (F : Fun K "_law_sorts" "_law_sorts" s_sorts f fd) : FnOk P w K mg base (L2.CX P w) 3 f fd ["_law_e"] (c_sorts K xa).sp := by
  refine fn_con (c_sorts K xa) F sc_sorts (fun _ => rfl) ?_
  intro cdv Ar outer s H E F0 a φ ε hr hp
  have hu := hu_of hr
  have sc := sc_sorts
  refine' SK.vc ?hh ?vc
  case hh =>
   refine' sk_set (i := 1) (by exact sc.nd) (NK.pk (nk_lst (pl_C (pk_isVO (ea12 xs.c_NoText xs.c_Twice xs.c_BadStep xs.c_BadGood xs.c_NoLetter xs.c_NoDesk xs.c_OtherLetters xs.c_Notices xs.c_TooMany xs.c_NoName xs.c_NoKind xs.c_NoRow) (kt12 xs.o_NoText_NoText xs.o_Twice_NoText xs.o_BadStep_NoText xs.o_BadGood_NoText xs.o_NoLetter_NoText xs.o_NoDesk_NoText xs.o_OtherLetters_NoText xs.o_Notices_NoText xs.o_TooMany_NoText xs.o_NoName_NoText xs.o_NoKind_NoText xs.o_NoRow_NoText) bs.m_isinstance bs.b_isinstance (pk_var (i := 0) rfl) (pk_glob (T := tR) (v := .ref xa.NoText) xs.g_NoText rfl (fun _ => rfl))) (pl_C (pk_isVO (ea12 xs.c_NoText xs.c_Twice xs.c_BadStep xs.c_BadGood xs.c_NoLetter xs.c_NoDesk xs.c_OtherLetters xs.c_Notices xs.c_TooMany xs.c_NoName xs.c_NoKind xs.c_NoRow) (kt12 xs.o_NoText_Twice xs.o_Twice_Twice xs.o_BadStep_Twice xs.o_BadGood_Twice xs.o_NoLetter_Twice xs.o_NoDesk_Twice xs.o_OtherLetters_Twice xs.o_Notices_Twice xs.o_TooMany_Twice xs.o_NoName_Twice xs.o_NoKind_Twice xs.o_NoRow_Twice) bs.m_isinstance bs.b_isinstance (pk_var (i := 0) rfl) (pk_glob (T := tR) (v := .ref xa.Twice) xs.g_Twice rfl (fun _ => rfl))) (pl_C (pk_isVO (ea12 xs.c_NoText xs.c_Twice xs.c_BadStep xs.c_BadGood xs.c_NoLetter xs.c_NoDesk xs.c_OtherLetters xs.c_Notices xs.c_TooMany xs.c_NoName xs.c_NoKind xs.c_NoRow) (kt12 xs.o_NoText_BadStep xs.o_Twice_BadStep xs.o_BadStep_BadStep xs.o_BadGood_BadStep xs.o_NoLetter_BadStep xs.o_NoDesk_BadStep xs.o_OtherLetters_BadStep xs.o_Notices_BadStep xs.o_TooMany_BadStep xs.o_NoName_BadStep xs.o_NoKind_BadStep xs.o_NoRow_BadStep) bs.m_isinstance bs.b_isinstance (pk_var (i := 0) rfl) (pk_glob (T := tR) (v := .ref xa.BadStep) xs.g_BadStep rfl (fun _ => rfl))) (pl_C (pk_isVO (ea12 xs.c_NoText xs.c_Twice xs.c_BadStep xs.c_BadGood xs.c_NoLetter xs.c_NoDesk xs.c_OtherLetters xs.c_Notices xs.c_TooMany xs.c_NoName xs.c_NoKind xs.c_NoRow) (kt12 xs.o_NoText_BadGood xs.o_Twice_BadGood xs.o_BadStep_BadGood xs.o_BadGood_BadGood xs.o_NoLetter_BadGood xs.o_NoDesk_BadGood xs.o_OtherLetters_BadGood xs.o_Notices_BadGood xs.o_TooMany_BadGood xs.o_NoName_BadGood xs.o_NoKind_BadGood xs.o_NoRow_BadGood) bs.m_isinstance bs.b_isinstance (pk_var (i := 0) rfl) (pk_glob (T := tR) (v := .ref xa.BadGood) xs.g_BadGood rfl (fun _ => rfl))) pl_0)))) (Nat.le_of_ble_eq_true rfl))) ?k221
   case k221 =>
    intro found_1
    refine' sk_st (ρ2 := [.val (tRf xa) a, .val (tL tB) found_1]) (cs2 := []) rfl rfl ?k222
    case k222 =>
     refine' sk_set (i := 1) (by exact sc.nd) (NK.pk (nk_cat (PK.l (pk_var (i := 1) rfl)) (NK.l (nk_lst (pl_C (pk_isVO (ea12 xs.c_NoText xs.c_Twice xs.c_BadStep xs.c_BadGood xs.c_NoLetter xs.c_NoDesk xs.c_OtherLetters xs.c_Notices xs.c_TooMany xs.c_NoName xs.c_NoKind xs.c_NoRow) (kt12 xs.o_NoText_NoLetter xs.o_Twice_NoLetter xs.o_BadStep_NoLetter xs.o_BadGood_NoLetter xs.o_NoLetter_NoLetter xs.o_NoDesk_NoLetter xs.o_OtherLetters_NoLetter xs.o_Notices_NoLetter xs.o_TooMany_NoLetter xs.o_NoName_NoLetter xs.o_NoKind_NoLetter xs.o_NoRow_NoLetter) bs.m_isinstance bs.b_isinstance (pk_var (i := 0) rfl) (pk_glob (T := tR) (v := .ref xa.NoLetter) xs.g_NoLetter rfl (fun _ => rfl))) (pl_C (pk_isVO (ea12 xs.c_NoText xs.c_Twice xs.c_BadStep xs.c_BadGood xs.c_NoLetter xs.c_NoDesk xs.c_OtherLetters xs.c_Notices xs.c_TooMany xs.c_NoName xs.c_NoKind xs.c_NoRow) (kt12 xs.o_NoText_NoDesk xs.o_Twice_NoDesk xs.o_BadStep_NoDesk xs.o_BadGood_NoDesk xs.o_NoLetter_NoDesk xs.o_NoDesk_NoDesk xs.o_OtherLetters_NoDesk xs.o_Notices_NoDesk xs.o_TooMany_NoDesk xs.o_NoName_NoDesk xs.o_NoKind_NoDesk xs.o_NoRow_NoDesk) bs.m_isinstance bs.b_isinstance (pk_var (i := 0) rfl) (pk_glob (T := tR) (v := .ref xa.NoDesk) xs.g_NoDesk rfl (fun _ => rfl))) (pl_C (pk_isVO (ea12 xs.c_NoText xs.c_Twice xs.c_BadStep xs.c_BadGood xs.c_NoLetter xs.c_NoDesk xs.c_OtherLetters xs.c_Notices xs.c_TooMany xs.c_NoName xs.c_NoKind xs.c_NoRow) (kt12 xs.o_NoText_OtherLetters xs.o_Twice_OtherLetters xs.o_BadStep_OtherLetters xs.o_BadGood_OtherLetters xs.o_NoLetter_OtherLetters xs.o_NoDesk_OtherLetters xs.o_OtherLetters_OtherLetters xs.o_Notices_OtherLetters xs.o_TooMany_OtherLetters xs.o_NoName_OtherLetters xs.o_NoKind_OtherLetters xs.o_NoRow_OtherLetters) bs.m_isinstance bs.b_isinstance (pk_var (i := 0) rfl) (pk_glob (T := tR) (v := .ref xa.OtherLetters) xs.g_OtherLetters rfl (fun _ => rfl))) pl_0))) (Nat.le_of_ble_eq_true rfl))))) ?k223
     case k223 =>
      intro found_2
      refine' sk_st (ρ2 := [.val (tRf xa) a, .val (tL tB) found_2]) (cs2 := []) rfl rfl ?k224
      case k224 =>
       refine' sk_set (i := 1) (by exact sc.nd) (NK.pk (nk_cat (PK.l (pk_var (i := 1) rfl)) (NK.l (nk_lst (pl_C (pk_isVO (ea12 xs.c_NoText xs.c_Twice xs.c_BadStep xs.c_BadGood xs.c_NoLetter xs.c_NoDesk xs.c_OtherLetters xs.c_Notices xs.c_TooMany xs.c_NoName xs.c_NoKind xs.c_NoRow) (kt12 xs.o_NoText_Notices xs.o_Twice_Notices xs.o_BadStep_Notices xs.o_BadGood_Notices xs.o_NoLetter_Notices xs.o_NoDesk_Notices xs.o_OtherLetters_Notices xs.o_Notices_Notices xs.o_TooMany_Notices xs.o_NoName_Notices xs.o_NoKind_Notices xs.o_NoRow_Notices) bs.m_isinstance bs.b_isinstance (pk_var (i := 0) rfl) (pk_glob (T := tR) (v := .ref xa.Notices) xs.g_Notices rfl (fun _ => rfl))) (pl_C (pk_isVO (ea12 xs.c_NoText xs.c_Twice xs.c_BadStep xs.c_BadGood xs.c_NoLetter xs.c_NoDesk xs.c_OtherLetters xs.c_Notices xs.c_TooMany xs.c_NoName xs.c_NoKind xs.c_NoRow) (kt12 xs.o_NoText_TooMany xs.o_Twice_TooMany xs.o_BadStep_TooMany xs.o_BadGood_TooMany xs.o_NoLetter_TooMany xs.o_NoDesk_TooMany xs.o_OtherLetters_TooMany xs.o_Notices_TooMany xs.o_TooMany_TooMany xs.o_NoName_TooMany xs.o_NoKind_TooMany xs.o_NoRow_TooMany) bs.m_isinstance bs.b_isinstance (pk_var (i := 0) rfl) (pk_glob (T := tR) (v := .ref xa.TooMany) xs.g_TooMany rfl (fun _ => rfl))) (pl_C (pk_isVO (ea12 xs.c_NoText xs.c_Twice xs.c_BadStep xs.c_BadGood xs.c_NoLetter xs.c_NoDesk xs.c_OtherLetters xs.c_Notices xs.c_TooMany xs.c_NoName xs.c_NoKind xs.c_NoRow) (kt12 xs.o_NoText_NoName xs.o_Twice_NoName xs.o_BadStep_NoName xs.o_BadGood_NoName xs.o_NoLetter_NoName xs.o_NoDesk_NoName xs.o_OtherLetters_NoName xs.o_Notices_NoName xs.o_TooMany_NoName xs.o_NoName_NoName xs.o_NoKind_NoName xs.o_NoRow_NoName) bs.m_isinstance bs.b_isinstance (pk_var (i := 0) rfl) (pk_glob (T := tR) (v := .ref xa.NoName) xs.g_NoName rfl (fun _ => rfl))) pl_0))) (Nat.le_of_ble_eq_true rfl))))) ?k225
       case k225 =>
        intro found_3
        refine' sk_st (ρ2 := [.val (tRf xa) a, .val (tL tB) found_3]) (cs2 := []) rfl rfl ?k226
        case k226 =>
         exact sk_retF (NK.pk (nk_cat (PK.l (pk_var (i := 1) rfl)) (NK.l (nk_lst (pl_C (pk_isVO (ea12 xs.c_NoText xs.c_Twice xs.c_BadStep xs.c_BadGood xs.c_NoLetter xs.c_NoDesk xs.c_OtherLetters xs.c_Notices xs.c_TooMany xs.c_NoName xs.c_NoKind xs.c_NoRow) (kt12 xs.o_NoText_NoKind xs.o_Twice_NoKind xs.o_BadStep_NoKind xs.o_BadGood_NoKind xs.o_NoLetter_NoKind xs.o_NoDesk_NoKind xs.o_OtherLetters_NoKind xs.o_Notices_NoKind xs.o_TooMany_NoKind xs.o_NoName_NoKind xs.o_NoKind_NoKind xs.o_NoRow_NoKind) bs.m_isinstance bs.b_isinstance (pk_var (i := 0) rfl) (pk_glob (T := tR) (v := .ref xa.NoKind) xs.g_NoKind rfl (fun _ => rfl))) (pl_C (pk_isVO (ea12 xs.c_NoText xs.c_Twice xs.c_BadStep xs.c_BadGood xs.c_NoLetter xs.c_NoDesk xs.c_OtherLetters xs.c_Notices xs.c_TooMany xs.c_NoName xs.c_NoKind xs.c_NoRow) (kt12 xs.o_NoText_NoRow xs.o_Twice_NoRow xs.o_BadStep_NoRow xs.o_BadGood_NoRow xs.o_NoLetter_NoRow xs.o_NoDesk_NoRow xs.o_OtherLetters_NoRow xs.o_Notices_NoRow xs.o_TooMany_NoRow xs.o_NoName_NoRow xs.o_NoKind_NoRow xs.o_NoRow_NoRow) bs.m_isinstance bs.b_isinstance (pk_var (i := 0) rfl) (pk_glob (T := tR) (v := .ref xa.NoRow) xs.g_NoRow rfl (fun _ => rfl))) pl_0)) (Nat.le_of_ble_eq_true rfl)))))
  case vc =>
   intro h
   simp only [true_and, and_true, yes1, yes2]
   obtain ⟨_, hφ⟩ := h
   intro z hz
   refine ⟨by rw [hz, sizeLine_eq]; exact Nat.le_of_ble_eq_true rfl, fun z1 h1 => ⟨by rw [h1, hz, sizeLine_eq]; exact Nat.le_of_ble_eq_true rfl, fun z2 h2 => ⟨by rw [h2, h1, hz, sizeLine_eq]; exact Nat.le_of_ble_eq_true rfl, hφ _ ?_⟩⟩⟩
   rw [h2, h1, hz]
   rfl
abbrev s_alikeI : Stmt := topS 20
theorem sc_alikeI : FnScope ["_law_found", "_law_due", "_law_one", "_law_other"] ["_law_found", "_law_due"] (defScope s_alikeI) := ⟨rfl, rfl, rfl, by decide +kernel, rfl, by decide +kernel, by decide +kernel⟩
def c_alikeI (K : PySem.W.Frag) := Con.fn (K := K) (fun x : (Int × Int) => [.val tI x.1, .val tI x.2]) tB pre_alikeI f_alikeI
theorem ok_alikeI (bs : Bs mg) {f : Addr} {fd : FuncData} (F : Fun K "_law_alike" "_law_alike" s_alikeI f fd) : FnOk P w K mg base (L2.CX P w) 1 f fd ["_law_found", "_law_due"] (c_alikeI K).sp := by
  refine fn_con (c_alikeI K) F sc_alikeI (fun _ => rfl) ?_
  intro cdv Ar outer s H E F0 a φ ε hr hp
  have hu := hu_of hr
  have sc := sc_alikeI
  refine' SK.vc ?hh ?vc
  case hh =>
   refine' sk_seq (sk_if1 (pt_val' (pk_isi (r := false) ty_I (PK.v (pk_var (i := 1) rfl)) bs.m_isinstance bs.b_isinstance bs.m_list bs.b_list (by decide +kernel))) ?a233 ?b234)
   case a233 =>
    exact sk_never
   case b234 =>
    refine' sk_nilX rfl ?k235
    case k235 =>
     refine' sk_seq (sk_if1 (pt_val' (pk_isi (r := true) ty_I (PK.v (pk_var (i := 1) rfl)) bs.m_isinstance bs.b_isinstance bs.m_int bs.b_int (by decide +kernel))) ?a236 ?b237)
     case a236 =>
      exact sk_retF (pk_and (pk_isi (r := true) ty_I (PK.v (pk_var (i := 0) rfl)) bs.m_isinstance bs.b_isinstance bs.m_int bs.b_int (by decide +kernel)) (pk_and (pk_notB (pk_isi (r := false) ty_I (PK.v (pk_var (i := 0) rfl)) bs.m_isinstance bs.b_isinstance bs.m_bool bs.b_bool (by decide +kernel))) (pk_one (pk_cmp op_eq r2_eqI (pk_var (i := 0) rfl) (pk_var (i := 1) rfl)))))
     case b237 =>
      refine' sk_nilX rfl ?k238
      case k238 =>
       exact sk_retF (pk_and (pk_isi (r := false) ty_I (PK.v (pk_var (i := 0) rfl)) bs.m_isinstance bs.b_isinstance bs.m_str bs.b_str (by decide +kernel)) (pk_one (pk_cmp op_eq r2_eqI (pk_var (i := 0) rfl) (pk_var (i := 1) rfl))))
  case vc =>
   intro h
   simp only [true_and, and_true, yes1, yes2]
   obtain ⟨he, hφ⟩ := h
   have he : a.1 = a.2 := he
   have hφ : φ true := hφ _ rfl
   simp [he, hφ]
abbrev s_alikeS : Stmt := topS 20
theorem sc_alikeS : FnScope ["_law_found", "_law_due", "_law_one", "_law_other"] ["_law_found", "_law_due"] (defScope s_alikeS) := ⟨rfl, rfl, rfl, by decide +kernel, rfl, by decide +kernel, by decide +kernel⟩
def c_alikeS (K : PySem.W.Frag) := Con.fn (K := K) (fun x : (Str × Str) => [.val tS x.1, .val tS x.2]) tB pre_alikeS f_alikeS
theorem ok_alikeS (bs : Bs mg) {f : Addr} {fd : FuncData} (F : Fun K "_law_alike" "_law_alike" s_alikeS f fd) : FnOk P w K mg base (L2.CX P w) 1 f fd ["_law_found", "_law_due"] (c_alikeS K).sp := by
  refine fn_con (c_alikeS K) F sc_alikeS (fun _ => rfl) ?_
  intro cdv Ar outer s H E F0 a φ ε hr hp
  have hu := hu_of hr
  have sc := sc_alikeS
  refine' SK.vc ?hh ?vc
  case hh =>
   refine' sk_seq (sk_if1 (pt_val' (pk_isi (r := false) ty_S (PK.v (pk_var (i := 1) rfl)) bs.m_isinstance bs.b_isinstance bs.m_list bs.b_list (by decide +kernel))) ?a248 ?b249)
   case a248 =>
    refine' sk_seq (sk_if1 (PWK.pt (pw_or' (pt_not' (pt_val' (pk_isi (r := false) ty_S (PK.v (pk_var (i := 0) rfl)) bs.m_isinstance bs.b_isinstance bs.m_list bs.b_list (by decide +kernel)))) (pw_or1' (pt_cmp' op_ne r2_neI (PV.k (pv_cb call_len_str bs.m_len bs.b_len u_lenS (PK.v (pk_var (i := 0) rfl)))) (PV.k (pv_cb call_len_str bs.m_len bs.b_len u_lenS (PK.v (pk_var (i := 1) rfl)))))))) ?a250 ?b251)
    case a250 =>
     exact sk_retF pk_bl
    case b251 =>
     refine' sk_nilX rfl ?k252
     case k252 =>
      exact sk_never
   case b249 =>
    refine' sk_nilX rfl ?k253
    case k253 =>
     refine' sk_seq (sk_if1 (pt_val' (pk_isi (r := false) ty_S (PK.v (pk_var (i := 1) rfl)) bs.m_isinstance bs.b_isinstance bs.m_int bs.b_int (by decide +kernel))) ?a254 ?b255)
     case a254 =>
      exact sk_retF (pk_and (pk_isi (r := false) ty_S (PK.v (pk_var (i := 0) rfl)) bs.m_isinstance bs.b_isinstance bs.m_int bs.b_int (by decide +kernel)) (pk_and (pk_notB (pk_isi (r := false) ty_S (PK.v (pk_var (i := 0) rfl)) bs.m_isinstance bs.b_isinstance bs.m_bool bs.b_bool (by decide +kernel))) (pk_one (pk_cmp op_eq r2_eqS (pk_var (i := 0) rfl) (pk_var (i := 1) rfl)))))
     case b255 =>
      refine' sk_nilX rfl ?k256
      case k256 =>
       exact sk_retF (pk_and (pk_isi (r := true) ty_S (PK.v (pk_var (i := 0) rfl)) bs.m_isinstance bs.b_isinstance bs.m_str bs.b_str (by decide +kernel)) (pk_one (pk_cmp op_eq r2_eqS (pk_var (i := 0) rfl) (pk_var (i := 1) rfl))))
  case vc =>
   intro h
   simp only [true_and, and_true, yes1, yes2]
   obtain ⟨he, hφ⟩ := h
   have he : a.1 = a.2 := he
   have hφ : φ true := hφ _ rfl
   simp [he, hφ]
abbrev s_alikeLS : Stmt := topS 20
theorem sc_alikeLS : FnScope ["_law_found", "_law_due", "_law_one", "_law_other"] ["_law_found", "_law_due"] (defScope s_alikeLS) := ⟨rfl, rfl, rfl, by decide +kernel, rfl, by decide +kernel, by decide +kernel⟩
def c_alikeLS (K : PySem.W.Frag) := Con.fn (K := K) (fun x : ((List Str) × (List Str)) => [.val (tL tS) x.1, .val (tL tS) x.2]) tB pre_alikeLS f_alikeLS
theorem ok_alikeLS (bs : Bs mg) {f_alikeS : Addr} {fd_alikeS : FuncData} (g_alikeS : Cal P w K mg base "_law_alike" 1 ["_law_found", "_law_due"] (c_alikeS K).sp f_alikeS fd_alikeS) {f : Addr} {fd : FuncData} (F : Fun K "_law_alike" "_law_alike" s_alikeLS f fd) : FnOk P w K mg base (L2.CX P w) 2 f fd ["_law_found", "_law_due"] (c_alikeLS K).sp := by
  refine fn_con (c_alikeLS K) F sc_alikeLS (fun _ => rfl) ?_
  intro cdv Ar outer s H E F0 a φ ε hr hp
  have hu := hu_of hr
  have sc := sc_alikeLS
  refine' SK.vc ?hh ?vc
  case hh =>
   refine' sk_seq (sk_if1 (pt_val' (pk_isi (r := true) ty_Lf (PK.v (pk_var (i := 1) rfl)) bs.m_isinstance bs.b_isinstance bs.m_list bs.b_list (by decide +kernel))) ?a270 ?b271)
   case a270 =>
    refine' sk_seq (sk_if1 (PWK.pt (pw_or' (pt_not' (pt_val' (pk_isi (r := true) ty_Lf (PK.v (pk_var (i := 0) rfl)) bs.m_isinstance bs.b_isinstance bs.m_list bs.b_list (by decide +kernel)))) (pw_or1' (pt_cmp' op_ne r2_neI (PV.k (pv_cb cr_lenQ bs.m_len bs.b_len u_len (PV.q (PK.l (pk_var (i := 0) rfl))))) (PV.k (pv_cb cr_lenQ bs.m_len bs.b_len u_len (PV.q (PK.l (pk_var (i := 1) rfl))))))))) ?a272 ?b273)
    case a272 =>
     exact sk_retF pk_bl
    case b273 =>
     refine' sk_nilX rfl ?k274
     case k274 =>
      refine' sk_retFE (EV.k (ev_cb (cr_all rfl) bs.m_all bs.b_all (fun _ => u_all) (EV.lk (NE.l (ne_lc rfl (by exact sc.nd) ?lc23 ?lc22 ?lc24))))) ?lc25
      case lc23 =>
       exact blkOk_by (own := [("_law_one", 2), ("_law_other", 3)]) (N := ["_law_found", "_law_due", "_law_one", "_law_other"]) (sc := defScope s_alikeLS) (by decide +kernel)
      case lc22 =>
       exact lc_k (own := [("_law_one", 2), ("_law_other", 3)]) (T := (tT (tsC tS (ts1 tS)))) (U := tB) (G := fun ρ x => (List.set (List.set ρ 2 (.val tS x.1)) 3 (.val tS x.2))) (vs := [2, 3]) (cs' := (fun _ : Unit => [])) (z0 := fun y => ()) (s1 := fun _ _ _ => ()) (s2 := fun _ _ _ _ => ()) (IK.ie (ik_zipL bs.m_zip (pk_var (i := 0) rfl) (pk_var (i := 1) rfl))) (fun _ => rfl) (by decide) (fun _ _ _ _ _ => (gk_tup rfl (gs_C (gk_name (i := 2) (by exact sc.nd)) (gs_1 (gk_name (i := 3) (by exact sc.nd)))) (tlC tl1))) (fun _ _ _ _ _ _ _ => ts_0) (fun _ _ _ _ _ _ _ _ => (PK.ek (pk_fn g_alikeS.F (slC sl1) (hr.mono (by decide)) g_alikeS.m g_alikeS.k g_alikeS.b (pa_C (pk_var (i := 2) rfl) (pa_1 (pk_var (i := 3) rfl))))))
      case lc24 =>
       exact fun _ => rfl
      case lc25 =>
       exact fun _ => rfl
   case b271 =>
    refine' sk_nilX rfl ?k279
    case k279 =>
     refine' sk_seq (sk_if1 (pt_val' (pk_isi (r := false) ty_Lf (PK.v (pk_var (i := 1) rfl)) bs.m_isinstance bs.b_isinstance bs.m_int bs.b_int (by decide +kernel))) ?a280 ?b281)
     case a280 =>
      exact sk_retF (pk_and (pk_isi (r := false) ty_Lf (PK.v (pk_var (i := 0) rfl)) bs.m_isinstance bs.b_isinstance bs.m_int bs.b_int (by decide +kernel)) (pk_and (pk_notB (pk_isi (r := false) ty_Lf (PK.v (pk_var (i := 0) rfl)) bs.m_isinstance bs.b_isinstance bs.m_bool bs.b_bool (by decide +kernel))) (pk_one (pk_eqV hr.units (dv_sv (dL (@dS K))) (dv_sv (dL (@dS K))) sv_stays (eqv_dec (dL (@dS K)) _ _) (PK.v (pk_var (i := 0) rfl)) (PK.v (pk_var (i := 1) rfl))))))
     case b281 =>
      refine' sk_nilX rfl ?k282
      case k282 =>
       exact sk_retF (pk_and (pk_isi (r := false) ty_Lf (PK.v (pk_var (i := 0) rfl)) bs.m_isinstance bs.b_isinstance bs.m_str bs.b_str (by decide +kernel)) (pk_one (pk_eqV hr.units (dv_sv (dL (@dS K))) (dv_sv (dL (@dS K))) sv_stays (eqv_dec (dL (@dS K)) _ _) (PK.v (pk_var (i := 0) rfl)) (PK.v (pk_var (i := 1) rfl)))))
  case vc =>
   intro h
   simp only [true_and, and_true, yes1, yes2]
   obtain ⟨⟨he, hl⟩, hφ⟩ := h
   have he : a.1 = a.2 := he
   have hφ : φ true := hφ _ rfl
   refine ⟨fun _ => ⟨fun _ => trivial, fun e => ?_, fun _ => ?_⟩, fun e => (by cases e)⟩
   · exfalso
     rw [he] at e
     simp at e
   · refine ⟨fun i acc _ => ∀ b ∈ acc, b = true, fun b hb => (by cases hb), fun i acc z x hx hI => ⟨fun _ => ⟨?_, ?_⟩, fun e => (by cases e)⟩, fun acc _ hI => ?_⟩
     · rw [he] at hx
       exact (zip_same hx).1
     · intro b hb
       rcases List.mem_append.mp hb with h | h
       · exact hI b h
       · rw [List.mem_singleton.mp h]; rfl
     · have hall : acc.all id = true := List.all_eq_true.mpr fun b hb => hI b hb
       rw [hall]
       exact hφ
abbrev s_alikeV : Stmt := topS 20
def c_alikeW (K : PySem.W.Frag) := Con.fn (K := K) (fun x : (Str ⊕ List Str) × (Str ⊕ List Str) => [.val (tSm tS (tL tS)) x.1, .val (tSm tS (tL tS)) x.2]) tB (sumP pre_alikeS pre_alikeLS) (sumF f_alikeS f_alikeLS)
def c_alikeV (K : PySem.W.Frag) := Con.fn (K := K) (fun x : (Int ⊕ Str ⊕ List Str) × (Int ⊕ Str ⊕ List Str) => [.val (tSm tI (tSm tS (tL tS))) x.1, .val (tSm tI (tSm tS (tL tS))) x.2]) tB pre_alikeV f_alikeV
theorem ok_alikeV (bs : Bs mg) {f : Addr} {fd : FuncData} (g1 : Cal P w K mg base "_law_alike" 1 ["_law_found", "_law_due"] (c_alikeI K).sp f fd) (g2 : Cal P w K mg base "_law_alike" 1 ["_law_found", "_law_due"] (c_alikeS K).sp f fd) (g3 : Cal P w K mg base "_law_alike" 2 ["_law_found", "_law_due"] (c_alikeLS K).sp f fd)
    (F : Fun K "_law_alike" "_law_alike" s_alikeV f fd) : FnOk P w K mg base (L2.CX P w) 2 f fd ["_law_found", "_law_due"] (c_alikeV K).sp :=
  FnOk.or (sp2 := (c_alikeW K).sp) (g1.F.mono (by decide)) (FnOk.or (g2.F.mono (by decide)) g3.F fun vs H Q E h => sum_sp h) fun vs H Q E h => sum_sp h
abbrev s_alikeL : Stmt := topS 20
theorem sc_alikeL : FnScope ["_law_found", "_law_due", "_law_one", "_law_other"] ["_law_found", "_law_due"] (defScope s_alikeL) := ⟨rfl, rfl, rfl, by decide +kernel, rfl, by decide +kernel, by decide +kernel⟩
def c_alikeL (K : PySem.W.Frag) := Con.fn (K := K) (fun x : ((List (Int ⊕ (Str ⊕ (List Str)))) × (List (Int ⊕ (Str ⊕ (List Str))))) => [.val (tL (tSm tI (tSm tS (tL tS)))) x.1, .val (tL (tSm tI (tSm tS (tL tS)))) x.2]) tB pre_alikeL f_alikeL
theorem ok_alikeL (bs : Bs mg) {f_alikeV : Addr} {fd_alikeV : FuncData} (g_alikeV : Cal P w K mg base "_law_alike" 2 ["_law_found", "_law_due"] (c_alikeV K).sp f_alikeV fd_alikeV) {f : Addr} {fd : FuncData} (F : Fun K "_law_alike" "_law_alike" s_alikeL f fd) : FnOk P w K mg base (L2.CX P w) 3 f fd ["_law_found", "_law_due"] (c_alikeL K).sp := by
  refine fn_con (c_alikeL K) F sc_alikeL (fun _ => rfl) ?_
  intro cdv Ar outer s H E F0 a φ ε hr hp
  have hu := hu_of hr
  have sc := sc_alikeL
  refine' SK.vc ?hh ?vc
  case hh =>
   refine' sk_seq (sk_if1 (pt_val' (pk_isi (r := true) ty_Lf (PK.v (pk_var (i := 1) rfl)) bs.m_isinstance bs.b_isinstance bs.m_list bs.b_list (by decide +kernel))) ?a296 ?b297)
   case a296 =>
    refine' sk_seq (sk_if1 (PWK.pt (pw_or' (pt_not' (pt_val' (pk_isi (r := true) ty_Lf (PK.v (pk_var (i := 0) rfl)) bs.m_isinstance bs.b_isinstance bs.m_list bs.b_list (by decide +kernel)))) (pw_or1' (pt_cmp' op_ne r2_neI (PV.k (pv_cb cr_lenQ bs.m_len bs.b_len u_len (PV.q (PK.l (pk_var (i := 0) rfl))))) (PV.k (pv_cb cr_lenQ bs.m_len bs.b_len u_len (PV.q (PK.l (pk_var (i := 1) rfl))))))))) ?a298 ?b299)
    case a298 =>
     exact sk_retF pk_bl
    case b299 =>
     refine' sk_nilX rfl ?k300
     case k300 =>
      refine' sk_retFE (EV.k (ev_cb (cr_all rfl) bs.m_all bs.b_all (fun _ => u_all) (EV.lk (NE.l (ne_lc rfl (by exact sc.nd) ?lc27 ?lc26 ?lc28))))) ?lc29
      case lc27 =>
       exact blkOk_by (own := [("_law_one", 2), ("_law_other", 3)]) (N := ["_law_found", "_law_due", "_law_one", "_law_other"]) (sc := defScope s_alikeL) (by decide +kernel)
      case lc26 =>
       exact lc_k (own := [("_law_one", 2), ("_law_other", 3)]) (T := (tT (tsC (tSm tI (tSm tS (tL tS))) (ts1 (tSm tI (tSm tS (tL tS))))))) (U := tB) (G := fun ρ x => (List.set (List.set ρ 2 (.val (tSm tI (tSm tS (tL tS))) x.1)) 3 (.val (tSm tI (tSm tS (tL tS))) x.2))) (vs := [2, 3]) (cs' := (fun _ : Unit => [])) (z0 := fun y => ()) (s1 := fun _ _ _ => ()) (s2 := fun _ _ _ _ => ()) (IK.ie (ik_zipL bs.m_zip (pk_var (i := 0) rfl) (pk_var (i := 1) rfl))) (fun _ => rfl) (by decide) (fun _ _ _ _ _ => (gk_tup rfl (gs_C (gk_name (i := 2) (by exact sc.nd)) (gs_1 (gk_name (i := 3) (by exact sc.nd)))) (tlC tl1))) (fun _ _ _ _ _ _ _ => ts_0) (fun _ _ _ _ _ _ _ _ => (PK.ek (pk_fn g_alikeV.F (slC sl1) (hr.mono (by decide)) g_alikeV.m g_alikeV.k g_alikeV.b (pa_C (pk_var (i := 2) rfl) (pa_1 (pk_var (i := 3) rfl))))))
      case lc28 =>
       exact fun _ => rfl
      case lc29 =>
       exact fun _ => rfl
   case b297 =>
    refine' sk_nilX rfl ?k305
    case k305 =>
     refine' sk_seq (sk_if1 (pt_val' (pk_isi (r := false) ty_Lf (PK.v (pk_var (i := 1) rfl)) bs.m_isinstance bs.b_isinstance bs.m_int bs.b_int (by decide +kernel))) ?a306 ?b307)
     case a306 =>
      exact sk_never
     case b307 =>
      refine' sk_nilX rfl ?k308
      case k308 =>
       exact sk_never
  case vc =>
   intro h
   simp only [true_and, and_true, yes1, yes2]
   obtain ⟨⟨he, hl, hv⟩, hφ⟩ := h
   have he : a.1 = a.2 := he
   have hφ : φ true := hφ _ rfl
   refine ⟨fun _ => ⟨fun _ => trivial, fun e => ?_, fun _ => ?_⟩, fun e => (by cases e)⟩
   · exfalso
     rw [he] at e
     simp at e
   · refine ⟨fun i acc _ => ∀ b ∈ acc, b = true, fun b hb => (by cases hb), fun i acc z x hx hI => ?_, fun acc _ hI => ?_⟩
     · rw [← he] at hx
       obtain ⟨e1, e2⟩ := zip_same hx
       obtain ⟨x1, x2⟩ := x
       have e1 : x1 = x2 := e1
       subst e1
       refine ⟨fun _ => ⟨okV_pre (hv _ e2), fun b hb => ?_⟩, fun e => (by cases e)⟩
       rcases List.mem_append.mp hb with h | h
       · exact hI b h
       · rw [List.mem_singleton.mp h]; exact okV_f
     · have hall : acc.all id = true := List.all_eq_true.mpr fun b hb => hI b hb
       rw [hall]
       exact hφ
abbrev s_number : Stmt := topS 21
theorem sc_number : FnScope ["_law_flow_here"] ["_law_flow_here"] (defScope s_number) := ⟨rfl, rfl, rfl, by decide +kernel, rfl, by decide +kernel, by decide +kernel⟩
def c_number (K : PySem.W.Frag) := Con.o1 (K := K) tI (fun x : Unit => []) tI pre_number post_number
theorem ok_number (bs : Bs mg) {f_draw : Addr} {fd_draw : FuncData} (g_draw : Cal P w K mg base "_law_draw" 1 ["_law_flow_here", "_law_many"] (c_draw K).sp f_draw fd_draw) {f : Addr} {fd : FuncData} (F : Fun K "_law_number" "_law_number" s_number f fd) : FnOk P w K mg base (L2.CX P w) 2 f fd ["_law_flow_here"] (c_number K).sp := by
  refine fn_con (c_number K) F sc_number (fun _ => rfl) ?_
  intro cdv Ar outer s H E F0 a φ ε hr hp
  have hu := hu_of hr
  have sc := sc_number
  refine' SK.vc ?hh ?vc
  case hh =>
   exact sk_retOE (ek_ixL (NE.ek (ek_lst (al_C (ek_o1 0 g_draw.F sl1 hr g_draw.m g_draw.k g_draw.b (pk_var (i := 0) rfl) (PAK.ak (pa_1 pk_int)) (fun _ => rfl)) (fun _ => (al_C (ek_op op_sub r2_I0 (PK.ek pk_int) (fun _ => (ek_o1 0 g_draw.F sl1 hr g_draw.m g_draw.k g_draw.b (pk_var (i := 0) rfl) (PAK.ak (pa_1 pk_int)) (fun _ => rfl)))) (fun _ => (al_C (ek_o1 0 g_draw.F sl1 hr g_draw.m g_draw.k g_draw.b (pk_var (i := 0) rfl) (PAK.ak (pa_1 (pk_op op_pow r2_I pk_int pk_int))) (fun _ => rfl)) (fun _ => al_0)))))) (fun _ => by simp))) (fun _ => (ek_o1 0 g_draw.F sl1 hr g_draw.m g_draw.k g_draw.b (pk_var (i := 0) rfl) (PAK.ak (pa_1 pk_int)) (fun _ => rfl)))) (fun _ => rfl)
  case vc =>
   intro h
   simp only [true_and, and_true, yes1, yes2]
   obtain ⟨l, fl, u⟩ := a
   obtain ⟨hf, hφ⟩ := h
   have hf : Fl fl := hf
   refine ⟨⟨hf, by decide, by decide⟩, fun r w ⟨r0, r1, f1⟩ => ⟨⟨f1, by decide, by decide⟩, fun r2 w2 ⟨_, _, f2⟩ => ⟨⟨by decide, by decide, by decide⟩, ⟨f2, by decide, by decide⟩, fun r3 w3 ⟨_, _, f3⟩ => ⟨⟨f3, by decide, by decide⟩, fun q w4 ⟨q0, q1, f4⟩ => ⟨⟨?_, ?_⟩, hφ _ _ f4⟩⟩⟩⟩⟩
   · show -(3 : Int) ≤ q
     omega
   · show q < (3 : Int)
     omega
abbrev s_right : Stmt := topS 22
theorem sc_right : FnScope ["_law_flow_here", "_law_a", "_law_b", "_law_c", "_law_d", "_law_f", "_law_g", "_law_u", "_law_v", "_law_w", "_law_x", "_law_y", "_law_z", "_law_one", "_law_other", "_law_some", "_law_k", "_law_e", "_law_more", "_law_less", "_law_found", "_law_due", "_law_j"] ["_law_flow_here"] (defScope s_right) := ⟨rfl, rfl, rfl, by decide +kernel, rfl, by decide +kernel, by decide +kernel⟩
def c_right (K : PySem.W.Frag) := Con.o1 (K := K) tI (fun x : Unit => []) tB pre_right post_right
theorem ok_right (bs : Bs mg) {xa : XA} {C_MeetError : Addr} (xs : Xs K mg xa C_MeetError) {f_BadGood : Addr} {fd_BadGood : FuncData} (xi_BadGood : XiT P w K mg base xa.BadGood 1 ["self", "state"] (spX1 xa.BadGood "state") f_BadGood fd_BadGood) {f_BadStep : Addr} {fd_BadStep : FuncData} (xi_BadStep : XiT P w K mg base xa.BadStep 1 ["self", "state", "letter"] (spX2 xa.BadStep "state" "letter") f_BadStep fd_BadStep) {f_NoDesk : Addr} {fd_NoDesk : FuncData} (xi_NoDesk : XiT P w K mg base xa.NoDesk 1 ["self", "desk"] (spX1 xa.NoDesk "desk") f_NoDesk fd_NoDesk) {f_NoLetter : Addr} {fd_NoLetter : FuncData} (xi_NoLetter : XiT P w K mg base xa.NoLetter 1 ["self", "letter"] (spX1 xa.NoLetter "letter") f_NoLetter fd_NoLetter) {f_NoName : Addr} {fd_NoName : FuncData} (xi_NoName : XiT P w K mg base xa.NoName 1 ["self", "name"] (spX1 xa.NoName "name") f_NoName fd_NoName) {f_NoText : Addr} {fd_NoText : FuncData} (xi_NoText : XiT P w K mg base xa.NoText 1 ["self", "line"] (spX1 xa.NoText "line") f_NoText fd_NoText) {f_Notices : Addr} {fd_Notices : FuncData} (xi_Notices : XiT P w K mg base xa.Notices 1 ["self", "one", "other"] (spX2 xa.Notices "one" "other") f_Notices fd_Notices) {f_TooMany : Addr} {fd_TooMany : FuncData} (xi_TooMany : XiT P w K mg base xa.TooMany 1 ["self", "most"] (spX1 xa.TooMany "most") f_TooMany fd_TooMany) {f_Twice : Addr} {fd_Twice : FuncData} (xi_Twice : XiT P w K mg base xa.Twice 1 ["self", "name"] (spX1 xa.Twice "name") f_Twice fd_Twice) {f_alikeL : Addr} {fd_alikeL : FuncData} (g_alikeL : Cal P w K mg base "_law_alike" 3 ["_law_found", "_law_due"] (c_alikeL K).sp f_alikeL fd_alikeL) {f_draw : Addr} {fd_draw : FuncData} (g_draw : Cal P w K mg base "_law_draw" 1 ["_law_flow_here", "_law_many"] (c_draw K).sp f_draw fd_draw) {f_names : Addr} {fd_names : FuncData} (g_names : Cal P w K mg base "_law_names" 2 ["_law_flow_here", "_law_many"] (c_names K).sp f_names fd_names) {f_number : Addr} {fd_number : FuncData} (g_number : Cal P w K mg base "_law_number" 2 ["_law_flow_here"] (c_number K).sp f_number fd_number) {f_sorts : Addr} {fd_sorts : FuncData} (g_sorts : Cal P w K mg base "_law_sorts" 3 ["_law_e"] (c_sorts K xa).sp f_sorts fd_sorts) {f : Addr} {fd : FuncData} (F : Fun K "_law_right" "_law_right" s_right f fd) : FnOk P w K mg base (L2.CX P w) 5 f fd ["_law_flow_here"] (c_right K).sp := by
  refine fn_con (c_right K) F sc_right (fun _ => rfl) ?_
  intro cdv Ar outer s H E F0 a φ ε hr hp
  have hu := hu_of hr
  have sc := sc_right
  refine' SK.vc ?hh ?vc
  case hh =>
   refine' sk_setG (gk_lstT rfl (gs_C (gk_name (i := 1) (by exact sc.nd)) (gs_C (gk_name (i := 2) (by exact sc.nd)) (gs_C (gk_name (i := 3) (by exact sc.nd)) (gs_C (gk_name (i := 4) (by exact sc.nd)) (gs_C (gk_name (i := 5) (by exact sc.nd)) (gs_1 (gk_name (i := 6) (by exact sc.nd)))))))) (tlC (tlC (tlC (tlC (tlC tl1)))))) (EK.lt (T := tI) (ltcC (ltcC (ltcC (ltcC (ltcC ltc1))))) ?lc33) ?k380
   case lc33 =>
    refine' NE.ek (ne_lc rfl (by exact sc.nd) ?lc31 ?lc30 ?lc32)
    case lc31 =>
     exact blkOk_by (own := [("_law_k", 16)]) (N := ["_law_flow_here", "_law_a", "_law_b", "_law_c", "_law_d", "_law_f", "_law_g", "_law_u", "_law_v", "_law_w", "_law_x", "_law_y", "_law_z", "_law_one", "_law_other", "_law_some", "_law_k", "_law_e", "_law_more", "_law_less", "_law_found", "_law_due", "_law_j"]) (sc := defScope s_right) (by decide +kernel)
    case lc30 =>
     exact lc_k (own := [("_law_k", 16)]) (T := tI) (U := tI) (G := fun ρ x => (List.set ρ 16 (.val tI x))) (vs := [16]) (cs' := (fun c_1 : List Int => [⟨a.1, cL tI c_1⟩])) (z0 := fun y => _) (IK.ie (ik_range1 bs.m_range pk_int)) (fun _ => rfl) (by decide) (fun _ _ _ _ _ => (gk_name (i := 16) (by exact sc.nd))) (fun _ _ _ _ _ _ _ => ts_0) (fun _ _ _ _ _ _ _ _ => (ek_o1 0 g_number.F sl0 (hr.mono (by decide)) g_number.m g_number.k g_number.b (pk_var (i := 0) rfl) (PAK.ak pa_0) (fun _ => rfl)))
    case lc32 =>
     exact fun _ => rfl
   case k380 =>
    intro y_3 z_4
    refine' sk_name 0 rfl ?k384
    case k384 =>
     intro w_5
     refine' sk_st (ρ2 := [.val tR a.1, .val tI z_4.1, .val tI z_4.2.1, .val tI z_4.2.2.1, .val tI z_4.2.2.2.1, .val tI z_4.2.2.2.2.1, .val tI z_4.2.2.2.2.2, .un, .un, .un, .un, .un, .un, .un, .un, .un, .un, .un, .un, .un, .un, .un, .un]) (cs2 := [⟨a.1, cL tI w_5⟩]) rfl rfl ?k385
     case k385 =>
      refine' sk_st (ρ2 := [.val tR a.1, .val tI z_4.1, .val tI z_4.2.1, .val tI z_4.2.2.1, .val tI z_4.2.2.2.1, .val tI z_4.2.2.2.2.1, .val tI z_4.2.2.2.2.2, .un, .un, .un, .un, .un, .un, .un, .un, .un, .un, .un, .un, .un, .un, .un, .un]) (cs2 := [⟨a.1, cL tI w_5⟩]) rfl rfl ?k386
      case k386 =>
       refine' sk_setG (gk_lstT rfl (gs_C (gk_name (i := 7) (by exact sc.nd)) (gs_C (gk_name (i := 8) (by exact sc.nd)) (gs_C (gk_name (i := 9) (by exact sc.nd)) (gs_C (gk_name (i := 10) (by exact sc.nd)) (gs_C (gk_name (i := 11) (by exact sc.nd)) (gs_1 (gk_name (i := 12) (by exact sc.nd)))))))) (tlC (tlC (tlC (tlC (tlC tl1)))))) (EK.lt (T := tS) (ltcC (ltcC (ltcC (ltcC (ltcC ltc1))))) ?lc34) ?k388
       case lc34 =>
        exact ek_o1 0 g_names.F sl1 (hr.mono (by decide)) g_names.m g_names.k g_names.b (pk_var (i := 0) rfl) (PAK.ak (pa_1 pk_int)) (fun _ => rfl)
       case k388 =>
        intro y_6 z_7
        refine' sk_name 0 rfl ?k389
        case k389 =>
         intro w_8
         refine' sk_st (ρ2 := [.val tR a.1, .val tI z_4.1, .val tI z_4.2.1, .val tI z_4.2.2.1, .val tI z_4.2.2.2.1, .val tI z_4.2.2.2.2.1, .val tI z_4.2.2.2.2.2, .val tS z_7.1, .val tS z_7.2.1, .val tS z_7.2.2.1, .val tS z_7.2.2.2.1, .val tS z_7.2.2.2.2.1, .val tS z_7.2.2.2.2.2, .un, .un, .un, .un, .un, .un, .un, .un, .un, .un]) (cs2 := [⟨a.1, cL tI w_8⟩]) rfl rfl ?k390
         case k390 =>
          refine' sk_st (ρ2 := [.val tR a.1, .val tI z_4.1, .val tI z_4.2.1, .val tI z_4.2.2.1, .val tI z_4.2.2.2.1, .val tI z_4.2.2.2.2.1, .val tI z_4.2.2.2.2.2, .val tS z_7.1, .val tS z_7.2.1, .val tS z_7.2.2.1, .val tS z_7.2.2.2.1, .val tS z_7.2.2.2.2.1, .val tS z_7.2.2.2.2.2, .un, .un, .un, .un, .un, .un, .un, .un, .un, .un]) (cs2 := [⟨a.1, cL tI w_8⟩]) rfl rfl ?k391
          case k391 =>
           refine' sk_setE (i := 13) (by exact sc.nd) (NE.ek (ne_slH (NK.pk (nk_lst (pl_C (pk_var (i := 7) rfl) (pl_C (pk_var (i := 8) rfl) (pl_C (pk_var (i := 9) rfl) (pl_C (pk_var (i := 10) rfl) (pl_C (pk_var (i := 11) rfl) (pl_C (pk_var (i := 12) rfl) pl_0)))))) (Nat.le_of_ble_eq_true rfl))) (ek_o1 0 g_draw.F sl1 (hr.mono (by decide)) g_draw.m g_draw.k g_draw.b (pk_var (i := 0) rfl) (PAK.ak (pa_1 pk_int)) (fun _ => rfl)))) ?k392
           case k392 =>
            intro y_10 one_9
            refine' sk_name 0 rfl ?k393
            case k393 =>
             intro w_11
             refine' sk_st (ρ2 := [.val tR a.1, .val tI z_4.1, .val tI z_4.2.1, .val tI z_4.2.2.1, .val tI z_4.2.2.2.1, .val tI z_4.2.2.2.2.1, .val tI z_4.2.2.2.2.2, .val tS z_7.1, .val tS z_7.2.1, .val tS z_7.2.2.1, .val tS z_7.2.2.2.1, .val tS z_7.2.2.2.2.1, .val tS z_7.2.2.2.2.2, .val (tL tS) one_9, .un, .un, .un, .un, .un, .un, .un, .un, .un]) (cs2 := [⟨a.1, cL tI w_11⟩]) rfl rfl ?k394
             case k394 =>
              refine' sk_st (ρ2 := [.val tR a.1, .val tI z_4.1, .val tI z_4.2.1, .val tI z_4.2.2.1, .val tI z_4.2.2.2.1, .val tI z_4.2.2.2.2.1, .val tI z_4.2.2.2.2.2, .val tS z_7.1, .val tS z_7.2.1, .val tS z_7.2.2.1, .val tS z_7.2.2.2.1, .val tS z_7.2.2.2.2.1, .val tS z_7.2.2.2.2.2, .val (tL tS) one_9, .un, .un, .un, .un, .un, .un, .un, .un, .un]) (cs2 := [⟨a.1, cL tI w_11⟩]) rfl rfl ?k395
              case k395 =>
               refine' sk_set (i := 14) (by exact sc.nd) (NK.pk (nk_cat (NK.l (nk_revL (PV.lk (PK.l (pk_var (i := 13) rfl))))) (NK.l (nk_lst (pl_C (pk_var (i := 12) rfl) pl_0) (Nat.le_of_ble_eq_true rfl))))) ?k396
               case k396 =>
                intro other_12
                refine' sk_st (ρ2 := [.val tR a.1, .val tI z_4.1, .val tI z_4.2.1, .val tI z_4.2.2.1, .val tI z_4.2.2.2.1, .val tI z_4.2.2.2.2.1, .val tI z_4.2.2.2.2.2, .val tS z_7.1, .val tS z_7.2.1, .val tS z_7.2.2.1, .val tS z_7.2.2.2.1, .val tS z_7.2.2.2.2.1, .val tS z_7.2.2.2.2.2, .val (tL tS) one_9, .val (tL tS) other_12, .un, .un, .un, .un, .un, .un, .un, .un]) (cs2 := [⟨a.1, cL tI w_11⟩]) rfl rfl ?k397
                case k397 =>
                 refine' sk_set (i := 15) ?lc36 ?lc37 ?k404 ?lc38 ?lc39 ?lc40 ?lc41
                 case lc36 =>
                  exact sc.nd
                 case lc37 =>
                  refine' NK.pk ?lc35
                  case lc35 =>
                   exact (nk_lst (pl_C (pk_mNoText xs.c_NoText xi_NoText (hr.mono (by decide)) (pk_var (i := 1) rfl)) (pl_C (pk_mTwice xs.c_Twice xi_Twice (hr.mono (by decide)) (pk_var (i := 7) rfl)) (pl_C (pk_mBadStep xs.c_BadStep xi_BadStep (hr.mono (by decide)) (pk_var (i := 2) rfl) (pk_var (i := 8) rfl)) (pl_C (pk_mBadGood xs.c_BadGood xi_BadGood (hr.mono (by decide)) (pk_var (i := 3) rfl)) (pl_C (pk_mNoLetter xs.c_NoLetter xi_NoLetter (hr.mono (by decide)) (pk_var (i := 9) rfl)) (pl_C (pk_mNoDesk xs.c_NoDesk xi_NoDesk (hr.mono (by decide)) (pk_var (i := 10) rfl)) (pl_C (pk_mOtherLetters xs.c_OtherLetters xs.w_OtherLetters) pl_0))))))) (Nat.le_of_ble_eq_true rfl))
                 case lc38 =>
                  exact rfl
                 case lc39 =>
                  exact (by first | exact Or.inl rfl | exact Or.inr rfl)
                 case lc40 =>
                  exact rfl
                 case lc41 =>
                  exact (by first | exact .inl rfl | exact .inr rfl)
                 case k404 =>
                  intro some_13
                  refine' sk_st (ρ2 := [.val tR a.1, .val tI z_4.1, .val tI z_4.2.1, .val tI z_4.2.2.1, .val tI z_4.2.2.2.1, .val tI z_4.2.2.2.2.1, .val tI z_4.2.2.2.2.2, .val tS z_7.1, .val tS z_7.2.1, .val tS z_7.2.2.1, .val tS z_7.2.2.2.1, .val tS z_7.2.2.2.2.1, .val tS z_7.2.2.2.2.2, .val (tL tS) one_9, .val (tL tS) other_12, .val (tL (tRf xa)) some_13, .un, .un, .un, .un, .un, .un, .un]) (cs2 := [⟨a.1, cL tI w_11⟩]) rfl rfl ?k406
                  case k406 =>
                   refine' sk_set (i := 15) (by exact sc.nd) (NK.pk (nk_cat (PK.l (pk_var (i := 15) rfl)) (NK.l (nk_lst (pl_C (pk_mNotices xs.c_Notices xi_Notices (hr.mono (by decide)) (NK.pk (nk_ct call_list_of bs.m_list bs.b_list n_list (PV.q (PK.l (pk_var (i := 13) rfl))))) (NK.pk (nk_ct call_list_of bs.m_list bs.b_list n_list (PV.q (PK.l (pk_var (i := 14) rfl)))))) (pl_C (pk_mTooMany xs.c_TooMany xi_TooMany (hr.mono (by decide)) (pk_var (i := 4) rfl)) (pl_C (pk_mNoName xs.c_NoName xi_NoName (hr.mono (by decide)) (pk_var (i := 11) rfl)) (pl_C (pk_mNoKind xs.c_NoKind xs.w_NoKind) (pl_C (pk_mNoRow xs.c_NoRow xs.w_NoRow) pl_0))))) (Nat.le_of_ble_eq_true rfl))))) ?k407
                   case k407 =>
                    intro some_14
                    refine' sk_st (ρ2 := [.val tR a.1, .val tI z_4.1, .val tI z_4.2.1, .val tI z_4.2.2.1, .val tI z_4.2.2.2.1, .val tI z_4.2.2.2.2.1, .val tI z_4.2.2.2.2.2, .val tS z_7.1, .val tS z_7.2.1, .val tS z_7.2.2.1, .val tS z_7.2.2.2.1, .val tS z_7.2.2.2.2.1, .val tS z_7.2.2.2.2.2, .val (tL tS) one_9, .val (tL tS) other_12, .val (tL (tRf xa)) some_14, .un, .un, .un, .un, .un, .un, .un]) (cs2 := [⟨a.1, cL tI w_11⟩]) rfl rfl ?k408
                    case k408 =>
                     refine' sk_for (fun _ : Unit => [.val tR a.1, .val tI z_4.1, .val tI z_4.2.1, .val tI z_4.2.2.1, .val tI z_4.2.2.2.1, .val tI z_4.2.2.2.2.1, .val tI z_4.2.2.2.2.2, .val tS z_7.1, .val tS z_7.2.1, .val tS z_7.2.2.1, .val tS z_7.2.2.2.1, .val tS z_7.2.2.2.2.1, .val tS z_7.2.2.2.2.2, .val (tL tS) one_9, .val (tL tS) other_12, .val (tL (tRf xa)) some_14, .un, .un, .un, .un, .un, .un, .un]) (fun _ : Unit => [⟨a.1, cL tI w_11⟩]) () hp rfl (ik_enum bs.m_enumerate (pk_var (i := 15) rfl)) (gk_tup rfl (gs_C (gk_name (i := 16) (by exact sc.nd)) (gs_1 (gk_name (i := 17) (by exact sc.nd)))) (tlC tl1)) (.same (.same (.same (.same (.same (.same (.same (.same (.same (.same (.same (.same (.same (.same (.same (.same (.same (.same (.same (.same (.same (.same (.same .nil))))))))))))))))))))))) rfl ?b409 ?k410
                     case b409 =>
                      intro fl_19 hs_18 N_17 z_15 x_16
                      refine' sk_st (ρ2 := [.val tR a.1, .val tI z_4.1, .val tI z_4.2.1, .val tI z_4.2.2.1, .val tI z_4.2.2.2.1, .val tI z_4.2.2.2.2.1, .val tI z_4.2.2.2.2.2, .val tS z_7.1, .val tS z_7.2.1, .val tS z_7.2.2.1, .val tS z_7.2.2.2.1, .val tS z_7.2.2.2.2.1, .val tS z_7.2.2.2.2.2, .val (tL tS) one_9, .val (tL tS) other_12, .val (tL (tRf xa)) some_14, .val tI x_16.1, .val (tRf xa) x_16.2, .un, .un, .un, .un, .un]) (cs2 := [⟨a.1, cL tI w_11⟩]) rfl rfl ?k411
                      case k411 =>
                       refine' sk_seq (sk_if1E (tk_neE hr.units (dL (@dB K)) (PK.ek (pk_fn g_sorts.F sl1 (hr.mono (by decide)) g_sorts.m g_sorts.k g_sorts.b (pa_1 (pk_var (i := 17) rfl)))) ?lc45) ?a413 ?b414)
                       case lc45 =>
                        refine' fun _ => (NE.ek (ne_lc rfl (by exact sc.nd) ?lc43 ?lc42 ?lc44))
                        case lc43 =>
                         exact blkOk_by (own := [("_law_j", 22)]) (N := ["_law_flow_here", "_law_a", "_law_b", "_law_c", "_law_d", "_law_f", "_law_g", "_law_u", "_law_v", "_law_w", "_law_x", "_law_y", "_law_z", "_law_one", "_law_other", "_law_some", "_law_k", "_law_e", "_law_more", "_law_less", "_law_found", "_law_due", "_law_j"]) (sc := defScope s_right) (by decide +kernel)
                        case lc42 =>
                         exact lc_k (own := [("_law_j", 22)]) (T := tI) (U := tB) (G := fun ρ x => (List.set ρ 22 (.val tI x))) (vs := [22]) (cs' := (fun _ : Unit => [⟨a.1, cL tI w_11⟩])) (z0 := fun y => ()) (s1 := fun _ _ _ => ()) (s2 := fun _ _ _ _ => ()) (IK.ie (ik_range1 bs.m_range pk_int)) (fun _ => rfl) (by decide) (fun _ _ _ _ _ => (gk_name (i := 22) (by exact sc.nd))) (fun _ _ _ _ _ _ _ => ts_0) (fun _ _ _ _ _ _ _ _ => (PK.ek (pk_cmp op_eq r2_eqI (pk_var (i := 22) rfl) (pk_var (i := 16) rfl))))
                        case lc44 =>
                         exact fun _ => rfl
                       case a413 =>
                        intro y_22
                        exact sk_retO pk_bl rfl
                       case b414 =>
                        intro y_23
                        refine' sk_nilX rfl ?k418
                        case k418 =>
                         refine' sk_seq (sk_if1 (PWK.pt (pw_or' (pt_not' (pt_val' (pk_isVO (ea12 xs.c_NoText xs.c_Twice xs.c_BadStep xs.c_BadGood xs.c_NoLetter xs.c_NoDesk xs.c_OtherLetters xs.c_Notices xs.c_TooMany xs.c_NoName xs.c_NoKind xs.c_NoRow) (kt12 xs.o_NoText_MeetError xs.o_Twice_MeetError xs.o_BadStep_MeetError xs.o_BadGood_MeetError xs.o_NoLetter_MeetError xs.o_NoDesk_MeetError xs.o_OtherLetters_MeetError xs.o_Notices_MeetError xs.o_TooMany_MeetError xs.o_NoName_MeetError xs.o_NoKind_MeetError xs.o_NoRow_MeetError) bs.m_isinstance bs.b_isinstance (pk_var (i := 17) rfl) (pk_glob (T := tR) (v := .ref C_MeetError) xs.g_MeetError rfl (fun _ => rfl))))) (pw_or1' (pt_not' (pt_val' (pk_isVB (ea12 xs.c_NoText xs.c_Twice xs.c_BadStep xs.c_BadGood xs.c_NoLetter xs.c_NoDesk xs.c_OtherLetters xs.c_Notices xs.c_TooMany xs.c_NoName xs.c_NoKind xs.c_NoRow) (kt12 xs.b_NoText_ValueError xs.b_Twice_ValueError xs.b_BadStep_ValueError xs.b_BadGood_ValueError xs.b_NoLetter_ValueError xs.b_NoDesk_ValueError xs.b_OtherLetters_ValueError xs.b_Notices_ValueError xs.b_TooMany_ValueError xs.b_NoName_ValueError xs.b_NoKind_ValueError xs.b_NoRow_ValueError) bs.m_isinstance bs.b_isinstance bs.m_ValueError bs.b_ValueError (pk_var (i := 17) rfl))))))) ?a419 ?b420)
                         case a419 =>
                          exact sk_retO pk_bl rfl
                         case b420 =>
                          refine' sk_nilX rfl ?k421
                          case k421 =>
                           exact sk_midX (z := ()) rfl (.same (.same (.same (.same (.same (.same (.same (.same (.same (.same (.same (.same (.same (.same (.same (.same (.un (.un (.same (.same (.same (.same (.same .nil))))))))))))))))))))))) rfl
                     case k410 =>
                      intro z_15
                      refine' sk_set (i := 18) (by exact sc.nd) (pk_mNoText xs.c_NoText xi_NoText (hr.mono (by decide)) (pk_var (i := 5) rfl)) ?k422
                      case k422 =>
                       intro more_24
                       refine' sk_st (ρ2 := [.val tR a.1, .val tI z_4.1, .val tI z_4.2.1, .val tI z_4.2.2.1, .val tI z_4.2.2.2.1, .val tI z_4.2.2.2.2.1, .val tI z_4.2.2.2.2.2, .val tS z_7.1, .val tS z_7.2.1, .val tS z_7.2.2.1, .val tS z_7.2.2.2.1, .val tS z_7.2.2.2.2.1, .val tS z_7.2.2.2.2.2, .val (tL tS) one_9, .val (tL tS) other_12, .val (tL (tRf xa)) some_14, .un, .un, .val (tRf xa) more_24, .un, .un, .un, .un]) (cs2 := [⟨a.1, cL tI w_11⟩]) rfl rfl ?k423
                       case k423 =>
                        refine' sk_set (i := 19) (by exact sc.nd) (pk_mNotices xs.c_Notices xi_Notices (hr.mono (by decide)) (NK.pk (nk_ct call_list_of bs.m_list bs.b_list n_list (PV.q (PK.l (pk_var (i := 14) rfl))))) (NK.pk (nk_ct call_list_of bs.m_list bs.b_list n_list (PV.q (PK.l (pk_var (i := 13) rfl)))))) ?k424
                        case k424 =>
                         intro less_25
                         refine' sk_st (ρ2 := [.val tR a.1, .val tI z_4.1, .val tI z_4.2.1, .val tI z_4.2.2.1, .val tI z_4.2.2.2.1, .val tI z_4.2.2.2.2.1, .val tI z_4.2.2.2.2.2, .val tS z_7.1, .val tS z_7.2.1, .val tS z_7.2.2.1, .val tS z_7.2.2.2.1, .val tS z_7.2.2.2.2.1, .val tS z_7.2.2.2.2.2, .val (tL tS) one_9, .val (tL tS) other_12, .val (tL (tRf xa)) some_14, .un, .un, .val (tRf xa) more_24, .val (tRf xa) less_25, .un, .un, .un]) (cs2 := [⟨a.1, cL tI w_11⟩]) rfl rfl ?k425
                         case k425 =>
                          refine' sk_set (i := 20) ?lc47 ?lc48 ?k432 ?lc49 ?lc50 ?lc51 ?lc52
                          case lc47 =>
                           exact sc.nd
                          case lc48 =>
                           refine' NK.pk ?lc46
                           case lc46 =>
                            exact (nk_lst (pl_C (pk_inl (T2 := (tSm tS (tL tS))) (pk_xfV a_line (ea12 xs.c_NoText xs.c_Twice xs.c_BadStep xs.c_BadGood xs.c_NoLetter xs.c_NoDesk xs.c_OtherLetters xs.c_Notices xs.c_TooMany xs.c_NoName xs.c_NoKind xs.c_NoRow).ct (hl_line xs.n_NoText_line) (pk_ixR (T := (tRf xa)) (PV.lk (PK.l (pk_var (i := 15) rfl))) pk_int))) (pl_C (pk_inr (T1 := tI) (pk_inl (T2 := (tL tS)) (pk_xfV a_name (ea12 xs.c_NoText xs.c_Twice xs.c_BadStep xs.c_BadGood xs.c_NoLetter xs.c_NoDesk xs.c_OtherLetters xs.c_Notices xs.c_TooMany xs.c_NoName xs.c_NoKind xs.c_NoRow).ct (hl_name xs.n_Twice_name xs.n_NoName_name) (pk_ixR (T := (tRf xa)) (PV.lk (PK.l (pk_var (i := 15) rfl))) pk_int)))) (pl_C (pk_inl (T2 := (tSm tS (tL tS))) (pk_xfV a_state (ea12 xs.c_NoText xs.c_Twice xs.c_BadStep xs.c_BadGood xs.c_NoLetter xs.c_NoDesk xs.c_OtherLetters xs.c_Notices xs.c_TooMany xs.c_NoName xs.c_NoKind xs.c_NoRow).ct (hl_state xs.n_BadStep_state xs.n_BadGood_state) (pk_ixR (T := (tRf xa)) (PV.lk (PK.l (pk_var (i := 15) rfl))) pk_int))) (pl_C (pk_inr (T1 := tI) (pk_inl (T2 := (tL tS)) (pk_xfV a_letter (ea12 xs.c_NoText xs.c_Twice xs.c_BadStep xs.c_BadGood xs.c_NoLetter xs.c_NoDesk xs.c_OtherLetters xs.c_Notices xs.c_TooMany xs.c_NoName xs.c_NoKind xs.c_NoRow).ct (hl_letter xs.n_BadStep_letter xs.n_NoLetter_letter) (pk_ixR (T := (tRf xa)) (PV.lk (PK.l (pk_var (i := 15) rfl))) pk_int)))) (pl_C (pk_inl (T2 := (tSm tS (tL tS))) (pk_xfV a_state (ea12 xs.c_NoText xs.c_Twice xs.c_BadStep xs.c_BadGood xs.c_NoLetter xs.c_NoDesk xs.c_OtherLetters xs.c_Notices xs.c_TooMany xs.c_NoName xs.c_NoKind xs.c_NoRow).ct (hl_state xs.n_BadStep_state xs.n_BadGood_state) (pk_ixR (T := (tRf xa)) (PV.lk (PK.l (pk_var (i := 15) rfl))) pk_int))) (pl_C (pk_inr (T1 := tI) (pk_inl (T2 := (tL tS)) (pk_xfV a_letter (ea12 xs.c_NoText xs.c_Twice xs.c_BadStep xs.c_BadGood xs.c_NoLetter xs.c_NoDesk xs.c_OtherLetters xs.c_Notices xs.c_TooMany xs.c_NoName xs.c_NoKind xs.c_NoRow).ct (hl_letter xs.n_BadStep_letter xs.n_NoLetter_letter) (pk_ixR (T := (tRf xa)) (PV.lk (PK.l (pk_var (i := 15) rfl))) pk_int)))) pl_0)))))) (Nat.le_of_ble_eq_true rfl))
                          case lc49 =>
                           exact rfl
                          case lc50 =>
                           exact (by first | exact Or.inl rfl | exact Or.inr rfl)
                          case lc51 =>
                           exact rfl
                          case lc52 =>
                           exact (by first | exact .inl rfl | exact .inr rfl)
                          case k432 =>
                           intro found_26
                           refine' sk_st (ρ2 := [.val tR a.1, .val tI z_4.1, .val tI z_4.2.1, .val tI z_4.2.2.1, .val tI z_4.2.2.2.1, .val tI z_4.2.2.2.2.1, .val tI z_4.2.2.2.2.2, .val tS z_7.1, .val tS z_7.2.1, .val tS z_7.2.2.1, .val tS z_7.2.2.2.1, .val tS z_7.2.2.2.2.1, .val tS z_7.2.2.2.2.2, .val (tL tS) one_9, .val (tL tS) other_12, .val (tL (tRf xa)) some_14, .un, .un, .val (tRf xa) more_24, .val (tRf xa) less_25, .val (tL (tSm tI (tSm tS (tL tS)))) found_26, .un, .un]) (cs2 := [⟨a.1, cL tI w_11⟩]) rfl rfl ?k434
                           case k434 =>
                            refine' sk_set (i := 20) (by exact sc.nd) (NK.pk (nk_cat (PK.l (pk_var (i := 20) rfl)) (NK.l (nk_lst (pl_C (pk_inr (T1 := tI) (pk_inl (T2 := (tL tS)) (pk_xfV a_desk (ea12 xs.c_NoText xs.c_Twice xs.c_BadStep xs.c_BadGood xs.c_NoLetter xs.c_NoDesk xs.c_OtherLetters xs.c_Notices xs.c_TooMany xs.c_NoName xs.c_NoKind xs.c_NoRow).ct (hl_desk xs.n_NoDesk_desk) (pk_ixR (T := (tRf xa)) (PV.lk (PK.l (pk_var (i := 15) rfl))) pk_int)))) (pl_C (pk_inr (T1 := tI) (pk_inr (T1 := tS) (pk_xfV a_one (ea12 xs.c_NoText xs.c_Twice xs.c_BadStep xs.c_BadGood xs.c_NoLetter xs.c_NoDesk xs.c_OtherLetters xs.c_Notices xs.c_TooMany xs.c_NoName xs.c_NoKind xs.c_NoRow).ct (hl_one xs.n_Notices_one) (pk_ixR (T := (tRf xa)) (PV.lk (PK.l (pk_var (i := 15) rfl))) pk_int)))) (pl_C (pk_inr (T1 := tI) (pk_inr (T1 := tS) (pk_xfV a_other (ea12 xs.c_NoText xs.c_Twice xs.c_BadStep xs.c_BadGood xs.c_NoLetter xs.c_NoDesk xs.c_OtherLetters xs.c_Notices xs.c_TooMany xs.c_NoName xs.c_NoKind xs.c_NoRow).ct (hl_other xs.n_Notices_other) (pk_ixR (T := (tRf xa)) (PV.lk (PK.l (pk_var (i := 15) rfl))) pk_int)))) (pl_C (pk_inl (T2 := (tSm tS (tL tS))) (pk_xfV a_most (ea12 xs.c_NoText xs.c_Twice xs.c_BadStep xs.c_BadGood xs.c_NoLetter xs.c_NoDesk xs.c_OtherLetters xs.c_Notices xs.c_TooMany xs.c_NoName xs.c_NoKind xs.c_NoRow).ct (hl_most xs.n_TooMany_most) (pk_ixR (T := (tRf xa)) (PV.lk (PK.l (pk_var (i := 15) rfl))) pk_int))) (pl_C (pk_inr (T1 := tI) (pk_inl (T2 := (tL tS)) (pk_xfV a_name (ea12 xs.c_NoText xs.c_Twice xs.c_BadStep xs.c_BadGood xs.c_NoLetter xs.c_NoDesk xs.c_OtherLetters xs.c_Notices xs.c_TooMany xs.c_NoName xs.c_NoKind xs.c_NoRow).ct (hl_name xs.n_Twice_name xs.n_NoName_name) (pk_ixR (T := (tRf xa)) (PV.lk (PK.l (pk_var (i := 15) rfl))) pk_int)))) pl_0))))) (Nat.le_of_ble_eq_true rfl))))) ?k435
                            case k435 =>
                             intro found_27
                             refine' sk_st (ρ2 := [.val tR a.1, .val tI z_4.1, .val tI z_4.2.1, .val tI z_4.2.2.1, .val tI z_4.2.2.2.1, .val tI z_4.2.2.2.2.1, .val tI z_4.2.2.2.2.2, .val tS z_7.1, .val tS z_7.2.1, .val tS z_7.2.2.1, .val tS z_7.2.2.2.1, .val tS z_7.2.2.2.2.1, .val tS z_7.2.2.2.2.2, .val (tL tS) one_9, .val (tL tS) other_12, .val (tL (tRf xa)) some_14, .un, .un, .val (tRf xa) more_24, .val (tRf xa) less_25, .val (tL (tSm tI (tSm tS (tL tS)))) found_27, .un, .un]) (cs2 := [⟨a.1, cL tI w_11⟩]) rfl rfl ?k436
                             case k436 =>
                              refine' sk_set (i := 21) ?lc54 ?lc55 ?k443 ?lc56 ?lc57 ?lc58 ?lc59
                              case lc54 =>
                               exact sc.nd
                              case lc55 =>
                               refine' NK.pk ?lc53
                               case lc53 =>
                                exact (nk_lst (pl_C (pk_inl (T2 := (tSm tS (tL tS))) (pk_var (i := 1) rfl)) (pl_C (pk_inr (T1 := tI) (pk_inl (T2 := (tL tS)) (pk_var (i := 7) rfl))) (pl_C (pk_inl (T2 := (tSm tS (tL tS))) (pk_var (i := 2) rfl)) (pl_C (pk_inr (T1 := tI) (pk_inl (T2 := (tL tS)) (pk_var (i := 8) rfl))) (pl_C (pk_inl (T2 := (tSm tS (tL tS))) (pk_var (i := 3) rfl)) (pl_C (pk_inr (T1 := tI) (pk_inl (T2 := (tL tS)) (pk_var (i := 9) rfl))) (pl_C (pk_inr (T1 := tI) (pk_inl (T2 := (tL tS)) (pk_var (i := 10) rfl))) (pl_C (pk_inr (T1 := tI) (pk_inr (T1 := tS) (pk_var (i := 13) rfl))) (pl_C (pk_inr (T1 := tI) (pk_inr (T1 := tS) (pk_var (i := 14) rfl))) (pl_C (pk_inl (T2 := (tSm tS (tL tS))) (pk_var (i := 4) rfl)) (pl_C (pk_inr (T1 := tI) (pk_inl (T2 := (tL tS)) (pk_var (i := 11) rfl))) pl_0))))))))))) (Nat.le_of_ble_eq_true rfl))
                              case lc56 =>
                               exact rfl
                              case lc57 =>
                               exact (by first | exact Or.inl rfl | exact Or.inr rfl)
                              case lc58 =>
                               exact rfl
                              case lc59 =>
                               exact (by first | exact .inl rfl | exact .inr rfl)
                              case k443 =>
                               intro due_28
                               refine' sk_st (ρ2 := [.val tR a.1, .val tI z_4.1, .val tI z_4.2.1, .val tI z_4.2.2.1, .val tI z_4.2.2.2.1, .val tI z_4.2.2.2.2.1, .val tI z_4.2.2.2.2.2, .val tS z_7.1, .val tS z_7.2.1, .val tS z_7.2.2.1, .val tS z_7.2.2.2.1, .val tS z_7.2.2.2.2.1, .val tS z_7.2.2.2.2.2, .val (tL tS) one_9, .val (tL tS) other_12, .val (tL (tRf xa)) some_14, .un, .un, .val (tRf xa) more_24, .val (tRf xa) less_25, .val (tL (tSm tI (tSm tS (tL tS)))) found_27, .val (tL (tSm tI (tSm tS (tL tS)))) due_28, .un]) (cs2 := [⟨a.1, cL tI w_11⟩]) rfl rfl ?k445
                               case k445 =>
                                refine' sk_seq (sk_if1 (PWK.pt (pw_or' (pt_not' (pt_val' (pk_fn g_alikeL.F (slC sl1) (hr.mono (by decide)) g_alikeL.m g_alikeL.k g_alikeL.b (pa_C (pk_var (i := 20) rfl) (pa_1 (pk_var (i := 21) rfl)))))) (pw_or1' (pt_not' (pt_val' (pk_fn g_alikeL.F (slC sl1) (hr.mono (by decide)) g_alikeL.m g_alikeL.k g_alikeL.b (pa_C (NK.pk (nk_lst (pl_C (pk_inl (T2 := (tSm tS (tL tS))) (pk_xfV a_line (ea12 xs.c_NoText xs.c_Twice xs.c_BadStep xs.c_BadGood xs.c_NoLetter xs.c_NoDesk xs.c_OtherLetters xs.c_Notices xs.c_TooMany xs.c_NoName xs.c_NoKind xs.c_NoRow).ct (hl_line xs.n_NoText_line) (pk_var (i := 18) rfl))) (pl_C (pk_inr (T1 := tI) (pk_inr (T1 := tS) (pk_xfV a_one (ea12 xs.c_NoText xs.c_Twice xs.c_BadStep xs.c_BadGood xs.c_NoLetter xs.c_NoDesk xs.c_OtherLetters xs.c_Notices xs.c_TooMany xs.c_NoName xs.c_NoKind xs.c_NoRow).ct (hl_one xs.n_Notices_one) (pk_var (i := 19) rfl)))) (pl_C (pk_inr (T1 := tI) (pk_inr (T1 := tS) (pk_xfV a_other (ea12 xs.c_NoText xs.c_Twice xs.c_BadStep xs.c_BadGood xs.c_NoLetter xs.c_NoDesk xs.c_OtherLetters xs.c_Notices xs.c_TooMany xs.c_NoName xs.c_NoKind xs.c_NoRow).ct (hl_other xs.n_Notices_other) (pk_var (i := 19) rfl)))) pl_0))) (Nat.le_of_ble_eq_true rfl))) (pa_1 (NK.pk (nk_lst (pl_C (pk_inl (T2 := (tSm tS (tL tS))) (pk_var (i := 5) rfl)) (pl_C (pk_inr (T1 := tI) (pk_inr (T1 := tS) (pk_var (i := 14) rfl))) (pl_C (pk_inr (T1 := tI) (pk_inr (T1 := tS) (pk_var (i := 13) rfl))) pl_0))) (Nat.le_of_ble_eq_true rfl))))))))))) ?a446 ?b447)
                                case a446 =>
                                 exact sk_retO pk_bl rfl
                                case b447 =>
                                 refine' sk_nilX rfl ?k448
                                 case k448 =>
                                  exact sk_retO (pk_fn g_alikeL.F (slC sl1) (hr.mono (by decide)) g_alikeL.m g_alikeL.k g_alikeL.b (pa_C (NK.pk (nk_lst (pl_C (pk_inr (T1 := tI) (pk_inl (T2 := (tL tS)) (pk_xfV a_name (ea12 xs.c_NoText xs.c_Twice xs.c_BadStep xs.c_BadGood xs.c_NoLetter xs.c_NoDesk xs.c_OtherLetters xs.c_Notices xs.c_TooMany xs.c_NoName xs.c_NoKind xs.c_NoRow).ct (hl_name xs.n_Twice_name xs.n_NoName_name) (pk_mTwice xs.c_Twice xi_Twice (hr.mono (by decide)) pk_str)))) (pl_C (pk_inl (T2 := (tSm tS (tL tS))) (pk_xfV a_state (ea12 xs.c_NoText xs.c_Twice xs.c_BadStep xs.c_BadGood xs.c_NoLetter xs.c_NoDesk xs.c_OtherLetters xs.c_Notices xs.c_TooMany xs.c_NoName xs.c_NoKind xs.c_NoRow).ct (hl_state xs.n_BadStep_state xs.n_BadGood_state) (pk_mBadStep xs.c_BadStep xi_BadStep (hr.mono (by decide)) (pk_var (i := 6) rfl) pk_str))) (pl_C (pk_inr (T1 := tI) (pk_inl (T2 := (tL tS)) (pk_xfV a_letter (ea12 xs.c_NoText xs.c_Twice xs.c_BadStep xs.c_BadGood xs.c_NoLetter xs.c_NoDesk xs.c_OtherLetters xs.c_Notices xs.c_TooMany xs.c_NoName xs.c_NoKind xs.c_NoRow).ct (hl_letter xs.n_BadStep_letter xs.n_NoLetter_letter) (pk_mBadStep xs.c_BadStep xi_BadStep (hr.mono (by decide)) (pk_var (i := 6) rfl) pk_str)))) (pl_C (pk_inr (T1 := tI) (pk_inl (T2 := (tL tS)) (pk_xfV a_name (ea12 xs.c_NoText xs.c_Twice xs.c_BadStep xs.c_BadGood xs.c_NoLetter xs.c_NoDesk xs.c_OtherLetters xs.c_Notices xs.c_TooMany xs.c_NoName xs.c_NoKind xs.c_NoRow).ct (hl_name xs.n_Twice_name xs.n_NoName_name) (pk_mNoName xs.c_NoName xi_NoName (hr.mono (by decide)) pk_str)))) pl_0)))) (Nat.le_of_ble_eq_true rfl))) (pa_1 (NK.pk (nk_lst (pl_C (pk_inr (T1 := tI) (pk_inl (T2 := (tL tS)) pk_str)) (pl_C (pk_inl (T2 := (tSm tS (tL tS))) (pk_var (i := 6) rfl)) (pl_C (pk_inr (T1 := tI) (pk_inl (T2 := (tL tS)) pk_str)) (pl_C (pk_inr (T1 := tI) (pk_inl (T2 := (tL tS)) pk_str)) pl_0)))) (Nat.le_of_ble_eq_true rfl)))))) rfl
  case vc =>
   intro h
   simp only [true_and, and_true, yes1, yes2]
   obtain ⟨l, fl, u⟩ := a
   obtain ⟨hf, hφ⟩ := h
   have hf : Fl fl := hf
   have hφ : ∀ w, Fl w → φ (true, w) := fun w hw => hφ _ _ ⟨rfl, hw⟩
   refine ⟨⟨by omega, by omega⟩, fun i acc z => Fl z ∧ acc.length = i, ⟨hf, rfl⟩, fun i acc z x hx ⟨i1, i2⟩ => ⟨fun _ => ⟨i1, fun r w f1 => ⟨f1, by rw [List.length_append, i2]; rfl⟩⟩, fun e => (by cases e)⟩, fun acc z ⟨i1, i2⟩ => ?_⟩
   rw [rng_length] at i2
   refine ⟨by omega, fun ⟨na, nb, nc, nd, nf, ng⟩ _ w0 ew0 => ⟨⟨by rw [ew0]; exact i1, by decide, by decide⟩, fun r w1 ⟨⟨r6, _, _⟩, f1⟩ => ⟨by omega, fun ⟨su, sv, sw, sx, sy, sz⟩ _ w2 ew2 => ⟨⟨by rw [ew2]; exact f1, by decide, by decide⟩, fun q w3 ⟨q0, q1, f3⟩ one eone w4 ew4 => ?_⟩⟩⟩⟩
   have f4 : Fl w4 := by rw [ew4]; exact f3
   have l1 : one.length ≤ 6 := by
     have hq : q = ((q.toNat : Nat) : Int) := by omega
     rw [eone, hq, cutA_to', List.length_take]
     exact Nat.min_le_right _ _
   clear eone ew4 ew2 ew0
   dsimp only
   refine ⟨by rw [List.length_reverse, sizeLine_eq]; show one.length + 1 ≤ _; omega, fun other eother some0 es0 => ?_⟩
   have l2 : other.length ≤ 100 := by rw [eother, List.length_append, List.length_reverse]; show one.length + 1 ≤ _; omega
   clear eother
   refine ⟨by rw [es0, sizeLine_eq]; exact Nat.le_of_ble_eq_true rfl, fun some1 es1 => ?_⟩
   have es : some1 = someX na nb nc nd su sv sw sx sy one other := by rw [es1, es0]
   clear es1 es0
   subst es
   refine ⟨fun _ _ => True, trivial, fun i z x hx _ => ?_, fun _ _ more emore less eless => ?_⟩
   · have hs := sorts_right hx
     refine ⟨trivial, ⟨by omega, by omega⟩, fun j acc _ => acc = ((rng 0 12).take j).map fun t => decide (t = x.1), rfl, fun j acc _ t ht hI => ⟨fun _ => ?_, fun e => (by cases e)⟩, fun acc _ hI => ?_⟩
     · dsimp only at hI ⊢
       rw [map_step _ ht, hI]
     · dsimp only at hI
       rw [List.take_length] at hI
       have e : K01.f_sorts x.2 = acc := hs.trans hI.symm
       rw [rfB_true]
       refine ⟨fun z => ?_, fun _ => ⟨fun _ => trivial, fun z => (by cases z), fun _ => trivial⟩⟩
       rw [decide_eq_true e] at z
       cases z
   · subst emore
     subst eless
     have ix : ∀ k : Int, 0 ≤ k → k < 12 → IxOk (someX na nb nc nd su sv sw sx sy one other) k := fun k h0 h1 => ⟨by show -(12 : Int) ≤ k; omega, by show k < (12 : Int); omega⟩
     refine ⟨⟨⟨ix 0 (by decide) (by decide), rfl⟩, ⟨ix 1 (by decide) (by decide), rfl⟩, ⟨ix 2 (by decide) (by decide), rfl⟩, ⟨ix 2 (by decide) (by decide), rfl⟩, ⟨ix 3 (by decide) (by decide), rfl⟩, ix 4 (by decide) (by decide), rfl⟩, fun found0 ef0 => ⟨⟨⟨⟨ix 5 (by decide) (by decide), rfl⟩, ⟨ix 7 (by decide) (by decide), rfl⟩, ⟨ix 7 (by decide) (by decide), rfl⟩, ⟨ix 8 (by decide) (by decide), rfl⟩, ix 9 (by decide) (by decide), rfl⟩, by rw [ef0, sizeLine_eq]; exact Nat.le_of_ble_eq_true rfl⟩, fun found ef due ed => ?_⟩⟩
     have l1 : one.length ≤ 100 := by omega
     have efd : found = due := by
       rw [ef, ef0, ed]
       rfl
     have okd : ∀ v ∈ found, OkV v := by
       rw [efd, ed]
       intro v hv
       simp only [List.mem_cons, List.not_mem_nil, or_false] at hv
       rcases hv with rfl | rfl | rfl | rfl | rfl | rfl | rfl | rfl | rfl | rfl | rfl
       · trivial
       · trivial
       · trivial
       · trivial
       · trivial
       · trivial
       · trivial
       · exact l1
       · exact l2
       · trivial
       · trivial
     have lf : found.length ≤ 100 := by rw [efd, ed]; exact Nat.le_of_ble_eq_true rfl
     refine ⟨⟨⟨efd, lf, okd⟩, fun _ => ⟨⟨rfl, rfl, rfl⟩, rfl, Nat.le_of_ble_eq_true rfl, ?_⟩⟩, fun z => (by cases z), fun _ => ⟨⟨⟨rfl, rfl, rfl, rfl⟩, rfl, Nat.le_of_ble_eq_true rfl, ?_⟩, hφ _ f4⟩⟩
     · intro v hv
       have hv : v ∈ ([.inl nf, .inr (.inr other), .inr (.inr one)] : List Vs) := hv
       simp only [List.mem_cons, List.not_mem_nil, or_false] at hv
       rcases hv with rfl | rfl | rfl
       · trivial
       · exact l2
       · exact l1
     · intro v hv
       have hv : v ∈ ([.inr (.inl ""), .inl ng, .inr (.inl ""), .inr (.inl "")] : List Vs) := hv
       simp only [List.mem_cons, List.not_mem_nil, or_false] at hv
       rcases hv with rfl | rfl | rfl | rfl <;> trivial
abbrev s_law : Stmt := topS 23
theorem sc_law : FnScope ["_law_script", "_law_k"] ["_law_script"] (defScope s_law) := ⟨rfl, rfl, rfl, by decide +kernel, rfl, by decide +kernel, by decide +kernel⟩
def c_law (K : PySem.W.Frag) := Con.fn (K := K) (fun x : (List Int) => [.val (tLK tI) x]) tB pre_law f_law
theorem ok_law (bs : Bs mg) {f_flow : Addr} {fd_flow : FuncData} (g_flow : Cal P w K mg base "_law_flow" 2 ["_law_script", "_law_k"] (c_flow K).sp f_flow fd_flow) {f_right : Addr} {fd_right : FuncData} (g_right : Cal P w K mg base "_law_right" 5 ["_law_flow_here"] (c_right K).sp f_right fd_right) {f : Addr} {fd : FuncData} (F : Fun K "law" "law" s_law f fd) : FnOk P w K mg base (L2.CX P w) 6 f fd ["_law_script"] (c_law K).sp := by
  refine fn_con (c_law K) F sc_law (fun _ => rfl) ?_
  intro cdv Ar outer s H E F0 a φ ε hr hp
  have hu := hu_of hr
  have sc := sc_law
  refine' SK.vc ?hh ?vc
  case hh =>
   refine' sk_for (fun _ : Unit => [.val (tLK tI) a, .un]) (fun _ : Unit => []) () hp rfl (ik_range1 bs.m_range (pk_cb (call_max2 rfl) bs.m_max bs.b_max rc_max2 (pa_C pk_int (pa_1 (PV.k (pv_cb cr_lenQ bs.m_len bs.b_len u_len (PV.q (NK.l (nk_slL (PK.lk (pk_var (i := 0) rfl)) po_0 (po_1 pk_int)))))))))) (gk_name (i := 1) (by exact sc.nd)) (.same (.same .nil)) rfl ?b457 ?k458
   case b457 =>
    intro fl_5 hs_4 N_3 z_1 x_2
    refine' sk_st (ρ2 := [.val (tLK tI) a, .val tI x_2]) (cs2 := []) rfl rfl ?k459
    case k459 =>
     refine' sk_seq (sk_if1E (tk_not (tk_val (ek_o1M (cs1 := fun _ => []) (cs2 := fun y _ => [] ++ [⟨y.2.1, cL tI y.2.2⟩]) g_right.F sl0 hr g_right.m g_right.k g_right.b (ek_mk1 g_flow.F (slC sl1) (hr.mono (by decide)) g_flow.m g_flow.k g_flow.b (PAK.ak (pa_C (pk_var (i := 0) rfl) (pa_1 (pk_var (i := 1) rfl))))) ?lc60 ?lc61))) ?a462 ?b463)
     case lc60 =>
      exact fun y_6 => (PAK.ak pa_0)
     case lc61 =>
      exact fun _ _ => rfl
     case a462 =>
      intro y_7
      exact sk_retF pk_bl
     case b463 =>
      intro y_8
      refine' sk_nilX rfl ?k464
      case k464 =>
       exact sk_midX (z := ()) rfl (.same (.un .nil)) rfl
   case k458 =>
    intro z_1
    exact sk_retF pk_bl
  case vc =>
   intro h
   simp only [true_and, and_true, yes1, yes2]
   obtain ⟨hl, hφ⟩ := h
   have hl : a.length ≤ 63 := hl
   have hφ : φ true := hφ _ rfl
   have hc : (cutA a none (some 6)).length ≤ 6 := by
     rw [show (some (6 : Int)) = some ((6 : Nat) : Int) from rfl, cutA_to', List.length_take]
     omega
   have nb : (if ((cutA a none (some 6)).length : Int) > 1 then ((cutA a none (some 6)).length : Int) else 1) ≤ 6 := by split <;> omega
   refine ⟨⟨by split <;> omega, by omega⟩, fun _ _ => True, trivial, fun i z x hx _ => ?_, fun _ _ => hφ⟩
   obtain ⟨ex, hi⟩ := rng_get hx
   refine ⟨⟨by show 0 ≤ x; omega, by show x ≤ 1000000; omega⟩, fun _ c f1 => ⟨f1, fun r w ⟨er, f2⟩ => ⟨fun e => ?_, fun _ => trivial⟩⟩⟩
   rw [er] at e
   cases e
end
end K01
namespace K01
open PySem PySem.Spec PyProof.Rows L2 MD KP
theorem law_sp {K : PySem.W.Frag} {H : Hp} {a : Addr} {ns : List Int} (hl : ns.length ≤ 63) (hS : SqL K H a (ns.map V.int)) : (c_law K).sp [.ref a] H (fun v _ => v = .bl true) fun _ _ _ => False :=
  ⟨ns, H, .cons ⟨.ref a, rfl, a, ns.map V.int, rfl, hS, rl_of_ints, by rw [List.length_map, sizeLine_eq]; omega⟩ .nil, Same.refl H, fun c hc => (by cases hc), List.nodup_nil, hl, fun r er v F' H' _ hv => by
    subst er
    exact hv⟩
theorem all_mk {l : PySem.W.OpenLaw} {w : World} {K : PySem.W.Frag} {h : Heap} {mg : Str → Option Value} {fa f_cell f_flow f_draw f_names f_sorts f_alike f_number f_right f_law C_BadGood C_BadStep C_MeetError C_NoDesk C_NoKind C_NoLetter C_NoName C_NoRow C_NoText C_Notices C_OtherLetters C_TooMany C_Twice f_BadGood f_BadStep f_NoDesk f_NoLetter f_NoName f_NoText f_Notices f_TooMany f_Twice : Addr} (X : K.In h) (G : h.Ns mainGlobals mg) (hfa : mg "law" = some (.ref fa))
    {oc0 kV0 dc0 pm0 cd0 ct0 : Value} {od0 an0 : Option Addr} {sl0 : Array (Option Value)}
    {oc1 kV1 dc1 pm1 cd1 ct1 : Value} {od1 an1 : Option Addr} {sl1 : Array (Option Value)}
    {oc2 kV2 dc2 pm2 cd2 ct2 : Value} {od2 an2 : Option Addr} {sl2 : Array (Option Value)}
    {oc3 kV3 dc3 pm3 cd3 ct3 : Value} {od3 an3 : Option Addr} {sl3 : Array (Option Value)}
    {oc4 kV4 dc4 pm4 cd4 ct4 : Value} {od4 an4 : Option Addr} {sl4 : Array (Option Value)}
    {oc5 kV5 dc5 pm5 cd5 ct5 : Value} {od5 an5 : Option Addr} {sl5 : Array (Option Value)}
    {oc6 kV6 dc6 pm6 cd6 ct6 : Value} {od6 an6 : Option Addr} {sl6 : Array (Option Value)}
    {oc7 kV7 dc7 pm7 cd7 ct7 : Value} {od7 an7 : Option Addr} {sl7 : Array (Option Value)}
    {oc8 kV8 dc8 pm8 cd8 ct8 : Value} {od8 an8 : Option Addr} {sl8 : Array (Option Value)}
    {nmX0 qX0 : Str} {NX0 : Addr} {bsX0 : List Value} {snX0 : List Str} {subX0 : List Value} {abX0 : Bool} {colX0 : Option Bool} {ddX0 : Option Addr} {m0X0 m1X0 m2X0 m3X0 m5X0 : Option Value}
    {nmX1 qX1 : Str} {NX1 : Addr} {bsX1 : List Value} {snX1 : List Str} {subX1 : List Value} {abX1 : Bool} {colX1 : Option Bool} {ddX1 : Option Addr} {m0X1 m1X1 m2X1 m3X1 m5X1 : Option Value}
    {nmX2 qX2 : Str} {NX2 : Addr} {bsX2 : List Value} {snX2 : List Str} {subX2 : List Value} {abX2 : Bool} {colX2 : Option Bool} {ddX2 : Option Addr} {m0X2 m1X2 m2X2 m3X2 m5X2 : Option Value}
    {nmX3 qX3 : Str} {NX3 : Addr} {bsX3 : List Value} {snX3 : List Str} {subX3 : List Value} {abX3 : Bool} {colX3 : Option Bool} {ddX3 : Option Addr} {m0X3 m1X3 m2X3 m3X3 m5X3 : Option Value}
    {nmX4 qX4 : Str} {NX4 : Addr} {bsX4 : List Value} {snX4 : List Str} {subX4 : List Value} {abX4 : Bool} {colX4 : Option Bool} {ddX4 : Option Addr} {m0X4 m1X4 m2X4 m3X4 m5X4 : Option Value}
    {nmX5 qX5 : Str} {NX5 : Addr} {bsX5 : List Value} {snX5 : List Str} {subX5 : List Value} {abX5 : Bool} {colX5 : Option Bool} {ddX5 : Option Addr} {m0X5 m1X5 m2X5 m3X5 m5X5 : Option Value}
    {nmX6 qX6 : Str} {NX6 : Addr} {bsX6 : List Value} {snX6 : List Str} {subX6 : List Value} {abX6 : Bool} {colX6 : Option Bool} {ddX6 : Option Addr} {m0X6 m1X6 m2X6 m3X6 m5X6 : Option Value}
    {nmX7 qX7 : Str} {NX7 : Addr} {bsX7 : List Value} {snX7 : List Str} {subX7 : List Value} {abX7 : Bool} {colX7 : Option Bool} {ddX7 : Option Addr} {m0X7 m1X7 m2X7 m3X7 m5X7 : Option Value}
    {nmX8 qX8 : Str} {NX8 : Addr} {bsX8 : List Value} {snX8 : List Str} {subX8 : List Value} {abX8 : Bool} {colX8 : Option Bool} {ddX8 : Option Addr} {m0X8 m1X8 m2X8 m3X8 m5X8 : Option Value}
    {nmX9 qX9 : Str} {NX9 : Addr} {bsX9 : List Value} {snX9 : List Str} {subX9 : List Value} {abX9 : Bool} {colX9 : Option Bool} {ddX9 : Option Addr} {m0X9 m1X9 m2X9 m3X9 m5X9 : Option Value}
    {nmX10 qX10 : Str} {NX10 : Addr} {bsX10 : List Value} {snX10 : List Str} {subX10 : List Value} {abX10 : Bool} {colX10 : Option Bool} {ddX10 : Option Addr} {m0X10 m1X10 m2X10 m3X10 m5X10 : Option Value}
    {nmX11 qX11 : Str} {NX11 : Addr} {bsX11 : List Value} {snX11 : List Str} {subX11 : List Value} {abX11 : Bool} {colX11 : Option Bool} {ddX11 : Option Addr} {m0X11 m1X11 m2X11 m3X11 m5X11 : Option Value}
    {ocI0 kVI0 dcI0 pmI0 cdI0 ctI0 : Value} {odI0 anI0 : Option Addr} {slI0 : Array (Option Value)}
    {ocI1 kVI1 dcI1 pmI1 cdI1 ctI1 : Value} {odI1 anI1 : Option Addr} {slI1 : Array (Option Value)}
    {ocI2 kVI2 dcI2 pmI2 cdI2 ctI2 : Value} {odI2 anI2 : Option Addr} {slI2 : Array (Option Value)}
    {ocI3 kVI3 dcI3 pmI3 cdI3 ctI3 : Value} {odI3 anI3 : Option Addr} {slI3 : Array (Option Value)}
    {ocI4 kVI4 dcI4 pmI4 cdI4 ctI4 : Value} {odI4 anI4 : Option Addr} {slI4 : Array (Option Value)}
    {ocI5 kVI5 dcI5 pmI5 cdI5 ctI5 : Value} {odI5 anI5 : Option Addr} {slI5 : Array (Option Value)}
    {ocI6 kVI6 dcI6 pmI6 cdI6 ctI6 : Value} {odI6 anI6 : Option Addr} {slI6 : Array (Option Value)}
    {ocI7 kVI7 dcI7 pmI7 cdI7 ctI7 : Value} {odI7 anI7 : Option Addr} {slI7 : Array (Option Value)}
    {ocI8 kVI8 dcI8 pmI8 cdI8 ctI8 : Value} {odI8 anI8 : Option Addr} {slI8 : Array (Option Value)}
    (a0 : PySem.W.nsIn K mainGlobals "_law_cell" = some (some (.ref f_cell)))
    (l0 : K.lookup f_cell = some ⟨oc0, od0, .func (PySem.W.fnOf "_law_cell" "_law_cell" (defArgs s_cell) (defBody s_cell) (defScope s_cell) .none kV0 dc0 pm0 an0 cd0 ct0), sl0⟩)
    (c0 : PySem.W.codeIn K cd0 "_law_cell" = true)
    (k0 : PySem.W.keepIn K (.ref f_cell) = true)
    (a1 : PySem.W.nsIn K mainGlobals "_law_flow" = some (some (.ref f_flow)))
    (l1 : K.lookup f_flow = some ⟨oc1, od1, .func (PySem.W.fnOf "_law_flow" "_law_flow" (defArgs s_flow) (defBody s_flow) (defScope s_flow) .none kV1 dc1 pm1 an1 cd1 ct1), sl1⟩)
    (c1 : PySem.W.codeIn K cd1 "_law_flow" = true)
    (k1 : PySem.W.keepIn K (.ref f_flow) = true)
    (a2 : PySem.W.nsIn K mainGlobals "_law_draw" = some (some (.ref f_draw)))
    (l2 : K.lookup f_draw = some ⟨oc2, od2, .func (PySem.W.fnOf "_law_draw" "_law_draw" (defArgs s_draw) (defBody s_draw) (defScope s_draw) .none kV2 dc2 pm2 an2 cd2 ct2), sl2⟩)
    (c2 : PySem.W.codeIn K cd2 "_law_draw" = true)
    (k2 : PySem.W.keepIn K (.ref f_draw) = true)
    (a3 : PySem.W.nsIn K mainGlobals "_law_names" = some (some (.ref f_names)))
    (l3 : K.lookup f_names = some ⟨oc3, od3, .func (PySem.W.fnOf "_law_names" "_law_names" (defArgs s_names) (defBody s_names) (defScope s_names) .none kV3 dc3 pm3 an3 cd3 ct3), sl3⟩)
    (c3 : PySem.W.codeIn K cd3 "_law_names" = true)
    (k3 : PySem.W.keepIn K (.ref f_names) = true)
    (a4 : PySem.W.nsIn K mainGlobals "_law_sorts" = some (some (.ref f_sorts)))
    (l4 : K.lookup f_sorts = some ⟨oc4, od4, .func (PySem.W.fnOf "_law_sorts" "_law_sorts" (defArgs s_sorts) (defBody s_sorts) (defScope s_sorts) .none kV4 dc4 pm4 an4 cd4 ct4), sl4⟩)
    (c4 : PySem.W.codeIn K cd4 "_law_sorts" = true)
    (k4 : PySem.W.keepIn K (.ref f_sorts) = true)
    (a5 : PySem.W.nsIn K mainGlobals "_law_alike" = some (some (.ref f_alike)))
    (l5 : K.lookup f_alike = some ⟨oc5, od5, .func (PySem.W.fnOf "_law_alike" "_law_alike" (defArgs s_alikeI) (defBody s_alikeI) (defScope s_alikeI) .none kV5 dc5 pm5 an5 cd5 ct5), sl5⟩)
    (c5 : PySem.W.codeIn K cd5 "_law_alike" = true)
    (k5 : PySem.W.keepIn K (.ref f_alike) = true)
    (a6 : PySem.W.nsIn K mainGlobals "_law_number" = some (some (.ref f_number)))
    (l6 : K.lookup f_number = some ⟨oc6, od6, .func (PySem.W.fnOf "_law_number" "_law_number" (defArgs s_number) (defBody s_number) (defScope s_number) .none kV6 dc6 pm6 an6 cd6 ct6), sl6⟩)
    (c6 : PySem.W.codeIn K cd6 "_law_number" = true)
    (k6 : PySem.W.keepIn K (.ref f_number) = true)
    (a7 : PySem.W.nsIn K mainGlobals "_law_right" = some (some (.ref f_right)))
    (l7 : K.lookup f_right = some ⟨oc7, od7, .func (PySem.W.fnOf "_law_right" "_law_right" (defArgs s_right) (defBody s_right) (defScope s_right) .none kV7 dc7 pm7 an7 cd7 ct7), sl7⟩)
    (c7 : PySem.W.codeIn K cd7 "_law_right" = true)
    (k7 : PySem.W.keepIn K (.ref f_right) = true)
    (a8 : PySem.W.nsIn K mainGlobals "law" = some (some (.ref f_law)))
    (l8 : K.lookup f_law = some ⟨oc8, od8, .func (PySem.W.fnOf "law" "law" (defArgs s_law) (defBody s_law) (defScope s_law) .none kV8 dc8 pm8 an8 cd8 ct8), sl8⟩)
    (c8 : PySem.W.codeIn K cd8 "law" = true)
    (k8 : PySem.W.keepIn K (.ref f_law) = true)
    (z_len : PySem.W.nsIn K mainGlobals "len" = some none)
    (z_range : PySem.W.nsIn K mainGlobals "range" = some none)
    (z_list : PySem.W.nsIn K mainGlobals "list" = some none)
    (z_isinstance : PySem.W.nsIn K mainGlobals "isinstance" = some none)
    (z_all : PySem.W.nsIn K mainGlobals "all" = some none)
    (z_int : PySem.W.nsIn K mainGlobals "int" = some none)
    (z_max : PySem.W.nsIn K mainGlobals "max" = some none)
    (z_bool : PySem.W.nsIn K mainGlobals "bool" = some none)
    (z_str : PySem.W.nsIn K mainGlobals "str" = some none)
    (z_enumerate : PySem.W.nsIn K mainGlobals "enumerate" = some none)
    (z_zip : PySem.W.nsIn K mainGlobals "zip" = some none)
    (z_ValueError : PySem.W.nsIn K mainGlobals "ValueError" = some none)
    (aX_BadGood : PySem.W.nsIn K mainGlobals "BadGood" = some (some (.ref C_BadGood)))
    (sb_BadGood : PySem.W.subIn K (.ref C_BadGood) (.type "BaseException") = some true)
    (hx_BadGood : PySem.W.hasDictIn K C_BadGood = true)
    (tx_BadGood : PySem.W.typeIn K (.ref C_BadGood) = some (.type "type"))
    (ss_BadGood : PySem.W.subIn K (.ref C_BadGood) (.ref C_BadGood) = some true)
    (aX_BadStep : PySem.W.nsIn K mainGlobals "BadStep" = some (some (.ref C_BadStep)))
    (sb_BadStep : PySem.W.subIn K (.ref C_BadStep) (.type "BaseException") = some true)
    (hx_BadStep : PySem.W.hasDictIn K C_BadStep = true)
    (tx_BadStep : PySem.W.typeIn K (.ref C_BadStep) = some (.type "type"))
    (ss_BadStep : PySem.W.subIn K (.ref C_BadStep) (.ref C_BadStep) = some true)
    (aX_MeetError : PySem.W.nsIn K mainGlobals "MeetError" = some (some (.ref C_MeetError)))
    (sb_MeetError : PySem.W.subIn K (.ref C_MeetError) (.type "BaseException") = some true)
    (hx_MeetError : PySem.W.hasDictIn K C_MeetError = true)
    (tx_MeetError : PySem.W.typeIn K (.ref C_MeetError) = some (.type "type"))
    (ss_MeetError : PySem.W.subIn K (.ref C_MeetError) (.ref C_MeetError) = some true)
    (aX_NoDesk : PySem.W.nsIn K mainGlobals "NoDesk" = some (some (.ref C_NoDesk)))
    (sb_NoDesk : PySem.W.subIn K (.ref C_NoDesk) (.type "BaseException") = some true)
    (hx_NoDesk : PySem.W.hasDictIn K C_NoDesk = true)
    (tx_NoDesk : PySem.W.typeIn K (.ref C_NoDesk) = some (.type "type"))
    (ss_NoDesk : PySem.W.subIn K (.ref C_NoDesk) (.ref C_NoDesk) = some true)
    (aX_NoKind : PySem.W.nsIn K mainGlobals "NoKind" = some (some (.ref C_NoKind)))
    (sb_NoKind : PySem.W.subIn K (.ref C_NoKind) (.type "BaseException") = some true)
    (hx_NoKind : PySem.W.hasDictIn K C_NoKind = true)
    (tx_NoKind : PySem.W.typeIn K (.ref C_NoKind) = some (.type "type"))
    (ss_NoKind : PySem.W.subIn K (.ref C_NoKind) (.ref C_NoKind) = some true)
    (aX_NoLetter : PySem.W.nsIn K mainGlobals "NoLetter" = some (some (.ref C_NoLetter)))
    (sb_NoLetter : PySem.W.subIn K (.ref C_NoLetter) (.type "BaseException") = some true)
    (hx_NoLetter : PySem.W.hasDictIn K C_NoLetter = true)
    (tx_NoLetter : PySem.W.typeIn K (.ref C_NoLetter) = some (.type "type"))
    (ss_NoLetter : PySem.W.subIn K (.ref C_NoLetter) (.ref C_NoLetter) = some true)
    (aX_NoName : PySem.W.nsIn K mainGlobals "NoName" = some (some (.ref C_NoName)))
    (sb_NoName : PySem.W.subIn K (.ref C_NoName) (.type "BaseException") = some true)
    (hx_NoName : PySem.W.hasDictIn K C_NoName = true)
    (tx_NoName : PySem.W.typeIn K (.ref C_NoName) = some (.type "type"))
    (ss_NoName : PySem.W.subIn K (.ref C_NoName) (.ref C_NoName) = some true)
    (aX_NoRow : PySem.W.nsIn K mainGlobals "NoRow" = some (some (.ref C_NoRow)))
    (sb_NoRow : PySem.W.subIn K (.ref C_NoRow) (.type "BaseException") = some true)
    (hx_NoRow : PySem.W.hasDictIn K C_NoRow = true)
    (tx_NoRow : PySem.W.typeIn K (.ref C_NoRow) = some (.type "type"))
    (ss_NoRow : PySem.W.subIn K (.ref C_NoRow) (.ref C_NoRow) = some true)
    (aX_NoText : PySem.W.nsIn K mainGlobals "NoText" = some (some (.ref C_NoText)))
    (sb_NoText : PySem.W.subIn K (.ref C_NoText) (.type "BaseException") = some true)
    (hx_NoText : PySem.W.hasDictIn K C_NoText = true)
    (tx_NoText : PySem.W.typeIn K (.ref C_NoText) = some (.type "type"))
    (ss_NoText : PySem.W.subIn K (.ref C_NoText) (.ref C_NoText) = some true)
    (aX_Notices : PySem.W.nsIn K mainGlobals "Notices" = some (some (.ref C_Notices)))
    (sb_Notices : PySem.W.subIn K (.ref C_Notices) (.type "BaseException") = some true)
    (hx_Notices : PySem.W.hasDictIn K C_Notices = true)
    (tx_Notices : PySem.W.typeIn K (.ref C_Notices) = some (.type "type"))
    (ss_Notices : PySem.W.subIn K (.ref C_Notices) (.ref C_Notices) = some true)
    (aX_OtherLetters : PySem.W.nsIn K mainGlobals "OtherLetters" = some (some (.ref C_OtherLetters)))
    (sb_OtherLetters : PySem.W.subIn K (.ref C_OtherLetters) (.type "BaseException") = some true)
    (hx_OtherLetters : PySem.W.hasDictIn K C_OtherLetters = true)
    (tx_OtherLetters : PySem.W.typeIn K (.ref C_OtherLetters) = some (.type "type"))
    (ss_OtherLetters : PySem.W.subIn K (.ref C_OtherLetters) (.ref C_OtherLetters) = some true)
    (aX_TooMany : PySem.W.nsIn K mainGlobals "TooMany" = some (some (.ref C_TooMany)))
    (sb_TooMany : PySem.W.subIn K (.ref C_TooMany) (.type "BaseException") = some true)
    (hx_TooMany : PySem.W.hasDictIn K C_TooMany = true)
    (tx_TooMany : PySem.W.typeIn K (.ref C_TooMany) = some (.type "type"))
    (ss_TooMany : PySem.W.subIn K (.ref C_TooMany) (.ref C_TooMany) = some true)
    (aX_Twice : PySem.W.nsIn K mainGlobals "Twice" = some (some (.ref C_Twice)))
    (sb_Twice : PySem.W.subIn K (.ref C_Twice) (.type "BaseException") = some true)
    (hx_Twice : PySem.W.hasDictIn K C_Twice = true)
    (tx_Twice : PySem.W.typeIn K (.ref C_Twice) = some (.type "type"))
    (ss_Twice : PySem.W.subIn K (.ref C_Twice) (.ref C_Twice) = some true)
    (xL_BadGood : K.lookup C_BadGood = some (excClassObj nmX0 qX0 C_BadGood NX0 bsX0 [.ref C_MeetError, .type "ValueError", .type "Exception", .type "BaseException", .type "object"] true snX0 subX0 abX0 colX0 ddX0 m0X0 m1X0 m2X0 m3X0 m5X0 "ValueError.__new__"))
    (sx_BadGood : PySem.W.findIn K (.ref C_BadGood) "__setattr__" = some (some (.builtin "object.__setattr__")))
    (kx_BadGood : PySem.W.keepIn K (.ref C_BadGood) = true)
    (gx_BadGood : PySem.W.findIn K (.ref C_BadGood) "__getattribute__" = some (some (.builtin "BaseException.__getattribute__")))
    (gg_BadGood : PySem.W.findIn K (.ref C_BadGood) "__getattr__" = some none)
    (gc_BadGood : PySem.W.findIn K (.ref C_BadGood) "__class__" = some (some (.builtin "object.__class__")))
    (mo_BadGood : PySem.W.mroIn K C_BadGood (.type "object") = some true)
    (xL_BadStep : K.lookup C_BadStep = some (excClassObj nmX1 qX1 C_BadStep NX1 bsX1 [.ref C_MeetError, .type "ValueError", .type "Exception", .type "BaseException", .type "object"] true snX1 subX1 abX1 colX1 ddX1 m0X1 m1X1 m2X1 m3X1 m5X1 "ValueError.__new__"))
    (sx_BadStep : PySem.W.findIn K (.ref C_BadStep) "__setattr__" = some (some (.builtin "object.__setattr__")))
    (kx_BadStep : PySem.W.keepIn K (.ref C_BadStep) = true)
    (gx_BadStep : PySem.W.findIn K (.ref C_BadStep) "__getattribute__" = some (some (.builtin "BaseException.__getattribute__")))
    (gg_BadStep : PySem.W.findIn K (.ref C_BadStep) "__getattr__" = some none)
    (gc_BadStep : PySem.W.findIn K (.ref C_BadStep) "__class__" = some (some (.builtin "object.__class__")))
    (mo_BadStep : PySem.W.mroIn K C_BadStep (.type "object") = some true)
    (xL_NoDesk : K.lookup C_NoDesk = some (excClassObj nmX2 qX2 C_NoDesk NX2 bsX2 [.ref C_MeetError, .type "ValueError", .type "Exception", .type "BaseException", .type "object"] true snX2 subX2 abX2 colX2 ddX2 m0X2 m1X2 m2X2 m3X2 m5X2 "ValueError.__new__"))
    (sx_NoDesk : PySem.W.findIn K (.ref C_NoDesk) "__setattr__" = some (some (.builtin "object.__setattr__")))
    (kx_NoDesk : PySem.W.keepIn K (.ref C_NoDesk) = true)
    (gx_NoDesk : PySem.W.findIn K (.ref C_NoDesk) "__getattribute__" = some (some (.builtin "BaseException.__getattribute__")))
    (gg_NoDesk : PySem.W.findIn K (.ref C_NoDesk) "__getattr__" = some none)
    (gc_NoDesk : PySem.W.findIn K (.ref C_NoDesk) "__class__" = some (some (.builtin "object.__class__")))
    (mo_NoDesk : PySem.W.mroIn K C_NoDesk (.type "object") = some true)
    (xL_NoKind : K.lookup C_NoKind = some (excClassObj nmX3 qX3 C_NoKind NX3 bsX3 [.ref C_MeetError, .type "ValueError", .type "Exception", .type "BaseException", .type "object"] true snX3 subX3 abX3 colX3 ddX3 m0X3 m1X3 m2X3 m3X3 m5X3 "ValueError.__new__"))
    (sx_NoKind : PySem.W.findIn K (.ref C_NoKind) "__setattr__" = some (some (.builtin "object.__setattr__")))
    (kx_NoKind : PySem.W.keepIn K (.ref C_NoKind) = true)
    (gx_NoKind : PySem.W.findIn K (.ref C_NoKind) "__getattribute__" = some (some (.builtin "BaseException.__getattribute__")))
    (gg_NoKind : PySem.W.findIn K (.ref C_NoKind) "__getattr__" = some none)
    (gc_NoKind : PySem.W.findIn K (.ref C_NoKind) "__class__" = some (some (.builtin "object.__class__")))
    (mo_NoKind : PySem.W.mroIn K C_NoKind (.type "object") = some true)
    (xL_NoLetter : K.lookup C_NoLetter = some (excClassObj nmX4 qX4 C_NoLetter NX4 bsX4 [.ref C_MeetError, .type "ValueError", .type "Exception", .type "BaseException", .type "object"] true snX4 subX4 abX4 colX4 ddX4 m0X4 m1X4 m2X4 m3X4 m5X4 "ValueError.__new__"))
    (sx_NoLetter : PySem.W.findIn K (.ref C_NoLetter) "__setattr__" = some (some (.builtin "object.__setattr__")))
    (kx_NoLetter : PySem.W.keepIn K (.ref C_NoLetter) = true)
    (gx_NoLetter : PySem.W.findIn K (.ref C_NoLetter) "__getattribute__" = some (some (.builtin "BaseException.__getattribute__")))
    (gg_NoLetter : PySem.W.findIn K (.ref C_NoLetter) "__getattr__" = some none)
    (gc_NoLetter : PySem.W.findIn K (.ref C_NoLetter) "__class__" = some (some (.builtin "object.__class__")))
    (mo_NoLetter : PySem.W.mroIn K C_NoLetter (.type "object") = some true)
    (xL_NoName : K.lookup C_NoName = some (excClassObj nmX5 qX5 C_NoName NX5 bsX5 [.ref C_MeetError, .type "ValueError", .type "Exception", .type "BaseException", .type "object"] true snX5 subX5 abX5 colX5 ddX5 m0X5 m1X5 m2X5 m3X5 m5X5 "ValueError.__new__"))
    (sx_NoName : PySem.W.findIn K (.ref C_NoName) "__setattr__" = some (some (.builtin "object.__setattr__")))
    (kx_NoName : PySem.W.keepIn K (.ref C_NoName) = true)
    (gx_NoName : PySem.W.findIn K (.ref C_NoName) "__getattribute__" = some (some (.builtin "BaseException.__getattribute__")))
    (gg_NoName : PySem.W.findIn K (.ref C_NoName) "__getattr__" = some none)
    (gc_NoName : PySem.W.findIn K (.ref C_NoName) "__class__" = some (some (.builtin "object.__class__")))
    (mo_NoName : PySem.W.mroIn K C_NoName (.type "object") = some true)
    (xL_NoRow : K.lookup C_NoRow = some (excClassObj nmX6 qX6 C_NoRow NX6 bsX6 [.ref C_MeetError, .type "ValueError", .type "Exception", .type "BaseException", .type "object"] true snX6 subX6 abX6 colX6 ddX6 m0X6 m1X6 m2X6 m3X6 m5X6 "ValueError.__new__"))
    (sx_NoRow : PySem.W.findIn K (.ref C_NoRow) "__setattr__" = some (some (.builtin "object.__setattr__")))
    (kx_NoRow : PySem.W.keepIn K (.ref C_NoRow) = true)
    (gx_NoRow : PySem.W.findIn K (.ref C_NoRow) "__getattribute__" = some (some (.builtin "BaseException.__getattribute__")))
    (gg_NoRow : PySem.W.findIn K (.ref C_NoRow) "__getattr__" = some none)
    (gc_NoRow : PySem.W.findIn K (.ref C_NoRow) "__class__" = some (some (.builtin "object.__class__")))
    (mo_NoRow : PySem.W.mroIn K C_NoRow (.type "object") = some true)
    (xL_NoText : K.lookup C_NoText = some (excClassObj nmX7 qX7 C_NoText NX7 bsX7 [.ref C_MeetError, .type "ValueError", .type "Exception", .type "BaseException", .type "object"] true snX7 subX7 abX7 colX7 ddX7 m0X7 m1X7 m2X7 m3X7 m5X7 "ValueError.__new__"))
    (sx_NoText : PySem.W.findIn K (.ref C_NoText) "__setattr__" = some (some (.builtin "object.__setattr__")))
    (kx_NoText : PySem.W.keepIn K (.ref C_NoText) = true)
    (gx_NoText : PySem.W.findIn K (.ref C_NoText) "__getattribute__" = some (some (.builtin "BaseException.__getattribute__")))
    (gg_NoText : PySem.W.findIn K (.ref C_NoText) "__getattr__" = some none)
    (gc_NoText : PySem.W.findIn K (.ref C_NoText) "__class__" = some (some (.builtin "object.__class__")))
    (mo_NoText : PySem.W.mroIn K C_NoText (.type "object") = some true)
    (xL_Notices : K.lookup C_Notices = some (excClassObj nmX8 qX8 C_Notices NX8 bsX8 [.ref C_MeetError, .type "ValueError", .type "Exception", .type "BaseException", .type "object"] true snX8 subX8 abX8 colX8 ddX8 m0X8 m1X8 m2X8 m3X8 m5X8 "ValueError.__new__"))
    (sx_Notices : PySem.W.findIn K (.ref C_Notices) "__setattr__" = some (some (.builtin "object.__setattr__")))
    (kx_Notices : PySem.W.keepIn K (.ref C_Notices) = true)
    (gx_Notices : PySem.W.findIn K (.ref C_Notices) "__getattribute__" = some (some (.builtin "BaseException.__getattribute__")))
    (gg_Notices : PySem.W.findIn K (.ref C_Notices) "__getattr__" = some none)
    (gc_Notices : PySem.W.findIn K (.ref C_Notices) "__class__" = some (some (.builtin "object.__class__")))
    (mo_Notices : PySem.W.mroIn K C_Notices (.type "object") = some true)
    (xL_OtherLetters : K.lookup C_OtherLetters = some (excClassObj nmX9 qX9 C_OtherLetters NX9 bsX9 [.ref C_MeetError, .type "ValueError", .type "Exception", .type "BaseException", .type "object"] true snX9 subX9 abX9 colX9 ddX9 m0X9 m1X9 m2X9 m3X9 m5X9 "ValueError.__new__"))
    (sx_OtherLetters : PySem.W.findIn K (.ref C_OtherLetters) "__setattr__" = some (some (.builtin "object.__setattr__")))
    (kx_OtherLetters : PySem.W.keepIn K (.ref C_OtherLetters) = true)
    (gx_OtherLetters : PySem.W.findIn K (.ref C_OtherLetters) "__getattribute__" = some (some (.builtin "BaseException.__getattribute__")))
    (gg_OtherLetters : PySem.W.findIn K (.ref C_OtherLetters) "__getattr__" = some none)
    (gc_OtherLetters : PySem.W.findIn K (.ref C_OtherLetters) "__class__" = some (some (.builtin "object.__class__")))
    (mo_OtherLetters : PySem.W.mroIn K C_OtherLetters (.type "object") = some true)
    (xL_TooMany : K.lookup C_TooMany = some (excClassObj nmX10 qX10 C_TooMany NX10 bsX10 [.ref C_MeetError, .type "ValueError", .type "Exception", .type "BaseException", .type "object"] true snX10 subX10 abX10 colX10 ddX10 m0X10 m1X10 m2X10 m3X10 m5X10 "ValueError.__new__"))
    (sx_TooMany : PySem.W.findIn K (.ref C_TooMany) "__setattr__" = some (some (.builtin "object.__setattr__")))
    (kx_TooMany : PySem.W.keepIn K (.ref C_TooMany) = true)
    (gx_TooMany : PySem.W.findIn K (.ref C_TooMany) "__getattribute__" = some (some (.builtin "BaseException.__getattribute__")))
    (gg_TooMany : PySem.W.findIn K (.ref C_TooMany) "__getattr__" = some none)
    (gc_TooMany : PySem.W.findIn K (.ref C_TooMany) "__class__" = some (some (.builtin "object.__class__")))
    (mo_TooMany : PySem.W.mroIn K C_TooMany (.type "object") = some true)
    (xL_Twice : K.lookup C_Twice = some (excClassObj nmX11 qX11 C_Twice NX11 bsX11 [.ref C_MeetError, .type "ValueError", .type "Exception", .type "BaseException", .type "object"] true snX11 subX11 abX11 colX11 ddX11 m0X11 m1X11 m2X11 m3X11 m5X11 "ValueError.__new__"))
    (sx_Twice : PySem.W.findIn K (.ref C_Twice) "__setattr__" = some (some (.builtin "object.__setattr__")))
    (kx_Twice : PySem.W.keepIn K (.ref C_Twice) = true)
    (gx_Twice : PySem.W.findIn K (.ref C_Twice) "__getattribute__" = some (some (.builtin "BaseException.__getattribute__")))
    (gg_Twice : PySem.W.findIn K (.ref C_Twice) "__getattr__" = some none)
    (gc_Twice : PySem.W.findIn K (.ref C_Twice) "__class__" = some (some (.builtin "object.__class__")))
    (mo_Twice : PySem.W.mroIn K C_Twice (.type "object") = some true)
    (oc1 : PySem.W.specialIn K (.builtin "object.__class__") "__get__" = some (some (.builtin "getset_descriptor.__get__")))
    (oc2 : PySem.W.takesIn K (.builtin "object.__class__") = some true)
    (oX_OtherLetters : PySem.W.excIn K C_OtherLetters [.type "ValueError", .type "Exception", .type "BaseException", .type "object"] "ValueError.__new__" = true)
    (oX_NoKind : PySem.W.excIn K C_NoKind [.type "ValueError", .type "Exception", .type "BaseException", .type "object"] "ValueError.__new__" = true)
    (oX_NoRow : PySem.W.excIn K C_NoRow [.type "ValueError", .type "Exception", .type "BaseException", .type "object"] "ValueError.__new__" = true)
    (n_BadGood_state : PySem.W.findIn K (.ref C_BadGood) "state" = some none)
    (n_BadStep_letter : PySem.W.findIn K (.ref C_BadStep) "letter" = some none)
    (n_BadStep_state : PySem.W.findIn K (.ref C_BadStep) "state" = some none)
    (n_NoDesk_desk : PySem.W.findIn K (.ref C_NoDesk) "desk" = some none)
    (n_NoLetter_letter : PySem.W.findIn K (.ref C_NoLetter) "letter" = some none)
    (n_NoName_name : PySem.W.findIn K (.ref C_NoName) "name" = some none)
    (n_NoText_line : PySem.W.findIn K (.ref C_NoText) "line" = some none)
    (n_Notices_one : PySem.W.findIn K (.ref C_Notices) "one" = some none)
    (n_Notices_other : PySem.W.findIn K (.ref C_Notices) "other" = some none)
    (n_TooMany_most : PySem.W.findIn K (.ref C_TooMany) "most" = some none)
    (n_Twice_name : PySem.W.findIn K (.ref C_Twice) "name" = some none)
    (sp_BadGood_BadStep : PySem.W.subIn K (.ref C_BadGood) (.ref C_BadStep) = some false)
    (sp_BadGood_MeetError : PySem.W.subIn K (.ref C_BadGood) (.ref C_MeetError) = some true)
    (sp_BadGood_NoDesk : PySem.W.subIn K (.ref C_BadGood) (.ref C_NoDesk) = some false)
    (sp_BadGood_NoKind : PySem.W.subIn K (.ref C_BadGood) (.ref C_NoKind) = some false)
    (sp_BadGood_NoLetter : PySem.W.subIn K (.ref C_BadGood) (.ref C_NoLetter) = some false)
    (sp_BadGood_NoName : PySem.W.subIn K (.ref C_BadGood) (.ref C_NoName) = some false)
    (sp_BadGood_NoRow : PySem.W.subIn K (.ref C_BadGood) (.ref C_NoRow) = some false)
    (sp_BadGood_NoText : PySem.W.subIn K (.ref C_BadGood) (.ref C_NoText) = some false)
    (sp_BadGood_Notices : PySem.W.subIn K (.ref C_BadGood) (.ref C_Notices) = some false)
    (sp_BadGood_OtherLetters : PySem.W.subIn K (.ref C_BadGood) (.ref C_OtherLetters) = some false)
    (sp_BadGood_TooMany : PySem.W.subIn K (.ref C_BadGood) (.ref C_TooMany) = some false)
    (sp_BadGood_Twice : PySem.W.subIn K (.ref C_BadGood) (.ref C_Twice) = some false)
    (sp_BadStep_BadGood : PySem.W.subIn K (.ref C_BadStep) (.ref C_BadGood) = some false)
    (sp_BadStep_MeetError : PySem.W.subIn K (.ref C_BadStep) (.ref C_MeetError) = some true)
    (sp_BadStep_NoDesk : PySem.W.subIn K (.ref C_BadStep) (.ref C_NoDesk) = some false)
    (sp_BadStep_NoKind : PySem.W.subIn K (.ref C_BadStep) (.ref C_NoKind) = some false)
    (sp_BadStep_NoLetter : PySem.W.subIn K (.ref C_BadStep) (.ref C_NoLetter) = some false)
    (sp_BadStep_NoName : PySem.W.subIn K (.ref C_BadStep) (.ref C_NoName) = some false)
    (sp_BadStep_NoRow : PySem.W.subIn K (.ref C_BadStep) (.ref C_NoRow) = some false)
    (sp_BadStep_NoText : PySem.W.subIn K (.ref C_BadStep) (.ref C_NoText) = some false)
    (sp_BadStep_Notices : PySem.W.subIn K (.ref C_BadStep) (.ref C_Notices) = some false)
    (sp_BadStep_OtherLetters : PySem.W.subIn K (.ref C_BadStep) (.ref C_OtherLetters) = some false)
    (sp_BadStep_TooMany : PySem.W.subIn K (.ref C_BadStep) (.ref C_TooMany) = some false)
    (sp_BadStep_Twice : PySem.W.subIn K (.ref C_BadStep) (.ref C_Twice) = some false)
    (sp_NoDesk_BadGood : PySem.W.subIn K (.ref C_NoDesk) (.ref C_BadGood) = some false)
    (sp_NoDesk_BadStep : PySem.W.subIn K (.ref C_NoDesk) (.ref C_BadStep) = some false)
    (sp_NoDesk_MeetError : PySem.W.subIn K (.ref C_NoDesk) (.ref C_MeetError) = some true)
    (sp_NoDesk_NoKind : PySem.W.subIn K (.ref C_NoDesk) (.ref C_NoKind) = some false)
    (sp_NoDesk_NoLetter : PySem.W.subIn K (.ref C_NoDesk) (.ref C_NoLetter) = some false)
    (sp_NoDesk_NoName : PySem.W.subIn K (.ref C_NoDesk) (.ref C_NoName) = some false)
    (sp_NoDesk_NoRow : PySem.W.subIn K (.ref C_NoDesk) (.ref C_NoRow) = some false)
    (sp_NoDesk_NoText : PySem.W.subIn K (.ref C_NoDesk) (.ref C_NoText) = some false)
    (sp_NoDesk_Notices : PySem.W.subIn K (.ref C_NoDesk) (.ref C_Notices) = some false)
    (sp_NoDesk_OtherLetters : PySem.W.subIn K (.ref C_NoDesk) (.ref C_OtherLetters) = some false)
    (sp_NoDesk_TooMany : PySem.W.subIn K (.ref C_NoDesk) (.ref C_TooMany) = some false)
    (sp_NoDesk_Twice : PySem.W.subIn K (.ref C_NoDesk) (.ref C_Twice) = some false)
    (sp_NoKind_BadGood : PySem.W.subIn K (.ref C_NoKind) (.ref C_BadGood) = some false)
    (sp_NoKind_BadStep : PySem.W.subIn K (.ref C_NoKind) (.ref C_BadStep) = some false)
    (sp_NoKind_MeetError : PySem.W.subIn K (.ref C_NoKind) (.ref C_MeetError) = some true)
    (sp_NoKind_NoDesk : PySem.W.subIn K (.ref C_NoKind) (.ref C_NoDesk) = some false)
    (sp_NoKind_NoLetter : PySem.W.subIn K (.ref C_NoKind) (.ref C_NoLetter) = some false)
    (sp_NoKind_NoName : PySem.W.subIn K (.ref C_NoKind) (.ref C_NoName) = some false)
    (sp_NoKind_NoRow : PySem.W.subIn K (.ref C_NoKind) (.ref C_NoRow) = some false)
    (sp_NoKind_NoText : PySem.W.subIn K (.ref C_NoKind) (.ref C_NoText) = some false)
    (sp_NoKind_Notices : PySem.W.subIn K (.ref C_NoKind) (.ref C_Notices) = some false)
    (sp_NoKind_OtherLetters : PySem.W.subIn K (.ref C_NoKind) (.ref C_OtherLetters) = some false)
    (sp_NoKind_TooMany : PySem.W.subIn K (.ref C_NoKind) (.ref C_TooMany) = some false)
    (sp_NoKind_Twice : PySem.W.subIn K (.ref C_NoKind) (.ref C_Twice) = some false)
    (sp_NoLetter_BadGood : PySem.W.subIn K (.ref C_NoLetter) (.ref C_BadGood) = some false)
    (sp_NoLetter_BadStep : PySem.W.subIn K (.ref C_NoLetter) (.ref C_BadStep) = some false)
    (sp_NoLetter_MeetError : PySem.W.subIn K (.ref C_NoLetter) (.ref C_MeetError) = some true)
    (sp_NoLetter_NoDesk : PySem.W.subIn K (.ref C_NoLetter) (.ref C_NoDesk) = some false)
    (sp_NoLetter_NoKind : PySem.W.subIn K (.ref C_NoLetter) (.ref C_NoKind) = some false)
    (sp_NoLetter_NoName : PySem.W.subIn K (.ref C_NoLetter) (.ref C_NoName) = some false)
    (sp_NoLetter_NoRow : PySem.W.subIn K (.ref C_NoLetter) (.ref C_NoRow) = some false)
    (sp_NoLetter_NoText : PySem.W.subIn K (.ref C_NoLetter) (.ref C_NoText) = some false)
    (sp_NoLetter_Notices : PySem.W.subIn K (.ref C_NoLetter) (.ref C_Notices) = some false)
    (sp_NoLetter_OtherLetters : PySem.W.subIn K (.ref C_NoLetter) (.ref C_OtherLetters) = some false)
    (sp_NoLetter_TooMany : PySem.W.subIn K (.ref C_NoLetter) (.ref C_TooMany) = some false)
    (sp_NoLetter_Twice : PySem.W.subIn K (.ref C_NoLetter) (.ref C_Twice) = some false)
    (sp_NoName_BadGood : PySem.W.subIn K (.ref C_NoName) (.ref C_BadGood) = some false)
    (sp_NoName_BadStep : PySem.W.subIn K (.ref C_NoName) (.ref C_BadStep) = some false)
    (sp_NoName_MeetError : PySem.W.subIn K (.ref C_NoName) (.ref C_MeetError) = some true)
    (sp_NoName_NoDesk : PySem.W.subIn K (.ref C_NoName) (.ref C_NoDesk) = some false)
    (sp_NoName_NoKind : PySem.W.subIn K (.ref C_NoName) (.ref C_NoKind) = some false)
    (sp_NoName_NoLetter : PySem.W.subIn K (.ref C_NoName) (.ref C_NoLetter) = some false)
    (sp_NoName_NoRow : PySem.W.subIn K (.ref C_NoName) (.ref C_NoRow) = some false)
    (sp_NoName_NoText : PySem.W.subIn K (.ref C_NoName) (.ref C_NoText) = some false)
    (sp_NoName_Notices : PySem.W.subIn K (.ref C_NoName) (.ref C_Notices) = some false)
    (sp_NoName_OtherLetters : PySem.W.subIn K (.ref C_NoName) (.ref C_OtherLetters) = some false)
    (sp_NoName_TooMany : PySem.W.subIn K (.ref C_NoName) (.ref C_TooMany) = some false)
    (sp_NoName_Twice : PySem.W.subIn K (.ref C_NoName) (.ref C_Twice) = some false)
    (sp_NoRow_BadGood : PySem.W.subIn K (.ref C_NoRow) (.ref C_BadGood) = some false)
    (sp_NoRow_BadStep : PySem.W.subIn K (.ref C_NoRow) (.ref C_BadStep) = some false)
    (sp_NoRow_MeetError : PySem.W.subIn K (.ref C_NoRow) (.ref C_MeetError) = some true)
    (sp_NoRow_NoDesk : PySem.W.subIn K (.ref C_NoRow) (.ref C_NoDesk) = some false)
    (sp_NoRow_NoKind : PySem.W.subIn K (.ref C_NoRow) (.ref C_NoKind) = some false)
    (sp_NoRow_NoLetter : PySem.W.subIn K (.ref C_NoRow) (.ref C_NoLetter) = some false)
    (sp_NoRow_NoName : PySem.W.subIn K (.ref C_NoRow) (.ref C_NoName) = some false)
    (sp_NoRow_NoText : PySem.W.subIn K (.ref C_NoRow) (.ref C_NoText) = some false)
    (sp_NoRow_Notices : PySem.W.subIn K (.ref C_NoRow) (.ref C_Notices) = some false)
    (sp_NoRow_OtherLetters : PySem.W.subIn K (.ref C_NoRow) (.ref C_OtherLetters) = some false)
    (sp_NoRow_TooMany : PySem.W.subIn K (.ref C_NoRow) (.ref C_TooMany) = some false)
    (sp_NoRow_Twice : PySem.W.subIn K (.ref C_NoRow) (.ref C_Twice) = some false)
    (sp_NoText_BadGood : PySem.W.subIn K (.ref C_NoText) (.ref C_BadGood) = some false)
    (sp_NoText_BadStep : PySem.W.subIn K (.ref C_NoText) (.ref C_BadStep) = some false)
    (sp_NoText_MeetError : PySem.W.subIn K (.ref C_NoText) (.ref C_MeetError) = some true)
    (sp_NoText_NoDesk : PySem.W.subIn K (.ref C_NoText) (.ref C_NoDesk) = some false)
    (sp_NoText_NoKind : PySem.W.subIn K (.ref C_NoText) (.ref C_NoKind) = some false)
    (sp_NoText_NoLetter : PySem.W.subIn K (.ref C_NoText) (.ref C_NoLetter) = some false)
    (sp_NoText_NoName : PySem.W.subIn K (.ref C_NoText) (.ref C_NoName) = some false)
    (sp_NoText_NoRow : PySem.W.subIn K (.ref C_NoText) (.ref C_NoRow) = some false)
    (sp_NoText_Notices : PySem.W.subIn K (.ref C_NoText) (.ref C_Notices) = some false)
    (sp_NoText_OtherLetters : PySem.W.subIn K (.ref C_NoText) (.ref C_OtherLetters) = some false)
    (sp_NoText_TooMany : PySem.W.subIn K (.ref C_NoText) (.ref C_TooMany) = some false)
    (sp_NoText_Twice : PySem.W.subIn K (.ref C_NoText) (.ref C_Twice) = some false)
    (sp_Notices_BadGood : PySem.W.subIn K (.ref C_Notices) (.ref C_BadGood) = some false)
    (sp_Notices_BadStep : PySem.W.subIn K (.ref C_Notices) (.ref C_BadStep) = some false)
    (sp_Notices_MeetError : PySem.W.subIn K (.ref C_Notices) (.ref C_MeetError) = some true)
    (sp_Notices_NoDesk : PySem.W.subIn K (.ref C_Notices) (.ref C_NoDesk) = some false)
    (sp_Notices_NoKind : PySem.W.subIn K (.ref C_Notices) (.ref C_NoKind) = some false)
    (sp_Notices_NoLetter : PySem.W.subIn K (.ref C_Notices) (.ref C_NoLetter) = some false)
    (sp_Notices_NoName : PySem.W.subIn K (.ref C_Notices) (.ref C_NoName) = some false)
    (sp_Notices_NoRow : PySem.W.subIn K (.ref C_Notices) (.ref C_NoRow) = some false)
    (sp_Notices_NoText : PySem.W.subIn K (.ref C_Notices) (.ref C_NoText) = some false)
    (sp_Notices_OtherLetters : PySem.W.subIn K (.ref C_Notices) (.ref C_OtherLetters) = some false)
    (sp_Notices_TooMany : PySem.W.subIn K (.ref C_Notices) (.ref C_TooMany) = some false)
    (sp_Notices_Twice : PySem.W.subIn K (.ref C_Notices) (.ref C_Twice) = some false)
    (sp_OtherLetters_BadGood : PySem.W.subIn K (.ref C_OtherLetters) (.ref C_BadGood) = some false)
    (sp_OtherLetters_BadStep : PySem.W.subIn K (.ref C_OtherLetters) (.ref C_BadStep) = some false)
    (sp_OtherLetters_MeetError : PySem.W.subIn K (.ref C_OtherLetters) (.ref C_MeetError) = some true)
    (sp_OtherLetters_NoDesk : PySem.W.subIn K (.ref C_OtherLetters) (.ref C_NoDesk) = some false)
    (sp_OtherLetters_NoKind : PySem.W.subIn K (.ref C_OtherLetters) (.ref C_NoKind) = some false)
    (sp_OtherLetters_NoLetter : PySem.W.subIn K (.ref C_OtherLetters) (.ref C_NoLetter) = some false)
    (sp_OtherLetters_NoName : PySem.W.subIn K (.ref C_OtherLetters) (.ref C_NoName) = some false)
    (sp_OtherLetters_NoRow : PySem.W.subIn K (.ref C_OtherLetters) (.ref C_NoRow) = some false)
    (sp_OtherLetters_NoText : PySem.W.subIn K (.ref C_OtherLetters) (.ref C_NoText) = some false)
    (sp_OtherLetters_Notices : PySem.W.subIn K (.ref C_OtherLetters) (.ref C_Notices) = some false)
    (sp_OtherLetters_TooMany : PySem.W.subIn K (.ref C_OtherLetters) (.ref C_TooMany) = some false)
    (sp_OtherLetters_Twice : PySem.W.subIn K (.ref C_OtherLetters) (.ref C_Twice) = some false)
    (sp_TooMany_BadGood : PySem.W.subIn K (.ref C_TooMany) (.ref C_BadGood) = some false)
    (sp_TooMany_BadStep : PySem.W.subIn K (.ref C_TooMany) (.ref C_BadStep) = some false)
    (sp_TooMany_MeetError : PySem.W.subIn K (.ref C_TooMany) (.ref C_MeetError) = some true)
    (sp_TooMany_NoDesk : PySem.W.subIn K (.ref C_TooMany) (.ref C_NoDesk) = some false)
    (sp_TooMany_NoKind : PySem.W.subIn K (.ref C_TooMany) (.ref C_NoKind) = some false)
    (sp_TooMany_NoLetter : PySem.W.subIn K (.ref C_TooMany) (.ref C_NoLetter) = some false)
    (sp_TooMany_NoName : PySem.W.subIn K (.ref C_TooMany) (.ref C_NoName) = some false)
    (sp_TooMany_NoRow : PySem.W.subIn K (.ref C_TooMany) (.ref C_NoRow) = some false)
    (sp_TooMany_NoText : PySem.W.subIn K (.ref C_TooMany) (.ref C_NoText) = some false)
    (sp_TooMany_Notices : PySem.W.subIn K (.ref C_TooMany) (.ref C_Notices) = some false)
    (sp_TooMany_OtherLetters : PySem.W.subIn K (.ref C_TooMany) (.ref C_OtherLetters) = some false)
    (sp_TooMany_Twice : PySem.W.subIn K (.ref C_TooMany) (.ref C_Twice) = some false)
    (sp_Twice_BadGood : PySem.W.subIn K (.ref C_Twice) (.ref C_BadGood) = some false)
    (sp_Twice_BadStep : PySem.W.subIn K (.ref C_Twice) (.ref C_BadStep) = some false)
    (sp_Twice_MeetError : PySem.W.subIn K (.ref C_Twice) (.ref C_MeetError) = some true)
    (sp_Twice_NoDesk : PySem.W.subIn K (.ref C_Twice) (.ref C_NoDesk) = some false)
    (sp_Twice_NoKind : PySem.W.subIn K (.ref C_Twice) (.ref C_NoKind) = some false)
    (sp_Twice_NoLetter : PySem.W.subIn K (.ref C_Twice) (.ref C_NoLetter) = some false)
    (sp_Twice_NoName : PySem.W.subIn K (.ref C_Twice) (.ref C_NoName) = some false)
    (sp_Twice_NoRow : PySem.W.subIn K (.ref C_Twice) (.ref C_NoRow) = some false)
    (sp_Twice_NoText : PySem.W.subIn K (.ref C_Twice) (.ref C_NoText) = some false)
    (sp_Twice_Notices : PySem.W.subIn K (.ref C_Twice) (.ref C_Notices) = some false)
    (sp_Twice_OtherLetters : PySem.W.subIn K (.ref C_Twice) (.ref C_OtherLetters) = some false)
    (sp_Twice_TooMany : PySem.W.subIn K (.ref C_Twice) (.ref C_TooMany) = some false)
    (st_BadGood_ValueError : PySem.W.subIn K (.ref C_BadGood) (.type "ValueError") = some true)
    (st_BadStep_ValueError : PySem.W.subIn K (.ref C_BadStep) (.type "ValueError") = some true)
    (st_NoDesk_ValueError : PySem.W.subIn K (.ref C_NoDesk) (.type "ValueError") = some true)
    (st_NoKind_ValueError : PySem.W.subIn K (.ref C_NoKind) (.type "ValueError") = some true)
    (st_NoLetter_ValueError : PySem.W.subIn K (.ref C_NoLetter) (.type "ValueError") = some true)
    (st_NoName_ValueError : PySem.W.subIn K (.ref C_NoName) (.type "ValueError") = some true)
    (st_NoRow_ValueError : PySem.W.subIn K (.ref C_NoRow) (.type "ValueError") = some true)
    (st_NoText_ValueError : PySem.W.subIn K (.ref C_NoText) (.type "ValueError") = some true)
    (st_Notices_ValueError : PySem.W.subIn K (.ref C_Notices) (.type "ValueError") = some true)
    (st_OtherLetters_ValueError : PySem.W.subIn K (.ref C_OtherLetters) (.type "ValueError") = some true)
    (st_TooMany_ValueError : PySem.W.subIn K (.ref C_TooMany) (.type "ValueError") = some true)
    (st_Twice_ValueError : PySem.W.subIn K (.ref C_Twice) (.type "ValueError") = some true)
    (iX_BadGood : PySem.W.findIn K (.ref C_BadGood) "__init__" = some (some (.ref f_BadGood)))
    (tI_BadGood : PySem.W.typeIn K (.ref f_BadGood) = some (.type "function"))
    (lI_BadGood : K.lookup f_BadGood = some ⟨ocI0, odI0, .func (PySem.W.fnOf "__init__" "BadGood.__init__" (defArgs s_BadGood_init) (defBody s_BadGood_init) (defScope s_BadGood_init) .none kVI0 dcI0 pmI0 anI0 cdI0 ctI0), slI0⟩)
    (cI_BadGood : PySem.W.codeIn K cdI0 "BadGood.__init__" = true)
    (kI_BadGood : PySem.W.keepIn K (.ref f_BadGood) = true)
    (iX_BadStep : PySem.W.findIn K (.ref C_BadStep) "__init__" = some (some (.ref f_BadStep)))
    (tI_BadStep : PySem.W.typeIn K (.ref f_BadStep) = some (.type "function"))
    (lI_BadStep : K.lookup f_BadStep = some ⟨ocI1, odI1, .func (PySem.W.fnOf "__init__" "BadStep.__init__" (defArgs s_BadStep_init) (defBody s_BadStep_init) (defScope s_BadStep_init) .none kVI1 dcI1 pmI1 anI1 cdI1 ctI1), slI1⟩)
    (cI_BadStep : PySem.W.codeIn K cdI1 "BadStep.__init__" = true)
    (kI_BadStep : PySem.W.keepIn K (.ref f_BadStep) = true)
    (iX_NoDesk : PySem.W.findIn K (.ref C_NoDesk) "__init__" = some (some (.ref f_NoDesk)))
    (tI_NoDesk : PySem.W.typeIn K (.ref f_NoDesk) = some (.type "function"))
    (lI_NoDesk : K.lookup f_NoDesk = some ⟨ocI2, odI2, .func (PySem.W.fnOf "__init__" "NoDesk.__init__" (defArgs s_NoDesk_init) (defBody s_NoDesk_init) (defScope s_NoDesk_init) .none kVI2 dcI2 pmI2 anI2 cdI2 ctI2), slI2⟩)
    (cI_NoDesk : PySem.W.codeIn K cdI2 "NoDesk.__init__" = true)
    (kI_NoDesk : PySem.W.keepIn K (.ref f_NoDesk) = true)
    (iX_NoLetter : PySem.W.findIn K (.ref C_NoLetter) "__init__" = some (some (.ref f_NoLetter)))
    (tI_NoLetter : PySem.W.typeIn K (.ref f_NoLetter) = some (.type "function"))
    (lI_NoLetter : K.lookup f_NoLetter = some ⟨ocI3, odI3, .func (PySem.W.fnOf "__init__" "NoLetter.__init__" (defArgs s_NoLetter_init) (defBody s_NoLetter_init) (defScope s_NoLetter_init) .none kVI3 dcI3 pmI3 anI3 cdI3 ctI3), slI3⟩)
    (cI_NoLetter : PySem.W.codeIn K cdI3 "NoLetter.__init__" = true)
    (kI_NoLetter : PySem.W.keepIn K (.ref f_NoLetter) = true)
    (iX_NoName : PySem.W.findIn K (.ref C_NoName) "__init__" = some (some (.ref f_NoName)))
    (tI_NoName : PySem.W.typeIn K (.ref f_NoName) = some (.type "function"))
    (lI_NoName : K.lookup f_NoName = some ⟨ocI4, odI4, .func (PySem.W.fnOf "__init__" "NoName.__init__" (defArgs s_NoName_init) (defBody s_NoName_init) (defScope s_NoName_init) .none kVI4 dcI4 pmI4 anI4 cdI4 ctI4), slI4⟩)
    (cI_NoName : PySem.W.codeIn K cdI4 "NoName.__init__" = true)
    (kI_NoName : PySem.W.keepIn K (.ref f_NoName) = true)
    (iX_NoText : PySem.W.findIn K (.ref C_NoText) "__init__" = some (some (.ref f_NoText)))
    (tI_NoText : PySem.W.typeIn K (.ref f_NoText) = some (.type "function"))
    (lI_NoText : K.lookup f_NoText = some ⟨ocI5, odI5, .func (PySem.W.fnOf "__init__" "NoText.__init__" (defArgs s_NoText_init) (defBody s_NoText_init) (defScope s_NoText_init) .none kVI5 dcI5 pmI5 anI5 cdI5 ctI5), slI5⟩)
    (cI_NoText : PySem.W.codeIn K cdI5 "NoText.__init__" = true)
    (kI_NoText : PySem.W.keepIn K (.ref f_NoText) = true)
    (iX_Notices : PySem.W.findIn K (.ref C_Notices) "__init__" = some (some (.ref f_Notices)))
    (tI_Notices : PySem.W.typeIn K (.ref f_Notices) = some (.type "function"))
    (lI_Notices : K.lookup f_Notices = some ⟨ocI6, odI6, .func (PySem.W.fnOf "__init__" "Notices.__init__" (defArgs s_Notices_init) (defBody s_Notices_init) (defScope s_Notices_init) .none kVI6 dcI6 pmI6 anI6 cdI6 ctI6), slI6⟩)
    (cI_Notices : PySem.W.codeIn K cdI6 "Notices.__init__" = true)
    (kI_Notices : PySem.W.keepIn K (.ref f_Notices) = true)
    (iX_TooMany : PySem.W.findIn K (.ref C_TooMany) "__init__" = some (some (.ref f_TooMany)))
    (tI_TooMany : PySem.W.typeIn K (.ref f_TooMany) = some (.type "function"))
    (lI_TooMany : K.lookup f_TooMany = some ⟨ocI7, odI7, .func (PySem.W.fnOf "__init__" "TooMany.__init__" (defArgs s_TooMany_init) (defBody s_TooMany_init) (defScope s_TooMany_init) .none kVI7 dcI7 pmI7 anI7 cdI7 ctI7), slI7⟩)
    (cI_TooMany : PySem.W.codeIn K cdI7 "TooMany.__init__" = true)
    (kI_TooMany : PySem.W.keepIn K (.ref f_TooMany) = true)
    (iX_Twice : PySem.W.findIn K (.ref C_Twice) "__init__" = some (some (.ref f_Twice)))
    (tI_Twice : PySem.W.typeIn K (.ref f_Twice) = some (.type "function"))
    (lI_Twice : K.lookup f_Twice = some ⟨ocI8, odI8, .func (PySem.W.fnOf "__init__" "Twice.__init__" (defArgs s_Twice_init) (defBody s_Twice_init) (defScope s_Twice_init) .none kVI8 dcI8 pmI8 anI8 cdI8 ctI8), slI8⟩)
    (cI_Twice : PySem.W.codeIn K cdI8 "Twice.__init__" = true)
    (kI_Twice : PySem.W.keepIn K (.ref f_Twice) = true)
    (mo1 : PySem.W.specialIn K (.ref C_MeetError) "__getattribute__" = some (some (.builtin "type.__getattribute__")))
    (mo2 : PySem.W.readsIn K C_MeetError (.type "type") = true)
    (mo3 : PySem.W.findCls K (.ref C_MeetError) (.type "type") "__init__" = some (.val (.builtin "ValueError.__init__")))
    : ∃ fd : FuncData, (∀ (s : Shared) (v : Value), BindsTo s fd ⟨[v], []⟩ [("_law_script", v)]) ∧ ∀ base : Heap, K.In base → base.Ns mainGlobals mg → FnOk l.prog w K mg base (L2.CX l.prog w) 6 fa fd ["_law_script"] (c_law K).sp := by
  have e := hfa.symm.trans (PySem.W.mg_of X G a8)
  cases e
  have F0 := fun_mk (st := s_cell) l0 c0 k0
  have b0 := F0.binds (ps := ["_law_script", "_law_k"]) fun _ _ _ _ _ _ us hl => match us, hl with | [_, _], _ => rfl
  have F1 := fun_mk (st := s_flow) l1 c1 k1
  have b1 := F1.binds (ps := ["_law_script", "_law_k"]) fun _ _ _ _ _ _ us hl => match us, hl with | [_, _], _ => rfl
  have F2 := fun_mk (st := s_draw) l2 c2 k2
  have b2 := F2.binds (ps := ["_law_flow_here", "_law_many"]) fun _ _ _ _ _ _ us hl => match us, hl with | [_, _], _ => rfl
  have F3 := fun_mk (st := s_names) l3 c3 k3
  have b3 := F3.binds (ps := ["_law_flow_here", "_law_many"]) fun _ _ _ _ _ _ us hl => match us, hl with | [_, _], _ => rfl
  have F4 := fun_mk (st := s_sorts) l4 c4 k4
  have b4 := F4.binds (ps := ["_law_e"]) fun _ _ _ _ _ _ us hl => match us, hl with | [_], _ => rfl
  have F5 := fun_mk (st := s_alikeI) l5 c5 k5
  have b5 := F5.binds (ps := ["_law_found", "_law_due"]) fun _ _ _ _ _ _ us hl => match us, hl with | [_, _], _ => rfl
  have F6 := fun_mk (st := s_number) l6 c6 k6
  have b6 := F6.binds (ps := ["_law_flow_here"]) fun _ _ _ _ _ _ us hl => match us, hl with | [_], _ => rfl
  have F7 := fun_mk (st := s_right) l7 c7 k7
  have b7 := F7.binds (ps := ["_law_flow_here"]) fun _ _ _ _ _ _ us hl => match us, hl with | [_], _ => rfl
  have F8 := fun_mk (st := s_law) l8 c8 k8
  have b8 := F8.binds (ps := ["_law_script"]) fun _ _ _ _ _ _ us hl => match us, hl with | [_], _ => rfl
  have bs : Bs mg := ⟨PySem.W.mg_none_of X G z_len, by decide +kernel, PySem.W.mg_none_of X G z_range, by decide +kernel, PySem.W.mg_none_of X G z_list, by decide +kernel, PySem.W.mg_none_of X G z_isinstance, by decide +kernel, PySem.W.mg_none_of X G z_all, by decide +kernel, PySem.W.mg_none_of X G z_int, by decide +kernel, PySem.W.mg_none_of X G z_max, by decide +kernel, PySem.W.mg_none_of X G z_bool, by decide +kernel, PySem.W.mg_none_of X G z_str, by decide +kernel, PySem.W.mg_none_of X G z_enumerate, by decide +kernel, PySem.W.mg_none_of X G z_zip, by decide +kernel, PySem.W.mg_none_of X G z_ValueError, by decide +kernel⟩
  have ox_BadGood : OexC K C_BadGood := { cls := ⟨_, _, _, _, _, _, _, _, _, _, _, _, _, _, _, xL_BadGood, rfl⟩, sa := sx_BadGood, exC := sb_BadGood, tyC := tx_BadGood, kC := kx_BadGood }
  have is_BadGood : ExcC K C_BadGood := { hg := gx_BadGood, hk := gg_BadGood, hs := sb_BadGood, hd := hx_BadGood, ha := gc_BadGood, hn := oc1, ht := oc2, hm := mo_BadGood }
  have ox_BadStep : OexC K C_BadStep := { cls := ⟨_, _, _, _, _, _, _, _, _, _, _, _, _, _, _, xL_BadStep, rfl⟩, sa := sx_BadStep, exC := sb_BadStep, tyC := tx_BadStep, kC := kx_BadStep }
  have is_BadStep : ExcC K C_BadStep := { hg := gx_BadStep, hk := gg_BadStep, hs := sb_BadStep, hd := hx_BadStep, ha := gc_BadStep, hn := oc1, ht := oc2, hm := mo_BadStep }
  have ox_NoDesk : OexC K C_NoDesk := { cls := ⟨_, _, _, _, _, _, _, _, _, _, _, _, _, _, _, xL_NoDesk, rfl⟩, sa := sx_NoDesk, exC := sb_NoDesk, tyC := tx_NoDesk, kC := kx_NoDesk }
  have is_NoDesk : ExcC K C_NoDesk := { hg := gx_NoDesk, hk := gg_NoDesk, hs := sb_NoDesk, hd := hx_NoDesk, ha := gc_NoDesk, hn := oc1, ht := oc2, hm := mo_NoDesk }
  have ox_NoKind : OexC K C_NoKind := { cls := ⟨_, _, _, _, _, _, _, _, _, _, _, _, _, _, _, xL_NoKind, rfl⟩, sa := sx_NoKind, exC := sb_NoKind, tyC := tx_NoKind, kC := kx_NoKind }
  have is_NoKind : ExcC K C_NoKind := { hg := gx_NoKind, hk := gg_NoKind, hs := sb_NoKind, hd := hx_NoKind, ha := gc_NoKind, hn := oc1, ht := oc2, hm := mo_NoKind }
  have ox_NoLetter : OexC K C_NoLetter := { cls := ⟨_, _, _, _, _, _, _, _, _, _, _, _, _, _, _, xL_NoLetter, rfl⟩, sa := sx_NoLetter, exC := sb_NoLetter, tyC := tx_NoLetter, kC := kx_NoLetter }
  have is_NoLetter : ExcC K C_NoLetter := { hg := gx_NoLetter, hk := gg_NoLetter, hs := sb_NoLetter, hd := hx_NoLetter, ha := gc_NoLetter, hn := oc1, ht := oc2, hm := mo_NoLetter }
  have ox_NoName : OexC K C_NoName := { cls := ⟨_, _, _, _, _, _, _, _, _, _, _, _, _, _, _, xL_NoName, rfl⟩, sa := sx_NoName, exC := sb_NoName, tyC := tx_NoName, kC := kx_NoName }
  have is_NoName : ExcC K C_NoName := { hg := gx_NoName, hk := gg_NoName, hs := sb_NoName, hd := hx_NoName, ha := gc_NoName, hn := oc1, ht := oc2, hm := mo_NoName }
  have ox_NoRow : OexC K C_NoRow := { cls := ⟨_, _, _, _, _, _, _, _, _, _, _, _, _, _, _, xL_NoRow, rfl⟩, sa := sx_NoRow, exC := sb_NoRow, tyC := tx_NoRow, kC := kx_NoRow }
  have is_NoRow : ExcC K C_NoRow := { hg := gx_NoRow, hk := gg_NoRow, hs := sb_NoRow, hd := hx_NoRow, ha := gc_NoRow, hn := oc1, ht := oc2, hm := mo_NoRow }
  have ox_NoText : OexC K C_NoText := { cls := ⟨_, _, _, _, _, _, _, _, _, _, _, _, _, _, _, xL_NoText, rfl⟩, sa := sx_NoText, exC := sb_NoText, tyC := tx_NoText, kC := kx_NoText }
  have is_NoText : ExcC K C_NoText := { hg := gx_NoText, hk := gg_NoText, hs := sb_NoText, hd := hx_NoText, ha := gc_NoText, hn := oc1, ht := oc2, hm := mo_NoText }
  have ox_Notices : OexC K C_Notices := { cls := ⟨_, _, _, _, _, _, _, _, _, _, _, _, _, _, _, xL_Notices, rfl⟩, sa := sx_Notices, exC := sb_Notices, tyC := tx_Notices, kC := kx_Notices }
  have is_Notices : ExcC K C_Notices := { hg := gx_Notices, hk := gg_Notices, hs := sb_Notices, hd := hx_Notices, ha := gc_Notices, hn := oc1, ht := oc2, hm := mo_Notices }
  have ox_OtherLetters : OexC K C_OtherLetters := { cls := ⟨_, _, _, _, _, _, _, _, _, _, _, _, _, _, _, xL_OtherLetters, rfl⟩, sa := sx_OtherLetters, exC := sb_OtherLetters, tyC := tx_OtherLetters, kC := kx_OtherLetters }
  have is_OtherLetters : ExcC K C_OtherLetters := { hg := gx_OtherLetters, hk := gg_OtherLetters, hs := sb_OtherLetters, hd := hx_OtherLetters, ha := gc_OtherLetters, hn := oc1, ht := oc2, hm := mo_OtherLetters }
  have ox_TooMany : OexC K C_TooMany := { cls := ⟨_, _, _, _, _, _, _, _, _, _, _, _, _, _, _, xL_TooMany, rfl⟩, sa := sx_TooMany, exC := sb_TooMany, tyC := tx_TooMany, kC := kx_TooMany }
  have is_TooMany : ExcC K C_TooMany := { hg := gx_TooMany, hk := gg_TooMany, hs := sb_TooMany, hd := hx_TooMany, ha := gc_TooMany, hn := oc1, ht := oc2, hm := mo_TooMany }
  have ox_Twice : OexC K C_Twice := { cls := ⟨_, _, _, _, _, _, _, _, _, _, _, _, _, _, _, xL_Twice, rfl⟩, sa := sx_Twice, exC := sb_Twice, tyC := tx_Twice, kC := kx_Twice }
  have is_Twice : ExcC K C_Twice := { hg := gx_Twice, hk := gg_Twice, hs := sb_Twice, hd := hx_Twice, ha := gc_Twice, hn := oc1, ht := oc2, hm := mo_Twice }
  have xs : Xs K mg ({ BadGood := C_BadGood, BadStep := C_BadStep, NoDesk := C_NoDesk, NoKind := C_NoKind, NoLetter := C_NoLetter, NoName := C_NoName, NoRow := C_NoRow, NoText := C_NoText, Notices := C_Notices, OtherLetters := C_OtherLetters, TooMany := C_TooMany, Twice := C_Twice } : XA) C_MeetError := ⟨kit_ref sb_NoText hx_NoText tx_NoText ss_NoText ss_NoText, kit_ref sb_NoText hx_NoText tx_NoText ss_NoText sp_Twice_NoText, kit_ref sb_NoText hx_NoText tx_NoText ss_NoText sp_BadStep_NoText, kit_ref sb_NoText hx_NoText tx_NoText ss_NoText sp_BadGood_NoText, kit_ref sb_NoText hx_NoText tx_NoText ss_NoText sp_NoLetter_NoText, kit_ref sb_NoText hx_NoText tx_NoText ss_NoText sp_NoDesk_NoText, kit_ref sb_NoText hx_NoText tx_NoText ss_NoText sp_OtherLetters_NoText, kit_ref sb_NoText hx_NoText tx_NoText ss_NoText sp_Notices_NoText, kit_ref sb_NoText hx_NoText tx_NoText ss_NoText sp_TooMany_NoText, kit_ref sb_NoText hx_NoText tx_NoText ss_NoText sp_NoName_NoText, kit_ref sb_NoText hx_NoText tx_NoText ss_NoText sp_NoKind_NoText, kit_ref sb_NoText hx_NoText tx_NoText ss_NoText sp_NoRow_NoText, ⟨PySem.W.mg_of X G aX_NoText, ox_NoText, is_NoText⟩, ⟨PySem.W.mg_of X G aX_Twice, ox_Twice, is_Twice⟩, ⟨PySem.W.mg_of X G aX_BadStep, ox_BadStep, is_BadStep⟩, ⟨PySem.W.mg_of X G aX_BadGood, ox_BadGood, is_BadGood⟩, ⟨PySem.W.mg_of X G aX_NoLetter, ox_NoLetter, is_NoLetter⟩, ⟨PySem.W.mg_of X G aX_NoDesk, ox_NoDesk, is_NoDesk⟩, ⟨PySem.W.mg_of X G aX_OtherLetters, ox_OtherLetters, is_OtherLetters⟩, ⟨PySem.W.mg_of X G aX_Notices, ox_Notices, is_Notices⟩, ⟨PySem.W.mg_of X G aX_TooMany, ox_TooMany, is_TooMany⟩, ⟨PySem.W.mg_of X G aX_NoName, ox_NoName, is_NoName⟩, ⟨PySem.W.mg_of X G aX_NoKind, ox_NoKind, is_NoKind⟩, ⟨PySem.W.mg_of X G aX_NoRow, ox_NoRow, is_NoRow⟩, PySem.W.mg_of X G aX_NoText, kit_ref sb_Twice hx_Twice tx_Twice ss_Twice sp_NoText_Twice, kit_ref sb_Twice hx_Twice tx_Twice ss_Twice ss_Twice, kit_ref sb_Twice hx_Twice tx_Twice ss_Twice sp_BadStep_Twice, kit_ref sb_Twice hx_Twice tx_Twice ss_Twice sp_BadGood_Twice, kit_ref sb_Twice hx_Twice tx_Twice ss_Twice sp_NoLetter_Twice, kit_ref sb_Twice hx_Twice tx_Twice ss_Twice sp_NoDesk_Twice, kit_ref sb_Twice hx_Twice tx_Twice ss_Twice sp_OtherLetters_Twice, kit_ref sb_Twice hx_Twice tx_Twice ss_Twice sp_Notices_Twice, kit_ref sb_Twice hx_Twice tx_Twice ss_Twice sp_TooMany_Twice, kit_ref sb_Twice hx_Twice tx_Twice ss_Twice sp_NoName_Twice, kit_ref sb_Twice hx_Twice tx_Twice ss_Twice sp_NoKind_Twice, kit_ref sb_Twice hx_Twice tx_Twice ss_Twice sp_NoRow_Twice, PySem.W.mg_of X G aX_Twice, kit_ref sb_BadStep hx_BadStep tx_BadStep ss_BadStep sp_NoText_BadStep, kit_ref sb_BadStep hx_BadStep tx_BadStep ss_BadStep sp_Twice_BadStep, kit_ref sb_BadStep hx_BadStep tx_BadStep ss_BadStep ss_BadStep, kit_ref sb_BadStep hx_BadStep tx_BadStep ss_BadStep sp_BadGood_BadStep, kit_ref sb_BadStep hx_BadStep tx_BadStep ss_BadStep sp_NoLetter_BadStep, kit_ref sb_BadStep hx_BadStep tx_BadStep ss_BadStep sp_NoDesk_BadStep, kit_ref sb_BadStep hx_BadStep tx_BadStep ss_BadStep sp_OtherLetters_BadStep, kit_ref sb_BadStep hx_BadStep tx_BadStep ss_BadStep sp_Notices_BadStep, kit_ref sb_BadStep hx_BadStep tx_BadStep ss_BadStep sp_TooMany_BadStep, kit_ref sb_BadStep hx_BadStep tx_BadStep ss_BadStep sp_NoName_BadStep, kit_ref sb_BadStep hx_BadStep tx_BadStep ss_BadStep sp_NoKind_BadStep, kit_ref sb_BadStep hx_BadStep tx_BadStep ss_BadStep sp_NoRow_BadStep, PySem.W.mg_of X G aX_BadStep, kit_ref sb_BadGood hx_BadGood tx_BadGood ss_BadGood sp_NoText_BadGood, kit_ref sb_BadGood hx_BadGood tx_BadGood ss_BadGood sp_Twice_BadGood, kit_ref sb_BadGood hx_BadGood tx_BadGood ss_BadGood sp_BadStep_BadGood, kit_ref sb_BadGood hx_BadGood tx_BadGood ss_BadGood ss_BadGood, kit_ref sb_BadGood hx_BadGood tx_BadGood ss_BadGood sp_NoLetter_BadGood, kit_ref sb_BadGood hx_BadGood tx_BadGood ss_BadGood sp_NoDesk_BadGood, kit_ref sb_BadGood hx_BadGood tx_BadGood ss_BadGood sp_OtherLetters_BadGood, kit_ref sb_BadGood hx_BadGood tx_BadGood ss_BadGood sp_Notices_BadGood, kit_ref sb_BadGood hx_BadGood tx_BadGood ss_BadGood sp_TooMany_BadGood, kit_ref sb_BadGood hx_BadGood tx_BadGood ss_BadGood sp_NoName_BadGood, kit_ref sb_BadGood hx_BadGood tx_BadGood ss_BadGood sp_NoKind_BadGood, kit_ref sb_BadGood hx_BadGood tx_BadGood ss_BadGood sp_NoRow_BadGood, PySem.W.mg_of X G aX_BadGood, kit_ref sb_NoLetter hx_NoLetter tx_NoLetter ss_NoLetter sp_NoText_NoLetter, kit_ref sb_NoLetter hx_NoLetter tx_NoLetter ss_NoLetter sp_Twice_NoLetter, kit_ref sb_NoLetter hx_NoLetter tx_NoLetter ss_NoLetter sp_BadStep_NoLetter, kit_ref sb_NoLetter hx_NoLetter tx_NoLetter ss_NoLetter sp_BadGood_NoLetter, kit_ref sb_NoLetter hx_NoLetter tx_NoLetter ss_NoLetter ss_NoLetter, kit_ref sb_NoLetter hx_NoLetter tx_NoLetter ss_NoLetter sp_NoDesk_NoLetter, kit_ref sb_NoLetter hx_NoLetter tx_NoLetter ss_NoLetter sp_OtherLetters_NoLetter, kit_ref sb_NoLetter hx_NoLetter tx_NoLetter ss_NoLetter sp_Notices_NoLetter, kit_ref sb_NoLetter hx_NoLetter tx_NoLetter ss_NoLetter sp_TooMany_NoLetter, kit_ref sb_NoLetter hx_NoLetter tx_NoLetter ss_NoLetter sp_NoName_NoLetter, kit_ref sb_NoLetter hx_NoLetter tx_NoLetter ss_NoLetter sp_NoKind_NoLetter, kit_ref sb_NoLetter hx_NoLetter tx_NoLetter ss_NoLetter sp_NoRow_NoLetter, PySem.W.mg_of X G aX_NoLetter, kit_ref sb_NoDesk hx_NoDesk tx_NoDesk ss_NoDesk sp_NoText_NoDesk, kit_ref sb_NoDesk hx_NoDesk tx_NoDesk ss_NoDesk sp_Twice_NoDesk, kit_ref sb_NoDesk hx_NoDesk tx_NoDesk ss_NoDesk sp_BadStep_NoDesk, kit_ref sb_NoDesk hx_NoDesk tx_NoDesk ss_NoDesk sp_BadGood_NoDesk, kit_ref sb_NoDesk hx_NoDesk tx_NoDesk ss_NoDesk sp_NoLetter_NoDesk, kit_ref sb_NoDesk hx_NoDesk tx_NoDesk ss_NoDesk ss_NoDesk, kit_ref sb_NoDesk hx_NoDesk tx_NoDesk ss_NoDesk sp_OtherLetters_NoDesk, kit_ref sb_NoDesk hx_NoDesk tx_NoDesk ss_NoDesk sp_Notices_NoDesk, kit_ref sb_NoDesk hx_NoDesk tx_NoDesk ss_NoDesk sp_TooMany_NoDesk, kit_ref sb_NoDesk hx_NoDesk tx_NoDesk ss_NoDesk sp_NoName_NoDesk, kit_ref sb_NoDesk hx_NoDesk tx_NoDesk ss_NoDesk sp_NoKind_NoDesk, kit_ref sb_NoDesk hx_NoDesk tx_NoDesk ss_NoDesk sp_NoRow_NoDesk, PySem.W.mg_of X G aX_NoDesk, kit_ref sb_OtherLetters hx_OtherLetters tx_OtherLetters ss_OtherLetters sp_NoText_OtherLetters, kit_ref sb_OtherLetters hx_OtherLetters tx_OtherLetters ss_OtherLetters sp_Twice_OtherLetters, kit_ref sb_OtherLetters hx_OtherLetters tx_OtherLetters ss_OtherLetters sp_BadStep_OtherLetters, kit_ref sb_OtherLetters hx_OtherLetters tx_OtherLetters ss_OtherLetters sp_BadGood_OtherLetters, kit_ref sb_OtherLetters hx_OtherLetters tx_OtherLetters ss_OtherLetters sp_NoLetter_OtherLetters, kit_ref sb_OtherLetters hx_OtherLetters tx_OtherLetters ss_OtherLetters sp_NoDesk_OtherLetters, kit_ref sb_OtherLetters hx_OtherLetters tx_OtherLetters ss_OtherLetters ss_OtherLetters, kit_ref sb_OtherLetters hx_OtherLetters tx_OtherLetters ss_OtherLetters sp_Notices_OtherLetters, kit_ref sb_OtherLetters hx_OtherLetters tx_OtherLetters ss_OtherLetters sp_TooMany_OtherLetters, kit_ref sb_OtherLetters hx_OtherLetters tx_OtherLetters ss_OtherLetters sp_NoName_OtherLetters, kit_ref sb_OtherLetters hx_OtherLetters tx_OtherLetters ss_OtherLetters sp_NoKind_OtherLetters, kit_ref sb_OtherLetters hx_OtherLetters tx_OtherLetters ss_OtherLetters sp_NoRow_OtherLetters, PySem.W.mg_of X G aX_OtherLetters, kit_ref sb_Notices hx_Notices tx_Notices ss_Notices sp_NoText_Notices, kit_ref sb_Notices hx_Notices tx_Notices ss_Notices sp_Twice_Notices, kit_ref sb_Notices hx_Notices tx_Notices ss_Notices sp_BadStep_Notices, kit_ref sb_Notices hx_Notices tx_Notices ss_Notices sp_BadGood_Notices, kit_ref sb_Notices hx_Notices tx_Notices ss_Notices sp_NoLetter_Notices, kit_ref sb_Notices hx_Notices tx_Notices ss_Notices sp_NoDesk_Notices, kit_ref sb_Notices hx_Notices tx_Notices ss_Notices sp_OtherLetters_Notices, kit_ref sb_Notices hx_Notices tx_Notices ss_Notices ss_Notices, kit_ref sb_Notices hx_Notices tx_Notices ss_Notices sp_TooMany_Notices, kit_ref sb_Notices hx_Notices tx_Notices ss_Notices sp_NoName_Notices, kit_ref sb_Notices hx_Notices tx_Notices ss_Notices sp_NoKind_Notices, kit_ref sb_Notices hx_Notices tx_Notices ss_Notices sp_NoRow_Notices, PySem.W.mg_of X G aX_Notices, kit_ref sb_TooMany hx_TooMany tx_TooMany ss_TooMany sp_NoText_TooMany, kit_ref sb_TooMany hx_TooMany tx_TooMany ss_TooMany sp_Twice_TooMany, kit_ref sb_TooMany hx_TooMany tx_TooMany ss_TooMany sp_BadStep_TooMany, kit_ref sb_TooMany hx_TooMany tx_TooMany ss_TooMany sp_BadGood_TooMany, kit_ref sb_TooMany hx_TooMany tx_TooMany ss_TooMany sp_NoLetter_TooMany, kit_ref sb_TooMany hx_TooMany tx_TooMany ss_TooMany sp_NoDesk_TooMany, kit_ref sb_TooMany hx_TooMany tx_TooMany ss_TooMany sp_OtherLetters_TooMany, kit_ref sb_TooMany hx_TooMany tx_TooMany ss_TooMany sp_Notices_TooMany, kit_ref sb_TooMany hx_TooMany tx_TooMany ss_TooMany ss_TooMany, kit_ref sb_TooMany hx_TooMany tx_TooMany ss_TooMany sp_NoName_TooMany, kit_ref sb_TooMany hx_TooMany tx_TooMany ss_TooMany sp_NoKind_TooMany, kit_ref sb_TooMany hx_TooMany tx_TooMany ss_TooMany sp_NoRow_TooMany, PySem.W.mg_of X G aX_TooMany, kit_ref sb_NoName hx_NoName tx_NoName ss_NoName sp_NoText_NoName, kit_ref sb_NoName hx_NoName tx_NoName ss_NoName sp_Twice_NoName, kit_ref sb_NoName hx_NoName tx_NoName ss_NoName sp_BadStep_NoName, kit_ref sb_NoName hx_NoName tx_NoName ss_NoName sp_BadGood_NoName, kit_ref sb_NoName hx_NoName tx_NoName ss_NoName sp_NoLetter_NoName, kit_ref sb_NoName hx_NoName tx_NoName ss_NoName sp_NoDesk_NoName, kit_ref sb_NoName hx_NoName tx_NoName ss_NoName sp_OtherLetters_NoName, kit_ref sb_NoName hx_NoName tx_NoName ss_NoName sp_Notices_NoName, kit_ref sb_NoName hx_NoName tx_NoName ss_NoName sp_TooMany_NoName, kit_ref sb_NoName hx_NoName tx_NoName ss_NoName ss_NoName, kit_ref sb_NoName hx_NoName tx_NoName ss_NoName sp_NoKind_NoName, kit_ref sb_NoName hx_NoName tx_NoName ss_NoName sp_NoRow_NoName, PySem.W.mg_of X G aX_NoName, kit_ref sb_NoKind hx_NoKind tx_NoKind ss_NoKind sp_NoText_NoKind, kit_ref sb_NoKind hx_NoKind tx_NoKind ss_NoKind sp_Twice_NoKind, kit_ref sb_NoKind hx_NoKind tx_NoKind ss_NoKind sp_BadStep_NoKind, kit_ref sb_NoKind hx_NoKind tx_NoKind ss_NoKind sp_BadGood_NoKind, kit_ref sb_NoKind hx_NoKind tx_NoKind ss_NoKind sp_NoLetter_NoKind, kit_ref sb_NoKind hx_NoKind tx_NoKind ss_NoKind sp_NoDesk_NoKind, kit_ref sb_NoKind hx_NoKind tx_NoKind ss_NoKind sp_OtherLetters_NoKind, kit_ref sb_NoKind hx_NoKind tx_NoKind ss_NoKind sp_Notices_NoKind, kit_ref sb_NoKind hx_NoKind tx_NoKind ss_NoKind sp_TooMany_NoKind, kit_ref sb_NoKind hx_NoKind tx_NoKind ss_NoKind sp_NoName_NoKind, kit_ref sb_NoKind hx_NoKind tx_NoKind ss_NoKind ss_NoKind, kit_ref sb_NoKind hx_NoKind tx_NoKind ss_NoKind sp_NoRow_NoKind, PySem.W.mg_of X G aX_NoKind, kit_ref sb_NoRow hx_NoRow tx_NoRow ss_NoRow sp_NoText_NoRow, kit_ref sb_NoRow hx_NoRow tx_NoRow ss_NoRow sp_Twice_NoRow, kit_ref sb_NoRow hx_NoRow tx_NoRow ss_NoRow sp_BadStep_NoRow, kit_ref sb_NoRow hx_NoRow tx_NoRow ss_NoRow sp_BadGood_NoRow, kit_ref sb_NoRow hx_NoRow tx_NoRow ss_NoRow sp_NoLetter_NoRow, kit_ref sb_NoRow hx_NoRow tx_NoRow ss_NoRow sp_NoDesk_NoRow, kit_ref sb_NoRow hx_NoRow tx_NoRow ss_NoRow sp_OtherLetters_NoRow, kit_ref sb_NoRow hx_NoRow tx_NoRow ss_NoRow sp_Notices_NoRow, kit_ref sb_NoRow hx_NoRow tx_NoRow ss_NoRow sp_TooMany_NoRow, kit_ref sb_NoRow hx_NoRow tx_NoRow ss_NoRow sp_NoName_NoRow, kit_ref sb_NoRow hx_NoRow tx_NoRow ss_NoRow sp_NoKind_NoRow, kit_ref sb_NoRow hx_NoRow tx_NoRow ss_NoRow ss_NoRow, PySem.W.mg_of X G aX_NoRow, oX_OtherLetters, oX_NoKind, oX_NoRow, kit_ref sb_MeetError hx_MeetError tx_MeetError ss_MeetError sp_NoText_MeetError, kit_ref sb_MeetError hx_MeetError tx_MeetError ss_MeetError sp_Twice_MeetError, kit_ref sb_MeetError hx_MeetError tx_MeetError ss_MeetError sp_BadStep_MeetError, kit_ref sb_MeetError hx_MeetError tx_MeetError ss_MeetError sp_BadGood_MeetError, kit_ref sb_MeetError hx_MeetError tx_MeetError ss_MeetError sp_NoLetter_MeetError, kit_ref sb_MeetError hx_MeetError tx_MeetError ss_MeetError sp_NoDesk_MeetError, kit_ref sb_MeetError hx_MeetError tx_MeetError ss_MeetError sp_OtherLetters_MeetError, kit_ref sb_MeetError hx_MeetError tx_MeetError ss_MeetError sp_Notices_MeetError, kit_ref sb_MeetError hx_MeetError tx_MeetError ss_MeetError sp_TooMany_MeetError, kit_ref sb_MeetError hx_MeetError tx_MeetError ss_MeetError sp_NoName_MeetError, kit_ref sb_MeetError hx_MeetError tx_MeetError ss_MeetError sp_NoKind_MeetError, kit_ref sb_MeetError hx_MeetError tx_MeetError ss_MeetError sp_NoRow_MeetError, PySem.W.mg_of X G aX_MeetError, kit_typ st_NoText_ValueError, kit_typ st_Twice_ValueError, kit_typ st_BadStep_ValueError, kit_typ st_BadGood_ValueError, kit_typ st_NoLetter_ValueError, kit_typ st_NoDesk_ValueError, kit_typ st_OtherLetters_ValueError, kit_typ st_Notices_ValueError, kit_typ st_TooMany_ValueError, kit_typ st_NoName_ValueError, kit_typ st_NoKind_ValueError, kit_typ st_NoRow_ValueError, n_NoText_line, n_Twice_name, n_NoName_name, n_BadStep_state, n_BadGood_state, n_BadStep_letter, n_NoLetter_letter, n_NoDesk_desk, n_Notices_one, n_Notices_other, n_TooMany_most⟩
  have FI_BadGood := fun_mk (st := s_BadGood_init) lI_BadGood cI_BadGood kI_BadGood
  have bI_BadGood := FI_BadGood.binds (ps := ["self", "state"]) fun _ _ _ _ _ _ us hl => match us, hl with | [_, _], _ => rfl
  have FI_BadStep := fun_mk (st := s_BadStep_init) lI_BadStep cI_BadStep kI_BadStep
  have bI_BadStep := FI_BadStep.binds (ps := ["self", "state", "letter"]) fun _ _ _ _ _ _ us hl => match us, hl with | [_, _, _], _ => rfl
  have FI_NoDesk := fun_mk (st := s_NoDesk_init) lI_NoDesk cI_NoDesk kI_NoDesk
  have bI_NoDesk := FI_NoDesk.binds (ps := ["self", "desk"]) fun _ _ _ _ _ _ us hl => match us, hl with | [_, _], _ => rfl
  have FI_NoLetter := fun_mk (st := s_NoLetter_init) lI_NoLetter cI_NoLetter kI_NoLetter
  have bI_NoLetter := FI_NoLetter.binds (ps := ["self", "letter"]) fun _ _ _ _ _ _ us hl => match us, hl with | [_, _], _ => rfl
  have FI_NoName := fun_mk (st := s_NoName_init) lI_NoName cI_NoName kI_NoName
  have bI_NoName := FI_NoName.binds (ps := ["self", "name"]) fun _ _ _ _ _ _ us hl => match us, hl with | [_, _], _ => rfl
  have FI_NoText := fun_mk (st := s_NoText_init) lI_NoText cI_NoText kI_NoText
  have bI_NoText := FI_NoText.binds (ps := ["self", "line"]) fun _ _ _ _ _ _ us hl => match us, hl with | [_, _], _ => rfl
  have FI_Notices := fun_mk (st := s_Notices_init) lI_Notices cI_Notices kI_Notices
  have bI_Notices := FI_Notices.binds (ps := ["self", "one", "other"]) fun _ _ _ _ _ _ us hl => match us, hl with | [_, _, _], _ => rfl
  have FI_TooMany := fun_mk (st := s_TooMany_init) lI_TooMany cI_TooMany kI_TooMany
  have bI_TooMany := FI_TooMany.binds (ps := ["self", "most"]) fun _ _ _ _ _ _ us hl => match us, hl with | [_, _], _ => rfl
  have FI_Twice := fun_mk (st := s_Twice_init) lI_Twice cI_Twice kI_Twice
  have bI_Twice := FI_Twice.binds (ps := ["self", "name"]) fun _ _ _ _ _ _ us hl => match us, hl with | [_, _], _ => rfl
  refine ⟨PySem.W.fnOf "law" "law" (defArgs s_law) (defBody s_law) (defScope s_law) .none kV8 dc8 pm8 an8 cd8 ct8, fun s v => .of_eq rfl, fun base _ _ => ?_⟩
  have mot : MoT K mg "MeetError" C_MeetError := ⟨PySem.W.mg_of X G aX_MeetError, mo1, mo2, mo3⟩
  have xi_BadGood : XiT l.prog w K mg base C_BadGood 1 ["self", "state"] (spX1 C_BadGood "state") f_BadGood _ := ⟨iX_BadGood, tI_BadGood, ok_BadGood_init ox_BadGood mot n_BadGood_state FI_BadGood, bI_BadGood⟩
  have xi_BadStep : XiT l.prog w K mg base C_BadStep 1 ["self", "state", "letter"] (spX2 C_BadStep "state" "letter") f_BadStep _ := ⟨iX_BadStep, tI_BadStep, ok_BadStep_init ox_BadStep mot n_BadStep_state n_BadStep_letter FI_BadStep, bI_BadStep⟩
  have xi_NoDesk : XiT l.prog w K mg base C_NoDesk 1 ["self", "desk"] (spX1 C_NoDesk "desk") f_NoDesk _ := ⟨iX_NoDesk, tI_NoDesk, ok_NoDesk_init ox_NoDesk mot n_NoDesk_desk FI_NoDesk, bI_NoDesk⟩
  have xi_NoLetter : XiT l.prog w K mg base C_NoLetter 1 ["self", "letter"] (spX1 C_NoLetter "letter") f_NoLetter _ := ⟨iX_NoLetter, tI_NoLetter, ok_NoLetter_init ox_NoLetter mot n_NoLetter_letter FI_NoLetter, bI_NoLetter⟩
  have xi_NoName : XiT l.prog w K mg base C_NoName 1 ["self", "name"] (spX1 C_NoName "name") f_NoName _ := ⟨iX_NoName, tI_NoName, ok_NoName_init ox_NoName mot n_NoName_name FI_NoName, bI_NoName⟩
  have xi_NoText : XiT l.prog w K mg base C_NoText 1 ["self", "line"] (spX1 C_NoText "line") f_NoText _ := ⟨iX_NoText, tI_NoText, ok_NoText_init ox_NoText mot n_NoText_line FI_NoText, bI_NoText⟩
  have xi_Notices : XiT l.prog w K mg base C_Notices 1 ["self", "one", "other"] (spX2 C_Notices "one" "other") f_Notices _ := ⟨iX_Notices, tI_Notices, ok_Notices_init ox_Notices mot n_Notices_one n_Notices_other FI_Notices, bI_Notices⟩
  have xi_TooMany : XiT l.prog w K mg base C_TooMany 1 ["self", "most"] (spX1 C_TooMany "most") f_TooMany _ := ⟨iX_TooMany, tI_TooMany, ok_TooMany_init ox_TooMany mot n_TooMany_most FI_TooMany, bI_TooMany⟩
  have xi_Twice : XiT l.prog w K mg base C_Twice 1 ["self", "name"] (spX1 C_Twice "name") f_Twice _ := ⟨iX_Twice, tI_Twice, ok_Twice_init ox_Twice mot n_Twice_name FI_Twice, bI_Twice⟩
  have g_cell : Cal l.prog w K mg base "_law_cell" 1 ["_law_script", "_law_k"] (c_cell K).sp f_cell _ := ⟨ok_cell bs F0, PySem.W.mg_of X G a0, k0, b0⟩
  have g_flow : Cal l.prog w K mg base "_law_flow" 2 ["_law_script", "_law_k"] (c_flow K).sp f_flow _ := ⟨ok_flow bs g_cell F1, PySem.W.mg_of X G a1, k1, b1⟩
  have g_draw : Cal l.prog w K mg base "_law_draw" 1 ["_law_flow_here", "_law_many"] (c_draw K).sp f_draw _ := ⟨ok_draw bs F2, PySem.W.mg_of X G a2, k2, b2⟩
  have g_names : Cal l.prog w K mg base "_law_names" 2 ["_law_flow_here", "_law_many"] (c_names K).sp f_names _ := ⟨ok_names bs g_draw F3, PySem.W.mg_of X G a3, k3, b3⟩
  have g_sorts : Cal l.prog w K mg base "_law_sorts" 3 ["_law_e"] (c_sorts K ({ BadGood := C_BadGood, BadStep := C_BadStep, NoDesk := C_NoDesk, NoKind := C_NoKind, NoLetter := C_NoLetter, NoName := C_NoName, NoRow := C_NoRow, NoText := C_NoText, Notices := C_Notices, OtherLetters := C_OtherLetters, TooMany := C_TooMany, Twice := C_Twice } : XA)).sp f_sorts _ := ⟨ok_sorts bs (xa := ({ BadGood := C_BadGood, BadStep := C_BadStep, NoDesk := C_NoDesk, NoKind := C_NoKind, NoLetter := C_NoLetter, NoName := C_NoName, NoRow := C_NoRow, NoText := C_NoText, Notices := C_Notices, OtherLetters := C_OtherLetters, TooMany := C_TooMany, Twice := C_Twice } : XA)) xs F4, PySem.W.mg_of X G a4, k4, b4⟩
  have g_alikeI : Cal l.prog w K mg base "_law_alike" 1 ["_law_found", "_law_due"] (c_alikeI K).sp f_alike _ := ⟨ok_alikeI bs F5, PySem.W.mg_of X G a5, k5, b5⟩
  have g_alikeS : Cal l.prog w K mg base "_law_alike" 1 ["_law_found", "_law_due"] (c_alikeS K).sp f_alike _ := ⟨ok_alikeS bs F5, PySem.W.mg_of X G a5, k5, b5⟩
  have g_alikeLS : Cal l.prog w K mg base "_law_alike" 2 ["_law_found", "_law_due"] (c_alikeLS K).sp f_alike _ := ⟨ok_alikeLS bs g_alikeS F5, PySem.W.mg_of X G a5, k5, b5⟩
  have g_alikeV : Cal l.prog w K mg base "_law_alike" 2 ["_law_found", "_law_due"] (c_alikeV K).sp f_alike _ := ⟨ok_alikeV bs g_alikeI g_alikeS g_alikeLS F5, PySem.W.mg_of X G a5, k5, b5⟩
  have g_alikeL : Cal l.prog w K mg base "_law_alike" 3 ["_law_found", "_law_due"] (c_alikeL K).sp f_alike _ := ⟨ok_alikeL bs g_alikeV F5, PySem.W.mg_of X G a5, k5, b5⟩
  have g_number : Cal l.prog w K mg base "_law_number" 2 ["_law_flow_here"] (c_number K).sp f_number _ := ⟨ok_number bs g_draw F6, PySem.W.mg_of X G a6, k6, b6⟩
  have g_right : Cal l.prog w K mg base "_law_right" 5 ["_law_flow_here"] (c_right K).sp f_right _ := ⟨ok_right bs (xa := ({ BadGood := C_BadGood, BadStep := C_BadStep, NoDesk := C_NoDesk, NoKind := C_NoKind, NoLetter := C_NoLetter, NoName := C_NoName, NoRow := C_NoRow, NoText := C_NoText, Notices := C_Notices, OtherLetters := C_OtherLetters, TooMany := C_TooMany, Twice := C_Twice } : XA)) xs xi_BadGood xi_BadStep xi_NoDesk xi_NoLetter xi_NoName xi_NoText xi_Notices xi_TooMany xi_Twice g_alikeL g_draw g_names g_number g_sorts F7, PySem.W.mg_of X G a7, k7, b7⟩
  exact ok_law bs g_flow g_right F8
theorem walk {l : PySem.W.OpenLaw} {q : Program} {loose : List Str} {XP : (Str → Option Value) → Heap → Prop} {YP : World → Heap → Prop} {d : DefRec} {K : Params → PySem.W.Frag} (hn : l.most = some 63) (hdf : d.params.defaults = [])
    (hY : ∀ (w : World) (h : Heap), YP w h → (K w.params).In h)
    (F : ∀ (w : World) (mg : Str → Option Value) (fa : Addr) (h : Heap), (K w.params).In h → h.Ns mainGlobals mg → mg d.name = some (.ref fa) →
      ∃ fd : FuncData, (∀ (s : Shared) (u : Value), BindsTo s fd ⟨[u], []⟩ [("_law_script", u)]) ∧ ∀ base : Heap, (K w.params).In base → base.Ns mainGlobals mg → FnOk l.prog w (K w.params) mg base (L2.CX l.prog w) 6 fa fd ["_law_script"] (c_law (K w.params)).sp) :
    PySem.W.WalkO q loose XP YP l.row.toRowW d [] (fun f vs => PySem.call f vs) :=
  L2.walk_of (n := 63) (k := 6) (x := "_law_script") (CX := fun w => L2.CX l.prog w) (sp := fun w => (c_law (K w.params)).sp) hn (by decide) hdf ⟨rfl, by decide, by decide⟩ hY F
    (fun w H a ns hl _ hS => law_sp hl hS) (fun w H s e s' z => by obtain ⟨_, _, _, _, _, _, _, _, _, _, _, _, h⟩ := z; exact h)
end K01
open PySem PySem.W PyProof.Rows in
set_option maxRecDepth 100000 in
set_option maxHeartbeats 0 in
theorem PySem.Challenge.cw_meetdesks_k01_refusals_holds : PySem.Challenge.rw_meetdesks_k01_refusals.Holds := by
  w_on; o_law; k_head; (case hw => w_witness2)
  k_fill
  refine K01.walk (l := PySem.Challenge.rw_meetdesks_k01_refusals) rfl rfl (fun w h Y => PySem.W.kIn_of Y) ?F
  case F =>
    intro w mg fa h KX G hmg
    refine' K01.all_mk KX G hmg ?a0 ?l0 ?c0 ?k0 ?a1 ?l1 ?c1 ?k1 ?a2 ?l2 ?c2 ?k2 ?a3 ?l3 ?c3 ?k3 ?a4 ?l4 ?c4 ?k4 ?a5 ?l5 ?c5 ?k5 ?a6 ?l6 ?c6 ?k6 ?a7 ?l7 ?c7 ?k7 ?a8 ?l8 ?c8 ?k8 ?z_len ?z_range ?z_list ?z_isinstance ?z_all ?z_int ?z_max ?z_bool ?z_str ?z_enumerate ?z_zip ?z_ValueError ?aX_BadGood ?sb_BadGood ?hx_BadGood ?tx_BadGood ?ss_BadGood ?aX_BadStep ?sb_BadStep ?hx_BadStep ?tx_BadStep ?ss_BadStep ?aX_MeetError ?sb_MeetError ?hx_MeetError ?tx_MeetError ?ss_MeetError ?aX_NoDesk ?sb_NoDesk ?hx_NoDesk ?tx_NoDesk ?ss_NoDesk ?aX_NoKind ?sb_NoKind ?hx_NoKind ?tx_NoKind ?ss_NoKind ?aX_NoLetter ?sb_NoLetter ?hx_NoLetter ?tx_NoLetter ?ss_NoLetter ?aX_NoName ?sb_NoName ?hx_NoName ?tx_NoName ?ss_NoName ?aX_NoRow ?sb_NoRow ?hx_NoRow ?tx_NoRow ?ss_NoRow ?aX_NoText ?sb_NoText ?hx_NoText ?tx_NoText ?ss_NoText ?aX_Notices ?sb_Notices ?hx_Notices ?tx_Notices ?ss_Notices ?aX_OtherLetters ?sb_OtherLetters ?hx_OtherLetters ?tx_OtherLetters ?ss_OtherLetters ?aX_TooMany ?sb_TooMany ?hx_TooMany ?tx_TooMany ?ss_TooMany ?aX_Twice ?sb_Twice ?hx_Twice ?tx_Twice ?ss_Twice ?xL_BadGood ?sx_BadGood ?kx_BadGood ?gx_BadGood ?gg_BadGood ?gc_BadGood ?mo_BadGood ?xL_BadStep ?sx_BadStep ?kx_BadStep ?gx_BadStep ?gg_BadStep ?gc_BadStep ?mo_BadStep ?xL_NoDesk ?sx_NoDesk ?kx_NoDesk ?gx_NoDesk ?gg_NoDesk ?gc_NoDesk ?mo_NoDesk ?xL_NoKind ?sx_NoKind ?kx_NoKind ?gx_NoKind ?gg_NoKind ?gc_NoKind ?mo_NoKind ?xL_NoLetter ?sx_NoLetter ?kx_NoLetter ?gx_NoLetter ?gg_NoLetter ?gc_NoLetter ?mo_NoLetter ?xL_NoName ?sx_NoName ?kx_NoName ?gx_NoName ?gg_NoName ?gc_NoName ?mo_NoName ?xL_NoRow ?sx_NoRow ?kx_NoRow ?gx_NoRow ?gg_NoRow ?gc_NoRow ?mo_NoRow ?xL_NoText ?sx_NoText ?kx_NoText ?gx_NoText ?gg_NoText ?gc_NoText ?mo_NoText ?xL_Notices ?sx_Notices ?kx_Notices ?gx_Notices ?gg_Notices ?gc_Notices ?mo_Notices ?xL_OtherLetters ?sx_OtherLetters ?kx_OtherLetters ?gx_OtherLetters ?gg_OtherLetters ?gc_OtherLetters ?mo_OtherLetters ?xL_TooMany ?sx_TooMany ?kx_TooMany ?gx_TooMany ?gg_TooMany ?gc_TooMany ?mo_TooMany ?xL_Twice ?sx_Twice ?kx_Twice ?gx_Twice ?gg_Twice ?gc_Twice ?mo_Twice ?oc1 ?oc2 ?oX_OtherLetters ?oX_NoKind ?oX_NoRow ?n_BadGood_state ?n_BadStep_letter ?n_BadStep_state ?n_NoDesk_desk ?n_NoLetter_letter ?n_NoName_name ?n_NoText_line ?n_Notices_one ?n_Notices_other ?n_TooMany_most ?n_Twice_name ?sp_BadGood_BadStep ?sp_BadGood_MeetError ?sp_BadGood_NoDesk ?sp_BadGood_NoKind ?sp_BadGood_NoLetter ?sp_BadGood_NoName ?sp_BadGood_NoRow ?sp_BadGood_NoText ?sp_BadGood_Notices ?sp_BadGood_OtherLetters ?sp_BadGood_TooMany ?sp_BadGood_Twice ?sp_BadStep_BadGood ?sp_BadStep_MeetError ?sp_BadStep_NoDesk ?sp_BadStep_NoKind ?sp_BadStep_NoLetter ?sp_BadStep_NoName ?sp_BadStep_NoRow ?sp_BadStep_NoText ?sp_BadStep_Notices ?sp_BadStep_OtherLetters ?sp_BadStep_TooMany ?sp_BadStep_Twice ?sp_NoDesk_BadGood ?sp_NoDesk_BadStep ?sp_NoDesk_MeetError ?sp_NoDesk_NoKind ?sp_NoDesk_NoLetter ?sp_NoDesk_NoName ?sp_NoDesk_NoRow ?sp_NoDesk_NoText ?sp_NoDesk_Notices ?sp_NoDesk_OtherLetters ?sp_NoDesk_TooMany ?sp_NoDesk_Twice ?sp_NoKind_BadGood ?sp_NoKind_BadStep ?sp_NoKind_MeetError ?sp_NoKind_NoDesk ?sp_NoKind_NoLetter ?sp_NoKind_NoName ?sp_NoKind_NoRow ?sp_NoKind_NoText ?sp_NoKind_Notices ?sp_NoKind_OtherLetters ?sp_NoKind_TooMany ?sp_NoKind_Twice ?sp_NoLetter_BadGood ?sp_NoLetter_BadStep ?sp_NoLetter_MeetError ?sp_NoLetter_NoDesk ?sp_NoLetter_NoKind ?sp_NoLetter_NoName ?sp_NoLetter_NoRow ?sp_NoLetter_NoText ?sp_NoLetter_Notices ?sp_NoLetter_OtherLetters ?sp_NoLetter_TooMany ?sp_NoLetter_Twice ?sp_NoName_BadGood ?sp_NoName_BadStep ?sp_NoName_MeetError ?sp_NoName_NoDesk ?sp_NoName_NoKind ?sp_NoName_NoLetter ?sp_NoName_NoRow ?sp_NoName_NoText ?sp_NoName_Notices ?sp_NoName_OtherLetters ?sp_NoName_TooMany ?sp_NoName_Twice ?sp_NoRow_BadGood ?sp_NoRow_BadStep ?sp_NoRow_MeetError ?sp_NoRow_NoDesk ?sp_NoRow_NoKind ?sp_NoRow_NoLetter ?sp_NoRow_NoName ?sp_NoRow_NoText ?sp_NoRow_Notices ?sp_NoRow_OtherLetters ?sp_NoRow_TooMany ?sp_NoRow_Twice ?sp_NoText_BadGood ?sp_NoText_BadStep ?sp_NoText_MeetError ?sp_NoText_NoDesk ?sp_NoText_NoKind ?sp_NoText_NoLetter ?sp_NoText_NoName ?sp_NoText_NoRow ?sp_NoText_Notices ?sp_NoText_OtherLetters ?sp_NoText_TooMany ?sp_NoText_Twice ?sp_Notices_BadGood ?sp_Notices_BadStep ?sp_Notices_MeetError ?sp_Notices_NoDesk ?sp_Notices_NoKind ?sp_Notices_NoLetter ?sp_Notices_NoName ?sp_Notices_NoRow ?sp_Notices_NoText ?sp_Notices_OtherLetters ?sp_Notices_TooMany ?sp_Notices_Twice ?sp_OtherLetters_BadGood ?sp_OtherLetters_BadStep ?sp_OtherLetters_MeetError ?sp_OtherLetters_NoDesk ?sp_OtherLetters_NoKind ?sp_OtherLetters_NoLetter ?sp_OtherLetters_NoName ?sp_OtherLetters_NoRow ?sp_OtherLetters_NoText ?sp_OtherLetters_Notices ?sp_OtherLetters_TooMany ?sp_OtherLetters_Twice ?sp_TooMany_BadGood ?sp_TooMany_BadStep ?sp_TooMany_MeetError ?sp_TooMany_NoDesk ?sp_TooMany_NoKind ?sp_TooMany_NoLetter ?sp_TooMany_NoName ?sp_TooMany_NoRow ?sp_TooMany_NoText ?sp_TooMany_Notices ?sp_TooMany_OtherLetters ?sp_TooMany_Twice ?sp_Twice_BadGood ?sp_Twice_BadStep ?sp_Twice_MeetError ?sp_Twice_NoDesk ?sp_Twice_NoKind ?sp_Twice_NoLetter ?sp_Twice_NoName ?sp_Twice_NoRow ?sp_Twice_NoText ?sp_Twice_Notices ?sp_Twice_OtherLetters ?sp_Twice_TooMany ?st_BadGood_ValueError ?st_BadStep_ValueError ?st_NoDesk_ValueError ?st_NoKind_ValueError ?st_NoLetter_ValueError ?st_NoName_ValueError ?st_NoRow_ValueError ?st_NoText_ValueError ?st_Notices_ValueError ?st_OtherLetters_ValueError ?st_TooMany_ValueError ?st_Twice_ValueError ?iX_BadGood ?tI_BadGood ?lI_BadGood ?cI_BadGood ?kI_BadGood ?iX_BadStep ?tI_BadStep ?lI_BadStep ?cI_BadStep ?kI_BadStep ?iX_NoDesk ?tI_NoDesk ?lI_NoDesk ?cI_NoDesk ?kI_NoDesk ?iX_NoLetter ?tI_NoLetter ?lI_NoLetter ?cI_NoLetter ?kI_NoLetter ?iX_NoName ?tI_NoName ?lI_NoName ?cI_NoName ?kI_NoName ?iX_NoText ?tI_NoText ?lI_NoText ?cI_NoText ?kI_NoText ?iX_Notices ?tI_Notices ?lI_Notices ?cI_Notices ?kI_Notices ?iX_TooMany ?tI_TooMany ?lI_TooMany ?cI_TooMany ?kI_TooMany ?iX_Twice ?tI_Twice ?lI_Twice ?cI_Twice ?kI_Twice ?mo1 ?mo2 ?mo3
    (case a0 => k_is)
    (case l0 => k_is)
    (case c0 => k_is)
    (case k0 => k_is)
    (case a1 => k_is)
    (case l1 => k_is)
    (case c1 => k_is)
    (case k1 => k_is)
    (case a2 => k_is)
    (case l2 => k_is)
    (case c2 => k_is)
    (case k2 => k_is)
    (case a3 => k_is)
    (case l3 => k_is)
    (case c3 => k_is)
    (case k3 => k_is)
    (case a4 => k_is)
    (case l4 => k_is)
    (case c4 => k_is)
    (case k4 => k_is)
    (case a5 => k_is)
    (case l5 => k_is)
    (case c5 => k_is)
    (case k5 => k_is)
    (case a6 => k_is)
    (case l6 => k_is)
    (case c6 => k_is)
    (case k6 => k_is)
    (case a7 => k_is)
    (case l7 => k_is)
    (case c7 => k_is)
    (case k7 => k_is)
    (case a8 => k_is)
    (case l8 => k_is)
    (case c8 => k_is)
    (case k8 => k_is)
    (case z_len => k_is)
    (case z_range => k_is)
    (case z_list => k_is)
    (case z_isinstance => k_is)
    (case z_all => k_is)
    (case z_int => k_is)
    (case z_max => k_is)
    (case z_bool => k_is)
    (case z_str => k_is)
    (case z_enumerate => k_is)
    (case z_zip => k_is)
    (case z_ValueError => k_is)
    (case aX_BadGood => k_is)
    (case sb_BadGood => k_is)
    (case hx_BadGood => k_is)
    (case tx_BadGood => k_is)
    (case ss_BadGood => k_is)
    (case aX_BadStep => k_is)
    (case sb_BadStep => k_is)
    (case hx_BadStep => k_is)
    (case tx_BadStep => k_is)
    (case ss_BadStep => k_is)
    (case aX_MeetError => k_is)
    (case sb_MeetError => k_is)
    (case hx_MeetError => k_is)
    (case tx_MeetError => k_is)
    (case ss_MeetError => k_is)
    (case aX_NoDesk => k_is)
    (case sb_NoDesk => k_is)
    (case hx_NoDesk => k_is)
    (case tx_NoDesk => k_is)
    (case ss_NoDesk => k_is)
    (case aX_NoKind => k_is)
    (case sb_NoKind => k_is)
    (case hx_NoKind => k_is)
    (case tx_NoKind => k_is)
    (case ss_NoKind => k_is)
    (case aX_NoLetter => k_is)
    (case sb_NoLetter => k_is)
    (case hx_NoLetter => k_is)
    (case tx_NoLetter => k_is)
    (case ss_NoLetter => k_is)
    (case aX_NoName => k_is)
    (case sb_NoName => k_is)
    (case hx_NoName => k_is)
    (case tx_NoName => k_is)
    (case ss_NoName => k_is)
    (case aX_NoRow => k_is)
    (case sb_NoRow => k_is)
    (case hx_NoRow => k_is)
    (case tx_NoRow => k_is)
    (case ss_NoRow => k_is)
    (case aX_NoText => k_is)
    (case sb_NoText => k_is)
    (case hx_NoText => k_is)
    (case tx_NoText => k_is)
    (case ss_NoText => k_is)
    (case aX_Notices => k_is)
    (case sb_Notices => k_is)
    (case hx_Notices => k_is)
    (case tx_Notices => k_is)
    (case ss_Notices => k_is)
    (case aX_OtherLetters => k_is)
    (case sb_OtherLetters => k_is)
    (case hx_OtherLetters => k_is)
    (case tx_OtherLetters => k_is)
    (case ss_OtherLetters => k_is)
    (case aX_TooMany => k_is)
    (case sb_TooMany => k_is)
    (case hx_TooMany => k_is)
    (case tx_TooMany => k_is)
    (case ss_TooMany => k_is)
    (case aX_Twice => k_is)
    (case sb_Twice => k_is)
    (case hx_Twice => k_is)
    (case tx_Twice => k_is)
    (case ss_Twice => k_is)
    (case xL_BadGood => k_is)
    (case sx_BadGood => k_is)
    (case kx_BadGood => k_is)
    (case gx_BadGood => k_is)
    (case gg_BadGood => k_is)
    (case gc_BadGood => k_is)
    (case mo_BadGood => k_is)
    (case xL_BadStep => k_is)
    (case sx_BadStep => k_is)
    (case kx_BadStep => k_is)
    (case gx_BadStep => k_is)
    (case gg_BadStep => k_is)
    (case gc_BadStep => k_is)
    (case mo_BadStep => k_is)
    (case xL_NoDesk => k_is)
    (case sx_NoDesk => k_is)
    (case kx_NoDesk => k_is)
    (case gx_NoDesk => k_is)
    (case gg_NoDesk => k_is)
    (case gc_NoDesk => k_is)
    (case mo_NoDesk => k_is)
    (case xL_NoKind => k_is)
    (case sx_NoKind => k_is)
    (case kx_NoKind => k_is)
    (case gx_NoKind => k_is)
    (case gg_NoKind => k_is)
    (case gc_NoKind => k_is)
    (case mo_NoKind => k_is)
    (case xL_NoLetter => k_is)
    (case sx_NoLetter => k_is)
    (case kx_NoLetter => k_is)
    (case gx_NoLetter => k_is)
    (case gg_NoLetter => k_is)
    (case gc_NoLetter => k_is)
    (case mo_NoLetter => k_is)
    (case xL_NoName => k_is)
    (case sx_NoName => k_is)
    (case kx_NoName => k_is)
    (case gx_NoName => k_is)
    (case gg_NoName => k_is)
    (case gc_NoName => k_is)
    (case mo_NoName => k_is)
    (case xL_NoRow => k_is)
    (case sx_NoRow => k_is)
    (case kx_NoRow => k_is)
    (case gx_NoRow => k_is)
    (case gg_NoRow => k_is)
    (case gc_NoRow => k_is)
    (case mo_NoRow => k_is)
    (case xL_NoText => k_is)
    (case sx_NoText => k_is)
    (case kx_NoText => k_is)
    (case gx_NoText => k_is)
    (case gg_NoText => k_is)
    (case gc_NoText => k_is)
    (case mo_NoText => k_is)
    (case xL_Notices => k_is)
    (case sx_Notices => k_is)
    (case kx_Notices => k_is)
    (case gx_Notices => k_is)
    (case gg_Notices => k_is)
    (case gc_Notices => k_is)
    (case mo_Notices => k_is)
    (case xL_OtherLetters => k_is)
    (case sx_OtherLetters => k_is)
    (case kx_OtherLetters => k_is)
    (case gx_OtherLetters => k_is)
    (case gg_OtherLetters => k_is)
    (case gc_OtherLetters => k_is)
    (case mo_OtherLetters => k_is)
    (case xL_TooMany => k_is)
    (case sx_TooMany => k_is)
    (case kx_TooMany => k_is)
    (case gx_TooMany => k_is)
    (case gg_TooMany => k_is)
    (case gc_TooMany => k_is)
    (case mo_TooMany => k_is)
    (case xL_Twice => k_is)
    (case sx_Twice => k_is)
    (case kx_Twice => k_is)
    (case gx_Twice => k_is)
    (case gg_Twice => k_is)
    (case gc_Twice => k_is)
    (case mo_Twice => k_is)
    (case oc1 => k_is)
    (case oc2 => k_is)
    (case oX_OtherLetters => k_exc)
    (case oX_NoKind => k_exc)
    (case oX_NoRow => k_exc)
    (case n_BadGood_state => k_is)
    (case n_BadStep_letter => k_is)
    (case n_BadStep_state => k_is)
    (case n_NoDesk_desk => k_is)
    (case n_NoLetter_letter => k_is)
    (case n_NoName_name => k_is)
    (case n_NoText_line => k_is)
    (case n_Notices_one => k_is)
    (case n_Notices_other => k_is)
    (case n_TooMany_most => k_is)
    (case n_Twice_name => k_is)
    (case sp_BadGood_BadStep => k_is)
    (case sp_BadGood_MeetError => k_is)
    (case sp_BadGood_NoDesk => k_is)
    (case sp_BadGood_NoKind => k_is)
    (case sp_BadGood_NoLetter => k_is)
    (case sp_BadGood_NoName => k_is)
    (case sp_BadGood_NoRow => k_is)
    (case sp_BadGood_NoText => k_is)
    (case sp_BadGood_Notices => k_is)
    (case sp_BadGood_OtherLetters => k_is)
    (case sp_BadGood_TooMany => k_is)
    (case sp_BadGood_Twice => k_is)
    (case sp_BadStep_BadGood => k_is)
    (case sp_BadStep_MeetError => k_is)
    (case sp_BadStep_NoDesk => k_is)
    (case sp_BadStep_NoKind => k_is)
    (case sp_BadStep_NoLetter => k_is)
    (case sp_BadStep_NoName => k_is)
    (case sp_BadStep_NoRow => k_is)
    (case sp_BadStep_NoText => k_is)
    (case sp_BadStep_Notices => k_is)
    (case sp_BadStep_OtherLetters => k_is)
    (case sp_BadStep_TooMany => k_is)
    (case sp_BadStep_Twice => k_is)
    (case sp_NoDesk_BadGood => k_is)
    (case sp_NoDesk_BadStep => k_is)
    (case sp_NoDesk_MeetError => k_is)
    (case sp_NoDesk_NoKind => k_is)
    (case sp_NoDesk_NoLetter => k_is)
    (case sp_NoDesk_NoName => k_is)
    (case sp_NoDesk_NoRow => k_is)
    (case sp_NoDesk_NoText => k_is)
    (case sp_NoDesk_Notices => k_is)
    (case sp_NoDesk_OtherLetters => k_is)
    (case sp_NoDesk_TooMany => k_is)
    (case sp_NoDesk_Twice => k_is)
    (case sp_NoKind_BadGood => k_is)
    (case sp_NoKind_BadStep => k_is)
    (case sp_NoKind_MeetError => k_is)
    (case sp_NoKind_NoDesk => k_is)
    (case sp_NoKind_NoLetter => k_is)
    (case sp_NoKind_NoName => k_is)
    (case sp_NoKind_NoRow => k_is)
    (case sp_NoKind_NoText => k_is)
    (case sp_NoKind_Notices => k_is)
    (case sp_NoKind_OtherLetters => k_is)
    (case sp_NoKind_TooMany => k_is)
    (case sp_NoKind_Twice => k_is)
    (case sp_NoLetter_BadGood => k_is)
    (case sp_NoLetter_BadStep => k_is)
    (case sp_NoLetter_MeetError => k_is)
    (case sp_NoLetter_NoDesk => k_is)
    (case sp_NoLetter_NoKind => k_is)
    (case sp_NoLetter_NoName => k_is)
    (case sp_NoLetter_NoRow => k_is)
    (case sp_NoLetter_NoText => k_is)
    (case sp_NoLetter_Notices => k_is)
    (case sp_NoLetter_OtherLetters => k_is)
    (case sp_NoLetter_TooMany => k_is)
    (case sp_NoLetter_Twice => k_is)
    (case sp_NoName_BadGood => k_is)
    (case sp_NoName_BadStep => k_is)
    (case sp_NoName_MeetError => k_is)
    (case sp_NoName_NoDesk => k_is)
    (case sp_NoName_NoKind => k_is)
    (case sp_NoName_NoLetter => k_is)
    (case sp_NoName_NoRow => k_is)
    (case sp_NoName_NoText => k_is)
    (case sp_NoName_Notices => k_is)
    (case sp_NoName_OtherLetters => k_is)
    (case sp_NoName_TooMany => k_is)
    (case sp_NoName_Twice => k_is)
    (case sp_NoRow_BadGood => k_is)
    (case sp_NoRow_BadStep => k_is)
    (case sp_NoRow_MeetError => k_is)
    (case sp_NoRow_NoDesk => k_is)
    (case sp_NoRow_NoKind => k_is)
    (case sp_NoRow_NoLetter => k_is)
    (case sp_NoRow_NoName => k_is)
    (case sp_NoRow_NoText => k_is)
    (case sp_NoRow_Notices => k_is)
    (case sp_NoRow_OtherLetters => k_is)
    (case sp_NoRow_TooMany => k_is)
    (case sp_NoRow_Twice => k_is)
    (case sp_NoText_BadGood => k_is)
    (case sp_NoText_BadStep => k_is)
    (case sp_NoText_MeetError => k_is)
    (case sp_NoText_NoDesk => k_is)
    (case sp_NoText_NoKind => k_is)
    (case sp_NoText_NoLetter => k_is)
    (case sp_NoText_NoName => k_is)
    (case sp_NoText_NoRow => k_is)
    (case sp_NoText_Notices => k_is)
    (case sp_NoText_OtherLetters => k_is)
    (case sp_NoText_TooMany => k_is)
    (case sp_NoText_Twice => k_is)
    (case sp_Notices_BadGood => k_is)
    (case sp_Notices_BadStep => k_is)
    (case sp_Notices_MeetError => k_is)
    (case sp_Notices_NoDesk => k_is)
    (case sp_Notices_NoKind => k_is)
    (case sp_Notices_NoLetter => k_is)
    (case sp_Notices_NoName => k_is)
    (case sp_Notices_NoRow => k_is)
    (case sp_Notices_NoText => k_is)
    (case sp_Notices_OtherLetters => k_is)
    (case sp_Notices_TooMany => k_is)
    (case sp_Notices_Twice => k_is)
    (case sp_OtherLetters_BadGood => k_is)
    (case sp_OtherLetters_BadStep => k_is)
    (case sp_OtherLetters_MeetError => k_is)
    (case sp_OtherLetters_NoDesk => k_is)
    (case sp_OtherLetters_NoKind => k_is)
    (case sp_OtherLetters_NoLetter => k_is)
    (case sp_OtherLetters_NoName => k_is)
    (case sp_OtherLetters_NoRow => k_is)
    (case sp_OtherLetters_NoText => k_is)
    (case sp_OtherLetters_Notices => k_is)
    (case sp_OtherLetters_TooMany => k_is)
    (case sp_OtherLetters_Twice => k_is)
    (case sp_TooMany_BadGood => k_is)
    (case sp_TooMany_BadStep => k_is)
    (case sp_TooMany_MeetError => k_is)
    (case sp_TooMany_NoDesk => k_is)
    (case sp_TooMany_NoKind => k_is)
    (case sp_TooMany_NoLetter => k_is)
    (case sp_TooMany_NoName => k_is)
    (case sp_TooMany_NoRow => k_is)
    (case sp_TooMany_NoText => k_is)
    (case sp_TooMany_Notices => k_is)
    (case sp_TooMany_OtherLetters => k_is)
    (case sp_TooMany_Twice => k_is)
    (case sp_Twice_BadGood => k_is)
    (case sp_Twice_BadStep => k_is)
    (case sp_Twice_MeetError => k_is)
    (case sp_Twice_NoDesk => k_is)
    (case sp_Twice_NoKind => k_is)
    (case sp_Twice_NoLetter => k_is)
    (case sp_Twice_NoName => k_is)
    (case sp_Twice_NoRow => k_is)
    (case sp_Twice_NoText => k_is)
    (case sp_Twice_Notices => k_is)
    (case sp_Twice_OtherLetters => k_is)
    (case sp_Twice_TooMany => k_is)
    (case st_BadGood_ValueError => k_is)
    (case st_BadStep_ValueError => k_is)
    (case st_NoDesk_ValueError => k_is)
    (case st_NoKind_ValueError => k_is)
    (case st_NoLetter_ValueError => k_is)
    (case st_NoName_ValueError => k_is)
    (case st_NoRow_ValueError => k_is)
    (case st_NoText_ValueError => k_is)
    (case st_Notices_ValueError => k_is)
    (case st_OtherLetters_ValueError => k_is)
    (case st_TooMany_ValueError => k_is)
    (case st_Twice_ValueError => k_is)
    (case iX_BadGood => k_is)
    (case tI_BadGood => k_is)
    (case lI_BadGood => k_is)
    (case cI_BadGood => k_is)
    (case kI_BadGood => k_is)
    (case iX_BadStep => k_is)
    (case tI_BadStep => k_is)
    (case lI_BadStep => k_is)
    (case cI_BadStep => k_is)
    (case kI_BadStep => k_is)
    (case iX_NoDesk => k_is)
    (case tI_NoDesk => k_is)
    (case lI_NoDesk => k_is)
    (case cI_NoDesk => k_is)
    (case kI_NoDesk => k_is)
    (case iX_NoLetter => k_is)
    (case tI_NoLetter => k_is)
    (case lI_NoLetter => k_is)
    (case cI_NoLetter => k_is)
    (case kI_NoLetter => k_is)
    (case iX_NoName => k_is)
    (case tI_NoName => k_is)
    (case lI_NoName => k_is)
    (case cI_NoName => k_is)
    (case kI_NoName => k_is)
    (case iX_NoText => k_is)
    (case tI_NoText => k_is)
    (case lI_NoText => k_is)
    (case cI_NoText => k_is)
    (case kI_NoText => k_is)
    (case iX_Notices => k_is)
    (case tI_Notices => k_is)
    (case lI_Notices => k_is)
    (case cI_Notices => k_is)
    (case kI_Notices => k_is)
    (case iX_TooMany => k_is)
    (case tI_TooMany => k_is)
    (case lI_TooMany => k_is)
    (case cI_TooMany => k_is)
    (case kI_TooMany => k_is)
    (case iX_Twice => k_is)
    (case tI_Twice => k_is)
    (case lI_Twice => k_is)
    (case cI_Twice => k_is)
    (case kI_Twice => k_is)
    (case mo1 => k_is)
    (case mo2 => k_is)
    (case mo3 => k_is)
