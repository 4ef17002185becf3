import PyProof.Rows.All
import Wide.All
import OpenK.AllK
import Wide.FinOn
import HandS.ForMost
import HandS.Exc
import HandS.ForSpec
import HandS.Zip
import HandS.Strs
import HandS.SetFor
import HandS.SortInts
import HandS.IsInst
import HandS.WordsDict
import HandS.TupAny
import KE.GoesEnum
import HandS.Text
import HandS.ExcInit
import HandS.ExcIs
import KE.KExcIs
import HandS.TryMany
import HandS.Style
import HandS.HotCalls
import HandS.TupLe
import PyProof.FitsReplace
import HandS.Ends
import PyProof.ReprRoads
import HandS.Conv
import HandS.More
import HandS.SortKw
import KE.DataMinMax
import HandS.NoneIn
import PySem.Challenge.RW_meetdesks_k07_runs_and_rows_let_by
set_option Elab.async false
set_option linter.all false
set_option maxRecDepth 100000
set_option maxHeartbeats 4000000
/-! MD: typed judgements over the hand layer: what is frozen is plain data, what is owned is a cell; a def's walk gives a condition in plain Lean. -/
namespace MD
open PySem PySem.Spec PyProof.Rows L2
/-! ### the weakest readings -/
section
variable (X : Cx)
def WE (e : Expr) : TE := fun σ H Q => ∀ pins s, Inv X pins σ H s → wpAny (model X.prog X.w) X.A (eval e X.env) (EP X pins σ Q) X.xe s
def WT (e : Expr) : TT := fun σ H Q => ∀ pins s, Inv X pins σ H s → wpAny (model X.prog X.w) X.A (isTrue e X.env (eval e X.env)) (TP X pins σ Q) X.xe s
def WW (e : Expr) : TT := fun σ H Q => ∀ (wh : Sem Value) pins s, Inv X pins σ H s → wpAny (model X.prog X.w) X.A (isTrue e X.env wh) (TP X pins σ Q) X.xe s
def WA (es : List Expr) : TA := fun σ H Q => ∀ (pos : Pos) pins s, Inv X pins σ H s → wpAny (model X.prog X.w) X.A (spliced (backTo pos (starEach es X.env))) (AP X pins σ Q) X.xe s
def WS (st : Stmt) : TS := fun D σ H => ∀ pins s, Inv X pins σ H s → wpAny (model X.prog X.w) X.A (exec st X.env) (SP X pins D) X.xe s
def WB (st : List Stmt) : TS := fun D σ H => ∀ pins s, Inv X pins σ H s → wpAny (model X.prog X.w) X.A (execs st X.env) (SP X pins D) X.xe s
def WG (tg : Expr) : TG := fun v σ H Q => ∀ pins s u, Inv X pins σ H s → RelV v u → wpAny (model X.prog X.w) X.A (assign tg X.env u) (fun _ s' => ∃ σ' H', Inv X pins σ' H' s' ∧ Q σ' H') X.xe s
def WGs (tgs : List Expr) : TGs := fun vs σ H Q => ∀ pins s us, Inv X pins σ H s → Vals vs us →
    wpAny (model X.prog X.w) X.A (assignInOrder ((assignEach tgs X.env).map (·.2)) us) (fun _ s' => ∃ σ' H', Inv X pins σ' H' s' ∧ Q σ' H') X.xe s
def WI (tg iter : Expr) : TI := fun σ H R => ∀ pins s, Inv X pins σ H s → wpAny (model X.prog X.w) X.A (eval iter X.env) (fun v s1 => wpAny (model X.prog X.w) X.A (pyIter v) (PIE X pins σ tg R) X.xe s1) X.xe s
def WTs (ifs : List Expr) : TT := fun σ H Q => ∀ pins s, Inv X pins σ H s →
    wpAny (model X.prog X.w) X.A (forIn ifs true fun c r => if r = true then do let ok ← isTrue c X.env (eval c X.env); pure (ForInStep.yield ok) else pure (ForInStep.yield r)) (TP X pins σ Q) X.xe s
end
section
variable {X : Cx}
theorem pe_w {e : Expr} : PE X e (WE X e) := ⟨fun pins s _ _ _ I h => h pins s I⟩
theorem pt_w {e : Expr} : PT X e (WT X e) := ⟨fun pins s _ _ _ I h => h pins s I⟩
theorem pw_w {e : Expr} : PW X e (WW X e) := ⟨fun wh pins s _ _ _ I h => h wh pins s I⟩
theorem pa_w {es : List Expr} : PA X es (WA X es) := ⟨fun pos pins s _ _ _ I h => h pos pins s I⟩
theorem ps_w {st : Stmt} : PS X st (WS X st) := ⟨fun pins s _ _ _ I h => h pins s I⟩
theorem pss_w {st : List Stmt} : PSs X st (WB X st) := ⟨fun pins s _ _ _ I h => h pins s I⟩
theorem pg_w {tg : Expr} : PG X tg (WG X tg) := ⟨fun pins s _ _ _ u _ I r h => h pins s u I r⟩
theorem pgs_w {tgs : List Expr} : PGs X tgs (WGs X tgs) := ⟨fun pins s _ _ _ us _ I r h => h pins s us I r⟩
theorem pi_w {tg iter : Expr} : PI X tg iter (WI X tg iter) := ⟨fun pins s _ _ _ I h => h pins s I⟩
theorem we {e : Expr} {t : TE} (h : PE X e t) {σ H Q} (q : t σ H Q) : WE X e σ H Q := fun pins s I => h.run pins s σ H Q I q
theorem wt {e : Expr} {t : TT} (h : PT X e t) {σ H Q} (q : t σ H Q) : WT X e σ H Q := fun pins s I => h.run pins s σ H Q I q
theorem ww {e : Expr} {t : TT} (h : PW X e t) {σ H Q} (q : t σ H Q) : WW X e σ H Q := fun wh pins s I => h.run wh pins s σ H Q I q
theorem wa {es : List Expr} {t : TA} (h : PA X es t) {σ H Q} (q : t σ H Q) : WA X es σ H Q := fun pos pins s I => h.run pos pins s σ H Q I q
theorem ws {st : Stmt} {t : TS} (h : PS X st t) {D σ H} (q : t D σ H) : WS X st D σ H := fun pins s I => h.run pins s σ H D I q
theorem wb {st : List Stmt} {t : TS} (h : PSs X st t) {D σ H} (q : t D σ H) : WB X st D σ H := fun pins s I => h.run pins s σ H D I q
theorem wg {tg : Expr} {t : TG} (h : PG X tg t) {v σ H Q} (q : t v σ H Q) : WG X tg v σ H Q := fun pins s u I r => h.run pins s σ H v u Q I r q
theorem wgs {tgs : List Expr} {t : TGs} (h : PGs X tgs t) {vs σ H Q} (q : t vs σ H Q) : WGs X tgs vs σ H Q := fun pins s us I r => h.run pins s σ H vs us Q I r q
theorem wi {tg iter : Expr} {t : TI} (h : PI X tg iter t) {σ H R} (q : t σ H R) : WI X tg iter σ H R := fun pins s I => h.run pins s σ H R I q
theorem wts {ifs : List Expr} {t : TT} (h : PTs X ifs t) {σ H Q} (q : t σ H Q) : WTs X ifs σ H Q := fun pins s I => h.run pins s σ H Q I q
end
/-! ### types -/
structure Ty (K : PySem.W.Frag) (α : Type) where
  rep : Hp → V → α → Prop
  mono : ∀ {F F' : Hp} {v : V} {x : α}, Same F F' → rep F v x → rep F' v x
/-- several values in a row -/
structure Tys (K : PySem.W.Frag) (α : Type) where
  rep : Hp → List V → α → Prop
  mono : ∀ {F F' : Hp} {v : List V} {x : α}, Same F F' → rep F v x → rep F' v x
theorem same_sqT {K : PySem.W.Frag} {H H' : Hp} {a : Addr} {xs : List V} (e : Same H H') (h : SqT K H a xs) : SqT K H' a xs := by
  rcases h with (h | ⟨o, h⟩) | h
  · exact .inl (.inl (e _ _ h))
  · exact .inl (.inr ⟨o, e _ _ h⟩)
  · exact .inr h
theorem same_rd {H H' : Hp} {a : Addr} {u : HO} (e : Same H H') (h : Rd H a u) : Rd H' a u := by
  rcases h with h | ⟨o, h⟩
  · exact .inl (e a _ h)
  · exact .inr ⟨o, e a _ h⟩
theorem paired_mono {α β : Type} {f g : α → β → Prop} (h : ∀ a b, f a b → g a b) : ∀ {xs : List α} {ys : List β}, Paired f xs ys → Paired g xs ys
  | _, _, .nil => .nil
  | _, _, .cons r t => .cons (h _ _ r) (paired_mono h t)
section
variable {K : PySem.W.Frag} {α β γ : Type}
def tI : Ty K Int := ⟨fun _ v x => v = .int x, fun _ h => h⟩
def tB : Ty K Bool := ⟨fun _ v x => v = .bl x, fun _ h => h⟩
def tS : Ty K Str := ⟨fun _ v x => v = .str x ∧ PySem.PyData.strOk x = true, fun _ h => h⟩
def tN : Ty K Unit := ⟨fun _ v _ => v = .non, fun _ h => h⟩
def tR : Ty K Addr := ⟨fun _ v x => v = .ref x, fun _ h => h⟩
def tO (T : Ty K α) : Ty K (Option α) := ⟨fun F v x => match x with | none => v = .non | some y => T.rep F v y, fun {F F' v x} e h => by
  cases x with
  | none => exact h
  | some y => exact T.mono e h⟩
def Rl (T : Ty K α) (F : Hp) : List V → List α → Prop := Paired (T.rep F)
theorem Rl.mono {T : Ty K α} {F F' : Hp} {vs : List V} {xs : List α} (e : Same F F') (h : Rl T F vs xs) : Rl T F' vs xs := paired_mono (fun _ _ r => T.mono e r) h
def tL (T : Ty K α) : Ty K (List α) := ⟨fun F v xs => ∃ a vs, v = .ref a ∧ F a = some (.lst vs) ∧ Rl T F vs xs ∧ vs.length ≤ sizeLine, fun e ⟨a, vs, h1, h2, h3, h4⟩ => ⟨a, vs, h1, e _ _ h2, h3.mono e, h4⟩⟩
/-- a list that may be the module's own, or the script -/
def tLK (T : Ty K α) : Ty K (List α) := ⟨fun F v xs => ∃ a vs, v = .ref a ∧ SqL K F a vs ∧ Rl T F vs xs ∧ vs.length ≤ sizeLine, fun e ⟨a, vs, h1, h2, h3, h4⟩ => ⟨a, vs, h1, e.seq h2, h3.mono e, h4⟩⟩
def tU (T : Ty K α) : Ty K (List α) := ⟨fun F v xs => ∃ a vs, v = .ref a ∧ Rd F a (.tup vs) ∧ Rl T F vs xs ∧ vs.length ≤ sizeLine, fun e ⟨a, vs, h1, h2, h3, h4⟩ => ⟨a, vs, h1, same_rd e h2, h3.mono e, h4⟩⟩
def ts0 : Tys K Unit := ⟨fun _ vs _ => vs = [], fun _ h => h⟩
def ts1 (T : Ty K α) : Tys K α := ⟨fun F vs x => ∃ v, vs = [v] ∧ T.rep F v x, fun e ⟨v, h, r⟩ => ⟨v, h, T.mono e r⟩⟩
def tsC (T : Ty K α) (Ts : Tys K β) : Tys K (α × β) := ⟨fun F vs x => ∃ v r, vs = v :: r ∧ T.rep F v x.1 ∧ Ts.rep F r x.2, fun e ⟨v, r, h, a, b⟩ => ⟨v, r, h, T.mono e a, Ts.mono e b⟩⟩
/-- a tuple of written places -/
def tT (Ts : Tys K α) : Ty K α := ⟨fun F v x => ∃ a vs, v = .ref a ∧ F a = some (.tup vs) ∧ Ts.rep F vs x, fun e ⟨a, vs, h1, h2, h3⟩ => ⟨a, vs, h1, e _ _ h2, Ts.mono e h3⟩⟩
def tP (T : Ty K α) (U : Ty K β) : Ty K (α × β) := tT (tsC T (ts1 U))
end
/-! ### slots, cells -/
inductive Slot (K : PySem.W.Frag) : Type 1 where
  | un
  | val {α : Type} (T : Ty K α) (x : α)
def Slot.ok {K : PySem.W.Frag} (F : Hp) : Slot K → Option V → Prop
  | .un, _ => True
  | .val T x, o => ∃ v, o = some v ∧ T.rep F v x
theorem Slot.ok.mono {K : PySem.W.Frag} {F F' : Hp} (e : Same F F') : ∀ {s : Slot K} {o : Option V}, Slot.ok F s o → Slot.ok F' s o
  | .un, _, _ => trivial
  | .val T _, _, ⟨v, h, r⟩ => ⟨v, h, T.mono e r⟩
/-- what lies in a cell -/
structure CK (K : PySem.W.Frag) where
  rep : Hp → HO → Prop
  mono : ∀ {F F' : Hp} {o : HO}, Same F F' → rep F o → rep F' o
structure Cell (K : PySem.W.Frag) where
  a : Addr
  ck : CK K
def cL {K : PySem.W.Frag} {α : Type} (T : Ty K α) (xs : List α) : CK K := ⟨fun F o => ∃ vs, o = .lst vs ∧ Rl T F vs xs ∧ vs.length ≤ sizeLine, fun e ⟨vs, h, r, z⟩ => ⟨vs, h, r.mono e, z⟩⟩
/-- paired lists over any universe -/
inductive Prd {α : Type 1} {β : Type} (R : α → β → Prop) : List α → List β → Prop
  | nil : Prd R [] []
  | cons {a : α} {b : β} {as : List α} {bs : List β} : R a b → Prd R as bs → Prd R (a :: as) (b :: bs)
section
variable {α : Type 1} {β : Type} {R S : α → β → Prop}
theorem Prd.mono (h : ∀ a b, R a b → S a b) : ∀ {xs : List α} {ys : List β}, Prd R xs ys → Prd S xs ys
  | _, _, .nil => .nil
  | _, _, .cons r t => .cons (h _ _ r) (Prd.mono h t)
theorem Prd.get : ∀ {xs : List α} {ys : List β} {i : Nat} {x : α}, Prd R xs ys → xs[i]? = some x → ∃ y, ys[i]? = some y ∧ R x y
  | _, _, _, _, .nil, e => by simp at e
  | _, _, 0, _, .cons r _, e => by simp at e; subst e; exact ⟨_, rfl, r⟩
  | _, _, i + 1, x, .cons _ t, e => by
    obtain ⟨u, h1, h2⟩ := Prd.get (i := i) (x := x) t (by simpa using e)
    exact ⟨u, by simpa using h1, h2⟩
theorem Prd.set {x : α} {u : β} (r : R x u) : ∀ {xs : List α} {ys : List β} (i : Nat), Prd R xs ys → Prd R (xs.set i x) (ys.set i u)
  | _, _, _, .nil => .nil
  | _, _, 0, .cons _ t => .cons r t
  | _, _, i + 1, .cons q t => .cons q (Prd.set r i t)
theorem Prd.length : ∀ {xs : List α} {ys : List β}, Prd R xs ys → xs.length = ys.length
  | _, _, .nil => rfl
  | _, _, .cons _ t => by rw [List.length_cons, List.length_cons, t.length]
end
/-- a growth: F grows by new things, H keeps all -/
structure Grow (F H F' H' : Hp) : Prop where
  ff : Same F F'
  fh : Same F' H'
  hh : Same H H'
  fr : ∀ b, F b = none → F' b ≠ none → H b = none
section
variable {F F' H H' : Hp}
theorem Grow.refl (h : Same F H) : Grow F H F H := ⟨Same.refl F, h, Same.refl H, fun b h1 h2 => absurd h1 h2⟩
theorem Grow.trans {F1 H1 F2 H2 : Hp} (a : Grow F H F1 H1) (b : Grow F1 H1 F2 H2) : Grow F H F2 H2 where
  ff := a.ff.trans b.ff
  fh := b.fh
  hh := a.hh.trans b.hh
  fr := fun x h1 h2 => by
    by_cases h : F1 x = none
    · exact a.hh.free (b.fr x h h2)
    · exact a.fr x h1 h
/-- a new frozen thing -/
theorem grow_new (h : Same F H) {p : Addr} (hp : H p = none) (o : HO) : Grow F H (upd F p o) (upd H p o) where
  ff := fun b u e => by
    have : b ≠ p := fun z => by subst z; rw [h _ _ e] at hp; cases hp
    rw [upd_ne this]; exact e
  fh := fun b u e => by
    by_cases z : b = p
    · subst z; rw [upd_same] at e ⊢; exact e
    · rw [upd_ne z] at e ⊢; exact h _ _ e
  hh := fun b u e => by
    have : b ≠ p := fun z => by subst z; rw [e] at hp; cases hp
    rw [upd_ne this]; exact e
  fr := fun b n1 n2 => by
    by_cases z : b = p
    · subst z; exact hp
    · rw [upd_ne z] at n2; exact absurd n1 n2
end
/-- the weaker state that reading asks -/
structure Okw {K : PySem.W.Frag} (ρ : List (Slot K)) (cs : List (Cell K)) (F : Hp) (σ : L2.St) (H : Hp) : Prop where
  env : Prd (Slot.ok F) ρ σ
  same : Same F H
  cell : ∀ c ∈ cs, ∃ o, H c.a = some o ∧ c.ck.rep F o
section
variable {K : PySem.W.Frag} {ρ : List (Slot K)} {cs : List (Cell K)} {F F' H H' : Hp} {σ : L2.St}
theorem Okw.grow (o : Okw ρ cs F σ H) (g : Grow F H F' H') : Okw ρ cs F' σ H' :=
  ⟨o.env.mono fun _ _ r => r.mono g.ff, g.fh, fun c hc => let ⟨u, e, r⟩ := o.cell c hc; ⟨u, g.hh _ _ e, c.ck.mono g.ff r⟩⟩
theorem Okw.slot {α : Type} {T : Ty K α} {x : α} {i : Nat} (o : Okw ρ cs F σ H) (h : ρ[i]? = some (.val T x)) : ∃ v, σ[i]? = some (some v) ∧ T.rep F v x := by
  obtain ⟨u, h1, v, h2, r⟩ := o.env.get h
  subst h2
  exact ⟨v, h1, r⟩
end
/-! ### the judgements -/
section
/-- e gives x, if P; nothing that stands is changed -/
def PK (X : Cx) (e : Expr) (ρ : List (Slot X.K)) (cs : List (Cell X.K)) {α : Type} (T : Ty X.K α) (x : α) (P : Prop) : Prop :=
  ∀ F σ H, Okw ρ cs F σ H → P → ∀ Q : VK, (∀ v F' H', Grow F H F' H' → T.rep F' v x → Q v H') → WE X e σ H Q
def PAK (X : Cx) (es : List Expr) (ρ : List (Slot X.K)) (cs : List (Cell X.K)) {α : Type} (T : Tys X.K α) (x : α) (P : Prop) : Prop :=
  ∀ F σ H, Okw ρ cs F σ H → P → ∀ Q : List V → Hp → Prop, (∀ v F' H', Grow F H F' H' → T.rep F' v x → Q v H') → WA X es σ H Q
def PTK (X : Cx) (e : Expr) (ρ : List (Slot X.K)) (cs : List (Cell X.K)) (b : Bool) (P : Prop) : Prop :=
  ∀ F σ H, Okw ρ cs F σ H → P → ∀ Q : Bool → Hp → Prop, (∀ F' H', Grow F H F' H' → Q b H') → WT X e σ H Q
def PWK (X : Cx) (e : Expr) (ρ : List (Slot X.K)) (cs : List (Cell X.K)) (b : Bool) (P : Prop) : Prop :=
  ∀ F σ H, Okw ρ cs F σ H → P → ∀ Q : Bool → Hp → Prop, (∀ F' H', Grow F H F' H' → Q b H') → WW X e σ H Q
/-- an exception: its class, its fields -/
structure Exn (K : PySem.W.Frag) : Type 1 where
  c : Addr
  fs : List (Str × Slot K)
inductive FldOk {K : PySem.W.Frag} (F : Hp) : List (Str × Slot K) → List (Str × V) → Prop
  | nil : FldOk F [] []
  | cons {n : Str} {s : Slot K} {v : V} {as bs} : Slot.ok F s (some v) → FldOk F as bs → FldOk F ((n, s) :: as) ((n, v) :: bs)
def ExnRep {K : PySem.W.Frag} (F : Hp) (ex : Exn K) (cls : Value) (d : Option Addr) : Prop :=
  cls = .ref ex.c ∧ ((ex.fs = [] ∧ d = none) ∨ ∃ dd fs, d = some dd ∧ F dd = some (.xd fs) ∧ FldOk F ex.fs fs)
/-- what is wished of exceptions: ε of it, the cells kp as they were -/
structure Ec (K : PySem.W.Frag) : Type 1 where
  kp : List (Cell K)
  ε : Exn K → Prop
/-- the state that an expression asks -/
structure Okc {K : PySem.W.Frag} (ρ : List (Slot K)) (cs : List (Cell K)) (F : Hp) (σ : L2.St) (H : Hp) : Prop where
  env : Prd (Slot.ok F) ρ σ
  same : Same F H
  cell : ∀ c ∈ cs, F c.a = none ∧ ∃ o, H c.a = some o ∧ c.ck.rep F o
  nd : (cs.map Cell.a).Nodup
/-- from a state to another one: the cells cs alone have changed, and are cs' now, with new ones -/
structure Mv {K : PySem.W.Frag} (cs : List (Cell K)) (F H : Hp) (cs' : List (Cell K)) (F' H' : Hp) : Prop where
  ff : Same F F'
  fh : Same F' H'
  fr : ∀ b, F b = none → F' b ≠ none → H b = none
  kp : ∀ b o, H b = some o → (∀ c ∈ cs, c.a ≠ b) → H' b = some o
  cell : ∀ c ∈ cs', F' c.a = none ∧ ∃ o, H' c.a = some o ∧ c.ck.rep F' o
  nd : (cs'.map Cell.a).Nodup
  nw : ∀ c ∈ cs', (∃ c0 ∈ cs, c0.a = c.a) ∨ H c.a = none
  st : ∀ c ∈ cs, H' c.a ≠ none
section
variable {K : PySem.W.Frag} {ρ : List (Slot K)} {cs cs1 cs2 : List (Cell K)} {F F' F1 F2 H H' H1 H2 : Hp} {σ : L2.St}
theorem Okc.w (o : Okc ρ cs F σ H) : Okw ρ cs F σ H := ⟨o.env, o.same, fun c hc => (o.cell c hc).2⟩
theorem Okc.slot {α : Type} {T : Ty K α} {x : α} {i : Nat} (o : Okc ρ cs F σ H) (h : ρ[i]? = some (.val T x)) : ∃ v, σ[i]? = some (some v) ∧ T.rep F v x := o.w.slot h
theorem Okc.mv (o : Okc ρ cs F σ H) (m : Mv cs F H cs' F' H') : Okc ρ cs' F' σ H' := ⟨o.env.mono fun _ _ r => r.mono m.ff, m.fh, m.cell, m.nd⟩
theorem Okc.grow (o : Okc ρ cs F σ H) (g : Grow F H F' H') : Mv cs F H cs F' H' where
  ff := g.ff
  fh := g.fh
  fr := g.fr
  kp := fun b u e _ => g.hh b u e
  cell := fun c hc => by
    obtain ⟨n, u, e, r⟩ := o.cell c hc
    refine ⟨?_, u, g.hh _ _ e, c.ck.mono g.ff r⟩
    cases q : F' c.a with
    | none => rfl
    | some w =>
      have := g.fr c.a n (by rw [q]; simp)
      rw [e] at this; cases this
  nd := o.nd
  nw := fun c hc => .inl ⟨c, hc, rfl⟩
  st := fun c hc n => by
    obtain ⟨_, u, e, _⟩ := o.cell c hc
    rw [g.hh _ _ e] at n; cases n
theorem Okc.refl (o : Okc ρ cs F σ H) : Mv cs F H cs F H := o.grow (Grow.refl o.same)
theorem Mv.trans (a : Mv cs F H cs1 F1 H1) (b : Mv cs1 F1 H1 cs2 F2 H2) : Mv cs F H cs2 F2 H2 where
  ff := a.ff.trans b.ff
  fh := b.fh
  fr := fun x h1 h2 => by
    by_cases h : F1 x = none
    · have n1 := b.fr x h h2
      cases q : H x with
      | none => rfl
      | some o =>
        by_cases m : ∃ c ∈ cs, c.a = x
        · obtain ⟨c, hc, rfl⟩ := m
          exact absurd n1 (a.st c hc)
        · rw [a.kp x o q fun c hc e => m ⟨c, hc, e⟩] at n1; cases n1
    · exact a.fr x h1 h
  kp := fun x o e n => by
    have e1 := a.kp x o e n
    refine b.kp x o e1 fun c hc z => ?_
    rcases a.nw c hc with ⟨c0, h0, e0⟩ | h0
    · exact n c0 h0 (e0.trans z)
    · rw [z, e] at h0; cases h0
  cell := b.cell
  nd := b.nd
  nw := fun c hc => by
    rcases b.nw c hc with ⟨c0, h0, e0⟩ | h0
    · rcases a.nw c0 h0 with ⟨c1, h1, e1⟩ | h1
      · exact .inl ⟨c1, h1, e1.trans e0⟩
      · rw [e0] at h1; exact .inr h1
    · refine .inr ?_
      cases q : H c.a with
      | none => rfl
      | some o =>
        by_cases m : ∃ c1 ∈ cs, c1.a = c.a
        · obtain ⟨c1, hc1, e⟩ := m
          have := a.st c1 hc1
          rw [e] at this
          exact absurd h0 this
        · rw [a.kp c.a o q fun c1 hc1 e => m ⟨c1, hc1, e⟩] at h0; cases h0
  st := fun c hc n => by
    by_cases m : ∃ c1 ∈ cs1, c1.a = c.a
    · obtain ⟨c1, h1, e⟩ := m
      have := b.st c1 h1
      rw [e] at this
      exact this n
    · cases q : H1 c.a with
      | none => exact a.st c hc q
      | some o => rw [b.kp c.a o q fun c1 h1 e => m ⟨c1, h1, e⟩] at n; cases n
end
/-- where a def began -/
structure Hb (K : PySem.W.Frag) where
  F0 : Hp
  H0 : Hp
  cin : List (Cell K)
/-- the state of a def's body: names by slots, cells, and how it came from the beginning -/
structure Ok {K : PySem.W.Frag} (B : Hb K) (fl : Hp) (ρ : List (Slot K)) (cs : List (Cell K)) (F : Hp) (σ : L2.St) (H : Hp) : Prop where
  env : Prd (Slot.ok F) ρ σ
  mv : Mv B.cin B.F0 B.H0 cs F H
  flo : Same fl F
section
variable {K : PySem.W.Frag} {B : Hb K} {ρ : List (Slot K)} {cs cs1 cs2 : List (Cell K)} {F F' F1 F2 H H' H1 H2 : Hp} {σ : L2.St}
theorem Ok.c {fl : Hp} (o : Ok B fl ρ cs F σ H) : Okc ρ cs F σ H := ⟨o.env, o.mv.fh, o.mv.cell, o.mv.nd⟩
theorem Ok.to {fl : Hp} (o : Ok B fl ρ cs F σ H) (m : Mv cs F H cs1 F1 H1) : Ok B fl ρ cs1 F1 σ H1 := ⟨o.env.mono fun _ _ r => r.mono m.ff, o.mv.trans m, o.flo.trans m.ff⟩
theorem Ok.set {fl : Hp} {α : Type} {T : Ty K α} {x : α} {v : V} (i : Nat) (o : Ok B fl ρ cs F σ H) (r : T.rep F v x) : Ok B fl (ρ.set i (.val T x)) cs F (σ.set i (some v)) H := ⟨o.env.set (R := Slot.ok F) (x := .val T x) (u := some v) ⟨v, rfl, r⟩ i, o.mv, o.flo⟩
theorem Ok.unset {fl : Hp} (i : Nat) {u : Option V} (o : Ok B fl ρ cs F σ H) : Ok B fl (ρ.set i .un) cs F (σ.set i u) H := ⟨o.env.set (R := Slot.ok F) (x := .un) (u := u) trivial i, o.mv, o.flo⟩
theorem Ok.low {fl fl' : Hp} (o : Ok B fl' ρ cs F σ H) (h : Same fl fl') : Ok B fl ρ cs F σ H := ⟨o.env, o.mv, h.trans o.flo⟩
theorem Okc.set {α : Type} {T : Ty K α} {x : α} {v : V} (i : Nat) (o : Okc ρ cs F σ H) (r : T.rep F v x) : Okc (ρ.set i (.val T x)) cs F (σ.set i (some v)) H := ⟨o.env.set (R := Slot.ok F) (x := .val T x) (u := some v) ⟨v, rfl, r⟩ i, o.same, o.cell, o.nd⟩
end
/-- what an expression's exceptions meet -/
def Xh (X : Cx) (Y : Ec X.K) (cs : List (Cell X.K)) (F : Hp) (σ : L2.St) (H : Hp) : Prop :=
  ∃ W, Takes X W ∧ ∀ ex cls d cs2 F' H', Mv cs F H cs2 F' H' → (∀ c ∈ Y.kp, c ∈ cs2) → ExnRep F' ex cls d → Y.ε ex → W cls d σ H'
theorem Xh.mv {X : Cx} {Y : Ec X.K} {cs cs1 : List (Cell X.K)} {F F1 H H1 : Hp} {σ : L2.St} (x : Xh X Y cs F σ H) (m : Mv cs F H cs1 F1 H1) : Xh X Y cs1 F1 σ H1 := by
  obtain ⟨W, tk, h⟩ := x
  exact ⟨W, tk, fun ex cls d cs2 F' H' m2 kp r e => h ex cls d cs2 F' H' (m.trans m2) kp r e⟩
/-- e gives vl y of the type T, y being what the condition M hands on; the cells behind it are cs' y -/
def EK (X : Cx) (Y : Ec X.K) (e : Expr) (ρ : List (Slot X.K)) (cs : List (Cell X.K)) {μ α : Type} (T : Ty X.K α) (vl : μ → α) (cs' : μ → List (Cell X.K)) (M : (μ → Prop) → Prop) : Prop :=
  ∀ F σ H, Okc ρ cs F σ H → Xh X Y cs F σ H → ∀ φ : μ → Prop, M φ → ∀ Q : VK, (∀ y v F' H', Mv cs F H (cs' y) F' H' → T.rep F' v (vl y) → φ y → Q v H') → WE X e σ H Q
def AK (X : Cx) (Y : Ec X.K) (es : List Expr) (ρ : List (Slot X.K)) (cs : List (Cell X.K)) {μ α : Type} (T : Tys X.K α) (vl : μ → α) (cs' : μ → List (Cell X.K)) (M : (μ → Prop) → Prop) : Prop :=
  ∀ F σ H, Okc ρ cs F σ H → Xh X Y cs F σ H → ∀ φ : μ → Prop, M φ → ∀ Q : List V → Hp → Prop, (∀ y v F' H', Mv cs F H (cs' y) F' H' → T.rep F' v (vl y) → φ y → Q v H') → WA X es σ H Q
def TK (X : Cx) (Y : Ec X.K) (e : Expr) (ρ : List (Slot X.K)) (cs : List (Cell X.K)) {μ : Type} (vl : μ → Bool) (cs' : μ → List (Cell X.K)) (M : (μ → Prop) → Prop) : Prop :=
  ∀ F σ H, Okc ρ cs F σ H → Xh X Y cs F σ H → ∀ φ : μ → Prop, M φ → ∀ Q : Bool → Hp → Prop, (∀ y F' H', Mv cs F H (cs' y) F' H' → φ y → Q (vl y) H') → WT X e σ H Q
/-- a block, from a state of that form, if φ -/
def SK (X : Cx) (B : Hb X.K) (Y : Ec X.K) (fl : Hp) (st : List Stmt) (ρ : List (Slot X.K)) (cs : List (Cell X.K)) (D : Ends) (φ : Prop) : Prop :=
  ∀ F σ H, Ok B fl ρ cs F σ H → φ → ∀ W, Takes X W → (∀ ex cls d cs2 F' H' σ', Mv B.cin B.F0 B.H0 cs2 F' H' → (∀ c ∈ Y.kp, c ∈ cs2) → ExnRep F' ex cls d → Y.ε ex → W cls d σ' H') → WB X st D σ H
end
end MD
namespace MD
open PySem PySem.Spec PyProof.Rows L2
section
variable {X : Cx} {Y : Ec X.K} {ρ : List (Slot X.K)} {cs : List (Cell X.K)} {α β γ : Type} {pos : Pos}
/-! ### names, constants -/
theorem pk_var {i : Nat} {nm : Str} {T : Ty X.K α} {x : α} (hρ : ρ[i]? = some (.val T x)) (hN : X.N[i]? = some nm := by rfl) (hv : Vis X.env.scope nm := by first | exact Or.inl rfl | exact Or.inr (Or.inl rfl) | exact Or.inr (Or.inr rfl))
    (hd : (nm == ("__debug__" : Str)) = false := by decide) (hcd : (nm == ("__classdict__" : Str)) = false := by decide) : PK X (.Name nm pos) ρ cs T x True := fun F σ H ok _ Q k => by
  obtain ⟨v, e, r⟩ := ok.slot hρ
  exact we (pe_var hN hv hd hcd) ⟨v, e, k v F H (Grow.refl ok.same) r⟩
theorem pk_int {i : Int} {j} : PK X (.Constant (.int i) j pos) ρ cs tI i True := fun F σ H ok _ Q k => we pe_int (k _ F H (Grow.refl ok.same) rfl)
theorem pk_bl {b : Bool} {j} : PK X (.Constant (.bool b) j pos) ρ cs tB b True := fun F σ H ok _ Q k => we pe_bl (k _ F H (Grow.refl ok.same) rfl)
theorem pk_str {s : Str} {j} (hs : PySem.PyData.strOk s = true := by decide +kernel) : PK X (.Constant (.str s) j pos) ρ cs tS s True := fun F σ H ok _ Q k => we pe_str (k _ F H (Grow.refl ok.same) ⟨rfl, hs⟩)
/-- a constant of a module -/
theorem pk_glob {nm : Str} {v : V} {u : Value} {T : Ty X.K α} {x : α} (hm : X.mg nm = some u) (r : RelV v u) (hT : ∀ F, T.rep F v x) (hg : Gl X nm := by rfl) (hd : (nm == ("__debug__" : Str)) = false := by decide) : PK X (.Name nm pos) ρ cs T x True :=
  fun F σ H ok _ Q k => we (pe_glob hg hm r hd) (k _ F H (Grow.refl ok.same) (hT F))
/-! ### between the judgements -/
theorem PK.to {e : Expr} {T : Ty X.K α} {x x' : α} {P P' : Prop} (h : PK X e ρ cs T x P) (hx : x = x') (hp : P' → P) : PK X e ρ cs T x' P' := by
  subst hx
  exact fun F σ H ok p Q k => h F σ H ok (hp p) Q k
theorem PK.some {e : Expr} {T : Ty X.K α} {x : α} {P : Prop} (h : PK X e ρ cs T x P) : PK X e ρ cs (tO T) (some x) P := fun F σ H ok p Q k => h F σ H ok p Q k
theorem PK.ek {e : Expr} {T : Ty X.K α} {x : α} {P : Prop} (h : PK X e ρ cs T x P) : EK X Y e ρ cs T (fun _ : Unit => x) (fun _ => cs) (fun φ => P ∧ φ ()) := fun F σ H ok _ φ m Q k =>
  h F σ H ok.w m.1 Q fun v F' H' g r => k () v F' H' (ok.grow g) r m.2
theorem PAK.ak {es : List Expr} {T : Tys X.K α} {x : α} {P : Prop} (h : PAK X es ρ cs T x P) : AK X Y es ρ cs T (fun _ : Unit => x) (fun _ => cs) (fun φ => P ∧ φ ()) := fun F σ H ok _ φ m Q k =>
  h F σ H ok.w m.1 Q fun v F' H' g r => k () v F' H' (ok.grow g) r m.2
theorem PTK.tk {e : Expr} {b : Bool} {P : Prop} (h : PTK X e ρ cs b P) : TK X Y e ρ cs (fun _ : Unit => b) (fun _ => cs) (fun φ => P ∧ φ ()) := fun F σ H ok _ φ m Q k =>
  h F σ H ok.w m.1 Q fun F' H' g => k () F' H' (ok.grow g) m.2
/-! ### operators -/
def R2K {K : PySem.W.Frag} (r : R2) (T1 : Ty K α) (T2 : Ty K β) (T3 : Ty K γ) (C : α → β → Prop) (f : α → β → γ) : Prop :=
  ∀ F H v w x y, Same F H → T1.rep F v x → T2.rep F w y → C x y → ∀ Q : VK, (∀ z F' H', Grow F H F' H' → T3.rep F' z (f x y) → Q z H') → r v w H Q
def yes2 : α → β → Prop := fun _ _ => True
section
variable {K : PySem.W.Frag}
theorem r2_I {C : Int → Int → Prop} {g : Int → Int → Int} : R2K (K := K) (rI C fun i j => .int (g i j)) tI tI tI C g := fun F H v w x y s h1 h2 c Q k => ⟨x, y, h1, h2, c, k _ F H (Grow.refl s) rfl⟩
theorem r2_I0 {g : Int → Int → Int} : R2K (K := K) (rI0 fun i j => .int (g i j)) tI tI tI yes2 g := fun F H v w x y s h1 h2 c Q k => ⟨x, y, h1, h2, k _ F H (Grow.refl s) rfl⟩
theorem r2_B0 {g : Int → Int → Bool} : R2K (K := K) (rI0 fun i j => .bl (g i j)) tI tI tB yes2 g := fun F H v w x y s h1 h2 c Q k => ⟨x, y, h1, h2, k _ F H (Grow.refl s) rfl⟩
theorem r2_eqI : R2K (K := K) rEq tI tI tB yes2 (fun i j => decide (i = j)) := fun F H v w x y s h1 h2 c Q k => by
  cases h1; cases h2
  refine ⟨rfl, k _ F H (Grow.refl s) ?_⟩
  show V.bl _ = V.bl _
  rw [dec_int, Bool.beq_eq_decide_eq]
theorem dec_strD {i j : Str} : decide (V.str i = V.str j) = decide (i = j) := by
  by_cases h : i = j
  · subst h; simp
  · rw [decide_eq_false h, decide_eq_false fun q => h (V.str.inj q)]
theorem strOk_app {a b : Str} (ha : PySem.PyData.strOk a = true) (hb : PySem.PyData.strOk b = true) : PySem.PyData.strOk (a ++ b) = true := by
  unfold PySem.PyData.strOk at *
  show (a.cps ++ b.cps).all _ = true
  rw [Array.all_append, ha, hb]
  rfl
theorem r2_addS : R2K (K := K) (fun x y H Q => ∃ i j, x = .str i ∧ y = .str j ∧ i.length + j.length ≤ sizeLine ∧ Q (.str (i ++ j)) H) tS tS tS (fun i j => i.length + j.length ≤ sizeLine) (· ++ ·) :=
  fun F H v w x y s h1 h2 c Q k => ⟨x, y, h1.1, h2.1, c, k _ F H (Grow.refl s) ⟨rfl, strOk_app h1.2 h2.2⟩⟩
end
theorem pk_op {op : Operator} {a b : Expr} {r : R2} {T1 : Ty X.K α} {T2 : Ty X.K β} {T3 : Ty X.K γ} {C : α → β → Prop} {f : α → β → γ} {x : α} {y : β} {P1 P2 : Prop} (ho : OpR X (binaryOp op) r) (hr : R2K r T1 T2 T3 C f)
    (ha : PK X a ρ cs T1 x P1) (hb : PK X b ρ cs T2 y P2) : PK X (.BinOp a op b pos) ρ cs T3 (f x y) (P1 ∧ P2 ∧ C x y) := fun F σ H ok p Q k => by
  refine we (pe_op ho pe_w pe_w) ?_
  refine ha F σ H ok p.1 _ fun v F1 H1 g1 r1 => ?_
  refine hb F1 σ H1 (ok.grow g1) p.2.1 _ fun w F2 H2 g2 r2 => ?_
  exact hr F2 H2 v w x y g2.fh (T1.mono g2.ff r1) r2 p.2.2 Q fun z F3 H3 g3 r3 => k z F3 H3 ((g1.trans g2).trans g3) r3
theorem pt_cmp' {op : CmpOp} {a b : Expr} {r : R2} {T1 : Ty X.K α} {T2 : Ty X.K β} {C : α → β → Prop} {f : α → β → Bool} {x : α} {y : β} {P1 P2 : Prop} (ho : OpR X (compareOp op) r) (hr : R2K r T1 T2 tB C f)
    (ha : PK X a ρ cs T1 x P1) (hb : PK X b ρ cs T2 y P2) (hm : behindInMarks op b = false := by first | exact nomark _ | rfl) : PTK X (.Compare a [op] [b] pos) ρ cs (f x y) (P1 ∧ P2 ∧ C x y) := fun F σ H ok p Q k => by
  refine wt (pt_cmpR ho pe_w pe_w hm) ?_
  refine ha F σ H ok p.1 _ fun v F1 H1 g1 r1 => ?_
  refine hb F1 σ H1 (ok.grow g1) p.2.1 _ fun w F2 H2 g2 r2 => ?_
  exact hr F2 H2 v w x y g2.fh (T1.mono g2.ff r1) r2 p.2.2 _ fun z F3 H3 g3 r3 => ⟨_, r3, k F3 H3 ((g1.trans g2).trans g3)⟩
/-! ### tests -/
theorem pw_or1' {a : Expr} {b : Bool} {P : Prop} (h : PTK X a ρ cs b P) : PWK X (.BoolOp .Or [a] pos) ρ cs b P := fun F σ H ok p Q k => ww (pw_or1 pt_w) (h F σ H ok p Q k)
theorem pw_or' {a b : Expr} {rest : List Expr} {x y : Bool} {P1 P2 : Prop} (ha : PTK X a ρ cs x P1) (hb : PWK X (.BoolOp .Or (b :: rest) pos) ρ cs y P2) : PWK X (.BoolOp .Or (a :: b :: rest) pos) ρ cs (x || y) (P1 ∧ (x = false → P2)) := fun F σ H ok p Q k => by
  refine ww (pw_or pt_w pw_w) ?_
  refine ha F σ H ok p.1 _ fun F1 H1 g1 => ?_
  cases x with
  | false => exact (if_neg Bool.false_ne_true).mpr (hb F1 σ H1 (ok.grow g1) (p.2 rfl) Q fun F2 H2 g2 => k F2 H2 (g1.trans g2))
  | true => exact (if_pos rfl).mpr (k F1 H1 g1)
theorem PWK.pt {e : Expr} {b : Bool} {P : Prop} (h : PWK X e ρ cs b P) : PTK X e ρ cs b P := fun F σ H ok p Q k => wt pw_w.pt (h F σ H ok p Q k)
/-! ### as values -/
theorem pk_one {a : Expr} {op} {T : Ty X.K α} {x : α} {P : Prop} (h : PK X a ρ cs T x P) : PK X (.BoolOp op [a] pos) ρ cs T x P := fun F σ H ok p Q k => we (pe_one pe_w) (h F σ H ok p Q k)
theorem pk_and {a b : Expr} {rest : List Expr} {x y : Bool} {P1 P2 : Prop} (ha : PK X a ρ cs tB x P1) (hb : PK X (.BoolOp .And (b :: rest) pos) ρ cs tB y P2) : PK X (.BoolOp .And (a :: b :: rest) pos) ρ cs tB (x && y) (P1 ∧ (x = true → P2)) := fun F σ H ok p Q k => by
  refine we (pe_and pe_w pe_w) ?_
  refine ha F σ H ok p.1 _ fun v F1 H1 g1 r1 => ⟨x, r1, ?_⟩
  cases x with
  | true => exact (if_pos rfl).mpr (hb F1 σ H1 (ok.grow g1) (p.2 rfl) Q fun w F2 H2 g2 r2 => k w F2 H2 (g1.trans g2) r2)
  | false => exact (if_neg Bool.false_ne_true).mpr (k _ F1 H1 g1 rfl)
/-! ### argument lists, displays -/
theorem pa_1 {e : Expr} {T : Ty X.K α} {x : α} {P : Prop} (h : PK X e ρ cs T x P) (hs : starEach (e :: []) X.env = (false, eval e X.env) :: starEach [] X.env := by rfl) : PAK X [e] ρ cs (ts1 T) x P := fun F σ H ok p Q k => by
  refine wa (pa_cons pe_w pa_nil hs) ?_
  exact h F σ H ok p _ fun v F1 H1 g1 r1 => k [v] F1 H1 g1 ⟨v, rfl, r1⟩
theorem pa_C {e : Expr} {es : List Expr} {T : Ty X.K α} {Ts : Tys X.K β} {x : α} {y : β} {P1 P2 : Prop} (h : PK X e ρ cs T x P1) (hr : PAK X es ρ cs Ts y P2) (hs : starEach (e :: es) X.env = (false, eval e X.env) :: starEach es X.env := by rfl) :
    PAK X (e :: es) ρ cs (tsC T Ts) (x, y) (P1 ∧ P2) := fun F σ H ok p Q k => by
  refine wa (pa_cons pe_w pa_w hs) ?_
  refine h F σ H ok p.1 _ fun v F1 H1 g1 r1 => ?_
  exact hr F1 σ H1 (ok.grow g1) p.2 _ fun w F2 H2 g2 r2 => k (v :: w) F2 H2 (g1.trans g2) ⟨v, w, rfl, T.mono g2.ff r1, r2⟩
/-- of one type, as a list -/
def tsL {K : PySem.W.Frag} (T : Ty K α) : Tys K (List α) := ⟨fun F vs xs => Rl T F vs xs, fun e h => h.mono e⟩
theorem pl_0 {T : Ty X.K α} : PAK X [] ρ cs (tsL T) [] True := fun F σ H ok _ Q k => wa pa_nil (k [] F H (Grow.refl ok.same) .nil)
theorem pl_C {e : Expr} {es : List Expr} {T : Ty X.K α} {x : α} {y : List α} {P1 P2 : Prop} (h : PK X e ρ cs T x P1) (hr : PAK X es ρ cs (tsL T) y P2) (hs : starEach (e :: es) X.env = (false, eval e X.env) :: starEach es X.env := by rfl) :
    PAK X (e :: es) ρ cs (tsL T) (x :: y) (P1 ∧ P2) := fun F σ H ok p Q k => by
  refine wa (pa_cons pe_w pa_w hs) ?_
  refine h F σ H ok p.1 _ fun v F1 H1 g1 r1 => ?_
  exact hr F1 σ H1 (ok.grow g1) p.2 _ fun w F2 H2 g2 r2 => k (v :: w) F2 H2 (g1.trans g2) (.cons (T.mono g2.ff r1) r2)
theorem Rl.length {K : PySem.W.Frag} {T : Ty K α} {F : Hp} {vs : List V} {xs : List α} (h : Rl T F vs xs) : vs.length = xs.length := Paired.length h
theorem pk_tup {es : List Expr} {x1} {Ts : Tys X.K α} {x : α} {P : Prop} (h : PAK X es ρ cs Ts x P) (hl : ∀ F vs, Ts.rep F vs x → vs.length ≤ 1000) : PK X (.Tuple es x1 pos) ρ cs (tT Ts) x P := fun F σ H ok p Q k => by
  refine we (pe_tup pa_w) ?_
  refine h F σ H ok p _ fun vs F1 H1 g1 r1 => ⟨Nat.le_trans (hl F1 vs r1) (by decide), fun q hq => ?_⟩
  have g2 := grow_new g1.fh hq (.tup vs)
  exact k _ _ _ (g1.trans g2) ⟨q, vs, rfl, upd_same, Ts.mono g2.ff r1⟩
theorem pk_tupU {es : List Expr} {x1} {T : Ty X.K α} {x : List α} {P : Prop} (h : PAK X es ρ cs (tsL T) x P) (hl : x.length ≤ 1000) : PK X (.Tuple es x1 pos) ρ cs (tU T) x P := fun F σ H ok p Q k => by
  refine we (pe_tup pa_w) ?_
  refine h F σ H ok p _ fun vs F1 H1 g1 r1 => ?_
  have hz : vs.length ≤ sizeLine := Nat.le_trans (by rw [Rl.length r1]; exact hl) (by decide)
  refine ⟨hz, fun q hq => ?_⟩
  have g2 := grow_new g1.fh hq (.tup vs)
  exact k _ _ _ (g1.trans g2) ⟨q, vs, rfl, .inl upd_same, Rl.mono g2.ff r1, hz⟩
theorem len1 {K : PySem.W.Frag} {T : Ty K α} {n : Nat} : ∀ F vs (x : α), (ts1 T).rep F vs x → vs.length ≤ n + 1 := fun F vs x ⟨v, e, _⟩ => by subst e; exact Nat.succ_le_succ (Nat.zero_le n)
theorem lenC {K : PySem.W.Frag} {T : Ty K α} {Ts : Tys K β} {n : Nat} (h : ∀ F vs (x : β), Ts.rep F vs x → vs.length ≤ n) : ∀ F vs (x : α × β), (tsC T Ts).rep F vs x → vs.length ≤ n + 1 := fun F vs x ⟨v, r, e, _, q⟩ => by subst e; exact Nat.succ_le_succ (h F r x.2 q)
/-! ### built-in functions -/
def yes1 : α → Prop := fun _ => True
section
variable {K : PySem.W.Frag}
def rLenQ (K : PySem.W.Frag) : List V → Hp → VK → Prop := fun xs H Q => ∃ p ys, xs = [.ref p] ∧ (SqL K H p ys ∨ SqT K H p ys) ∧ Q (.int ys.length) H
end
theorem cr_lenQ : CallR X (.builtin "len") (rLenQ X.K) := call_len_seq
/-! ### items -/
def pyIx [Inhabited α] (xs : List α) (i : Int) : α := (atI xs i).getD default
def IxOk (xs : List α) (i : Int) : Prop := -(xs.length : Int) ≤ i ∧ i < xs.length
theorem rl_atI {K : PySem.W.Frag} [Inhabited α] {T : Ty K α} {F : Hp} {vs : List V} {xs : List α} {i : Int} (h : Rl T F vs xs) (hi : IxOk xs i) : ∃ v, atI vs i = some v ∧ T.rep F v (pyIx xs i) := by
  have hl := Rl.length h
  unfold pyIx atI
  rw [hl]
  obtain ⟨h1, h2⟩ := hi
  have get : ∀ {ws : List V} {ys : List α} {j : Nat}, Rl T F ws ys → j < ys.length → ∃ v, ws[j]? = some v ∧ T.rep F v ((ys[j]?).getD default) := by
    intro ws ys j hh
    induction hh generalizing j with
    | nil => intro hj; exact absurd hj (Nat.not_lt_zero _)
    | cons r t ih =>
      intro hj
      cases j with
      | zero => exact ⟨_, rfl, r⟩
      | succ j =>
        obtain ⟨v, e, q⟩ := ih (Nat.lt_of_succ_lt_succ hj)
        exact ⟨v, by simpa using e, by simpa using q⟩
  by_cases h0 : 0 ≤ i
  · have e : ixN xs.length i = some i.toNat := by unfold ixN; rw [if_pos h0, if_pos h2]
    rw [e]
    exact get h (by omega)
  · have e : ixN xs.length i = some (i + xs.length).toNat := by unfold ixN; rw [if_neg h0, if_pos h1]
    rw [e]
    exact get h (by omega)
theorem pk_ixU [Inhabited α] {a b : Expr} {T : Ty X.K α} {xs : List α} {i : Int} {P1 P2 : Prop} (ha : PK X a ρ cs (tU T) xs P1) (hb : PK X b ρ cs tI i P2) (hs : PlainIx b := by exact fun _ _ => rfl) : PK X (.Subscript a b pos) ρ cs T (pyIx xs i) (P1 ∧ P2 ∧ IxOk xs i) := fun F σ H ok p Q k => by
  refine we (pe_ix ix_tup pe_w pe_w hs) ?_
  refine ha F σ H ok p.1 _ fun v F1 H1 g1 ⟨q, vs, e1, hq, r, z⟩ => ?_
  refine hb F1 σ H1 (ok.grow g1) p.2.1 _ fun w F2 H2 g2 r2 => ?_
  obtain ⟨u, hu, ru⟩ := rl_atI (Rl.mono g2.ff r) p.2.2
  exact ⟨q, vs, i, u, e1, r2, .inl (same_rd (g2.ff.trans g2.fh) hq), hu, k u F2 H2 (g1.trans g2) ru⟩
end
end MD
namespace MD
open PySem PySem.Spec PyProof.Rows L2
/-! ### contracts -/
structure Con (K : PySem.W.Frag) (A R γ : Type) where
  ins : A → List (Slot K)
  cin : A → List (Cell K)
  wp : A → (R → Prop) → (Exn K → Prop) → Prop
  T : Ty K γ
  rv : R → γ
  cout : A → R → List (Cell K)
  mono : ∀ a φ φ' ε ε', (∀ r, φ r → φ' r) → (∀ e, ε e → ε' e) → wp a φ ε → wp a φ' ε'
def Con.sp {K : PySem.W.Frag} {A R γ : Type} (C : Con K A R γ) : Sp := fun vs H Q E => ∃ (a : A) (F : Hp), Prd (fun s v => Slot.ok F s (some v)) (C.ins a) vs ∧ Same F H ∧
  (∀ c ∈ C.cin a, F c.a = none ∧ ∃ o, H c.a = some o ∧ c.ck.rep F o) ∧ ((C.cin a).map Cell.a).Nodup ∧
  C.wp a (fun r => ∀ v F' H', Mv (C.cin a) F H (C.cout a r) F' H' → C.T.rep F' v (C.rv r) → Q v H') (fun ex => ∀ cls d F' H', Mv (C.cin a) F H (C.cin a) F' H' → ExnRep F' ex cls d → E cls d H')
/-- a function of frozen data: where pre holds it is f -/
def Con.fn {K : PySem.W.Frag} {A γ : Type} (ins : A → List (Slot K)) (T : Ty K γ) (pre : A → Prop) (f : A → γ) : Con K A γ γ where
  ins := ins
  cin := fun _ => []
  wp := fun a φ _ => pre a ∧ ∀ r, r = f a → φ r
  T := T
  rv := fun r => r
  cout := fun _ _ => []
  mono := fun _ _ _ _ _ h _ w => ⟨w.1, fun r e => h r (w.2 r e)⟩
section
variable {P : Program} {w : World} {K : PySem.W.Frag} {mg : Str → Option Value} {base : Heap} {A R γ : Type}
theorem Prd.start {F : Hp} {n : Nat} : ∀ {ss : List (Slot K)} {vs : List V}, Prd (fun s v => Slot.ok F s (some v)) ss vs → Prd (Slot.ok F) (ss ++ List.replicate n .un) (vs.map some ++ List.replicate n none)
  | _, _, .cons r t => .cons r (Prd.start t)
  | _, _, .nil => by
    show Prd _ (List.replicate n Slot.un) (List.replicate n none)
    induction n with
    | zero => exact .nil
    | succ n ih => exact .cons trivial ih
/-- what a return is to reach -/
def retD (C : Con K A R γ) (a : A) (B : Hb K) (φ : R → Prop) : Ends where
  nx := fun _ H' => ∃ r F', Mv B.cin B.F0 B.H0 (C.cout a r) F' H' ∧ C.T.rep F' .non (C.rv r) ∧ φ r
  rt := fun v H' => ∃ r F', Mv B.cin B.F0 B.H0 (C.cout a r) F' H' ∧ C.T.rep F' v (C.rv r) ∧ φ r
theorem PSs.ends {X : Cx} {st : List Stmt} {D D' : Ends} {σ : L2.St} {H : Hp} (hn : ∀ σ H, D.nx σ H → D'.nx σ H) (hr : ∀ v H, D.rt v H → D'.rt v H) (hb : ∀ σ H, D.bk σ H → D'.bk σ H) (hc : ∀ σ H, D.ct σ H → D'.ct σ H) (h : WB X st D σ H) : WB X st D' σ H :=
  fun pins s I => thn (h pins s I) fun f s' q => by
    cases f with
    | next => obtain ⟨σ', H', I', q⟩ := q; exact ⟨σ', H', I', hn _ _ q⟩
    | brk => obtain ⟨σ', H', I', q⟩ := q; exact ⟨σ', H', I', hb _ _ q⟩
    | cont => obtain ⟨σ', H', I', q⟩ := q; exact ⟨σ', H', I', hc _ _ q⟩
    | ret u => obtain ⟨v, σ', H', I', r, q⟩ := q; exact ⟨v, σ', H', I', r, hr _ _ q⟩
/-- a def keeps its contract, by its body -/
theorem fn_con {x qual : Str} {st : Stmt} {f : Addr} {fd : FuncData} {N ps : List Str} {k : Nat} (C : Con K A R γ) (F : Fun K x qual st f fd) (S : FnScope N ps (defScope st)) (hl : ∀ a, (C.ins a).length = ps.length)
    (body : ∀ (cdv : Value) (Ar : Around) (outer : List Env) (s : Shared) (H : Hp) (E : XK) (F0 : Hp) (a : A) (φ : R → Prop) (ε : Exn K → Prop), Room k (Ar.deeper (envOfC qual (defScope st) s.heap.objs.size f cdv)) →
      PassesOwn (model P w) (Ar.deeper (envOfC qual (defScope st) s.heap.objs.size f cdv)) (envOfC qual (defScope st) s.heap.objs.size f cdv) (cxOf (L2.CX P w) P w K mg base N qual (defScope st) f cdv Ar outer s H E).xe →
      SK (cxOf (L2.CX P w) P w K mg base N qual (defScope st) f cdv Ar outer s H E) ⟨F0, H, C.cin a⟩ ⟨C.cin a, ε⟩ F0 (defBody st) (C.ins a ++ List.replicate (N.length - ps.length) .un) (C.cin a) (retD C a ⟨F0, H, C.cin a⟩ φ) (C.wp a φ ε)) :
    FnOk P w K mg base (L2.CX P w) (k + 1) f fd ps C.sp := by
  refine F.okX S (fun vs H Q E ⟨a, F, h, _⟩ => by rw [← h.length]; exact hl a) (fun cdv Ar outer s H vs Q E hr h => ?_)
  obtain ⟨a, F0, hv, hs, hc, hn, hw⟩ := h
  refine ⟨_, pss_w, ?_⟩
  have e : vs.length = ps.length := by rw [← hv.length]; exact hl a
  have Bo : Mv (C.cin a) F0 H (C.cin a) F0 H := ⟨Same.refl _, hs, fun b h1 h2 => absurd h1 h2, fun b o e _ => e, hc, hn, fun c hc => .inl ⟨c, hc, rfl⟩, fun c hcm z => by
    obtain ⟨_, o, e, _⟩ := hc c hcm
    rw [e] at z; cases z⟩
  have hb := body cdv Ar outer s H E F0 a _ _ hr (passes_of rfl) F0 (L2.start N vs) H ⟨by
    unfold L2.start
    rw [e]
    exact hv.start, Bo, Same.refl _⟩ hw (fun cls d _ H => E cls d H) (takes_of rfl rfl rfl rfl) (fun ex cls d cs2 F' H' σ' mv kp r ep => ep cls d F' H' ⟨mv.ff, mv.fh, mv.fr, mv.kp, fun c hc => mv.cell c (kp c hc), hn, fun c hc => .inl ⟨c, hc, rfl⟩, mv.st⟩ r)
  refine PSs.ends ?_ ?_ ?_ ?_ hb
  · intro _ H' ⟨r, F', m, t, q⟩
    exact q .non F' H' m t
  · intro v H' ⟨r, F', m, t, q⟩
    exact q v F' H' m t
  · exact fun _ _ z => z
  · exact fun _ _ z => z
/-- the condition -/
theorem SK.vc {X : Cx} {B : Hb X.K} {Y : Ec X.K} {st : List Stmt} {ρ : List (Slot X.K)} {cs : List (Cell X.K)} {D : Ends} {φ ψ : Prop} {fl : Hp} (h : SK X B Y fl st ρ cs D φ) (v : ψ → φ) : SK X B Y fl st ρ cs D ψ := fun F σ H ok p => h F σ H ok (v p)
end
/-! ### calls -/
section
variable {X : Cx} {Y : Ec X.K} {ρ : List (Slot X.K)} {cs : List (Cell X.K)} {A R α γ μ : Type} {pos : Pos}
/-- a pure function's call -/
theorem pk_call {k : Nat} {f : Addr} {fd : FuncData} {ps : List Str} {nm : Str} {p : Pos} {e : Expr} {es : List Expr} {ins : A → List (Slot X.K)} {T : Ty X.K γ} {pre : A → Prop} {g : A → γ} {β : Type} {Ts : Tys X.K β} {x : β} {Pa : Prop} (a : A)
    (F : FnOk X.prog X.w X.K X.mg X.base (L2.CX X.prog X.w) k f fd ps (Con.fn ins T pre g).sp) (hr : Room k X.A) (hm : X.mg nm = some (.ref f)) (hk : PySem.W.keepIn X.K (.ref f) = true) (hb : Binds X.K fd ps [])
    (ha : PAK X (e :: es) ρ cs Ts x Pa) (hi : ∀ F vs, Ts.rep F vs x → Prd (fun s v => Slot.ok F s (some v)) (ins a) vs) (hg : Gl X nm := by rfl)
    (hdb : (nm == ("__debug__" : Str)) = false := by decide) (he : starEach (e :: es) X.env = (false, eval e X.env) :: starEach es X.env := by rfl) (hpl : (backTo pos (starEach es X.env)).any (·.1) = false := by rfl) :
    PK X (.Call (.Name nm p) (e :: es) [] pos) ρ cs T (g a) (Pa ∧ pre a) := fun F0 σ H ok q Q kk => by
  refine we (pe_call F hr hg hm hk hb .nil (E := E0) (passL) pa_w hdb he hpl) ?_
  refine ha F0 σ H ok q.1 _ fun vs F1 H1 g1 r1 => ?_
  refine ⟨a, F1, by rw [List.append_nil]; exact hi F1 vs r1, g1.fh, fun c hc => absurd hc (by simp [Con.fn]), by simp [Con.fn], q.2, fun r er v F2 H2 m rr => ?_⟩
  subst er
  exact kk v F2 H2 (g1.trans ⟨m.ff, m.fh, fun b o e => m.kp b o e fun c hc => absurd hc (by simp [Con.fn]), m.fr⟩) rr
end
end MD
namespace MD
open PySem PySem.Spec PyProof.Rows L2
/-! ### statements -/
section
variable {X : Cx} {fl : Hp} {B : Hb X.K} {Y : Ec X.K} {ρ : List (Slot X.K)} {cs : List (Cell X.K)} {α β γ μ : Type} {pos : Pos} {rest : List Stmt} {D : Ends} {e : Expr}
/-- the exceptions' wish within -/
theorem xh_of {F H : Hp} {σ : L2.St} {W : WX} (ok : Ok B fl ρ cs F σ H) (tk : Takes X W) (hx : ∀ ex cls d cs2 F' H' σ', Mv B.cin B.F0 B.H0 cs2 F' H' → (∀ c ∈ Y.kp, c ∈ cs2) → ExnRep F' ex cls d → Y.ε ex → W cls d σ' H') : Xh X Y cs F σ H :=
  ⟨W, tk, fun ex cls d cs2 F' H' m kp r ep => hx ex cls d cs2 F' H' σ (ok.mv.trans m) kp r ep⟩
theorem sk_set {i : Nat} {nm : Str} {pos' : Pos} {T : Ty X.K α} {x : α} {P : Prop} {φ : α → Prop} (hN : X.N.Nodup) (he : PK X e ρ cs T x P) (k : ∀ z, SK X B Y fl rest (ρ.set i (.val T z)) cs D (φ z)) (hi : X.N[i]? = some nm := by rfl) (hx : Loc X.env.scope nm := by first | exact Or.inl rfl | exact Or.inr rfl)
    (hs : swapsWith e (some (.Name nm pos')) pos.line X.env = pure false := by rfl) (hf : X.fn nm = true ∨ X.env.scope.names.lookup nm = some .local := by first | exact .inl rfl | exact .inr rfl) :
    SK X B Y fl (.Assign [.Name nm pos'] e pos :: rest) ρ cs D (P ∧ ∀ z, z = x → φ z) := fun F σ H ok p W tk hx' => by
  refine wb (pss_cons (ps_set hN hi hx pe_w hs hf) pss_w) ?_
  refine he F σ H ok.c.w p.1 _ fun v F' H' g r => ?_
  have ok1 := ok.to (ok.c.grow g)
  exact k x F' _ H' (ok1.set i r) (p.2 x rfl) W tk hx'
theorem sk_setE {i : Nat} {nm : Str} {pos' : Pos} {T : Ty X.K α} {vl : μ → α} {cs' : μ → List (Cell X.K)} {M : (μ → Prop) → Prop} {φ : μ → α → Prop} (hN : X.N.Nodup) (he : EK X Y e ρ cs T vl cs' M) (k : ∀ y z, SK X B Y fl rest (ρ.set i (.val T z)) (cs' y) D (φ y z)) (hi : X.N[i]? = some nm := by rfl)
    (hx : Loc X.env.scope nm := by first | exact Or.inl rfl | exact Or.inr rfl)
    (hs : swapsWith e (some (.Name nm pos')) pos.line X.env = pure false := by rfl) (hf : X.fn nm = true ∨ X.env.scope.names.lookup nm = some .local := by first | exact .inl rfl | exact .inr rfl) :
    SK X B Y fl (.Assign [.Name nm pos'] e pos :: rest) ρ cs D (M fun y => ∀ z, z = vl y → φ y z) := fun F σ H ok p W tk hx' => by
  refine wb (pss_cons (ps_set hN hi hx pe_w hs hf) pss_w) ?_
  refine he F σ H ok.c (xh_of ok tk hx') _ p _ fun y v F' H' m r q => ?_
  exact k y (vl y) F' _ H' ((ok.to m).set i r) (q _ rfl) W tk hx'
theorem sk_expr {T : Ty X.K α} {vl : μ → α} {cs' : μ → List (Cell X.K)} {M : (μ → Prop) → Prop} {φ : μ → Prop} (he : EK X Y e ρ cs T vl cs' M) (k : ∀ y, SK X B Y fl rest ρ (cs' y) D (φ y)) (hs : swapsWith e none pos.line X.env = pure false := by rfl) :
    SK X B Y fl (.Expr e pos :: rest) ρ cs D (M φ) := fun F σ H ok p W tk hx' => by
  refine wb (pss_cons (ps_expr pe_w hs) pss_w) ?_
  refine he F σ H ok.c (xh_of ok tk hx') _ p _ fun y v F' H' m r q => ?_
  exact k y F' _ H' (ok.to m) q W tk hx'
/-- one statement -/
def SK1 (X : Cx) (B : Hb X.K) (Y : Ec X.K) (fl : Hp) (st : Stmt) (ρ : List (Slot X.K)) (cs : List (Cell X.K)) (D : Ends) (φ : Prop) : Prop :=
  ∀ F σ H, Ok B fl ρ cs F σ H → φ → ∀ W, Takes X W → (∀ ex cls d cs2 F' H' σ', Mv B.cin B.F0 B.H0 cs2 F' H' → (∀ c ∈ Y.kp, c ∈ cs2) → ExnRep F' ex cls d → Y.ε ex → W cls d σ' H') → WS X st D σ H
/-- the rest behind each end -/
theorem sk_seq {st : Stmt} {φ : Prop} (h : SK1 X B Y fl st ρ cs { D with nx := WB X rest D } φ) : SK X B Y fl (st :: rest) ρ cs D φ := fun F σ H ok p W tk hx' => wb (pss_cons ps_w pss_w) (h F σ H ok p W tk hx')
theorem sk_if1 {c : Expr} {a b : List Stmt} {bv : Bool} {P φ1 φ2 : Prop} (hc : PTK X c ρ cs bv P) (ha : SK X B Y fl a ρ cs D φ1) (hb : SK X B Y fl b ρ cs D φ2) :
    SK1 X B Y fl (.If c a b pos) ρ cs D (P ∧ (bv = true → φ1) ∧ (bv = false → φ2)) := fun F σ H ok p W tk hx' => by
  refine ws (ps_if pt_w pss_w pss_w) ?_
  refine hc F σ H ok.c.w p.1 _ fun F' H' g => ?_
  have ok1 := ok.to (ok.c.grow g)
  cases bv with
  | true => exact (if_pos rfl).mpr (ha F' σ H' ok1 (p.2.1 rfl) W tk hx')
  | false => exact (if_neg Bool.false_ne_true).mpr (hb F' σ H' ok1 (p.2.2 rfl) W tk hx')
theorem sk_if1E {c : Expr} {a b : List Stmt} {vl : μ → Bool} {cs' : μ → List (Cell X.K)} {M : (μ → Prop) → Prop} {φ1 φ2 : μ → Prop} (hc : TK X Y c ρ cs vl cs' M) (ha : ∀ y, SK X B Y fl a ρ (cs' y) D (φ1 y)) (hb : ∀ y, SK X B Y fl b ρ (cs' y) D (φ2 y)) :
    SK1 X B Y fl (.If c a b pos) ρ cs D (M fun y => (vl y = true → φ1 y) ∧ (vl y = false → φ2 y)) := fun F σ H ok p W tk hx' => by
  refine ws (ps_if pt_w pss_w pss_w) ?_
  refine hc F σ H ok.c (xh_of ok tk hx') _ p _ fun y F' H' m q => ?_
  have ok1 := ok.to m
  cases hv : vl y with
  | true => exact (if_pos rfl).mpr (ha y F' σ H' ok1 (q.1 hv) W tk hx')
  | false => exact (if_neg Bool.false_ne_true).mpr (hb y F' σ H' ok1 (q.2 hv) W tk hx')
/-- one state may stand for another -/
inductive Le {K : PySem.W.Frag} : List (Slot K) → List (Slot K) → Prop
  | nil : Le [] []
  | same {s : Slot K} {a b : List (Slot K)} : Le a b → Le (s :: a) (s :: b)
  | un {s : Slot K} {a b : List (Slot K)} : Le a b → Le (s :: a) (.un :: b)
theorem Le.refl {K : PySem.W.Frag} : ∀ a : List (Slot K), Le a a
  | [] => .nil
  | _ :: a => .same (Le.refl a)
theorem Le.env {K : PySem.W.Frag} {F : Hp} : ∀ {a b : List (Slot K)} {σ : L2.St}, Le a b → Prd (Slot.ok F) a σ → Prd (Slot.ok F) b σ
  | _, _, _, .nil, .nil => .nil
  | _, _, _, .same t, .cons r q => .cons r (Le.env t q)
  | _, _, _, .un t, .cons _ q => .cons trivial (Le.env t q)
/-- a state of that form, of which R holds -/
def Mid {K : PySem.W.Frag} (B : Hb K) (fl : Hp) (ρ' : β → List (Slot K)) (cs' : β → List (Cell K)) (R : β → Prop) : L2.St → Hp → Prop := fun σ H => ∃ z F, Ok B fl (ρ' z) (cs' z) F σ H ∧ R z
/-- a statement whose ends meet in one form -/
theorem sk_join {st : Stmt} (ρ' : β → List (Slot X.K)) (cs' : β → List (Cell X.K)) {ψ : (β → Prop) → Prop} {φ : β → Prop} (h : ∀ R, SK1 X B Y fl st ρ cs { D with nx := Mid B fl ρ' cs' R } (ψ R)) (k : ∀ z, SK X B Y fl rest (ρ' z) (cs' z) D (φ z)) :
    SK X B Y fl (st :: rest) ρ cs D (∃ R, ψ R ∧ ∀ z, R z → φ z) := fun F σ H ok p W tk hx' => by
  obtain ⟨R, p1, p2⟩ := p
  have q := h R F σ H ok p1 W tk hx'
  refine fun pins s I => ?_
  refine wpAny_execs_cons (thn (q pins s I) fun f s1 q3 => ?_)
  cases f with
  | next =>
    obtain ⟨σ', H', I', z, F', ok', r⟩ := q3
    exact k z F' σ' H' ok' (p2 z r) W tk hx' pins s1 I'
  | ret v => exact q3
  | brk => exact q3
  | cont => exact q3
/-- return -/
theorem sk_ret {A R : Type} {C : Con X.K A R γ} {a : A} {ψ : R → Prop} {n b' c' : L2.St → Hp → Prop} {x : γ} {P : Prop} {r : List Stmt} (q : R) (he : PK X e ρ cs C.T x P) (hv : C.rv q = x) (hc : C.cout a q = cs) :
    SK X B Y fl (.Return (some e) pos :: r) ρ cs { retD C a B ψ with nx := n, bk := b', ct := c' } (P ∧ ψ q) := fun F σ H ok p W tk hx' => by
  refine wb (pss_cons (ps_ret pe_w) pss_w) ?_
  refine he F σ H ok.c.w p.1 _ fun v F' H' g t => ?_
  have ok1 := ok.to (ok.c.grow g)
  subst hv
  exact ⟨q, F', by rw [hc]; exact ok1.mv, t, p.2⟩
theorem sk_retE {A R : Type} {C : Con X.K A R γ} {a : A} {ψ : R → Prop} {n b' c' : L2.St → Hp → Prop} {vl : μ → γ} {cs' : μ → List (Cell X.K)} {M : (μ → Prop) → Prop} {r : List Stmt} (q : μ → R) (he : EK X Y e ρ cs C.T vl cs' M) (hv : ∀ y, C.rv (q y) = vl y) (hc : ∀ y, C.cout a (q y) = cs' y) :
    SK X B Y fl (.Return (some e) pos :: r) ρ cs { retD C a B ψ with nx := n, bk := b', ct := c' } (M fun y => ψ (q y)) := fun F σ H ok p W tk hx' => by
  refine wb (pss_cons (ps_ret pe_w) pss_w) ?_
  refine he F σ H ok.c (xh_of ok tk hx') _ p _ fun y v F' H' m t h => ?_
  have ok1 := ok.to m
  refine ⟨q y, F', by rw [hc]; exact ok1.mv, ?_, h⟩
  rw [hv]
  exact t
/-! ### owned lists -/
theorem mv_upd {F H : Hp} {j : Nat} {l : Addr} {k0 k : CK X.K} {o : HO} (ok : Okc ρ cs F σ H) (hc : cs[j]? = some ⟨l, k0⟩) (hr : k.rep F o) : Mv cs F H (cs.set j ⟨l, k⟩) F (upd H l o) := by
  have hj : j < cs.length := (List.getElem?_eq_some_iff.mp hc).1
  have hm : ⟨l, k0⟩ ∈ cs := List.mem_of_getElem? hc
  have hFl := (ok.cell _ hm).1
  have map_eq : (cs.set j ⟨l, k⟩).map Cell.a = cs.map Cell.a := by
    rw [List.map_set]
    apply List.ext_getElem?
    intro n
    by_cases hn : j = n
    · subst hn
      rw [List.getElem?_set_self (by simpa using hj), List.getElem?_map, hc]
      rfl
    · rw [List.getElem?_set_ne hn]
  have others : ∀ (n : Nat) (c : Cell X.K), n ≠ j → cs[n]? = some c → c.a ≠ l := fun n c hn e z => by
    have nd := ok.nd
    have e1 : (cs.map Cell.a)[n]? = some l := by rw [List.getElem?_map, e]; exact congrArg some z
    have e2 : (cs.map Cell.a)[j]? = some l := by rw [List.getElem?_map, hc]; rfl
    obtain ⟨h1, q1⟩ := List.getElem?_eq_some_iff.mp e1
    obtain ⟨h2, q2⟩ := List.getElem?_eq_some_iff.mp e2
    exact hn ((List.getElem_inj nd).mp (q1.trans q2.symm))
  refine ⟨Same.refl F, fun b u e => ?_, fun b h1 h2 => absurd h1 h2, fun b u e n => ?_, fun c hcm => ?_, by rw [map_eq]; exact ok.nd, fun c hcm => ?_, fun c hcm z => ?_⟩
  · have : b ≠ l := fun z => by rw [z, hFl] at e; cases e
    rw [upd_ne this]; exact ok.same _ _ e
  · have : b ≠ l := fun z => n _ hm z.symm
    rw [upd_ne this]; exact e
  · obtain ⟨n, e⟩ := List.getElem?_of_mem hcm
    by_cases hn : n = j
    · subst hn
      rw [List.getElem?_set_self hj] at e
      cases e
      exact ⟨hFl, o, upd_same, hr⟩
    · rw [List.getElem?_set_ne (Ne.symm hn)] at e
      obtain ⟨n1, u, e1, r1⟩ := ok.cell c (List.mem_of_getElem? e)
      exact ⟨n1, u, by rw [upd_ne (others n c hn e)]; exact e1, r1⟩
  · obtain ⟨n, e⟩ := List.getElem?_of_mem hcm
    by_cases hn : n = j
    · subst hn
      rw [List.getElem?_set_self hj] at e
      cases e
      exact .inl ⟨_, hm, rfl⟩
    · rw [List.getElem?_set_ne (Ne.symm hn)] at e
      exact .inl ⟨c, List.mem_of_getElem? e, rfl⟩
  · by_cases hl : c.a = l
    · rw [hl, upd_same] at z; cases z
    · rw [upd_ne hl] at z
      obtain ⟨_, u, e1, _⟩ := ok.cell c hcm
      rw [e1] at z; cases z
theorem Rl.set {K : PySem.W.Frag} {T : Ty K α} {F : Hp} {v : V} {x : α} : ∀ {vs : List V} {xs : List α} {i : Nat}, Rl T F vs xs → T.rep F v x → Rl T F (vs.set i v) (xs.set i x)
  | _, _, _, .nil, _ => .nil
  | _, _, 0, .cons _ t, h => .cons h t
  | _, _, i + 1, .cons r t, h => .cons r (Rl.set (i := i) t h)
theorem Rl.append {K : PySem.W.Frag} {T : Ty K α} {F : Hp} : ∀ {vs ws : List V} {xs ys : List α}, Rl T F vs xs → Rl T F ws ys → Rl T F (vs ++ ws) (xs ++ ys)
  | _, _, _, _, .nil, h => h
  | _, _, _, _, .cons r t, h => .cons r (Rl.append t h)
def IxW (xs : List α) (i : Int) : Prop := 0 ≤ i ∧ i < xs.length
/-- l[i] = e, l an owned list, i a place -/
theorem sk_setIx {o ie : Expr} {T : Ty X.K α} {vl : μ → α} {cs' : μ → List (Cell X.K)} {M : (μ → Prop) → Prop} {l : Addr} {xs : μ → List α} {i : μ → Int} {P1 P2 : μ → Prop} {φ : μ → List α → Prop} {p1 : Pos} (j : Nat) (he : EK X Y e ρ cs T vl cs' M) (ho : ∀ y, PK X o ρ (cs' y) tR l (P1 y))
    (hi : ∀ y, PK X ie ρ (cs' y) tI (i y) (P2 y)) (hc : ∀ y, (cs' y)[j]? = some ⟨l, cL T (xs y)⟩) (k : ∀ y z, SK X B Y fl rest ρ ((cs' y).set j ⟨l, cL T z⟩) D (φ y z))
    (ha : ∀ v, assign (.Subscript o ie p1) X.env v = (do
      let ov ← holding [v] (eval o X.env)
      let iv ← holding [v, ov] (eval ie X.env)
      standAt p1
      holding [v, ov, iv] (setItem ov iv v)
      release [v, ov, iv] []) := by intro _; rfl) (hs : swapsWithSole [.Subscript o ie p1] e pos.line X.env = pure false := by rfl) (hw : swappedStores [.Subscript o ie p1] e X.env = pure none := by rfl)
    (h1 : (assignEach [.Subscript o ie p1] X.env).map (·.2) = [assign (.Subscript o ie p1) X.env] := by rfl) :
    SK X B Y fl (.Assign [.Subscript o ie p1] e pos :: rest) ρ cs D (M fun y => P1 y ∧ P2 y ∧ IxW (xs y) (i y) ∧ ∀ z, z = (xs y).set (i y).toNat (vl y) → φ y z) := fun F σ H ok p W tk hx' => by
  refine wb (pss_cons (ps_asg pe_w (pg_sub pe_w pe_w set_list ha) hs hw h1) pss_w) ?_
  refine he F σ H ok.c (xh_of ok tk hx') _ p _ fun y v F1 H1 m t q => ?_
  have ok1 := ok.to m
  refine ho y F1 σ H1 ok1.c.w q.1 _ fun v2 F2 H2 g2 r2 => ?_
  have ok2 := ok1.to (ok1.c.grow g2)
  refine hi y F2 σ H2 ok2.c.w q.2.1 _ fun v3 F3 H3 g3 r3 => ?_
  have ok3 := ok2.to (ok2.c.grow g3)
  obtain ⟨_, ob, hob, vs, e1, rl, z⟩ := ok3.c.cell _ (List.mem_of_getElem? (hc y))
  subst e1
  have hix : ixN vs.length (i y) = some (i y).toNat := by
    unfold ixN
    rw [if_pos q.2.2.1.1, if_pos (by rw [Rl.length rl]; exact q.2.2.1.2)]
  refine ⟨l, vs, i y, (i y).toNat, r2, r3, hob, hix, ?_⟩
  exact k y _ F3 σ _ (ok3.to (mv_upd (k := cL T ((xs y).set (i y).toNat (vl y))) ok3.c (hc y) ⟨_, rfl, Rl.set rl (T.mono (g2.ff.trans g3.ff) t), by rw [List.length_set]; exact z⟩)) (q.2.2.2 _ rfl) W tk hx'
/-- a method of an owned list: what it asks, what it leaves, what it gives -/
def MLK {K : PySem.W.Frag} (r : V → List V → Hp → VK → Prop) (T : Ty K α) (Ts : Tys K β) (U : Ty K γ) (C : List α → β → Prop) (f : List α → β → List α) (g : List α → β → γ) : Prop :=
  ∀ F H l vs ws x y, Same F H → H l = some (.lst vs) → Rl T F vs x → vs.length ≤ sizeLine → Ts.rep F ws y → C x y → ∀ Q : VK, (∀ v vs', Rl T F vs' (f x y) → vs'.length ≤ sizeLine → U.rep F v (g x y) → Q v (upd H l (.lst vs'))) → r (.ref l) ws H Q
theorem ek_mL {o : Expr} {es : List Expr} {name : Str} {id : String} {r : V → List V → Hp → VK → Prop} {T : Ty X.K α} {Ts : Tys X.K β} {U : Ty X.K γ} {C : List α → β → Prop} {f : List α → β → List α} {g : List α → β → γ} {vl : μ → β} {cs' : μ → List (Cell X.K)} {M : (μ → Prop) → Prop} {l : Addr} {xs : μ → List α} {P1 : Prop} {apos cpos : Pos}
    (slot : PySem.Slot "list" name id) (hty : typeOf (.builtin id) = pure (.type "method_descriptor")) (hm : MtR X id r) (hr : MLK r T Ts U C f g) (j : Nat) (ho : PK X o ρ cs tR l P1) (he : AK X Y (e :: es) ρ cs Ts vl cs' M)
    (hc : ∀ y, (cs' y)[j]? = some ⟨l, cL T (xs y)⟩) (hc0 : ∃ x0, cs[j]? = some ⟨l, cL T x0⟩)
    (hbase : attributeBase o name X.env (eval o X.env) = eval o X.env := by rfl)
    (hfew : ((backTo cpos (starEach (e :: es) X.env)).all (fun x => !x.1) && (backToKw cpos (keywordEach [] X.env)).all (fun x => x.1.isSome)
      && decide ((e :: es).length + ([] : List Keyword).length + (if ([] : List Keyword).isEmpty then 0 else 1) < 30)) = true := by rfl)
    (hline : (apos.endLine == cpos.line) = true := by rfl) (hs : starEach (e :: es) X.env = (false, eval e X.env) :: starEach es X.env := by rfl) (hplain : (backTo cpos (starEach es X.env)).any (·.1) = false := by rfl) :
    EK X Y (.Call (.Attribute o name apos) (e :: es) [] cpos) ρ cs U (fun y : μ × List α => g (xs y.1) (vl y.1)) (fun y => (cs' y.1).set j ⟨l, cL T y.2⟩) (fun φ => P1 ∧ M fun y => C (xs y) (vl y) ∧ ∀ z, z = f (xs y) (vl y) → φ (y, z)) := fun F σ H ok xh φ p Q k => by
  refine we (pe_bm PySem.F.plainAttrs_list slot hty hm pe_w pa_w hbase hfew hline hs hplain) ?_
  refine ho F σ H ok.w p.1 _ fun v0 F0 H0 g0 r0 => ?_
  have m0 := ok.grow g0
  have ok0 := ok.mv m0
  obtain ⟨x0, hc0⟩ := hc0
  obtain ⟨_, ob0, hob0, vs0, e0, _, _⟩ := ok0.cell _ (List.mem_of_getElem? hc0)
  subst e0
  cases r0
  refine ⟨.inl ⟨rfl, _, SqL.of hob0⟩, ?_⟩
  refine he F0 σ H0 ok0 (xh.mv m0) _ p.2 _ fun y ws F1 H1 m t q => ?_
  have ok1 := ok0.mv m
  obtain ⟨_, ob, hob, vs, e1, rl, z⟩ := ok1.cell _ (List.mem_of_getElem? (hc y))
  subst e1
  refine hr F1 H1 l vs ws (xs y) (vl y) m.fh hob rl z t q.1 Q fun v vs' rl' z' u => ?_
  exact k (y, f (xs y) (vl y)) v F1 _ ((m0.trans m).trans (mv_upd (k := cL T (f (xs y) (vl y))) ok1 (hc y) ⟨_, rfl, rl', z'⟩)) u (q.2 _ rfl)
theorem ek_mL0 {o : Expr} {name : Str} {id : String} {r : V → List V → Hp → VK → Prop} {T : Ty X.K α} {U : Ty X.K γ} {C : List α → Unit → Prop} {f : List α → Unit → List α} {g : List α → Unit → γ} {l : Addr} {xs : List α} {P1 : Prop} {apos cpos : Pos}
    (slot : PySem.Slot "list" name id) (hty : typeOf (.builtin id) = pure (.type "method_descriptor")) (hm : MtR X id r) (hr : MLK r T ts0 U C f g) (j : Nat) (ho : PK X o ρ cs tR l P1)
    (hc : cs[j]? = some ⟨l, cL T xs⟩)
    (hbase : attributeBase o name X.env (eval o X.env) = eval o X.env := by rfl) (hline : (apos.endLine == cpos.line) = true := by rfl) :
    EK X Y (.Call (.Attribute o name apos) [] [] cpos) ρ cs U (fun _ : List α => g xs ()) (fun z => cs.set j ⟨l, cL T z⟩) (fun φ => P1 ∧ C xs () ∧ ∀ z, z = f xs () → φ z) := fun F σ H ok xh φ p Q k => by
  refine we (pe_bm0 PySem.F.plainAttrs_list slot hty hm pe_w hbase hline) ?_
  refine ho F σ H ok.w p.1 _ fun v0 F0 H0 g0 r0 => ?_
  have m0 := ok.grow g0
  have ok0 := ok.mv m0
  obtain ⟨_, ob, hob, vs, e1, rl, z⟩ := ok0.cell _ (List.mem_of_getElem? hc)
  subst e1
  cases r0
  refine ⟨.inl ⟨rfl, _, SqL.of hob⟩, ?_⟩
  refine hr F0 H0 l vs [] xs () m0.fh hob rl z rfl p.2.1 Q fun v vs' rl' z' u => ?_
  exact k (f xs ()) v F0 _ (m0.trans (mv_upd (k := cL T (f xs ())) ok0 hc ⟨_, rfl, rl', z'⟩)) u (p.2.2 _ rfl)
theorem ml_append {K : PySem.W.Frag} {T : Ty K α} : MLK rAppend T (ts1 T) tN (fun xs _ => xs.length < sizeLine) (fun xs x => xs ++ [x]) (fun _ _ => ()) := fun F H l vs ws x y s h rl z ⟨w, e, t⟩ c Q k => by
  subst e
  exact ⟨l, vs, w, rfl, rfl, h, by rw [Rl.length rl]; exact c, k _ _ (Rl.append rl (.cons t .nil)) (by rw [List.length_append, List.length_singleton, Rl.length rl]; exact c) rfl⟩
end
end MD
namespace MD
open PySem PySem.Spec PyProof.Rows L2
section
variable {X : Cx} {fl : Hp} {B : Hb X.K} {Y : Ec X.K} {ρ : List (Slot X.K)} {cs : List (Cell X.K)} {α β γ μ : Type} {pos : Pos} {rest : List Stmt} {D : Ends} {e : Expr}
/-! ### targets -/
/-- a value x of type T goes to a target: G, what the names hold behind it; vs, the places that it may change -/
def GK (X : Cx) (tg : Expr) (T : Ty X.K α) (G : List (Slot X.K) → α → List (Slot X.K)) (vs : List Nat) : Prop :=
  ∀ F σ H v x ρ, Prd (Slot.ok F) ρ σ → Same F H → T.rep F v x → ∀ Q : L2.St → Hp → Prop, (∀ σ', Prd (Slot.ok F) (G ρ x) σ' → (∀ ws : List Nat, (∀ j ∈ vs, j ∈ ws) → wipe σ' ws = wipe σ ws) → Q σ' H) → WG X tg v σ H Q
def GsK (X : Cx) (tgs : List Expr) (T : Tys X.K α) (G : List (Slot X.K) → α → List (Slot X.K)) (vs : List Nat) : Prop :=
  ∀ F σ H us x ρ, Prd (Slot.ok F) ρ σ → Same F H → T.rep F us x → ∀ Q : L2.St → Hp → Prop, (∀ σ', Prd (Slot.ok F) (G ρ x) σ' → (∀ ws : List Nat, (∀ j ∈ vs, j ∈ ws) → wipe σ' ws = wipe σ ws) → Q σ' H) → WGs X tgs us σ H Q
theorem set_none_comm {σ : L2.St} {o : Option V} (i j : Nat) : (σ.set i o).set j none = if i = j then σ.set j none else (σ.set j none).set i o := by
  by_cases h : i = j
  · subst h; rw [if_pos rfl, List.set_set]
  · rw [if_neg h, List.set_comm _ _ h]
theorem wipe_set {o : Option V} {i : Nat} : ∀ (ws : List Nat) (σ : L2.St), i ∈ ws → wipe (σ.set i o) ws = wipe σ ws
  | [], _, h => absurd h (by simp)
  | j :: ws, σ, h => by
    have key : ∀ (ws : List Nat) (σ : L2.St), wipe (σ.set i o) ws = if i ∈ ws then wipe σ ws else (wipe σ ws).set i o := by
      intro ws
      induction ws with
      | nil => intro σ; simp [wipe]
      | cons j ws ih =>
        intro σ
        show (wipe (σ.set i o) ws).set j none = if i ∈ j :: ws then (wipe σ ws).set j none else ((wipe σ ws).set j none).set i o
        rw [ih σ]
        by_cases hm : i ∈ ws
        · rw [if_pos hm, if_pos (List.mem_cons_of_mem _ hm)]
        · rw [if_neg hm, set_none_comm]
          by_cases hij : i = j
          · rw [if_pos hij, if_pos (by rw [hij]; exact List.mem_cons_self)]
          · rw [if_neg hij, if_neg (by simp only [List.mem_cons, not_or]; exact ⟨hij, hm⟩)]
    rw [key, if_pos h]
theorem gk_name {T : Ty X.K α} {i : Nat} {nm : Str} (hN : X.N.Nodup) (hi : X.N[i]? = some nm := by rfl) (hx : Loc X.env.scope nm := by first | exact Or.inl rfl | exact Or.inr rfl) (hf : X.fn nm = true ∨ X.env.scope.names.lookup nm = some .local := by first | exact .inl rfl | exact .inr rfl) :
    GK X (.Name nm pos) T (fun ρ x => ρ.set i (.val T x)) [i] := fun F σ H v x ρ hρ hs r Q k => by
  refine wg (pg_name hN hi hx hf) ?_
  exact k _ (hρ.set (R := Slot.ok F) (x := .val T x) (u := some v) ⟨v, rfl, r⟩ i) fun ws hw => wipe_set ws σ (hw i (by simp))
theorem gs_C {t : Expr} {ts : List Expr} {T : Ty X.K α} {Ts : Tys X.K β} {G1 : List (Slot X.K) → α → List (Slot X.K)} {G2 : List (Slot X.K) → β → List (Slot X.K)} {v1 v2 : List Nat} (h1 : GK X t T G1 v1) (h2 : GsK X ts Ts G2 v2)
    (hs : (assignEach (t :: ts) X.env).map (·.2) = assign t X.env :: (assignEach ts X.env).map (·.2) := by rfl) : GsK X (t :: ts) (tsC T Ts) (fun ρ x => G2 (G1 ρ x.1) x.2) (v1 ++ v2) := fun F σ H us x ρ hρ hs' ⟨v, r, e, ra, rb⟩ Q k => by
  subst e
  refine wgs (pgs_cons pg_w pgs_w hs) ⟨v, r, rfl, ?_⟩
  refine h1 F σ H v x.1 ρ hρ hs' ra _ fun σ1 hρ1 w1 => ?_
  exact h2 F σ1 H r x.2 _ hρ1 hs' rb Q fun σ2 hρ2 w2 => k σ2 hρ2 fun ws hw => (w2 ws fun j hj => hw j (List.mem_append_right _ hj)).trans (w1 ws fun j hj => hw j (List.mem_append_left _ hj))
theorem gs_1 {t : Expr} {T : Ty X.K α} {G1 : List (Slot X.K) → α → List (Slot X.K)} {v1 : List Nat} (h1 : GK X t T G1 v1)
    (hs : (assignEach (t :: []) X.env).map (·.2) = assign t X.env :: (assignEach [] X.env).map (·.2) := by rfl) : GsK X [t] (ts1 T) G1 v1 := fun F σ H us x ρ hρ hs' ⟨v, e, ra⟩ Q k => by
  subst e
  refine wgs (pgs_cons pg_w pgs_nil hs) ⟨v, [], rfl, ?_⟩
  exact h1 F σ H v x ρ hρ hs' ra _ fun σ1 hρ1 w1 => ⟨rfl, k σ1 hρ1 w1⟩
theorem gk_tup {tgs : List Expr} {k0 : Nat} {Ts : Tys X.K α} {G : List (Slot X.K) → α → List (Slot X.K)} {vs : List Nat} {n : Nat} (hc : X.calm = true) (h : GsK X tgs Ts G vs) (hl : ∀ F us x, Ts.rep F us x → us.length = n)
    (hn : (assignEach tgs X.env).length = n := by rfl) (hst : (assignEach tgs X.env).findIdx? (·.1) = none := by rfl) : GK X (.Tuple tgs k0 pos) (tT Ts) G vs := fun F σ H v x ρ hρ hs ⟨a, us, e, hq, r⟩ Q k => by
  subst e
  refine wg (pg_tup hc pgs_w hn hst) ?_
  exact ⟨a, us, rfl, SqT.of (hs _ _ hq), hl F us x r, h F σ H us x ρ hρ hs r Q k⟩
theorem tl1 {K : PySem.W.Frag} {T : Ty K α} : ∀ F us (x : α), (ts1 T).rep F us x → us.length = 1 := fun F us x ⟨v, e, _⟩ => by subst e; rfl
theorem tlC {K : PySem.W.Frag} {T : Ty K α} {Ts : Tys K β} {n : Nat} (h : ∀ F us (x : β), Ts.rep F us x → us.length = n) : ∀ F us (x : α × β), (tsC T Ts).rep F us x → us.length = n + 1 := fun F us x ⟨v, r, e, _, q⟩ => by subst e; rw [List.length_cons, h F r x.2 q]
/-! ### what is walked -/
def ItOk {K : PySem.W.Frag} (T : Ty K α) (J : It) (F : Hp) (xs : List α) : Prop := ∀ (i : Nat) F1 H1, Same F F1 → Same F1 H1 →
  (∀ x, xs[i]? = some x → J.go i H1 ∧ ∀ v H2, J.yld i H1 v H2 → ∃ F2, Grow F1 H1 F2 H2 ∧ T.rep F2 v x) ∧ (xs.length ≤ i → J.stop i H1)
def IK (X : Cx) (tg iter : Expr) (ρ : List (Slot X.K)) (cs : List (Cell X.K)) (T : Ty X.K α) (xs : List α) (P : Prop) : Prop :=
  ∀ F σ H, Okw ρ cs F σ H → P → ∀ R : It → Hp → Prop, (∀ J F' H', Grow F H F' H' → ItOk T J F' xs → xs.length ≤ sizeLine → R J H') → WI X tg iter σ H R
theorem rl_get {K : PySem.W.Frag} {T : Ty K α} {F : Hp} : ∀ {vs : List V} {xs : List α} {i : Nat} {x : α}, Rl T F vs xs → xs[i]? = some x → ∃ v, vs[i]? = some v ∧ T.rep F v x
  | _, _, _, _, .nil, e => by simp at e
  | _, _, 0, _, .cons r _, e => by simp at e; subst e; exact ⟨_, rfl, r⟩
  | _, _, i + 1, x, .cons _ t, e => by
    obtain ⟨u, h1, h2⟩ := rl_get (i := i) (x := x) t (by simpa using e)
    exact ⟨u, by simpa using h1, h2⟩
theorem itl_ok {K : PySem.W.Frag} {T : Ty K α} {F : Hp} {a : Addr} {vs : List V} {xs : List α} (h : SqL K F a vs) (r : Rl T F vs xs) : ItOk T (Itl K a) F xs := fun i F1 H1 e1 e2 => by
  have hq := (e1.trans e2).seq h
  refine ⟨fun x hx => ?_, fun hi => ⟨vs, hq, by rw [Rl.length r]; exact hi⟩⟩
  obtain ⟨v, hv, rv⟩ := rl_get r hx
  refine ⟨⟨vs, v, hq, hv⟩, fun v' H2 ⟨e, y⟩ => ?_⟩
  subst e
  have := (y vs hq).symm.trans hv
  cases this
  exact ⟨F1, Grow.refl e2, T.mono e1 rv⟩
theorem itt_ok {K : PySem.W.Frag} {T : Ty K α} {F : Hp} {a : Addr} {vs : List V} {xs : List α} (h : SqT K F a vs) (r : Rl T F vs xs) : ItOk T (Itt K a) F xs := fun i F1 H1 e1 e2 => by
  have hq := same_sqT (e1.trans e2) h
  refine ⟨fun x hx => ?_, fun hi => ⟨vs, hq, by rw [Rl.length r]; exact hi⟩⟩
  obtain ⟨v, hv, rv⟩ := rl_get r hx
  refine ⟨⟨vs, v, hq, hv⟩, fun v' H2 ⟨e, y⟩ => ?_⟩
  subst e
  have := (y vs hq).symm.trans hv
  cases this
  exact ⟨F1, Grow.refl e2, T.mono e1 rv⟩
theorem ik_list {tg : Expr} {T : Ty X.K α} {xs : List α} {P : Prop} (h : PK X e ρ cs (tL T) xs P) : IK X tg e ρ cs T xs P := fun F σ H ok p R k => by
  refine wi (pi_list pe_w) ?_
  refine h F σ H ok p _ fun v F1 H1 g ⟨a, vs, e1, hq, r, z⟩ => ?_
  exact ⟨a, e1, ⟨vs, SqL.of (g.fh _ _ hq)⟩, k _ F1 H1 g (itl_ok (SqL.of hq) r) (by rw [← Rl.length r]; exact z)⟩
theorem ik_tup {tg : Expr} {T : Ty X.K α} {xs : List α} {P : Prop} (h : PK X e ρ cs (tU T) xs P) : IK X tg e ρ cs T xs P := fun F σ H ok p R k => by
  refine wi (pi_tup pe_w) ?_
  refine h F σ H ok p _ fun v F1 H1 g ⟨a, vs, e1, hq, r, z⟩ => ?_
  exact ⟨a, e1, ⟨vs, .inl (same_rd g.fh hq)⟩, k _ F1 H1 g (itt_ok (.inl hq) r) (by rw [← Rl.length r]; exact z)⟩
/-- range(a), range(a, b) as lists -/
def rng (a b : Int) : List Int := (List.range (b - a).toNat).map fun (i : Nat) => a + (i : Int)
theorem rng_get {a b : Int} {i : Nat} {x : Int} (h : (rng a b)[i]? = some x) : x = a + i ∧ i < (b - a).toNat := by
  unfold rng at h
  rw [List.getElem?_map] at h
  by_cases hi : i < (b - a).toNat
  · rw [List.getElem?_range hi] at h
    exact ⟨(Option.some.inj h).symm, hi⟩
  · rw [List.getElem?_eq_none (by rw [List.length_range]; omega)] at h
    cases h
theorem rng_length {a b : Int} : (rng a b).length = (b - a).toNat := by unfold rng; rw [List.length_map, List.length_range]
theorem itr_ok {K : PySem.W.Frag} {F : Hp} {a b : Int} : ItOk (tI (K := K)) (Itr a (b - a).toNat) F (rng a b) := fun i F1 H1 e1 e2 => by
  refine ⟨fun x hx => ?_, fun hi => by rw [rng_length] at hi; exact hi⟩
  obtain ⟨e, hi⟩ := rng_get hx
  refine ⟨hi, fun v H2 ⟨eh, ev⟩ => ?_⟩
  subst eh
  exact ⟨F1, Grow.refl e2, by rw [ev, e]; rfl⟩
theorem ik_range1 {tg a : Expr} {x : Int} {P : Prop} {p : Pos} (hm : X.mg "range" = none) (h : PK X a ρ cs tI x P) (hg : Gl X "range" := by rfl) (hs : starEach [a] X.env = [(false, eval a X.env)] := by rfl) :
    IK X tg (.Call (.Name "range" p) [a] [] pos) ρ cs tI (rng 0 x) (P ∧ -(2 ^ 62) ≤ x ∧ x ≤ 16777216) := fun F σ H ok q R k => by
  refine wi (pi_range1 hg hm (pa_cons pe_w pa_nil hs) hs) ?_
  refine h F σ H ok q.1 _ fun v F1 H1 g r => ⟨x, by cases r; rfl, q.2.1, by have := q.2.2; omega, k _ F1 H1 g ?_ (by rw [rng_length, sizeLine_eq]; have := q.2.2; omega)⟩
  have := itr_ok (K := X.K) (F := F1) (a := 0) (b := x)
  rw [show (x - 0).toNat = x.toNat by rw [Int.sub_zero]] at this
  exact this
/-- the signs of a text -/
def signs (s : Str) : List Str := s.cps.toList.map fun c => ⟨#[c]⟩
theorem strOk_sign {x : Str} {c : Nat} (h : PySem.PyData.strOk x = true) (hc : c ∈ x.cps.toList) : PySem.PyData.strOk ⟨#[c]⟩ = true := by
  unfold PySem.PyData.strOk at *
  rw [← Array.all_toList] at *
  have := List.all_eq_true.mp h c hc
  simpa using this
theorem ik_str {tg : Expr} {x : Str} {P : Prop} (h : PK X e ρ cs tS x P) : IK X tg e ρ cs tS (signs x) (P ∧ x.length ≤ sizeLine) := fun F σ H ok p R k => by
  refine wi (pi_str pe_w) ?_
  refine h F σ H ok p.1 _ fun v F1 H1 g r => ⟨x, r.1, k _ F1 H1 g (fun i F2 H2 e1 e2 => ?_) (by unfold signs; rw [List.length_map, Array.length_toList]; exact p.2)⟩
  refine ⟨fun y hy => ?_, fun hi => by unfold signs at hi; rw [List.length_map, Array.length_toList] at hi; exact hi⟩
  unfold signs at hy
  rw [List.getElem?_map] at hy
  cases q : x.cps.toList[i]? with
  | none => rw [q] at hy; cases hy
  | some c =>
    rw [q] at hy
    have hc : x.cps[i]? = some c := by simpa using q
    refine ⟨(Array.getElem?_eq_some_iff.mp hc).1, fun v2 H3 ⟨eh, c', e', ev⟩ => ?_⟩
    subst eh
    rw [hc] at e'
    cases e'
    refine ⟨F2, Grow.refl e2, ?_⟩
    have ey : (⟨#[c]⟩ : Str) = y := Option.some.inj hy
    rw [← ey]
    exact ⟨ev, strOk_sign r.2 (List.mem_of_getElem? q)⟩
/-- with its number -/
def enumF (xs : List α) : List (Int × α) := (List.range xs.length).zip xs |>.map fun p => ((p.1 : Int), p.2)
theorem enumF_get {xs : List α} {i : Nat} {y : Int × α} (h : (enumF xs)[i]? = some y) : y.1 = i ∧ xs[i]? = some y.2 := by
  unfold enumF at h
  rw [List.getElem?_map] at h
  cases q : ((List.range xs.length).zip xs)[i]? with
  | none => rw [q] at h; cases h
  | some p =>
    rw [q] at h
    have e := Option.some.inj h
    rw [List.getElem?_zip_eq_some] at q
    obtain ⟨h1, h2⟩ := q
    have hi : i < xs.length := (List.getElem?_eq_some_iff.mp h2).1
    rw [List.getElem?_range hi] at h1
    have e1 := Option.some.inj h1
    subst e
    exact ⟨by show ((p.1 : Nat) : Int) = i; rw [← e1], h2⟩
theorem enumF_length {xs : List α} : (enumF xs).length = xs.length := by
  unfold enumF
  rw [List.length_map, List.length_zip, List.length_range, Nat.min_self]
theorem grow_tup2 {K : PySem.W.Frag} {T1 : Ty K α} {T2 : Ty K β} {F H : Hp} {p : Addr} {v w : V} {x : α} {y : β} (h : Same F H) (hp : H p = none) (r1 : T1.rep F v x) (r2 : T2.rep F w y) : Grow F H (upd F p (.tup [v, w])) (upd H p (.tup [v, w])) ∧ (tP T1 T2).rep (upd F p (.tup [v, w])) (.ref p) (x, y) :=
  let g := grow_new h hp (.tup [v, w])
  ⟨g, p, _, rfl, upd_same, v, _, rfl, T1.mono g.ff r1, w, rfl, T2.mono g.ff r2⟩
theorem ik_enum {a : Expr} {T : Ty X.K α} {xs : List α} {P : Prop} {p tpos : Pos} {elts : List Expr} {kk : Nat} (hm : X.mg "enumerate" = none) (h : PK X a ρ cs (tL T) xs P) (hg : Gl X "enumerate" := by rfl) (hs : starEach [a] X.env = [(false, eval a X.env)] := by rfl) :
    IK X (.Tuple elts kk tpos) (.Call (.Name "enumerate" p) [a] [] pos) ρ cs (tP tI T) (enumF xs) P := fun F σ H ok q R k => by
  refine wi (pi_enum hg hm (pa_cons pe_w pa_nil hs) hs) ?_
  refine h F σ H ok q _ fun v F1 H1 g ⟨a, vs, e1, hq, r, z⟩ => ⟨a, vs, by rw [e1], SqL.of (g.fh _ _ hq), k _ F1 H1 g (fun i F2 H2 e1 e2 => ?_) (by rw [enumF_length, ← Rl.length r]; exact z)⟩
  have hq2 := SqL.of (K := X.K) ((e1.trans e2) _ _ hq)
  refine ⟨fun y hy => ?_, fun hi => ⟨vs, hq2, by rw [Rl.length r]; rw [enumF_length] at hi; exact hi⟩⟩
  obtain ⟨hy1, hy2⟩ := enumF_get hy
  obtain ⟨v, hv, rv⟩ := rl_get r hy2
  refine ⟨⟨vs, v, hq2, hv⟩, fun v' H3 ⟨t, x', ev, hn, eh, hx⟩ => ?_⟩
  have := (hx vs hq2).symm.trans hv
  cases this
  subst ev; subst eh
  obtain ⟨g2, r2⟩ := grow_tup2 (T1 := tI (K := X.K)) (T2 := T) (x := y.1) (y := y.2) (v := .int (i : Nat)) e2 hn (by rw [hy1]; rfl) (T.mono e1 rv)
  exact ⟨_, g2, r2⟩
theorem zip_get {xs : List α} {ys : List β} {i : Nat} {z : α × β} (h : (xs.zip ys)[i]? = some z) : xs[i]? = some z.1 ∧ ys[i]? = some z.2 := List.getElem?_zip_eq_some.mp h
theorem ik_zipL {a b : Expr} {T : Ty X.K α} {U : Ty X.K β} {xs : List α} {ys : List β} {P1 P2 : Prop} {p tpos : Pos} {elts : List Expr} {kk : Nat} (hm : X.mg "zip" = none) (h1 : PK X a ρ cs (tL T) xs P1) (h2 : PK X b ρ cs (tL U) ys P2) (hg : Gl X "zip" := by rfl)
    (hs : starEach [a, b] X.env = (false, eval a X.env) :: starEach [b] X.env := by rfl) (hs2 : starEach [b] X.env = (false, eval b X.env) :: starEach [] X.env := by rfl) (hpl : (backTo pos (starEach [b] X.env)).any (·.1) = false := by rfl) :
    IK X (.Tuple elts kk tpos) (.Call (.Name "zip" p) [a, b] [] pos) ρ cs (tP T U) (xs.zip ys) (P1 ∧ P2) := fun F σ H ok q R k => by
  refine wi (pi_zip hg hm (pa_cons pe_w (pa_cons pe_w pa_nil hs2) hs) hs hpl) ?_
  refine h1 F σ H ok q.1 _ fun v F1 H1 g1 ⟨a1, vs, e1, hq1, r1, z1⟩ => ?_
  refine h2 F1 σ H1 (ok.grow g1) q.2 _ fun w F2 H2 g2 ⟨a2, ws, e2, hq2, r2, z2⟩ => ⟨a1, a2, vs, ws, by rw [e1, e2], SqL.of ((g2.ff.trans g2.fh) _ _ hq1), SqL.of (g2.fh _ _ hq2), k _ F2 H2 (g1.trans g2) (fun i F3 H3 e3 e4 => ?_) (by rw [List.length_zip]; have := Rl.length r1; omega)⟩
  have q1 := SqL.of (K := X.K) (((g2.ff.trans e3).trans e4) _ _ hq1)
  have q2 := SqL.of (K := X.K) ((e3.trans e4) _ _ hq2)
  refine ⟨fun z hz => ?_, fun hi => ⟨vs, ws, q1, q2, by rw [Rl.length r1, Rl.length r2]; rw [List.length_zip] at hi; omega⟩⟩
  obtain ⟨hx, hy⟩ := zip_get hz
  obtain ⟨v1, hv1, rv1⟩ := rl_get r1 hx
  obtain ⟨w1, hw1, rw1⟩ := rl_get r2 hy
  refine ⟨⟨vs, ws, v1, w1, q1, q2, hv1, hw1⟩, fun v' H4 ⟨t, x', y', ev, hn, eh, hx', hy'⟩ => ?_⟩
  have t1 := (hx' vs q1).symm.trans hv1
  have t2 := (hy' ws q2).symm.trans hw1
  cases t1; cases t2
  subst ev; subst eh
  obtain ⟨g3, r3⟩ := grow_tup2 (T1 := T) (T2 := U) (x := z.1) (y := z.2) e4 hn (T.mono (g2.ff.trans e3) rv1) (U.mono e3 rw1)
  exact ⟨_, g3, r3⟩
/-! ### loops -/
/-- for tg in iter: body; z: what a turn changes -/
theorem sk_for {tg iter : Expr} {body : List Stmt} {T : Ty X.K α} {xs : List α} {P : Prop} {G : List (Slot X.K) → α → List (Slot X.K)} {vs : List Nat} (ρ' : β → List (Slot X.K)) (cs' : β → List (Cell X.K)) (z0 : β) {φb : (β → Prop) → β → α → Prop} {φr : β → Prop}
    (hp : PassesOwn (model X.prog X.w) X.A X.env X.xe) (hc : X.calm = true) (hi : IK X tg iter ρ cs T xs P) (hg : GK X tg T G vs) (hle : Le ρ (ρ' z0)) (hcs : cs = cs' z0)
    (hb : ∀ (fl' : Hp), Same fl fl' → ∀ (N : β → Prop) z x, SK X B Y fl' body (G (ρ' z) x) (cs' z) { D with nx := Mid B fl' ρ' cs' N, ct := Mid B fl' ρ' cs' N, bk := WB X rest D } (φb N z x))
    (hr : ∀ z, SK X B Y fl rest (ρ' z) (cs' z) D (φr z)) (hfo : ∀ x, foldedSetIterable iter X.env x = pure x := by intro _; rfl) :
    SK X B Y fl (.For tg iter body [] pos :: rest) ρ cs D (P ∧ ∃ I : Nat → β → Prop, I 0 z0 ∧ (∀ i z x, xs[i]? = some x → I i z → φb (I (i + 1)) z x) ∧ ∀ z, I xs.length z → φr z) := fun F σ H ok p W tk hx' => by
  subst hcs
  obtain ⟨pP, I, i0, iS, iE⟩ := p
  refine wb (pss_cons (ps_for hp hc pi_w pg_w pss_w hfo) pss_w) ?_
  refine hi F σ H ok.c.w pP _ fun J F1 H1 g it _ => ?_
  have ok1 := ok.to (ok.c.grow g)
  refine ⟨fun i m σ H => m = xs.length - i ∧ i ≤ xs.length ∧ ∃ z F2, Ok B F1 (ρ' z) (cs' z) F2 σ H ∧ I i z, ⟨xs.length, by simp, Nat.zero_le _, z0, F1, ⟨hle.env ok1.env, ok1.mv, Same.refl _⟩, i0⟩, ?_⟩
  rintro i m σ2 H2 ⟨rfl, hil, z, F2, ok2, hI⟩
  obtain ⟨go, stop⟩ := it i F2 H2 ok2.flo ok2.mv.fh
  by_cases hlt : i < xs.length
  · obtain ⟨hgo, hy⟩ := go xs[i] (List.getElem?_eq_getElem hlt)
    refine .inr ⟨hgo, Mid B F1 ρ' cs' (I (i + 1)), fun σ' H' ⟨z', F3, ok3, h3⟩ => ⟨xs.length - (i + 1), by omega, rfl, hlt, z', F3, ok3, h3⟩, fun v H3 hv => ?_⟩
    obtain ⟨F3, g3, rv⟩ := hy v H3 hv
    have ok3 := ok2.to (ok2.c.grow g3)
    refine hg F3 σ2 H3 v xs[i] (ρ' z) ok3.env ok3.mv.fh rv _ fun σ4 hρ4 _ => ?_
    exact hb F1 ok1.flo (I (i + 1)) z xs[i] F3 σ4 H3 ⟨hρ4, ok3.mv, ok3.flo⟩ (iS i z xs[i] (List.getElem?_eq_getElem hlt) hI) W tk hx'
  · exact .inl ⟨stop (by omega), hr z F2 σ2 H2 (ok2.low ok1.flo) (iE z (by rw [show xs.length = i by omega]; exact hI)) W tk hx'⟩
end
end MD
namespace MD
open PySem PySem.Spec PyProof.Rows L2
section
variable {X : Cx} {fl : Hp} {B : Hb X.K} {Y : Ec X.K} {ρ : List (Slot X.K)} {cs : List (Cell X.K)} {α β γ μ ν : Type} {pos : Pos} {rest : List Stmt} {D : Ends} {e : Expr}
/-! ### new lists -/
/-- e makes a new list of xs -/
def NK (X : Cx) (e : Expr) (ρ : List (Slot X.K)) (cs : List (Cell X.K)) (T : Ty X.K α) (xs : List α) (P : Prop) : Prop :=
  ∀ F σ H, Okw ρ cs F σ H → P → ∀ Q : VK, (∀ a vs F' H', Grow F H F' H' → H a = none → F' a = none → H' a = some (.lst vs) → Rl T F' vs xs → vs.length ≤ sizeLine → Q (.ref a) H') → WE X e σ H Q
def NE (X : Cx) (Y : Ec X.K) (e : Expr) (ρ : List (Slot X.K)) (cs : List (Cell X.K)) {μ α : Type} (T : Ty X.K α) (vl : μ → List α) (cs' : μ → List (Cell X.K)) (M : (μ → Prop) → Prop) : Prop :=
  ∀ F σ H, Okc ρ cs F σ H → Xh X Y cs F σ H → ∀ φ : μ → Prop, M φ → ∀ Q : VK, (∀ y a vs F' H', Mv cs F H (cs' y) F' H' → H a = none → F' a = none → H' a = some (.lst vs) → (∀ c ∈ cs' y, c.a ≠ a) → Rl T F' vs (vl y) → vs.length ≤ sizeLine → φ y → Q (.ref a) H') → WE X e σ H Q
theorem frz_grow {F H F' H' : Hp} {a : Addr} {o : HO} (g : Grow F H F' H') (hH : H a = none) (hF : F' a = none) (ho : H' a = some o) : Grow F H (upd F' a o) H' where
  ff := fun b u e => by
    have : b ≠ a := fun z => by rw [z] at e; rw [g.ff _ _ e] at hF; cases hF
    rw [upd_ne this]; exact g.ff _ _ e
  fh := fun b u e => by
    by_cases z : b = a
    · subst z; rw [upd_same] at e; cases e; exact ho
    · rw [upd_ne z] at e; exact g.fh _ _ e
  hh := g.hh
  fr := fun b h1 h2 => by
    by_cases z : b = a
    · subst z; exact hH
    · rw [upd_ne z] at h2; exact g.fr b h1 h2
theorem same_upd {F : Hp} {a : Addr} {o : HO} (h : F a = none) : Same F (upd F a o) := fun b u e => by
  have : b ≠ a := fun z => by rw [z, h] at e; cases e
  rw [upd_ne this]; exact e
theorem NK.pk {T : Ty X.K α} {xs : List α} {P : Prop} (h : NK X e ρ cs T xs P) : PK X e ρ cs (tL T) xs P := fun F σ H ok p Q k =>
  h F σ H ok p Q fun a vs F' H' g hH hF ho r z => k _ _ _ (frz_grow g hH hF ho) ⟨a, vs, rfl, upd_same, r.mono (same_upd hF), z⟩
theorem NK.ne {T : Ty X.K α} {xs : List α} {P : Prop} (h : NK X e ρ cs T xs P) : NE X Y e ρ cs T (fun _ : Unit => xs) (fun _ => cs) (fun φ => P ∧ φ ()) := fun F σ H ok xh φ p Q k =>
  h F σ H ok.w p.1 Q fun a vs F' H' g hH hF ho r z => k () a vs F' H' (ok.grow g) hH hF ho (fun c hc e => by
    obtain ⟨_, o, e1, _⟩ := ok.cell c hc
    rw [e, hH] at e1; cases e1) r z p.2
theorem frz_mv {cs cs' : List (Cell X.K)} {F H F' H' : Hp} {a : Addr} {o : HO} (m : Mv cs F H cs' F' H') (hH : H a = none) (hF : F' a = none) (ho : H' a = some o) (hn : ∀ c ∈ cs', c.a ≠ a) : Mv cs F H cs' (upd F' a o) H' where
  ff := m.ff.trans (same_upd hF)
  fh := fun b u e => by
    by_cases z : b = a
    · subst z; rw [upd_same] at e; cases e; exact ho
    · rw [upd_ne z] at e; exact m.fh _ _ e
  fr := fun b h1 h2 => by
    by_cases z : b = a
    · subst z; exact hH
    · rw [upd_ne z] at h2; exact m.fr b h1 h2
  kp := m.kp
  cell := fun c hc => by
    obtain ⟨n, u, e, r⟩ := m.cell c hc
    exact ⟨by rw [upd_ne (hn c hc)]; exact n, u, e, c.ck.mono (same_upd hF) r⟩
  nd := m.nd
  nw := m.nw
  st := m.st
theorem NE.ek {T : Ty X.K α} {vl : μ → List α} {cs' : μ → List (Cell X.K)} {M : (μ → Prop) → Prop} (h : NE X Y e ρ cs T vl cs' M) : EK X Y e ρ cs (tL T) vl cs' M := fun F σ H ok xh φ p Q k =>
  h F σ H ok xh φ p Q fun y a vs F' H' m hH hF ho hn r z q => k y _ _ _ (frz_mv m hH hF ho hn) ⟨a, vs, rfl, upd_same, r.mono (same_upd hF), z⟩ q
/-- as a cell, the last one -/
theorem new_mv {T : Ty X.K α} {xs : List α} {cs cs' : List (Cell X.K)} {F H F' H' : Hp} {a : Addr} {vs : List V} (m : Mv cs F H cs' F' H') (hH : H a = none) (hF : F' a = none) (ho : H' a = some (.lst vs)) (hn : ∀ c ∈ cs', c.a ≠ a) (r : Rl T F' vs xs) (z : vs.length ≤ sizeLine) :
    Mv cs F H (cs' ++ [⟨a, cL T xs⟩]) F' H' where
  ff := m.ff
  fh := m.fh
  fr := m.fr
  kp := m.kp
  cell := fun c hc => by
    rcases List.mem_append.mp hc with hc | hc
    · exact m.cell c hc
    · obtain rfl := List.mem_singleton.mp hc
      exact ⟨hF, _, ho, vs, rfl, r, z⟩
  nd := by
    rw [List.map_append]
    refine List.nodup_append.mpr ⟨m.nd, by simp, fun x hx y hy => ?_⟩
    obtain ⟨c, hc, rfl⟩ := List.mem_map.mp hx
    have : y = a := by simpa using hy
    rw [this]; exact hn c hc
  nw := fun c hc => by
    rcases List.mem_append.mp hc with hc | hc
    · exact m.nw c hc
    · obtain rfl := List.mem_singleton.mp hc
      exact .inr hH
  st := m.st
theorem NE.own {T : Ty X.K α} {vl : μ → List α} {cs' : μ → List (Cell X.K)} {M : (μ → Prop) → Prop} (h : NE X Y e ρ cs T vl cs' M) :
    EK X Y e ρ cs tR (fun y : μ × Addr × List α => y.2.1) (fun y => cs' y.1 ++ [⟨y.2.1, cL T y.2.2⟩]) (fun φ => M fun y => ∀ a z, z = vl y → φ (y, a, z)) := fun F σ H ok xh φ p Q k =>
  h F σ H ok xh _ p Q fun y a vs F' H' m hH hF ho hn r z q => k (y, a, vl y) _ _ _ (new_mv m hH hF ho hn r z) rfl (q a _ rfl)
/-- a display -/
theorem nk_lst {es : List Expr} {T : Ty X.K α} {x : List α} {P : Prop} (h : PAK X es ρ cs (tsL T) x P) (hl : x.length ≤ 1000 := by decide) : NK X (.List es pos) ρ cs T x P := fun F σ H ok p Q k => by
  refine we (pe_lst pa_w) ?_
  refine h F σ H ok p _ fun vs F1 H1 g1 r1 => ?_
  have hz : vs.length ≤ sizeLine := Nat.le_trans (by rw [Rl.length r1]; exact hl) (by decide)
  refine ⟨hz, fun q hq => ?_⟩
  have hF : F1 q = none := by
    cases e : F1 q with
    | none => rfl
    | some u => rw [g1.fh _ _ e] at hq; cases hq
  refine k q vs F1 _ ⟨g1.ff, fun b u e => ?_, fun b u e => ?_, g1.fr⟩ (g1.hh.free hq) hF upd_same r1 hz
  · have : b ≠ q := fun z => by rw [z, hF] at e; cases e
    rw [upd_ne this]; exact g1.fh _ _ e
  · have : b ≠ q := fun z => by rw [z, g1.hh.free hq] at e; cases e
    rw [upd_ne this]; exact g1.hh _ _ e
/-- a call that hands back a new list -/
theorem grow_upd {F H F1 H1 : Hp} {q : Addr} {o : HO} (g1 : Grow F H F1 H1) (hq : H1 q = none) : Grow F H F1 (upd H1 q o) ∧ F1 q = none := by
  have hF : F1 q = none := by
    cases e : F1 q with
    | none => rfl
    | some u => rw [g1.fh _ _ e] at hq; cases hq
  refine ⟨⟨g1.ff, fun b u e => ?_, fun b u e => ?_, g1.fr⟩, hF⟩
  · have : b ≠ q := fun z => by rw [z, hF] at e; cases e
    rw [upd_ne this]; exact g1.fh _ _ e
  · have : b ≠ q := fun z => by rw [z, g1.hh.free hq] at e; cases e
    rw [upd_ne this]; exact g1.hh _ _ e
/-! ### what is walked, with effects ahead -/
def IE (X : Cx) (Y : Ec X.K) (tg iter : Expr) (ρ : List (Slot X.K)) (cs : List (Cell X.K)) {μ α : Type} (T : Ty X.K α) (xs : μ → List α) (cs' : μ → List (Cell X.K)) (M : (μ → Prop) → Prop) : Prop :=
  ∀ F σ H, Okc ρ cs F σ H → Xh X Y cs F σ H → ∀ φ : μ → Prop, M φ → ∀ R : It → Hp → Prop, (∀ y J F' H', Mv cs F H (cs' y) F' H' → ItOk T J F' (xs y) → (xs y).length ≤ sizeLine → φ y → R J H') → WI X tg iter σ H R
theorem IK.ie {tg iter : Expr} {T : Ty X.K α} {xs : List α} {P : Prop} (h : IK X tg iter ρ cs T xs P) : IE X Y tg iter ρ cs T (fun _ : Unit => xs) (fun _ => cs) (fun φ => P ∧ φ ()) := fun F σ H ok xh φ p R k =>
  h F σ H ok.w p.1 R fun J F' H' g it z => k () J F' H' (ok.grow g) it z p.2
theorem ie_range1 {tg a : Expr} {vl : μ → Int} {cs' : μ → List (Cell X.K)} {M : (μ → Prop) → Prop} {p : Pos} (hm : X.mg "range" = none) (h : EK X Y a ρ cs tI vl cs' M) (hg : Gl X "range" := by rfl) (hs : starEach [a] X.env = [(false, eval a X.env)] := by rfl) :
    IE X Y tg (.Call (.Name "range" p) [a] [] pos) ρ cs tI (fun y => rng 0 (vl y)) cs' (fun φ => M fun y => -(2 ^ 62) ≤ vl y ∧ vl y ≤ 16777216 ∧ φ y) := fun F σ H ok xh φ q R k => by
  refine wi (pi_range1 hg hm (pa_cons pe_w pa_nil hs) hs) ?_
  refine h F σ H ok xh _ q _ fun y v F1 H1 m r q2 => ⟨vl y, by cases r; rfl, q2.1, by have := q2.2.1; omega, k y _ F1 H1 m ?_ (by rw [rng_length, sizeLine_eq]; have := q2.2.1; omega) q2.2.2⟩
  have := itr_ok (K := X.K) (F := F1) (a := 0) (b := vl y)
  rw [show (vl y - 0).toNat = (vl y).toNat by rw [Int.sub_zero]] at this
  exact this
theorem ie_list {tg : Expr} {T : Ty X.K α} {vl : μ → List α} {cs' : μ → List (Cell X.K)} {M : (μ → Prop) → Prop} (h : EK X Y e ρ cs (tL T) vl cs' M) : IE X Y tg e ρ cs T vl cs' M := fun F σ H ok xh φ p R k => by
  refine wi (pi_list pe_w) ?_
  refine h F σ H ok xh _ p _ fun y v F1 H1 m ⟨a, vs, e1, hq, r, z⟩ q => ?_
  exact ⟨a, e1, ⟨vs, SqL.of (m.fh _ _ hq)⟩, k y _ F1 H1 m (itl_ok (SqL.of hq) r) (by rw [← Rl.length r]; exact z) q⟩
/-! ### comprehensions -/
def TsK (X : Cx) (Y : Ec X.K) (ifs : List Expr) (ρ : List (Slot X.K)) (cs : List (Cell X.K)) {μ : Type} (vl : μ → Bool) (cs' : μ → List (Cell X.K)) (M : (μ → Prop) → Prop) : Prop :=
  ∀ F σ H, Okc ρ cs F σ H → Xh X Y cs F σ H → ∀ φ : μ → Prop, M φ → ∀ Q : Bool → Hp → Prop, (∀ y F' H', Mv cs F H (cs' y) F' H' → φ y → Q (vl y) H') → WTs X ifs σ H Q
theorem ts_0 : TsK X Y [] ρ cs (fun _ : Unit => true) (fun _ => cs) (fun φ => φ ()) := fun F σ H ok xh φ p Q k => wts pts_nil (k () F H ok.refl p)
theorem ts_1 {c : Expr} {vl : μ → Bool} {cs' : μ → List (Cell X.K)} {M : (μ → Prop) → Prop} (h : TK X Y c ρ cs vl cs' M) : TsK X Y [c] ρ cs vl cs' M := fun F σ H ok xh φ p Q k => wts (pts_one pt_w) (h F σ H ok xh φ p Q k)
def wipeS (ρ : List (Slot X.K)) : List Nat → List (Slot X.K)
  | [] => ρ
  | v :: vs => (wipeS ρ vs).set v .un
theorem wipe_prd {F : Hp} {σ : L2.St} (h : Prd (Slot.ok F) ρ σ) : ∀ vs : List Nat, Prd (Slot.ok F) (wipeS ρ vs) (wipe σ vs)
  | [] => h
  | v :: vs => (wipe_prd h vs).set (R := Slot.ok F) (x := .un) (u := none) trivial v
/-- no exception -/
abbrev Y0 (K : PySem.W.Frag) : Ec K := ⟨[], fun _ => False⟩
theorem xh0 {F H : Hp} {σ : L2.St} : Xh X (Y0 X.K) cs F σ H := ⟨fun _ _ _ _ => False, takes0, fun _ _ _ _ _ _ _ _ _ e => e.elim⟩
/-- the reading of a comprehension, its parts by their weakest readings -/
def gBlk (X : Cx) (tg : Expr) (scope : Scope) : TG := fun v σ H Q => ∀ (s : Shared) (H0 : Hp) (C : Addr) (cl : List (Str × Addr)) (fp : List Addr), WG (X.blk s H0 scope (compEnvC scope cl C X.env) fp) tg v σ H Q
def ttBlk (X : Cx) (ifs : List Expr) (scope : Scope) : TT := fun σ H Q => ∀ (s : Shared) (H0 : Hp) (C : Addr) (cl : List (Str × Addr)) (fp : List Addr), WTs (X.blk s H0 scope (compEnvC scope cl C X.env) fp) ifs σ H Q
def teBlk (X : Cx) (elt : Expr) (scope : Scope) : TE := fun σ H Q => ∀ (s : Shared) (H0 : Hp) (C : Addr) (cl : List (Str × Addr)) (fp : List Addr), WE (X.blk s H0 scope (compEnvC scope cl C X.env) fp) elt σ H Q
theorem pg_blk {tg : Expr} {scope : Scope} (s : Shared) (H : Hp) (C : Addr) (cl : List (Str × Addr)) (fp : List Addr) : PG (X.blk s H scope (compEnvC scope cl C X.env) fp) tg (gBlk X tg scope) := ⟨fun pins s' σ H1 v u Q I r h => h s H C cl fp pins s' u I r⟩
theorem pts_blk {ifs : List Expr} {scope : Scope} (s : Shared) (H : Hp) (C : Addr) (cl : List (Str × Addr)) (fp : List Addr) : PTs (X.blk s H scope (compEnvC scope cl C X.env) fp) ifs (ttBlk X ifs scope) := ⟨fun pins s' σ H1 Q I h => h s H C cl fp pins s' I⟩
theorem pe_blk {elt : Expr} {scope : Scope} (s : Shared) (H : Hp) (C : Addr) (cl : List (Str × Addr)) (fp : List Addr) : PE (X.blk s H scope (compEnvC scope cl C X.env) fp) elt (teBlk X elt scope) := ⟨fun pins s' σ H1 Q I h => h s H C cl fp pins s' I⟩
def tLcW (X : Cx) (elt tg iter : Expr) (ifs : List Expr) (scope : Scope) (own : List (Str × Nat)) : TE := tLc (WI X tg iter) (gBlk X tg scope) (ttBlk X ifs scope) (teBlk X elt scope) (own.map (·.2))
/-- a comprehension that makes a new list -/
def LcK (X : Cx) (Y : Ec X.K) (elt tg iter : Expr) (ifs : List Expr) (scope : Scope) (own : List (Str × Nat)) (ρ : List (Slot X.K)) (cs : List (Cell X.K)) {μ α : Type} (T : Ty X.K α) (vl : μ → List α) (cs' : μ → List (Cell X.K)) (M : (μ → Prop) → Prop) : Prop :=
  ∀ F σ H, Okc ρ cs F σ H → Xh X Y cs F σ H → ∀ φ : μ → Prop, M φ → ∀ Q : VK, (∀ y a vs F' H', Mv cs F H (cs' y) F' H' → H a = none → F' a = none → H' a = some (.lst vs) → (∀ c ∈ cs' y, c.a ≠ a) → Rl T F' vs (vl y) → vs.length ≤ sizeLine → φ y → Q (.ref a) H') → tLcW X elt tg iter ifs scope own σ H Q
theorem lc_k {elt tg iter : Expr} {ifs : List Expr} {scope : Scope} {own : List (Str × Nat)} {T : Ty X.K α} {U : Ty X.K γ} {xs : μ → List α} {cs1 : μ → List (Cell X.K)} {Mi : (μ → Prop) → Prop} {G : List (Slot X.K) → α → List (Slot X.K)} {vs : List Nat}
    {τ : β → α → Type} {υ : (z : β) → (x : α) → τ z x → Type} {cs' : β → List (Cell X.K)} {z0 : μ → β} {bt : (z : β) → (x : α) → τ z x → Bool} {s1 : (z : β) → (x : α) → τ z x → β} {Mt : (z : β) → (x : α) → (τ z x → Prop) → Prop}
    {vl : (z : β) → (x : α) → (y : τ z x) → υ z x y → γ} {s2 : (z : β) → (x : α) → (y : τ z x) → υ z x y → β} {Me : (z : β) → (x : α) → (y : τ z x) → (υ z x y → Prop) → Prop}
    (hi : IE X Y tg iter ρ cs T xs cs1 Mi) (hz : ∀ y, cs1 y = cs' (z0 y)) (hvs : ∀ j ∈ vs, j ∈ own.map (·.2))
    (hg : ∀ (s : Shared) (H : Hp) (C : Addr) (cl : List (Str × Addr)) (fp : List Addr), GK (X.blk s H scope (compEnvC scope cl C X.env) fp) tg T G vs)
    (ht : ∀ (s : Shared) (H : Hp) (C : Addr) (cl : List (Str × Addr)) (fp : List Addr) (z : β) (x : α), TsK (X.blk s H scope (compEnvC scope cl C X.env) fp) (Y0 X.K) ifs (G (wipeS ρ (own.map (·.2))) x) (cs' z) (bt z x) (fun y => cs' (s1 z x y)) (Mt z x))
    (he : ∀ (s : Shared) (H : Hp) (C : Addr) (cl : List (Str × Addr)) (fp : List Addr) (z : β) (x : α) (y : τ z x), EK (X.blk s H scope (compEnvC scope cl C X.env) fp) (Y0 X.K) elt (G (wipeS ρ (own.map (·.2))) x) (cs' (s1 z x y)) U (vl z x y) (fun u => cs' (s2 z x y u)) (Me z x y)) :
    LcK X Y elt tg iter ifs scope own ρ cs U (fun y : List γ × β => y.1) (fun y => cs' y.2) (fun φ => Mi fun w => ∃ I : Nat → List γ → β → Prop, I 0 [] (z0 w) ∧
      (∀ i acc z x, (xs w)[i]? = some x → I i acc z → Mt z x fun y => (bt z x y = true → Me z x y fun u => I (i + 1) (acc ++ [vl z x y u]) (s2 z x y u)) ∧ (bt z x y = false → I (i + 1) acc (s1 z x y))) ∧ ∀ acc z, I (xs w).length acc z → φ (acc, z)) := fun F σ H ok0 xh φ p Q k => by
  refine hi F σ H ok0 xh _ p _ fun w J F1 H1 m1 it hsz q => ?_
  obtain ⟨I, i0, iS, iE⟩ := q
  refine fun D hD => ⟨fun i m H2 => m = (xs w).length - i ∧ i ≤ (xs w).length ∧ ∃ z acc F2 us, Mv cs F H (cs' z) F2 H2 ∧ Same F1 F2 ∧ F2 D = none ∧ H2 D = some (.lst us) ∧ (∀ c ∈ cs' z, c.a ≠ D) ∧ Rl U F2 us acc ∧ us.length ≤ i ∧ I i acc z, ⟨(xs w).length, by simp, Nat.zero_le _, ?_⟩, ?_⟩
  · have hF : F1 D = none := by
      cases e : F1 D with
      | none => rfl
      | some u => rw [m1.fh _ _ e] at hD; cases hD
    have nD : ∀ c ∈ cs' (z0 w), c.a ≠ D := fun c hcm e => by
      rw [← hz] at hcm
      obtain ⟨_, o, e1, _⟩ := m1.cell c hcm
      rw [e, hD] at e1; cases e1
    refine ⟨z0 w, [], F1, [], ?_, Same.refl _, hF, upd_same, nD, .nil, Nat.zero_le _, i0⟩
    rw [← hz] at nD ⊢
    exact ⟨m1.ff, (fun b u e => by
        have : b ≠ D := fun z => by rw [z, hF] at e; cases e
        rw [upd_ne this]; exact m1.fh _ _ e), m1.fr, (fun b u e n => by
        have h1 := m1.kp b u e n
        have : b ≠ D := fun z => by rw [z, hD] at h1; cases h1
        rw [upd_ne this]; exact h1), (fun c hcm => by
        obtain ⟨n, o, e1, r⟩ := m1.cell c hcm
        exact ⟨n, o, by rw [upd_ne (nD c hcm)]; exact e1, r⟩), m1.nd, m1.nw, (fun c hcm e => by
        by_cases h : c.a = D
        · rw [h, upd_same] at e; cases e
        · rw [upd_ne h] at e; exact m1.st c hcm e)⟩
  · rintro i m H2 ⟨rfl, hil, z, acc, F2, us, m2, e12, hF2, hH2, nD, rl, hul, hI⟩
    have hHD : H D = none := by
      cases e : H D with
      | none => rfl
      | some u =>
        by_cases hx : ∃ c ∈ cs, c.a = D
        · obtain ⟨c, hcm, rfl⟩ := hx
          exact absurd hD (m1.st c hcm)
        · rw [m1.kp D u e fun c hcm e => hx ⟨c, hcm, e⟩] at hD; cases hD
    obtain ⟨go, stop⟩ := it i F2 H2 e12 m2.fh
    by_cases hlt : i < (xs w).length
    · obtain ⟨hgo, hy⟩ := go (xs w)[i] (List.getElem?_eq_getElem hlt)
      refine .inr ⟨hgo, fun H3 => ∃ z acc F3 us, Mv cs F H (cs' z) F3 H3 ∧ Same F1 F3 ∧ F3 D = none ∧ H3 D = some (.lst us) ∧ (∀ c ∈ cs' z, c.a ≠ D) ∧ Rl U F3 us acc ∧ us.length ≤ i + 1 ∧ I (i + 1) acc z, fun H3 h => ⟨(xs w).length - (i + 1), by omega, rfl, hlt, h⟩, fun v H3 hv => ?_⟩
      obtain ⟨F3, g3, rv⟩ := hy v H3 hv
      have ok2 : Okc ρ (cs' z) F2 σ H2 := ok0.mv m2
      have m23 := ok2.grow g3
      have ok3 := ok2.mv m23
      have step := iS i acc z (xs w)[i] (List.getElem?_eq_getElem hlt) hI
      -- D stands through whatever the cells do
      have keepD : ∀ {ca cb : List (Cell X.K)} {Fa Ha Fb Hb : Hp}, Mv ca Fa Ha cb Fb Hb → Fa D = none → Ha D = some (.lst us) → (∀ c ∈ ca, c.a ≠ D) → Fb D = none ∧ Hb D = some (.lst us) ∧ ∀ c ∈ cb, c.a ≠ D := fun {ca cb Fa Ha Fb Hb} mm h1 h2 h3 => by
        refine ⟨?_, mm.kp D _ h2 h3, fun c hcm e => ?_⟩
        · cases e : Fb D with
          | none => rfl
          | some u =>
            have := mm.fr D h1 (by rw [e]; simp)
            rw [h2] at this; cases this
        · rcases mm.nw c hcm with ⟨c0, h0, e0⟩ | h0
          · exact h3 c0 h0 (e0.trans e)
          · rw [e, h2] at h0; cases h0
      have d3 := keepD m23 hF2 hH2 nD
      intro s0 H0 C cl fp
      refine hg s0 H0 C cl fp F3 _ H3 v (xs w)[i] _ (wipe_prd ok3.env (own.map (·.2))) ok3.same rv _ ?_
      intro σ4 hρ4 hw4
      refine ⟨?_, ?_⟩
      · rw [hw4 _ hvs]
        have idem : ∀ (l l' : List Nat) (σ : L2.St), (∀ j ∈ l, j ∈ l') → wipe (wipe σ l) l' = wipe σ l' := by
          intro l
          induction l with
          | nil => intro l' σ _; rfl
          | cons j l ih =>
            intro l' σ h
            show wipe ((wipe σ l).set j none) l' = _
            rw [wipe_set l' _ (h j (by simp))]
            exact ih l' σ fun x hx => h x (List.mem_cons_of_mem _ hx)
        exact idem _ _ σ fun _ h => h
      have ok4 : Okc (G (wipeS ρ (own.map (·.2))) (xs w)[i]) (cs' z) F3 σ4 H3 := ⟨hρ4, ok3.same, ok3.cell, ok3.nd⟩
      intro s0 H0 C cl fp
      refine ht s0 H0 C cl fp z (xs w)[i] F3 σ4 H3 ok4 xh0 _ step _ fun y F5 H5 m5 q5 => ?_
      have d5 := keepD m5 d3.1 d3.2.1 d3.2.2
      have m05 := (m2.trans m23).trans m5
      cases hb : bt z (xs w)[i] y with
      | false =>
        exact (if_neg Bool.false_ne_true).mpr ⟨_, acc, F5, us, m05, (e12.trans g3.ff).trans m5.ff, d5.1, d5.2.1, d5.2.2, rl.mono (g3.ff.trans m5.ff), by omega, q5.2 hb⟩
      | true =>
        refine (if_pos rfl).mpr ?_
        intro s0 H0 C cl fp
        refine he s0 H0 C cl fp z (xs w)[i] y F5 σ4 H5 (ok4.mv m5) xh0 _ (q5.1 hb) _ fun u v6 F6 H6 m6 r6 q6 => ?_
        have d6 := keepD m6 d5.1 d5.2.1 d5.2.2
        refine ⟨us, d6.2.1, Nat.lt_of_le_of_lt hul (Nat.lt_of_lt_of_le hlt hsz), _, acc ++ [vl z (xs w)[i] y u], F6, us ++ [v6], ?_, ((e12.trans g3.ff).trans m5.ff).trans m6.ff, d6.1, upd_same, d6.2.2, Rl.append (rl.mono ((g3.ff.trans m5.ff).trans m6.ff)) (.cons r6 .nil), by rw [List.length_append, List.length_singleton]; omega, q6⟩
        have mm := m05.trans m6
        exact ⟨mm.ff, (fun b u e => by
            have : b ≠ D := fun z => by rw [z, d6.1] at e; cases e
            rw [upd_ne this]; exact mm.fh _ _ e), mm.fr, (fun b u e n => by
            have : b ≠ D := fun z => by rw [z, hHD] at e; cases e
            rw [upd_ne this]; exact mm.kp b u e n), (fun c hcm => by
            obtain ⟨n, o, e1, r⟩ := mm.cell c hcm
            exact ⟨n, o, by rw [upd_ne (d6.2.2 c hcm)]; exact e1, r⟩), mm.nd, mm.nw, (fun c hcm e => by
            by_cases h : c.a = D
            · rw [h, upd_same] at e; cases e
            · rw [upd_ne h] at e; exact mm.st c hcm e)⟩
    · refine .inl ⟨stop (by omega), ?_⟩
      have hl : i = (xs w).length := by omega
      exact k (acc, z) D us F2 H2 m2 hHD hF2 hH2 nD rl (by omega) (iE acc z (by rw [← hl]; exact hI))
/-- .. as a value -/
theorem ne_lc {elt tg iter : Expr} {ifs : List Expr} {scope : Scope} {own : List (Str × Nat)} {T : Ty X.K α} {vl : μ → List α} {cs' : μ → List (Cell X.K)} {M : (μ → Prop) → Prop} (hc : X.calm = true) (hN : X.N.Nodup) (ok : BlkOk X.N X.env.scope scope own) (h : LcK X Y elt tg iter ifs scope own ρ cs T vl cs' M)
    (hfo : ∀ x, foldedSetIterable iter X.env x = pure x := by intro _; rfl) : NE X Y (.ListComp elt [⟨tg, iter, ifs, 0⟩] scope pos) ρ cs T vl cs' M := fun F σ H ok0 xh φ p Q k =>
  we (pe_lc hc hN pi_w ok pg_blk pts_blk pe_blk hfo) (h F σ H ok0 xh φ p Q k)
/-- y = [..], frozen -/
theorem sk_setLc {i : Nat} {nm : Str} {py : Pos} {elt tg iter : Expr} {ifs : List Expr} {scope : Scope} {own : List (Str × Nat)} {T : Ty X.K α} {vl : μ → List α} {cs' : μ → List (Cell X.K)} {M : (μ → Prop) → Prop} {spos : Pos} {φ : μ → List α → Prop} (hc : X.calm = true) (hN : X.N.Nodup) (ok : BlkOk X.N X.env.scope scope own) (h : LcK X Y elt tg iter ifs scope own ρ cs T vl cs' M)
    (k : ∀ y z, SK X B Y fl rest (ρ.set i (.val (tL T) z)) (cs' y) D (φ y z)) (hy : X.N[i]? = some nm := by rfl) (hyl : X.env.scope.names.lookup nm = some .local := by rfl)
    (hsw : swapsWith (.ListComp elt [⟨tg, iter, ifs, 0⟩] scope pos) (some (.Name nm py)) spos.line X.env = pure true := by exact sw_true rfl rfl rfl (by decide +kernel))
    (hfo : ∀ x, foldedSetIterable iter X.env x = pure x := by intro _; rfl) :
    SK X B Y fl (.Assign [.Name nm py] (.ListComp elt [⟨tg, iter, ifs, 0⟩] scope pos) spos :: rest) ρ cs D (M fun y => ∀ z, z = vl y → φ y z) := fun F σ H ok0 p W tk hx' => by
  refine wb (pss_cons (ps_setLc hc hN hy hyl hsw pi_w ok pg_blk pts_blk pe_blk hfo) pss_w) ?_
  refine h F σ H ok0.c (xh_of ok0 tk hx') _ p _ fun y a vs F' H' m hH hF ho hn r z q => ?_
  have m2 := frz_mv m hH hF ho hn
  have ok1 := ok0.to m2
  exact k y (vl y) _ _ H' (ok1.set i ⟨a, vs, rfl, upd_same, r.mono (same_upd hF), z⟩) (q _ rfl) W tk hx'
/-! ### statements with cells -/
/-- x = a new owned list -/
theorem sk_setN {i : Nat} {nm : Str} {pos' : Pos} {T : Ty X.K α} {vl : μ → List α} {cs' : μ → List (Cell X.K)} {M : (μ → Prop) → Prop} {φ : μ → Addr → List α → Prop} (hN : X.N.Nodup) (he : NE X Y e ρ cs T vl cs' M) (k : ∀ y a z, SK X B Y fl rest (ρ.set i (.val tR a)) (cs' y ++ [⟨a, cL T z⟩]) D (φ y a z)) (hi : X.N[i]? = some nm := by rfl)
    (hx : Loc X.env.scope nm := by first | exact Or.inl rfl | exact Or.inr rfl)
    (hs : swapsWith e (some (.Name nm pos')) pos.line X.env = pure false := by rfl) (hf : X.fn nm = true ∨ X.env.scope.names.lookup nm = some .local := by first | exact .inl rfl | exact .inr rfl) :
    SK X B Y fl (.Assign [.Name nm pos'] e pos :: rest) ρ cs D (M fun y => ∀ a z, z = vl y → φ y a z) := fun F σ H ok p W tk hx' => by
  refine wb (pss_cons (ps_set hN hi hx pe_w hs hf) pss_w) ?_
  refine he F σ H ok.c (xh_of ok tk hx') _ p _ fun y a vs F' H' m hH hF ho hn r z q => ?_
  have ok1 := ok.to (new_mv m hH hF ho hn r z)
  exact k y a (vl y) F' _ H' (ok1.set (T := tR) i rfl) (q a _ rfl) W tk hx'
/-- a cell's content gets a name -/
theorem sk_name {st : List Stmt} {T : Ty X.K α} {l : Addr} {x : List α} {φ : List α → Prop} (j : Nat) (hc : cs[j]? = some ⟨l, cL T x⟩) (k : ∀ w, SK X B Y fl st ρ (cs.set j ⟨l, cL T w⟩) D (φ w)) : SK X B Y fl st ρ cs D (∀ w, w = x → φ w) := fun F σ H ok p W tk hx' => by
  have e : cs.set j ⟨l, cL T x⟩ = cs := by
    apply List.ext_getElem?
    intro n
    by_cases hn : j = n
    · subst hn
      rw [List.getElem?_set_self (List.getElem?_eq_some_iff.mp hc).1, hc]
    · rw [List.getElem?_set_ne hn]
  have q := k x
  rw [e] at q
  exact q F σ H ok (p x rfl) W tk hx'
/-- the cell at j is written no more: frozen; it was made here -/
theorem sk_freeze {st : List Stmt} {T : Ty X.K α} {l : Addr} {x : List α} {φ : Prop} (j i : Nat) (hc : cs[j]? = some ⟨l, cL T x⟩) (hρ : ρ[i]? = some (.val tR l)) (hB : (cs.map Cell.a).take B.cin.length = B.cin.map Cell.a) (hj : B.cin.length ≤ j) (k : SK X B Y fl st (ρ.set i (.val (tL T) x)) (cs.eraseIdx j) D φ) : SK X B Y fl st ρ cs D φ := fun F σ H ok p W tk hx' => by
  have hm : ⟨l, cL T x⟩ ∈ cs := List.mem_of_getElem? hc
  obtain ⟨hF, o, ho, vs, e, r, z⟩ := ok.mv.cell _ hm
  subst e
  have hlt : j < cs.length := (List.getElem?_eq_some_iff.mp hc).1
  have inj : ∀ (n : Nat) (d : Cell X.K), cs[n]? = some d → d.a = l → n = j := fun n d e z => by
    have e1 : (cs.map Cell.a)[n]? = some l := by rw [List.getElem?_map, e]; exact congrArg some z
    have e2 : (cs.map Cell.a)[j]? = some l := by rw [List.getElem?_map, hc]; rfl
    obtain ⟨h1, q1⟩ := List.getElem?_eq_some_iff.mp e1
    obtain ⟨h2, q2⟩ := List.getElem?_eq_some_iff.mp e2
    exact (List.getElem_inj ok.mv.nd).mp (q1.trans q2.symm)
  have notin : ∀ c ∈ B.cin, c.a ≠ l := fun c hcm e => by
    have h1 : c.a ∈ (cs.map Cell.a).take B.cin.length := by rw [hB]; exact List.mem_map.mpr ⟨c, hcm, rfl⟩
    obtain ⟨n, hn⟩ := List.getElem?_of_mem h1
    have hnl : n < B.cin.length := by
      have := (List.getElem?_eq_some_iff.mp hn).1
      rw [List.length_take] at this
      omega
    rw [List.getElem?_take_of_lt hnl, List.getElem?_map] at hn
    cases q : cs[n]? with
    | none => rw [q] at hn; cases hn
    | some d =>
      rw [q] at hn
      have : n = j := inj n d q ((Option.some.inj hn).trans e)
      omega
  have fresh : B.H0 l = none := by
    rcases ok.mv.nw _ hm with ⟨c0, h0, e0⟩ | h0
    · exact absurd e0 (notin c0 h0)
    · exact h0
  have sF : Same F (upd F l (.lst vs)) := same_upd hF
  have rest_ne : ∀ c ∈ cs.eraseIdx j, c ∈ cs ∧ c.a ≠ l := fun c hcm => by
    refine ⟨List.mem_of_mem_eraseIdx hcm, fun e => ?_⟩
    obtain ⟨n, hn⟩ := List.getElem?_of_mem hcm
    rw [List.getElem?_eraseIdx] at hn
    split at hn
    · have := inj n c hn e; omega
    · have := inj (n + 1) c hn e; omega
  have ok2 : Ok B fl (ρ.set i (.val (tL T) x)) (cs.eraseIdx j) (upd F l (.lst vs)) σ H := by
    obtain ⟨u, hu, hs⟩ := ok.env.get hρ
    obtain ⟨v, ev, rv⟩ := hs
    subst ev
    have hv : v = .ref l := rv
    subst hv
    have e1 : σ.set i (some (.ref l)) = σ := by
      apply List.ext_getElem?
      intro n
      by_cases hn : i = n
      · subst hn
        rw [List.getElem?_set_self (List.getElem?_eq_some_iff.mp hu).1, hu]
      · rw [List.getElem?_set_ne hn]
    have env2 : Prd (Slot.ok (upd F l (.lst vs))) (ρ.set i (.val (tL T) x)) (σ.set i (some (.ref l))) :=
      (ok.env.mono fun _ _ r => r.mono sF).set (R := Slot.ok (upd F l (.lst vs))) (x := .val (tL T) x) (u := some (.ref l)) ⟨_, rfl, l, vs, rfl, upd_same, r.mono sF, z⟩ i
    rw [e1] at env2
    refine ⟨env2, ⟨ok.mv.ff.trans sF, fun b u e => ?_, fun b h1 h2 => ?_, ok.mv.kp, fun c hcm => ?_, ?_, fun c hcm => ok.mv.nw c (rest_ne c hcm).1, ok.mv.st⟩, ok.flo.trans sF⟩
    · by_cases h : b = l
      · subst h; rw [upd_same] at e; cases e; exact ho
      · rw [upd_ne h] at e; exact ok.mv.fh _ _ e
    · by_cases h : b = l
      · subst h; exact fresh
      · rw [upd_ne h] at h2; exact ok.mv.fr b h1 h2
    · obtain ⟨hcm, hne⟩ := rest_ne c hcm
      obtain ⟨n, o, e, r⟩ := ok.mv.cell c hcm
      exact ⟨by rw [upd_ne hne]; exact n, o, e, c.ck.mono sF r⟩
    · exact ok.mv.nd.sublist ((List.eraseIdx_sublist _ _).map _)
  exact k _ σ H ok2 p W tk hx'
/-- return, the value as it is -/
theorem sk_retF {A γ : Type} {ins : A → List (Slot X.K)} {T : Ty X.K γ} {pre : A → Prop} {f : A → γ} {a : A} {ψ : γ → Prop} {n b' c' : L2.St → Hp → Prop} {x : γ} {P : Prop} {r : List Stmt} (he : PK X e ρ [] T x P) :
    SK X B Y fl (.Return (some e) pos :: r) ρ [] { retD (Con.fn ins T pre f) a B ψ with nx := n, bk := b', ct := c' } (P ∧ ψ x) := sk_ret (C := Con.fn ins T pre f) x he rfl rfl
end
end MD
namespace MD
open PySem PySem.Spec PyProof.Rows L2
section
variable {X : Cx} {fl : Hp} {B : Hb X.K} {Y : Ec X.K} {ρ : List (Slot X.K)} {cs : List (Cell X.K)} {A R α β γ μ ν : Type} {pos : Pos} {rest : List Stmt} {D : Ends} {e : Expr}
/-! ### contracts with one owned list -/
/-- from the callee's cells to the caller's: the cell at j goes, the further ones come behind -/
theorem mv_one {F H F' H' : Hp} {j : Nat} {c c' : Cell X.K} {more : List (Cell X.K)} (ok : Okc ρ cs F σ H) (hc : cs[j]? = some c) (ha : c'.a = c.a) (m : Mv [c] F H (c' :: more) F' H') : Mv cs F H (cs.set j c' ++ more) F' H' := by
  have hj : j < cs.length := (List.getElem?_eq_some_iff.mp hc).1
  have hm : c ∈ cs := List.mem_of_getElem? hc
  have map_eq : (cs.set j c').map Cell.a = cs.map Cell.a := by
    rw [List.map_set]
    apply List.ext_getElem?
    intro n
    by_cases hn : j = n
    · subst hn
      rw [List.getElem?_set_self (by simpa using hj), List.getElem?_map, hc, ha]
      rfl
    · rw [List.getElem?_set_ne hn]
  have others : ∀ (n : Nat) (d : Cell X.K), n ≠ j → cs[n]? = some d → d.a ≠ c.a := fun n d hn e z => by
    have e1 : (cs.map Cell.a)[n]? = some c.a := by rw [List.getElem?_map, e]; exact congrArg some z
    have e2 : (cs.map Cell.a)[j]? = some c.a := by rw [List.getElem?_map, hc]; rfl
    obtain ⟨h1, q1⟩ := List.getElem?_eq_some_iff.mp e1
    obtain ⟨h2, q2⟩ := List.getElem?_eq_some_iff.mp e2
    exact hn ((List.getElem_inj ok.nd).mp (q1.trans q2.symm))
  have newa : ∀ d ∈ more, H d.a = none := fun d hd => by
    rcases m.nw d (List.mem_cons_of_mem _ hd) with ⟨c0, h0, e0⟩ | h0
    · obtain rfl := List.mem_singleton.mp h0
      have nd := m.nd
      rw [List.map_cons, List.nodup_cons] at nd
      exact absurd (List.mem_map.mpr ⟨d, hd, e0.symm.trans ha.symm⟩) nd.1
    · exact h0
  -- the cells that were not handed
  have old : ∀ d ∈ cs, d.a ≠ c.a → F' d.a = none ∧ ∃ o, H' d.a = some o ∧ d.ck.rep F' o := fun d hd hne => by
    obtain ⟨n, o, e, r⟩ := ok.cell d hd
    refine ⟨?_, o, m.kp d.a o e (fun c0 h0 z => ?_), d.ck.mono m.ff r⟩
    · cases q : F' d.a with
      | none => rfl
      | some u =>
        have := m.fr d.a n (by rw [q]; simp)
        rw [e] at this; cases this
    · obtain rfl := List.mem_singleton.mp h0
      exact hne z.symm
  refine ⟨m.ff, m.fh, m.fr, fun b o e n => m.kp b o e fun c0 h0 => ?_, fun d hd => ?_, ?_, fun d hd => ?_, fun d hd => ?_⟩
  · obtain rfl := List.mem_singleton.mp h0
    exact n _ hm
  · rcases List.mem_append.mp hd with hd | hd
    · obtain ⟨n, e⟩ := List.getElem?_of_mem hd
      by_cases hn : n = j
      · subst hn
        rw [List.getElem?_set_self hj] at e
        cases e
        exact m.cell _ List.mem_cons_self
      · rw [List.getElem?_set_ne (Ne.symm hn)] at e
        exact old d (List.mem_of_getElem? e) (others n d hn e)
    · exact m.cell d (List.mem_cons_of_mem _ hd)
  · rw [List.map_append, map_eq]
    have nd := m.nd
    rw [List.map_cons, List.nodup_cons] at nd
    refine List.nodup_append.mpr ⟨ok.nd, nd.2, fun x hx y hy e => ?_⟩
    obtain ⟨d, hd, rfl⟩ := List.mem_map.mp hx
    obtain ⟨d', hd', rfl⟩ := List.mem_map.mp hy
    obtain ⟨_, o, e1, _⟩ := ok.cell d hd
    rw [e, newa d' hd'] at e1; cases e1
  · rcases List.mem_append.mp hd with hd | hd
    · obtain ⟨n, e⟩ := List.getElem?_of_mem hd
      by_cases hn : n = j
      · subst hn
        rw [List.getElem?_set_self hj] at e
        cases e
        exact .inl ⟨c, hm, ha.symm⟩
      · rw [List.getElem?_set_ne (Ne.symm hn)] at e
        exact .inl ⟨d, List.mem_of_getElem? e, rfl⟩
    · exact .inr (newa d hd)
  · by_cases hne : d.a = c.a
    · rw [hne]; exact m.st c (by simp)
    · intro z
      obtain ⟨_, o, e, _⟩ := old d hd hne
      rw [e] at z; cases z
theorem mv_zero {F H F' H' : Hp} {σ : L2.St} {more : List (Cell X.K)} (ok : Okc ρ cs F σ H) (m : Mv [] F H more F' H') : Mv cs F H (cs ++ more) F' H' := by
  have newa : ∀ d ∈ more, H d.a = none := fun d hd => by
    rcases m.nw d hd with ⟨c0, h0, _⟩ | h0
    · cases h0
    · exact h0
  have old : ∀ d ∈ cs, F' d.a = none ∧ ∃ o, H' d.a = some o ∧ d.ck.rep F' o := fun d hd => by
    obtain ⟨n, o, e, r⟩ := ok.cell d hd
    refine ⟨?_, o, m.kp d.a o e (fun c0 h0 => (by cases h0)), d.ck.mono m.ff r⟩
    cases q : F' d.a with
    | none => rfl
    | some u =>
      have := m.fr d.a n (by rw [q]; simp)
      rw [e] at this; cases this
  refine ⟨m.ff, m.fh, m.fr, fun b o e n => m.kp b o e (fun c0 h0 => (by cases h0)), fun d hd => ?_, ?_, fun d hd => ?_, fun d hd z => ?_⟩
  · rcases List.mem_append.mp hd with hd | hd
    · exact old d hd
    · exact m.cell d hd
  · rw [List.map_append]
    refine List.nodup_append.mpr ⟨ok.nd, m.nd, fun x hx y hy e => ?_⟩
    obtain ⟨d, hd, rfl⟩ := List.mem_map.mp hx
    obtain ⟨d', hd', rfl⟩ := List.mem_map.mp hy
    obtain ⟨_, o, e1, _⟩ := ok.cell d hd
    rw [e, newa d' hd'] at e1; cases e1
  · rcases List.mem_append.mp hd with hd | hd
    · exact .inl ⟨d, hd, rfl⟩
    · exact .inr (newa d hd)
  · obtain ⟨_, o, e, _⟩ := old d hd
    rw [e] at z; cases z
/-! ### effects in arguments and operands -/
theorem ak_1 {T : Ty X.K α} {vl : μ → α} {cs' : μ → List (Cell X.K)} {M : (μ → Prop) → Prop} (h : EK X Y e ρ cs T vl cs' M) (hs : starEach (e :: []) X.env = (false, eval e X.env) :: starEach [] X.env := by rfl) : AK X Y [e] ρ cs (ts1 T) vl cs' M := fun F σ H ok xh φ p Q k => by
  refine wa (pa_cons pe_w pa_nil hs) ?_
  exact h F σ H ok xh φ p _ fun y v F1 H1 m r q => k y [v] F1 H1 m ⟨v, rfl, r⟩ q
theorem ak_C {es : List Expr} {T : Ty X.K α} {Ts : Tys X.K β} {vl : μ → α} {cs1 : μ → List (Cell X.K)} {M : (μ → Prop) → Prop} {vl2 : μ → ν → β} {cs2 : μ → ν → List (Cell X.K)} {M2 : μ → (ν → Prop) → Prop} (h : EK X Y e ρ cs T vl cs1 M) (hr : ∀ y, AK X Y es ρ (cs1 y) Ts (vl2 y) (cs2 y) (M2 y))
    (hs : starEach (e :: es) X.env = (false, eval e X.env) :: starEach es X.env := by rfl) : AK X Y (e :: es) ρ cs (tsC T Ts) (fun y : μ × ν => (vl y.1, vl2 y.1 y.2)) (fun y => cs2 y.1 y.2) (fun φ => M fun y => M2 y fun u => φ (y, u)) := fun F σ H ok xh φ p Q k => by
  refine wa (pa_cons pe_w pa_w hs) ?_
  refine h F σ H ok xh _ p _ fun y v F1 H1 m r q => ?_
  refine hr y F1 σ H1 (ok.mv m) (xh.mv m) _ q _ fun u w F2 H2 m2 r2 q2 => ?_
  exact k (y, u) (v :: w) F2 H2 (m.trans m2) ⟨v, w, rfl, T.mono m2.ff r, r2⟩ q2
theorem ek_op {op : Operator} {a b : Expr} {r : R2} {T1 : Ty X.K α} {T2 : Ty X.K β} {T3 : Ty X.K γ} {C : α → β → Prop} {f : α → β → γ} {vl : μ → α} {cs1 : μ → List (Cell X.K)} {M : (μ → Prop) → Prop} {vl2 : μ → ν → β} {cs2 : μ → ν → List (Cell X.K)} {M2 : μ → (ν → Prop) → Prop} (ho : OpR X (binaryOp op) r) (hr : R2K r T1 T2 T3 C f)
    (ha : EK X Y a ρ cs T1 vl cs1 M) (hb : ∀ y, EK X Y b ρ (cs1 y) T2 (vl2 y) (cs2 y) (M2 y)) : EK X Y (.BinOp a op b pos) ρ cs T3 (fun y : μ × ν => f (vl y.1) (vl2 y.1 y.2)) (fun y => cs2 y.1 y.2) (fun φ => M fun y => M2 y fun u => C (vl y) (vl2 y u) ∧ φ (y, u)) := fun F σ H ok xh φ p Q k => by
  refine we (pe_op ho pe_w pe_w) ?_
  refine ha F σ H ok xh _ p _ fun y v F1 H1 m1 r1 q1 => ?_
  have ok1 := ok.mv m1
  refine hb y F1 σ H1 ok1 (xh.mv m1) _ q1 _ fun u w F2 H2 m2 r2 q2 => ?_
  exact hr F2 H2 v w _ _ m2.fh (T1.mono m2.ff r1) r2 q2.1 Q fun z F3 H3 g3 r3 => k (y, u) z F3 H3 ((m1.trans m2).trans ((ok1.mv m2).grow g3)) r3 q2.2
theorem tk_cmp {op : CmpOp} {a b : Expr} {r : R2} {T1 : Ty X.K α} {T2 : Ty X.K β} {C : α → β → Prop} {f : α → β → Bool} {vl : μ → α} {cs1 : μ → List (Cell X.K)} {M : (μ → Prop) → Prop} {vl2 : μ → ν → β} {cs2 : μ → ν → List (Cell X.K)} {M2 : μ → (ν → Prop) → Prop} (ho : OpR X (compareOp op) r) (hr : R2K r T1 T2 tB C f)
    (ha : EK X Y a ρ cs T1 vl cs1 M) (hb : ∀ y, EK X Y b ρ (cs1 y) T2 (vl2 y) (cs2 y) (M2 y)) (hm : behindInMarks op b = false := by first | exact nomark _ | rfl) : TK X Y (.Compare a [op] [b] pos) ρ cs (fun y : μ × ν => f (vl y.1) (vl2 y.1 y.2)) (fun y => cs2 y.1 y.2) (fun φ => M fun y => M2 y fun u => C (vl y) (vl2 y u) ∧ φ (y, u)) := fun F σ H ok xh φ p Q k => by
  refine wt (pt_cmpR ho pe_w pe_w hm) ?_
  refine ha F σ H ok xh _ p _ fun y v F1 H1 m1 r1 q1 => ?_
  have ok1 := ok.mv m1
  refine hb y F1 σ H1 ok1 (xh.mv m1) _ q1 _ fun u w F2 H2 m2 r2 q2 => ?_
  exact hr F2 H2 v w _ _ m2.fh (T1.mono m2.ff r1) r2 q2.1 _ fun z F3 H3 g3 r3 => ⟨_, r3, k (y, u) F3 H3 ((m1.trans m2).trans ((ok1.mv m2).grow g3)) q2.2⟩
theorem ek_ixL [Inhabited α] {a b : Expr} {T : Ty X.K α} {vl : μ → List α} {cs1 : μ → List (Cell X.K)} {M : (μ → Prop) → Prop} {vl2 : μ → ν → Int} {cs2 : μ → ν → List (Cell X.K)} {M2 : μ → (ν → Prop) → Prop} (ha : EK X Y a ρ cs (tL T) vl cs1 M) (hb : ∀ y, EK X Y b ρ (cs1 y) tI (vl2 y) (cs2 y) (M2 y)) (hs : PlainIx b := by exact fun _ _ => rfl) :
    EK X Y (.Subscript a b pos) ρ cs T (fun y : μ × ν => pyIx (vl y.1) (vl2 y.1 y.2)) (fun y => cs2 y.1 y.2) (fun φ => M fun y => M2 y fun u => IxOk (vl y) (vl2 y u) ∧ φ (y, u)) := fun F σ H ok xh φ p Q k => by
  refine we (pe_ix ix_list pe_w pe_w hs) ?_
  refine ha F σ H ok xh _ p _ fun y v F1 H1 m1 ⟨q, vs, e1, hq, r, z⟩ q1 => ?_
  refine hb y F1 σ H1 (ok.mv m1) (xh.mv m1) _ q1 _ fun u w F2 H2 m2 r2 q2 => ?_
  obtain ⟨x, hx, rx⟩ := rl_atI (Rl.mono m2.ff r) q2.1
  exact ⟨q, vs, _, x, e1, r2, SqL.of ((m2.ff.trans m2.fh) _ _ hq), hx, k (y, u) x F2 H2 (m1.trans m2) rx q2.2⟩
end
end MD
/-! MDs: sets of texts made of a list, and sorted. -/
namespace MD
open PySem PySem.Spec PyProof.Rows L2
/-- the text of an entry -/
def txtOf (e : Int × Value) : Str := match e.2 with | .str k _ => k | _ => Str.empty
def TxtE (P : Program) (w : World) (e : Int × Value) : Prop := ∃ k tk, e.2 = Value.str k tk ∧ e.1 = (strKind P w).hash k
/-- at a lies a set of just the texts L -/
def SetX (P : Program) (w : World) (h : Heap) (a : Addr) (L : List Str) : Prop :=
  ∃ o es ep t, h.get? a = some o ∧ o.ExactSet ∧ o.data = .set es ep t ∧ (∀ e ∈ es.toList, TxtE P w e) ∧ es.toList.map txtOf = L ∧ L.Nodup ∧
    es.size < scanBound ∧ t.fits es.size = true ∧ Ris t.place.toList ∧ (w.params.followText "set-order" = true ∨ t.led = true)
section
variable {P : Program} {w : World} {h h' : Heap} {a : Addr} {L : List Str}
theorem SetX.keep (R : SetX P w h a L) (k : ∀ o, h.get? a = some o → h'.get? a = some o) : SetX P w h' a L :=
  let ⟨o, es, ep, t, ho, r⟩ := R; ⟨o, es, ep, t, k o ho, r⟩
theorem SetX.len (R : SetX P w h a L) : ∃ o es ep t, h.get? a = some o ∧ o.data = .set es ep t ∧ es.size = L.length := by
  obtain ⟨o, es, ep, t, ho, _, hd, _, hL, _⟩ := R
  exact ⟨o, es, ep, t, ho, hd, by rw [← hL, List.length_map, Array.length_toList]⟩
end
end MD
namespace MD
open PySem PySem.Spec PyProof.Rows L2
/-! ### views: what is seen of a value at a moment -/
abbrev Vw := Hp → Hp → V → Prop
section
variable {K : PySem.W.Frag} {α β γ : Type}
def sv (T : Ty K α) (x : α) : Vw := fun F _ v => T.rep F v x
/-- a list that stands, frozen or owned -/
def rL (T : Ty K α) (xs : List α) : Vw := fun F H v => ∃ a vs, v = .ref a ∧ H a = some (.lst vs) ∧ Rl T F vs xs ∧ vs.length ≤ sizeLine
/-- .. or known -/
def rK (T : Ty K α) (xs : List α) : Vw := fun F H v => ∃ a vs, v = .ref a ∧ SqL K H a vs ∧ Rl T F vs xs ∧ vs.length ≤ sizeLine
def rU (T : Ty K α) (xs : List α) : Vw := fun F H v => ∃ a vs, v = .ref a ∧ Rd H a (.tup vs) ∧ Rl T F vs xs ∧ vs.length ≤ sizeLine
def rQ (T : Ty K α) (xs : List α) : Vw := fun F H v => ∃ a vs, v = .ref a ∧ (SqL K H a vs ∨ SqT K H a vs) ∧ Rl T F vs xs ∧ vs.length ≤ sizeLine
/-- it stays while things grow -/
def Stays (S : Vw) : Prop := ∀ F H F' H' v, Grow F H F' H' → S F H v → S F' H' v
theorem sv_stays {T : Ty K α} {x : α} : Stays (sv T x) := fun F H F' H' v g h => T.mono g.ff h
end
section
variable {X : Cx} {fl : Hp} {B : Hb X.K} {Y : Ec X.K} {ρ : List (Slot X.K)} {cs : List (Cell X.K)} {A R α β γ μ ν : Type} {pos : Pos} {rest : List Stmt} {D : Ends} {e : Expr}
def PV (X : Cx) (e : Expr) (ρ : List (Slot X.K)) (cs : List (Cell X.K)) (S : Vw) (P : Prop) : Prop :=
  ∀ F σ H, Okw ρ cs F σ H → P → ∀ Q : VK, (∀ v F' H', Grow F H F' H' → S F' H' v → Q v H') → WE X e σ H Q
def EV (X : Cx) (Y : Ec X.K) (e : Expr) (ρ : List (Slot X.K)) (cs : List (Cell X.K)) {μ : Type} (S : μ → Vw) (cs' : μ → List (Cell X.K)) (M : (μ → Prop) → Prop) : Prop :=
  ∀ F σ H, Okc ρ cs F σ H → Xh X Y cs F σ H → ∀ φ : μ → Prop, M φ → ∀ Q : VK, (∀ y v F' H', Mv cs F H (cs' y) F' H' → S y F' H' v → φ y → Q v H') → WE X e σ H Q
theorem PK.v {T : Ty X.K α} {x : α} {P : Prop} (h : PK X e ρ cs T x P) : PV X e ρ cs (sv T x) P := h
theorem PV.k {T : Ty X.K α} {x : α} {P : Prop} (h : PV X e ρ cs (sv T x) P) : PK X e ρ cs T x P := h
theorem EK.v {T : Ty X.K α} {vl : μ → α} {cs' : μ → List (Cell X.K)} {M : (μ → Prop) → Prop} (h : EK X Y e ρ cs T vl cs' M) : EV X Y e ρ cs (fun y => sv T (vl y)) cs' M := h
theorem EV.k {T : Ty X.K α} {vl : μ → α} {cs' : μ → List (Cell X.K)} {M : (μ → Prop) → Prop} (h : EV X Y e ρ cs (fun y => sv T (vl y)) cs' M) : EK X Y e ρ cs T vl cs' M := h
theorem PV.to {S S' : Vw} {P C : Prop} (h : PV X e ρ cs S P) (k : ∀ F H v, Same F H → S F H v → S' F H v) : PV X e ρ cs S' P := fun F σ H ok p Q q => h F σ H ok p Q fun v F' H' g s => q v F' H' g (k F' H' v g.fh s)
theorem EV.to {S S' : μ → Vw} {cs' : μ → List (Cell X.K)} {M : (μ → Prop) → Prop} (h : EV X Y e ρ cs S cs' M) (k : ∀ y F H v, Same F H → S y F H v → S' y F H v) : EV X Y e ρ cs S' cs' M := fun F σ H ok xh φ p Q q => h F σ H ok xh φ p Q fun y v F' H' m s => q y v F' H' m (k y F' H' v m.fh s)
/-! lists, frozen and owned -/
theorem PK.l {T : Ty X.K α} {xs : List α} {P : Prop} (h : PK X e ρ cs (tL T) xs P) : PV X e ρ cs (rL T xs) P := fun F σ H ok p Q q => h F σ H ok p Q fun v F' H' g ⟨a, vs, h1, h2, h3, h4⟩ => q v F' H' g ⟨a, vs, h1, g.fh _ _ h2, h3, h4⟩
theorem PK.lk {T : Ty X.K α} {xs : List α} {P : Prop} (h : PK X e ρ cs (tLK T) xs P) : PV X e ρ cs (rK T xs) P := fun F σ H ok p Q q => h F σ H ok p Q fun v F' H' g ⟨a, vs, h1, h2, h3, h4⟩ => q v F' H' g ⟨a, vs, h1, g.fh.seq h2, h3, h4⟩
theorem PK.u {T : Ty X.K α} {xs : List α} {P : Prop} (h : PK X e ρ cs (tU T) xs P) : PV X e ρ cs (rU T xs) P := fun F σ H ok p Q q => h F σ H ok p Q fun v F' H' g ⟨a, vs, h1, h2, h3, h4⟩ => q v F' H' g ⟨a, vs, h1, same_rd g.fh h2, h3, h4⟩
theorem PK.own {T : Ty X.K α} {l : Addr} {xs : List α} {P : Prop} (j : Nat) (h : PK X e ρ cs tR l P) (hc : cs[j]? = Option.some ⟨l, cL T xs⟩) : PV X e ρ cs (rL T xs) P := fun F σ H ok p Q q => h F σ H ok p Q fun v F' H' g h1 => by
  obtain ⟨o, ho, vs, e, r, z⟩ := (ok.grow g).cell _ (List.mem_of_getElem? hc)
  subst e
  exact q v F' H' g ⟨l, vs, h1, ho, r, z⟩
theorem EK.l {T : Ty X.K α} {vl : μ → List α} {cs' : μ → List (Cell X.K)} {M : (μ → Prop) → Prop} (h : EK X Y e ρ cs (tL T) vl cs' M) : EV X Y e ρ cs (fun y => rL T (vl y)) cs' M := fun F σ H ok xh φ p Q q => h F σ H ok xh φ p Q fun y v F' H' m ⟨a, vs, h1, h2, h3, h4⟩ => q y v F' H' m ⟨a, vs, h1, m.fh _ _ h2, h3, h4⟩
theorem NE.l {T : Ty X.K α} {vl : μ → List α} {cs' : μ → List (Cell X.K)} {M : (μ → Prop) → Prop} (h : NE X Y e ρ cs T vl cs' M) : EV X Y e ρ cs (fun y => rL T (vl y)) cs' M := h.ek.l
theorem NK.l {T : Ty X.K α} {xs : List α} {P : Prop} (h : NK X e ρ cs T xs P) : PV X e ρ cs (rL T xs) P := h.pk.l
theorem PV.lk {T : Ty X.K α} {xs : List α} {P : Prop} (h : PV X e ρ cs (rL T xs) P) : PV X e ρ cs (rK T xs) P := PV.to (C := True) h fun F H v _ ⟨a, vs, h1, h2, h3, h4⟩ => ⟨a, vs, h1, SqL.of h2, h3, h4⟩
theorem PV.q {T : Ty X.K α} {xs : List α} {P : Prop} (h : PV X e ρ cs (rL T xs) P) : PV X e ρ cs (rQ T xs) P := PV.to (C := True) h fun F H v _ ⟨a, vs, h1, h2, h3, h4⟩ => ⟨a, vs, h1, .inl (SqL.of h2), h3, h4⟩
theorem PV.kq {T : Ty X.K α} {xs : List α} {P : Prop} (h : PV X e ρ cs (rK T xs) P) : PV X e ρ cs (rQ T xs) P := PV.to (C := True) h fun F H v _ ⟨a, vs, h1, h2, h3, h4⟩ => ⟨a, vs, h1, .inl h2, h3, h4⟩
theorem PV.uq {T : Ty X.K α} {xs : List α} {P : Prop} (h : PV X e ρ cs (rU T xs) P) : PV X e ρ cs (rQ T xs) P := PV.to (C := True) h fun F H v _ ⟨a, vs, h1, h2, h3, h4⟩ => ⟨a, vs, h1, .inr (.inl h2), h3, h4⟩
theorem EV.lk {T : Ty X.K α} {vl : μ → List α} {cs' : μ → List (Cell X.K)} {M : (μ → Prop) → Prop} (h : EV X Y e ρ cs (fun y => rL T (vl y)) cs' M) : EV X Y e ρ cs (fun y => rK T (vl y)) cs' M := h.to fun y F H v _ ⟨a, vs, h1, h2, h3, h4⟩ => ⟨a, vs, h1, SqL.of h2, h3, h4⟩
theorem EV.q {T : Ty X.K α} {vl : μ → List α} {cs' : μ → List (Cell X.K)} {M : (μ → Prop) → Prop} (h : EV X Y e ρ cs (fun y => rL T (vl y)) cs' M) : EV X Y e ρ cs (fun y => rQ T (vl y)) cs' M := h.to fun y F H v _ ⟨a, vs, h1, h2, h3, h4⟩ => ⟨a, vs, h1, .inl (SqL.of h2), h3, h4⟩
/-! ### a built-in function of one thing -/
/-- from a view to a view -/
def U1 (r : List V → Hp → VK → Prop) (S : Vw) (C : Prop) (S' : Vw) : Prop := ∀ F H v, Same F H → S F H v → C → ∀ Q : VK, (∀ z F' H', Grow F H F' H' → S' F' H' z → Q z H') → r [v] H Q
/-- .. to a new list -/
def UN {K : PySem.W.Frag} (r : List V → Hp → VK → Prop) (S : Vw) (C : Prop) (T : Ty K α) (xs : List α) : Prop := ∀ F H v, Same F H → S F H v → C → ∀ Q : VK, (∀ a vs, H a = none → Rl T F vs xs → vs.length ≤ sizeLine → Q (.ref a) (upd H a (.lst vs))) → r [v] H Q
section
variable {nm : Str} {p : Pos} {id : String} {r : List V → Hp → VK → Prop} {S S' : Vw} {P C : Prop} {Se Se' : μ → Vw} {Ce : μ → Prop} {cs' : μ → List (Cell X.K)} {M : (μ → Prop) → Prop}
theorem pv_cb (hc : CallR X (.builtin id) r) (hm : X.mg nm = none) (hv : bootBuiltins nm = some (.builtin id)) (hr : U1 r S C S') (h : PV X e ρ cs S P) (hg : Gl X nm := by rfl) (hn : nm ≠ "__name__" := by decide) (hdb : (nm == ("__debug__" : Str)) = false := by decide)
    (he : starEach (e :: []) X.env = (false, eval e X.env) :: starEach [] X.env := by rfl) (hpl : (backTo pos (starEach [] X.env)).any (·.1) = false := by rfl) : PV X (.Call (.Name nm p) [e] [] pos) ρ cs S' (P ∧ C) := fun F σ H ok q Q k => by
  refine we (pe_callB hc hg hm hv (pa_cons pe_w pa_nil he) hn hdb he hpl) ?_
  refine h F σ H ok q.1 _ fun v F1 H1 g1 s => ?_
  exact hr F1 H1 v g1.fh s q.2 Q fun z F2 H2 g2 s2 => k z F2 H2 (g1.trans g2) s2
theorem pv_ct (hc : CallR X (.type id) r) (hm : X.mg nm = none) (hv : bootBuiltins nm = some (.type id)) (hr : U1 r S C S') (h : PV X e ρ cs S P) (hg : Gl X nm := by rfl) (hn : nm ≠ "__name__" := by decide) (hdb : (nm == ("__debug__" : Str)) = false := by decide)
    (he : starEach (e :: []) X.env = (false, eval e X.env) :: starEach [] X.env := by rfl) (hpl : (backTo pos (starEach [] X.env)).any (·.1) = false := by rfl) : PV X (.Call (.Name nm p) [e] [] pos) ρ cs S' (P ∧ C) := fun F σ H ok q Q k => by
  refine we (pe_callTy hc hg hm hv (pa_cons pe_w pa_nil he) hn hdb he hpl) ?_
  refine h F σ H ok q.1 _ fun v F1 H1 g1 s => ?_
  exact hr F1 H1 v g1.fh s q.2 Q fun z F2 H2 g2 s2 => k z F2 H2 (g1.trans g2) s2
theorem ev_cb (hc : CallR X (.builtin id) r) (hm : X.mg nm = none) (hv : bootBuiltins nm = some (.builtin id)) (hr : ∀ y, U1 r (Se y) (Ce y) (Se' y)) (h : EV X Y e ρ cs Se cs' M) (hg : Gl X nm := by rfl) (hn : nm ≠ "__name__" := by decide) (hdb : (nm == ("__debug__" : Str)) = false := by decide)
    (he : starEach (e :: []) X.env = (false, eval e X.env) :: starEach [] X.env := by rfl) (hpl : (backTo pos (starEach [] X.env)).any (·.1) = false := by rfl) : EV X Y (.Call (.Name nm p) [e] [] pos) ρ cs Se' cs' (fun φ => M fun y => Ce y ∧ φ y) := fun F σ H ok xh φ q Q k => by
  refine we (pe_callB hc hg hm hv (pa_cons pe_w pa_nil he) hn hdb he hpl) ?_
  refine h F σ H ok xh _ q _ fun y v F1 H1 m1 s q1 => ?_
  exact hr y F1 H1 v m1.fh s q1.1 Q fun z F2 H2 g2 s2 => k y z F2 H2 (m1.trans ((ok.mv m1).grow g2)) s2 q1.2
theorem ev_ct (hc : CallR X (.type id) r) (hm : X.mg nm = none) (hv : bootBuiltins nm = some (.type id)) (hr : ∀ y, U1 r (Se y) (Ce y) (Se' y)) (h : EV X Y e ρ cs Se cs' M) (hg : Gl X nm := by rfl) (hn : nm ≠ "__name__" := by decide) (hdb : (nm == ("__debug__" : Str)) = false := by decide)
    (he : starEach (e :: []) X.env = (false, eval e X.env) :: starEach [] X.env := by rfl) (hpl : (backTo pos (starEach [] X.env)).any (·.1) = false := by rfl) : EV X Y (.Call (.Name nm p) [e] [] pos) ρ cs Se' cs' (fun φ => M fun y => Ce y ∧ φ y) := fun F σ H ok xh φ q Q k => by
  refine we (pe_callTy hc hg hm hv (pa_cons pe_w pa_nil he) hn hdb he hpl) ?_
  refine h F σ H ok xh _ q _ fun y v F1 H1 m1 s q1 => ?_
  exact hr y F1 H1 v m1.fh s q1.1 Q fun z F2 H2 g2 s2 => k y z F2 H2 (m1.trans ((ok.mv m1).grow g2)) s2 q1.2
theorem new_ne {cs cs1 : List (Cell X.K)} {F H F1 H1 : Hp} {σ : L2.St} {a : Addr} {vs : List V} (ok : Okc ρ cs F σ H) (m : Mv cs F H cs1 F1 H1) (ha : H1 a = none) : Mv cs F H cs1 F1 (upd H1 a (.lst vs)) ∧ H a = none ∧ F1 a = none ∧ ∀ c ∈ cs1, c.a ≠ a := by
  have g := grow_upd (o := .lst vs) (Grow.refl m.fh) ha
  have ok1 := ok.mv m
  refine ⟨m.trans (ok1.grow g.1), ?_, g.2, fun c hc e => ?_⟩
  · cases e : H a with
    | none => rfl
    | some u =>
      by_cases hx : ∃ c ∈ cs, c.a = a
      · obtain ⟨c, hcm, rfl⟩ := hx
        exact absurd ha (m.st c hcm)
      · rw [m.kp a u e fun c hcm e => hx ⟨c, hcm, e⟩] at ha; cases ha
  · obtain ⟨_, o, e1, _⟩ := ok1.cell c hc
    rw [e, ha] at e1; cases e1
variable {T : Ty X.K α} {xs : List α} {vl : μ → List α}
theorem nk_cb (hc : CallR X (.builtin id) r) (hm : X.mg nm = none) (hv : bootBuiltins nm = some (.builtin id)) (hr : UN r S C T xs) (h : PV X e ρ cs S P) (hg : Gl X nm := by rfl) (hn : nm ≠ "__name__" := by decide) (hdb : (nm == ("__debug__" : Str)) = false := by decide)
    (he : starEach (e :: []) X.env = (false, eval e X.env) :: starEach [] X.env := by rfl) (hpl : (backTo pos (starEach [] X.env)).any (·.1) = false := by rfl) : NK X (.Call (.Name nm p) [e] [] pos) ρ cs T xs (P ∧ C) := fun F σ H ok q Q k => by
  refine we (pe_callB hc hg hm hv (pa_cons pe_w pa_nil he) hn hdb he hpl) ?_
  refine h F σ H ok q.1 _ fun v F1 H1 g1 s => ?_
  refine hr F1 H1 v g1.fh s q.2 Q fun a vs hn r z => ?_
  obtain ⟨g2, hF⟩ := grow_upd (o := .lst vs) g1 hn
  exact k a vs F1 _ g2 (g1.hh.free hn) hF upd_same r z
theorem nk_ct (hc : CallR X (.type id) r) (hm : X.mg nm = none) (hv : bootBuiltins nm = some (.type id)) (hr : UN r S C T xs) (h : PV X e ρ cs S P) (hg : Gl X nm := by rfl) (hn : nm ≠ "__name__" := by decide) (hdb : (nm == ("__debug__" : Str)) = false := by decide)
    (he : starEach (e :: []) X.env = (false, eval e X.env) :: starEach [] X.env := by rfl) (hpl : (backTo pos (starEach [] X.env)).any (·.1) = false := by rfl) : NK X (.Call (.Name nm p) [e] [] pos) ρ cs T xs (P ∧ C) := fun F σ H ok q Q k => by
  refine we (pe_callTy hc hg hm hv (pa_cons pe_w pa_nil he) hn hdb he hpl) ?_
  refine h F σ H ok q.1 _ fun v F1 H1 g1 s => ?_
  refine hr F1 H1 v g1.fh s q.2 Q fun a vs hn r z => ?_
  obtain ⟨g2, hF⟩ := grow_upd (o := .lst vs) g1 hn
  exact k a vs F1 _ g2 (g1.hh.free hn) hF upd_same r z
end
end
/-! ### the order of texts -/
def leS (a b : Str) : Bool := !decide (b.cps.toList < a.cps.toList)
theorem str_ext {a b : Str} (h : a.cps.toList = b.cps.toList) : a = b := by
  cases a; cases b
  simp at h
  rw [h]
def sortS (xs : List Str) : List Str := xs.mergeSort leS
theorem sortS_perm (xs : List Str) : (sortS xs).Perm xs := List.mergeSort_perm xs leS
theorem sortS_mem {xs : List Str} {x : Str} : x ∈ sortS xs ↔ x ∈ xs := (sortS_perm xs).mem_iff
end MD
namespace MD
open PySem PySem.Spec PyProof.Rows L2
section
variable {K : PySem.W.Frag} {α β γ : Type}
theorem strOk_iff {x : Str} : PySem.PyData.strOk x = true ↔ ∀ c ∈ x.cps.toList, c < 0x110000 := by
  unfold PySem.PyData.strOk
  rw [← Array.all_toList, List.all_eq_true]
  simp
theorem strOk_join {sep : Str} {ys : List Str} (h : PySem.PyData.strOk sep = true) (hy : ∀ y ∈ ys, PySem.PyData.strOk y = true) : PySem.PyData.strOk (Str.join sep ys) = true := by
  rw [strOk_iff] at *
  intro c hc
  rcases (mem_join sep c ys).mp hc with ⟨t, ht, h1⟩ | ⟨_, h1⟩
  · exact strOk_iff.mp (hy t ht) c h1
  · exact h c h1
theorem strOk_cut {z : Str} {lo hi : Option Int} (h : PySem.PyData.strOk z = true) : PySem.PyData.strOk (cutS z lo hi) = true := by
  rw [strOk_iff] at *
  intro c hc
  exact h c (List.mem_of_mem_drop (List.mem_of_mem_take (by simpa [cutS] using hc)))
theorem rl_strs {F : Hp} {vs : List V} {xs : List Str} (h : Rl (tS (K := K)) F vs xs) : vs = xs.map V.str ∧ ∀ x ∈ xs, PySem.PyData.strOk x = true := by
  induction h with
  | nil => exact ⟨rfl, fun x hx => (by cases hx)⟩
  | cons r _ ih => exact ⟨by rw [List.map_cons, r.1, ih.1], fun x hx => (List.mem_cons.mp hx).elim (fun e => by rw [e]; exact r.2) (ih.2 x)⟩
theorem rl_ints {F : Hp} {vs : List V} {xs : List Int} (h : Rl (tI (K := K)) F vs xs) : vs = xs.map V.int := by
  induction h with
  | nil => rfl
  | cons r _ ih => rw [List.map_cons, ih]; congr
theorem rl_of_ints {F : Hp} : ∀ {xs : List Int}, Rl (tI (K := K)) F (xs.map V.int) xs
  | [] => .nil
  | x :: xs => .cons rfl rl_of_ints
theorem rl_bls {F : Hp} {vs : List V} {xs : List Bool} (h : Rl (tB (K := K)) F vs xs) : vs = xs.map V.bl := by
  induction h with
  | nil => rfl
  | cons r _ ih => rw [List.map_cons, ih]; congr
/-! ### built-in functions of one thing -/
theorem u_len {T : Ty K α} {xs : List α} : U1 (rLenQ K) (rQ T xs) True (sv (tI (K := K)) (xs.length : Int)) := fun F H v s ⟨a, vs, e, h, r, z⟩ _ Q k => by
  subst e
  exact ⟨a, vs, rfl, h, by rw [Rl.length r]; exact k _ F H (Grow.refl s) rfl⟩
theorem u_lenS {x : Str} : U1 (fun xs H Q => ∃ z, xs = [.str z] ∧ z.length ≤ sizeLine ∧ Q (.int z.length) H) (sv (tS (K := K)) x) (x.length ≤ sizeLine) (sv (tI (K := K)) (x.length : Int)) := fun F H v s h c Q k => ⟨x, by rw [h.1], c, k _ F H (Grow.refl s) rfl⟩
/-- the texts of xs, each once, sorted -/
def setS (xs : List Str) : List Str := sortS xs.eraseDups
theorem nodup_eraseDups [BEq α] [LawfulBEq α] : ∀ (xs : List α), xs.eraseDups.Nodup
  | [] => by simp
  | x :: xs => by
    rw [List.eraseDups_cons]
    refine List.nodup_cons.mpr ⟨fun h => ?_, nodup_eraseDups _⟩
    have := List.mem_eraseDups.mp h
    simp at this
  termination_by xs => xs.length
  decreasing_by
    have := List.length_filter_le (fun b => !b == x) xs
    simp only [List.length_cons]
    omega
theorem u_tupL {T : Ty K α} {xs : List α} : U1 (fun vs H Q => ∃ p ys, vs = [.ref p] ∧ ((SqL K H p ys ∧ ∀ l, H l = none → Q (.ref l) (upd H l (.tup ys))) ∨ (SqT K H p ys ∧ Q (.ref p) H))) (rK T xs) True (sv (tU T) xs) := fun F H v s ⟨a, vs, e, h, r, z⟩ _ Q k => by
  subst e
  refine ⟨a, vs, rfl, .inl ⟨h, fun l hl => ?_⟩⟩
  have g := grow_new s hl (.tup vs)
  exact k _ _ _ g ⟨l, vs, rfl, .inl upd_same, r.mono g.ff, z⟩
theorem n_list {T : Ty K α} {xs : List α} : UN (fun vs H Q => ∃ p ys, vs = [.ref p] ∧ (SqL K H p ys ∨ SqT K H p ys) ∧ ∀ l, H l = none → Q (.ref l) (upd H l (.lst ys))) (rQ T xs) True T xs := fun F H v s ⟨a, vs, e, h, r, z⟩ _ Q k => by
  subst e
  exact ⟨a, vs, rfl, h, fun l hl => k l vs hl r z⟩
theorem u_all {xs : List Bool} : U1 (rAll K) (rK (tB (K := K)) xs) True (sv (tB (K := K)) (xs.all id)) := fun F H v s ⟨a, vs, e, h, r, z⟩ _ Q k => by
  subst e
  obtain rfl := rl_bls r
  exact ⟨a, xs, rfl, h, k _ F H (Grow.refl s) rfl⟩
/-! ### flat things in a row -/
structure FT [DecidableEq α] (T : Ty K α) : Prop where
  flat : ∀ F v x, T.rep F v x → flatV v = true
  eqv : ∀ F v w x y, T.rep F v x → T.rep F w y → eqV v w = decide (x = y)
theorem fI : FT (tI (K := K)) := ⟨fun F v x h => by cases h; rfl, fun F v w x y h1 h2 => by
  cases h1; cases h2
  show (x == y) = _
  exact Bool.beq_eq_decide_eq _ _⟩
theorem fS : FT (tS (K := K)) := ⟨fun F v x h => by obtain ⟨e, _⟩ := h; subst e; rfl, fun F v w x y h1 h2 => by
  obtain ⟨e1, _⟩ := h1; obtain ⟨e2, _⟩ := h2
  subst e1; subst e2
  show (x == y) = _
  exact Bool.beq_eq_decide_eq _ _⟩
theorem ft_all [DecidableEq α] {T : Ty K α} (f : FT T) {F : Hp} {vs : List V} {xs : List α} (r : Rl T F vs xs) : vs.all flatV = true := by
  induction r with
  | nil => rfl
  | cons r _ ih => rw [List.all_cons, f.flat _ _ _ r, ih] <;> rfl
theorem ft_in [DecidableEq α] {T : Ty K α} (f : FT T) {F : Hp} {v : V} {x : α} {vs : List V} {xs : List α} (h : T.rep F v x) (r : Rl T F vs xs) : inV v vs = decide (x ∈ xs) := by
  unfold inV
  induction r with
  | nil => simp
  | cons r _ ih =>
    rw [List.any_cons, ih, f.eqv _ _ _ _ _ r h, ← Bool.decide_or]
    exact decide_eq_decide.mpr (by rw [List.mem_cons, eq_comm])
end
section
variable {X : Cx} {fl : Hp} {B : Hb X.K} {Y : Ec X.K} {ρ : List (Slot X.K)} {cs : List (Cell X.K)} {A R α β γ μ ν : Type} {pos : Pos} {rest : List Stmt} {D : Ends} {e : Expr}
theorem pk_in [DecidableEq α] {a b : Expr} {T : Ty X.K α} {x : α} {xs : List α} {P1 P2 : Prop} (f : FT T) (ha : PK X a ρ cs T x P1) (hb : PV X b ρ cs (rQ T xs) P2) (hm : behindInMarks .In b = false := by rfl) : PK X (.Compare a [.In] [b] pos) ρ cs tB (decide (x ∈ xs)) (P1 ∧ P2) := fun F σ H ok p Q k => by
  refine we (pe_cmpR op_in_seq pe_w pe_w hm) ?_
  refine ha F σ H ok p.1 _ fun v F1 H1 g1 r1 => ?_
  refine hb F1 σ H1 (ok.grow g1) p.2 _ fun w F2 H2 g2 ⟨q, vs, e, h, r, z⟩ => ?_
  refine ⟨q, vs, e, h, f.flat _ _ _ r1, ft_all f r, ?_⟩
  rw [ft_in f (T.mono g2.ff r1) r]
  exact k _ F2 H2 (g1.trans g2) rfl
theorem pt_in [DecidableEq α] {a b : Expr} {T : Ty X.K α} {x : α} {xs : List α} {P1 P2 : Prop} (f : FT T) (ha : PK X a ρ cs T x P1) (hb : PV X b ρ cs (rQ T xs) P2) (hm : behindInMarks .In b = false := by rfl) : PTK X (.Compare a [.In] [b] pos) ρ cs (decide (x ∈ xs)) (P1 ∧ P2) := fun F σ H ok p Q k => by
  refine wt (pt_cmpR op_in_seq pe_w pe_w hm) ?_
  refine ha F σ H ok p.1 _ fun v F1 H1 g1 r1 => ?_
  refine hb F1 σ H1 (ok.grow g1) p.2 _ fun w F2 H2 g2 ⟨q, vs, e, h, r, z⟩ => ?_
  refine ⟨q, vs, e, h, f.flat _ _ _ r1, ft_all f r, ?_⟩
  rw [ft_in f (T.mono g2.ff r1) r]
  exact ⟨_, rfl, k F2 H2 (g1.trans g2)⟩
theorem pt_nin [DecidableEq α] {a b : Expr} {T : Ty X.K α} {x : α} {xs : List α} {P1 P2 : Prop} (f : FT T) (ha : PK X a ρ cs T x P1) (hb : PV X b ρ cs (rQ T xs) P2) (hm : behindInMarks .NotIn b = false := by rfl) : PTK X (.Compare a [.NotIn] [b] pos) ρ cs (!decide (x ∈ xs)) (P1 ∧ P2) := fun F σ H ok p Q k => by
  refine wt (pt_cmpR op_notIn_seq pe_w pe_w hm) ?_
  refine ha F σ H ok p.1 _ fun v F1 H1 g1 r1 => ?_
  refine hb F1 σ H1 (ok.grow g1) p.2 _ fun w F2 H2 g2 ⟨q, vs, e, h, r, z⟩ => ?_
  refine ⟨q, vs, e, h, f.flat _ _ _ r1, ft_all f r, ?_⟩
  show ∃ k, V.bl (!inV v vs) = .bl k ∧ Q k H2
  rw [ft_in f (T.mono g2.ff r1) r]
  exact ⟨_, rfl, k F2 H2 (g1.trans g2)⟩
/-! ### items of what stands -/
theorem pk_ixR [Inhabited α] {a b : Expr} {T : Ty X.K α} {xs : List α} {i : Int} {P1 P2 : Prop} (ha : PV X a ρ cs (rK T xs) P1) (hb : PK X b ρ cs tI i P2) (hs : PlainIx b := by exact fun _ _ => rfl) : PK X (.Subscript a b pos) ρ cs T (pyIx xs i) (P1 ∧ P2 ∧ IxOk xs i) := fun F σ H ok p Q k => by
  refine we (pe_ix ix_list pe_w pe_w hs) ?_
  refine ha F σ H ok p.1 _ fun v F1 H1 g1 ⟨q, vs, e1, hq, r, z⟩ => ?_
  refine hb F1 σ H1 (ok.grow g1) p.2.1 _ fun w F2 H2 g2 r2 => ?_
  obtain ⟨u, hu, ru⟩ := rl_atI (Rl.mono g2.ff r) p.2.2
  exact ⟨q, vs, i, u, e1, r2, g2.hh.seq hq, hu, k u F2 H2 (g1.trans g2) ru⟩
theorem atI_signs {z : Str} {i : Int} (hi : IxOk (signs z) i) : ∃ c, atI z.cps.toList i = some c ∧ c ∈ z.cps.toList ∧ pyIx (signs z) i = ⟨#[c]⟩ := by
  have hl : (signs z).length = z.cps.toList.length := by unfold signs; rw [List.length_map]
  unfold IxOk at hi
  rw [hl] at hi
  unfold pyIx atI
  rw [hl]
  have get : ∀ j : Nat, j < z.cps.toList.length → ∃ c, z.cps.toList[j]? = some c ∧ c ∈ z.cps.toList ∧ ((signs z)[j]?).getD default = ⟨#[c]⟩ := fun j hj => by
    refine ⟨z.cps.toList[j], List.getElem?_eq_getElem hj, List.getElem_mem hj, ?_⟩
    unfold signs
    rw [List.getElem?_map, List.getElem?_eq_getElem hj]
    rfl
  by_cases h0 : 0 ≤ i
  · have e : ixN z.cps.toList.length i = some i.toNat := by unfold ixN; rw [if_pos h0, if_pos hi.2]
    rw [e]
    exact get _ (by omega)
  · have e : ixN z.cps.toList.length i = some (i + z.cps.toList.length).toNat := by unfold ixN; rw [if_neg h0, if_pos hi.1]
    rw [e]
    exact get _ (by omega)
/-- a sign of a text -/
theorem pk_ixS {a b : Expr} {z : Str} {i : Int} {P1 P2 : Prop} (ha : PK X a ρ cs tS z P1) (hb : PK X b ρ cs tI i P2) (hs : PlainIx b := by exact fun _ _ => rfl) : PK X (.Subscript a b pos) ρ cs tS (pyIx (signs z) i) (P1 ∧ P2 ∧ z.length ≤ sizeLine ∧ IxOk (signs z) i) := fun F σ H ok p Q k => by
  refine we (pe_ix ix_str pe_w pe_w hs) ?_
  refine ha F σ H ok p.1 _ fun v F1 H1 g1 r1 => ?_
  refine hb F1 σ H1 (ok.grow g1) p.2.1 _ fun w F2 H2 g2 r2 => ?_
  obtain ⟨c, h1, h2, h3⟩ := atI_signs p.2.2.2
  exact ⟨z, i, c, r1.1, r2, p.2.2.1, h1, k _ F2 H2 (g1.trans g2) ⟨by rw [h3], by rw [h3]; exact strOk_sign r1.2 h2⟩⟩
theorem ek_ixS {a b : Expr} {vl : μ → Str} {cs1 : μ → List (Cell X.K)} {M : (μ → Prop) → Prop} {vl2 : μ → ν → Int} {cs2 : μ → ν → List (Cell X.K)} {M2 : μ → (ν → Prop) → Prop} (ha : EK X Y a ρ cs tS vl cs1 M) (hb : ∀ y, EK X Y b ρ (cs1 y) tI (vl2 y) (cs2 y) (M2 y)) (hs : PlainIx b := by exact fun _ _ => rfl) :
    EK X Y (.Subscript a b pos) ρ cs tS (fun y : μ × ν => pyIx (signs (vl y.1)) (vl2 y.1 y.2)) (fun y => cs2 y.1 y.2) (fun φ => M fun y => M2 y fun u => (vl y).length ≤ sizeLine ∧ IxOk (signs (vl y)) (vl2 y u) ∧ φ (y, u)) := fun F σ H ok xh φ p Q k => by
  refine we (pe_ix ix_str pe_w pe_w hs) ?_
  refine ha F σ H ok xh _ p _ fun y v F1 H1 m1 r1 q1 => ?_
  refine hb y F1 σ H1 (ok.mv m1) (xh.mv m1) _ q1 _ fun u w F2 H2 m2 r2 q2 => ?_
  obtain ⟨c, h1, h2, h3⟩ := atI_signs q2.2.1
  exact ⟨_, _, c, r1.1, r2, q2.1, h1, k (y, u) _ F2 H2 (m1.trans m2) ⟨by show V.str _ = V.str (pyIx (signs (vl y)) (vl2 y u)); rw [h3], by show PySem.PyData.strOk (pyIx (signs (vl y)) (vl2 y u)) = true; rw [h3]; exact strOk_sign r1.2 h2⟩ q2.2.2⟩
/-- the n-th of a tuple of written places -/
inductive Nth {K : PySem.W.Frag} : {α β : Type} → Nat → Tys K α → Ty K β → (α → β) → Prop
  | one {α : Type} {T : Ty K α} : Nth 0 (ts1 T) T fun x => x
  | here {α β : Type} {T : Ty K α} {Ts : Tys K β} : Nth 0 (tsC T Ts) T fun x => x.1
  | next {α β γ : Type} {n : Nat} {T : Ty K α} {Ts : Tys K β} {U : Ty K γ} {f : β → γ} : Nth n Ts U f → Nth (n + 1) (tsC T Ts) U fun x => f x.2
theorem Nth.get {K : PySem.W.Frag} {α β : Type} {n : Nat} {Ts : Tys K α} {U : Ty K β} {f : α → β} (h : Nth n Ts U f) : ∀ {F : Hp} {vs : List V} {x : α}, Ts.rep F vs x → ∃ v, vs[n]? = some v ∧ U.rep F v (f x) := by
  induction h with
  | one => intro F vs x ⟨v, e, r⟩; subst e; exact ⟨v, rfl, r⟩
  | here => intro F vs x ⟨v, r, e, h, _⟩; subst e; exact ⟨v, rfl, h⟩
  | next _ ih =>
    intro F vs x ⟨v, r, e, _, h⟩
    subst e
    obtain ⟨u, e1, q⟩ := ih h
    exact ⟨u, by simpa using e1, q⟩
theorem atI_nth {vs : List V} {n : Nat} {v : V} (h : vs[n]? = some v) : atI vs (n : Int) = some v := by
  have hn : n < vs.length := (List.getElem?_eq_some_iff.mp h).1
  unfold atI ixN
  rw [if_pos (Int.natCast_nonneg n), if_pos (by exact_mod_cast hn)]
  simpa using h
theorem pk_ixT {a : Expr} {Ts : Tys X.K α} {U : Ty X.K β} {f : α → β} {x : α} {P1 : Prop} {n : Nat} {j} {p2 : Pos} (hn : Nth n Ts U f) (ha : PK X a ρ cs (tT Ts) x P1) (hs : PlainIx (.Constant (.int n) j p2) := by exact fun _ _ => rfl) : PK X (.Subscript a (.Constant (.int n) j p2) pos) ρ cs U (f x) P1 := fun F σ H ok p Q k => by
  refine we (pe_ix ix_tup pe_w pe_int hs) ?_
  refine ha F σ H ok p _ fun v F1 H1 g1 ⟨q, vs, e1, hq, r⟩ => ?_
  obtain ⟨u, hu, ru⟩ := hn.get r
  exact ⟨q, vs, n, u, e1, rfl, SqT.of (g1.fh _ _ hq), atI_nth hu, k u F1 H1 g1 ru⟩
/-! ### join -/
theorem rq_strs {F H : Hp} {v : V} {ys : List Str} (h : rQ (tS (K := X.K)) ys F H v) : ∃ p, v = .ref p ∧ (SqL X.K H p (ys.map V.str) ∨ SqT X.K H p (ys.map V.str)) ∧ ∀ y ∈ ys, PySem.PyData.strOk y = true := by
  obtain ⟨p, vs, e, h, r, z⟩ := h
  obtain ⟨e1, ok⟩ := rl_strs r
  subst e1
  exact ⟨p, e, h, ok⟩
theorem ek_join {o a : Expr} {sep : Str} {vl : μ → List Str} {cs1 : μ → List (Cell X.K)} {M : (μ → Prop) → Prop} {P1 : Prop} {apos : Pos} (ho : PK X o ρ cs tS sep P1) (ha : EV X Y a ρ cs (fun y => rQ (tS (K := X.K)) (vl y)) cs1 M) (hs : starEach [a] X.env = [(false, eval a X.env)] := by rfl) (hbase : attributeBase o "join" X.env (eval o X.env) = eval o X.env := by rfl) (hline : (apos.endLine == pos.line) = true := by rfl) :
    EK X Y (.Call (.Attribute o "join" apos) [a] [] pos) ρ cs tS (fun y => Str.join sep (vl y)) cs1 (fun φ => P1 ∧ M fun y => ((vl y).map (·.length)).sum + (vl y).length * sep.length ≤ 16777216 ∧ φ y) := fun F σ H ok xh φ p Q k => by
  refine we (pe_join pe_w pe_w hs hbase hline) ?_
  refine ho F σ H ok.w p.1 _ fun v F1 H1 g1 r1 => ⟨⟨sep, r1.1⟩, ?_⟩
  have m0 := ok.grow g1
  refine ha F1 σ H1 (ok.mv m0) (xh.mv m0) _ p.2 _ fun y w F2 H2 m2 s q2 => ?_
  obtain ⟨q, e, h, oky⟩ := rq_strs s
  refine ⟨sep, q, vl y, r1.1, by rw [e], h, q2.1, ?_⟩
  exact k y _ F2 H2 (m0.trans m2) ⟨congrArg V.str (PySem.StrLaws.glued_eq_join sep (vl y)), strOk_join r1.2 oky⟩ q2.2
end
end MD
namespace MD
open PySem PySem.Spec PyProof.Rows L2
section
variable {K : PySem.W.Frag} {α β γ : Type}
/-! ### methods of owned lists -/
theorem Rl.erase {T : Ty K α} {F : Hp} : ∀ {vs : List V} {xs : List α} (i : Nat), Rl T F vs xs → Rl T F (vs.eraseIdx i) (xs.eraseIdx i)
  | _, _, _, .nil => .nil
  | _, _, 0, .cons _ t => t
  | _, _, i + 1, .cons r t => .cons r (Rl.erase i t)
theorem Rl.drop {T : Ty K α} {F : Hp} : ∀ {vs : List V} {xs : List α} (i : Nat), Rl T F vs xs → Rl T F (vs.drop i) (xs.drop i)
  | _, _, 0, h => h
  | _, _, _ + 1, .nil => .nil
  | _, _, i + 1, .cons _ t => Rl.drop i t
theorem Rl.take {T : Ty K α} {F : Hp} : ∀ {vs : List V} {xs : List α} (i : Nat), Rl T F vs xs → Rl T F (vs.take i) (xs.take i)
  | _, _, 0, _ => .nil
  | _, _, _ + 1, .nil => .nil
  | _, _, i + 1, .cons r t => .cons r (Rl.take i t)
theorem Rl.rev {T : Ty K α} {F : Hp} : ∀ {vs : List V} {xs : List α}, Rl T F vs xs → Rl T F vs.reverse xs.reverse
  | _, _, .nil => .nil
  | _, _, .cons r t => by rw [List.reverse_cons, List.reverse_cons]; exact Rl.append (Rl.rev t) (.cons r .nil)
theorem ml_reverse {T : Ty K α} : MLK rReverse T (ts0 (K := K)) (tN (K := K)) (fun _ _ => True) (fun xs _ => xs.reverse) (fun _ _ => ()) := fun F H l vs ws x y s h rl z e c Q k => by
  have e : ws = [] := e
  subst e
  exact ⟨l, vs, rfl, rfl, h, k _ _ rl.rev (by rw [List.length_reverse]; exact z) rfl⟩
/-! ### plain data -/
structure DT (T : Ty K α) where
  d : α → PyData
  n : Nat
  dp : ∀ F H v x, Same F H → T.rep F v x → Dp K H v (d x)
  lay : ∀ F v x, T.rep F v x → (d x).canLay0 = true
  dep : ∀ x, (d x).depth ≤ n
  eqv : ∀ x y, PyData.eqv (d x) (d y) = true ↔ x = y
structure DTs (T : Tys K α) where
  d : α → List PyData
  n : Nat
  dp : ∀ F H v x, Same F H → T.rep F v x → DpAll K H v (d x)
  lay : ∀ F v x, T.rep F v x → PyData.canLayAll0 (d x) = true
  dep : ∀ x, PyData.depthAll (d x) ≤ n
  eqv : ∀ x y, PyData.eqvAll (d x) (d y) = true ↔ x = y
def dI : DT (tI (K := K)) := ⟨.int, 0, fun F H v x s h => by cases h; exact .int x, fun F v x h => by simp [PyData.canLay0], fun x => by simp [PyData.depth], fun x y => by simp [PyData.eqv]⟩
def dB : DT (tB (K := K)) := ⟨.bool, 0, fun F H v x s h => by cases h; exact .bl x, fun F v x h => by simp [PyData.canLay0], fun x => by simp [PyData.depth], fun x y => by simp [PyData.eqv]⟩
def dS : DT (tS (K := K)) := ⟨.str, 0, fun F H v x s h => by obtain ⟨e, _⟩ := h; subst e; exact .str x, fun F v x h => by simp only [PyData.canLay0]; exact h.2, fun x => by simp [PyData.depth], fun x y => by simp [PyData.eqv]⟩
theorem dp_all {T : Ty K α} (D : DT T) {F H : Hp} (s : Same F H) : ∀ {vs : List V} {xs : List α}, Rl T F vs xs → DpAll K H vs (xs.map D.d)
  | _, _, .nil => .nil
  | _, _, .cons r t => .cons (D.dp F H _ _ s r) (dp_all D s t)
theorem lay_all {T : Ty K α} (D : DT T) {F : Hp} : ∀ {vs : List V} {xs : List α}, Rl T F vs xs → PyData.canLayAll0 (xs.map D.d) = true
  | _, _, .nil => by simp [PyData.canLayAll0]
  | _, _, .cons r t => by simp only [List.map_cons, PyData.canLayAll0, D.lay _ _ _ r, lay_all D t, Bool.and_self]
theorem dep_all {T : Ty K α} (D : DT T) : ∀ xs : List α, PyData.depthAll (xs.map D.d) ≤ D.n
  | [] => by simp [PyData.depthAll]
  | x :: xs => by simp only [List.map_cons, PyData.depthAll]; exact Nat.max_le.mpr ⟨D.dep x, dep_all D xs⟩
theorem eqv_all {T : Ty K α} (D : DT T) : ∀ xs ys : List α, PyData.eqvAll (xs.map D.d) (ys.map D.d) = true ↔ xs = ys
  | [], [] => by simp [PyData.eqvAll]
  | [], y :: ys => by simp [PyData.eqvAll]
  | x :: xs, [] => by simp [PyData.eqvAll]
  | x :: xs, y :: ys => by simp only [List.map_cons, PyData.eqvAll, Bool.and_eq_true, D.eqv, eqv_all D xs ys, List.cons.injEq]
def dL {T : Ty K α} (D : DT T) : DT (tL T) := ⟨fun xs => .list (xs.map D.d), D.n + 1, fun F H v x s ⟨a, vs, e, h, r, z⟩ => by subst e; exact .lst (SqL.of (s _ _ h)) (dp_all D s r), fun F v x ⟨a, vs, e, h, r, z⟩ => by simp only [PyData.canLay0]; exact lay_all D r,
  fun x => by simp only [PyData.depth]; exact Nat.succ_le_succ (dep_all D x), fun x y => by simp only [PyData.eqv]; exact eqv_all D x y⟩
def dU {T : Ty K α} (D : DT T) : DT (tU T) := ⟨fun xs => .tuple (xs.map D.d), D.n + 1, fun F H v x s ⟨a, vs, e, h, r, z⟩ => by subst e; exact .tup (.inl (same_rd s h)) (dp_all D s r), fun F v x ⟨a, vs, e, h, r, z⟩ => by simp only [PyData.canLay0]; exact lay_all D r,
  fun x => by simp only [PyData.depth]; exact Nat.succ_le_succ (dep_all D x), fun x y => by simp only [PyData.eqv]; exact eqv_all D x y⟩
def ds1 {T : Ty K α} (D : DT T) : DTs (ts1 T) := ⟨fun x => [D.d x], D.n, fun F H v x s ⟨u, e, r⟩ => by subst e; exact .cons (D.dp F H _ _ s r) .nil, fun F v x ⟨u, e, r⟩ => by simp only [PyData.canLayAll0, D.lay _ _ _ r, Bool.and_self],
  fun x => by simp only [PyData.depthAll]; exact Nat.max_le.mpr ⟨D.dep x, Nat.zero_le _⟩, fun x y => by simp only [PyData.eqvAll, Bool.and_true, D.eqv]⟩
def dsC {T : Ty K α} {Ts : Tys K β} (D : DT T) (Ds : DTs Ts) : DTs (tsC T Ts) := ⟨fun x => D.d x.1 :: Ds.d x.2, max D.n Ds.n, fun F H v x s ⟨u, r, e, h1, h2⟩ => by subst e; exact .cons (D.dp F H _ _ s h1) (Ds.dp F H _ _ s h2),
  fun F v x ⟨u, r, e, h1, h2⟩ => by simp only [PyData.canLayAll0, D.lay _ _ _ h1, Ds.lay _ _ _ h2, Bool.and_self], fun x => by simp only [PyData.depthAll]; have := D.dep x.1; have := Ds.dep x.2; omega,
  fun x y => by simp only [PyData.eqvAll, Bool.and_eq_true, D.eqv, Ds.eqv]; exact Prod.ext_iff.symm⟩
def dT {Ts : Tys K α} (D : DTs Ts) : DT (tT Ts) := ⟨fun x => .tuple (D.d x), D.n + 1, fun F H v x s ⟨a, vs, e, h, r⟩ => by subst e; exact .tup (SqT.of (s _ _ h)) (D.dp F H _ _ s r), fun F v x ⟨a, vs, e, h, r⟩ => by simp only [PyData.canLay0]; exact D.lay _ _ _ r,
  fun x => by simp only [PyData.depth]; exact Nat.succ_le_succ (D.dep x), fun x y => by simp only [PyData.eqv]; exact D.eqv x y⟩
/-- a view of plain data -/
def DV (K : PySem.W.Frag) (S : Vw) (d : PyData) : Prop := ∀ F H v, Same F H → S F H v → Dp K H v d ∧ SeqAt.shaped d = true
theorem shaped_of {d : PyData} {n : Nat} (h : d.canLay0 = true) (h2 : d.depth ≤ n) (hn : n ≤ 64) : SeqAt.shaped d = true := by
  unfold SeqAt.shaped
  rw [h, Bool.true_and, decide_eq_true_eq]
  omega
theorem dv_sv {T : Ty K α} (D : DT T) {x : α} (hn : D.n ≤ 64 := by exact Nat.le_of_ble_eq_true rfl) : DV K (sv T x) (D.d x) := fun F H v s h => ⟨D.dp F H v x s h, shaped_of (D.lay _ _ _ h) (D.dep x) hn⟩
theorem eqv_dec [DecidableEq α] {T : Ty K α} (D : DT T) (x y : α) : PyData.eqv (D.d x) (D.d y) = decide (x = y) := by
  rw [Bool.eq_iff_iff, D.eqv, decide_eq_true_eq]
/-! ### what is of which type -/
def cutA (xs : List α) (lo hi : Option Int) : List α := (xs.drop (HT.sIx xs.length 0 lo)).take (HT.sIx xs.length xs.length hi - HT.sIx xs.length 0 lo)
theorem Rl.cut {T : Ty K α} {F : Hp} {vs : List V} {xs : List α} {lo hi : Option Int} (h : Rl T F vs xs) : Rl T F (cutV vs lo hi) (cutA xs lo hi) := by
  unfold cutV cutA
  rw [Rl.length h]
  exact Rl.take _ (Rl.drop _ h)
end
section
variable {X : Cx} {fl : Hp} {B : Hb X.K} {Y : Ec X.K} {ρ : List (Slot X.K)} {cs : List (Cell X.K)} {A R α β γ μ ν : Type} {pos : Pos} {rest : List Stmt} {D : Ends} {e : Expr}
theorem pk_eqV {a b : Expr} {S1 S2 : Vw} {d1 d2 : PyData} {r : Bool} {P1 P2 : Prop} (hu : X.A.units + 64 < cLine) (h1 : DV X.K S1 d1) (h2 : DV X.K S2 d2) (st : Stays S1) (he : PyData.eqv d1 d2 = r) (ha : PV X a ρ cs S1 P1) (hb : PV X b ρ cs S2 P2) (hm : behindInMarks .Eq b = false := by first | exact nomark _ | rfl) :
    PK X (.Compare a [.Eq] [b] pos) ρ cs tB r (P1 ∧ P2) := fun F σ H ok p Q k => by
  refine we (pe_cmpR (op_eqD hu) pe_w pe_w hm) ?_
  refine ha F σ H ok p.1 _ fun v F1 H1 g1 s1 => ?_
  refine hb F1 σ H1 (ok.grow g1) p.2 _ fun w F2 H2 g2 s2 => ?_
  have q1 := h1 F2 H2 v g2.fh (st _ _ _ _ _ g2 s1)
  have q2 := h2 F2 H2 w g2.fh s2
  exact ⟨d1, d2, q1.1, q2.1, q1.2, q2.2, k _ F2 H2 (g1.trans g2) (by rw [he]; rfl)⟩
theorem pt_neV {a b : Expr} {S1 S2 : Vw} {d1 d2 : PyData} {r : Bool} {P1 P2 : Prop} (hu : X.A.units + 64 < cLine) (h1 : DV X.K S1 d1) (h2 : DV X.K S2 d2) (st : Stays S1) (he : PyData.eqv d1 d2 = r) (ha : PV X a ρ cs S1 P1) (hb : PV X b ρ cs S2 P2) (hm : behindInMarks .NotEq b = false := by first | exact nomark _ | rfl) :
    PTK X (.Compare a [.NotEq] [b] pos) ρ cs (!r) (P1 ∧ P2) := fun F σ H ok p Q k => by
  refine wt (pt_cmpR (op_neD hu) pe_w pe_w hm) ?_
  refine ha F σ H ok p.1 _ fun v F1 H1 g1 s1 => ?_
  refine hb F1 σ H1 (ok.grow g1) p.2 _ fun w F2 H2 g2 s2 => ?_
  have q1 := h1 F2 H2 v g2.fh (st _ _ _ _ _ g2 s1)
  have q2 := h2 F2 H2 w g2.fh s2
  exact ⟨d1, d2, q1.1, q2.1, q1.2, q2.2, _, rfl, by rw [he]; exact k F2 H2 (g1.trans g2)⟩
/-! ### slices -/
def WO (X : Cx) (e : Option Expr) : TO := fun σ H Q => ∀ pins s, Inv X pins σ H s → wpAny (model X.prog X.w) X.A (evalPart e X.env) (fun u s' => ∃ o H', Inv X pins σ H' s' ∧ IsPart u o ∧ Q o H') X.xe s
theorem po_w {e : Option Expr} : PO X e (WO X e) := ⟨fun pins s σ H Q I h => h pins s I⟩
def PKo (X : Cx) (e : Option Expr) (ρ : List (Slot X.K)) (cs : List (Cell X.K)) (o : Option Int) (P : Prop) : Prop :=
  ∀ F σ H, Okw ρ cs F σ H → P → ∀ Q : Option Int → Hp → Prop, (∀ F' H', Grow F H F' H' → Q o H') → WO X e σ H Q
theorem po_0 : PKo X none ρ cs none True := fun F σ H ok _ Q k => fun pins s I => po_none.run pins s σ H Q I (k F H (Grow.refl ok.same))
theorem po_1 {e : Expr} {i : Int} {P : Prop} (h : PK X e ρ cs tI i P) : PKo X (some e) ρ cs (some i) P := fun F σ H ok p Q k => fun pins s I => (po_some pe_w).run pins s σ H Q I (h F σ H ok p _ fun v F' H' g r => ⟨i, r, k F' H' g⟩)
theorem pk_slS {a : Expr} {lo hi : Option Expr} {z : Str} {l h : Option Int} {P P1 P2 : Prop} {p2 : Pos} (ha : PK X a ρ cs tS z P) (hl : PKo X lo ρ cs l P1) (hh : PKo X hi ρ cs h P2) : PK X (.Subscript a (.Slice lo hi none p2) pos) ρ cs tS (cutS z l h) (P ∧ P1 ∧ P2 ∧ z.length ≤ sizeLine) := fun F σ H ok q Q k => by
  refine we (pe_slice sl_str pe_w po_w po_w) ?_
  refine ha F σ H ok q.1 _ fun v F1 H1 g1 r1 => ?_
  refine hl F1 σ H1 (ok.grow g1) q.2.1 _ fun F2 H2 g2 => ?_
  refine hh F2 σ H2 (ok.grow (g1.trans g2)) q.2.2.1 _ fun F3 H3 g3 => ?_
  exact ⟨z, r1.1, q.2.2.2, k _ F3 H3 ((g1.trans g2).trans g3) ⟨rfl, strOk_cut r1.2⟩⟩
theorem nk_slL {a : Expr} {lo hi : Option Expr} {T : Ty X.K α} {xs : List α} {l h : Option Int} {P P1 P2 : Prop} {p2 : Pos} (ha : PV X a ρ cs (rK T xs) P) (hl : PKo X lo ρ cs l P1) (hh : PKo X hi ρ cs h P2) : NK X (.Subscript a (.Slice lo hi none p2) pos) ρ cs T (cutA xs l h) (P ∧ P1 ∧ P2) := fun F σ H ok q Q k => by
  refine we (pe_slice sl_list pe_w po_w po_w) ?_
  refine ha F σ H ok q.1 _ fun v F1 H1 g1 ⟨b, vs, e, hb, r, z⟩ => ?_
  refine hl F1 σ H1 (ok.grow g1) q.2.1 _ fun F2 H2 g2 => ?_
  refine hh F2 σ H2 (ok.grow (g1.trans g2)) q.2.2 _ fun F3 H3 g3 => ?_
  refine ⟨b, vs, e, (g2.hh.trans g3.hh).seq hb, fun p hp => ?_⟩
  have g := (g1.trans g2).trans g3
  obtain ⟨g4, hF⟩ := grow_upd (o := .lst (cutV vs l h)) g hp
  exact k p _ F3 _ g4 (g.hh.free hp) hF upd_same (Rl.cut (r.mono (g2.ff.trans g3.ff))) (Nat.le_trans (cutV_length ..) z)
/-! ### one behind another -/
theorem nk_cat {a b : Expr} {T : Ty X.K α} {xs ys : List α} {P1 P2 : Prop} (ha : PV X a ρ cs (rL T xs) P1) (hb : PV X b ρ cs (rL T ys) P2) : NK X (.BinOp a .Add b pos) ρ cs T (xs ++ ys) (P1 ∧ P2 ∧ xs.length + ys.length ≤ sizeLine) := fun F σ H ok q Q k => by
  refine we (pe_op op_cat pe_w pe_w) ?_
  refine ha F σ H ok q.1 _ fun v F1 H1 g1 ⟨l, vs, e, h, r, z⟩ => ?_
  refine hb F1 σ H1 (ok.grow g1) q.2.1 _ fun w F2 H2 g2 ⟨m, ws, e2, h2, r2, z2⟩ => ?_
  have hl : vs.length + ws.length ≤ sizeLine := by rw [Rl.length r, Rl.length r2]; exact q.2.2
  refine ⟨l, m, vs, ws, e, e2, g2.hh _ _ h, h2, hl, fun p hp => ?_⟩
  have g := g1.trans g2
  obtain ⟨g4, hF⟩ := grow_upd (o := .lst (vs ++ ws)) g hp
  exact k p _ F2 _ g4 (g.hh.free hp) hF upd_same (Rl.append (r.mono g2.ff) r2) (by rw [List.length_append]; exact hl)
end
end MD
namespace MD
open PySem PySem.Spec PyProof.Rows L2
section
variable {K : PySem.W.Frag} {κ α β γ : Type}
/-! ### dicts with flat keys -/
structure KT (T : Ty K κ) where
  kf : κ → Key
  inj : ∀ x y, kf x = kf y → x = y
  val : ∀ F v x, T.rep F v x → v = kV (kf x)
def kS : KT (tS (K := K)) := ⟨Sum.inr, fun x y h => Sum.inr.inj h, fun F v x h => h.1⟩
def Ent {TK : Ty K κ} (k : KT TK) (T : Ty K α) (F : Hp) (e : Key × V) (p : κ × α) : Prop := e.1 = k.kf p.1 ∧ TK.rep F (kV e.1) p.1 ∧ T.rep F e.2 p.2
def Re {TK : Ty K κ} (k : KT TK) (T : Ty K α) (F : Hp) : List (Key × V) → List (κ × α) → Prop := Paired (Ent k T F)
theorem Re.mono {TK : Ty K κ} {k : KT TK} {T : Ty K α} {F F' : Hp} {es kvs} (e : Same F F') (h : Re k T F es kvs) : Re k T F' es kvs := paired_mono (fun _ _ r => ⟨r.1, TK.mono e r.2.1, T.mono e r.2.2⟩) h
def cD {TK : Ty K κ} (k : KT TK) (T : Ty K α) (kvs : List (κ × α)) : CK K := ⟨fun F o => ∃ es, o = .dK es ∧ Re k T F es kvs ∧ es.length ≤ sizeLine, fun e ⟨es, h, r, z⟩ => ⟨es, h, r.mono e, z⟩⟩
def tD {TK : Ty K κ} (k : KT TK) (T : Ty K α) : Ty K (List (κ × α)) := ⟨fun F v kvs => ∃ a es o, v = .ref a ∧ F a = some (.frz o (.dK es)) ∧ Re k T F es kvs ∧ es.length ≤ sizeLine, fun e ⟨a, es, o, h1, h2, r, z⟩ => ⟨a, es, o, h1, e _ _ h2, r.mono e, z⟩⟩
def rD {TK : Ty K κ} (k : KT TK) (T : Ty K α) (kvs : List (κ × α)) : Vw := fun F H v => ∃ a es, v = .ref a ∧ Rd H a (.dK es) ∧ Re k T F es kvs ∧ es.length ≤ sizeLine
def dget [DecidableEq κ] (kvs : List (κ × α)) (x : κ) : Option α := (kvs.find? fun p => decide (p.1 = x)).map (·.2)
def dput [DecidableEq κ] (kvs : List (κ × α)) (x : κ) (y : α) : List (κ × α) := if (kvs.any fun p => decide (p.1 = x)) = true then kvs.map (fun p => if p.1 = x then (p.1, y) else p) else kvs ++ [(x, y)]
section
variable [DecidableEq κ] {TK : Ty K κ} {k : KT TK} {T : Ty K α} {F : Hp}
theorem kf_dec (k : KT TK) (x y : κ) : decide (k.kf x = k.kf y) = decide (x = y) := decide_eq_decide.mpr ⟨k.inj x y, fun e => by rw [e]⟩
theorem re_val {es : List (Key × V)} {kvs : List (κ × α)} (h : Re k T F es kvs) (x : κ) : (valV es (k.kf x) = none ∧ dget kvs x = none) ∨ ∃ v y, valV es (k.kf x) = some v ∧ dget kvs x = some y ∧ T.rep F v y := by
  induction h with
  | nil => exact .inl ⟨rfl, rfl⟩
  | @cons e p es' kvs' r _ ih =>
    by_cases q : p.1 = x
    · refine .inr ⟨e.2, p.2, ?_, ?_, r.2.2⟩
      · exact valV_pos (by rw [r.1, q])
      · unfold dget; rw [List.find?_cons_of_pos (by simpa using q)]; rfl
    · have e1 : valV (e :: es') (k.kf x) = valV es' (k.kf x) := valV_neg fun z => q (k.inj _ _ (r.1.symm.trans z))
      have e2 : dget (p :: kvs') x = dget kvs' x := by unfold dget; rw [List.find?_cons_of_neg (by simpa using q)]
      rw [e1, e2]
      exact ih
theorem re_any {es : List (Key × V)} {kvs : List (κ × α)} (h : Re k T F es kvs) (x : κ) : (es.any fun kv => decide (kv.1 = k.kf x)) = kvs.any fun p => decide (p.1 = x) := by
  induction h with
  | nil => rfl
  | cons r _ ih => rw [List.any_cons, List.any_cons, ih, r.1, kf_dec]
theorem re_map {es : List (Key × V)} {kvs : List (κ × α)} (h : Re k T F es kvs) {x : κ} {v : V} {y : α} (r : T.rep F v y) : Re k T F (es.map fun kv => if kv.1 = k.kf x then (kv.1, v) else kv) (kvs.map fun p => if p.1 = x then (p.1, y) else p) := by
  induction h with
  | nil => exact .nil
  | @cons e p es' kvs' q _ ih =>
    refine .cons ?_ ih
    by_cases hx : p.1 = x
    · have h1 : e.1 = k.kf x := by rw [q.1, hx]
      show Ent k T F (if e.1 = k.kf x then (e.1, v) else e) (if p.1 = x then (p.1, y) else p)
      rw [if_pos h1, if_pos hx]
      exact ⟨q.1, q.2.1, r⟩
    · have h1 : ¬ e.1 = k.kf x := fun z => hx (k.inj _ _ (q.1.symm.trans z))
      show Ent k T F (if e.1 = k.kf x then (e.1, v) else e) (if p.1 = x then (p.1, y) else p)
      rw [if_neg h1, if_neg hx]
      exact q
theorem re_app {es es' : List (Key × V)} {kvs kvs' : List (κ × α)} (h : Re k T F es kvs) (h' : Re k T F es' kvs') : Re k T F (es ++ es') (kvs ++ kvs') := by
  induction h with
  | nil => exact h'
  | cons r _ ih => exact .cons r ih
theorem re_put {es : List (Key × V)} {kvs : List (κ × α)} (h : Re k T F es kvs) {x : κ} {v : V} {y : α} (hx : TK.rep F (kV (k.kf x)) x) (r : T.rep F v y) : Re k T F (putK es (k.kf x) v) (dput kvs x y) := by
  unfold putK dput
  rw [re_any h x]
  split
  · exact re_map h r
  · exact re_app h (.cons ⟨rfl, hx, r⟩ .nil)
end
theorem Re.length {TK : Ty K κ} {k : KT TK} {T : Ty K α} {F : Hp} {es : List (Key × V)} {kvs : List (κ × α)} (h : Re k T F es kvs) : es.length = kvs.length := Paired.length h
theorem putK_len {kvs : List (Key × V)} {x : Key} {v : V} : (putK kvs x v).length ≤ kvs.length + 1 := by
  unfold putK
  split
  · rw [List.length_map]; exact Nat.le_succ _
  · rw [List.length_append]; exact Nat.le_refl _
/-! ### instances -/
def putS (f : Str) (s : Slot K) : List (Str × Slot K) → List (Str × Slot K)
  | [] => [(f, s)]
  | (g, x) :: r => bif g == f then (g, s) :: r else (g, x) :: putS f s r
theorem FldOk.mono {F F' : Hp} (e : Same F F') : ∀ {fs : List (Str × Slot K)} {vs : List (Str × V)}, FldOk F fs vs → FldOk F' fs vs
  | _, _, .nil => .nil
  | _, _, .cons r t => .cons (r.mono e) (FldOk.mono e t)
theorem FldOk.put {F : Hp} {f : Str} {s : Slot K} {v : V} (h : Slot.ok F s (some v)) : ∀ {fs : List (Str × Slot K)} {vs : List (Str × V)}, FldOk F fs vs → FldOk F (putS f s fs) (putF f v vs)
  | _, _, .nil => .cons h .nil
  | _, _, .cons (n := n) r t => by
    unfold putS putF
    by_cases e : n = f
    · subst e
      rw [if_pos rfl, beq_self_eq_true, cond_true]
      exact .cons h t
    · rw [if_neg e, beq_eq_false_iff_ne.mpr e, cond_false]
      exact .cons r (FldOk.put h t)
theorem FldOk.len {F : Hp} : ∀ {fs : List (Str × Slot K)} {vs : List (Str × V)}, FldOk F fs vs → vs.length = fs.length
  | _, _, .nil => rfl
  | _, _, .cons _ t => by rw [List.length_cons, List.length_cons, t.len]
theorem FldOk.look {F : Hp} {f : Str} : ∀ {fs : List (Str × Slot K)} {vs : List (Str × V)}, FldOk F fs vs → (fs.lookup f = none ∧ vs.lookup f = none) ∨ ∃ s v, fs.lookup f = some s ∧ vs.lookup f = some v ∧ Slot.ok F s (some v)
  | _, _, .nil => .inl ⟨rfl, rfl⟩
  | _, _, .cons (n := n) (s := s) (v := v) r t => by
    by_cases h : f = n
    · subst h
      exact .inr ⟨s, v, List.lookup_cons_self, List.lookup_cons_self, r⟩
    · have hb : (f == n) = false := beq_eq_false_iff_ne.mpr h
      rcases FldOk.look (f := f) t with ⟨h1, h2⟩ | ⟨s', v', h1, h2, q⟩
      · exact .inl ⟨by rw [List.lookup_cons, hb]; exact h1, by rw [List.lookup_cons, hb]; exact h2⟩
      · exact .inr ⟨s', v', by rw [List.lookup_cons, hb]; exact h1, by rw [List.lookup_cons, hb]; exact h2, q⟩
def cI (C : Addr) (fs : List (Str × Slot K)) : CK K := ⟨fun F o => ∃ dx vs, o = .ins C dx vs ∧ FldOk F fs vs, fun e ⟨dx, vs, h, r⟩ => ⟨dx, vs, h, r.mono e⟩⟩
def tIn (C : Addr) (fd : α → List (Str × Slot K)) : Ty K α := ⟨fun F v x => ∃ a dx vs, v = .ref a ∧ F a = some (.ins C dx vs) ∧ FldOk F (fd x) vs, fun e ⟨a, dx, vs, h1, h2, r⟩ => ⟨a, dx, vs, h1, e _ _ h2, r.mono e⟩⟩
/-- an instance that stands -/
def rI' (C : Addr) (fs : List (Str × Slot K)) : Vw := fun F H v => ∃ a dx vs, v = .ref a ∧ H a = some (.ins C dx vs) ∧ FldOk F fs vs
end
section
variable {X : Cx} {fl : Hp} {B : Hb X.K} {Y : Ec X.K} {ρ : List (Slot X.K)} {cs : List (Cell X.K)} {A R κ α β γ μ ν : Type} {pos : Pos} {rest : List Stmt} {D : Ends} {e : Expr}
theorem PK.ins {C : Addr} {fd : α → List (Str × Slot X.K)} {x : α} {P : Prop} (h : PK X e ρ cs (tIn C fd) x P) : PV X e ρ cs (rI' C (fd x)) P := fun F σ H ok p Q q => h F σ H ok p Q fun v F' H' g ⟨a, dx, vs, h1, h2, r⟩ => q v F' H' g ⟨a, dx, vs, h1, g.fh _ _ h2, r⟩
theorem PK.dict {TK : Ty X.K κ} {k : KT TK} {T : Ty X.K α} {kvs : List (κ × α)} {P : Prop} (h : PK X e ρ cs (tD k T) kvs P) : PV X e ρ cs (rD k T kvs) P := fun F σ H ok p Q q => h F σ H ok p Q fun v F' H' g ⟨a, es, o, h1, h2, r, z⟩ => q v F' H' g ⟨a, es, h1, .inr ⟨o, g.fh _ _ h2⟩, r, z⟩
theorem PK.ownD {TK : Ty X.K κ} {k : KT TK} {T : Ty X.K α} {kvs : List (κ × α)} {l : Addr} {P : Prop} (j : Nat) (h : PK X e ρ cs tR l P) (hc : cs[j]? = Option.some ⟨l, cD k T kvs⟩) : PV X e ρ cs (rD k T kvs) P := fun F σ H ok p Q q => h F σ H ok p Q fun v F' H' g h1 => by
  obtain ⟨o, ho, es, e, r, z⟩ := (ok.grow g).cell _ (List.mem_of_getElem? hc)
  subst e
  exact q v F' H' g ⟨l, es, h1, .inl ho, r, z⟩
/-- o.f -/
theorem pk_fld {o : Expr} {f : Str} {C : Addr} {fs : List (Str × Slot X.K)} {T : Ty X.K α} {x : α} {P : Prop} (c : Cls X.K C) (n : NoAttr X.K C f) (h : PV X o ρ cs (rI' C fs) P) (hf : fs.lookup f = some (.val T x) := by rfl) (hb : attributeBase o f X.env (eval o X.env) = eval o X.env := by rfl) : PK X (.Attribute o f pos) ρ cs T x P := fun F σ H ok p Q k => by
  refine we (pe_fld pe_w hb) ?_
  refine h F σ H ok p _ fun v F1 H1 g ⟨a, dx, vs, e, ha, r⟩ => ?_
  rcases r.look (f := f) with ⟨h1, _⟩ | ⟨s, u, h1, h2, q⟩
  · rw [hf] at h1; cases h1
  · rw [hf] at h1
    cases h1
    obtain ⟨u', e1, q⟩ := q
    cases e1
    exact ⟨a, C, dx, vs, u, e, ha, c, n, h2, k u F1 H1 g q⟩
/-- o.f = e, o an owned instance -/
theorem sk_fld {o : Expr} {f : Str} {p1 : Pos} {C x : Addr} {fs : List (Str × Slot X.K)} {T : Ty X.K α} {vl : μ → α} {cs' : μ → List (Cell X.K)} {M : (μ → Prop) → Prop} {φ : μ → α → Prop} (j : Nat) (c : Cls X.K C) (n : NoAttr X.K C f) (he : EK X Y e ρ cs T vl cs' M) (ho : ∀ y, PK X o ρ (cs' y) tR x True) (hc : ∀ y, (cs' y)[j]? = some ⟨x, cI C fs⟩)
    (k : ∀ y z, SK X B Y fl rest ρ ((cs' y).set j ⟨x, cI C (putS f (.val T z) fs)⟩) D (φ y z)) (hl : fs.length < 1000 := by exact Nat.le_of_ble_eq_true rfl) (hs : swapsWith e (some (.Attribute o f p1)) pos.line X.env = pure false := by rfl) :
    SK X B Y fl (.Assign [.Attribute o f p1] e pos :: rest) ρ cs D (M fun y => ∀ z, z = vl y → φ y z) := fun F σ H ok p W tk hx' => by
  refine wb (pss_cons (ps_fld pe_w pe_w hs) pss_w) ?_
  refine he F σ H ok.c (xh_of ok tk hx') _ p _ fun y v F1 H1 m r q => ?_
  have ok1 := ok.to m
  refine ho y F1 σ H1 ok1.c.w trivial _ fun w F2 H2 g r2 => ?_
  have ok2 := ok1.to (ok1.c.grow g)
  obtain ⟨_, ob, hob, dx, vs, e1, rf⟩ := ok2.c.cell _ (List.mem_of_getElem? (hc y))
  subst e1
  refine ⟨x, C, dx, vs, r2, hob, c, n, by rw [rf.len]; exact hl, ?_⟩
  exact k y (vl y) F2 σ _ (ok2.to (mv_upd (k := cI C (putS f (.val T (vl y)) fs)) ok2.c (hc y) (show ∃ dx' vs', HO.ins C dx (putF f v vs) = .ins C dx' vs' ∧ FldOk F2 (putS f (.val T (vl y)) fs) vs' from ⟨dx, _, rfl, rf.put (f := f) (s := .val T (vl y)) ⟨v, rfl, T.mono g.ff r⟩⟩))) (q _ rfl) W tk hx'
/-- a new dict, the last cell -/
def ND (X : Cx) (e : Expr) : Prop := ∀ σ H (Q : VK), (∀ a, H a = none → Q (.ref a) (upd H a (.dK []))) → WE X e σ H Q
theorem nd_new : ND X (.Dict [] [] pos) := fun σ H Q k => we pe_dnewK fun a ha => k a ha
theorem newD_mv {TK : Ty X.K κ} (k : KT TK) (T : Ty X.K α) {F H : Hp} {σ : L2.St} {a : Addr} (ok : Okc ρ cs F σ H) (ha : H a = none) : Mv cs F H (cs ++ [⟨a, cD k T []⟩]) F (upd H a (.dK [])) := by
  have g := grow_upd (o := .dK []) (Grow.refl ok.same) ha
  have m := ok.grow g.1
  refine ⟨m.ff, m.fh, m.fr, m.kp, fun c hc => ?_, ?_, fun c hc => ?_, m.st⟩
  · rcases List.mem_append.mp hc with hc | hc
    · exact m.cell c hc
    · obtain rfl := List.mem_singleton.mp hc
      exact ⟨g.2, _, upd_same, [], rfl, .nil, Nat.zero_le _⟩
  · rw [List.map_append]
    refine List.nodup_append.mpr ⟨m.nd, by simp, fun x hx y hy => ?_⟩
    obtain ⟨c, hc, rfl⟩ := List.mem_map.mp hx
    have : y = a := by simpa using hy
    rw [this]
    intro e
    obtain ⟨_, o, e1, _⟩ := ok.cell c hc
    rw [e, ha] at e1; cases e1
  · rcases List.mem_append.mp hc with hc | hc
    · exact m.nw c hc
    · obtain rfl := List.mem_singleton.mp hc
      exact .inr ha
theorem sk_setD {TK : Ty X.K κ} (kt : KT TK) (T : Ty X.K α) {i : Nat} {nm : Str} {pos' : Pos} {φ : Addr → Prop} (hN : X.N.Nodup) (he : ND X e) (k : ∀ a, SK X B Y fl rest (ρ.set i (.val tR a)) (cs ++ [⟨a, cD kt T []⟩]) D (φ a)) (hi : X.N[i]? = some nm := by rfl)
    (hx : Loc X.env.scope nm := by first | exact Or.inl rfl | exact Or.inr rfl) (hs : swapsWith e (some (.Name nm pos')) pos.line X.env = pure false := by rfl) (hf : X.fn nm = true ∨ X.env.scope.names.lookup nm = some .local := by first | exact .inl rfl | exact .inr rfl) :
    SK X B Y fl (.Assign [.Name nm pos'] e pos :: rest) ρ cs D (∀ a, φ a) := fun F σ H ok p W tk hx' => by
  refine wb (pss_cons (ps_set hN hi hx pe_w hs hf) pss_w) ?_
  refine he σ H _ fun a ha => ?_
  exact k a F _ _ ((ok.to (newD_mv kt T ok.c ha)).set (T := tR) i rfl) (p a) W tk hx'
/-! ### reading dicts -/
section
variable [DecidableEq κ] {TK : Ty X.K κ} {kt : KT TK} {T : Ty X.K α} {kvs : List (κ × α)} {x : κ} {P1 P2 : Prop} {d i : Expr}
theorem re_some {F : Hp} {es : List (Key × V)} (r : Re kt T F es kvs) : (valV es (kt.kf x)).isSome = (dget kvs x).isSome := by
  rcases re_val r x with ⟨h1, h2⟩ | ⟨u, y, h1, h2, q⟩ <;> rw [h1, h2] <;> rfl
theorem pt_din (hu : X.A.units + 1 < cLine) (hi : PK X i ρ cs TK x P2) (hd : PV X d ρ cs (rD kt T kvs) P1) (hm : behindInMarks .In d = false := by rfl) : PTK X (.Compare i [.In] [d] pos) ρ cs (dget kvs x).isSome (P2 ∧ P1) := fun F σ H ok p Q k => by
  refine wt (pt_cmp (pc_din hu pe_w pe_w) hm) ?_
  refine hi F σ H ok p.1 _ fun w F1 H1 g1 r1 => ?_
  refine hd F1 σ H1 (ok.grow g1) p.2 _ fun v F2 H2 g2 ⟨a, es, e, ha, r, z⟩ => ?_
  have ew := kt.val _ _ _ r1
  subst ew
  exact ⟨a, _, e, .inl ⟨es, kt.kf x, ha, rfl, rfl⟩, _, rfl, by rw [re_some r]; exact k F2 H2 (g1.trans g2)⟩
/-- d[i] = e, d an owned dict -/
theorem sk_dput {p1 : Pos} {l : Addr} {vl : μ → α} {cs' : μ → List (Cell X.K)} {M : (μ → Prop) → Prop} {kw : μ → List (κ × α)} {P3 P4 : μ → Prop} {φ : μ → List (κ × α) → Prop} (j : Nat) (hu : X.A.units + 1 < cLine) (he : EK X Y e ρ cs T vl cs' M) (hd : ∀ y, PK X d ρ (cs' y) tR l (P3 y)) (hi : ∀ y, PK X i ρ (cs' y) TK x (P4 y)) (hc : ∀ y, (cs' y)[j]? = some ⟨l, cD kt T (kw y)⟩)
    (k : ∀ y z, SK X B Y fl rest ρ ((cs' y).set j ⟨l, cD kt T z⟩) D (φ y z)) (hs : swapsWith e (some (.Subscript d i p1)) pos.line X.env = pure false := by rfl) :
    SK X B Y fl (.Assign [.Subscript d i p1] e pos :: rest) ρ cs D (M fun y => P3 y ∧ P4 y ∧ (kw y).length < sizeLine ∧ ∀ z, z = dput (kw y) x (vl y) → φ y z) := fun F σ H ok p W tk hx' => by
  refine wb (pss_cons (ps_dput hu pe_w pe_w pe_w hs) pss_w) ?_
  refine he F σ H ok.c (xh_of ok tk hx') _ p _ fun y v F1 H1 m r q => ?_
  have ok1 := ok.to m
  refine hd y F1 σ H1 ok1.c.w q.1 _ fun w F2 H2 g2 r2 => ?_
  have ok2 := ok1.to (ok1.c.grow g2)
  refine hi y F2 σ H2 ok2.c.w q.2.1 _ fun u F3 H3 g3 r3 => ?_
  have ok3 := ok2.to (ok2.c.grow g3)
  have eu := kt.val _ _ _ r3
  subst eu
  obtain ⟨_, ob, hob, es, e1, re, z⟩ := ok3.c.cell _ (List.mem_of_getElem? (hc y))
  subst e1
  have hl : es.length < sizeLine := by rw [re.length]; exact q.2.2.1
  refine ⟨l, _, r2, .inl ⟨es, kt.kf x, hob, rfl, hl, rfl⟩, ?_⟩
  exact k y _ F3 σ _ (ok3.to (mv_upd (k := cD kt T (dput (kw y) x (vl y))) ok3.c (hc y) ⟨_, rfl, re_put re r3 (T.mono (g2.ff.trans g3.ff) r), Nat.le_trans putK_len hl⟩)) (q.2.2.2 _ rfl) W tk hx'
end
end
end MD
namespace MD
open PySem PySem.Spec PyProof.Rows L2
section
variable {X : Cx} {fl : Hp} {B : Hb X.K} {Y : Ec X.K} {ρ : List (Slot X.K)} {cs : List (Cell X.K)} {A R κ α β γ δ μ ν : Type} {pos : Pos} {rest : List Stmt} {D : Ends} {e : Expr}
/-! ### freezing -/
theorem set_self {α : Type} {l : List α} {i : Nat} {x : α} (h : l[i]? = some x) : l.set i x = l := by
  apply List.ext_getElem?
  intro n
  by_cases hn : i = n
  · subst hn
    rw [List.getElem?_set_self (List.getElem?_eq_some_iff.mp h).1, h]
  · rw [List.getElem?_set_ne hn]
theorem FldOk.set {K : PySem.W.Frag} {F : Hp} {f : Str} {s s2 : Slot K} : ∀ {fs : List (Str × Slot K)} {vs : List (Str × V)} {m : Nat}, FldOk F fs vs → fs[m]? = some (f, s) → (∀ v, Slot.ok F s (some v) → Slot.ok F s2 (some v)) → FldOk F (fs.set m (f, s2)) vs
  | _, _, _, .nil, h, _ => by simp at h
  | _, _, 0, .cons r t, h, k => by simp at h; obtain ⟨rfl, rfl⟩ := h; exact .cons (k _ r) t
  | _, _, m + 1, .cons r t, h, k => .cons r (FldOk.set (m := m) t (by simpa using h) k)
/-! ### walks over dicts -/
/-! ### making, methods -/
/-- the contract of an __init__ that makes a frozen instance of frozen data -/
def Con.ini {K : PySem.W.Frag} {A γ : Type} (Cl : Addr) (fd : γ → List (Str × Slot K)) (ins : A → List (Slot K)) (pre : A → Prop) (f : A → γ) (exc : A → Exn K → Prop) : Con K (Addr × A) γ Unit where
  ins := fun a => .val tR a.1 :: ins a.2
  cin := fun a => [⟨a.1, cI Cl []⟩]
  wp := fun a φ ε => (pre a.2 ∧ ∀ r, r = f a.2 → φ r) ∨ ∃ ex, exc a.2 ex ∧ ε ex
  T := tN
  rv := fun _ => ()
  cout := fun a r => [⟨a.1, cI Cl (fd r)⟩]
  mono := fun _ _ _ _ _ h h' w => w.imp (fun w => ⟨w.1, fun r e => h r (w.2 r e)⟩) fun ⟨ex, h1, h2⟩ => ⟨ex, h1, h' ex h2⟩
/-- C(e, ..), raising nothing: a frozen instance -/
theorem ek_make {k : Nat} {Cl f : Addr} {fd : FuncData} {ps : List Str} {nm : Str} {p : Pos} {es : List Expr} {fdd : γ → List (Str × Slot X.K)} {ins : A → List (Slot X.K)} {pre : A → Prop} {g : A → γ} {exc : A → Exn X.K → Prop} {Ts : Tys X.K β} {vl : μ → β} {cs1 : μ → List (Cell X.K)} {M : (μ → Prop) → Prop} (a : μ → A)
    (Mk' : Mk X.K Cl f) (F : FnOk X.prog X.w X.K X.mg X.base (L2.CX X.prog X.w) k f fd ps (Con.ini Cl fdd ins pre g exc).sp) (hr : Room (k + 1) X.A) (hm : X.mg nm = some (.ref Cl)) (hb : Binds X.K fd ps [])
    (ha : AK X Y (e :: es) ρ cs Ts vl cs1 M) (hi : ∀ y F vs, Ts.rep F vs (vl y) → Prd (fun s v => Slot.ok F s (some v)) (ins (a y)) vs) (hg : Gl X nm := by rfl)
    (hdb : (nm == ("__debug__" : Str)) = false := by decide) (he : starEach (e :: es) X.env = (false, eval e X.env) :: starEach es X.env := by rfl) (hpl : (backTo pos (starEach es X.env)).any (·.1) = false := by rfl) :
    EK X Y (.Call (.Name nm p) (e :: es) [] pos) ρ cs (tIn Cl fdd) (fun y : μ × γ => y.2) (fun y => cs1 y.1) (fun φ => M fun y => pre (a y) ∧ ∀ r, r = g (a y) → φ (y, r)) := fun F0 σ H ok xh φ q Q kk => by
  refine we (pe_make Mk' F hr hg hm hb .nil (E := E0) (passL) pa_w hdb he hpl) ?_
  refine ha F0 σ H ok xh _ q _ fun y vs F1 H1 m1 r1 q1 => fun x dx hx hdx ne => ?_
  have ok1 := ok.mv m1
  have hFx : F1 x = none := by
    cases e : F1 x with
    | none => rfl
    | some u => rw [m1.fh _ _ e] at hx; cases hx
  have hFd : F1 dx = none := by
    cases e : F1 dx with
    | none => rfl
    | some u => rw [m1.fh _ _ e] at hdx; cases hdx
  have hS : Same F1 (upd (upd H1 dx (.own x)) x (.ins Cl dx [])) := fun b u e => by
    rw [upd_ne (fun z => by rw [z, hFx] at e; cases e), upd_ne (fun z => by rw [z, hFd] at e; cases e)]
    exact m1.fh _ _ e
  refine ⟨(x, a y), F1, ?_, hS, fun c hc => ?_, by simp [Con.ini], .inl ⟨q1.1, fun r er v F2 H2 m2 rr => ?_⟩⟩
  · rw [List.append_nil]
    exact .cons ⟨.ref x, rfl, rfl⟩ (hi y F1 vs r1)
  · have : c = ⟨x, cI Cl []⟩ := by simpa [Con.ini] using hc
    subst this
    exact ⟨hFx, _, upd_same, dx, [], rfl, .nil⟩
  · obtain ⟨hF2, o, ho, dx2, fs2, e2, rf⟩ := m2.cell ⟨x, cI Cl (fdd r)⟩ (by simp [Con.ini])
    subst e2
    have hv : v = .non := rr
    refine ⟨hv, ?_⟩
    have keep : ∀ b u, H1 b = some u → H2 b = some u := fun b u e => by
      have n1 : b ≠ x := fun z => by rw [z, hx] at e; cases e
      have n2 : b ≠ dx := fun z => by rw [z, hdx] at e; cases e
      refine m2.kp b u (by rw [upd_ne n1, upd_ne n2]; exact e) fun c hc => ?_
      have : c = ⟨x, cI Cl []⟩ := by simpa [Con.ini] using hc
      subst this
      exact fun z => n1 z.symm
    have g1 : Grow F1 H1 (upd F2 x (.ins Cl dx2 fs2)) H2 := by
      refine ⟨m2.ff.trans (same_upd hF2), fun b u e => ?_, keep, fun b h1 h2 => ?_⟩
      · by_cases hb : b = x
        · subst hb; rw [upd_same] at e; cases e; exact ho
        · rw [upd_ne hb] at e; exact m2.fh _ _ e
      · by_cases hb : b = x
        · rw [hb]; exact hx
        · rw [upd_ne hb] at h2
          have := m2.fr b h1 h2
          rw [upd_ne hb] at this
          by_cases hb2 : b = dx
          · rw [hb2]; exact hdx
          · rw [upd_ne hb2] at this; exact this
    exact kk (y, r) _ _ H2 (m1.trans (ok1.grow g1)) ⟨x, dx2, fs2, rfl, upd_same, rf.mono (same_upd hF2)⟩ (q1.2 r er)
theorem fld_none {K : PySem.W.Frag} {F : Hp} {fs : List (Str × Slot K)} {vs : List (Str × V)} {m : Str} (h : FldOk F fs vs) (n : fs.lookup m = none) : vs.lookup m = none := by
  rcases h.look (f := m) with ⟨_, h2⟩ | ⟨s, v, h1, _, _⟩
  · exact h2
  · rw [n] at h1; cases h1
/-! ### ends -/
/-- a way that is never gone -/
theorem sk_never {st : List Stmt} : SK X B Y fl st ρ cs D False := fun F σ H ok p => p.elim
/-- the end of a def without a return -/
theorem sk_end {A R : Type} {C : Con X.K A R Unit} {a : A} {ψ : R → Prop} {b' c' : L2.St → Hp → Prop} (q : R) (hT : ∀ F, C.T.rep F .non (C.rv q)) (hc : C.cout a q = cs) : SK X B Y fl [] ρ cs { retD C a B ψ with bk := b', ct := c' } (ψ q) := fun F σ H ok p W tk hx' =>
  wb pss_nil ⟨q, F, by rw [hc]; exact ok.mv, hT F, p⟩
end
end MD
namespace MD
open PySem PySem.Spec PyProof.Rows L2
/-! ### calls by shape -/
/-- the arguments' types as slots -/
def Sl {K : PySem.W.Frag} {α : Type} (Ts : Tys K α) (ins : α → List (Slot K)) : Prop := ∀ F vs x, Ts.rep F vs x → Prd (fun s v => Slot.ok F s (some v)) (ins x) vs
section
variable {K : PySem.W.Frag} {α β γ δ : Type}
theorem sl0 : Sl (ts0 (K := K)) fun _ => [] := fun F vs x h => by
  have h : vs = [] := h
  subst h
  exact .nil
theorem sl1 {T : Ty K α} : Sl (ts1 T) fun x => [.val T x] := fun F vs x ⟨v, e, r⟩ => by subst e; exact .cons ⟨v, rfl, r⟩ .nil
theorem slC {T : Ty K α} {Ts : Tys K β} {ins : β → List (Slot K)} (h : Sl Ts ins) : Sl (tsC T Ts) fun x => .val T x.1 :: ins x.2 := fun F vs x ⟨v, r, e, h1, h2⟩ => by subst e; exact .cons ⟨v, rfl, h1⟩ (h F r x.2 h2)
/-- one owned list, then frozen things -/
def Con.o1 (T0 : Ty K δ) (ins : α → List (Slot K)) (T : Ty K γ) (pre : List δ → α → Prop) (post : List δ → α → γ → List δ → Prop) : Con K (Addr × List δ × α) (γ × List δ) γ where
  ins := fun a => .val tR a.1 :: ins a.2.2
  cin := fun a => [⟨a.1, cL T0 a.2.1⟩]
  wp := fun a φ _ => pre a.2.1 a.2.2 ∧ ∀ r c, post a.2.1 a.2.2 r c → φ (r, c)
  T := T
  rv := fun r => r.1
  cout := fun a r => [⟨a.1, cL T0 r.2⟩]
  mono := fun _ _ _ _ _ h _ w => ⟨w.1, fun r c e => h (r, c) (w.2 r c e)⟩
/-- frozen things, a new owned list -/
def Con.mk1 (ins : α → List (Slot K)) (T0 : Ty K δ) (pre : α → Prop) (post : α → List δ → Prop) : Con K α (Addr × List δ) Addr where
  ins := ins
  cin := fun _ => []
  wp := fun a φ _ => pre a ∧ ∀ l c, post a c → φ (l, c)
  T := tR
  rv := fun r => r.1
  cout := fun _ r => [⟨r.1, cL T0 r.2⟩]
  mono := fun _ _ _ _ _ h _ w => ⟨w.1, fun l c e => h (l, c) (w.2 l c e)⟩
end
section
variable {X : Cx} {fl : Hp} {B : Hb X.K} {Y : Ec X.K} {ρ : List (Slot X.K)} {cs : List (Cell X.K)} {A R α β γ δ μ ν : Type} {pos : Pos} {rest : List Stmt} {D : Ends} {e : Expr}
theorem pk_fn {k : Nat} {f : Addr} {fd : FuncData} {ps : List Str} {nm : Str} {p : Pos} {es : List Expr} {ins : α → List (Slot X.K)} {T : Ty X.K γ} {pre : α → Prop} {g : α → γ} {Ts : Tys X.K α} {x : α} {Pa : Prop}
    (F : FnOk X.prog X.w X.K X.mg X.base (L2.CX X.prog X.w) k f fd ps (Con.fn ins T pre g).sp) (hs : Sl Ts ins) (hr : Room k X.A) (hm : X.mg nm = some (.ref f)) (hk : PySem.W.keepIn X.K (.ref f) = true) (hb : Binds X.K fd ps [])
    (ha : PAK X (e :: es) ρ cs Ts x Pa) (hg : Gl X nm := by rfl) (hdb : (nm == ("__debug__" : Str)) = false := by decide) (he : starEach (e :: es) X.env = (false, eval e X.env) :: starEach es X.env := by rfl) (hpl : (backTo pos (starEach es X.env)).any (·.1) = false := by rfl) :
    PK X (.Call (.Name nm p) (e :: es) [] pos) ρ cs T (g x) (Pa ∧ pre x) := pk_call x F hr hm hk hb ha (fun F vs h => hs F vs x h) hg hdb he hpl
/-- f(l, ..), l an owned list at j -/
theorem ek_o1 {k : Nat} {f : Addr} {fd : FuncData} {ps : List Str} {nm : Str} {p : Pos} {es : List Expr} {T0 : Ty X.K δ} {ins : α → List (Slot X.K)} {T : Ty X.K γ} {pre : List δ → α → Prop} {post : List δ → α → γ → List δ → Prop} {Ts : Tys X.K α} {vl : μ → α} {cs1 : μ → List (Cell X.K)} {M : (μ → Prop) → Prop} {l : Addr} {c : μ → List δ} (j : Nat)
    (F : FnOk X.prog X.w X.K X.mg X.base (L2.CX X.prog X.w) k f fd ps (Con.o1 T0 ins T pre post).sp) (hs : Sl Ts ins) (hr : Room k X.A) (hm : X.mg nm = some (.ref f)) (hk : PySem.W.keepIn X.K (.ref f) = true) (hb : Binds X.K fd ps [])
    (hl : PK X e ρ cs tR l True) (ha : AK X Y es ρ cs Ts vl cs1 M) (hc : ∀ y, (cs1 y)[j]? = some ⟨l, cL T0 (c y)⟩) (hg : Gl X nm := by rfl) (hdb : (nm == ("__debug__" : Str)) = false := by decide) (he : starEach (e :: es) X.env = (false, eval e X.env) :: starEach es X.env := by rfl) (hpl : (backTo pos (starEach es X.env)).any (·.1) = false := by rfl) :
    EK X Y (.Call (.Name nm p) (e :: es) [] pos) ρ cs T (fun y : μ × γ × List δ => y.2.1) (fun y => (cs1 y.1).set j ⟨l, cL T0 y.2.2⟩) (fun φ => M fun y => pre (c y) (vl y) ∧ ∀ r w, post (c y) (vl y) r w → φ (y, r, w)) := fun F0 σ H ok xh φ q Q kk => by
  refine we (pe_call F hr hg hm hk hb .nil (E := E0) (passL) (pa_cons pe_w pa_w he) hdb he hpl) ?_
  refine hl F0 σ H ok.w trivial _ fun v F1 H1 g1 ev => ?_
  have m0 := ok.grow g1
  refine ha F1 σ H1 (ok.mv m0) (xh.mv m0) _ q _ fun y vs F2 H2 m2 r2 q2 => ?_
  have ok2 := (ok.mv m0).mv m2
  have hv : v = .ref l := ev
  subst hv
  refine ⟨(l, c y, vl y), F2, ?_, m2.fh, fun c0 h0 => ?_, by simp [Con.o1], q2.1, fun r w hp v F3 H3 m3 rr => ?_⟩
  · rw [List.append_nil]
    exact .cons ⟨_, rfl, rfl⟩ (hs F2 vs (vl y) r2)
  · have : c0 = ⟨l, cL T0 (c y)⟩ := by simpa [Con.o1] using h0
    subst this
    exact ok2.cell _ (List.mem_of_getElem? (hc y))
  · have m4 := mv_one (c' := ⟨l, cL T0 w⟩) (more := []) ok2 (hc y) rfl m3
    rw [List.append_nil] at m4
    exact kk (y, r, w) v F3 H3 ((m0.trans m2).trans m4) rr (q2.2 r w hp)
/-- x = f(..), a new owned list -/
theorem ek_mk1 {k : Nat} {f : Addr} {fd : FuncData} {ps : List Str} {nm : Str} {p : Pos} {es : List Expr} {T0 : Ty X.K δ} {ins : α → List (Slot X.K)} {pre : α → Prop} {post : α → List δ → Prop} {Ts : Tys X.K α} {vl : μ → α} {cs1 : μ → List (Cell X.K)} {M : (μ → Prop) → Prop}
    (F : FnOk X.prog X.w X.K X.mg X.base (L2.CX X.prog X.w) k f fd ps (Con.mk1 ins T0 pre post).sp) (hs : Sl Ts ins) (hr : Room k X.A) (hm : X.mg nm = some (.ref f)) (hk : PySem.W.keepIn X.K (.ref f) = true) (hb : Binds X.K fd ps [])
    (ha : AK X Y (e :: es) ρ cs Ts vl cs1 M) (hg : Gl X nm := by rfl) (hdb : (nm == ("__debug__" : Str)) = false := by decide) (he : starEach (e :: es) X.env = (false, eval e X.env) :: starEach es X.env := by rfl) (hpl : (backTo pos (starEach es X.env)).any (·.1) = false := by rfl) :
    EK X Y (.Call (.Name nm p) (e :: es) [] pos) ρ cs tR (fun y : μ × Addr × List δ => y.2.1) (fun y => cs1 y.1 ++ [⟨y.2.1, cL T0 y.2.2⟩]) (fun φ => M fun y => pre (vl y) ∧ ∀ l c, post (vl y) c → φ (y, l, c)) := fun F0 σ H ok xh φ q Q kk => by
  refine we (pe_call F hr hg hm hk hb .nil (E := E0) (passL) pa_w hdb he hpl) ?_
  refine ha F0 σ H ok xh _ q _ fun y vs F1 H1 m1 r1 q1 => ?_
  have ok1 := ok.mv m1
  refine ⟨vl y, F1, by rw [List.append_nil]; exact hs F1 vs (vl y) r1, m1.fh, fun c hc => absurd hc (by simp [Con.mk1]), by simp [Con.mk1], q1.1, fun l c hp v F2 H2 m rr => ?_⟩
  exact kk (y, l, c) v F2 H2 (m1.trans (mv_zero ok1 m)) rr (q1.2 l c hp)
theorem sk_setMk {i : Nat} {nm : Str} {pos' : Pos} {T0 : Ty X.K δ} {cs1 : μ → List (Cell X.K)} {M : (μ × Addr × List δ → Prop) → Prop} {φ : μ → Addr → List δ → Prop} (hN : X.N.Nodup) (he : EK X Y e ρ cs tR (fun y : μ × Addr × List δ => y.2.1) (fun y => cs1 y.1 ++ [⟨y.2.1, cL T0 y.2.2⟩]) M)
    (k : ∀ y l c, SK X B Y fl rest (ρ.set i (.val tR l)) (cs1 y ++ [⟨l, cL T0 c⟩]) D (φ y l c)) (hi : X.N[i]? = some nm := by rfl) (hx : Loc X.env.scope nm := by first | exact Or.inl rfl | exact Or.inr rfl)
    (hs : swapsWith e (some (.Name nm pos')) pos.line X.env = pure false := by rfl) (hf : X.fn nm = true ∨ X.env.scope.names.lookup nm = some .local := by first | exact .inl rfl | exact .inr rfl) :
    SK X B Y fl (.Assign [.Name nm pos'] e pos :: rest) ρ cs D (M fun y => φ y.1 y.2.1 y.2.2) := fun F σ H ok p W tk hx' => by
  refine wb (pss_cons (ps_set hN hi hx pe_w hs hf) pss_w) ?_
  refine he F σ H ok.c (xh_of ok tk hx') _ p _ fun y v F' H' m r q => ?_
  exact k y.1 y.2.1 y.2.2 F' _ H' ((ok.to m).set (T := tR) i r) q W tk hx'
/-! ### returns by shape -/
theorem sk_retO {T0 : Ty X.K δ} {ins : α → List (Slot X.K)} {T : Ty X.K γ} {pre : List δ → α → Prop} {post : List δ → α → γ → List δ → Prop} {a : Addr × List δ × α} {ψ : γ × List δ → Prop} {n b' c' : L2.St → Hp → Prop} {x : γ} {w : List δ} {P : Prop} {r : List Stmt} (he : PK X e ρ cs T x P) (hc : cs = [⟨a.1, cL T0 w⟩]) :
    SK X B Y fl (.Return (some e) pos :: r) ρ cs { retD (Con.o1 T0 ins T pre post) a B ψ with nx := n, bk := b', ct := c' } (P ∧ ψ (x, w)) := sk_ret (C := Con.o1 T0 ins T pre post) (x, w) he rfl hc.symm
theorem sk_retOE {T0 : Ty X.K δ} {ins : α → List (Slot X.K)} {T : Ty X.K γ} {pre : List δ → α → Prop} {post : List δ → α → γ → List δ → Prop} {a : Addr × List δ × α} {ψ : γ × List δ → Prop} {n b' c' : L2.St → Hp → Prop} {vl : μ → γ} {cs' : μ → List (Cell X.K)} {M : (μ → Prop) → Prop} {w : μ → List δ} {r : List Stmt} (he : EK X Y e ρ cs T vl cs' M) (hc : ∀ y, cs' y = [⟨a.1, cL T0 (w y)⟩]) :
    SK X B Y fl (.Return (some e) pos :: r) ρ cs { retD (Con.o1 T0 ins T pre post) a B ψ with nx := n, bk := b', ct := c' } (M fun y => ψ (vl y, w y)) := sk_retE (C := Con.o1 T0 ins T pre post) (fun y => (vl y, w y)) he (fun _ => rfl) fun y => (hc y).symm
/-- return [..], a new owned list -/
theorem sk_retN {ins : α → List (Slot X.K)} {T0 : Ty X.K δ} {pre : α → Prop} {post : α → List δ → Prop} {a : α} {ψ : Addr × List δ → Prop} {n b' c' : L2.St → Hp → Prop} {vl : μ → List δ} {M : (μ → Prop) → Prop} {r : List Stmt} (he : NE X Y e ρ [] T0 vl (fun _ => []) M) :
    SK X B Y fl (.Return (some e) pos :: r) ρ [] { retD (Con.mk1 ins T0 pre post) a B ψ with nx := n, bk := b', ct := c' } (M fun y => ∀ l c, c = vl y → ψ (l, c)) := sk_retE (C := Con.mk1 ins T0 pre post) (fun y : μ × Addr × List δ => (y.2.1, y.2.2)) he.own (fun _ => rfl) fun y => rfl
end
end MD
/-! MDt: enumerate(a tuple). -/
namespace MD
open PySem PySem.Spec PyProof.Rows L2
end MD
namespace MD
open PySem PySem.Spec PyProof.Rows L2
section
variable {X : Cx} {fl : Hp} {B : Hb X.K} {Y : Ec X.K} {ρ : List (Slot X.K)} {cs : List (Cell X.K)} {A R α β γ δ μ ν : Type} {pos : Pos} {rest : List Stmt} {D : Ends} {e : Expr}
theorem ek_tup {es : List Expr} {x1} {Ts : Tys X.K α} {vl : μ → α} {cs' : μ → List (Cell X.K)} {M : (μ → Prop) → Prop} (h : AK X Y es ρ cs Ts vl cs' M) (hl : ∀ F vs x, Ts.rep F vs x → vs.length ≤ 1000) : EK X Y (.Tuple es x1 pos) ρ cs (tT Ts) vl cs' M := fun F σ H ok xh φ p Q k => by
  refine we (pe_tup pa_w) ?_
  refine h F σ H ok xh φ p _ fun y vs F1 H1 m r q => ⟨Nat.le_trans (hl F1 vs _ r) (by decide), fun a ha => ?_⟩
  have g2 := grow_new m.fh ha (.tup vs)
  exact k y _ _ _ (m.trans ((ok.mv m).grow g2)) ⟨a, vs, rfl, upd_same, Ts.mono g2.ff r⟩ q
theorem sk_retFE {ins : A → List (Slot X.K)} {T : Ty X.K γ} {pre : A → Prop} {f : A → γ} {a : A} {ψ : γ → Prop} {n b' c' : L2.St → Hp → Prop} {vl : μ → γ} {cs' : μ → List (Cell X.K)} {M : (μ → Prop) → Prop} {r : List Stmt} (he : EK X Y e ρ cs T vl cs' M) (hc : ∀ y, cs' y = []) :
    SK X B Y fl (.Return (some e) pos :: r) ρ cs { retD (Con.fn ins T pre f) a B ψ with nx := n, bk := b', ct := c' } (M fun y => ψ (vl y)) := sk_retE (C := Con.fn ins T pre f) vl he (fun _ => rfl) fun y => (hc y).symm
theorem sk_drop {st : List Stmt} {φ : Prop} (j : Nat) (k : SK X B Y fl st ρ (cs.eraseIdx j) D φ) : SK X B Y fl st ρ cs D φ := fun F σ H ok p W tk hx' =>
  k F σ H ⟨ok.env, ⟨ok.mv.ff, ok.mv.fh, ok.mv.fr, ok.mv.kp, fun c hc => ok.mv.cell c (List.mem_of_mem_eraseIdx hc), ok.mv.nd.sublist ((List.eraseIdx_sublist _ _).map _), fun c hc => ok.mv.nw c (List.mem_of_mem_eraseIdx hc), ok.mv.st⟩, ok.flo⟩ p W tk hx'
/-! ### what is known of a callee, of a class -/
structure Cal (P : Program) (w : World) (K : PySem.W.Frag) (mg : Str → Option Value) (base : Heap) (nm : Str) (k : Nat) (ps : List Str) (sp : Sp) (f : Addr) (fd : FuncData) : Prop where
  F : FnOk P w K mg base (L2.CX P w) k f fd ps sp
  m : mg nm = some (.ref f)
  k : PySem.W.keepIn K (.ref f) = true
  b : Binds K fd ps []
structure Mth (P : Program) (w : World) (K : PySem.W.Frag) (mg : Str → Option Value) (base : Heap) (C : Addr) (nm : Str) (k : Nat) (ps : List Str) (sp : Sp) (f : Addr) (fd : FuncData) : Prop where
  F : FnOk P w K mg base (L2.CX P w) k f fd ps sp
  m : Meth K C nm f
  b : Binds K fd ps []
structure MkC (P : Program) (w : World) (K : PySem.W.Frag) (mg : Str → Option Value) (base : Heap) (C : Addr) (nm : Str) (k : Nat) (ps : List Str) (sp : Sp) (f : Addr) (fd : FuncData) : Prop where
  F : FnOk P w K mg base (L2.CX P w) k f fd ps sp
  m : mg nm = some (.ref C)
  mm : Mk K C f
  b : Binds K fd ps []
theorem ek_makeS {k : Nat} {Cl f : Addr} {fd : FuncData} {ps : List Str} {nm : Str} {p : Pos} {es : List Expr} {fdd : γ → List (Str × Slot X.K)} {ins : α → List (Slot X.K)} {pre : α → Prop} {g : α → γ} {exc : α → Exn X.K → Prop} {Ts : Tys X.K α} {vl : μ → α} {cs1 : μ → List (Cell X.K)} {M : (μ → Prop) → Prop}
    (c : MkC X.prog X.w X.K X.mg X.base Cl nm k ps (Con.ini Cl fdd ins pre g exc).sp f fd) (hr : Room (k + 1) X.A) (hs : Sl Ts ins) (ha : AK X Y (e :: es) ρ cs Ts vl cs1 M) (hg : Gl X nm := by rfl)
    (hdb : (nm == ("__debug__" : Str)) = false := by decide) (he : starEach (e :: es) X.env = (false, eval e X.env) :: starEach es X.env := by rfl) (hpl : (backTo pos (starEach es X.env)).any (·.1) = false := by rfl) :
    EK X Y (.Call (.Name nm p) (e :: es) [] pos) ρ cs (tIn Cl fdd) (fun y : μ × γ => y.2) (fun y => cs1 y.1) (fun φ => M fun y => pre (vl y) ∧ ∀ r, r = g (vl y) → φ (y, r)) :=
  ek_make vl c.mm c.F hr c.m c.b ha (fun y F vs h => hs F vs (vl y) h) hg hdb he hpl
/-- __init__'s end -/
theorem sk_endI {γ : Type} {Cl : Addr} {fd : γ → List (Str × Slot X.K)} {ins : A → List (Slot X.K)} {pre : A → Prop} {f : A → γ} {exc : A → Exn X.K → Prop} {a : Addr × A} {ψ : γ → Prop} {b' c' : L2.St → Hp → Prop} (q : γ) (hc : [⟨a.1, cI Cl (fd q)⟩] = cs) :
    SK X B Y fl [] ρ cs { retD (Con.ini Cl fd ins pre f exc) a B ψ with bk := b', ct := c' } (ψ q) := sk_end (C := Con.ini Cl fd ins pre f exc) q (fun _ => rfl) hc
theorem sk_st {st : List Stmt} {φ : Prop} {ρ2 : List (Slot X.K)} {cs2 : List (Cell X.K)} (h1 : ρ = ρ2) (h2 : cs = cs2) (k : SK X B Y fl st ρ2 cs2 D φ) : SK X B Y fl st ρ cs D φ := by subst h1; subst h2; exact k
theorem ek_ixR [Inhabited α] {a b : Expr} {T : Ty X.K α} {vl : μ → List α} {cs1 : μ → List (Cell X.K)} {M : (μ → Prop) → Prop} {i : Int} {P2 : Prop} (ha : EV X Y a ρ cs (fun y => rK T (vl y)) cs1 M) (hb : ∀ y, PK X b ρ (cs1 y) tI i P2) (hs : PlainIx b := by exact fun _ _ => rfl) :
    EK X Y (.Subscript a b pos) ρ cs T (fun y => pyIx (vl y) i) cs1 (fun φ => M fun y => P2 ∧ IxOk (vl y) i ∧ φ y) := fun F σ H ok xh φ p Q k => by
  refine we (pe_ix ix_list pe_w pe_w hs) ?_
  refine ha F σ H ok xh _ p _ fun y v F1 H1 m1 ⟨q, vs, e1, hq, r, z⟩ q1 => ?_
  refine hb y F1 σ H1 (ok.mv m1).w q1.1 _ fun w F2 H2 g2 r2 => ?_
  obtain ⟨u, hu, ru⟩ := rl_atI (Rl.mono g2.ff r) q1.2.1
  exact ⟨q, vs, i, u, e1, r2, g2.hh.seq hq, hu, k y u F2 H2 (m1.trans ((ok.mv m1).grow g2)) ru q1.2.2⟩
theorem sk_midX {ρ' : β → List (Slot X.K)} {cs' : β → List (Cell X.K)} {R : β → Prop} {z : β} (hn : D.nx = Mid B fl ρ' cs' R) (h : Le ρ (ρ' z)) (hc : cs = cs' z) : SK X B Y fl [] ρ cs D (R z) := fun F σ H ok p W tk hx' => by
  subst hc
  refine wb pss_nil ?_
  show D.nx σ H
  rw [hn]
  exact ⟨z, F, ⟨h.env ok.env, ok.mv, ok.flo⟩, p⟩
theorem sk_nilX {φ : Prop} {D' : Ends} (hn : D.nx = WB X rest D') (k : SK X B Y fl rest ρ cs D' φ) : SK X B Y fl [] ρ cs D φ := fun F σ H ok p W tk hx' => by
  refine wb pss_nil ?_
  show D.nx σ H
  rw [hn]
  exact k F σ H ok p W tk hx'
/-! ### chains of tests with effects -/
end
end MD
namespace MD
open PySem PySem.Spec PyProof.Rows L2
end MD
namespace MD
open PySem PySem.Spec PyProof.Rows L2
section
variable {X : Cx} {fl : Hp} {B : Hb X.K} {Y : Ec X.K} {ρ : List (Slot X.K)} {cs : List (Cell X.K)} {A R α β γ δ μ ν : Type} {pos : Pos} {rest : List Stmt} {D : Ends} {e : Expr} {es : List Expr} {t : TA}
def tUF {K : PySem.W.Frag} (T : Ty K α) : Ty K (List α) := ⟨fun F v xs => ∃ a vs o, v = .ref a ∧ F a = some (.frz o (.tup vs)) ∧ o.dict = none ∧ Rl T F vs xs ∧ vs.length ≤ sizeLine, fun e ⟨a, vs, o, h1, h2, hd, h3, h4⟩ => ⟨a, vs, o, h1, e _ _ h2, hd, h3.mono e, h4⟩⟩
theorem PK.uf {T : Ty X.K α} {xs : List α} {P : Prop} (h : PK X e ρ cs (tUF T) xs P) : PK X e ρ cs (tU T) xs P := fun F σ H ok p Q k => h F σ H ok p Q fun v F' H' g ⟨a, vs, o, h1, h2, hd, h3, h4⟩ => k v F' H' g ⟨a, vs, h1, .inr ⟨o, h2⟩, h3, h4⟩
/-- a method of such a tuple -/
theorem pe_bmF {o : Expr} {to : TE} {name : Str} {id : String} {r : V → List V → Hp → VK → Prop} {apos cpos : Pos} (slot : PySem.Slot "tuple" name id) (hty : typeOf (.builtin id) = pure (.type "method_descriptor")) (hm : MtR X id r) (ho : PE X o to) (ha : PA X (e :: es) t)
    (hbase : attributeBase o name X.env (eval o X.env) = eval o X.env := by rfl)
    (hfew : ((backTo cpos (starEach (e :: es) X.env)).all (fun x => !x.1) && (backToKw cpos (keywordEach [] X.env)).all (fun x => x.1.isSome) && decide ((e :: es).length + ([] : List Keyword).length + (if ([] : List Keyword).isEmpty then 0 else 1) < 30)) = true := by rfl)
    (hline : (apos.endLine == cpos.line) = true := by rfl) (hs : starEach (e :: es) X.env = (false, eval e X.env) :: starEach es X.env := by rfl) (hplain : (backTo cpos (starEach es X.env)).any (·.1) = false := by rfl) :
    PE X (.Call (.Attribute o name apos) (e :: es) [] cpos) (fun σ H Q => to σ H fun x H1 => (∃ a ob xs, x = .ref a ∧ H1 a = some (.frz ob (.tup xs)) ∧ ob.dict = none) ∧ t σ H1 fun vs H2 => r x vs H2 Q) := by
  refine ⟨fun pins s σ H Q I h => ?_⟩
  refine wpAny_Call_method_late hbase hfew hline rfl (thn (ho.run pins s σ H _ I h) fun v s1 ⟨x, H1, I1, r1, ⟨a, ob, xs, ex, hq, hd⟩, q1⟩ => ?_)
  subst ex
  obtain rfl : v = Value.ref a := r1
  obtain ⟨hg, _, its, _, o2, ho2, hc2, _⟩ := (show ObjOk X.prog X.w H1 s1.heap a (.frz ob (.tup xs)) from I1.hok a _ hq)
  refine ⟨"tuple", _, PySem.F.plainAttrs_tuple, slot, hty, ⟨o2, ho2, hc2⟩, fun b e => by cases e; exact ⟨ob, hg, hd⟩, ?_⟩
  have hA := ha.run cpos pins s1 σ H1 _ I1 q1
  rw [hs] at hA ⊢
  refine Calls.callWith_builtin (by show (false || (backTo cpos (starEach es X.env)).any (·.1)) = false; rw [hplain]; rfl) (Calls.evalArgs_plain ?_)
  exact thn hA fun us s2 ⟨vs, H2, I2, r2, q2⟩ => hm pins s2 σ H2 (.ref a) vs (.ref a) us Q I2 rfl r2 q2
theorem idxOf_first {y : Str} : ∀ {xs : List Str} {m : Nat}, m < xs.idxOf y → xs[m]? ≠ some y
  | [], m, h => by simp
  | x :: xs, m, h => by
    rw [List.idxOf_cons] at h
    cases e : x == y with
    | true => rw [e] at h; simp at h
    | false =>
      rw [e] at h
      cases m with
      | zero => simpa using e
      | succ m =>
        have : m < xs.idxOf y := by simpa using h
        simpa using idxOf_first this
/-- t.index(y), a text that is there -/
theorem pk_indexF {o : Expr} {xs : List Str} {y : Str} {P1 P2 : Prop} {apos cpos : Pos} (ho : PK X o ρ cs (tUF tS) xs P1) (hy : PK X e ρ cs tS y P2)
    (hbase : attributeBase o "index" X.env (eval o X.env) = eval o X.env := by rfl)
    (hfew : ((backTo cpos (starEach (e :: []) X.env)).all (fun x => !x.1) && (backToKw cpos (keywordEach [] X.env)).all (fun x => x.1.isSome) && decide ((e :: ([] : List Expr)).length + ([] : List Keyword).length + (if ([] : List Keyword).isEmpty then 0 else 1) < 30)) = true := by rfl)
    (hline : (apos.endLine == cpos.line) = true := by rfl) (hs : starEach (e :: []) X.env = (false, eval e X.env) :: starEach [] X.env := by rfl) (hplain : (backTo cpos (starEach [] X.env)).any (·.1) = false := by rfl) :
    PK X (.Call (.Attribute o "index" apos) [e] [] cpos) ρ cs tI ((xs.idxOf y : Nat) : Int) (P1 ∧ P2 ∧ y ∈ xs) := fun F σ H ok p Q k => by
  refine we (pe_bmF PySem.F.slot_tuple_index PySem.F.type_tuple_index mt_tup_index pe_w (pa_cons pe_w pa_nil hs) hbase hfew hline hs hplain) ?_
  refine ho F σ H ok p.1 _ fun v F1 H1 g1 ⟨a, vs, ob, e1, h1, hd, r, z⟩ => ?_
  refine ⟨⟨a, ob, vs, e1, g1.fh _ _ h1, hd⟩, ?_⟩
  refine hy F1 σ H1 (ok.grow g1) p.2.1 _ fun w F2 H2 g2 r2 => ?_
  obtain ⟨e3, _⟩ := rl_strs r
  subst e3
  have hlt : xs.idxOf y < xs.length := List.idxOf_lt_length_iff.mpr p.2.2
  refine ⟨a, xs, y, xs.idxOf y, e1, by rw [r2.1], .inl (.inr ⟨ob, g2.fh _ _ (g2.ff _ _ h1)⟩), ?_, fun m hm hme => ?_, k _ F2 H2 (g1.trans g2) rfl⟩
  · rw [List.getElem?_eq_getElem hlt, List.getElem_idxOf hlt]
  · exact idxOf_first hm hme
end
end MD
namespace MD
open PySem PySem.Spec PyProof.Rows L2
section
variable {X : Cx} {fl : Hp} {B : Hb X.K} {Y : Ec X.K} {ρ : List (Slot X.K)} {cs : List (Cell X.K)} {A R α β γ δ μ ν : Type} {pos : Pos} {rest : List Stmt} {D : Ends} {e : Expr}
/-! ### chains of two comparisons -/
/-! ### a sign in a text -/
/-! ### texts of a module -/
/-! ### split -/
theorem mem_join {sep : Str} : ∀ {ps : List Str} {p : Str} {c : Nat}, p ∈ ps → c ∈ p.cps.toList → c ∈ (Str.join sep ps).cps.toList
  | [], _, _, h, _ => by cases h
  | [x], p, c, h, hc => by
    have : p = x := by simpa using h
    subst this
    exact hc
  | x :: y :: r, p, c, h, hc => by
    have e : Str.join sep (x :: y :: r) = x ++ sep ++ Str.join sep (y :: r) := rfl
    have e2 : (x ++ sep ++ Str.join sep (y :: r)).cps.toList = x.cps.toList ++ sep.cps.toList ++ (Str.join sep (y :: r)).cps.toList := by
      show ((x.cps ++ sep.cps) ++ (Str.join sep (y :: r)).cps).toList = _
      rw [Array.toList_append, Array.toList_append]
    rw [e, e2]
    rcases List.mem_cons.mp h with h | h
    · subst h
      exact List.mem_append.mpr (.inl (List.mem_append.mpr (.inl hc)))
    · exact List.mem_append.mpr (.inr (mem_join h hc))
/-! ### for over what is made with effects -/
/-! ### equality behind effects -/
end
end MD
namespace MD
open PySem PySem.Spec PyProof.Rows L2
/-! ### refusals -/
inductive Rf where
  | noText (n : Int) | twice (s : Str) | badStep (i : Int) (s : Str) | badGood (i : Int) | noLetter (s : Str) | noDesk (s : Str)
  | otherLetters | notices (a b : List Str) | tooMany (n : Int) | noName (s : Str) | noKind | noRow
/-- where the classes stand -/
structure XA where
  NoText : Addr := 0
  Twice : Addr := 0
  BadStep : Addr := 0
  BadGood : Addr := 0
  NoLetter : Addr := 0
  NoDesk : Addr := 0
  OtherLetters : Addr := 0
  Notices : Addr := 0
  TooMany : Addr := 0
  NoName : Addr := 0
  NoKind : Addr := 0
  NoRow : Addr := 0
def exn {K : PySem.W.Frag} (xa : XA) : Rf → Exn K
  | .noText n => ⟨xa.NoText, [("line", .val tI n)]⟩
  | .twice s => ⟨xa.Twice, [("name", .val tS s)]⟩
  | .badStep i s => ⟨xa.BadStep, [("letter", .val tS s), ("state", .val tI i)]⟩
  | .badGood i => ⟨xa.BadGood, [("state", .val tI i)]⟩
  | .noLetter s => ⟨xa.NoLetter, [("letter", .val tS s)]⟩
  | .noDesk s => ⟨xa.NoDesk, [("desk", .val tS s)]⟩
  | .otherLetters => ⟨xa.OtherLetters, []⟩
  | .notices a b => ⟨xa.Notices, [("other", .val (tL tS) b), ("one", .val (tL tS) a)]⟩
  | .tooMany n => ⟨xa.TooMany, [("most", .val tI n)]⟩
  | .noName s => ⟨xa.NoName, [("name", .val tS s)]⟩
  | .noKind => ⟨xa.NoKind, []⟩
  | .noRow => ⟨xa.NoRow, []⟩
/-- what of the text an exception's class must have -/
structure XcT (K : PySem.W.Frag) (mg : Str → Option Value) (nm : Str) (C : Addr) : Prop where
  gC : mg nm = some (.ref C)
  ox : OexC K C
  is : ExcC K C
/-- .. its base, whose __init__ is ValueError's -/
structure MoT (K : PySem.W.Frag) (mg : Str → Option Value) (nm : Str) (B : Addr) : Prop where
  gB : mg nm = some (.ref B)
  sp : PySem.W.specialIn K (.ref B) "__getattribute__" = some (some (.builtin "type.__getattribute__"))
  rd : PySem.W.readsIn K B (.type "type") = true
  fi : PySem.W.findCls K (.ref B) (.type "type") "__init__" = some (.val (.builtin "ValueError.__init__"))
section
variable {X : Cx} {o e : Expr} {es : List Expr} {ta : TA} {p1 p2 pos : Pos}
/-- Base.__init__(self, ..) -/
theorem pe_moinit {nm : Str} {Ba : Addr} {pl : Sem Bool} (T : MoT X.K X.mg nm Ba) (ha : PA X (e :: es) ta) (hg : Gl X nm := by rfl) (hdb : (nm == ("__debug__" : Str)) = false := by decide)
    (hc : eval (.Call (.Attribute (.Name nm p1) "__init__" p2) (e :: es) [] pos) X.env = (do
      let ov ← eval (.Name nm p1) X.env
      standAt p2.atName
      let (f, first) ← holding [ov] (getMethod ov "__init__" pl)
      callWith pos f first (backTo pos (starEach (e :: es) X.env)) (backToKw pos (keywordEach [] X.env))) := by rfl)
    (he : starEach (e :: es) X.env = (false, eval e X.env) :: starEach es X.env := by rfl) (hpl : (backTo pos (starEach es X.env)).any (·.1) = false := by rfl) :
    PE X (.Call (.Attribute (.Name nm p1) "__init__" p2) (e :: es) [] pos) (tVeI X.K ta) := by
  refine ⟨fun pins s σ H Q inv0 hq0 => ?_⟩
  refine PySem.W.methodCall_KW (ld_glob inv0 hg T.gB ?_ hdb) hc
  refine PySem.W.method_cls inv0.kIn T.sp (PySem.W.cls_value inv0.kIn T.rd T.fi (by decide +kernel) ?_)
  show wpAny _ _ (callWith pos (Value.builtin "ValueError.__init__") [] _ []) _ _ _
  refine PyProof.Rows.callWith_method1 (thn (ha.run pos pins _ σ H _ (inv0.tok _) hq0) fun us s1 hh => ?_) he hpl
  obtain ⟨vs, H1, inv1, r1, a, C, ws, ev, hl, tt, ea, q⟩ := hh
  subst ev
  cases r1 with
  | @cons _ u0 _ ur ra rw' =>
    have eu : u0 = Value.ref a := ra
    subst eu
    have hlen : ur.length ≤ sizeLine := by
      have := Paired.length rw'
      rw [sizeLine_eq]
      omega
    exact oinit_ok tt inv1 ea hlen fun s' j => ⟨.non, H1, j, rfl, q⟩
end
/-! ### the promises of __init__ -/
/-- one field -/
def spX1 (C : Addr) (f : Str) : Sp := fun vs H Q _ => ∃ (a : Addr) (v : V), vs = [.ref a, v] ∧ H a = some (exo a C none) ∧ ∀ d, H d = none → d ≠ a → Q .non (upd (upd H d (exd d [(f, v)])) a (exo a C (some d)))
/-- the heap behind the making -/
theorem made_heap {H : Hp} {a d : Addr} {fs : List (Str × V)} {H2 : Hp} (ha : H a = none) (hd : d ≠ a) (h2 : ∀ b, b ≠ a → b ≠ d → H2 b = H b) : upd (del H2 a) d (.xd fs) = upd H d (.xd fs) := by
  funext b
  by_cases h : b = d
  · subst h; rw [upd_same, upd_same]
  · rw [upd_ne h, upd_ne h]
    by_cases h' : b = a
    · subst h'; rw [del_same, ha]
    · rw [del_ne h', h2 b h' h]
section
variable {X : Cx} {fl : Hp} {B : Hb X.K} {Y : Ec X.K} {ρ : List (Slot X.K)} {cs : List (Cell X.K)} {A R α β γ δ μ ν : Type} {pos : Pos} {rest : List Stmt} {D : Ends} {e : Expr}
/-- what an exception with these fields leaves, frozen -/
theorem exn_made {F H : Hp} {d : Addr} {fs : List (Str × Slot X.K)} {vs : List (Str × V)} (s : Same F H) (hd : H d = none) (h : FldOk F fs vs) (C : Addr) :
    Grow F H (upd F d (.xd vs)) (upd H d (.xd vs)) ∧ ExnRep (upd F d (.xd vs)) ⟨C, fs⟩ (.ref C) (some d) := by
  have g := grow_new s hd (.xd vs)
  exact ⟨g, rfl, .inr ⟨d, vs, rfl, upd_same, h.mono g.ff⟩⟩
theorem sk_raise1 {nm f1 : Str} {C fI : Addr} {fd : FuncData} {ps : List Str} {k : Nat} {T1 : Ty X.K α} {x : α} {P : Prop} {p pos2 : Pos} (hc : X.calm = true) (T : XcT X.K X.mg nm C) (iC : PySem.W.findIn X.K (.ref C) "__init__" = some (some (.ref fI))) (tI : PySem.W.typeIn X.K (.ref fI) = some (.type "function"))
    (F1 : FnOk X.prog X.w X.K X.mg X.base (L2.CX X.prog X.w) k fI fd ps (spX1 C f1)) (hb : Binds X.K fd ps []) (hr : Room (k + 1) X.A) (ha : PK X e ρ cs T1 x P) (hk : ∀ c ∈ Y.kp, c ∈ cs) (hg : Gl X nm := by rfl)
    (hdb : (nm == ("__debug__" : Str)) = false := by decide) (he : starEach (e :: []) X.env = (false, eval e X.env) :: starEach [] X.env := by rfl) (hpl : (backTo pos (starEach [] X.env)).any (·.1) = false := by rfl) :
    SK X B Y fl (.Raise (some (.Call (.Name nm p) [e] [] pos)) none pos2 :: rest) ρ cs D (P ∧ Y.ε ⟨C, [(f1, .val T1 x)]⟩) := fun F σ H ok q W tk hx' => by
  refine wb (pss_cons (ps_raise hc tk (pmk_oex T.ox iC tI F1 hr hb .nil (passL) hg T.gC (pa_cons pe_w pa_nil he) hdb he hpl)) pss_w) ?_
  refine ha F σ H ok.c.w q.1 _ fun v F1 H1 g1 r => ?_
  have ok1 := ok.to (ok.c.grow g1)
  refine ⟨by show 1 ≤ 1000; decide, fun a hna => ⟨a, v, rfl, upd_same, fun d hd hda => ⟨rfl, d, [(f1, v)], upd_same, by rw [upd_ne hda, upd_same], ?_, ?_⟩⟩⟩
  · rw [upd_ne hda] at hd; exact hd
  · rw [upd_ne hda] at hd
    rw [made_heap (H := H1) hna hda fun b h1 h2 => by rw [upd_ne h1, upd_ne h2, upd_ne h1]]
    obtain ⟨g2, rep⟩ := exn_made (X := X) (fs := [(f1, .val T1 x)]) (vs := [(f1, v)]) g1.fh hd (.cons ⟨v, rfl, r⟩ .nil) C
    exact hx' _ _ _ cs _ _ σ (ok1.to (ok1.c.grow g2)).mv hk rep q.2
end
end MD
namespace MD
open PySem PySem.Spec PyProof.Rows L2
/-! ### making and methods that may raise, at the slots as they are -/
section
variable {X : Cx} {CXx : CXT} {C f : Addr} {fd : FuncData} {k : Nat} {ps : List Str} {sp : Sp} {ds : List Value} {dvs : List V} {Ex : L2.St → XK}
variable {x m : Str} {o e : Expr} {es : List Expr} {t : TA} {to : TE} {p pos apos : Pos}
def tMethE (C : Addr) (m : Str) (sp : Sp) (Ex : L2.St → XK) (to : TE) (t : TA) : TE := fun τ H Q => to τ H fun x H1 => ∃ a dx fs, x = .ref a ∧ H1 a = some (.ins C dx fs) ∧ fs.lookup m = none ∧ t τ H1 fun vs H2 => sp (.ref a :: vs) H2 Q (Ex τ)
theorem pe_methE {pl : Sem Bool} (ho : PE X o to) (c : Cls X.K C) (hm : Meth X.K C m f) (F : FnOk X.prog X.w X.K X.mg X.base CXx k f fd ps sp) (hr : Room k X.A) (hb : Binds X.K fd ps []) (hx : ∀ τ, PassesAt CXx X τ (Ex τ)) (ha : PA X (e :: es) t)
    (hst : starEach (e :: es) X.env = (false, eval e X.env) :: starEach es X.env := by rfl) (hpl : (backTo pos (starEach es X.env)).any (·.1) = false := by rfl)
    (ht : eval (.Call (.Attribute o m apos) (e :: es) [] pos) X.env = (do
      let ov ← eval o X.env
      standAt apos.atName
      let (f, first) ← holding [ov] (getMethod ov m pl)
      callWith pos f first (backTo pos (starEach (e :: es) X.env)) (backToKw pos (keywordEach [] X.env))) := by rfl) :
    PE X (.Call (.Attribute o m apos) (e :: es) [] pos) (tMethE C m sp Ex to t) := by
  refine ⟨fun pn s τ H Q inv ask => ?_⟩
  refine PySem.W.methodCall_KW (pl := pl) (thn (ho.run pn s τ H _ inv ask) fun u s1 hh => ?_) ht
  obtain ⟨x, H1, inv1, rx, a, dx, fs, ex, ea, l, q⟩ := hh
  subst ex
  have eu : u = Value.ref a := rx
  subst eu
  refine getmeth_ok inv1 ea c hm l ?_
  refine PySem.W.callWith_K (first := [.ref a]) (h₀ := X.base) inv.ok.mod.kin hm.kp (thn (ha.run pos pn s1 τ H1 _ inv1 q) fun us s2 h2 => ?_) hst hpl
  obtain ⟨vs, H2, inv2, rel, q2⟩ := h2
  exact ⟨inv2.kIn, run_fnS (us := .ref a :: us) (vs := .ref a :: vs) F hr hb (hx τ) inv2 (.cons rfl rel) q2⟩
end
/-! ### contracts of what may raise -/
/-- where pre holds: a value, or a refusal -/
def Con.fx {K : PySem.W.Frag} {A γ : Type} (xa : XA) (ins : A → List (Slot K)) (T : Ty K γ) (pre : A → Prop) (g : A → γ ⊕ Rf) : Con K A γ γ where
  ins := ins
  cin := fun _ => []
  wp := fun a φ ε => pre a ∧ (∀ r, g a = .inl r → φ r) ∧ ∀ e, g a = .inr e → ε (exn xa e)
  T := T
  rv := fun r => r
  cout := fun _ _ => []
  mono := fun _ _ _ _ _ h h' w => ⟨w.1, fun r e => h r (w.2.1 r e), fun e q => h' _ (w.2.2 e q)⟩
theorem Mv.none {K : PySem.W.Frag} {cs cs1 : List (Cell K)} {F H F' H' : Hp} (m : Mv cs F H cs1 F' H') : Mv cs F H [] F' H' :=
  ⟨m.ff, m.fh, m.fr, m.kp, fun c h => (nomatch h), List.nodup_nil, fun c h => (nomatch h), m.st⟩
/-! ### calls of what may raise -/
section
variable {X : Cx} {fl : Hp} {B : Hb X.K} {Y : Ec X.K} {ρ : List (Slot X.K)} {cs : List (Cell X.K)} {A R α β γ δ μ ν : Type} {pos : Pos} {rest : List Stmt} {D : Ends} {e : Expr}
theorem ek_fx {xa : XA} {k : Nat} {f : Addr} {fd : FuncData} {ps : List Str} {nm : Str} {p : Pos} {es : List Expr} {ins : α → List (Slot X.K)} {T : Ty X.K γ} {pre : α → Prop} {g : α → γ ⊕ Rf} {Ts : Tys X.K α} {vl : μ → α} {cs1 : μ → List (Cell X.K)} {M : (μ → Prop) → Prop}
    (F : FnOk X.prog X.w X.K X.mg X.base (L2.CX X.prog X.w) k f fd ps (Con.fx xa ins T pre g).sp) (hs : Sl Ts ins) (hr : Room k X.A) (hm : X.mg nm = some (.ref f)) (hk : PySem.W.keepIn X.K (.ref f) = true) (hb : Binds X.K fd ps [])
    (ha : AK X Y (e :: es) ρ cs Ts vl cs1 M) (hy : ∀ y, ∀ c ∈ Y.kp, c ∈ cs1 y) (hg : Gl X nm := by rfl) (hdb : (nm == ("__debug__" : Str)) = false := by decide) (he : starEach (e :: es) X.env = (false, eval e X.env) :: starEach es X.env := by rfl) (hpl : (backTo pos (starEach es X.env)).any (·.1) = false := by rfl) :
    EK X Y (.Call (.Name nm p) (e :: es) [] pos) ρ cs T (fun y : μ × γ => y.2) (fun y => cs1 y.1) (fun φ => M fun y => pre (vl y) ∧ (∀ r, g (vl y) = .inl r → φ (y, r)) ∧ ∀ r, g (vl y) = .inr r → Y.ε (exn xa r)) := fun F0 σ H ok xh φ q Q kk => by
  obtain ⟨W, tk, hW⟩ := id xh
  refine we (pe_callS F hr hg hm hk hb (E := L2.WE W) (fun σ => passAt tk σ) pa_w hdb he hpl) ?_
  refine ha F0 σ H ok xh _ q _ fun y vs F1 H1 m1 r1 q1 => ?_
  have ok1 := ok.mv m1
  have up : ∀ {F2 H2 : Hp}, Mv (K := X.K) [] F1 H1 [] F2 H2 → Mv cs F0 H (cs1 y) F2 H2 := fun m => m1.trans (ok1.grow ⟨m.ff, m.fh, fun b o e => m.kp b o e fun c hc => (nomatch hc), m.fr⟩)
  refine ⟨vl y, F1, hs F1 vs (vl y) r1, m1.fh, fun c hc => absurd hc (by simp [Con.fx]), by simp [Con.fx], q1.1, fun r er v F2 H2 m rr => ?_, fun r er cls d F2 H2 m rep => ?_⟩
  · exact kk (y, r) v F2 H2 (up m) rr (q1.2.1 r er)
  · exact hW _ cls d (cs1 y) F2 H2 (up m) (hy y) rep (q1.2.2 r er)
theorem ek_methX {xa : XA} {k : Nat} {C f : Addr} {fd : FuncData} {ps : List Str} {m : Str} {o : Expr} {es : List Expr} {fdd : δ → List (Str × Slot X.K)} {z : δ} {ins : δ × α → List (Slot X.K)} {T : Ty X.K γ} {pre : δ × α → Prop} {g : δ × α → γ ⊕ Rf} {Ts : Tys X.K α} {vl : μ → α} {cs1 : μ → List (Cell X.K)} {M : (μ → Prop) → Prop} {P1 : Prop} {apos : Pos} {pl : Sem Bool}
    (c : Cls X.K C) (mth : Mth X.prog X.w X.K X.mg X.base C m k ps (Con.fx xa ins T pre g).sp f fd) (hr : Room k X.A) (hs : Sl (tsC (tIn C fdd) Ts) ins)
    (ho : PK X o ρ cs (tIn C fdd) z P1) (ha : AK X Y (e :: es) ρ cs Ts vl cs1 M) (hy : ∀ y, ∀ c ∈ Y.kp, c ∈ cs1 y) (hn : (fdd z).lookup m = none := by rfl)
    (hst : starEach (e :: es) X.env = (false, eval e X.env) :: starEach es X.env := by rfl) (hpl : (backTo pos (starEach es X.env)).any (·.1) = false := by rfl)
    (ht : eval (.Call (.Attribute o m apos) (e :: es) [] pos) X.env = (do
      let ov ← eval o X.env
      standAt apos.atName
      let (f, first) ← holding [ov] (getMethod ov m pl)
      callWith pos f first (backTo pos (starEach (e :: es) X.env)) (backToKw pos (keywordEach [] X.env))) := by rfl) :
    EK X Y (.Call (.Attribute o m apos) (e :: es) [] pos) ρ cs T (fun y : μ × γ => y.2) (fun y => cs1 y.1) (fun φ => P1 ∧ M fun y => pre (z, vl y) ∧ (∀ r, g (z, vl y) = .inl r → φ (y, r)) ∧ ∀ r, g (z, vl y) = .inr r → Y.ε (exn xa r)) := fun F0 σ H ok xh φ q Q kk => by
  obtain ⟨W, tk, hW⟩ := id xh
  refine we (pe_methE pe_w c mth.m mth.F hr mth.b (Ex := L2.WE W) (fun σ => passAt tk σ) pa_w hst hpl ht) ?_
  refine ho F0 σ H ok.w q.1 _ fun v F1 H1 g1 rz => ?_
  obtain ⟨ad, dx, vs0, e1, h1, rf⟩ := id rz
  subst e1
  refine ⟨ad, dx, vs0, rfl, g1.fh _ _ h1, fld_none rf hn, ?_⟩
  have m0 := ok.grow g1
  refine ha F1 σ H1 (ok.mv m0) (xh.mv m0) _ q.2 _ fun y vs F2 H2 m2 r2 q2 => ?_
  have ok2 := (ok.mv m0).mv m2
  have up : ∀ {F3 H3 : Hp}, Mv (K := X.K) [] F2 H2 [] F3 H3 → Mv cs F0 H (cs1 y) F3 H3 := fun mm => (m0.trans m2).trans (ok2.grow ⟨mm.ff, mm.fh, fun b o e => mm.kp b o e fun c hc => (nomatch hc), mm.fr⟩)
  refine ⟨(z, vl y), F2, hs F2 (.ref ad :: vs) (z, vl y) ⟨.ref ad, vs, rfl, (tIn C fdd).mono m2.ff rz, r2⟩, m2.fh, fun c hc => absurd hc (by simp [Con.fx]), by simp [Con.fx], q2.1, fun r er v F3 H3 m rr => ?_, fun r er cls d F3 H3 m rep => ?_⟩
  · exact kk (y, r) v F3 H3 (up m) rr (q2.2.1 r er)
  · exact hW _ cls d (cs1 y) F3 H3 (up m) (hy y) rep (q2.2.2 r er)
end
end MD
namespace MD
open PySem PySem.Spec PyProof.Rows L2
/-! ### except clauses, each with a name or with none -/
abbrev Clause := Value × Option Nat × (Addr → Value → Option Addr → TS)
def offI (D : Ends) (i : Nat) : Ends := { nx := fun σ H => D.nx (σ.set i none) H, rt := D.rt, bk := fun σ H => D.bk (σ.set i none) H, ct := fun σ H => D.ct (σ.set i none) H }
def wMix (K : PySem.W.Frag) (Wo : WX) (D : Ends) : List Clause → WX
  | [] => Wo
  | (c, none, ts) :: r => fun cls d σ H => ∃ b, PySem.W.exmOne K cls c = some b ∧ (b = true → ∀ a, H a = none → ts a cls d D σ H) ∧ (b = false → wMix K Wo D r cls d σ H)
  | (c, some i, ts) :: r => fun cls d σ H => ∃ b, PySem.W.exmOne K cls c = some b ∧ (b = true → ∀ a, H a = none → ts a cls d (offI D i) (σ.set i (some (.ref a))) H) ∧ (b = false → wMix K Wo D r cls d σ H)
inductive HdMix (X : Cx) : List ExceptHandler → List Clause → Prop
  | nil : HdMix X [] []
  | cons {x : Str} {c : Value} {ts : Addr → Value → Option Addr → TS} {b₀ : Stmt} {suite : List Stmt} {np pos' : Pos} {hds : List ExceptHandler} {l : List Clause} (hc : Names X x c)
      (hsu : ∀ (a : Addr) (oe : Obj) (cls : Value) (d : Option Addr) (pn : List (Addr × Obj)), Zc cls d oe → (∃ vs, oe.data = .fields vs) → PSs (X.suite a ((a, oe) :: pn)) (b₀ :: suite) (ts a cls d)) (r : HdMix X hds l) :
      HdMix X (.ExceptHandler (some (.Name x np)) none (b₀ :: suite) pos' :: hds) ((c, none, ts) :: l)
  | consAs {x n : Str} {i : Nat} {c : Value} {ts : Addr → Value → Option Addr → TS} {b₀ : Stmt} {suite : List Stmt} {np pos' : Pos} {hds : List ExceptHandler} {l : List Clause} (hc : Names X x c) (hi : X.N[i]? = some n) (hln : X.env.kindOf n = some .local)
      (hsu : ∀ (a : Addr) (oe : Obj) (cls : Value) (d : Option Addr) (pn : List (Addr × Obj)), Zc cls d oe → (∃ vs, oe.data = .fields vs) → PSs (X.suite a ((a, oe) :: pn)) (b₀ :: suite) (ts a cls d)) (r : HdMix X hds l) :
      HdMix X (.ExceptHandler (some (.Name x np)) (some n) (b₀ :: suite) pos' :: hds) ((c, some i, ts) :: l)
section
variable {X : Cx} {body : List Stmt} {h₀ : ExceptHandler} {hds : List ExceptHandler} {l : List Clause} {pos : Pos} {tb : WX → TS} {Wo : WX}
theorem ps_try_mix (hs : X.stack = X.env :: X.outer) (hf : X.env.frame = some X.env.locals) (hN : X.N.Nodup) (tk : Takes X Wo)
    (hb : ∀ (W : WX) (pn : List (Addr × Obj)) (xe : Value → Shared → Prop), Takes (X.tr pn xe) W → PassesOwn (model X.prog X.w) X.A X.env xe → PSs (X.tr pn xe) body (tb W))
    (hh : HdMix X (h₀ :: hds) l) : PS X (.Try body (h₀ :: hds) [] [] pos) (fun D σ H => tb (wMix X.K Wo D l) D σ H) := by
  refine ⟨fun pins s σ H D inv ask => ?_⟩
  have okX := inv.ok
  have frA : X.A.frames = some (X.env :: X.outer) := by rw [okX.frames, hs]
  refine wpAny_Try_except ?_
  refine wpAny_mono ((hb (wMix X.K Wo D l) (X.pn ++ pins) (fun e sa => wpAny (model X.prog X.w) X.A (noteFrame e X.env) (fun _ sb => wpAny (model X.prog X.w) X.A (setFlight e none) (fun _ sc =>
    wpAny (model X.prog X.w) X.A (handleBy e X.env (h₀ :: hds)) (SP X pins D) X.xe sc) X.xe sb) X.xe sa) (fun u s' met => ?_) PassesOwn.looking).run [] s σ H D (inv.toTry _) ask) (fun f s1 fin => ?_) (fun e s1 he => he)
  · obtain ⟨a, B, sI, pins', σ', H', cls, d, rfl, inv0, nb, up, sky, na, os, ag, w⟩ := met
    have inv1 : Inv X pins σ' H' sI := inv0.ofTry okX
    have sky' : Sky B (X.env :: X.outer) a (Zc cls d) X.env.locals s'.heap := by rw [← hs]; exact sky
    show wpAny (model X.prog X.w) X.A (noteFrame (.ref a) X.env) _ _ _
    refine Sky.land Zc.steady frA hf sky' fun h3 fl3 up3 => ?_
    have inv3 : Inv X pins σ' H' { s' with heap := h3 } := inv1.landed nb fl3.1 (up.trans up3) os ag
    obtain ⟨o3, v3, e3, z3, d3⟩ := fl3.there
    have away : a ∉ frs (X.env :: X.outer) := fun hm => by
      obtain ⟨_, o', e', hnf⟩ := (fl3.2.2.1).mem hm
      rw [e3] at e'
      cases e'
      exact hnf _ d3
    have nL : a ≠ X.env.locals := fun z => away (List.mem_filterMap.mpr ⟨X.env, List.mem_cons_self, by rw [hf, z]⟩)
    have nF : a ∉ X.fs := fun hm => by
      obtain ⟨e, he, q⟩ := List.mem_filterMap.mp hm
      exact away (List.mem_filterMap.mpr ⟨e, List.mem_cons_of_mem _ he, q⟩)
    have suit3 := inv3.suite e3 d3 na nL nF
    have ask1 : ∀ {x : Str} {c : Value} {np : Pos} {Q : Value → Shared → Prop} {E : Value → Shared → Prop}, Names X x c → Q c { s' with heap := h3 } → wpAny (model X.prog X.w) (X.A.mark (some (.ref a))) (eval (.Name x np) X.env) Q E { s' with heap := h3 } := fun hc q => by
      obtain ⟨hg, hdbg, hm | ⟨hm, hv, hnn⟩⟩ := hc
      · exact ld_glob (X := X.suite a ((a, o3) :: (X.pn ++ pins))) suit3 hg hm q hdbg
      · exact ld_blt (X := X.suite a ((a, o3) :: (X.pn ++ pins))) suit3 hg hm hv q hnn hdbg
    have kind : PySem.W.Looks (model X.prog X.w) h3 (typeOf (.ref a)) cls := fun A Q E s k q => wpAny_typeOf_ref (k _ _ e3) (by rw [z3.1]; exact q)
    have go : ∀ {hds' : List ExceptHandler} {l' : List Clause}, HdMix X hds' l' → wMix X.K Wo D l' cls d σ' H' →
        wpAny (model X.prog X.w) X.A (handleBy (.ref a) X.env hds') (SP X pins D) X.xe { s' with heap := h3 } := by
      intro hds' l' hk
      induction hk with
      | nil =>
        intro w
        refine wpAny_handleBy_nil ?_
        obtain ⟨k1, k2, k3, oe, vs, T, oT, ts', he, hz, hd, h1, hr⟩ := id fl3
        unfold PySem.passOn
        refine wpAny_bind (wpAny_field he hd h1 ?_)
        rw [if_neg (show ¬ ((Value.ref T == Value.none) = true) from by simp)]
        have out : wpAny (model X.prog X.w) X.A (setFlight (.ref a) X.env.frame) (fun _ s4 => wpAny (model X.prog X.w) X.A (throw (.ref a) : Sem Flow) (SP X pins D) X.xe s4) X.xe { s' with heap := h3 } := by
          rw [hf]
          refine HandSPX.setFlight_upZ fl3 fun h4 hh4 up4 => wpAny_throw (tk _ _ ?_)
          exact ⟨a, B, sI, pins, σ', H', cls, d, rfl, inv1, nb, (up.trans up3).trans up4, .inr (.inr (by rw [hs]; exact hh4)), na, os, ag, w⟩
        first
          | exact wpAny_bind (wpAny_pure (wpAny_bind out))
          | exact wpAny_bind out
      | cons hc hsu r ih =>
        intro w
        obtain ⟨b, hb1, hyes, hno⟩ := w
        refine wpAny_handleBy_cons (codeAny_handlers_test ?_) (by intro q; cases q)
        refine ask1 hc ((PySem.W.exm_one (M := model X.prog X.w) inv3.kIn kind hb1).here ?_)
        cases b with
        | false => exact ih (hno rfl)
        | true =>
          refine codeAny_handlers_suite ?_
          refine HandSPX.lands_againZ fl3 fun h4 fl4 up4 => ?_
          obtain ⟨o4, v4, e4, z4, d4⟩ := fl4.there
          have inv4 : Inv X pins σ' H' { s' with heap := h4 } := inv1.landed nb fl4.1 ((up.trans up3).trans up4) os ag
          refine wpAny_mono ((hsu a o4 cls d (X.pn ++ pins) z4 ⟨_, d4⟩).run [] _ _ H' _ (inv4.suite e4 d4 na nL nF) (hyes rfl a na)) (fun f s6 fin => ?_) (fun _ _ z => False.elim z)
          match f, fin with
          | .next, ⟨_, _, j, q⟩ => exact ⟨_, _, j.unsuite okX, q⟩
          | .brk, ⟨_, _, j, q⟩ => exact ⟨_, _, j.unsuite okX, q⟩
          | .cont, ⟨_, _, j, q⟩ => exact ⟨_, _, j.unsuite okX, q⟩
          | .ret u, ⟨_, _, _, j, r6, q⟩ => exact ⟨_, _, _, j.unsuite okX, r6, q⟩
      | @consAs x n i c ts b₀ suite np pos' hds2 l2 hc hi hln hsu r ih =>
        intro w
        obtain ⟨b, hb1, hyes, hno⟩ := w
        refine wpAny_handleBy_cons (codeAny_handlers_test ?_) (by intro q; cases q)
        refine ask1 hc ((PySem.W.exm_one (M := model X.prog X.w) inv3.kIn kind hb1).here ?_)
        cases b with
        | false => exact ih (hno rfl)
        | true =>
          refine codeAny_handlers_suite_as ?_
          refine HandSPX.lands_againZ fl3 fun h4 fl4 up4 => ?_
          obtain ⟨o4, v4, e4, z4, d4⟩ := fl4.there
          have inv4 : Inv X pins σ' H' { s' with heap := h4 } := inv1.landed nb fl4.1 ((up.trans up3).trans up4) os ag
          have loc : Loc X.env.scope n := .inl hln
          refine store_ok (X := X.suite a ((a, o4) :: (X.pn ++ pins))) (v := .ref a) (inv4.suite e4 d4 na nL nF) hN hi loc rfl (fun s5 suit5 => ?_) (.inr hln)
          refine wpAny_mono ((hsu a o4 cls d (X.pn ++ pins) z4 ⟨_, d4⟩).run [] s5 _ H' _ suit5 (hyes rfl a na)) (fun f s6 fin => ?_) (fun _ _ z => False.elim z)
          match f, fin with
          | .next, ⟨_, _, j, q⟩ => exact gone_ok (j.unsuite okX) hN hi hln fun s7 j7 => ⟨_, _, j7, q⟩
          | .brk, ⟨_, _, j, q⟩ => exact gone_ok (j.unsuite okX) hN hi hln fun s7 j7 => ⟨_, _, j7, q⟩
          | .cont, ⟨_, _, j, q⟩ => exact gone_ok (j.unsuite okX) hN hi hln fun s7 j7 => ⟨_, _, j7, q⟩
          | .ret u, ⟨_, _, _, j, r6, q⟩ => exact gone_ok (j.unsuite okX) hN hi hln fun s7 j7 => ⟨_, _, _, j7, r6, q⟩
    exact go hh w
  · match f, fin with
    | .next, ⟨σ6, H6, j, q⟩ => exact wpAny_execs_nil ⟨σ6, H6, j.ofTry okX, q⟩
    | .brk, ⟨σ6, H6, j, q⟩ => exact ⟨σ6, H6, j.ofTry okX, q⟩
    | .cont, ⟨σ6, H6, j, q⟩ => exact ⟨σ6, H6, j.ofTry okX, q⟩
    | .ret u, ⟨v6, σ6, H6, j, r6, q⟩ => exact ⟨v6, σ6, H6, j.ofTry okX, r6, q⟩
end
/-! ### try, typed -/
/-- a try's body: what it raises is met at the slots as they are -/
def TB (X : Cx) (B : Hb X.K) (Y : Ec X.K) (fl : Hp) (st : List Stmt) (ρ : List (Slot X.K)) (cs : List (Cell X.K)) (D : Ends) (φ : Prop) : Prop := ∀ F σ H, Ok B fl ρ cs F σ H → φ → Xh X Y cs F σ H → WB X st D σ H
theorem Mv.sub {K : PySem.W.Frag} {c0 cs cs2 : List (Cell K)} {F H F' H' : Hp} (m : Mv c0 F H cs2 F' H') (h : ∀ c ∈ cs, c ∈ cs2) (nd : (cs.map Cell.a).Nodup) : Mv c0 F H cs F' H' :=
  ⟨m.ff, m.fh, m.fr, m.kp, fun c hc => m.cell c (h c hc), nd, fun c hc => m.nw c (h c hc), m.st⟩
/-- an exception that an except clause has bound -/
def tEx {K : PySem.W.Frag} (xa : XA) (a : Addr) (cls : Value) (d : Option Addr) : Ty K Rf := ⟨fun F v r => v = .ref a ∧ ExnRep F (exn (K := K) xa r) cls d, fun {F F' v r} e h => ⟨h.1, h.2.1, h.2.2.imp id fun ⟨dd, fs, h1, h2, h3⟩ => ⟨dd, fs, h1, e _ _ h2, h3.mono e⟩⟩⟩
section
variable {X : Cx} {fl : Hp} {B : Hb X.K} {Y : Ec X.K} {ρ : List (Slot X.K)} {cs : List (Cell X.K)} {A R α β γ δ μ ν : Type} {pos : Pos} {rest : List Stmt} {D : Ends} {e : Expr}
theorem SK.at0 {st : List Stmt} {φ : Prop} {F H : Hp} {σ : L2.St} (h : SK X B (Y0 X.K) fl st ρ cs D φ) (ok : Ok B fl ρ cs F σ H) (p : φ) : WB X st D σ H := h F σ H ok p (fun _ _ _ _ => False) takes0 fun _ _ _ _ _ _ _ _ _ _ z => z.elim
theorem tb_expr {T : Ty X.K α} {vl : μ → α} {cs' : μ → List (Cell X.K)} {M : (μ → Prop) → Prop} {φ : μ → Prop} (he : EK X Y e ρ cs T vl cs' M) (k : ∀ y, SK X B (Y0 X.K) fl rest ρ (cs' y) D (φ y)) (hs : swapsWith e none pos.line X.env = pure false := by rfl) :
    TB X B Y fl (.Expr e pos :: rest) ρ cs D (M φ) := fun F σ H ok p xh => by
  refine wb (pss_cons (ps_expr pe_w hs) pss_w) ?_
  exact he F σ H ok.c xh _ p _ fun y v F' H' m r q => (k y).at0 (ok.to m) q
/-- the clauses' readings -/
def tsW (X : Cx) (suite : List Stmt) : Addr → Value → Option Addr → TS := fun a cls d D σ H => ∀ oe pn, Zc cls d oe → (∃ vs, oe.data = .fields vs) → WB (X.suite a ((a, oe) :: pn)) suite D σ H
theorem hd_nil : HdMix X [] [] := .nil
theorem hd_no {x : Str} {c : Value} {b₀ : Stmt} {suite : List Stmt} {np pos' : Pos} {hds : List ExceptHandler} {l : List Clause} (hc : Names X x c) (r : HdMix X hds l) : HdMix X (.ExceptHandler (some (.Name x np)) none (b₀ :: suite) pos' :: hds) ((c, none, tsW X (b₀ :: suite)) :: l) :=
  .cons hc (fun a oe cls d pn hz hf => ⟨fun pins s σ H D I h => h oe pn hz hf pins s I⟩) r
theorem hd_as {x n : Str} {i : Nat} {c : Value} {b₀ : Stmt} {suite : List Stmt} {np pos' : Pos} {hds : List ExceptHandler} {l : List Clause} (hc : Names X x c) (hi : X.N[i]? = some n) (hln : X.env.kindOf n = some .local) (r : HdMix X hds l) :
    HdMix X (.ExceptHandler (some (.Name x np)) (some n) (b₀ :: suite) pos' :: hds) ((c, some i, tsW X (b₀ :: suite)) :: l) :=
  .consAs hc hi hln (fun a oe cls d pn hz hf => ⟨fun pins s σ H D I h => h oe pn hz hf pins s I⟩) r
/-- the ways of an exception r through the clauses -/
def ClK (X : Cx) (B : Hb X.K) (fl : Hp) (ρ : List (Slot X.K)) (cs : List (Cell X.K)) (D : Ends) (xa : XA) (l : List Clause) (r : Rf) (φ : Prop) : Prop :=
  ∀ F σ H cls d, Ok B fl ρ cs F σ H → ExnRep F (exn (K := X.K) xa r) cls d → φ → wMix X.K (fun _ _ _ _ => False) D l cls d σ H
theorem cl_as {xa : XA} {c : Value} {i : Nat} {suite : List Stmt} {l : List Clause} {r : Rf} {φ : Prop} (hx : PySem.W.exmOne X.K (.ref (exn (K := X.K) xa r).c) c = some true)
    (k : ∀ a oe pn cls d, Zc cls d oe → (∃ vs, oe.data = .fields vs) → SK (X.suite a ((a, oe) :: pn)) B (Y0 X.K) fl suite (ρ.set i (.val (tEx xa a cls d) r)) cs (offI D i) φ) : ClK X B fl ρ cs D xa ((c, some i, tsW X suite) :: l) r φ := fun F σ H cls d ok rep p => by
  have e : cls = .ref (exn (K := X.K) xa r).c := rep.1
  exact ⟨true, by rw [e]; exact hx, fun _ a ha oe pn hz hf => SK.at0 (X := X.suite a ((a, oe) :: pn)) (k a oe pn cls d hz hf) (ok.set (T := tEx xa a cls d) (x := r) i ⟨rfl, rep⟩) p, fun z => (nomatch z)⟩
theorem sk1_try {body : List Stmt} {h₀ : ExceptHandler} {hds : List ExceptHandler} {l : List Clause} {φ : Prop} (xa : XA) (Φ : Rf → Prop) (hN : X.N.Nodup)
    (hb : ∀ pn xe, PassesOwn (model X.prog X.w) X.A X.env xe → TB (X.tr pn xe) B ⟨cs, fun ex => ∃ r, ex = exn xa r ∧ Φ r⟩ fl body ρ cs D φ)
    (hh : HdMix X (h₀ :: hds) l) (hc : ∀ r, ClK X B fl ρ cs D xa l r (Φ r)) (hs : X.stack = X.env :: X.outer := by rfl) (hf : X.env.frame = some X.env.locals := by rfl) :
    SK1 X B Y fl (.Try body (h₀ :: hds) [] [] pos) ρ cs D φ := fun F σ H ok p W tk hx' => by
  refine ws (ps_try_mix hs hf hN takes0 (tb := fun W D σ H => ∀ pn xe, Takes (X.tr pn xe) W → PassesOwn (model X.prog X.w) X.A X.env xe → WB (X.tr pn xe) body D σ H) (fun W pn xe tkb po => ⟨fun pins s σ H D I h => h pn xe tkb po pins s I⟩) hh) ?_
  intro pn xe tkb po
  refine hb pn xe po F σ H ok p ⟨_, tkb, fun ex cls d cs2 F' H' mv kp rep hr => ?_⟩
  obtain ⟨r, er, hr⟩ := hr
  subst er
  exact hc r F' σ H' cls d ⟨ok.env.mono fun _ _ q => q.mono mv.ff, (ok.mv.trans mv).sub kp ok.mv.nd, ok.flo.trans mv.ff⟩ rep hr
theorem sk_midSX {ρ' : β → List (Slot X.K)} {cs' : β → List (Cell X.K)} {Rz : β → Prop} {z : β} (i : Nat) (hn : D.nx = fun σ H => Mid B fl ρ' cs' Rz (σ.set i none) H) (h : Le (ρ.set i .un) (ρ' z)) (hc : cs = cs' z) : SK X B Y fl [] ρ cs D (Rz z) := fun F σ H ok p W tk hx' => by
  subst hc
  refine wb pss_nil ?_
  show D.nx σ H
  rw [hn]
  have ok1 := ok.unset i (u := none)
  exact ⟨z, F, ⟨h.env ok1.env, ok1.mv, ok1.flo⟩, p⟩
/-! ### in a suite: fields, classes -/
theorem pk_exF {xa : XA} {a : Addr} {oe : Obj} {pn : List (Addr × Obj)} {cls : Value} {d : Option Addr} {r : Rf} {C : Addr} {f : Str} {T : Ty X.K α} {x : α} {P : Prop} (ct : ExcC X.K C) (nf : PySem.W.findIn X.K (.ref C) f = some none) (hz : Zc cls d oe) (hfo : ∃ vs, oe.data = .fields vs)
    (he : PK (X.suite a ((a, oe) :: pn)) e ρ cs (tEx xa a cls d) r P) (hC : (exn (K := X.K) xa r).c = C := by rfl) (hl : (exn (K := X.K) xa r).fs.lookup f = some (.val T x) := by rfl) (hb : attributeBase e f X.env (eval e X.env) = eval e X.env := by rfl) :
    PK (X.suite a ((a, oe) :: pn)) (.Attribute e f pos) ρ cs T x P := fun F σ H ok p Q k => by
  have h0 : WE (X.suite a ((a, oe) :: pn)) e σ H (fun v H1 => v = .ref a ∧ ∃ u dd vs, d = some dd ∧ H1 dd = some (.xd vs) ∧ vs.lookup f = some u ∧ cls = .ref C ∧ Q u H1) := by
    refine he F σ H ok p _ fun v F1 H1 g rv => ?_
    obtain ⟨ev, ecl, hd⟩ := rv
    rcases hd with ⟨h0, _⟩ | ⟨dd, vs, ed, hF, hfl⟩
    · rw [h0] at hl; cases hl
    · rcases hfl.look (f := f) with ⟨h1, _⟩ | ⟨s0, u, h1, h2, q⟩
      · rw [hl] at h1; cases h1
      · rw [hl] at h1
        cases h1
        obtain ⟨u', e1, q⟩ := q
        cases e1
        exact ⟨ev, u, dd, vs, ed, g.fh _ _ hF, h2, by rw [ecl, hC], k u F1 H1 g q⟩
  refine fun pins s I => attr_of hb (thn (h0 pins s I) fun u s1 hh => ?_)
  · obtain ⟨x1, H1, I1, rx, ex, u1, dd, vs, ed, ea, lk, ecl, q⟩ := hh
    subst ex
    have eu : u = Value.ref a := rx
    subst eu
    subst ecl
    subst ed
    obtain ⟨ha, _⟩ := I1.pin (a, oe) (List.mem_append_left _ List.mem_cons_self)
    obtain ⟨ws, hd⟩ := hfo
    have hx : ObjOk X.prog X.w H1 s1.heap dd (.xd vs) := I1.hok dd _ ea
    obtain ⟨mA, hns, hr⟩ := hx
    obtain ⟨od, ho, hlk⟩ := lookIn_ns hns
    obtain ⟨w, hw, rw'⟩ := RelO.some_of (v := u1) (o := mA f) (by rw [← lk]; exact hr f)
    have inst : PySem.W.InstAt s1.heap a oe C (some od) := ⟨ha, hz.1, by unfold PySem.W.notCls; rw [hd] <;> rfl, by rw [hz.2]; exact ho⟩
    exact HandSPX.exc_get I1.kIn inst ct.hg ct.hk ct.hs (PySem.W.findObj_own ct.hd nf rfl (by rw [hlk, hw])) (handed_of rw') ⟨u1, H1, I1.tok _, rw', q⟩
def rIsX (K : PySem.W.Frag) (Dc a : Addr) (cls : Value) (d : Option Addr) : List V → Hp → VK → Prop := fun xs H Q => ∃ (dd : Addr) (c : V) (cv : Value) (b : Bool) (fs : List (Str × V)), cls = .ref Dc ∧ d = some dd ∧ xs = [.ref a, c] ∧ (∀ u, RelV c u → u = cv) ∧ PySem.W.kitOne K (.ref Dc) cv = some b ∧ H dd = some (.xd fs) ∧ Q (.bl b) H
theorem call_isX {a Dc : Addr} {cls : Value} {d : Option Addr} {oe : Obj} {pn : List (Addr × Obj)} (ct : ExcC X.K Dc) (ox : OexC X.K Dc) (hz : Zc cls d oe) (hf : ∃ vs, oe.data = .fields vs) : CallR (X.suite a ((a, oe) :: pn)) (.builtin "isinstance") (rIsX X.K Dc a cls d) := by
  intro pins s σ H xs us Q I rel ask
  obtain ⟨dd, c, cv, b, fs, rfl, rfl, rfl, hcv, kit, ea, q⟩ := ask
  match us, rel with
  | [u0, u1], .cons rx (.cons rt .nil) =>
    cases rx
    have ec := hcv _ rt
    subst ec
    obtain ⟨hget, _⟩ := I.pin (a, oe) (List.mem_append.mpr (.inl List.mem_cons_self))
    obtain ⟨vs, hv⟩ := hf
    have hx : ObjOk X.prog X.w H s.heap dd (.xd fs) := I.hok dd _ ea
    obtain ⟨mA, hns, hr⟩ := hx
    obtain ⟨od, ho, _⟩ := lookIn_ns hns
    have inst : PySem.W.InstAt s.heap a oe Dc (some od) := ⟨hget, hz.1, by unfold PySem.W.notCls; rw [hv] <;> rfl, by rw [hz.2]; exact ho⟩
    have hcl : (PySem.W.clsIn X.K Dc).isSome = true := by
      obtain ⟨nm, q, N, bs, bm, sn, sub, ab, col, dd, k0, k1, k2, k3, k5, hC, hbm⟩ := ox.cls
      unfold PySem.W.clsIn
      rw [hC]
      rfl
    exact PySem.W.kia_one (PySem.W.kitx_exc hcl ct.hg ct.hk ct.hs ct.ha ct.hn ct.ht ct.hm) I.kIn inst kit (fun z => nomatch z) fun tk => ⟨.bl b, H, I.kept (t' := tk) fun _ _ z => z, rfl, q⟩
end
end MD
namespace MD
open PySem PySem.Spec PyProof.Rows L2
section
variable {X : Cx} {fl : Hp} {B : Hb X.K} {Y : Ec X.K} {ρ : List (Slot X.K)} {cs : List (Cell X.K)} {A R α β γ δ μ ν : Type} {pos : Pos} {rest : List Stmt} {D : Ends} {e : Expr}
/-! ### any plain data -/
def tA {K : PySem.W.Frag} : Ty K PyData := ⟨fun F v d => (∀ H, Same F H → Dp K H v d) ∧ SeqAt.shaped d = true, fun e h => ⟨fun H s => h.1 H (e.trans s), h.2⟩⟩
theorem PK.any {T : Ty X.K α} {x : α} {P : Prop} (D : DT T) (h : PK X e ρ cs T x P) (hn : D.n ≤ 64 := by exact Nat.le_of_ble_eq_true rfl) : PK X e ρ cs tA (D.d x) P := fun F σ H ok p Q k =>
  h F σ H ok p Q fun v F' H' g r => k v F' H' g ⟨fun H2 s => D.dp F' H2 v x s r, shaped_of (D.lay _ _ _ r) (D.dep x) hn⟩
theorem EK.any {T : Ty X.K α} {vl : μ → α} {cs' : μ → List (Cell X.K)} {M : (μ → Prop) → Prop} (D : DT T) (h : EK X Y e ρ cs T vl cs' M) (hn : D.n ≤ 64 := by exact Nat.le_of_ble_eq_true rfl) : EK X Y e ρ cs tA (fun y => D.d (vl y)) cs' M := fun F σ H ok xh φ p Q k =>
  h F σ H ok xh φ p Q fun y v F' H' m r q => k y v F' H' m ⟨fun H2 s => D.dp F' H2 v (vl y) s r, shaped_of (D.lay _ _ _ r) (D.dep _) hn⟩ q
theorem PK.anyD {T : Ty X.K α} {x : α} {P : Prop} (d : α → PyData) {D : DT T} (hd : ∀ y, D.d y = d y) (hn : D.n ≤ 64) (h : PK X e ρ cs T x P) : PK X e ρ cs tA (d x) P := hd x ▸ PK.any D h hn
theorem dv_sA {K : PySem.W.Frag} {x : PyData} : DV K (sv (tA (K := K)) x) x := fun F H v s h => ⟨h.1 H s, h.2⟩
theorem pk_eqA {a b : Expr} {x y : PyData} {P1 P2 : Prop} (hu : X.A.units + 64 < cLine) (ha : PK X a ρ cs tA x P1) (hb : PK X b ρ cs tA y P2) (hm : behindInMarks .Eq b = false := by first | exact nomark _ | rfl) : PK X (.Compare a [.Eq] [b] pos) ρ cs tB (PyData.eqv x y) (P1 ∧ P2) :=
  pk_eqV hu dv_sA dv_sA sv_stays rfl (PK.v ha) (PK.v hb) hm
/-! ### None -/
/-! ### tuples with effects -/
/-! ### isinstance in a suite -/
/-- isinstance(e, C2), C2 an own class -/
theorem pk_exIsO {xa : XA} {a : Addr} {oe : Obj} {pn : List (Addr × Obj)} {cls : Value} {d : Option Addr} {r : Rf} {C C2 : Addr} {b : Bool} {P P2 : Prop} {nm : Str} {p : Pos} {e2 : Expr} (ct : ExcC X.K C) (ox : OexC X.K C) (hz : Zc cls d oe) (hfo : ∃ vs, oe.data = .fields vs)
    (hm : X.mg nm = none) (hv : bootBuiltins nm = some (.builtin "isinstance")) (he : PK (X.suite a ((a, oe) :: pn)) e ρ cs (tEx xa a cls d) r P) (ha : PK (X.suite a ((a, oe) :: pn)) e2 ρ cs tR C2 P2) (hk : PySem.W.kitOne X.K (.ref C) (.ref C2) = some b) (hC : (exn (K := X.K) xa r).c = C := by rfl) (hfs : (exn (K := X.K) xa r).fs ≠ [] := by exact fun z => nomatch z)
    (hg : Gl X nm := by rfl) (hn : nm ≠ "__name__" := by decide) (hdb : (nm == ("__debug__" : Str)) = false := by decide)
    (hst : starEach (e :: [e2]) X.env = (false, eval e X.env) :: starEach [e2] X.env := by rfl) (hst2 : starEach (e2 :: []) X.env = (false, eval e2 X.env) :: starEach [] X.env := by rfl) (hpl : (backTo pos (starEach [e2] X.env)).any (·.1) = false := by rfl) :
    PK (X.suite a ((a, oe) :: pn)) (.Call (.Name nm p) [e, e2] [] pos) ρ cs tB b (P ∧ P2) := fun F σ H ok q Q k => by
  refine we (pe_callB (call_isX ct ox hz hfo) hg hm hv (pa_cons pe_w (pa_cons pe_w pa_nil hst2) hst) hn hdb hst hpl) ?_
  refine he F σ H ok q.1 _ fun v F1 H1 g1 rv => ?_
  obtain ⟨ev, ecl, hd⟩ := rv
  rcases hd with ⟨h0, _⟩ | ⟨dd, vs, ed, hF, hfl⟩
  · exact absurd h0 hfs
  refine ha F1 σ H1 (ok.grow g1) q.2 _ fun w F2 H2 g2 r2 => ?_
  have ew : w = .ref C2 := r2
  exact ⟨dd, .ref C2, .ref C2, b, vs, by rw [ecl, hC], ed, by rw [ev, ew], fun u hu => hu, hk, (g2.ff.trans g2.fh) _ _ hF, k _ _ _ (g1.trans g2) rfl⟩
/-- .. a built-in one -/
theorem pk_exIsB {xa : XA} {a : Addr} {oe : Obj} {pn : List (Addr × Obj)} {cls : Value} {d : Option Addr} {r : Rf} {C : Addr} {b : Bool} {P : Prop} {nm cn : Str} {c : String} {p p2 : Pos} (ct : ExcC X.K C) (ox : OexC X.K C) (hz : Zc cls d oe) (hfo : ∃ vs, oe.data = .fields vs)
    (hm : X.mg nm = none) (hv : bootBuiltins nm = some (.builtin "isinstance")) (hm2 : X.mg cn = none) (hv2 : bootBuiltins cn = some (.type c)) (he : PK (X.suite a ((a, oe) :: pn)) e ρ cs (tEx xa a cls d) r P) (hk : PySem.W.kitOne X.K (.ref C) (.type c) = some b) (hC : (exn (K := X.K) xa r).c = C := by rfl) (hfs : (exn (K := X.K) xa r).fs ≠ [] := by exact fun z => nomatch z)
    (hg : Gl X nm := by rfl) (hg2 : Gl X cn := by rfl) (hn : nm ≠ "__name__" := by decide) (hdb : (nm == ("__debug__" : Str)) = false := by decide) (hn2 : cn ≠ "__name__" := by decide) (hdb2 : (cn == ("__debug__" : Str)) = false := by decide)
    (hst : starEach (e :: [.Name cn p2]) X.env = (false, eval e X.env) :: starEach [.Name cn p2] X.env := by rfl) (hst2 : starEach (.Name cn p2 :: []) X.env = (false, eval (.Name cn p2) X.env) :: starEach [] X.env := by rfl) (hpl : (backTo pos (starEach [.Name cn p2] X.env)).any (·.1) = false := by rfl) :
    PK (X.suite a ((a, oe) :: pn)) (.Call (.Name nm p) [e, .Name cn p2] [] pos) ρ cs tB b P := fun F σ H ok q Q k => by
  refine we (pe_callB (call_isX ct ox hz hfo) hg hm hv (pa_cons pe_w (pa_cons (pe_bltn (v := .ty c) hg2 hm2 hv2 rfl hn2 hdb2) pa_nil hst2) hst) hn hdb hst hpl) ?_
  refine he F σ H ok q _ fun v F1 H1 g1 rv => ?_
  obtain ⟨ev, ecl, hd⟩ := rv
  rcases hd with ⟨h0, _⟩ | ⟨dd, vs, ed, hF, hfl⟩
  · exact absurd h0 hfs
  exact ⟨dd, .ty c, .type c, b, vs, by rw [ecl, hC], ed, by rw [ev], fun u hu => hu, hk, g1.fh _ _ hF, k _ _ _ g1 rfl⟩
/-- xs[::-1] -/
theorem nk_revL {a : Expr} {T : Ty X.K α} {xs : List α} {P : Prop} {kk : Nat} {p1 p2 p3 : Pos} (ha : PV X a ρ cs (rK T xs) P) : NK X (.Subscript a (.Slice none none (some (.UnaryOp .USub (.Constant (.int 1) kk p1) p2)) p3) pos) ρ cs T xs.reverse P := fun F σ H ok q Q k => by
  refine we (pe_revL pe_w) ?_
  refine ha F σ H ok q _ fun v F1 H1 g1 ⟨b, vs, e, hb, r, z⟩ => ?_
  refine ⟨b, vs, e, hb, fun p hp => ?_⟩
  obtain ⟨g4, hF⟩ := grow_upd (o := .lst vs.reverse) g1 hp
  exact k p _ F1 _ g4 (g1.hh.free hp) hF upd_same (Rl.rev r) (by rw [List.length_reverse]; exact z)
theorem sk_retX {A γ : Type} {xa : XA} {ins : A → List (Slot X.K)} {T : Ty X.K γ} {pre : A → Prop} {g : A → γ ⊕ Rf} {a : A} {ψ : γ → Prop} {n b' c' : L2.St → Hp → Prop} {x : γ} {P : Prop} {r : List Stmt} (he : PK X e ρ [] T x P) :
    SK X B Y fl (.Return (some e) pos :: r) ρ [] { retD (Con.fx xa ins T pre g) a B ψ with nx := n, bk := b', ct := c' } (P ∧ ψ x) := sk_ret (C := Con.fx xa ins T pre g) x he rfl rfl
theorem sk_retXE {A γ : Type} {xa : XA} {ins : A → List (Slot X.K)} {T : Ty X.K γ} {pre : A → Prop} {g : A → γ ⊕ Rf} {a : A} {ψ : γ → Prop} {n b' c' : L2.St → Hp → Prop} {vl : μ → γ} {cs' : μ → List (Cell X.K)} {M : (μ → Prop) → Prop} {r : List Stmt} (he : EK X Y e ρ cs T vl cs' M) (hc : ∀ y, cs' y = []) :
    SK X B Y fl (.Return (some e) pos :: r) ρ cs { retD (Con.fx xa ins T pre g) a B ψ with nx := n, bk := b', ct := c' } (M fun y => ψ (vl y)) := sk_retE (C := Con.fx xa ins T pre g) vl he (fun _ => rfl) fun y => (hc y).symm
/-! ### all ways of a refusal -/
theorem kp0 {K : PySem.W.Frag} {c : Cell K} {Pr : Prop} (h : c ∈ ([] : List (Cell K))) : Pr := nomatch h
theorem cl_never {xa : XA} {l : List Clause} {r : Rf} : ClK X B fl ρ cs D xa l r False := fun F σ H cls d ok rep p => p.elim
def rfP (a1 : Int → Prop) (a2 : Str → Prop) (a3 : Int → Str → Prop) (a4 : Int → Prop) (a5 a6 : Str → Prop) (a7 : Prop) (a8 : List Str → List Str → Prop) (a9 : Int → Prop) (a10 : Str → Prop) (a11 a12 : Prop) : Rf → Prop
  | .noText n => a1 n
  | .twice s => a2 s
  | .badStep i s => a3 i s
  | .badGood i => a4 i
  | .noLetter s => a5 s
  | .noDesk s => a6 s
  | .otherLetters => a7
  | .notices a b => a8 a b
  | .tooMany n => a9 n
  | .noName s => a10 s
  | .noKind => a11
  | .noRow => a12
theorem sk1_tryA {body : List Stmt} {h₀ : ExceptHandler} {hds : List ExceptHandler} {l : List Clause} {φ : Prop} (xa : XA) {a1 : Int → Prop} {a2 : Str → Prop} {a3 : Int → Str → Prop} {a4 : Int → Prop} {a5 a6 : Str → Prop} {a7 : Prop} {a8 : List Str → List Str → Prop} {a9 : Int → Prop} {a10 : Str → Prop} {a11 a12 : Prop} (hN : X.N.Nodup)
    (hh : HdMix X (h₀ :: hds) l) (c1 : ∀ n, ClK X B fl ρ cs D xa l (.noText n) (a1 n)) (c2 : ∀ s, ClK X B fl ρ cs D xa l (.twice s) (a2 s)) (c3 : ∀ i s, ClK X B fl ρ cs D xa l (.badStep i s) (a3 i s)) (c4 : ∀ i, ClK X B fl ρ cs D xa l (.badGood i) (a4 i))
    (c5 : ∀ s, ClK X B fl ρ cs D xa l (.noLetter s) (a5 s)) (c6 : ∀ s, ClK X B fl ρ cs D xa l (.noDesk s) (a6 s)) (c7 : ClK X B fl ρ cs D xa l .otherLetters a7) (c8 : ∀ a b, ClK X B fl ρ cs D xa l (.notices a b) (a8 a b)) (c9 : ∀ n, ClK X B fl ρ cs D xa l (.tooMany n) (a9 n))
    (c10 : ∀ s, ClK X B fl ρ cs D xa l (.noName s) (a10 s)) (c11 : ClK X B fl ρ cs D xa l .noKind a11) (c12 : ClK X B fl ρ cs D xa l .noRow a12)
    (hb : ∀ pn xe, PassesOwn (model X.prog X.w) X.A X.env xe → TB (X.tr pn xe) B ⟨cs, fun ex => ∃ r, ex = exn xa r ∧ rfP a1 a2 a3 a4 a5 a6 a7 a8 a9 a10 a11 a12 r⟩ fl body ρ cs D φ) (hs : X.stack = X.env :: X.outer := by rfl) (hf : X.env.frame = some X.env.locals := by rfl) :
    SK1 X B Y fl (.Try body (h₀ :: hds) [] [] pos) ρ cs D φ := sk1_try xa (rfP a1 a2 a3 a4 a5 a6 a7 a8 a9 a10 a11 a12) hN hb hh (fun r => match r with
      | .noText n => c1 n
      | .twice s => c2 s
      | .badStep i s => c3 i s
      | .badGood i => c4 i
      | .noLetter s => c5 s
      | .noDesk s => c6 s
      | .otherLetters => c7
      | .notices a b => c8 a b
      | .tooMany n => c9 n
      | .noName s => c10 s
      | .noKind => c11
      | .noRow => c12) hs hf
/-- what a raising needs of the class's __init__ -/
structure XiT (P : Program) (w : World) (K : PySem.W.Frag) (mg : Str → Option Value) (base : Heap) (C : Addr) (k : Nat) (ps : List Str) (sp : Sp) (f : Addr) (fd : FuncData) : Prop where
  iC : PySem.W.findIn K (.ref C) "__init__" = some (some (.ref f))
  tI : PySem.W.typeIn K (.ref f) = some (.type "function")
  F : FnOk P w K mg base (L2.CX P w) k f fd ps sp
  b : Binds K fd ps []
/-- a, b = e and its like -/
theorem sk_setG {tg : Expr} {T : Ty X.K α} {G : List (Slot X.K) → α → List (Slot X.K)} {vs : List Nat} {vl : μ → α} {cs' : μ → List (Cell X.K)} {M : (μ → Prop) → Prop} {φ : μ → α → Prop} (hg : GK X tg T G vs) (he : EK X Y e ρ cs T vl cs' M) (k : ∀ y z, SK X B Y fl rest (G ρ z) (cs' y) D (φ y z))
    (hs : swapsWithSole [tg] e pos.line X.env = pure false := by rfl) (hw : swappedStores [tg] e X.env = pure none := by rfl) (h1 : (assignEach [tg] X.env).map (·.2) = [assign tg X.env] := by rfl) :
    SK X B Y fl (.Assign [tg] e pos :: rest) ρ cs D (M fun y => ∀ z, z = vl y → φ y z) := fun F σ H ok p W tk hx' => by
  refine wb (pss_cons (ps_asg pe_w pg_w hs hw h1) pss_w) ?_
  refine he F σ H ok.c (xh_of ok tk hx') _ p _ fun y v F1 H1 m t q => ?_
  have ok1 := ok.to m
  refine hg F1 σ H1 v (vl y) ρ ok1.env ok1.mv.fh t _ fun σ2 hρ2 _ => ?_
  exact k y (vl y) F1 σ2 H1 ⟨hρ2, ok1.mv, ok1.flo⟩ (q _ rfl) W tk hx'
theorem ek_ixU [Inhabited α] {a b : Expr} {T : Ty X.K α} {vl : μ → List α} {cs1 : μ → List (Cell X.K)} {M : (μ → Prop) → Prop} {vl2 : μ → ν → Int} {cs2 : μ → ν → List (Cell X.K)} {M2 : μ → (ν → Prop) → Prop} (ha : EK X Y a ρ cs (tU T) vl cs1 M) (hb : ∀ y, EK X Y b ρ (cs1 y) tI (vl2 y) (cs2 y) (M2 y)) (hs : PlainIx b := by exact fun _ _ => rfl) :
    EK X Y (.Subscript a b pos) ρ cs T (fun y : μ × ν => pyIx (vl y.1) (vl2 y.1 y.2)) (fun y => cs2 y.1 y.2) (fun φ => M fun y => M2 y fun u => IxOk (vl y) (vl2 y u) ∧ φ (y, u)) := fun F σ H ok xh φ p Q k => by
  refine we (pe_ix ix_tup pe_w pe_w hs) ?_
  refine ha F σ H ok xh _ p _ fun y v F1 H1 m1 ⟨q, vs, e1, hq, r, z⟩ q1 => ?_
  refine hb y F1 σ H1 (ok.mv m1) (xh.mv m1) _ q1 _ fun u w F2 H2 m2 r2 q2 => ?_
  obtain ⟨x, hx, rx⟩ := rl_atI (Rl.mono m2.ff r) q2.1
  exact ⟨q, vs, _, x, e1, r2, .inl (same_rd (m2.ff.trans m2.fh) hq), hx, k (y, u) x F2 H2 (m1.trans m2) rx q2.2⟩
/-! ### a for over what effects made, in two rules -/
def FB (X : Cx) (B : Hb X.K) (Y : Ec X.K) (fl : Hp) (tg : Expr) (body rest : List Stmt) (T : Ty X.K α) (xs : List α) (ρ : List (Slot X.K)) (cs : List (Cell X.K)) (D : Ends) (φ : Prop) : Prop :=
  φ → ∃ (β : Type) (ρ' : β → List (Slot X.K)) (cs' : β → List (Cell X.K)) (z0 : β) (G : List (Slot X.K) → α → List (Slot X.K)) (vs : List Nat) (φb : (β → Prop) → β → α → Prop) (φr : β → Prop),
    GK X tg T G vs ∧ Le ρ (ρ' z0) ∧ cs = cs' z0 ∧
    (∀ (fl' : Hp), Same fl fl' → ∀ (N : β → Prop) z x, SK X B Y fl' body (G (ρ' z) x) (cs' z) { D with nx := Mid B fl' ρ' cs' N, ct := Mid B fl' ρ' cs' N, bk := WB X rest D } (φb N z x)) ∧
    (∀ z, SK X B Y fl rest (ρ' z) (cs' z) D (φr z)) ∧
    ∃ I : Nat → β → Prop, I 0 z0 ∧ (∀ i z x, xs[i]? = some x → I i z → φb (I (i + 1)) z x) ∧ ∀ z, I xs.length z → φr z
theorem fb_for {tg : Expr} {body : List Stmt} {T : Ty X.K α} {xs : List α} {G : List (Slot X.K) → α → List (Slot X.K)} {vs : List Nat} (ρ' : β → List (Slot X.K)) (cs' : β → List (Cell X.K)) (z0 : β) {φb : (β → Prop) → β → α → Prop} {φr : β → Prop}
    (hg : GK X tg T G vs) (hle : Le ρ (ρ' z0)) (hcs : cs = cs' z0)
    (hb : ∀ (fl' : Hp), Same fl fl' → ∀ (N : β → Prop) z x, SK X B Y fl' body (G (ρ' z) x) (cs' z) { D with nx := Mid B fl' ρ' cs' N, ct := Mid B fl' ρ' cs' N, bk := WB X rest D } (φb N z x))
    (hr : ∀ z, SK X B Y fl rest (ρ' z) (cs' z) D (φr z)) :
    FB X B Y fl tg body rest T xs ρ cs D (∃ I : Nat → β → Prop, I 0 z0 ∧ (∀ i z x, xs[i]? = some x → I i z → φb (I (i + 1)) z x) ∧ ∀ z, I xs.length z → φr z) :=
  fun h => ⟨β, ρ', cs', z0, G, vs, φb, φr, hg, hle, hcs, hb, hr, h⟩
theorem sk_forA {tg iter : Expr} {body : List Stmt} {T : Ty X.K α} {xs : μ → List α} {cs1 : μ → List (Cell X.K)} {M : (μ → Prop) → Prop} {φ : μ → Prop}
    (hp : PassesOwn (model X.prog X.w) X.A X.env X.xe) (hc : X.calm = true) (hi : IE X Y tg iter ρ cs T xs cs1 M)
    (hk : ∀ y, FB X B Y fl tg body rest T (xs y) ρ (cs1 y) D (φ y)) (hfo : ∀ x, foldedSetIterable iter X.env x = pure x := by intro _; rfl) :
    SK X B Y fl (.For tg iter body [] pos :: rest) ρ cs D (M φ) := fun F σ H ok p W tk hx' => by
  refine wb (pss_cons (ps_for hp hc pi_w pg_w pss_w hfo) pss_w) ?_
  refine hi F σ H ok.c (xh_of ok tk hx') _ p _ fun y J F1 H1 m it _ q => ?_
  obtain ⟨β, ρ', cs', z0, G, vs, φb, φr, hg, hle, hcs, hb, hr, I, i0, iS, iE⟩ := hk y q
  have ok1 := ok.to m
  rw [hcs] at ok1
  refine ⟨fun i m σ H => m = (xs y).length - i ∧ i ≤ (xs y).length ∧ ∃ z F2, Ok B F1 (ρ' z) (cs' z) F2 σ H ∧ I i z, ⟨(xs y).length, by simp, Nat.zero_le _, z0, F1, ⟨hle.env ok1.env, ok1.mv, Same.refl _⟩, i0⟩, ?_⟩
  rintro i m σ2 H2 ⟨rfl, hil, z, F2, ok2, hI⟩
  obtain ⟨go, stop⟩ := it i F2 H2 ok2.flo ok2.mv.fh
  by_cases hlt : i < (xs y).length
  · obtain ⟨hgo, hy⟩ := go (xs y)[i] (List.getElem?_eq_getElem hlt)
    refine .inr ⟨hgo, Mid B F1 ρ' cs' (I (i + 1)), fun σ' H' ⟨z', F3, ok3, h3⟩ => ⟨(xs y).length - (i + 1), by omega, rfl, hlt, z', F3, ok3, h3⟩, fun v H3 hv => ?_⟩
    obtain ⟨F3, g3, rv⟩ := hy v H3 hv
    have ok3 := ok2.to (ok2.c.grow g3)
    refine hg F3 σ2 H3 v (xs y)[i] (ρ' z) ok3.env ok3.mv.fh rv _ fun σ4 hρ4 _ => ?_
    exact hb F1 ok1.flo (I (i + 1)) z (xs y)[i] F3 σ4 H3 ⟨hρ4, ok3.mv, ok3.flo⟩ (iS i z (xs y)[i] (List.getElem?_eq_getElem hlt) hI) W tk hx'
  · exact .inl ⟨stop (by omega), hr z F2 σ2 H2 (ok2.low ok1.flo) (iE z (by rw [show (xs y).length = i by omega]; exact hI)) W tk hx'⟩
/-! ### the same, where the refusals are caught: no fragment in the condition -/
/-! ### the answers that the written part does not give at once -/
theorem kit_ref {K : PySem.W.Frag} {C E : Addr} {b : Bool} (h1 : PySem.W.subIn K (.ref C) (.type "BaseException") = some true) (hd : PySem.W.hasDictIn K C = true) (ht : PySem.W.typeIn K (.ref C) = some (.type "type")) (hs : PySem.W.subIn K (.ref C) (.ref C) = some true) (h4 : PySem.W.subIn K (.ref E) (.ref C) = some b) : PySem.W.kitOne K (.ref E) (.ref C) = some b := by
  have e := PySem.W.exm_ref h1 hd ht h4
  unfold PySem.W.exmOne at e
  rw [if_pos (by rw [h1] <;> rfl)] at e
  unfold PySem.W.kitOne
  split
  · rename_i z
    have z : (Value.ref E) = .ref C := beq_iff_eq.mp z
    cases z
    exact hs.symm.trans h4
  · exact e
theorem kit_typ {K : PySem.W.Frag} {E : Addr} {T : String} {b : Bool} (h : PySem.W.subIn K (.ref E) (.type T) = some b) (hm : PySem.W.kitMeta T = true := by decide +kernel) : PySem.W.kitOne K (.ref E) (.type T) = some b := by
  unfold PySem.W.kitOne
  rw [if_neg (fun z => by have z : Value.ref E = .type T := beq_iff_eq.mp z; cases z)]
  show (if PySem.W.kitMeta T = true then _ else _) = _
  rw [if_pos hm]
  exact h
end
end MD
namespace KP
open PySem PySem.Spec PyProof.Rows L2 MD
/-! ### words -/
def abc : Str := "abcdefghijklmnopqrstuvwxyz"
def Low (s : Str) : Prop := ∀ c ∈ s.cps.toList, 97 ≤ c ∧ c ≤ 122
def Word (s : Str) : Prop := 1 ≤ s.length ∧ s.length ≤ 8 ∧ Low s
def sgn (c : Nat) : Str := ⟨#[c]⟩
theorem abc_cps : abc.cps.toList = List.map (fun i => 97 + i) (List.range 26) := by decide +kernel
theorem abc_len : abc.length = 26 := by decide +kernel
theorem str_len (s : Str) : s.length = s.cps.toList.length := by
  show s.cps.size = _
  rw [Array.length_toList]
theorem signs_abc : MD.signs abc = List.map (fun i => sgn (97 + i)) (List.range 26) := by
  unfold MD.signs
  rw [abc_cps, List.map_map]
  rfl
theorem app_cps (a b : Str) : (a ++ b).cps.toList = a.cps.toList ++ b.cps.toList := by
  show (a.cps ++ b.cps).toList = _
  rw [Array.toList_append]
theorem app_len (a b : Str) : (a ++ b).length = a.length + b.length := by rw [str_len, str_len, str_len, app_cps, List.length_append]
theorem low_app {a b : Str} (ha : Low a) (hb : Low b) : Low (a ++ b) := fun c hc => by
  rw [app_cps] at hc
  exact (List.mem_append.mp hc).elim (ha c) (hb c)
theorem pyIx_abc {r : Int} (h0 : 0 ≤ r) (h1 : r < 26) : pyIx (MD.signs abc) r = sgn (97 + r.toNat) := by
  unfold pyIx atI
  have hl : (MD.signs abc).length = 26 := by rw [signs_abc, List.length_map, List.length_range]
  have e : ixN (MD.signs abc).length r = some r.toNat := by
    unfold ixN
    rw [if_pos h0, hl, if_pos (by omega)]
  rw [e]
  show ((MD.signs abc)[r.toNat]?).getD default = _
  rw [signs_abc, List.getElem?_map, List.getElem?_range (by omega)]
  rfl
theorem ixok_abc {r : Int} (h0 : 0 ≤ r) (h1 : r < 26) : IxOk (MD.signs abc) r := by
  have hl : (MD.signs abc).length = 26 := by rw [signs_abc, List.length_map, List.length_range]
  exact ⟨by rw [hl]; omega, by rw [hl]; omega⟩
theorem sgn_word {r : Nat} (h : r < 26) : Word (sgn (97 + r)) := ⟨Nat.le_refl _, by show 1 ≤ 8; decide, fun c hc => by
  have : c = 97 + r := by simpa [sgn] using hc
  omega⟩
/-- joined single letters -/
theorem join_letters : ∀ ls : List Str, (∀ s ∈ ls, s.length = 1 ∧ Low s) → (Str.join ⟨#[]⟩ ls).length = ls.length ∧ Low (Str.join ⟨#[]⟩ ls)
  | [], _ => ⟨rfl, fun c hc => by cases hc⟩
  | s :: ls, h => by
    obtain ⟨i1, i2⟩ := join_letters ls fun x hx => h x (List.mem_cons_of_mem _ hx)
    obtain ⟨h1, h2⟩ := h s List.mem_cons_self
    rw [join_nil_cons]
    exact ⟨by rw [app_len, h1, i1, List.length_cons]; omega, low_app h2 i2⟩
/-- fewer than 26 words leave a letter free -/
theorem nodup_sub_len {α : Type} [DecidableEq α] : ∀ {xs ys : List α}, xs.Nodup → (∀ x ∈ xs, x ∈ ys) → xs.length ≤ ys.length
  | [], _, _, _ => Nat.zero_le _
  | x :: xs, ys, h, hs => by
    obtain ⟨h1, h2⟩ := List.nodup_cons.mp h
    have hx : x ∈ ys := hs x List.mem_cons_self
    have := nodup_sub_len (xs := xs) (ys := ys.erase x) h2 fun y hy => (List.mem_erase_of_ne (show y ≠ x from fun e => h1 (by rw [← e]; exact hy))).mpr (hs y (List.mem_cons_of_mem _ hy))
    rw [List.length_erase_of_mem hx] at this
    have := List.length_pos_of_mem hx
    rw [List.length_cons]
    omega
theorem sgn_inj {a b : Nat} (h : sgn a = sgn b) : a = b := by
  have := congrArg (fun s : Str => s.cps.toList) h
  simpa [sgn] using this
theorem signs_nodup : (MD.signs abc).Nodup := by
  rw [signs_abc]
  exact List.Pairwise.map (R := fun a b => a ≠ b) _ (fun a b h e => h (by have := sgn_inj e; omega)) List.nodup_range
theorem free_letter {found : List Str} (h : found.length < 26) : ∃ s ∈ MD.signs abc, s ∉ found := by
  refine Classical.byContradiction fun hn => ?_
  have : ∀ s ∈ MD.signs abc, s ∈ found := fun s hs => Classical.byContradiction fun hf => hn ⟨s, hs, hf⟩
  have h2 := nodup_sub_len signs_nodup this
  rw [signs_abc, List.length_map, List.length_range] at h2
  omega
/-! ### pieces of texts and lists -/
theorem cutS_to (z : Str) {n : Nat} (h : n ≤ z.length) : (cutS z none (some (n : Int))).cps.toList = z.cps.toList.take n := by
  unfold cutS
  rw [HT.sIx_none, HT.sIx_nat, Nat.min_eq_left h]
  simp
theorem cutS_from (z : Str) {n : Nat} (h : n ≤ z.length) : (cutS z (some (n : Int)) none).cps.toList = z.cps.toList.drop n := by
  unfold cutS
  rw [HT.sIx_none, HT.sIx_nat, Nat.min_eq_left h]
  simp only [List.drop_zero, List.toList_toArray]
  exact List.take_of_length_le (by rw [List.length_drop, str_len]; omega)
theorem take_step {α : Type} {xs : List α} {i : Nat} {x : α} (h : xs[i]? = some x) : xs.take (i + 1) = xs.take i ++ [x] := by
  rw [List.take_add_one, h]
  rfl
theorem get_mem {α : Type} {xs : List α} {i : Nat} {x : α} (h : xs[i]? = some x) : x ∈ xs := List.mem_of_getElem? h
theorem pyIx_nat {α : Type} [Inhabited α] {xs : List α} {i : Int} (h0 : 0 ≤ i) (h1 : i < xs.length) : ∃ x, pyIx xs i = x ∧ xs[i.toNat]? = some x := by
  unfold pyIx atI
  have e : ixN xs.length i = some i.toNat := by unfold ixN; rw [if_pos h0, if_pos h1]
  rw [e]
  have hl : i.toNat < xs.length := by omega
  exact ⟨xs[i.toNat], by show (xs[i.toNat]?).getD default = _; rw [List.getElem?_eq_getElem hl]; rfl, List.getElem?_eq_getElem hl⟩
theorem pyIx_mem {α : Type} [Inhabited α] {xs : List α} {i : Int} (h0 : 0 ≤ i) (h1 : i < xs.length) : pyIx xs i ∈ xs := by
  obtain ⟨x, e, h⟩ := pyIx_nat h0 h1
  rw [e]; exact get_mem h
/-! ### sharings' rows -/
abbrev SRow := Str × List Str
def desksF (rows : List SRow) : List Str := (rows.map (·.2)).flatten
def desksOf (rows : List SRow) : List Str := setS (desksF rows)
theorem desksF_mem {rows : List SRow} {d : Str} : d ∈ desksF rows ↔ ∃ r ∈ rows, d ∈ r.2 := by
  unfold desksF
  rw [List.mem_flatten]
  constructor
  · rintro ⟨l, hl, hd⟩
    obtain ⟨r, hr, rfl⟩ := List.mem_map.mp hl
    exact ⟨r, hr, hd⟩
  · rintro ⟨r, hr, hd⟩
    exact ⟨r.2, List.mem_map.mpr ⟨r, hr, rfl⟩, hd⟩
theorem setS_mem {xs : List Str} {x : Str} : x ∈ setS xs ↔ x ∈ xs := by unfold setS; rw [sortS_mem, List.mem_eraseDups]
theorem setS_nodup (xs : List Str) : (setS xs).Nodup := (sortS_perm _).nodup_iff.mpr (nodup_eraseDups xs)
theorem desksOf_mem {rows : List SRow} {d : Str} : d ∈ desksOf rows ↔ ∃ r ∈ rows, d ∈ r.2 := by unfold desksOf; rw [setS_mem, desksF_mem]
def Names (n : Int) (r : List Str) : Prop := (r.length : Int) = n ∧ r.Nodup ∧ ∀ s ∈ r, Word s
structure RowsOk (rows : List SRow) : Prop where
  ne : rows ≠ []
  len : rows.length ≤ 6
  nd : (rows.map (·.1)).Nodup
  wl : ∀ r ∈ rows, Word r.1
  dne : ∀ r ∈ rows, r.2 ≠ []
  dnd : ∀ r ∈ rows, r.2.Nodup
  dw : ∀ r ∈ rows, ∀ d ∈ r.2, Word d
  all : (desksOf rows).length ≤ 4
theorem RowsOk.of {rows acc : List SRow} (h : RowsOk rows) (hf : (acc.map (·.1)).Perm (rows.map (·.1))) (hr : ∀ r ∈ acc, r.2 ≠ [] ∧ r.2.Nodup ∧ ∀ d ∈ r.2, Word d) {ds : List Str} (hl : ds.length ≤ 4) (hd : ∀ r ∈ acc, ∀ d ∈ r.2, d ∈ ds) : RowsOk acc where
  ne := fun e => by
    subst e
    have := hf.length_eq
    simp at this
    exact h.ne (List.length_eq_zero_iff.mp this.symm)
  len := by
    have := hf.length_eq
    rw [List.length_map, List.length_map] at this
    rw [this]; exact h.len
  nd := hf.nodup_iff.mpr h.nd
  wl := fun r hr => by
    have : r.1 ∈ rows.map (·.1) := hf.mem_iff.mp (List.mem_map.mpr ⟨r, hr, rfl⟩)
    obtain ⟨r0, h0, e⟩ := List.mem_map.mp this
    rw [← e]; exact h.wl r0 h0
  dne := fun r h => (hr r h).1
  dnd := fun r h => (hr r h).2.1
  dw := fun r h => (hr r h).2.2
  all := Nat.le_trans (nodup_sub_len (setS_nodup _) fun d hdd => by
    obtain ⟨r, h1, h2⟩ := desksOf_mem.mp hdd
    exact hd r h1 d h2) hl
/-! ### dicts of rows -/
theorem dput_new {α : Type} {kvs : List (Str × α)} {x : Str} {y : α} (h : x ∉ kvs.map (·.1)) : dput kvs x y = kvs ++ [(x, y)] := by
  unfold dput
  rw [if_neg]
  intro e
  obtain ⟨p, hp, q⟩ := List.any_eq_true.mp e
  exact h (List.mem_map.mpr ⟨p, hp, by simpa using q⟩)
theorem dget_none {α : Type} {kvs : List (Str × α)} {x : Str} (h : x ∉ kvs.map (·.1)) : dget kvs x = none := by
  unfold dget
  rw [List.find?_eq_none.mpr fun p hp => by
    have : ¬ p.1 = x := fun e => h (List.mem_map.mpr ⟨p, hp, e⟩)
    simpa using this]
  rfl
/-! ### steps of comprehensions -/
section
variable {α β γ : Type}
theorem map_step {xs : List α} {i : Nat} {x : α} (g : α → γ) (h : xs[i]? = some x) : (xs.take (i + 1)).map g = (xs.take i).map g ++ [g x] := by
  rw [take_step h, List.map_append]
  rfl
theorem filt_yes {xs : List α} {i : Nat} {x : α} {p : α → Bool} (h : xs[i]? = some x) (hp : p x = true) : (xs.take (i + 1)).filter p = (xs.take i).filter p ++ [x] := by
  rw [take_step h, List.filter_append, List.filter_cons_of_pos hp]
  rfl
theorem filt_no {xs : List α} {i : Nat} {x : α} {p : α → Bool} (h : xs[i]? = some x) (hp : p x = false) : (xs.take (i + 1)).filter p = (xs.take i).filter p := by
  rw [take_step h, List.filter_append, List.filter_cons_of_neg (by simp [hp]), List.filter_nil, List.append_nil]
theorem nodup_take {xs : List α} {i : Nat} {x : α} (hn : xs.Nodup) (h : xs[i]? = some x) : x ∉ xs.take i := by
  have h2 : (xs.take (i + 1)).Nodup := hn.sublist (List.take_sublist _ _)
  rw [take_step h] at h2
  intro hm
  exact (List.nodup_append.mp h2).2.2 x hm x (List.mem_singleton.mpr rfl) rfl
theorem cutA_to {xs : List α} {n : Nat} (h : n ≤ xs.length) : cutA xs none (some (n : Int)) = xs.take n := by
  unfold cutA
  rw [HT.sIx_none, HT.sIx_nat, Nat.min_eq_left h]
  simp
theorem cutA_to' {xs : List α} {n : Nat} : cutA xs none (some (n : Int)) = xs.take n := by
  by_cases h : n ≤ xs.length
  · exact cutA_to h
  · unfold cutA
    rw [HT.sIx_none, HT.sIx_nat, Nat.min_eq_right (by omega), List.take_of_length_le (by omega : xs.length ≤ n)]
    simp
end
/-! ### words made -/
theorem join_nil_len {ls : List Str} (h : ∀ s ∈ ls, s.length = 1 ∧ Low s) : (Str.join "" ls).length = ls.length ∧ Low (Str.join "" ls) := join_letters ls h
theorem sum_len {ls : List Str} (h : ∀ s ∈ ls, s.length = 1 ∧ Low s) : (ls.map (fun x => x.length)).sum = ls.length := by
  induction ls with
  | nil => rfl
  | cons x ls ih =>
    rw [List.map_cons, List.sum_cons, ih fun s hs => h s (List.mem_cons_of_mem _ hs), (h x List.mem_cons_self).1, List.length_cons]
    omega
theorem ins_low {w s : Str} {n : Nat} (hw : Low w) (hs : Low s) (h : n ≤ w.length) : Low (cutS w none (some (n : Int)) ++ s ++ cutS w (some (n : Int)) none) := by
  refine low_app (low_app (fun c hc => ?_) hs) (fun c hc => ?_)
  · rw [cutS_to w h] at hc; exact hw c (List.mem_of_mem_take hc)
  · rw [cutS_from w h] at hc; exact hw c (List.mem_of_mem_drop hc)
theorem ins_len {w s : Str} {n : Nat} (h : n ≤ w.length) : (cutS w none (some (n : Int)) ++ s ++ cutS w (some (n : Int)) none).length = w.length + s.length := by
  rw [str_len, app_cps, app_cps, cutS_to w h, cutS_from w h, List.length_append, List.length_append, List.length_take, List.length_drop, str_len s]
  have : w.length = w.cps.toList.length := str_len w
  omega
theorem ins_inj {w s t : Str} {n : Nat} (h : n ≤ w.length) (e : cutS w none (some (n : Int)) ++ s ++ cutS w (some (n : Int)) none = cutS w none (some (n : Int)) ++ t ++ cutS w (some (n : Int)) none) : s = t := by
  have e2 := congrArg (fun z : Str => z.cps.toList) e
  simp only [app_cps] at e2
  exact str_ext (List.append_cancel_left (List.append_cancel_right e2))
theorem len_sgn (c : Nat) : (sgn c).length = 1 := rfl
theorem low_sgn {r : Nat} (h : r < 26) : Low (sgn (97 + r)) := (sgn_word h).2.2
theorem zs_low : Low "zzzzzzzz" := by
  intro c hc
  have : ∀ c ∈ (Str.ofString "zzzzzzzz").cps.toList, 97 ≤ c ∧ c ≤ 122 := by decide +kernel
  exact this c hc
theorem cutS_zs {n : Nat} (h : n ≤ 7) : (cutS "zzzzzzzz" (some (n : Int)) none).length = 8 - n ∧ Low (cutS "zzzzzzzz" (some (n : Int)) none) := by
  have hz : (Str.ofString "zzzzzzzz").length = 8 := by decide +kernel
  have e := cutS_from "zzzzzzzz" (n := n) (by show n ≤ (Str.ofString "zzzzzzzz").length; omega)
  refine ⟨?_, fun c hc => ?_⟩
  · rw [str_len, e, List.length_drop, ← str_len]
    show (Str.ofString "zzzzzzzz").length - n = _
    rw [hz]
  · rw [e] at hc
    exact zs_low c (List.mem_of_mem_drop hc)
theorem nodup_set {α : Type} : ∀ {xs : List α} {x : α} {i : Nat}, xs.Nodup → x ∉ xs → (xs.set i x).Nodup
  | [], _, _, h, _ => h
  | a :: xs, x, 0, h, hx => by
    obtain ⟨h1, h2⟩ := List.nodup_cons.mp h
    rw [List.set_cons_zero]
    exact List.nodup_cons.mpr ⟨fun m => hx (List.mem_cons_of_mem _ m), h2⟩
  | a :: xs, x, i + 1, h, hx => by
    obtain ⟨h1, h2⟩ := List.nodup_cons.mp h
    rw [List.set_cons_succ]
    refine List.nodup_cons.mpr ⟨fun m => ?_, nodup_set h2 fun m => hx (List.mem_cons_of_mem _ m)⟩
    rcases List.mem_or_eq_of_mem_set m with m | e
    · exact h1 m
    · exact hx (by rw [← e]; exact List.mem_cons_self)
/-! ### what each def asks and gives -/
def Fl (fl : List Int) : Prop := ∃ a b c : Int, fl = [a, b, c] ∧ 0 ≤ c ∧ c < 1099511627776
def pre_draw (fl : List Int) (n : Int) : Prop := Fl fl ∧ 0 < n ∧ n ≤ 1000000
def post_draw (fl : List Int) (n r : Int) (fl2 : List Int) : Prop := 0 ≤ r ∧ r < n ∧ Fl fl2
def pre_cell (x : List Int × Int) : Prop := 0 ≤ x.2
def f_cell (x : List Int × Int) : Int := if x.2 < x.1.length then pyIx x.1 x.2 else (if 0 < x.1.length then pyIx x.1 (x.2 * 7 % x.1.length) % 2147483629 * 48271 + x.2 * 7919 else x.2 * 7919 + 5) % 2147483647 * 31
def pre_flow (x : List Int × Int) : Prop := 0 ≤ x.2 ∧ x.2 ≤ 1000000
def post_flow (x : List Int × Int) (r : List Int) : Prop := Fl r
def pre_names (fl : List Int) (n : Int) : Prop := Fl fl ∧ 1 ≤ n ∧ n ≤ 8
def post_names (fl : List Int) (n : Int) (r : List Str) (fl2 : List Int) : Prop := Names n r ∧ Fl fl2
end KP
namespace MD
open PySem PySem.Spec PyProof.Rows L2
/-! ### a def of one thing, the caught exception, called in a suite: nothing flies out of it -/
end MD
namespace MD
open PySem PySem.Spec PyProof.Rows L2
/-! ### dict(a list of pairs) -/
/-! ### is, of truths; what is never come to -/
/-! ### a slice of an owned list put otherwise -/
/-! ### equality where no cell changes -/
end MD
namespace MD
open PySem PySem.Spec PyProof.Rows L2
open PySem.Builtin PySem.Builtin.Str
/-! ### signs of pieces -/
/-! ### str.partition -/
/-! ### str.replace of written texts, a token out -/
/-! ### lists one behind another, pieces of lists, and; with effects -/
section
variable {X : Cx} {Y : Ec X.K} {ρ : List (Slot X.K)} {cs : List (Cell X.K)} {α μ : Type} {pos : Pos}
theorem ne_slE {a : Expr} {lo hi : Option Expr} {T : Ty X.K α} {l h : Option Int} {P1 P2 : Prop} {p2 : Pos} {vl : μ → List α} {cs1 : μ → List (Cell X.K)} {M : (μ → Prop) → Prop} (ha : EK X Y a ρ cs (tL T) vl cs1 M) (hl : ∀ y, PKo X lo ρ (cs1 y) l P1) (hh : ∀ y, PKo X hi ρ (cs1 y) h P2) :
    NE X Y (.Subscript a (.Slice lo hi none p2) pos) ρ cs T (fun y => cutA (vl y) l h) cs1 (fun φ => M fun y => P1 ∧ P2 ∧ φ y) := fun F σ H ok xh φ q Q k => by
  refine we (pe_slice sl_list pe_w po_w po_w) ?_
  refine ha F σ H ok xh _ q _ fun y v F1 H1 m1 ⟨b, vs, e, hb, r, z⟩ q1 => ?_
  have ok1 := ok.mv m1
  refine hl y F1 σ H1 ok1.w q1.1 _ fun F2 H2 g2 => ?_
  refine hh y F2 σ H2 (ok1.w.grow g2) q1.2.1 _ fun F3 H3 g3 => ?_
  have g := g2.trans g3
  refine ⟨b, vs, e, SqL.of (g.fh _ _ (g.ff _ _ hb)), fun p hp => ?_⟩
  obtain ⟨m3, h3, h4, h5⟩ := new_ne (vs := cutV vs l h) ok (m1.trans (ok1.grow g)) hp
  exact k y p _ F3 _ m3 h3 h4 upd_same h5 (Rl.cut (r.mono g.ff)) (Nat.le_trans (cutV_length ..) z) q1.2.2
end
end MD
namespace MD
open PySem PySem.Spec PyProof.Rows L2
end MD
namespace MD
open PySem PySem.Spec PyProof.Rows L2
/-! ### a def within which repr may be asked: around it nothing is being shown -/
structure FnG (P : Program) (w : World) (K : PySem.W.Frag) (mg : Str → Option Value) (base : Heap) (k : Nat) (f : Addr) (fd : FuncData) (ps : List Str) (sp : Sp) : Prop where
  len : ∀ vs H Q E, sp vs H Q E → vs.length = ps.length
  run : ∀ (A : Around) (ou : List Env) (s : Shared) (H : Hp) (as : Args) (us : List Value) (vs : List V) (Q : VK) (E : XK), Room k A → A.guards = some [] → Env0 P w K mg base A ou s H → BindsTo s fd as (ps.zip us) → Vals vs us → sp vs H Q E →
    codeAny (model P w) A (.call (.ref f) as) (CR (L2.CX P w) ou P w H s Q E) s
section
variable {P : Program} {w : World} {K : PySem.W.Frag} {mg : Str → Option Value} {base : Heap} {A R γ : Type}
structure CalG (P : Program) (w : World) (K : PySem.W.Frag) (mg : Str → Option Value) (base : Heap) (nm : Str) (k : Nat) (ps : List Str) (sp : Sp) (f : Addr) (fd : FuncData) : Prop where
  F : FnG P w K mg base k f fd ps sp
  m : mg nm = some (.ref f)
  k : PySem.W.keepIn K (.ref f) = true
  b : Binds K fd ps []
theorem fn_conG {y qual : Str} {st : Stmt} {f : Addr} {fd : FuncData} {N ps : List Str} {k : Nat} (C : Con K A R γ) (F : Fun K y qual st f fd) (S : FnScope N ps (defScope st)) (hl : ∀ a, (C.ins a).length = ps.length)
    (body : ∀ (cdv : Value) (Ar : Around) (outer : List Env) (s : Shared) (H : Hp) (E : XK) (F0 : Hp) (a : A) (φ : R → Prop) (ε : Exn K → Prop), (Ar.deeper (envOfC qual (defScope st) s.heap.objs.size f cdv)).guards = some [] → Room k (Ar.deeper (envOfC qual (defScope st) s.heap.objs.size f cdv)) →
      PassesOwn (model P w) (Ar.deeper (envOfC qual (defScope st) s.heap.objs.size f cdv)) (envOfC qual (defScope st) s.heap.objs.size f cdv) (cxOf (L2.CX P w) P w K mg base N qual (defScope st) f cdv Ar outer s H E).xe →
      SK (cxOf (L2.CX P w) P w K mg base N qual (defScope st) f cdv Ar outer s H E) ⟨F0, H, C.cin a⟩ ⟨C.cin a, ε⟩ F0 (defBody st) (C.ins a ++ List.replicate (N.length - ps.length) .un) (C.cin a) (retD C a ⟨F0, H, C.cin a⟩ φ) (C.wp a φ ε)) :
    FnG P w K mg base (k + 1) f fd ps C.sp := by
  obtain ⟨oc, od, kV, doc, pm, an, cdv, ct, osl, rfl, lk, hcd⟩ := F.ex
  have hlen : ∀ vs H Q E, C.sp vs H Q E → vs.length = ps.length := fun vs H Q E ⟨a, F, h, _⟩ => by rw [← h.length]; exact hl a
  refine ⟨hlen, fun A outer s H args us vs Q E hr hgd e0 hb r hsp => ?_⟩
  have e := hlen _ _ _ _ hsp
  obtain ⟨a, F0, hv, hs, hc, hn, hw⟩ := hsp
  have inK : K.In s.heap := e0.mod.kin.keeps fun b o e => (e0.bs b o e).1
  have noL : s.heap.NoLimit := e0.mod.nolimit.keeps fun b o e => (e0.bs b o e).1
  have kinds : ∀ y ∈ ps.zip us, (defScope st).names.lookup y.1 = some .local ∨ ((defScope st).names.lookup y.1 = some .cell ∧ ((cellsFrom (s.heap.objs.size + 1) (defScope st).names []).lookup y.1).isSome = true) := fun ⟨n, v⟩ hy =>
    (S.par n (List.of_mem_zip hy).1).elim .inl fun q => .inr ⟨q, PySem.W.cellsFrom_some _ _ _ (.inl q)⟩
  refine codeAny_call_function hr.depth (inK _ _ lk) rfl S.co S.gen rfl (PySem.W.codeRec_of inK hcd) (hb _ _ _ _ ?_)
  refine wpAny_newFunctionEnv_cells S.kind kinds fun env he s1 y1 => ?_
  subst he
  refine ⟨noL.keeps y1.toInCall.keep, codeAny_func ?_⟩
  have I : Inv (cxOf (L2.CX P w) P w K mg base N qual (defScope st) f cdv A outer s H E) [] (L2.start N vs) H s1 := inv_start S hr.hd e0 e r y1
  have Bo : Mv (C.cin a) F0 H (C.cin a) F0 H := ⟨Same.refl _, hs, fun b h1 h2 => absurd h1 h2, fun b o e _ => e, hc, hn, fun c hc => .inl ⟨c, hc, rfl⟩, fun c hcm z => by
    obtain ⟨_, o, e, _⟩ := hc c hcm
    rw [e] at z; cases z⟩
  have run := body cdv A outer s H E F0 a _ _ hgd (hr.deeper _) (passes_of rfl) F0 (L2.start N vs) H ⟨by
    unfold L2.start
    rw [e]
    exact hv.start, Bo, Same.refl _⟩ hw (fun cls d _ H => E cls d H) (takes_of rfl rfl rfl rfl) (fun ex cls d cs2 F' H' σ' mv kp r ep => ep cls d F' H' ⟨mv.ff, mv.fh, mv.fr, mv.kp, fun c hc => mv.cell c (kp c hc), hn, fun c hc => .inl ⟨c, hc, rfl⟩, mv.st⟩ r) [] s1 I
  refine wpAny_mono run (fun fl s' hs => ?_) fun e s' hs => hs
  have done : ∀ {σ' : L2.St} {H' : Hp} {v : V} {u : Value}, Inv (cxOf (L2.CX P w) P w K mg base N qual (defScope st) f cdv A outer s H E) [] σ' H' s' → RelV v u → Q v H' → CE outer P w H s Q u s' :=
    fun {_ H' v _} J rv q => ⟨v, H', J.os, J.bare, J.base, J.hok, rv, q⟩
  cases fl with
  | ret u =>
    obtain ⟨v, σ', H', J, rv, z, F', m, t, q⟩ := hs
    exact done J rv (q v F' H' m t)
  | next =>
    obtain ⟨σ', H', J, z, F', m, t, q⟩ := hs
    exact done (v := V.non) (u := Value.none) J rfl (q .non F' H' m t)
  | brk =>
    obtain ⟨_, _, _, q⟩ := hs
    exact False.elim q
  | cont =>
    obtain ⟨_, _, _, q⟩ := hs
    exact False.elim q
end
/-! ### its call -/
section
variable {X : Cx} {Y : Ec X.K} {ρ : List (Slot X.K)} {cs : List (Cell X.K)} {α γ μ : Type} {pos p : Pos} {e : Expr} {es : List Expr} {k : Nat} {f : Addr} {fd : FuncData} {ps : List Str} {nm : Str} {sp : Sp} {t : TA} {E : Hp → XK}
theorem pe_callG {E : XK} (F : CalG X.prog X.w X.K X.mg X.base nm k ps sp f fd) (hr : Room k X.A) (hgd : X.A.guards = some []) (hx : Passes (L2.CX X.prog X.w) X E) (ha : PA X (e :: es) t) (hg : Gl X nm := by rfl)
    (hdb : (nm == ("__debug__" : Str)) = false := by decide) (he : starEach (e :: es) X.env = (false, eval e X.env) :: starEach es X.env := by rfl) (hpl : (backTo pos (starEach es X.env)).any (·.1) = false := by rfl) :
    PE X (.Call (.Name nm p) (e :: es) [] pos) (tCall sp [] E t) := by
  refine ⟨fun pins s σ H Q I h => ?_⟩
  refine wpAny_Call_Name_kw (ld_glob I hg F.m ?_ hdb)
  refine PySem.W.callWith_K (h₀ := X.base) I.ok.mod.kin F.k (thn (ha.run pos pins s σ H _ I h) fun us s1 ⟨vs, H1, I1, r, q⟩ => ⟨I1.kIn, ?_⟩) he hpl
  have q : sp (vs ++ []) H1 Q E := q
  rw [List.append_nil] at q
  have ul : (us ++ []).length = ps.length := by rw [List.append_nil, ← r.length]; exact F.F.len _ _ _ _ q
  have bd := F.b s1 us I1.kIn ul
  rw [List.append_nil] at bd
  refine wpAny_call (codeAny_mono (F.F.run X.A X.stack s1 H1 ⟨us, []⟩ us vs Q E hr hgd I1.env0 bd r q) fun res s2 hq => ?_)
  cases res with
  | error e => exact hx pins σ H1 s1 e s2 I1 hq
  | ok fl =>
    cases fl with
    | ret u => exact I1.after hq
    | next => exact False.elim hq
    | brk => exact False.elim hq
    | cont => exact False.elim hq
theorem pk_fnG {ins : α → List (Slot X.K)} {T : Ty X.K γ} {pre : α → Prop} {g : α → γ} {Ts : Tys X.K α} {x : α} {Pa : Prop}
    (F : CalG X.prog X.w X.K X.mg X.base nm k ps (Con.fn ins T pre g).sp f fd) (hs : Sl Ts ins) (hr : Room k X.A) (hgd : X.A.guards = some []) (ha : PAK X (e :: es) ρ cs Ts x Pa) (hg : Gl X nm := by rfl)
    (hdb : (nm == ("__debug__" : Str)) = false := by decide) (he : starEach (e :: es) X.env = (false, eval e X.env) :: starEach es X.env := by rfl) (hpl : (backTo pos (starEach es X.env)).any (·.1) = false := by rfl) :
    PK X (.Call (.Name nm p) (e :: es) [] pos) ρ cs T (g x) (Pa ∧ pre x) := fun F0 σ H ok q Q kk => by
  refine we (pe_callG F hr hgd (E := E0) passL pa_w hg hdb he hpl) ?_
  refine ha F0 σ H ok q.1 _ fun vs F1 H1 g1 r1 => ?_
  refine ⟨x, F1, by rw [List.append_nil]; exact hs F1 vs x r1, g1.fh, fun c hc => absurd hc (by simp [Con.fn]), by simp [Con.fn], q.2, fun r er v F2 H2 m rr => ?_⟩
  subst er
  exact kk v F2 H2 (g1.trans ⟨m.ff, m.fh, fun b o e => m.kp b o e fun c hc => absurd hc (by simp [Con.fn]), m.fr⟩) rr
end
/-! ### repr -/
/-- a text, of whatever signs -/
def tSx {K : PySem.W.Frag} : Ty K Str := ⟨fun _ v x => v = .str x, fun _ h => h⟩
section
variable {X : Cx}
theorem cr_repr {k : Nat} (hgd : X.A.guards = some []) (hr : Room k X.A) : CallR X (.builtin "repr") (fun xs H Q => ∃ a d, xs = [.ref a] ∧ Dp X.K H (.ref a) d ∧ d.showable = true ∧ d.hasDict = false ∧ d.depth ≤ 64 ∧ d.shown.length ≤ sizeLine ∧ Q (.str d.shown) H) := by
  intro pins s σ H xs us Q I rs ⟨a, d, e, hd, h1, h2, h3, h4, hq⟩
  subst e
  cases rs with
  | cons r1 rs =>
    cases rs
    obtain rfl : _ = Value.ref a := r1
    obtain ⟨as, hrd⟩ := Dp.reads I d (.ref a) (.ref a) hd rfl
    have hu := hr.un
    exact repr_of_reads' hrd h1 (fun e => by rw [h2] at e; cases e) hgd (by omega) (fun b o e => e) (fun h' u tk hk => ⟨.str d.shown, H, I.kept hk, ⟨u, rfl⟩, hq⟩) h4
end
theorem u_repr {K : PySem.W.Frag} {α : Type} {T : Ty K α} (D : DT T) (hb : ∀ F v x, T.rep F v x → ∃ a, v = .ref a) (hn : D.n ≤ 64) {x : α} : U1 (fun xs H Q => ∃ a d, xs = [.ref a] ∧ Dp K H (.ref a) d ∧ d.showable = true ∧ d.hasDict = false ∧ d.depth ≤ 64 ∧ d.shown.length ≤ sizeLine ∧ Q (.str d.shown) H) (sv T x)
    ((D.d x).showable = true ∧ (D.d x).hasDict = false ∧ (D.d x).shown.length ≤ sizeLine) (sv (tSx (K := K)) (D.d x).shown) := fun F H v s h c Q k => by
  have ⟨a, ea⟩ := hb F v x h
  subst ea
  exact ⟨a, D.d x, rfl, D.dp F H _ x s h, c.1, c.2.1, Nat.le_trans (D.dep x) hn, c.2.2, k _ F H (Grow.refl s) rfl⟩
theorem tT_ref {K : PySem.W.Frag} {α : Type} {Ts : Tys K α} : ∀ F v x, (tT Ts).rep F v x → ∃ a, v = .ref a := fun F v x ⟨a, _, e, _⟩ => ⟨a, e⟩
theorem r2_neR {K : PySem.W.Frag} : R2K (K := K) rNe tSx tSx tB yes2 (fun i j => !decide (i = j)) := fun F H v w x y s h1 h2 c Q k => by
  cases h1; cases h2
  refine ⟨rfl, k _ F H (Grow.refl s) ?_⟩
  show V.bl _ = V.bl _
  rw [dec_strD]
/-! ### the law's end -/
section
variable {P : Program} {w : World} {K : PySem.W.Frag} {mg mb : Str → Option Value} {k : Nat} {fa a : Addr} {fd : FuncData} {x : Str} {sp : Sp} {s1 : Shared} {vs : List Value} {ns : List Int}
theorem law_callG (inK : K.In s1.heap) (gn : s1.heap.Ns mainGlobals mg) (bn : s1.heap.Ns builtinsNs mb) (bb : ∀ x : Str, x ≠ "__name__" → mb x = bootBuiltins x) (nl : s1.heap.NoLimit) (ge : s1.gens = #[])
    (ha : s1.heap.get? a = some { cls := .type "list", data := .seq vs.toArray }) (hi : IntsAre vs ns) (hl : ns.length ≤ sizeLine) (hr : Room k callerA)
    (F : ∀ base : Heap, K.In base → base.Ns mainGlobals mg → FnG P w K mg base k fa fd [x] sp) (hbind : ∀ (s : Shared) (u : Value), BindsTo s fd ⟨[u], []⟩ [(x, u)])
    (hsp : ∀ H : Hp, Only H → SqL K H a (ns.map V.int) → sp [.ref a] H (fun v _ => v = .bl true) fun _ _ _ => False)
    (hCX : ∀ H e s', L2.CX P w [] H s1 (fun _ _ _ => False) e s' → False) :
    codeAny (model P w) callerA (.call (.ref fa) ⟨[.ref a], []⟩) (fun r s' => r = .ok (.ret (.bool true)) ∧ OldK s1.heap s'.heap ∧ s'.os = s1.os ∧ AllBare s'.gens) s1 := by
  have vi := vals_ints hi
  have vl := hi.length
  have go : ∀ H : Hp, Only H → SqL K H a (ns.map V.int) → HOk P w H s1.heap → (∀ b, H b ≠ none → b = a) → (H a ≠ none → K.lookup a = none) →
      codeAny (model P w) callerA (.call (.ref fa) ⟨[.ref a], []⟩) (fun r s' => r = .ok (.ret (.bool true)) ∧ OldK s1.heap s'.heap ∧ s'.os = s1.os ∧ AllBare s'.gens) s1 := by
    intro H only seq ok one low
    have put : ∀ {b : Addr} {o : Obj}, s1.heap.get? b = some o → H b = none → (hidT s1.heap H).get? b = some o := fun e n => hidT_get e n
    have freeD : ∀ {b : Addr} {o : Obj} {es : Array DictEntry} {n : Nat}, s1.heap.get? b = some o → o.data = .dict es n → H b = none := fun {b o es n} e d => Classical.byContradiction fun q => by
      have eb := one b q
      subst eb
      rw [ha] at e
      cases e
      have d2 : Data.seq vs.toArray _ = Data.dict es n := d
      cases d2
    have nss : ∀ {b : Addr} {m : Str → Option Value}, s1.heap.Ns b m → (hidT s1.heap H).Ns b m := fun ⟨o, es, n, e, d, r⟩ => ⟨o, es, n, put e (freeD e d), d, r⟩
    have inH : K.In (hidT s1.heap H) := fun b o e => put (inK b o e) (Classical.byContradiction fun q => by
      have eb := one b q
      subst eb
      rw [low q] at e
      cases e)
    have md : Mod K mg (hidT s1.heap H) := ⟨inH, nss gn, ⟨mb, nss bn, bb⟩, nl.elim fun mc h => ⟨mc, nss h.1, h.2⟩⟩
    have env : Env0 P w K mg (hidT s1.heap H) callerA [] s1 H := ⟨rfl, md, fun b o e => of_hidT e, Nat.le_of_eq (hidT_size _ _), trivial, fun b hb => absurd (show b ∈ ([] : List Addr) from hb) (by simp), ok, .of_eq ge⟩
    have run := (F _ inH (nss gn)).run callerA [] s1 H ⟨[.ref a], []⟩ [.ref a] [.ref a] _ _ hr rfl env (hbind s1 (.ref a)) (.cons rfl .nil) (hsp H only seq)
    refine codeAny_mono run fun r s2 h => ?_
    cases r with
    | error e => exact (hCX H e s2 h).elim
    | ok fl =>
      cases fl with
      | next => exact False.elim h
      | brk => exact False.elim h
      | cont => exact False.elim h
      | ret u =>
        obtain ⟨v, H2, os, bare, un, ok2, rv, q⟩ := h
        have q : v = .bl true := q
        subst q
        obtain rfl : u = Value.bool true := rv
        refine ⟨rfl, OldK.of_keep fun b o e => ?_, os, bare⟩
        cases hb : H b with
        | none => exact un.keep b o e hb (by intro z; exact absurd (show b ∈ ([] : List Addr) from z) (by simp)) (by simp)
        | some t =>
          rcases only b with z | ⟨ob, xs, z⟩
          · rw [hb] at z
            cases z
          · obtain ⟨g1, _⟩ := ok b _ z
            obtain ⟨g2, _⟩ := ok2 b _ (un.frzs b ob _ z)
            rw [e] at g1
            cases g1
            exact g2
  have sz : (ns.map V.int).length ≤ sizeLine := by rw [List.length_map]; exact hl
  cases hk : K.lookup a with
  | some o =>
    have e := inK a o hk
    rw [ha] at e
    cases e
    exact go (fun _ => none) (fun _ => .inl rfl) (.inr ⟨_, vs.toArray, _, hk, rfl, rfl, rfl, by rw [List.size_toArray, vl]; exact hl, by simpa using vi⟩) (fun b u z => nomatch z) (fun b z => absurd rfl z) fun z => absurd rfl z
  | none =>
    let one : HO := .frz { cls := .type "list", data := .seq vs.toArray } (.lst (ns.map V.int))
    have at1 : ∀ {b : Addr}, b = a → (fun b => if b = a then some one else none : Hp) b = some one := fun h => if_pos h
    have at0 : ∀ {b : Addr}, b ≠ a → (fun b => if b = a then some one else none : Hp) b = none := fun h => if_neg h
    refine go (fun b => if b = a then some one else none) (fun b => ?_) (.inl (.inr ⟨{ cls := .type "list", data := .seq vs.toArray }, at1 rfl⟩)) (fun b u z => ?_) (fun b z => Classical.byContradiction fun h => z (at0 h)) fun _ => hk
    · by_cases h : b = a
      · exact .inr ⟨_, _, at1 h⟩
      · exact .inl (at0 h)
    · by_cases h : b = a
      · subst h
        have z := (at1 rfl).symm.trans z
        cases z
        exact ⟨ha, sz, vs, _, vi, ha⟩
      · exact nomatch (at0 h).symm.trans z
end
theorem walk_ofG {l : PySem.W.OpenLaw} {n k : Nat} {q : Program} {loose : List Str} {XP : (Str → Option Value) → Heap → Prop} {YP : World → Heap → Prop} {d : DefRec} {K : Params → PySem.W.Frag} {sp : World → Sp} {x : Str}
    (hn : l.most = some n) (n2 : n ≤ sizeLine) (hdf : d.params.defaults = []) (hr : Room k callerA) (hY : ∀ (w : World) (h : Heap), YP w h → (K w.params).In h)
    (F : ∀ (w : World) (mg : Str → Option Value) (fa : Addr) (h : Heap), (K w.params).In h → h.Ns mainGlobals mg → mg d.name = some (.ref fa) →
      ∃ fd : FuncData, (∀ (s : Shared) (u : Value), BindsTo s fd ⟨[u], []⟩ [(x, u)]) ∧ ∀ base : Heap, (K w.params).In base → base.Ns mainGlobals mg → FnG l.prog w (K w.params) mg base k fa fd [x] (sp w))
    (hsp : ∀ (w : World) (H : Hp) (a : Addr) (ns : List Int), ns.length ≤ n → Only H → SqL (K w.params) H a (ns.map V.int) → sp w [.ref a] H (fun v _ => v = .bl true) fun _ _ _ => False)
    (hCX : ∀ (w : World) (H : Hp) (s : Shared) (e : Value) (s' : Shared), L2.CX l.prog w [] H s (fun _ _ _ => False) e s' → False) : PySem.W.WalkO q loose XP YP l.row.toRowW d [] (fun f vs => PySem.call f vs) :=
  Att.attach_call hn hdf fun w s0 s1 mg mb fa o pm cd doc a vs ns G Y ho hd hcd hmg hobj hints hlen hg =>
    have inK := hY w _ Y
    have ⟨_, hb, hF⟩ := F w mg fa _ inK G.T.g hmg
    law_callG inK G.T.g G.T.b G.T.builtins G.T.nolimit hg hobj hints (Nat.le_trans hlen n2) hr hF hb (fun H hO hS => hsp w H a ns hlen hO hS) fun H e s' => hCX w H s1 e s'
end MD
namespace MD
open PySem PySem.Spec PyProof.Rows L2
/-! ### tuple(a list), locked -/
section
variable {X : Cx}
theorem call_tupF : CallR X (.type "tuple") (fun xs H Q => ∃ p ys, xs = [.ref p] ∧ SqL X.K H p ys ∧ ∀ l o, H l = none → o.dict = none → Q (.ref l) (upd H l (.frz o (.tup ys)))) := by
  intro pins s σ H xs us Q I r ⟨p, ys, e, hq, q⟩
  subst e
  cases r with
  | cons r1 rs =>
    cases rs
    obtain rfl : _ = Value.ref p := r1
    obtain ⟨its, rv, pl, hz⟩ := I.list hq
    have hlen := rv.length
    refine call_tuple_list pl.isList (fun h' kp => ?_) (by simp only [List.size_toArray]; omega)
    have I1 : Inv X pins σ H { s with heap := h' } := I.kept (t' := s.toks) kp
    let ob : Obj := { cls := .type "tuple", data := .seq its.toArray }
    have hg : (h'.push ob).get? h'.objs.size = some ob := Heap.get?_push_size _ rfl
    exact ⟨.ref h'.objs.size, _, I1.laid (t' := s.toks) (o := .frz ob (.tup ys)) (fun b u e => Heap.get?_push_of_some _ e) (Nat.le_refl _) ⟨hg, hz, its, rv, ⟨_, hg, rfl, _, rfl⟩⟩, rfl, q _ ob (I1.hok.fresh (Nat.le_refl _)) rfl⟩
theorem u_tupF {K : PySem.W.Frag} {α : Type} {T : Ty K α} {xs : List α} : U1 (fun vs H Q => ∃ p ys, vs = [.ref p] ∧ SqL K H p ys ∧ ∀ l o, H l = none → o.dict = none → Q (.ref l) (upd H l (.frz o (.tup ys)))) (rK T xs) True (sv (tUF T) xs) := fun F H v s ⟨a, vs, e, h, r, z⟩ _ Q k => by
  subst e
  refine ⟨a, vs, rfl, h, fun l o hl hd => ?_⟩
  have g := grow_new s hl (.frz o (.tup vs))
  exact k _ _ _ g ⟨l, vs, o, rfl, upd_same, hd, r.mono g.ff, z⟩
end
section
variable {X : Cx} {Y : Ec X.K} {ρ : List (Slot X.K)} {cs : List (Cell X.K)} {A α β γ δ μ ν : Type} {pos : Pos} {e : Expr} {es : List Expr}
/-! ### l.index(y), a text that is there -/
theorem pk_indexL {o : Expr} {xs : List Str} {y : Str} {P1 P2 : Prop} {apos cpos : Pos} (ho : PV X o ρ cs (rK (tS (K := X.K)) xs) P1) (hy : PK X e ρ cs tS y P2)
    (hbase : attributeBase o "index" X.env (eval o X.env) = eval o X.env := by rfl)
    (hfew : ((backTo cpos (starEach (e :: []) X.env)).all (fun x => !x.1) && (backToKw cpos (keywordEach [] X.env)).all (fun x => x.1.isSome) && decide ((e :: ([] : List Expr)).length + ([] : List Keyword).length + (if ([] : List Keyword).isEmpty then 0 else 1) < 30)) = true := by rfl)
    (hline : (apos.endLine == cpos.line) = true := by rfl) (hs : starEach (e :: []) X.env = (false, eval e X.env) :: starEach [] X.env := by rfl) (hplain : (backTo cpos (starEach [] X.env)).any (·.1) = false := by rfl) :
    PK X (.Call (.Attribute o "index" apos) [e] [] cpos) ρ cs tI ((xs.idxOf y : Nat) : Int) (P1 ∧ P2 ∧ y ∈ xs) := fun F σ H ok p Q k => by
  refine we (pe_bm PySem.F.plainAttrs_list PySem.F.slot_list_index PySem.F.type_list_index mt_index pe_w (pa_cons pe_w pa_nil hs) hbase hfew hline hs hplain) ?_
  refine ho F σ H ok p.1 _ fun v F1 H1 g1 ⟨a, vs, e1, h1, r, z⟩ => ?_
  subst e1
  refine ⟨.inl ⟨rfl, vs, h1⟩, ?_⟩
  refine hy F1 σ H1 (ok.grow g1) p.2.1 _ fun w F2 H2 g2 r2 => ?_
  obtain ⟨e3, _⟩ := rl_strs r
  subst e3
  have hlt : xs.idxOf y < xs.length := List.idxOf_lt_length_iff.mpr p.2.2
  refine ⟨a, xs.map V.str, w, xs.idxOf y, .str y, rfl, rfl, g2.hh.seq h1, by rw [r2.1]; rfl, ?_, ?_, by rw [r2.1]; exact decide_eq_true rfl, fun m z' hm hz => ?_, k _ F2 H2 (g1.trans g2) rfl⟩
  · rw [List.all_eq_true]
    intro u hu
    obtain ⟨t, _, rfl⟩ := List.mem_map.mp hu
    rfl
  · rw [List.getElem?_map, List.getElem?_eq_getElem hlt, List.getElem_idxOf hlt]
    rfl
  · rw [List.getElem?_map] at hz
    obtain ⟨t, ht, et⟩ := Option.map_eq_some_iff.mp hz
    subst et
    rw [r2.1]
    have hne : t ≠ y := fun q => idxOf_first hm (by rw [ht, q])
    exact decide_eq_false fun q => hne (by cases q; rfl)
/-! ### list(range(..)) -/
/-! ### nothing, of whatever type -/
/-! ### f(frozen, owned) -/
/-! ### f(what is made, ..) -/
/-! ### comparisons and `and`, as values, with effects -/
end
end MD
namespace MD
open PySem PySem.Spec PyProof.Rows L2
/-! ### a comprehension within one -/
def relS (scope sc : Scope) : Scope := { scope with names := scope.names.map fun (n, k) => if (k == .free && sc.kind == .function && sc.names.lookup n == some .cell) then (n, .cell) else (n, k) }
theorem blkIn_by {X : Cx} {s : Shared} {H : Hp} {scope1 : Scope} {cl : List (Str × Addr)} {C : Addr} {fp : List Addr} {N : List Str} {sc scope2 : Scope} {own : List (Str × Nat)} (hN : X.N = N) (hs : X.env.scope = sc) (h : blkC N (relS scope1 sc) scope2 own = true) :
    BlkOk (X.blk s H scope1 (compEnvC scope1 cl C X.env) fp).N (X.blk s H scope1 (compEnvC scope1 cl C X.env) fp).env.scope scope2 own := by
  subst hN
  subst hs
  exact blkOk_by h
end MD
/-! MDah: sets of ints made of a list, and sorted. -/
namespace MD
open PySem PySem.Spec PyProof.Rows L2
theorem ints_at : ∀ {us : List Value} {xs : List Int}, IntsAre us xs → ∀ (i : Nat) (v : Value), us[i]? = some v → ∃ x t, xs[i]? = some x ∧ v = .int x t
  | _, _, .nil, _, _, h => by simp at h
  | _, _, .cons _ _ r, 0, v, h => by
    have h : _ = v := Option.some.inj h
    exact ⟨_, _, rfl, h.symm⟩
  | _, _, .cons _ _ r, i + 1, v, h => ints_at r i v h
section
variable {P : Program} {w : World} {A : Around} {E : Value → Shared → Prop} {s : Shared} {a : Addr}
theorem setI_loop {I : Addr} {fp wr : List Addr} {G : Array GenState → Array GenState → Prop} {n : Nat} {Pv : Nat → Value → Prop} {St : Nat → Shared → Prop} {R : Result → Shared → Prop} (W : WalksS P w A.in1 I fp wr G n Pv St) (S : Addr) (hSf : S ∉ fp) (xs : List Int) (hn : xs.length = n) (hfew : n + 1 < scanBound)
    (hval : ∀ i v, Pv i v → ∃ x t, xs[i]? = some x ∧ v = .int x t) : ∀ (k i : Nat) (s : Shared), n - i = k → i ≤ n → St i s → (∃ L m, SetR w s.heap S L m ∧ (∀ x, L x = true ↔ x ∈ xs.take i) ∧ m ≤ i) →
      (∀ s' L m, Moved (S :: wr) G s s' → SetR w s'.heap S L m → (∀ x, L x = true ↔ x ∈ xs) → m ≤ n → R (.ok (.ret .none)) s') → codeAny (model P w) A (.builtin "set.update.loop" ⟨[.ref S, .ref I], []⟩) R s := by
  have hSw : S ∉ wr := fun h => hSf (W.sub _ h)
  intro k
  induction k with
  | zero =>
    intro i s hk hi hst ⟨L, m, hS, hm, hl⟩ hR
    obtain rfl : i = n := by omega
    refine codeAny_builtin PyProof.Rows.F.entry_set_update_loop ?_
    rw [Around.under_plainId PyProof.Rows.F.plain_set_update_loop _]
    show wpAny _ A.in1 (pyNext (.ref I) >>= _) _ _ s
    refine wpAny_bind (W.done s _ _ hst fun s' mv => ?_)
    exact wpAny_pure (hR s' L m (mv.mono fun b hb => List.mem_cons_of_mem _ hb) (hS.at fun o e => mv.heap S o hSw e) (fun x => by rw [hm x, ← hn, List.take_length]) hl)
  | succ k ih =>
    intro i s hk hi hst ⟨L, m, hS, hm, hl⟩ hR
    have hlt : i < n := by omega
    refine codeAny_builtin PyProof.Rows.F.entry_set_update_loop ?_
    rw [Around.under_plainId PyProof.Rows.F.plain_set_update_loop _]
    show wpAny _ A.in1 (pyNext (.ref I) >>= _) _ _ s
    refine wpAny_bind (W.item i s _ _ hlt hst fun v s' hP hst' mv => ?_)
    obtain ⟨x, t, hx, rfl⟩ := hval i v hP
    have hS' : SetR w s'.heap S L m := hS.at fun o e => mv.heap S o hSw e
    show wpAny _ A.in1 (holding [Value.int x t] (setAdd S (.int x t)) >>= _) _ _ s'
    refine wpAny_bind (wpAny_holding ?_)
    unfold setAdd
    refine wpAny_holding (wpAny_bind ((intKind P w).pyHash (intKind_is P w x t) ?_))
    refine setR_add_hashed (s := { s' with toks := s'.toks + 1 }) hS' (by omega) fun h' sb hS2 => ?_
    refine wpAny_pure ⟨plainId_quiet PyProof.Rows.F.plain_set_update_loop _, ih (i + 1) _ (by omega) hlt (W.frame _ s' _ _ hst' (Nat.le_succ _) fun b hb o e => ?_) ⟨_, _, hS2, fun y => ?_, by split <;> omega⟩ fun s'' L2 m2 mv2 hS3 hm3 hl3 => ?_⟩
    · rw [sb.2 b fun z => hSf (by rw [← z]; exact hb)]; exact e
    · rw [Bool.or_eq_true, hm y, List.take_succ, hx, List.mem_append, decide_eq_true_eq]
      constructor
      · rintro (z | z)
        · exact .inl z
        · exact .inr (by rw [z]; exact List.mem_singleton.mpr rfl)
      · rintro (z | z)
        · exact .inl z
        · exact .inr (List.mem_singleton.mp z)
    · refine hR s'' L2 m2 (Moved.trans W.gtrans ((mv.mono fun b hb => List.mem_cons_of_mem _ hb).then_heap (Nat.le_succ _) fun b o hb e => ?_) mv2) hS3 hm3 hl3
      rw [sb.2 b fun z => hb (by rw [z]; exact List.mem_cons_self)]; exact e
theorem setI_call {l : Addr} {items : Array Value} {xs : List Int} {Q : Value → Shared → Prop} (hh : A.handled = none) (hl : s.heap.IsList l items) (hi : IntsAre items.toList xs) (few : xs.length + 1 < scanBound)
    (h : ∀ (h' : Heap) (tk : Nat) L m, SetR w h' s.heap.objs.size L m → (∀ x, L x = true ↔ x ∈ xs) → m ≤ xs.length → (∀ b o, s.heap.get? b = some o → h'.get? b = some o) → Q (.ref s.heap.objs.size) { s with heap := h', toks := tk }) :
    wpAny (model P w) A (call (.type "set") [.ref l]) Q E s := by
  obtain ⟨c, tl, hmro⟩ := PySem.F.called_set.mro
  have hmade := PySem.F.called_set.made; have hsub := PySem.F.called_set.sub
  refine wpAny_call (codeAny_of_tree ?_)
  show wpAny _ _ (callAny (.type "set") _) _ _ _
  refine wpAny_pure ⟨Code.quiet_builtin _ (by decide +kernel), codeAny_builtin PySem.F.entry_type_call ?_⟩
  rw [Around.under_plain (weight_type_call_type "set" [.ref l] []) rfl]
  have h1 := PySem.F.called_set.notType; have h2 := PySem.F.called_set.canCreate
  have hct := PySem.F.typeCall_set_1 (.ref l)
  repeat (any_goals (first | assumption | wp_step))

  let fr : Obj := { cls := .type "set", dict := none, data := .set #[] 0 (.fresh 0 0 (!w.params.followText "set-order")) }
  refine codeAny_mono (code_set_led1 (.ref l) (E := E) (Q₁ := fun obj s₁ => obj = .ref s.heap.objs.size ∧ s₁ = { s with heap := s.heap.push fr }) ⟨rfl, rfl⟩) fun r s₁ hr => ?_
  cases r with
  | error e => exact hr
  | ok flw =>
    cases flw with
    | ret obj =>
      obtain ⟨rfl, rfl⟩ := hr
      have hS : (s.heap.push fr).get? s.heap.objs.size = some fr := Heap.get?_push_size _ rfl
      have hT : Shared.TypeIs { s with heap := s.heap.push fr } (.ref s.heap.objs.size) "set" := ⟨_, hS, rfl⟩
      have hli := PySem.F.called_set.init.lookup; have hbi := PySem.F.called_set.init.bind (.ref s.heap.objs.size)
      repeat (any_goals (first | assumption | wp_step))

      refine codeAny_mono (codeAny_call_builtin (R := wants (fun r s₂ => r = .none ∧ ∃ h' tk L m, s₂ = { s with heap := h', toks := tk } ∧ SetR w h' s.heap.objs.size L m ∧ (∀ x, L x = true ↔ x ∈ xs) ∧ m ≤ xs.length ∧ (∀ b o, s.heap.get? b = some o → h'.get? b = some o)) E) PySem.F.called_set.init.plain PySem.F.entry_set_init (check_set_init_1 hT ?_)) fun r₂ s₂ hr₂ => ?_
      · obtain ⟨ol, hol, hcl, nl, hdl⟩ := hl
        obtain ⟨ocls, odict, odata, oslots⟩ := ol
        simp only at hcl hdl
        subst hcl; subst hdl
        have hol' : (s.heap.push fr).get? l = some { cls := .type "list", dict := odict, data := .seq items nl, slots := oslots } := Heap.get?_push_of_some _ hol
        have hsls := PySem.F.sub_list_set; have hslf := PySem.F.sub_list_frozenset
        have hne : (Value.type "list" == Value.type "dict") = false := by decide
        have hl1 : (s.heap.push fr).IsList l items := ⟨_, hol', rfl, nl, rfl⟩
        unfold Builtin.«set.__init__» noKeywords Builtin.Frozenset.updateFrom
        generalize hPI : pyIter = PI
        wp_walk
        subst hPI

        refine wpAny_pyIter_list hl1 (wpAny_bind (wpAny_runValue ?_))
        have hlS : l < s.heap.objs.size := Heap.lt_size hol
        have hh3 : A.in1.in1.in1.handled = none := by simp [hh]
        have hz1 : (s.heap.push fr).objs.size = s.heap.objs.size + 1 := Heap.size_push ..
        have hneI : l ≠ (s.heap.push fr).objs.size := by rw [hz1]; exact Nat.ne_of_lt (Nat.lt_succ_of_lt hlS)
        have hSf : s.heap.objs.size ∉ [(s.heap.push fr).objs.size, l] := by
          rw [hz1]; simp only [List.mem_cons, List.mem_singleton, List.not_mem_nil, or_false, not_or]
          exact ⟨Nat.ne_of_lt (Nat.lt_succ_self _), Nat.ne_of_gt hlS⟩
        have hsz : xs.length = items.size := by rw [← IntsAre.length hi, Array.length_toList]
        have hval : ∀ (i : Nat) (v : Value), items[i]? = some v → ∃ x t, xs[i]? = some x ∧ v = .int x t := fun i v hv => ints_at hi i v (by rw [Array.getElem?_toList]; exact hv)
        refine setI_loop ((Walks.list hh3 _ l hneI items).toS) s.heap.objs.size hSf xs hsz (by omega) hval (items.size - 0) 0 _ (by omega) (Nat.zero_le _) ⟨⟨_, Heap.get?_push_size _ rfl, rfl, rfl⟩, (hl1.push _)⟩ ⟨fun _ => false, 0, (setR_fresh w).at (fun o e => Heap.get?_push_of_some _ e), fun x => by simp, Nat.le_refl _⟩ ?_
        intro s' L m mv hS' hm' hl'
        obtain ⟨h', g', d', tk', os'⟩ := s'
        obtain rfl : g' = s.gens := mv.gens
        obtain rfl : d' = s.drawn := mv.drawn
        obtain rfl : os' = s.os := mv.os
        show wpAny _ _ _ _ _ _
        refine wpAny_pure ?_
        show wpAny _ _ (ret Value.none) _ _ _
        refine wpAny_pure ⟨rfl, h', tk', L, m, rfl, hS', hm', by omega, fun b o e => mv.heap b o ?_ (Heap.get?_push_of_some _ (Heap.get?_push_of_some _ e))⟩
        have hb := Heap.lt_size e
        simp only [List.mem_cons, List.mem_singleton, List.not_mem_nil, or_false, not_or]
        exact ⟨Nat.ne_of_lt hb, by rw [hz1]; exact Nat.ne_of_lt (Nat.lt_succ_of_lt hb)⟩

      · cases r₂ with
        | error e => exact hr₂
        | ok fl₂ =>
          cases fl₂ with
          | ret r =>
            obtain ⟨rfl, h', tk, L, m, rfl, hS', hm', hl', hk'⟩ := hr₂
            repeat (any_goals (first | assumption | wp_step))
            exact h _ _ _ _ hS' hm' hl' hk'
          | _ => exact hr₂.elim
    | _ => exact hr.elim
end
section
variable {X : Cx}
def rSetI (K : PySem.W.Frag) (w : World) : List V → Hp → VK → Prop := fun vs H Q => ∃ (l : Addr) (xs : List Int), vs = [V.ref l] ∧ SqL K H l (xs.map V.int) ∧ xs.length < 4000 ∧ ∀ S m p, (∀ x, S x = true ↔ x ∈ xs) → m ≤ xs.length → H p = none → Q (.ref p) (upd H p (SetO w p S m))
theorem cr_setI (hc : X.calm = true) : CallR X (.type "set") (rSetI X.K X.w) := by
  intro pins s σ H vs us Q I r h
  obtain ⟨l, xs, rfl, hs, few, q⟩ := h
  obtain ⟨its, rv, hl, _⟩ := I.list hs
  rw [Vals.ref1 r]
  refine setI_call (I.ok.hd hc) hl.isList (by simpa using ints_of_vals rv) (by unfold scanBound; omega) fun h' tk S m R hm hlen kp => ?_
  exact ⟨.ref _, _, I.laid (t' := tk) (o := SetO X.w s.heap.objs.size S m) kp (Nat.le_refl _) (setO_new R), rfl, q S m _ hm hlen (I.hok.fresh (Nat.le_refl _))⟩
end
/-- the ints of a list, each once, rising -/
def sortI1 (xs : List Int) : List Int := (xs.eraseDups).mergeSort (fun a b => decide (a ≤ b))
theorem sortI1_mem {xs : List Int} {x : Int} : x ∈ sortI1 xs ↔ x ∈ xs := by unfold sortI1; rw [List.mem_mergeSort, List.mem_eraseDups]
theorem sortI1_pw (xs : List Int) : (sortI1 xs).Pairwise (· < ·) := by
  have h1 : (sortI1 xs).Pairwise (· ≤ ·) := by
    have := List.pairwise_mergeSort (le := fun a b : Int => decide (a ≤ b)) (fun a b c h1 h2 => decide_eq_true (Int.le_trans (of_decide_eq_true h1) (of_decide_eq_true h2))) (fun a b => by simp; omega) xs.eraseDups
    exact this.imp fun h => of_decide_eq_true h
  have h2 : (sortI1 xs).Nodup := (List.mergeSort_perm _ _).nodup_iff.mpr (nodup_eraseDups xs)
  exact lt_of_le_nodup _ h1 h2
theorem pw_ext : ∀ {xs ys : List Int}, xs.Pairwise (· < ·) → ys.Pairwise (· < ·) → (∀ x, x ∈ xs ↔ x ∈ ys) → xs = ys
  | [], [], _, _, _ => rfl
  | [], y :: ys, _, _, h => nomatch (h y).mpr List.mem_cons_self
  | x :: xs, [], _, _, h => nomatch (h x).mp List.mem_cons_self
  | x :: xs, y :: ys, h1, h2, h => by
    obtain ⟨a1, a2⟩ := List.pairwise_cons.mp h1
    obtain ⟨b1, b2⟩ := List.pairwise_cons.mp h2
    have e : x = y := by
      have p := (h x).mp List.mem_cons_self
      have q := (h y).mpr List.mem_cons_self
      rcases List.mem_cons.mp p with p | p
      · exact p
      · rcases List.mem_cons.mp q with q | q
        · exact q.symm
        · have := b1 x p
          have := a1 y q
          omega
    subst e
    congr 1
    refine pw_ext a2 b2 fun z => ⟨fun hz => ?_, fun hz => ?_⟩
    · rcases List.mem_cons.mp ((h z).mp (List.mem_cons_of_mem _ hz)) with q | q
      · have := a1 z hz
        omega
      · exact q
    · rcases List.mem_cons.mp ((h z).mpr (List.mem_cons_of_mem _ hz)) with q | q
      · have := b1 z hz
        omega
      · exact q
theorem sortI1_of {xs ys : List Int} (h : ys.Pairwise (· < ·)) (e : ∀ x, x ∈ ys ↔ x ∈ xs) : ys = sortI1 xs := pw_ext h (sortI1_pw xs) fun x => by rw [e, sortI1_mem]
section
variable {K : PySem.W.Frag}
/-- a set of the ints of xs -/
def rI (w : World) (xs : List Int) : Vw := fun _ H v => ∃ p S m, v = .ref p ∧ H p = some (SetO w p S m) ∧ (∀ x, S x = true ↔ x ∈ xs) ∧ m ≤ xs.length
theorem u_setI {w : World} {xs : List Int} : U1 (rSetI K w) (rK (tI (K := K)) xs) (xs.length < 4000) (rI w xs) := fun F H v s ⟨a, vs, e, h, r, z⟩ c Q k => by
  subst e
  obtain rfl := rl_ints r
  refine ⟨a, xs, rfl, h, c, fun S m p hm hl hp => ?_⟩
  have g := grow_upd (o := SetO w p S m) (Grow.refl s) hp
  exact k _ F _ g.1 ⟨p, S, m, rfl, upd_same, hm, hl⟩
theorem n_sortI1 {w : World} {xs : List Int} : UN (rSortedSet w) (rI w xs) (xs.length < 64) (tI (K := K)) (sortI1 xs) := fun F H v s ⟨a, S, m, e, h, hm, hl⟩ c Q k => by
  subst e
  refine ⟨a, S, m, rfl, h, by omega, fun ns p pw hmem hlen hp => ?_⟩
  have e : ns = sortI1 xs := sortI1_of pw fun x => by rw [hmem, hm]
  rw [e]
  refine k p _ hp rl_of_ints ?_
  rw [← e, List.length_map, hlen, sizeLine_eq]; omega
end
end MD
namespace MD
open PySem PySem.Spec PyProof.Rows L2
/-! ### a def whose value is told by a promise -/
section
variable {X : Cx} {Y : Ec X.K} {ρ : List (Slot X.K)} {cs : List (Cell X.K)} {α γ μ : Type} {pos : Pos} {e : Expr}
def Con.fp {K : PySem.W.Frag} (ins : α → List (Slot K)) (T : Ty K γ) (pre : α → Prop) (post : α → γ → Prop) : Con K α γ γ where
  ins := ins
  cin := fun _ => []
  wp := fun a φ _ => pre a ∧ ∀ r, post a r → φ r
  T := T
  rv := fun r => r
  cout := fun _ _ => []
  mono := fun _ _ _ _ _ h _ w => ⟨w.1, fun r c => h r (w.2 r c)⟩
theorem ek_fp {k : Nat} {f : Addr} {fd : FuncData} {ps : List Str} {nm : Str} {p : Pos} {es : List Expr} {ins : α → List (Slot X.K)} {T : Ty X.K γ} {pre : α → Prop} {post : α → γ → Prop} {Ts : Tys X.K α} {vl : μ → α} {cs1 : μ → List (Cell X.K)} {M : (μ → Prop) → Prop}
    (F : FnOk X.prog X.w X.K X.mg X.base (L2.CX X.prog X.w) k f fd ps (Con.fp ins T pre post).sp) (hs : Sl Ts ins) (hr : Room k X.A) (hm : X.mg nm = some (.ref f)) (hk : PySem.W.keepIn X.K (.ref f) = true) (hb : Binds X.K fd ps [])
    (ha : AK X Y (e :: es) ρ cs Ts vl cs1 M) (hg : Gl X nm := by rfl) (hdb : (nm == ("__debug__" : Str)) = false := by decide) (he : starEach (e :: es) X.env = (false, eval e X.env) :: starEach es X.env := by rfl) (hpl : (backTo pos (starEach es X.env)).any (·.1) = false := by rfl) :
    EK X Y (.Call (.Name nm p) (e :: es) [] pos) ρ cs T (fun y : μ × γ => y.2) (fun y => cs1 y.1) (fun φ => M fun y => pre (vl y) ∧ ∀ r, post (vl y) r → φ (y, r)) := fun F0 σ H ok xh φ q Q kk => by
  refine we (pe_call F hr hg hm hk hb .nil (E := E0) (passL) pa_w hdb he hpl) ?_
  refine ha F0 σ H ok xh _ q _ fun y vs F1 H1 m1 r1 q1 => ?_
  have ok1 := ok.mv m1
  refine ⟨vl y, F1, by rw [List.append_nil]; exact hs F1 vs (vl y) r1, m1.fh, fun c hc => absurd hc (by simp [Con.fp]), by simp [Con.fp], q1.1, fun r er v F2 H2 m rr => ?_⟩
  exact kk (y, r) v F2 H2 (m1.trans (ok1.grow ⟨m.ff, m.fh, fun b o e => m.kp b o e fun c hc => absurd hc (by simp [Con.fp]), m.fr⟩)) rr (q1.2 r er)
section
variable {fl : Hp} {B : Hb X.K} {rest : List Stmt} {D : Ends}
theorem sk_retP {ins : α → List (Slot X.K)} {T : Ty X.K γ} {pre : α → Prop} {post : α → γ → Prop} {a : α} {ψ : γ → Prop} {n b' c' : L2.St → Hp → Prop} {x : γ} {P : Prop} {r : List Stmt} (he : PK X e ρ [] T x P) :
    SK X B Y fl (.Return (some e) pos :: r) ρ [] { retD (Con.fp ins T pre post) a B ψ with nx := n, bk := b', ct := c' } (P ∧ ψ x) := sk_ret (C := Con.fp ins T pre post) x he rfl rfl
end
end
end MD
namespace MD
open PySem PySem.Spec PyProof.Rows L2
end MD
namespace KP
open PySem PySem.Spec PyProof.Rows L2 MD
/-! ### texts of sharings -/
def line (r : SRow) : Str := Str.join " " (r.1 :: r.2)
end KP
namespace MD
open PySem PySem.Spec PyProof.Rows L2
end MD
namespace MD
open PySem PySem.Spec PyProof.Rows L2
end MD
namespace MD
open PySem PySem.Spec PyProof.Rows L2
/-! ### max(xs, default=d) of ints -/
section
variable {X : Cx} {fl : Hp} {B : Hb X.K} {Y : Ec X.K} {ρ : List (Slot X.K)} {cs : List (Cell X.K)} {A R α β γ δ μ ν : Type} {pos : Pos} {rest : List Stmt} {D : Ends} {e : Expr}
/-! ### what is read only: owned lists as frozen ones, for an expression whose value is flat -/
/-! ### a new owned list, or a refusal -/
def Con.nx {K : PySem.W.Frag} {A δ : Type} (xa : XA) (ins : A → List (Slot K)) (T0 : Ty K δ) (pre : A → Prop) (g : A → List δ ⊕ Rf) : Con K A (Addr × List δ) Addr where
  ins := ins
  cin := fun _ => []
  wp := fun a φ ε => pre a ∧ (∀ c, g a = .inl c → ∀ l, φ (l, c)) ∧ ∀ e, g a = .inr e → ε (exn xa e)
  T := tR
  rv := fun r => r.1
  cout := fun _ r => [⟨r.1, cL T0 r.2⟩]
  mono := fun _ _ _ _ _ h h' w => ⟨w.1, fun c e l => h (l, c) (w.2.1 c e l), fun e q => h' _ (w.2.2 e q)⟩
end
end MD
namespace MD
open PySem PySem.Spec PyProof.Rows L2
end MD
namespace MD
open PySem PySem.Spec PyProof.Rows L2
section
variable {K : PySem.W.Frag} {ρ : List (Slot K)} {cs c2 ci co fr : List (Cell K)} {F F' H H' : Hp} {σ : L2.St}
/-! ### cells in another order; a frame of cells -/
theorem Mv.permR (m : Mv ci F H cs F' H') (p : cs.Perm c2) : Mv ci F H c2 F' H' :=
  ⟨m.ff, m.fh, m.fr, m.kp, fun c hc => m.cell c (p.mem_iff.mpr hc), (p.map Cell.a).nodup_iff.mp m.nd, fun c hc => m.nw c (p.mem_iff.mpr hc), m.st⟩
end
theorem perm_new {α : Type} (c0 G : List α) (x : α) : ((c0 ++ G) ++ [x]).Perm ((c0 ++ [x]) ++ G) := by
  rw [List.append_assoc, List.append_assoc]
  exact List.Perm.append_left c0 List.perm_append_comm
section
variable {X : Cx} {fl : Hp} {B : Hb X.K} {Y : Ec X.K} {ρ : List (Slot X.K)} {cs : List (Cell X.K)} {A R S α β γ δ μ ν : Type} {pos : Pos} {rest : List Stmt} {D : Ends} {e : Expr}
theorem ek_cs {T : Ty X.K α} {vl : μ → α} {c1 c2 : μ → List (Cell X.K)} {M : (μ → Prop) → Prop} (he : ∀ y, c1 y = c2 y) (h : EK X Y e ρ cs T vl c1 M) : EK X Y e ρ cs T vl c2 M := by
  have : c1 = c2 := funext he
  subst this
  exact h
/-! ### calls with several owned things -/
abbrev catC {K : PySem.W.Frag} (a b : List (Cell K)) : List (Cell K) := a ++ b
/-! ### a list of owned lists: the inner ones, a group of cells -/
def gP {K : PySem.W.Frag} (T : Ty K α) (g : List (Addr × List α)) : List (Cell K) := g.map fun p => ⟨p.1, cL T p.2⟩
theorem gP_snoc {T : Ty X.K α} (c0 : List (Cell X.K)) (g : List (Addr × List α)) (a : Addr) (z : List α) : (c0 ++ gP T g) ++ [⟨a, cL T z⟩] = c0 ++ gP T (g ++ [(a, z)]) := by
  unfold gP
  rw [List.map_append, List.append_assoc]
  rfl
theorem gP_set {T : Ty X.K α} (c0 : List (Cell X.K)) (g : List (Addr × List α)) (n : Nat) (a : Addr) (z : List α) : (c0 ++ gP T g).set (c0.length + n) ⟨a, cL T z⟩ = c0 ++ gP T (g.set n (a, z)) := by
  unfold gP
  rw [List.set_append_right (h := Nat.le_add_right _ _), Nat.add_sub_cancel_left, List.map_set]
theorem gP_get {T : Ty X.K α} {c0 : List (Cell X.K)} {g : List (Addr × List α)} {n : Nat} {a : Addr} {z : List α} (h : g[n]? = some (a, z)) : (c0 ++ gP T g)[c0.length + n]? = some ⟨a, cL T z⟩ := by
  unfold gP
  rw [List.getElem?_append_right (Nat.le_add_right _ _), Nat.add_sub_cancel_left, List.getElem?_map, h]
  rfl
/-- a new inner list -/
theorem ek_newG {T : Ty X.K α} {c0 : List (Cell X.K)} {c1 : μ → List (Cell X.K)} {g : List (Addr × List α)} {vl : μ → List α} {M : (μ → Prop) → Prop} (h : NE X Y e ρ (c0 ++ gP T g) T vl (fun y => c1 y ++ gP T g) M) :
    EK X Y e ρ (c0 ++ gP T g) tR (fun y : μ × Addr × List α => y.2.1) (fun y => c1 y.1 ++ gP T (g ++ [(y.2.1, y.2.2)])) (fun φ => M fun y => ∀ a z, z = vl y → φ (y, a, z)) := ek_cs (fun y => gP_snoc _ _ _ _) h.own
def gAt [Inhabited α] (g : List (Addr × List α)) (n : Nat) : List α := (g.getD n default).2
theorem gAt_get [Inhabited α] {g : List (Addr × List α)} {n : Nat} {a : Addr} (h : (g[n]?).map (·.1) = some a) : g[n]? = some (a, gAt g n) := by
  obtain ⟨p, e1, e2⟩ := Option.map_eq_some_iff.mp h
  unfold gAt
  rw [List.getD_eq_getElem?_getD, e1, ← e2]
  rfl
/-- t[i][k] = e, t a list of owned lists -/
theorem sk_setGr [Inhabited α] {o ie : Expr} {T : Ty X.K α} {vl : μ → α} {cs' : μ → List (Cell X.K)} {M : (μ → Prop) → Prop} {cs2 c1 : μ → ν → List (Cell X.K)} {M2 : μ → (ν → Prop) → Prop} {l : Addr} {G0 : List (Addr × List α)} {vi : μ → ν → Int} {P1 : μ → Prop} {φ : μ → ν → List α → Prop} {p1 : Pos} (n : Nat) (he : EK X Y e ρ cs T vl cs' M) (ho : ∀ y, PK X o ρ (cs' y) tR l (P1 y))
    (hi : ∀ y, EK X Y ie ρ (cs' y) tI (vi y) (cs2 y) (M2 y)) (h1 : ∀ y u, cs2 y u = c1 y u ++ gP T G0) (k : ∀ y u z, SK X B Y fl rest ρ (c1 y u ++ gP T (G0.set n (l, z))) D (φ y u z))
    (ha : ∀ v, assign (.Subscript o ie p1) X.env v = (do
      let ov ← holding [v] (eval o X.env)
      let iv ← holding [v, ov] (eval ie X.env)
      standAt p1
      holding [v, ov, iv] (setItem ov iv v)
      release [v, ov, iv] []) := by intro _; rfl) (hs : swapsWithSole [.Subscript o ie p1] e pos.line X.env = pure false := by rfl) (hw : swappedStores [.Subscript o ie p1] e X.env = pure none := by rfl)
    (hs1 : (assignEach [.Subscript o ie p1] X.env).map (·.2) = [assign (.Subscript o ie p1) X.env] := by rfl) :
    SK X B Y fl (.Assign [.Subscript o ie p1] e pos :: rest) ρ cs D (M fun y => P1 y ∧ M2 y fun u => ((G0[n]?).map (·.1) = some l ∧ IxW (gAt G0 n) (vi y u)) ∧ ∀ z, z = (gAt G0 n).set (vi y u).toNat (vl y) → φ y u z) := fun F σ H ok p W tk hx' => by
  refine wb (pss_cons (ps_asg pe_w (pg_sub pe_w pe_w set_list ha) hs hw hs1) pss_w) ?_
  refine he F σ H ok.c (xh_of ok tk hx') _ p _ fun y v F1 H1 g1 t q1 => ?_
  have ok1 := ok.to g1
  refine ho y F1 σ H1 ok1.c.w q1.1 _ fun v2 F2 H2 g2 r2 => ?_
  have ok2 := ok1.to (ok1.c.grow g2)
  refine hi y F2 σ H2 ok2.c (xh_of ok2 tk hx') _ q1.2 _ fun u v3 F3 H3 m3 r3 q => ?_
  have ok3 := ok2.to m3
  have hg := gAt_get q.1.1
  have hc1 : (cs2 y u)[(c1 y u).length + n]? = some ⟨l, cL T (gAt G0 n)⟩ := by rw [h1]; exact gP_get hg
  obtain ⟨_, ob, hob, vs, e1, rl, z⟩ := ok3.c.cell _ (List.mem_of_getElem? hc1)
  subst e1
  have hix : ixN vs.length (vi y u) = some (vi y u).toNat := by
    unfold ixN
    rw [if_pos q.1.2.1, if_pos (by rw [Rl.length rl]; exact q.1.2.2)]
  refine ⟨l, vs, vi y u, (vi y u).toNat, r2, r3, hob, hix, ?_⟩
  have mm := mv_upd (k := cL T ((gAt G0 n).set (vi y u).toNat (vl y))) ok3.c hc1 ⟨_, rfl, Rl.set rl (T.mono (g2.ff.trans m3.ff) t), by rw [List.length_set]; exact z⟩
  have e2 : (cs2 y u).set ((c1 y u).length + n) ⟨l, cL T ((gAt G0 n).set (vi y u).toNat (vl y))⟩ = c1 y u ++ gP T (G0.set n (l, (gAt G0 n).set (vi y u).toNat (vl y))) := by rw [h1]; exact gP_set _ _ _ _ _
  rw [e2] at mm
  exact k y u _ F3 σ _ (ok3.to mm) (q.2 _ rfl) W tk hx'
theorem rl_group {T : Ty X.K α} {F F' : Hp} (s : Same F F') : ∀ {vs : List V} {g : List (Addr × List α)}, Rl (tR (K := X.K)) F vs (g.map (·.1)) → (∀ p ∈ g, (tL T).rep F' (.ref p.1) p.2) → Rl (tL T) F' vs (g.map (·.2))
  | _, [], .nil, _ => .nil
  | _, p :: g, .cons r t, h => .cons (by
    have r : _ = V.ref p.1 := r
    rw [r]
    exact h p List.mem_cons_self) (rl_group s t fun q hq => h q (List.mem_cons_of_mem _ hq))
end
end MD
namespace MD
open PySem PySem.Spec PyProof.Rows L2
section
variable {X : Cx} {fl : Hp} {B : Hb X.K} {Y : Ec X.K} {ρ : List (Slot X.K)} {cs : List (Cell X.K)} {A R S α β γ δ μ ν : Type} {pos : Pos} {rest : List Stmt} {D : Ends} {e : Expr}
/-! ### calls with several owned things; what is given back may be some of them -/
def Con.os {K : PySem.W.Frag} {A R S : Type} (ins : A → List (Slot K)) (cin : A → List (Cell K)) (T : Ty K R) (pre : A → Prop) (post : A → S → Prop) (rvf : S → R) (cout : A → S → List (Cell K)) : Con K A S R where
  ins := ins
  cin := cin
  wp := fun a φ _ => pre a ∧ ∀ s, post a s → φ s
  T := T
  rv := rvf
  cout := cout
  mono := fun _ _ _ _ _ h _ w => ⟨w.1, fun s e => h s (w.2 s e)⟩
/-- x, y = e, owned things, by their addresses -/
theorem sk_unpD {tg : Expr} {T : Ty X.K α} {vl : μ → α} {cs' : μ → List (Cell X.K)} {M : (μ → Prop) → Prop} {φ : μ → Prop} {G : List (Slot X.K) → α → List (Slot X.K)} {vs : List Nat} (hg : GK X tg T G vs) (he : EK X Y e ρ cs T vl cs' M) (k : ∀ y, SK X B Y fl rest (G ρ (vl y)) (cs' y) D (φ y))
    (hs : swapsWithSole [tg] e pos.line X.env = pure false := by rfl) (hw : swappedStores [tg] e X.env = pure none := by rfl) (h1 : (assignEach [tg] X.env).map (·.2) = [assign tg X.env] := by rfl) :
    SK X B Y fl (.Assign [tg] e pos :: rest) ρ cs D (M fun y => φ y) := fun F σ H ok p W tk hx' => by
  refine wb (pss_cons (ps_asg pe_w pg_w hs hw h1) pss_w) ?_
  refine he F σ H ok.c (xh_of ok tk hx') _ p _ fun y v F' H' m r q => ?_
  have ok1 := ok.to m
  exact hg F' σ H' v (vl y) ρ ok1.env ok1.mv.fh r _ fun σ' hρ _ => k y F' σ' H' ⟨hρ, ok1.mv, ok1.flo⟩ q W tk hx'
/-- the group gets a name; the outer list's content is told by it -/
theorem sk_nameG {st : List Stmt} {T : Ty X.K α} {c0 : List (Cell X.K)} {g : List (Addr × List α)} {t : Addr} {ads : List Addr} {φ : List (Addr × List α) → Prop} (j : Nat) (hcs : cs = c0 ++ gP T g) (hc : c0[j]? = some ⟨t, cL tR ads⟩) (k : ∀ w, SK X B Y fl st ρ (c0.set j ⟨t, cL tR (w.map (·.1))⟩ ++ gP T w) D (φ w)) :
    SK X B Y fl st ρ cs D (ads = g.map (·.1) ∧ ∀ w, w = g → φ w) := fun F σ H ok p W tk hx' => by
  subst hcs
  have e : c0.set j ⟨t, cL tR (g.map (·.1))⟩ = c0 := by rw [← p.1]; exact set_self hc
  have k1 := k g
  rw [e] at k1
  exact k1 F σ H ok (p.2 g rfl) W tk hx'
/-! ### an owned list, its place told with effects -/
/-- insert -/
def rInsert : V → List V → Hp → VK → Prop := fun x vs H Q => ∃ (l : Addr) (xs : List V) (i : Int) (y : V), x = .ref l ∧ vs = [.int i, y] ∧ H l = some (.lst xs) ∧ xs.length < sizeLine ∧ 0 ≤ i ∧ i < 2 ^ 63 ∧ Q .non (upd H l (.lst (xs.take i.toNat ++ [y] ++ xs.drop i.toNat)))
theorem ml_insert {K : PySem.W.Frag} {T : Ty K α} : MLK rInsert T (tsC (tI (K := K)) (ts1 T)) tN (fun xs p => xs.length < sizeLine ∧ 0 ≤ p.1 ∧ p.1 < 2 ^ 62) (fun xs p => xs.take p.1.toNat ++ [p.2] ++ xs.drop p.1.toNat) (fun _ _ => ()) := fun F H l vs ws x y s h rl z ⟨v, r, e, h1, w, e2, t⟩ c Q k => by
  subst e2
  subst e
  have h1 : v = .int y.1 := h1
  subst h1
  have hl := Rl.length rl
  refine ⟨l, vs, y.1, w, rfl, rfl, h, by rw [hl]; exact c.1, c.2.1, by have := c.2.2; omega, k _ _ (Rl.append (Rl.append (Rl.take _ rl) (.cons t .nil)) (Rl.drop _ rl)) ?_ rfl⟩
  have := c.1
  simp only [List.length_append, List.length_take, List.length_drop, List.length_singleton]
  omega
end
end MD
namespace MD
open PySem PySem.Spec PyProof.Rows L2
theorem gp_key {α : Type} {g : List (Addr × List α)} {i : Int} (h0 : 0 ≤ i) (h1 : i < g.length) : (g[i.toNat]?).map (·.1) = some (pyIx (g.map fun p => p.1) i) := by
  unfold pyIx atI
  have e : ixN (g.map fun p => p.1).length i = some i.toNat := by unfold ixN; rw [if_pos h0, List.length_map, if_pos h1]
  rw [e]
  have hl : i.toNat < g.length := by omega
  show _ = some ((((g.map fun p => p.1)[i.toNat]?)).getD default)
  rw [List.getElem?_map, List.getElem?_eq_getElem hl]
  rfl
theorem gp_set {α : Type} {g : List (Addr × List α)} {n : Nat} {l : Addr} {z : List α} (h : (g[n]?).map (·.1) = some l) : (g.set n (l, z)).map (fun p => p.1) = g.map fun p => p.1 := by
  rw [List.map_set]
  exact set_self (by rw [List.getElem?_map]; exact h)
end MD
namespace MD
open PySem PySem.Spec PyProof.Rows L2
/-! ### an owned list lent as a frozen one to a call that leaves owned things -/
def del (F : Hp) (l : Addr) : Hp := fun b => if b = l then none else F b
theorem del_self {F : Hp} {l : Addr} : del F l l = none := if_pos rfl
theorem del_ne {F : Hp} {l b : Addr} (h : b ≠ l) : del F l b = F b := if_neg h
def NLT {K : PySem.W.Frag} {α : Type} (T : Ty K α) : Prop := ∀ F l vs v x, F l = some (.lst vs) → T.rep F v x → T.rep (del F l) v x
section
variable {K : PySem.W.Frag} {α β : Type}
theorem nlI : NLT (tI (K := K)) := fun _ _ _ _ _ _ h => h
theorem nlS : NLT (tS (K := K)) := fun _ _ _ _ _ _ h => h
theorem nl_rl {T : Ty K α} (h : NLT T) {F : Hp} {l : Addr} {vs : List V} (e : F l = some (.lst vs)) {us : List V} {xs : List α} (r : Rl T F us xs) : Rl T (del F l) us xs := paired_mono (fun v x q => h F l vs v x e q) r
end
end MD
namespace MD
end MD
namespace MD
open PySem PySem.Spec PyProof.Rows L2
/-! ### a list of written places; a def as a value; owned lists lent, all at once -/
section
variable {K : PySem.W.Frag} {α β γ : Type}
def tLt (Ts : Tys K α) : Ty K α := ⟨fun F v x => ∃ a vs, v = .ref a ∧ F a = some (.lst vs) ∧ Ts.rep F vs x, fun e ⟨a, vs, h1, h2, h3⟩ => ⟨a, vs, h1, e _ _ h2, Ts.mono e h3⟩⟩
def dLt {Ts : Tys K α} (D : DTs Ts) : DT (tLt Ts) := ⟨fun x => .list (D.d x), D.n + 1, fun F H v x s ⟨a, vs, e, h, r⟩ => by subst e; exact .lst (SqL.of (s _ _ h)) (D.dp F H _ _ s r), fun F v x ⟨a, vs, e, h, r⟩ => by simp only [PyData.canLay0]; exact D.lay _ _ _ r,
  fun x => by simp only [PyData.depth]; exact Nat.succ_le_succ (D.dep x), fun x y => by simp only [PyData.eqv]; exact D.eqv x y⟩
/-- a def as a value -/
def tFn (f : Addr) : Ty K Unit := ⟨fun _ v _ => v = .ref f, fun _ h => h⟩
end
section
variable {X : Cx} {fl : Hp} {B : Hb X.K} {Y : Ec X.K} {ρ : List (Slot X.K)} {cs : List (Cell X.K)} {A R α β γ δ μ ν : Type} {pos : Pos} {rest : List Stmt} {D : Ends} {e : Expr}
theorem pk_lstT {es : List Expr} {Ts : Tys X.K α} {x : α} {P : Prop} (h : PAK X es ρ cs Ts x P) (hl : ∀ F vs, Ts.rep F vs x → vs.length ≤ 1000) : PK X (.List es pos) ρ cs (tLt Ts) x P := fun F σ H ok p Q k => by
  refine we (pe_lst pa_w) ?_
  refine h F σ H ok p _ fun vs F1 H1 g1 r => ⟨Nat.le_trans (hl F1 vs r) (by decide), fun a ha => ?_⟩
  have g2 := grow_new g1.fh ha (.lst vs)
  exact k _ _ _ (g1.trans g2) ⟨a, vs, rfl, upd_same, Ts.mono g2.ff r⟩
theorem ek_lstT {es : List Expr} {Ts : Tys X.K α} {vl : μ → α} {cs' : μ → List (Cell X.K)} {M : (μ → Prop) → Prop} (h : AK X Y es ρ cs Ts vl cs' M) (hl : ∀ F vs x, Ts.rep F vs x → vs.length ≤ 1000) : EK X Y (.List es pos) ρ cs (tLt Ts) vl cs' M := fun F σ H ok xh φ p Q k => by
  refine we (pe_lst pa_w) ?_
  refine h F σ H ok xh φ p _ fun y vs F1 H1 m r q => ⟨Nat.le_trans (hl F1 vs _ r) (by decide), fun a ha => ?_⟩
  have g2 := grow_new m.fh ha (.lst vs)
  exact k y _ _ _ (m.trans ((ok.mv m).grow g2)) ⟨a, vs, rfl, upd_same, Ts.mono g2.ff r⟩ q
theorem gk_lstT {tgs : List Expr} {k0 : Nat} {Ts : Tys X.K α} {G : List (Slot X.K) → α → List (Slot X.K)} {vs : List Nat} {n : Nat} (hc : X.calm = true) (h : GsK X tgs Ts G vs) (hl : ∀ F us x, Ts.rep F us x → us.length = n)
    (hn : (assignEach tgs X.env).length = n := by rfl) (hst : (assignEach tgs X.env).findIdx? (·.1) = none := by rfl) : GK X (.Tuple tgs k0 pos) (tLt Ts) G vs := fun F σ H v x ρ hρ hs ⟨a, us, e, hq, r⟩ Q k => by
  subst e
  refine wg (pg_unl hc pgs_w hn hst) ?_
  exact ⟨a, us, rfl, SqL.of (hs _ _ hq), hl F us x r, h F σ H us x ρ hρ hs r Q k⟩
theorem pk_fnv {nm : Str} {f : Addr} (hm : X.mg nm = some (.ref f)) (hg : Gl X nm := by rfl) (hd : (nm == ("__debug__" : Str)) = false := by decide) : PK X (.Name nm pos) ρ cs (tFn f) () True := pk_glob (v := .ref f) hm rfl (fun _ => rfl) hg hd
theorem ek_permC {T : Ty X.K α} {vl : μ → α} {c1 c2 : μ → List (Cell X.K)} {M : (μ → Prop) → Prop} (h : EK X Y e ρ cs T vl c1 M) (hp : ∀ y, (c1 y).Perm (c2 y)) : EK X Y e ρ cs T vl c2 M := fun F σ H ok xh φ p Q k =>
  h F σ H ok xh φ p Q fun y v F' H' m r q => k y v F' H' (m.permR (hp y)) r q
/-- a call of a def that a name holds, where the refusals are caught -/
theorem ek_fxTL {xa : XA} {k : Nat} {f : Addr} {fd : FuncData} {ps : List Str} {nm : Str} {p : Pos} {es : List Expr} {ins : α → List (Slot X.K)} {T : Ty X.K γ} {pre : α → Prop} {g : α → γ ⊕ Rf} {Ts : Tys X.K α} {vl : μ → α} {cs1 : μ → List (Cell X.K)} {M : (μ → Prop) → Prop} {ε1 : Rf → Prop} {u0 : Unit} (i : Nat) (hρ : ρ[i]? = some (.val (tFn f) u0)) (hN : X.N[i]? = some nm)
    (F : FnOk X.prog X.w X.K X.mg X.base (L2.CX X.prog X.w) k f fd ps (Con.fx xa ins T pre g).sp) (hs : Sl Ts ins) (hr : Room k X.A) (hk : PySem.W.keepIn X.K (.ref f) = true) (hb : Binds X.K fd ps [])
    (ha : AK X Y (e :: es) ρ cs Ts vl cs1 M) (hy : ∀ y, ∀ c ∈ Y.kp, c ∈ cs1 y) (hE : ∀ r, ε1 r → Y.ε (exn xa r)) (hv : Vis X.env.scope nm := by first | exact Or.inl rfl | exact Or.inr (Or.inl rfl) | exact Or.inr (Or.inr rfl))
    (hdb : (nm == ("__debug__" : Str)) = false := by decide) (hcd : (nm == ("__classdict__" : Str)) = false := by decide) (he : starEach (e :: es) X.env = (false, eval e X.env) :: starEach es X.env := by rfl) (hpl : (backTo pos (starEach es X.env)).any (·.1) = false := by rfl) :
    EK X Y (.Call (.Name nm p) (e :: es) [] pos) ρ cs T (fun y : μ × γ => y.2) (fun y => cs1 y.1) (fun φ => M fun y => pre (vl y) ∧ (∀ r, g (vl y) = .inl r → φ (y, r)) ∧ ∀ r, g (vl y) = .inr r → ε1 r) := fun F0 σ H ok xh φ q Q kk => by
  obtain ⟨W, tk, hW⟩ := id xh
  obtain ⟨v0, hv0, rv0⟩ := ok.slot hρ
  have rv0 : v0 = .ref f := rv0
  subst rv0
  intro pins s I
  refine wpAny_Call_Name_kw (thn ((pe_var (pos := p) hN hv hdb hcd).run pins s σ H (fun v H1 => v = .ref f ∧ H1 = H) I ⟨.ref f, hv0, rfl, rfl⟩) fun u s1 ⟨v, H1, I1, r1, q1⟩ => ?_)
  obtain ⟨rfl, rfl⟩ := q1
  cases r1
  have hA : WA X (e :: es) σ H1 (fun vs H2 => (Con.fx xa ins T pre g).sp vs H2 Q (L2.WE W σ)) := by
    refine ha F0 σ H1 ok xh _ q _ fun y vs F1 H2 m1 r1 q1 => ?_
    have ok1 := ok.mv m1
    have up : ∀ {F2 H3 : Hp}, Mv (K := X.K) [] F1 H2 [] F2 H3 → Mv cs F0 H1 (cs1 y) F2 H3 := fun m => m1.trans (ok1.grow ⟨m.ff, m.fh, fun b o e => m.kp b o e fun c hc => (nomatch hc), m.fr⟩)
    refine ⟨vl y, F1, hs F1 vs (vl y) r1, m1.fh, fun c hc => absurd hc (by simp [Con.fx]), by simp [Con.fx], q1.1, fun r er v F2 H3 m rr => ?_, fun r er cls d F2 H3 m rep => ?_⟩
    · exact kk (y, r) v F2 H3 (up m) rr (q1.2.1 r er)
    · exact hW _ cls d (cs1 y) F2 H3 (up m) (hy y) rep (hE _ (q1.2.2 r er))
  refine PySem.W.callWith_K (h₀ := X.base) I1.ok.mod.kin hk (thn (hA pos pins s1 I1) fun us s2 ⟨vs, H2, I2, r, q2⟩ => ⟨I2.kIn, ?_⟩) he hpl
  exact run_fnS F hr hb (passAt tk σ) I2 r q2
end
/-! ### all owned lists lent -/
def delL (F : Hp) (ls : List Addr) : Hp := fun b => if b ∈ ls then none else F b
theorem delL_in {F : Hp} {ls : List Addr} {b : Addr} (h : b ∈ ls) : delL F ls b = none := if_pos h
theorem delL_out {F : Hp} {ls : List Addr} {b : Addr} (h : b ∉ ls) : delL F ls b = F b := if_neg h
theorem delL_cons {F : Hp} {l : Addr} {ls : List Addr} : delL F (l :: ls) = del (delL F ls) l := by
  funext b
  by_cases h : b = l
  · rw [h, del_self, delL_in List.mem_cons_self]
  · rw [del_ne h]
    by_cases h2 : b ∈ ls
    · rw [delL_in (List.mem_cons_of_mem _ h2), delL_in h2]
    · rw [delL_out h2, delL_out (fun z => (List.mem_cons.mp z).elim h h2)]
theorem nlt_L {K : PySem.W.Frag} {α : Type} {T : Ty K α} (hU : NLT T) {F : Hp} {v : V} {x : α} : ∀ {ls : List Addr}, ls.Nodup → (∀ l ∈ ls, ∃ vs, F l = some (.lst vs)) → T.rep F v x → T.rep (delL F ls) v x
  | [], _, _, r => by
    have : delL F [] = F := by funext b; unfold delL; rw [if_neg (by simp)]
    rw [this]; exact r
  | l :: ls, nd, h, r => by
    rw [delL_cons]
    obtain ⟨vs, e⟩ := h l List.mem_cons_self
    obtain ⟨n1, n2⟩ := List.nodup_cons.mp nd
    exact hU (delL F ls) l vs v x (by rw [delL_out n1]; exact e) (nlt_L hU n2 (fun a ha => h a (List.mem_cons_of_mem _ ha)) r)
/-- a cell that holds a list -/
def LstC {K : PySem.W.Frag} (c : Cell K) : Prop := ∀ F o, c.ck.rep F o → ∃ vs, o = .lst vs
theorem lstC {K : PySem.W.Frag} {α : Type} {T : Ty K α} {l : Addr} {xs : List α} : LstC (K := K) ⟨l, cL T xs⟩ := fun F o ⟨vs, e, _⟩ => ⟨vs, e⟩
theorem lstCs_nil {K : PySem.W.Frag} : ∀ c ∈ ([] : List (Cell K)), LstC c := fun c hc => by cases hc
theorem lstCs_cons {K : PySem.W.Frag} {c : Cell K} {cs : List (Cell K)} (h : LstC c) (hs : ∀ c ∈ cs, LstC c) : ∀ d ∈ c :: cs, LstC d := fun d hd => (List.mem_cons.mp hd).elim (fun e => e ▸ h) (hs d)
theorem lstCs_app {K : PySem.W.Frag} {cs ds : List (Cell K)} (h : ∀ c ∈ cs, LstC c) (hs : ∀ c ∈ ds, LstC c) : ∀ d ∈ cs ++ ds, LstC d := fun d hd => (List.mem_append.mp hd).elim (h d) (hs d)
theorem lstCs_gP {K : PySem.W.Frag} {α : Type} {T : Ty K α} {g : List (Addr × List α)} : ∀ c ∈ gP T g, LstC c := fun c hc => by
  obtain ⟨p, _, rfl⟩ := List.mem_map.mp hc
  exact lstC
/-- F with the owned lists in it -/
def addL {K : PySem.W.Frag} (F H : Hp) (cs : List (Cell K)) : Hp := fun b => if b ∈ cs.map Cell.a then H b else F b
section
variable {X : Cx} {Y : Ec X.K} {ρ ρ2 : List (Slot X.K)} {cs : List (Cell X.K)} {α γ μ : Type} {e : Expr}
theorem ek_lendA {U : Ty X.K γ} {vl : μ → γ} {M : (μ → Prop) → Prop} (hl : ∀ c ∈ cs, LstC c) (hU : NLT U)
    (hρ : ∀ F2 σ, (∀ c ∈ cs, ∃ o, F2 c.a = some o ∧ c.ck.rep F2 o) → Prd (Slot.ok F2) ρ σ → Prd (Slot.ok F2) ρ2 σ)
    (h : EK X (Y0 X.K) e ρ2 [] U vl (fun _ => []) M) : EK X Y e ρ cs U vl (fun _ => cs) M := fun F σ H ok xh φ q Q k => by
  have nF : ∀ c ∈ cs, F c.a = none := fun c hc => (ok.cell c hc).1
  have inA : ∀ {b}, b ∈ cs.map Cell.a → ∃ c ∈ cs, c.a = b := fun h => let ⟨c, hc, e⟩ := List.mem_map.mp h; ⟨c, hc, e⟩
  have aIn : ∀ {c}, c ∈ cs → c.a ∈ cs.map Cell.a := fun h => List.mem_map.mpr ⟨_, h, rfl⟩
  have sF : Same F (addL F H cs) := fun b o e => by
    unfold addL
    by_cases hb : b ∈ cs.map Cell.a
    · obtain ⟨c, hc, rfl⟩ := inA hb
      rw [nF c hc] at e; cases e
    · rw [if_neg hb]; exact e
  have sH : Same (addL F H cs) H := fun b o e => by
    unfold addL at e
    by_cases hb : b ∈ cs.map Cell.a
    · rw [if_pos hb] at e; exact e
    · rw [if_neg hb] at e; exact ok.same _ _ e
  have at_ : ∀ c ∈ cs, ∃ o, H c.a = some o ∧ addL F H cs c.a = some o ∧ c.ck.rep F o := fun c hc => by
    obtain ⟨_, o, e1, r⟩ := ok.cell c hc
    exact ⟨o, e1, by unfold addL; rw [if_pos (aIn hc)]; exact e1, r⟩
  have ok2 : Okc ρ2 [] (addL F H cs) σ H := ⟨hρ _ σ (fun c hc => let ⟨o, _, e2, r⟩ := at_ c hc; ⟨o, e2, c.ck.mono sF r⟩) (ok.env.mono fun _ _ r => r.mono sF), sH, fun c hc => (by cases hc), List.nodup_nil⟩
  refine h _ σ H ok2 xh0 φ q Q fun y v F2 H2 m r q2 => ?_
  have inF2 : ∀ c ∈ cs, ∃ vs, F2 c.a = some (.lst vs) := fun c hc => by
    obtain ⟨o, _, e2, r⟩ := at_ c hc
    obtain ⟨vs, rfl⟩ := hl c hc F o r
    exact ⟨vs, m.ff _ _ e2⟩
  have hH2 : Same H H2 := fun b o e => m.kp b o e fun c hc => (by cases hc)
  have sD : Same F (delL F2 (cs.map Cell.a)) := fun b o e => by
    have hb : b ∉ cs.map Cell.a := fun hb => by
      obtain ⟨c, hc, rfl⟩ := inA hb
      rw [nF c hc] at e; cases e
    rw [delL_out hb]
    exact m.ff _ _ (sF _ _ e)
  refine k y v (delL F2 (cs.map Cell.a)) H2 ⟨sD, fun b o e => ?_, fun b n1 n2 => ?_, fun b o e _ => hH2 _ _ e, fun c hc => ?_, ok.nd, fun c hc => .inl ⟨c, hc, rfl⟩, fun c hc => ?_⟩ (nlt_L hU ok.nd (fun l hl' => ?_) r) q2
  · by_cases hb : b ∈ cs.map Cell.a
    · rw [delL_in hb] at e; cases e
    · rw [delL_out hb] at e; exact m.fh _ _ e
  · by_cases hb : b ∈ cs.map Cell.a
    · rw [delL_in hb] at n2; exact absurd rfl n2
    · rw [delL_out hb] at n2
      refine m.fr b ?_ n2
      unfold addL
      rw [if_neg hb]; exact n1
  · obtain ⟨o, e1, _, r⟩ := at_ c hc
    exact ⟨delL_in (aIn hc), o, hH2 _ _ e1, c.ck.mono sD r⟩
  · obtain ⟨o, e1, _, _⟩ := at_ c hc
    rw [hH2 _ _ e1]
    simp
  · obtain ⟨c, hc, rfl⟩ := inA hl'
    exact inF2 c hc
/-- an owned list's name, lent -/
theorem prd_lend {F2 : Hp} {σ : L2.St} {T : Ty X.K α} {l : Addr} {xs : List α} (i : Nat) (hi : ρ[i]? = some (.val tR l)) (hc : ⟨l, cL T xs⟩ ∈ cs) (hA : ∀ c ∈ cs, ∃ o, F2 c.a = some o ∧ c.ck.rep F2 o) (h : Prd (Slot.ok F2) ρ σ) : Prd (Slot.ok F2) (ρ.set i (.val (tL T) xs)) σ := by
  obtain ⟨u, hu, v, hv, rv⟩ := h.get hi
  have rv : v = .ref l := rv
  subst rv
  subst hv
  obtain ⟨o, e1, vs, e2, r, z⟩ := hA _ hc
  subst e2
  have h1 := h.set (R := Slot.ok F2) (x := .val (tL T) xs) (u := some (.ref l)) ⟨.ref l, rfl, l, vs, rfl, e1, r, z⟩ i
  rw [show σ.set i (some (V.ref l)) = σ from set_self hu] at h1
  exact h1
/-- a group's name, lent -/
theorem prd_lendG {F2 : Hp} {σ : L2.St} {T : Ty X.K α} {t : Addr} {g : List (Addr × List α)} (i : Nat) (hi : ρ[i]? = some (.val tR t)) (hc : ⟨t, cL tR (g.map fun p => p.1)⟩ ∈ cs) (hg : ∀ c ∈ gP T g, c ∈ cs) (hA : ∀ c ∈ cs, ∃ o, F2 c.a = some o ∧ c.ck.rep F2 o) (h : Prd (Slot.ok F2) ρ σ) : Prd (Slot.ok F2) (ρ.set i (.val (tL (tL T)) (g.map fun p => p.2))) σ := by
  obtain ⟨u, hu, v, hv, rv⟩ := h.get hi
  have rv : v = .ref t := rv
  subst rv
  subst hv
  obtain ⟨o, e1, vs, e2, r, z⟩ := hA _ hc
  subst e2
  have hr : Rl (tL T) F2 vs (g.map fun p => p.2) := rl_group (Same.refl F2) r fun p hp => by
    obtain ⟨o, e1, vs, e2, r, z⟩ := hA _ (hg ⟨p.1, cL T p.2⟩ (List.mem_map.mpr ⟨p, hp, rfl⟩))
    subst e2
    exact ⟨p.1, vs, rfl, e1, r, z⟩
  have h1 := h.set (R := Slot.ok F2) (x := .val (tL (tL T)) (g.map fun p => p.2)) (u := some (.ref t)) ⟨.ref t, rfl, t, vs, rfl, e1, hr, z⟩ i
  rw [show σ.set i (some (V.ref t)) = σ from set_self hu] at h1
  exact h1
end
section
variable {K : PySem.W.Frag} {α β γ : Type}
theorem del_o {F : Hp} {l b : Addr} {vs : List V} {o : HO} (e : F l = some (.lst vs)) (h : F b = some o) (hn : ∀ us, o ≠ .lst us) : del F l b = some o := by
  rw [del_ne (fun z => by rw [z, e] at h; cases h; exact hn _ rfl)]; exact h
theorem nlU {T : Ty K α} (h : NLT T) : NLT (tU T) := fun F l vs v x e ⟨a, us, e1, hq, r, z⟩ => ⟨a, us, e1, by
  rcases hq with hq | ⟨o, hq⟩
  · exact .inl (del_o e hq fun _ z => by cases z)
  · exact .inr ⟨o, del_o e hq fun _ z => by cases z⟩, nl_rl h e r, z⟩
theorem nlUF {T : Ty K α} (h : NLT T) : NLT (tUF T) := fun F l vs v x e ⟨a, us, o, e1, hq, hd, r, z⟩ => ⟨a, us, o, e1, del_o e hq (fun _ z => by cases z), hd, nl_rl h e r, z⟩
def NLS (s : MD.Slot K) : Prop := ∀ F l vs u, F l = some (.lst vs) → Slot.ok F s u → Slot.ok (del F l) s u
theorem nlsV {T : Ty K α} {x : α} (h : NLT T) : NLS (.val T x) := fun F l vs u e ⟨v, e1, r⟩ => ⟨v, e1, h F l vs v x e r⟩
theorem nl_fld {F : Hp} {l : Addr} {vs : List V} (e : F l = some (.lst vs)) : ∀ {as : List (Str × MD.Slot K)} {bs : List (Str × V)}, (∀ p ∈ as, NLS p.2) → FldOk F as bs → FldOk (del F l) as bs
  | _, _, _, .nil => .nil
  | _, _, hn, .cons r t => .cons (hn _ List.mem_cons_self F l vs _ e r) (nl_fld e (fun p hp => hn p (List.mem_cons_of_mem _ hp)) t)
theorem nlIn {C : Addr} {fd : α → List (Str × MD.Slot K)} (h : ∀ x, ∀ p ∈ fd x, NLS p.2) : NLT (tIn C fd) := fun F l vs v x e ⟨a, dx, us, e1, hq, r⟩ => ⟨a, dx, us, e1, del_o e hq (fun _ z => by cases z), nl_fld e (h x) r⟩
end
end MD
namespace MD
open PySem PySem.Spec PyProof.Rows L2
section
variable {X : Cx} {ρ : List (Slot X.K)} {cs : List (Cell X.K)} {α : Type} {e : Expr}
/-- an inner list, its place told -/
theorem PK.ownG [Inhabited α] {T : Ty X.K α} {c0 : List (Cell X.K)} {G0 : List (Addr × List α)} {l : Addr} {P : Prop} (n : Nat) (h : PK X e ρ cs tR l P) (hcs : cs = c0 ++ gP T G0) : PV X e ρ cs (rL T (gAt G0 n)) (P ∧ (G0[n]?).map (·.1) = Option.some l) := fun F σ H ok p Q q => by
  subst hcs
  exact PK.own (c0.length + n) h (gP_get (gAt_get p.2)) F σ H ok p.1 Q q
end
end MD
namespace MD
open PySem PySem.Spec PyProof.Rows L2
theorem tLt_ref {K : PySem.W.Frag} {α : Type} {Ts : Tys K α} : ∀ F v x, (tLt Ts).rep F v x → ∃ a, v = .ref a := fun F v x ⟨a, _, e, _⟩ => ⟨a, e⟩
end MD
namespace MD
open PySem PySem.Spec PyProof.Rows L2
section
variable {X : Cx} {Y : Ec X.K} {ρ : List (Slot X.K)} {cs : List (Cell X.K)} {α μ : Type} {pos : Pos}
theorem ek_inL [DecidableEq α] {a b : Expr} {T : Ty X.K α} {vl : μ → α} {xs : List α} {cs1 : μ → List (Cell X.K)} {M : (μ → Prop) → Prop} {P2 : Prop} (f : FT T) (ha : EK X Y a ρ cs T vl cs1 M) (hb : ∀ y, PV X b ρ (cs1 y) (rQ T xs) P2) (hm : behindInMarks .In b = false := by rfl) :
    EK X Y (.Compare a [.In] [b] pos) ρ cs tB (fun y => decide (vl y ∈ xs)) cs1 (fun φ => M fun y => P2 ∧ φ y) := fun F σ H ok xh φ p Q k => by
  refine we (pe_cmpR op_in_seq pe_w pe_w hm) ?_
  refine ha F σ H ok xh _ p _ fun y v F1 H1 m1 r1 q1 => ?_
  have ok1 := ok.mv m1
  refine hb y F1 σ H1 ok1.w q1.1 _ fun w F2 H2 g2 ⟨q, vs, e, h, r, z⟩ => ?_
  refine ⟨q, vs, e, h, f.flat _ _ _ r1, ft_all f r, ?_⟩
  rw [ft_in f (T.mono g2.ff r1) r]
  exact k y _ F2 H2 (m1.trans (ok1.grow g2)) rfl q1.2
/-- xs[:e], e with effects -/
theorem ne_slH {a hi : Expr} {T : Ty X.K α} {xs : List α} {P : Prop} {p2 : Pos} {vl : μ → Int} {cs1 : μ → List (Cell X.K)} {M : (μ → Prop) → Prop} (ha : PK X a ρ cs (tL T) xs P) (hh : EK X Y hi ρ cs tI vl cs1 M) :
    NE X Y (.Subscript a (.Slice none (some hi) none p2) pos) ρ cs T (fun y => cutA xs none (some (vl y))) cs1 (fun φ => P ∧ M φ) := fun F σ H ok xh φ q Q k => by
  refine we (pe_slice sl_list pe_w po_none (po_some pe_w)) ?_
  refine ha F σ H ok.w q.1 _ fun v F1 H1 g1 ⟨b, vs, e, hb, r, z⟩ => ?_
  have m1 := ok.grow g1
  refine hh F1 σ H1 (ok.mv m1) (xh.mv m1) _ q.2 _ fun y w F2 H2 m2 r2 q2 => ?_
  refine ⟨_, r2, b, vs, e, SqL.of ((m2.ff.trans m2.fh) _ _ hb), fun p hp => ?_⟩
  obtain ⟨m3, h3, h4, h5⟩ := new_ne (vs := cutV vs none (some (vl y))) ok (m1.trans m2) hp
  exact k y p _ F2 _ m3 h3 h4 upd_same h5 (Rl.cut (r.mono m2.ff)) (Nat.le_trans (cutV_length ..) z) q2
end
end MD
namespace MD
open PySem PySem.Spec PyProof.Rows L2
theorem sk_dropA {X : Cx} {fl : Hp} {B : Hb X.K} {Y : Ec X.K} {ρ : List (Slot X.K)} {cs : List (Cell X.K)} {D : Ends} {st : List Stmt} {φ : Prop} (k : SK X B Y fl st ρ [] D φ) : SK X B Y fl st ρ cs D φ := fun F σ H ok p W tk hx' =>
  k F σ H ⟨ok.env, ⟨ok.mv.ff, ok.mv.fh, ok.mv.fr, ok.mv.kp, fun c hc => (by cases hc), List.nodup_nil, fun c hc => (by cases hc), ok.mv.st⟩, ok.flo⟩ p W tk hx'
end MD
namespace K07
open PySem PySem.Spec PyProof.Rows L2 MD KP
def topS (i : Nat) : Stmt := PySem.Challenge.pw_meetdesks_k07_runs_and_rows_let_by.main.body.getD i (.Pass ⟨0, 0, 0, 0⟩)
structure Bs (mg : Str → Option Value) : Prop where
  m_len : mg "len" = none
  b_len : bootBuiltins "len" = some (.builtin "len")
  m_range : mg "range" = none
  b_range : bootBuiltins "range" = some (.type "range")
  m_sorted : mg "sorted" = none
  b_sorted : bootBuiltins "sorted" = some (.builtin "sorted")
  m_set : mg "set" = none
  b_set : bootBuiltins "set" = some (.type "set")
  m_tuple : mg "tuple" = none
  b_tuple : bootBuiltins "tuple" = some (.type "tuple")
  m_list : mg "list" = none
  b_list : bootBuiltins "list" = some (.type "list")
  m_isinstance : mg "isinstance" = none
  b_isinstance : bootBuiltins "isinstance" = some (.builtin "isinstance")
  m_all : mg "all" = none
  b_all : bootBuiltins "all" = some (.builtin "all")
  m_int : mg "int" = none
  b_int : bootBuiltins "int" = some (.type "int")
  m_max : mg "max" = none
  b_max : bootBuiltins "max" = some (.builtin "max")
  m_min : mg "min" = none
  b_min : bootBuiltins "min" = some (.builtin "min")
  m_str : mg "str" = none
  b_str : bootBuiltins "str" = some (.type "str")
  m_enumerate : mg "enumerate" = none
  b_enumerate : bootBuiltins "enumerate" = some (.type "enumerate")
  m_bool : mg "bool" = none
  b_bool : bootBuiltins "bool" = some (.type "bool")
  m_zip : mg "zip" = none
  b_zip : bootBuiltins "zip" = some (.type "zip")
  m_repr : mg "repr" = none
  b_repr : bootBuiltins "repr" = some (.builtin "repr")
  m_ValueError : mg "ValueError" = none
  b_ValueError : bootBuiltins "ValueError" = some (.type "ValueError")
structure Xs (K : PySem.W.Frag) (mg : Str → Option Value) (xa : XA) (C_MeetError : Addr) : Prop where
  c_NoLetter : XcT K mg "NoLetter" xa.NoLetter
  g_MeetError : mg "MeetError" = some (.ref C_MeetError)
  g_NoLetter : mg "NoLetter" = some (.ref xa.NoLetter)
  n_NoLetter_letter : PySem.W.findIn K (.ref xa.NoLetter) "letter" = some none
  o_NoLetter_MeetError : PySem.W.kitOne K (.ref xa.NoLetter) (.ref C_MeetError) = some true
  b_NoLetter_ValueError : PySem.W.kitOne K (.ref xa.NoLetter) (.type "ValueError") = some true
  x_NoLetter_NoLetter : PySem.W.exmOne K (.ref xa.NoLetter) (.ref xa.NoLetter) = some true
abbrev Ma := List Str × List (List Int) × List Int
def fd_Machine {K : PySem.W.Frag} (x : Ma) : List (Str × MD.Slot K) := [("letters", .val (tUF tS) x.1), ("table", .val (tU (tU tI)) x.2.1), ("good", .val (tU tI) x.2.2)]
def ty_Machine {K : PySem.W.Frag} (C : Addr) : Ty K Ma := tIn C fd_Machine
theorem nl_Machine {K : PySem.W.Frag} {C : Addr} : NLT (ty_Machine (K := K) C) := nlIn fun x p hp => by
  rcases List.mem_cons.mp hp with e | hp
  · rw [e]; exact nlsV (nlUF nlS)
  rcases List.mem_cons.mp hp with e | hp
  · rw [e]; exact nlsV (nlU (nlU nlI))
  rw [List.mem_singleton.mp hp]
  exact nlsV (nlU nlI)
structure Cl_Machine (K : PySem.W.Frag) (C : Addr) : Prop where
  c : Cls K C
  n_letters : NoAttr K C "letters"
  n_table : NoAttr K C "table"
  n_good : NoAttr K C "good"
structure TabOk (ls : List Str) (tab : List (List Int)) : Prop where
  ne : tab ≠ []
  few : tab.length ≤ 24
  lne : ls ≠ []
  l6 : ls.length ≤ 6
  nd : ls.Nodup
  w : ∀ s ∈ ls, Word s
  len : ∀ r ∈ tab, r.length = ls.length
  goal : ∀ r ∈ tab, ∀ g ∈ r, 0 ≤ g ∧ g < tab.length
/-- the good ones, rising -/
def GoodOk (tab : List (List Int)) (good : List Int) : Prop := good = (rng 0 (tab.length : Int)).filter fun k => decide (k ∈ good)
def MaOk (m : Ma) : Prop := TabOk m.1 m.2.1 ∧ GoodOk m.2.1 m.2.2
def InL (ls row : List Str) : Prop := ∀ l ∈ row, l ∈ ls
def pre_Machine_init (x : Ma) : Prop := TabOk x.1 x.2.1 ∧ x.2.2.length ≤ 60 ∧ ∀ g ∈ x.2.2, 0 ≤ g ∧ g < x.2.1.length
def f_Machine_init (x : Ma) : Ma := (x.1, x.2.1, sortI1 x.2.2)
def pre_Machine_place_of (x : Ma × Str) : Prop := True
def g_place (x : Ma × Str) : Int ⊕ Rf := if x.2 ∈ x.1.1 then .inl (x.1.1.idxOf x.2 : Nat) else .inr (.noLetter x.2)
def odd (ls row : List Str) : Option Str := row.find? fun l => !decide (l ∈ ls)
def runM (ls : List Str) (tab : List (List Int)) (row : List Str) : Int := row.foldl (fun s l => pyIx (pyIx tab s) (ls.idxOf l : Nat)) 0
def pre_run (x : Ma × List Str) : Prop := TabOk x.1.1 x.1.2.1 ∧ x.2.length ≤ 1000
def g_run (x : Ma × List Str) : Int ⊕ Rf := match odd x.1.1 x.2 with
  | some l => .inr (.noLetter l)
  | none => .inl (runM x.1.1 x.1.2.1 x.2)
def pre_lets_by (x : Ma × List Str) : Prop := pre_run x
def g_lets_by (x : Ma × List Str) : Bool ⊕ Rf := match odd x.1.1 x.2 with
  | some l => .inr (.noLetter l)
  | none => .inl (decide (runM x.1.1 x.1.2.1 x.2 ∈ x.1.2.2))
def pre_machine (fl : List Int) (x : Int × List Str) : Prop := Fl fl ∧ 1 ≤ x.1 ∧ x.1 ≤ 24 ∧ x.2.length ≤ 6
def post_machine (fl : List Int) (x : Int × List Str) (r : List (List Int) × List Int) (fl2 : List Int) : Prop := Fl fl2 ∧ (r.1.length : Int) = x.1 ∧ (∀ s ∈ r.1, s.length = x.2.length ∧ ∀ g ∈ s, 0 ≤ g ∧ g < x.1) ∧ GoodOk r.1 r.2
structure CaseOk (x : List Str × List (List Int) × List Int × List Str × List Str) : Prop where
  m : MaOk (x.1, x.2.1, x.2.2.1)
  inl : InL x.1 x.2.2.2.1
  few : x.2.2.2.1.length ≤ 60
  sfew : x.2.2.2.2.length ≤ 60
  odd : ∃ l ∈ x.2.2.2.2, l ∉ x.1
def pre_case (x : List Int × Int) : Prop := 0 ≤ x.2 ∧ x.2 ≤ 1000
def post_case (x : List Int × Int) (r : List Str × List (List Int) × List Int × List Str × List Str) : Prop := CaseOk r
def pre_made (x : List Str × List (List Int) × List Int × List Str × List Str) : Prop := CaseOk x
def f_made (x : List Str × List (List Int) × List Int × List Str × List Str) : Ma := (x.1, x.2.1, x.2.2.1)
def pre_refused (x : Unit × Ma × List Str) : Prop := TabOk x.2.1.1 x.2.1.2.1 ∧ x.2.2.length ≤ 1000
def f_refused (x : Unit × Ma × List Str) : PyData := match odd x.2.1.1 x.2.2 with
  | some l => .tuple [.str "none", .str l, .bool true, .bool true]
  | none => .tuple [.str "told"]
def pre_right (x : Ma × List Str × List (List Int) × List Int × List Str × List Str) : Prop := CaseOk x.2 ∧ x.1 = (x.2.1, x.2.2.1, x.2.2.2.1)
def f_right (x : Ma × List Str × List (List Int) × List Int × List Str × List Str) : Bool := true
def pre_law (x : List Int) : Prop := x.length ≤ 63
def f_law (x : List Int) : Bool := true
theorem pyIx_some {α : Type} [Inhabited α] {xs : List α} {n : Nat} (h : n < xs.length) : xs[n]? = some (pyIx xs (n : Int)) := by
  obtain ⟨x, e, hx⟩ := pyIx_nat (xs := xs) (i := (n : Int)) (by omega) (by omega)
  rw [e]
  exact hx
theorem pyIx_map {α β : Type} [Inhabited α] [Inhabited β] {f : α → β} {xs : List α} {i : Int} (h0 : 0 ≤ i) (h1 : i < xs.length) : pyIx (xs.map f) i = f (pyIx xs i) := by
  obtain ⟨x, e, hx⟩ := pyIx_nat h0 h1
  obtain ⟨y, e2, hy⟩ := pyIx_nat (xs := xs.map f) h0 (by rw [List.length_map]; exact h1)
  rw [e, e2]
  rw [List.getElem?_map, hx] at hy
  exact (Option.some.inj hy).symm
theorem rng_len (n : Nat) : (rng 0 (n : Int)).length = n := by rw [rng_length]; omega
theorem rng_mem {n : Nat} {g : Int} (h : g ∈ rng 0 (n : Int)) : 0 ≤ g ∧ g < n := by
  obtain ⟨i, hi, rfl⟩ := List.mem_map.mp h
  have := List.mem_range.mp hi
  omega
/-! ### what repr is asked of is small -/
structure Sml (n : Nat) (d : PyData) : Prop where
  s : d.showable = true
  h : d.hasDict = false
  l : d.leavesShort 13 = true
  w : d.weight ≤ n
theorem Sml.mono {n m : Nat} {d : PyData} (h : Sml n d) (hm : n ≤ m) : Sml m d := ⟨h.s, h.h, h.l, Nat.le_trans h.w hm⟩
theorem sml_str {w : Str} (h : Word w) : Sml 8 (.str w) := by
  refine ⟨by simp only [PyData.showable], by simp only [PyData.hasDict], ?_, ?_⟩
  · simp only [PyData.leavesShort, List.all_eq_true, decide_eq_true_eq]
    intro c hc
    have := h.2.2 c hc
    have e : (16 : Nat) ^ 8 = 4294967296 := by decide
    omega
  · simp only [PyData.weight]
    exact h.2.1
theorem sml_int {i : Int} (h0 : 0 ≤ i) (h1 : i < 1000) : Sml 1001 (.int i) := by
  have hl : i.natAbs.log2 ≤ i.natAbs := Nat.log2_le_self _
  refine ⟨by simp only [PyData.showable, decide_eq_true_eq]; omega, by simp only [PyData.hasDict], ?_, ?_⟩
  · simp only [PyData.leavesShort, decide_eq_true_eq]
    exact PyData.shown_int_le (by have e : (10 : Nat) ^ 12 = 1000000000000 := by decide
                                  omega)
  · simp only [PyData.weight]
    split <;> omega
theorem sml_all {n : Nat} : ∀ {xs : List PyData}, (∀ x ∈ xs, Sml n x) → PyData.showableAll xs = true ∧ PyData.hasDictAll xs = false ∧ PyData.leavesShortAll 13 xs = true ∧ PyData.weightAll xs ≤ (n + 1) * xs.length
  | [], _ => ⟨by simp only [PyData.showableAll], by simp only [PyData.hasDictAll], by simp only [PyData.leavesShortAll], by simp only [PyData.weightAll]; exact Nat.zero_le _⟩
  | x :: xs, h => by
    obtain ⟨h1, h2, h3, h4⟩ := sml_all fun y hy => h y (List.mem_cons_of_mem _ hy)
    have hx := h x List.mem_cons_self
    have hw := hx.w
    refine ⟨by simp only [PyData.showableAll, hx.s, h1, Bool.and_self], by simp only [PyData.hasDictAll, hx.h, h2, Bool.or_self], by simp only [PyData.leavesShortAll, hx.l, h3, Bool.and_self], ?_⟩
    simp only [PyData.weightAll, List.length_cons]
    have : (n + 1) * (xs.length + 1) = (n + 1) * xs.length + (n + 1) := Nat.mul_succ _ _
    omega
theorem sml_list {n : Nat} {xs : List PyData} (h : ∀ x ∈ xs, Sml n x) : Sml ((n + 1) * xs.length) (.list xs) := by
  obtain ⟨h1, h2, h3, h4⟩ := sml_all h
  exact ⟨by simp only [PyData.showable, h1], by simp only [PyData.hasDict, h2], by simp only [PyData.leavesShort, h3], by simp only [PyData.weight]; exact h4⟩
theorem sml_tup {n : Nat} {xs : List PyData} (h : ∀ x ∈ xs, Sml n x) : Sml ((n + 1) * xs.length) (.tuple xs) := by
  obtain ⟨h1, h2, h3, h4⟩ := sml_all h
  exact ⟨by simp only [PyData.showable, h1], by simp only [PyData.hasDict, h2], by simp only [PyData.leavesShort, h3], by simp only [PyData.weight]; exact h4⟩
theorem Sml.fits {n : Nat} {d : PyData} (h : Sml n d) (hn : n ≤ 1048576) : d.showable = true ∧ d.hasDict = false ∧ d.shown.length ≤ sizeLine :=
  ⟨h.s, h.h, PyData.shown_fits (B := 13) (by decide) (by decide) h.l (Nat.le_trans h.w (Nat.le_trans hn (by decide)))⟩
theorem sml_words {ws : List Str} {n : Nat} (h : ∀ w ∈ ws, Word w) (hn : ws.length ≤ n) : Sml (9 * n) (.tuple (ws.map .str)) ∧ Sml (9 * n) (.list (ws.map .str)) := by
  have h1 : ∀ x ∈ ws.map PyData.str, Sml 8 x := fun x hx => by
    obtain ⟨w, hw, rfl⟩ := List.mem_map.mp hx
    exact sml_str (h w hw)
  have hl : (8 + 1) * (ws.map PyData.str).length ≤ 9 * n := by rw [List.length_map]; omega
  exact ⟨(sml_tup h1).mono hl, (sml_list h1).mono hl⟩
theorem pyIx_head {α : Type} [Inhabited α] (w : α) (ws : List α) : pyIx (w :: ws) 0 = w := by
  have h := pyIx_some (xs := w :: ws) (n := 0) (Nat.succ_pos _)
  exact (Option.some.inj h).symm
theorem rng_pw (n : Nat) : (rng 0 (n : Int)).Pairwise (· < ·) := by
  unfold rng
  rw [List.pairwise_map]
  exact List.pairwise_lt_range.imp fun h => by omega
theorem rng_memI {n : Nat} {g : Int} (h0 : 0 ≤ g) (h1 : g < n) : g ∈ rng 0 (n : Int) := List.mem_map.mpr ⟨g.toNat, List.mem_range.mpr (by omega), by omega⟩
theorem good_of {tab : List (List Int)} {good : List Int} (h : good.Pairwise (· < ·)) (hb : ∀ g ∈ good, 0 ≤ g ∧ g < (tab.length : Int)) : GoodOk tab good :=
  pw_ext h ((rng_pw tab.length).filter _) fun x => by
    rw [List.mem_filter, decide_eq_true_eq]
    exact ⟨fun hx => ⟨rng_memI (hb x hx).1 (hb x hx).2, hx⟩, fun hx => hx.2⟩
theorem good_in {tab : List (List Int)} {good : List Int} (h : GoodOk tab good) {g : Int} (hg : g ∈ good) : 0 ≤ g ∧ g < (tab.length : Int) := by
  rw [h] at hg
  exact rng_mem (List.mem_filter.mp hg).1
theorem good_pw {tab : List (List Int)} {good : List Int} (h : GoodOk tab good) : good.Pairwise (· < ·) := by
  rw [h]
  exact (rng_pw _).filter _
theorem split_at {α : Type} {xs : List α} {i : Nat} {x : α} (h : xs[i]? = some x) : xs = xs.take i ++ x :: xs.drop (i + 1) := by
  obtain ⟨hi, e⟩ := List.getElem?_eq_some_iff.mp h
  rw [← e, ← List.drop_eq_getElem_cons hi, List.take_append_drop]
theorem odd_none {ls row : List Str} (h : InL ls row) : odd ls row = none := List.find?_eq_none.mpr fun l hl e => by simp [h l hl] at e
theorem odd_first {ls p r : List Str} {x : Str} (hp : ∀ l ∈ p, l ∈ ls) (hx : x ∉ ls) : odd ls (p ++ x :: r) = some x := by
  have h0 : p.find? (fun l => !decide (l ∈ ls)) = none := List.find?_eq_none.mpr fun l hl e => by simp [hp l hl] at e
  unfold odd
  rw [List.find?_append, h0]
  simp [hx]
theorem odd_at {ls row : List Str} {i : Nat} {x : Str} (h : row[i]? = some x) (hp : ∀ l ∈ row.take i, l ∈ ls) (hx : x ∉ ls) : odd ls row = some x := by
  rw [split_at h]
  exact odd_first hp hx
theorem place_in {m : Ma} {x : Str} (h : x ∈ m.1) : g_place (m, x) = .inl ((m.1.idxOf x : Nat) : Int) := if_pos h
theorem place_out {m : Ma} {x : Str} (h : x ∉ m.1) : g_place (m, x) = .inr (.noLetter x) := if_neg h
theorem inL_take {ls row : List Str} {i : Nat} {x : Str} (h : row[i]? = some x) (hp : InL ls (row.take i)) (hx : x ∈ ls) : InL ls (row.take (i + 1)) := fun l hl => by
  rw [take_step h] at hl
  rcases List.mem_append.mp hl with e | e
  · exact hp l e
  · rw [List.mem_singleton.mp e]; exact hx
theorem ix_ok {ls : List Str} {tab : List (List Int)} (hT : TabOk ls tab) {l : Str} (hl : l ∈ ls) {r : List Int} (hr : r ∈ tab) : IxOk r ((ls.idxOf l : Nat) : Int) := by
  have h := List.idxOf_lt_length_iff.mpr hl
  have h2 := hT.len r hr
  exact ⟨by omega, by omega⟩
theorem runM_app (ls : List Str) (tab : List (List Int)) (row : List Str) (l : Str) : runM ls tab (row ++ [l]) = pyIx (pyIx tab (runM ls tab row)) ((ls.idxOf l : Nat) : Int) := by
  unfold runM
  rw [List.foldl_append]
  rfl
theorem runM_step {ls : List Str} {tab : List (List Int)} {row : List Str} {i : Nat} {x : Str} (h : row[i]? = some x) : runM ls tab (row.take (i + 1)) = pyIx (pyIx tab (runM ls tab (row.take i))) ((ls.idxOf x : Nat) : Int) := by rw [take_step h, runM_app]
theorem run_from {ls : List Str} {tab : List (List Int)} (hT : TabOk ls tab) : ∀ {row : List Str} {s : Int}, InL ls row → 0 ≤ s → s < tab.length → 0 ≤ row.foldl (fun s l => pyIx (pyIx tab s) ((ls.idxOf l : Nat) : Int)) s ∧ row.foldl (fun s l => pyIx (pyIx tab s) ((ls.idxOf l : Nat) : Int)) s < tab.length
  | [], s, _, h0, h1 => ⟨h0, h1⟩
  | l :: row, s, h, h0, h1 => by
    have hr := pyIx_mem (xs := tab) h0 h1
    have hx := ix_ok hT (h l List.mem_cons_self) hr
    have hg := hT.goal _ hr _ (pyIx_mem (by omega) hx.2)
    exact run_from (row := row) hT (fun x hx => h x (List.mem_cons_of_mem _ hx)) hg.1 hg.2
theorem TabOk.pos {ls : List Str} {tab : List (List Int)} (hT : TabOk ls tab) : 0 < tab.length := by
  cases tab with
  | nil => exact absurd rfl hT.ne
  | cons x xs => exact Nat.succ_pos _
theorem run_at {ls : List Str} {tab : List (List Int)} (hT : TabOk ls tab) {row : List Str} (h : InL ls row) : 0 ≤ runM ls tab row ∧ runM ls tab row < tab.length := by
  have := hT.pos
  exact run_from hT h (by omega) (by omega)
theorem run_in {m : Ma} {row : List Str} (h : InL m.1 row) : g_run (m, row) = .inl (runM m.1 m.2.1 row) := by
  unfold g_run
  dsimp only
  rw [odd_none h]
theorem run_odd {m : Ma} {row : List Str} {x : Str} (h : odd m.1 row = some x) : g_run (m, row) = .inr (.noLetter x) := by
  unfold g_run
  dsimp only
  rw [h]
theorem lets_in {m : Ma} {row : List Str} (h : InL m.1 row) : g_lets_by (m, row) = .inl (decide (runM m.1 m.2.1 row ∈ m.2.2)) := by
  unfold g_lets_by
  dsimp only
  rw [odd_none h]
theorem lets_odd {m : Ma} {row : List Str} {x : Str} (h : odd m.1 row = some x) : g_lets_by (m, row) = .inr (.noLetter x) := by
  unfold g_lets_by
  dsimp only
  rw [h]
theorem inL_none {ls row : List Str} (h : odd ls row = none) : InL ls row := fun l hl => by
  have := List.find?_eq_none.mp h l hl
  simpa using this
theorem good_len {ls : List Str} {tab : List (List Int)} {good : List Int} (hT : TabOk ls tab) (hg : GoodOk tab good) : good.length ≤ 24 := by
  have h1 : good.length ≤ (rng 0 (tab.length : Int)).length := by
    have e : good = (rng 0 (tab.length : Int)).filter fun k => decide (k ∈ good) := hg
    rw [e]
    exact List.length_filter_le _ _
  rw [rng_len] at h1
  exact Nat.le_trans h1 hT.few
theorem odd_head {ls : List Str} : ∀ {row : List Str}, (∃ l ∈ row, l ∉ ls) → ∃ l, odd ls row = some l ∧ 0 < (row.filter fun c => !decide (c ∈ ls)).length ∧ pyIx (row.filter fun c => !decide (c ∈ ls)) 0 = l
  | [], ⟨l, h, _⟩ => (by cases h)
  | x :: row, ⟨l, h, hn⟩ => by
    by_cases hx : x ∈ ls
    · have h1 : l ∈ row := by
        rcases List.mem_cons.mp h with e | e
        · rw [e] at hn; exact absurd hx hn
        · exact e
      obtain ⟨k, k1, k2, k3⟩ := odd_head (row := row) ⟨l, h1, hn⟩
      have e1 : (x :: row).filter (fun c => !decide (c ∈ ls)) = row.filter fun c => !decide (c ∈ ls) := List.filter_cons_of_neg (by simp [hx])
      refine ⟨k, ?_, by rw [e1]; exact k2, by rw [e1]; exact k3⟩
      unfold odd
      rw [List.find?_cons_of_neg (by simp [hx])]
      exact k1
    · have e1 : (x :: row).filter (fun c => !decide (c ∈ ls)) = x :: row.filter fun c => !decide (c ∈ ls) := List.filter_cons_of_pos (by simp [hx])
      refine ⟨x, ?_, by rw [e1]; exact Nat.succ_pos _, by rw [e1]; exact pyIx_head _ _⟩
      unfold odd
      rw [List.find?_cons_of_pos (by simp [hx])]
theorem sml_bool (b : Bool) : Sml 1001 (.bool b) := by
  cases b <;> exact ⟨by simp only [PyData.showable], by simp only [PyData.hasDict], by decide +kernel, by decide +kernel⟩
theorem sml_ma {ls : List Str} {tab : List (List Int)} {good : List Int} (hT : TabOk ls tab) (hg : GoodOk tab good) : Sml 432939 (.tuple [.tuple (ls.map .str), .tuple (tab.map fun r => .tuple (r.map .int)), .tuple (good.map .int)]) := by
  have h24 := hT.few
  have l6 := hT.l6
  have k1 := (sml_words hT.w hT.l6).1
  have ki : ∀ {xs : List Int} {n : Nat}, xs.length ≤ n → (∀ g ∈ xs, 0 ≤ g ∧ g < (tab.length : Int)) → Sml (1002 * n) (.tuple (xs.map .int)) := fun {xs n} hn h => by
    have h2 : ∀ y ∈ xs.map PyData.int, Sml 1001 y := fun y hy => by
      obtain ⟨g, hgm, rfl⟩ := List.mem_map.mp hy
      have := h g hgm
      exact sml_int this.1 (by omega)
    refine (sml_tup h2).mono ?_
    rw [List.length_map]
    omega
  have k3 := ki (good_len hT hg) fun g h => good_in hg h
  have k2 : Sml (6013 * 24) (.tuple (tab.map fun r => .tuple (r.map .int))) := by
    have h2 : ∀ y ∈ tab.map (fun r => PyData.tuple (r.map .int)), Sml 6012 y := fun y hy => by
      obtain ⟨r, hr, rfl⟩ := List.mem_map.mp hy
      exact ki (n := 6) (by rw [hT.len r hr]; exact l6) (hT.goal r hr)
    refine (sml_tup h2).mono ?_
    rw [List.length_map]
    omega
  have h : ∀ x ∈ [PyData.tuple (ls.map .str), .tuple (tab.map fun r => .tuple (r.map .int)), .tuple (good.map .int)], Sml 144312 x := fun x hx => by
    simp only [List.mem_cons, List.not_mem_nil, or_false] at hx
    rcases hx with rfl | rfl | rfl
    · exact k1.mono (by decide)
    · exact k2.mono (by decide)
    · exact k3.mono (by decide)
  exact (sml_tup h).mono (by simp only [List.length_cons, List.length_nil]; omega)
end K07
namespace K07
open PySem PySem.Spec PyProof.Rows L2 MD KP
section
variable {P : Program} {w : World} {K : PySem.W.Frag} {mg : Str → Option Value} {base : Heap}
abbrev s_NoLetter_init : Stmt := (inClass (topS 5) 0)
theorem sc_NoLetter_init : FnScope ["self", "letter"] ["self", "letter"] (defScope s_NoLetter_init) := ⟨rfl, rfl, rfl, by decide +kernel, rfl, by decide +kernel, by decide +kernel⟩
theorem ok_NoLetter_init {C B : Addr} (T : OexC K C) (M : MoT K mg "MeetError" B) (n0 : PySem.W.findIn K (.ref C) "letter" = some none) {f : Addr} {fd : FuncData} (F : Fun K "__init__" "NoLetter.__init__" s_NoLetter_init f fd) : FnOk P w K mg base (L2.CX P w) 1 f fd ["self", "letter"] (spX1 C "letter") := by
  refine F.okX sc_NoLetter_init (fun vs H Q E hh => ?_) (fun cdv A outer s H vs Q E hr hh => ⟨_, pss_cons (ps_expr (pe_moinit M (pa_cons (pv 0) (pa_cons (pv 1) pa_nil)))) (pss_one (ps_ost (pv 0) (pv 1))), ?_⟩)
  · obtain ⟨a, v0, rfl, _⟩ := hh
    rfl
  · obtain ⟨a, v0, rfl, ha, k⟩ := hh
    exact ⟨_, rfl, _, rfl, a, C, _, rfl, Nat.le_of_ble_eq_true rfl, T, ha, _, rfl, _, rfl, a, C, rfl, T, n0, .inl ⟨ha, fun d hd hda => k d hd hda⟩⟩
abbrev s_cell : Stmt := topS 11
theorem sc_cell : FnScope ["_law_script", "_law_k", "_law_number"] ["_law_script", "_law_k"] (defScope s_cell) := ⟨rfl, rfl, rfl, by decide +kernel, rfl, by decide +kernel, by decide +kernel⟩
def c_cell (K : PySem.W.Frag) := Con.fn (K := K) (fun x : ((List Int) × Int) => [.val (tLK tI) x.1, .val tI x.2]) tI pre_cell f_cell
theorem ok_cell (bs : Bs mg) {f : Addr} {fd : FuncData} (F : Fun K "_law_cell" "_law_cell" s_cell f fd) : FnOk P w K mg base (L2.CX P w) 1 f fd ["_law_script", "_law_k"] (c_cell K).sp := by
  refine fn_con (c_cell K) F sc_cell (fun _ => rfl) ?_
  intro cdv Ar outer s H E F0 a φ ε hr hp
  have hu := hu_of hr
  have sc := sc_cell
  refine' SK.vc ?hh ?vc
  case hh =>
   refine' sk_seq (sk_if1 (pt_cmp' op_lt r2_B0 (pk_var (i := 1) rfl) (PV.k (pv_cb cr_lenQ bs.m_len bs.b_len u_len (PV.kq (PK.lk (pk_var (i := 0) rfl)))))) ?a12 ?b13)
   case a12 =>
    exact sk_retF (pk_ixR (T := tI) (PK.lk (pk_var (i := 0) rfl)) (pk_var (i := 1) rfl))
   case b13 =>
    refine' sk_nilX rfl ?k14
    case k14 =>
     refine' sk_set (i := 2) (by exact sc.nd) (pk_op op_add r2_I0 (pk_op op_mul r2_I (pk_var (i := 1) rfl) pk_int) pk_int) ?k15
     case k15 =>
      intro number_1
      refine' sk_st (ρ2 := [.val (tLK tI) a.1, .val tI a.2, .val tI number_1]) (cs2 := []) rfl rfl ?k16
      case k16 =>
       refine' sk_join (fun z_2 : Int => [.val (tLK tI) a.1, .val tI a.2, .val tI z_2]) (fun z_2 : Int => []) ?h17 ?k18
       case h17 =>
        intro R_3
        refine' sk_if1 (pt_cmp' op_gt r2_B0 (PV.k (pv_cb cr_lenQ bs.m_len bs.b_len u_len (PV.kq (PK.lk (pk_var (i := 0) rfl))))) pk_int) ?a19 ?b20
        case a19 =>
         refine' sk_set (i := 2) (by exact sc.nd) (pk_op op_add r2_I0 (pk_op op_mul r2_I (pk_op op_mod r2_I (pk_ixR (T := tI) (PK.lk (pk_var (i := 0) rfl)) (pk_op op_mod r2_I (pk_op op_mul r2_I (pk_var (i := 1) rfl) pk_int) (PV.k (pv_cb cr_lenQ bs.m_len bs.b_len u_len (PV.kq (PK.lk (pk_var (i := 0) rfl))))))) pk_int) pk_int) (pk_op op_mul r2_I (pk_var (i := 1) rfl) pk_int)) ?k21
         case k21 =>
          intro number_4
          refine' sk_st (ρ2 := [.val (tLK tI) a.1, .val tI a.2, .val tI number_4]) (cs2 := []) rfl rfl ?k22
          case k22 =>
           exact sk_midX (z := _) rfl (.same (.same (.same .nil))) rfl
        case b20 =>
         exact sk_midX (z := _) rfl (.same (.same (.same .nil))) rfl
       case k18 =>
        intro z_2
        exact sk_retF (pk_op op_mul r2_I (pk_op op_mod r2_I (pk_var (i := 2) rfl) pk_int) pk_int)
  case vc =>
   intro h
   simp only [true_and, and_true, yes1, yes2]
   obtain ⟨xs, k⟩ := a
   obtain ⟨hk, hφ⟩ := h
   have hk : 0 ≤ k := hk
   try dsimp only at hφ
   try dsimp only
   have l0 : (0 : Int) ≤ xs.length := Int.natCast_nonneg _
   refine ⟨fun h1 => ?_, fun h1 => ?_⟩
   · have h1 : k < xs.length := of_decide_eq_true h1
     refine ⟨⟨by omega, h1⟩, hφ _ ?_⟩
     unfold f_cell
     rw [if_pos h1]
   · have h1 : ¬ k < xs.length := of_decide_eq_false h1
     refine ⟨.inr ⟨by decide, by decide⟩, fun z hz => ⟨fun y => y = (if 0 < xs.length then pyIx xs (k * 7 % xs.length) % 2147483629 * 48271 + k * 7919 else k * 7919 + 5), ⟨fun h2 => ?_, fun h2 => ?_⟩, fun y hy => ?_⟩⟩
     · have h2 : 0 < (xs.length : Int) := of_decide_eq_true h2
       have h3 : 0 < xs.length := by omega
       refine ⟨⟨⟨⟨⟨⟨.inr ⟨by decide, by decide⟩, h2⟩, ?_⟩, by decide⟩, .inr ⟨by decide, by decide⟩⟩, .inr ⟨by decide, by decide⟩⟩, fun y hy => ?_⟩
       · have := Int.emod_nonneg (k * 7) (show (xs.length : Int) ≠ 0 by omega)
         exact ⟨by omega, Int.emod_lt_of_pos _ h2⟩
       · rw [if_pos h3]; exact hy
     · have h2 : ¬ 0 < (xs.length : Int) := of_decide_eq_false h2
       rw [if_neg (by omega)]; exact hz
     · refine ⟨⟨by decide, .inr ⟨by decide, by decide⟩⟩, hφ _ ?_⟩
       unfold f_cell
       rw [if_neg h1, hy]
abbrev s_flow : Stmt := topS 12
theorem sc_flow : FnScope ["_law_script", "_law_k", "_law_cell_here", "_law_own"] ["_law_script", "_law_k"] (defScope s_flow) := ⟨rfl, rfl, rfl, by decide +kernel, rfl, by decide +kernel, by decide +kernel⟩
def c_flow (K : PySem.W.Frag) := Con.mk1 (K := K) (fun x : ((List Int) × Int) => [.val (tLK tI) x.1, .val tI x.2]) tI pre_flow post_flow
theorem ok_flow (bs : Bs mg) {f_cell : Addr} {fd_cell : FuncData} (g_cell : Cal P w K mg base "_law_cell" 1 ["_law_script", "_law_k"] (c_cell K).sp f_cell fd_cell) {f : Addr} {fd : FuncData} (F : Fun K "_law_flow" "_law_flow" s_flow f fd) : FnOk P w K mg base (L2.CX P w) 2 f fd ["_law_script", "_law_k"] (c_flow K).sp := by
  refine fn_con (c_flow K) F sc_flow (fun _ => rfl) ?_
  intro cdv Ar outer s H E F0 a φ ε hr hp
  have hu := hu_of hr
  have sc := sc_flow
  refine' SK.vc ?hh ?vc
  case hh =>
   refine' sk_set (i := 2) (by exact sc.nd) (pk_fn g_cell.F (slC sl1) hr g_cell.m g_cell.k g_cell.b (pa_C (pk_var (i := 0) rfl) (pa_1 (pk_var (i := 1) rfl)))) ?k33
   case k33 =>
    intro cell_here_1
    refine' sk_st (ρ2 := [.val (tLK tI) a.1, .val tI a.2, .val tI cell_here_1, .un]) (cs2 := []) rfl rfl ?k34
    case k34 =>
     refine' sk_set (i := 3) (by exact sc.nd) pk_int ?k35
     case k35 =>
      intro own_2
      refine' sk_st (ρ2 := [.val (tLK tI) a.1, .val tI a.2, .val tI cell_here_1, .val tI own_2]) (cs2 := []) rfl rfl ?k36
      case k36 =>
       refine' sk_join (fun z_3 : Int => [.val (tLK tI) a.1, .val tI a.2, .val tI cell_here_1, .val tI z_3]) (fun z_3 : Int => []) ?h37 ?k38
       case h37 =>
        intro R_4
        refine' sk_if1 (pt_cmp' op_ge r2_B0 (pk_var (i := 2) rfl) (pk_op op_pow r2_I pk_int pk_int)) ?a39 ?b40
        case a39 =>
         refine' sk_set (i := 3) (by exact sc.nd) (pk_var (i := 2) rfl) ?k41
         case k41 =>
          intro own_5
          refine' sk_st (ρ2 := [.val (tLK tI) a.1, .val tI a.2, .val tI cell_here_1, .val tI own_5]) (cs2 := []) rfl rfl ?k42
          case k42 =>
           exact sk_midX (z := _) rfl (.same (.same (.same (.same .nil)))) rfl
        case b40 =>
         exact sk_midX (z := _) rfl (.same (.same (.same (.same .nil)))) rfl
       case k38 =>
        intro z_3
        exact sk_retN (NK.ne (nk_lst (pl_C (pk_var (i := 3) rfl) (pl_C pk_int (pl_C (pk_op op_add r2_I0 (pk_op op_mod r2_I (pk_var (i := 2) rfl) pk_int) (pk_op op_mul r2_I pk_int (pk_var (i := 1) rfl))) pl_0))) (Nat.le_of_ble_eq_true rfl)))
  case vc =>
   intro h
   simp only [true_and, and_true, yes1, yes2]
   obtain ⟨xs, k⟩ := a
   obtain ⟨⟨k0, k1⟩, hφ⟩ := h
   have k0 : 0 ≤ k := k0
   have k1 : k ≤ 1000000 := k1
   try dsimp only at hφ
   try dsimp only
   refine ⟨k0, fun c hc o ho => ⟨fun _ => True, ⟨⟨by decide, by decide, by decide⟩, fun _ _ _ => trivial, fun _ => trivial⟩, fun x _ => ⟨⟨by decide, .inl ⟨by decide, by decide⟩⟩, fun l r hr => hφ l r ?_⟩⟩⟩
   have m := Int.emod_nonneg c (show (2147483629 : Int) ≠ 0 by decide)
   have m2 := Int.emod_lt_of_pos c (show (0 : Int) < 2147483629 by decide)
   exact ⟨x, 0, c % 2147483629 + 40692 * k, hr, by omega, by omega⟩
abbrev s_draw : Stmt := topS 13
theorem sc_draw : FnScope ["_law_flow_here", "_law_many", "_law_digit", "_law_number"] ["_law_flow_here", "_law_many"] (defScope s_draw) := ⟨rfl, rfl, rfl, by decide +kernel, rfl, by decide +kernel, by decide +kernel⟩
def c_draw (K : PySem.W.Frag) := Con.o1 (K := K) tI (fun x : Int => [.val tI x]) tI pre_draw post_draw
theorem ok_draw (bs : Bs mg) {f : Addr} {fd : FuncData} (F : Fun K "_law_draw" "_law_draw" s_draw f fd) : FnOk P w K mg base (L2.CX P w) 1 f fd ["_law_flow_here", "_law_many"] (c_draw K).sp := by
  refine fn_con (c_draw K) F sc_draw (fun _ => rfl) ?_
  intro cdv Ar outer s H E F0 a φ ε hr hp
  have hu := hu_of hr
  have sc := sc_draw
  refine' SK.vc ?hh ?vc
  case hh =>
   refine' sk_seq (sk_if1 (pt_cmp' op_gt r2_B0 (pk_ixR (T := tI) (PV.lk (PK.own 0 (pk_var (i := 0) rfl) rfl)) pk_int) pk_int) ?a56 ?b57)
   case a56 =>
    refine' sk_set (i := 2) (by exact sc.nd) (pk_op op_mod r2_I (pk_ixR (T := tI) (PV.lk (PK.own 0 (pk_var (i := 0) rfl) rfl)) pk_int) (pk_var (i := 1) rfl)) ?k58
    case k58 =>
     intro digit_1
     refine' sk_st (ρ2 := [.val tR a.1, .val tI a.2.2, .val tI digit_1, .un]) (cs2 := [⟨a.1, cL tI a.2.1⟩]) rfl rfl ?k59
     case k59 =>
      refine' sk_setIx 0 (PK.ek (pk_op op_fdiv r2_I (pk_ixR (T := tI) (PV.lk (PK.own 0 (pk_var (i := 0) rfl) rfl)) pk_int) (pk_var (i := 1) rfl))) (fun _ => (pk_var (i := 0) rfl)) (fun _ => pk_int) (fun _ => rfl) ?k60
      case k60 =>
       intro y_2 w_3
       refine' sk_st (ρ2 := [.val tR a.1, .val tI a.2.2, .val tI digit_1, .un]) (cs2 := [⟨a.1, cL tI w_3⟩]) rfl rfl ?k61
       case k61 =>
        exact sk_retO (pk_var (i := 2) rfl) rfl
   case b57 =>
    refine' sk_nilX rfl ?k62
    case k62 =>
     refine' sk_setIx 0 (PK.ek (pk_op op_add r2_I0 (pk_ixR (T := tI) (PV.lk (PK.own 0 (pk_var (i := 0) rfl) rfl)) pk_int) pk_int)) (fun _ => (pk_var (i := 0) rfl)) (fun _ => pk_int) (fun _ => rfl) ?k63
     case k63 =>
      intro y_4 w_5
      refine' sk_st (ρ2 := [.val tR a.1, .val tI a.2.2, .un, .un]) (cs2 := [⟨a.1, cL tI w_5⟩]) rfl rfl ?k64
      case k64 =>
       refine' sk_set (i := 3) (by exact sc.nd) (pk_op op_mod r2_I (pk_op op_add r2_I0 (pk_op op_add r2_I0 (pk_op op_mul r2_I (pk_ixR (T := tI) (PV.lk (PK.own 0 (pk_var (i := 0) rfl) rfl)) pk_int) (pk_op op_add r2_I0 pk_int (pk_op op_mul r2_I pk_int (pk_ixR (T := tI) (PV.lk (PK.own 0 (pk_var (i := 0) rfl) rfl)) pk_int)))) (pk_op op_mul r2_I pk_int (pk_ixR (T := tI) (PV.lk (PK.own 0 (pk_var (i := 0) rfl) rfl)) pk_int))) pk_int) pk_int) ?k65
       case k65 =>
        intro number_6
        refine' sk_st (ρ2 := [.val tR a.1, .val tI a.2.2, .un, .val tI number_6]) (cs2 := [⟨a.1, cL tI w_5⟩]) rfl rfl ?k66
        case k66 =>
         refine' sk_set (i := 3) (by exact sc.nd) (pk_op op_mod r2_I (pk_op op_mul r2_I (pk_var (i := 3) rfl) (pk_var (i := 3) rfl)) pk_int) ?k67
         case k67 =>
          intro number_7
          refine' sk_st (ρ2 := [.val tR a.1, .val tI a.2.2, .un, .val tI number_7]) (cs2 := [⟨a.1, cL tI w_5⟩]) rfl rfl ?k68
          case k68 =>
           exact sk_retO (pk_op op_mod r2_I (pk_op op_fdiv r2_I (pk_op op_mod r2_I (pk_op op_mul r2_I (pk_op op_add r2_I0 (pk_var (i := 3) rfl) pk_int) (pk_op op_add r2_I0 (pk_var (i := 3) rfl) pk_int)) pk_int) pk_int) (pk_var (i := 1) rfl)) rfl
  case vc =>
   intro h
   simp only [true_and, and_true, yes1, yes2]
   obtain ⟨l, fl, n⟩ := a
   obtain ⟨⟨⟨x, b, c, hf, c0, c1⟩, n0, n1⟩, hφ⟩ := h
   simp only at hf n0 n1 hφ ⊢
   subst hf
   have i0 : pyIx [x, b, c] 0 = x := rfl
   have o0 : IxOk [x, b, c] 0 := ⟨by simp, by simp⟩
   have o1 : IxOk [x, b, c] 1 := ⟨by simp, by simp⟩
   have w0 : IxW [x, b, c] 0 := ⟨by simp, by simp⟩
   have w1 : IxW [x, b, c] 1 := ⟨by simp, by simp⟩
   rw [i0]
   refine ⟨o0, fun hx => ⟨⟨o0, n0⟩, fun z hz => ⟨⟨o0, ?_⟩, w0, fun z1 hz1 => hφ _ _ ⟨?_, ?_, ?_⟩⟩⟩, fun hx => ⟨o1, w1, fun z hz => ?_⟩⟩
   · exact ⟨n0, by omega⟩
   · rw [hz]; exact Int.emod_nonneg _ (by omega)
   · rw [hz]; exact Int.emod_lt_of_pos _ n0
   · exact ⟨x / n, b, c, by rw [hz1]; rfl, c0, c1⟩
   · have hz' : z = [x, b + 1, c] := by rw [hz]; rfl
     clear hz
     subst hz'
     have j1 : pyIx [x, b + 1, c] 1 = b + 1 := rfl
     have j2 : pyIx [x, b + 1, c] 2 = c := rfl
     have p1 : IxOk [x, b + 1, c] 1 := ⟨by simp, by simp⟩
     have p2 : IxOk [x, b + 1, c] 2 := ⟨by simp, by simp⟩
     rw [j1, j2]
     refine ⟨⟨⟨⟨p2, ⟨p1, .inl ⟨by decide, by decide⟩⟩, .inl ⟨by omega, by omega⟩⟩, p1, .inl ⟨by decide, by decide⟩⟩, by decide⟩, fun z1 hz1 => ?_⟩
     have m1 : 0 ≤ z1 ∧ z1 < 2147483629 := by rw [hz1]; exact ⟨Int.emod_nonneg _ (by decide), Int.emod_lt_of_pos _ (by decide)⟩
     clear hz1
     refine ⟨⟨.inl ⟨by omega, by omega⟩, by decide⟩, fun z2 hz2 => ?_⟩
     have m2 : 0 ≤ z2 ∧ z2 < 2147483587 := by rw [hz2]; exact ⟨Int.emod_nonneg _ (by decide), Int.emod_lt_of_pos _ (by decide)⟩
     clear hz2
     refine ⟨⟨⟨⟨.inl ⟨by omega, by omega⟩, by decide⟩, ⟨by decide, by decide⟩⟩, n0⟩, hφ _ _ ⟨Int.emod_nonneg _ (by omega), Int.emod_lt_of_pos _ n0, x, b + 1, c, rfl, c0, c1⟩⟩
abbrev s_names : Stmt := topS 14
theorem sc_names : FnScope ["_law_flow_here", "_law_many", "_law_some", "_law_found", "_law_k", "_law_name", "_law_word", "_law_at", "_law_first", "_law_long", "_law_j", "_law_one"] ["_law_flow_here", "_law_many"] (defScope s_names) := ⟨rfl, rfl, rfl, by decide +kernel, rfl, by decide +kernel, by decide +kernel⟩
def c_names (K : PySem.W.Frag) := Con.o1 (K := K) tI (fun x : Int => [.val tI x]) (tL tS) pre_names post_names
theorem ok_names (bs : Bs mg) {f_draw : Addr} {fd_draw : FuncData} (g_draw : Cal P w K mg base "_law_draw" 1 ["_law_flow_here", "_law_many"] (c_draw K).sp f_draw fd_draw) {f : Addr} {fd : FuncData} (F : Fun K "_law_names" "_law_names" s_names f fd) : FnOk P w K mg base (L2.CX P w) 2 f fd ["_law_flow_here", "_law_many"] (c_names K).sp := by
  refine fn_con (c_names K) F sc_names (fun _ => rfl) ?_
  intro cdv Ar outer s H E F0 a φ ε hr hp
  have hu := hu_of hr
  have sc := sc_names
  refine' SK.vc ?hh ?vc
  case hh =>
   refine' sk_set (i := 2) (by exact sc.nd) pk_str ?k142
   case k142 =>
    intro some_1
    refine' sk_st (ρ2 := [.val tR a.1, .val tI a.2.2, .val tS some_1, .un, .un, .un, .un, .un, .un, .un, .un, .un]) (cs2 := [⟨a.1, cL tI a.2.1⟩]) rfl rfl ?k143
    case k143 =>
     refine' sk_seq (sk_if1E (tk_cmp op_eq r2_eqI (ek_o1 0 g_draw.F sl1 hr g_draw.m g_draw.k g_draw.b (pk_var (i := 0) rfl) (PAK.ak (pa_1 pk_int)) (fun _ => rfl)) (fun _ => (PK.ek pk_int))) ?a144 ?b145)
     case a144 =>
      intro y_2
      refine' sk_name 0 rfl ?k146
      case k146 =>
       intro w_4
       refine' sk_st (ρ2 := [.val tR a.1, .val tI a.2.2, .val tS some_1, .un, .un, .un, .un, .un, .un, .un, .un, .un]) (cs2 := [⟨a.1, cL tI w_4⟩]) rfl rfl ?k147
       case k147 =>
        refine' sk_setN (i := 3) (T := tS) (by exact sc.nd) (NK.ne (nk_lst (T := tS) (pl_0 (T := tS)) (Nat.zero_le _))) ?k148
        case k148 =>
         intro y_5 a_6 found_7
         refine' sk_st (ρ2 := [.val tR a.1, .val tI a.2.2, .val tS some_1, .val tR a_6, .un, .un, .un, .un, .un, .un, .un, .un]) (cs2 := [⟨a.1, cL tI w_4⟩, ⟨a_6, cL tS found_7⟩]) rfl rfl ?k149
         case k149 =>
          refine' sk_for (fun z_8 : (List Int × List Str) => [.val tR a.1, .val tI a.2.2, .val tS some_1, .val tR a_6, .un, .un, .un, .un, .un, .un, .un, .un]) (fun z_8 : (List Int × List Str) => [⟨a.1, cL tI z_8.1⟩, ⟨a_6, cL tS z_8.2⟩]) (_, _) hp rfl (ik_range1 bs.m_range (pk_var (i := 1) rfl)) (gk_name (i := 4) (by exact sc.nd)) (.same (.same (.same (.same (.same (.same (.same (.same (.same (.same (.same (.same .nil)))))))))))) rfl ?b150 ?k151
          case b150 =>
           intro fl_12 hs_11 N_10 z_8 x_9
           refine' sk_st (ρ2 := [.val tR a.1, .val tI a.2.2, .val tS some_1, .val tR a_6, .val tI x_9, .un, .un, .un, .un, .un, .un, .un]) (cs2 := [⟨a.1, cL tI z_8.1⟩, ⟨a_6, cL tS z_8.2⟩]) rfl rfl ?k152
           case k152 =>
            refine' sk_setE (i := 5) (by exact sc.nd) (ek_join pk_str (EV.q (NE.l (ne_lc rfl (by exact sc.nd) ?lc2 ?lc1 ?lc3)))) ?k156
            case lc2 =>
             exact blkOk_by (own := [("_law_j", 10)]) (N := ["_law_flow_here", "_law_many", "_law_some", "_law_found", "_law_k", "_law_name", "_law_word", "_law_at", "_law_first", "_law_long", "_law_j", "_law_one"]) (sc := defScope s_names) (by decide +kernel)
            case lc1 =>
             exact lc_k (own := [("_law_j", 10)]) (T := tI) (U := tS) (G := fun ρ x => (List.set ρ 10 (.val tI x))) (vs := [10]) (cs' := (fun c_13 : List Int => [⟨a.1, cL tI c_13⟩, ⟨a_6, cL tS z_8.2⟩])) (z0 := fun y => _) (ie_range1 bs.m_range (ek_op op_add r2_I0 (PK.ek pk_int) (fun _ => (ek_o1 0 g_draw.F sl1 hr g_draw.m g_draw.k g_draw.b (pk_var (i := 0) rfl) (PAK.ak (pa_1 pk_int)) (fun _ => rfl))))) (fun _ => rfl) (by decide) (fun _ _ _ _ _ => (gk_name (i := 10) (by exact sc.nd))) (fun _ _ _ _ _ _ _ => ts_0) (fun _ _ _ _ _ _ _ _ => (ek_ixS (PK.ek (pk_var (i := 2) rfl)) (fun _ => (ek_o1 0 g_draw.F sl1 hr g_draw.m g_draw.k g_draw.b (pk_var (i := 0) rfl) (PAK.ak (pa_1 pk_int)) (fun _ => rfl)))))
            case lc3 =>
             exact fun _ => rfl
            case k156 =>
             intro y_16 name_15
             refine' sk_name 0 rfl ?k157
             case k157 =>
              intro w_17
              refine' sk_st (ρ2 := [.val tR a.1, .val tI a.2.2, .val tS some_1, .val tR a_6, .val tI x_9, .val tS name_15, .un, .un, .un, .un, .un, .un]) (cs2 := [⟨a.1, cL tI w_17⟩, ⟨a_6, cL tS z_8.2⟩]) rfl rfl ?k158
              case k158 =>
               refine' sk_st (ρ2 := [.val tR a.1, .val tI a.2.2, .val tS some_1, .val tR a_6, .val tI x_9, .val tS name_15, .un, .un, .un, .un, .un, .un]) (cs2 := [⟨a.1, cL tI w_17⟩, ⟨a_6, cL tS z_8.2⟩]) rfl rfl ?k159
               case k159 =>
                refine' sk_join (fun z_18 : Str => [.val tR a.1, .val tI a.2.2, .val tS some_1, .val tR a_6, .val tI x_9, .val tS z_18, .un, .un, .un, .un, .un, .un]) (fun z_18 : Str => [⟨a.1, cL tI w_17⟩, ⟨a_6, cL tS z_8.2⟩]) ?h160 ?k161
                case h160 =>
                 intro R_19
                 refine' sk_if1 (pt_in fS (pk_var (i := 5) rfl) (PV.q (PK.own 1 (pk_var (i := 3) rfl) rfl))) ?a162 ?b163
                 case a162 =>
                  refine' sk_setE (i := 5) (by exact sc.nd) (ek_ixR (T := tS) (EV.lk (NE.l (ne_lc rfl (by exact sc.nd) ?lc14 ?lc13 ?lc15))) (fun _ => pk_int)) ?k167
                  case lc14 =>
                   exact blkOk_by (own := [("_law_one", 11)]) (N := ["_law_flow_here", "_law_many", "_law_some", "_law_found", "_law_k", "_law_name", "_law_word", "_law_at", "_law_first", "_law_long", "_law_j", "_law_one"]) (sc := defScope s_names) (by decide +kernel)
                  case lc13 =>
                   exact lc_k (own := [("_law_one", 11)]) (T := tS) (U := tS) (G := fun ρ x => (List.set ρ 11 (.val tS x))) (vs := [11]) (cs' := (fun _ : Unit => [⟨a.1, cL tI w_17⟩, ⟨a_6, cL tS z_8.2⟩])) (z0 := fun y => ()) (s1 := fun _ _ _ => ()) (s2 := fun _ _ _ _ => ()) (IK.ie (ik_str (pk_var (i := 2) rfl))) (fun _ => rfl) (by decide) (fun _ _ _ _ _ => (gk_name (i := 11) (by exact sc.nd))) (fun _ _ _ _ _ _ _ => (ts_1 (PTK.tk (pt_nin fS (pk_var (i := 11) rfl) (PV.q (PK.own 1 (pk_var (i := 3) rfl) rfl)))))) (fun _ _ _ _ _ _ _ _ => (PK.ek (pk_var (i := 11) rfl)))
                  case lc15 =>
                   exact fun _ => rfl
                  case k167 =>
                   intro y_25 name_24
                   refine' sk_st (ρ2 := [.val tR a.1, .val tI a.2.2, .val tS some_1, .val tR a_6, .val tI x_9, .val tS name_24, .un, .un, .un, .un, .un, .un]) (cs2 := [⟨a.1, cL tI w_17⟩, ⟨a_6, cL tS z_8.2⟩]) rfl rfl ?k168
                   case k168 =>
                    exact sk_midX (z := _) rfl (.same (.same (.same (.same (.same (.same (.same (.same (.same (.same (.same (.same .nil)))))))))))) rfl
                 case b163 =>
                  exact sk_midX (z := _) rfl (.same (.same (.same (.same (.same (.same (.same (.same (.same (.same (.same (.same .nil)))))))))))) rfl
                case k161 =>
                 intro z_18
                 refine' sk_expr (ek_mL PySem.F.slot_list_append PySem.F.type_list_append mt_append ml_append 1 (pk_var (i := 3) rfl) (ak_1 (PK.ek (pk_var (i := 5) rfl))) (fun _ => rfl) ⟨_, rfl⟩) ?k169
                 case k169 =>
                  intro y_26
                  refine' sk_name 1 rfl ?k170
                  case k170 =>
                   intro w_27
                   refine' sk_st (ρ2 := [.val tR a.1, .val tI a.2.2, .val tS some_1, .val tR a_6, .val tI x_9, .val tS z_18, .un, .un, .un, .un, .un, .un]) (cs2 := [⟨a.1, cL tI w_17⟩, ⟨a_6, cL tS w_27⟩]) rfl rfl ?k171
                   case k171 =>
                    exact sk_midX (z := (_, _)) rfl (.same (.same (.same (.same (.un (.un (.same (.same (.same (.same (.same (.same .nil)))))))))))) rfl
          case k151 =>
           intro z_8
           refine' sk_freeze 1 3 rfl rfl rfl (Nat.le_of_ble_eq_true rfl) ?k172
           case k172 =>
            refine' sk_st (ρ2 := [.val tR a.1, .val tI a.2.2, .val tS some_1, .val (tL tS) z_8.2, .un, .un, .un, .un, .un, .un, .un, .un]) (cs2 := [⟨a.1, cL tI z_8.1⟩]) rfl rfl ?k173
            case k173 =>
             exact sk_retO (pk_var (i := 3) rfl) rfl
     case b145 =>
      intro y_3
      refine' sk_name 0 rfl ?k174
      case k174 =>
       intro w_28
       refine' sk_st (ρ2 := [.val tR a.1, .val tI a.2.2, .val tS some_1, .un, .un, .un, .un, .un, .un, .un, .un, .un]) (cs2 := [⟨a.1, cL tI w_28⟩]) rfl rfl ?k175
       case k175 =>
        refine' sk_nilX rfl ?k176
        case k176 =>
         refine' sk_setE (i := 6) (by exact sc.nd) (ek_join pk_str (EV.q (NE.l (ne_lc rfl (by exact sc.nd) ?lc17 ?lc16 ?lc18)))) ?k180
         case lc17 =>
          exact blkOk_by (own := [("_law_j", 10)]) (N := ["_law_flow_here", "_law_many", "_law_some", "_law_found", "_law_k", "_law_name", "_law_word", "_law_at", "_law_first", "_law_long", "_law_j", "_law_one"]) (sc := defScope s_names) (by decide +kernel)
         case lc16 =>
          exact lc_k (own := [("_law_j", 10)]) (T := tI) (U := tS) (G := fun ρ x => (List.set ρ 10 (.val tI x))) (vs := [10]) (cs' := (fun c_29 : List Int => [⟨a.1, cL tI c_29⟩])) (z0 := fun y => _) (ie_range1 bs.m_range (ek_o1 0 g_draw.F sl1 hr g_draw.m g_draw.k g_draw.b (pk_var (i := 0) rfl) (PAK.ak (pa_1 pk_int)) (fun _ => rfl))) (fun _ => rfl) (by decide) (fun _ _ _ _ _ => (gk_name (i := 10) (by exact sc.nd))) (fun _ _ _ _ _ _ _ => ts_0) (fun _ _ _ _ _ _ _ _ => (ek_ixS (PK.ek (pk_var (i := 2) rfl)) (fun _ => (ek_o1 0 g_draw.F sl1 hr g_draw.m g_draw.k g_draw.b (pk_var (i := 0) rfl) (PAK.ak (pa_1 pk_int)) (fun _ => rfl)))))
         case lc18 =>
          exact fun _ => rfl
         case k180 =>
          intro y_32 word_31
          refine' sk_name 0 rfl ?k181
          case k181 =>
           intro w_33
           refine' sk_st (ρ2 := [.val tR a.1, .val tI a.2.2, .val tS some_1, .un, .un, .un, .val tS word_31, .un, .un, .un, .un, .un]) (cs2 := [⟨a.1, cL tI w_33⟩]) rfl rfl ?k182
           case k182 =>
            refine' sk_st (ρ2 := [.val tR a.1, .val tI a.2.2, .val tS some_1, .un, .un, .un, .val tS word_31, .un, .un, .un, .un, .un]) (cs2 := [⟨a.1, cL tI w_33⟩]) rfl rfl ?k183
            case k183 =>
             refine' sk_setE (i := 7) (by exact sc.nd) (ek_o1 0 g_draw.F sl1 hr g_draw.m g_draw.k g_draw.b (pk_var (i := 0) rfl) (PAK.ak (pa_1 (pk_op op_add r2_I0 (PV.k (pv_cb call_len_str bs.m_len bs.b_len u_lenS (PK.v (pk_var (i := 6) rfl)))) pk_int))) (fun _ => rfl)) ?k184
             case k184 =>
              intro y_35 at_34
              refine' sk_name 0 rfl ?k185
              case k185 =>
               intro w_36
               refine' sk_st (ρ2 := [.val tR a.1, .val tI a.2.2, .val tS some_1, .un, .un, .un, .val tS word_31, .val tI at_34, .un, .un, .un, .un]) (cs2 := [⟨a.1, cL tI w_36⟩]) rfl rfl ?k186
               case k186 =>
                refine' sk_st (ρ2 := [.val tR a.1, .val tI a.2.2, .val tS some_1, .un, .un, .un, .val tS word_31, .val tI at_34, .un, .un, .un, .un]) (cs2 := [⟨a.1, cL tI w_36⟩]) rfl rfl ?k187
                case k187 =>
                 refine' sk_setE (i := 8) (by exact sc.nd) (ek_o1 0 g_draw.F sl1 hr g_draw.m g_draw.k g_draw.b (pk_var (i := 0) rfl) (PAK.ak (pa_1 pk_int)) (fun _ => rfl)) ?k188
                 case k188 =>
                  intro y_38 first_37
                  refine' sk_name 0 rfl ?k189
                  case k189 =>
                   intro w_39
                   refine' sk_st (ρ2 := [.val tR a.1, .val tI a.2.2, .val tS some_1, .un, .un, .un, .val tS word_31, .val tI at_34, .val tI first_37, .un, .un, .un]) (cs2 := [⟨a.1, cL tI w_39⟩]) rfl rfl ?k190
                   case k190 =>
                    refine' sk_st (ρ2 := [.val tR a.1, .val tI a.2.2, .val tS some_1, .un, .un, .un, .val tS word_31, .val tI at_34, .val tI first_37, .un, .un, .un]) (cs2 := [⟨a.1, cL tI w_39⟩]) rfl rfl ?k191
                    case k191 =>
                     refine' sk_setN (i := 3) (T := tS) (by exact sc.nd) (ne_lc rfl (by exact sc.nd) ?lc20 ?lc19 ?lc21) ?k195
                     case lc20 =>
                      exact blkOk_by (own := [("_law_k", 4)]) (N := ["_law_flow_here", "_law_many", "_law_some", "_law_found", "_law_k", "_law_name", "_law_word", "_law_at", "_law_first", "_law_long", "_law_j", "_law_one"]) (sc := defScope s_names) (by decide +kernel)
                     case lc19 =>
                      exact lc_k (own := [("_law_k", 4)]) (T := tI) (U := tS) (G := fun ρ x => (List.set ρ 4 (.val tI x))) (vs := [4]) (cs' := (fun _ : Unit => [⟨a.1, cL tI w_39⟩])) (z0 := fun y => ()) (s1 := fun _ _ _ => ()) (s2 := fun _ _ _ _ => ()) (IK.ie (ik_range1 bs.m_range (pk_var (i := 1) rfl))) (fun _ => rfl) (by decide) (fun _ _ _ _ _ => (gk_name (i := 4) (by exact sc.nd))) (fun _ _ _ _ _ _ _ => ts_0) (fun _ _ _ _ _ _ _ _ => (PK.ek (pk_op op_add_str r2_addS (pk_op op_add_str r2_addS (pk_slS (pk_var (i := 6) rfl) po_0 (po_1 (pk_var (i := 7) rfl))) (pk_ixS (pk_var (i := 2) rfl) (pk_op op_mod r2_I (pk_op op_add r2_I0 (pk_var (i := 8) rfl) (pk_op op_mul r2_I pk_int (pk_var (i := 4) rfl))) pk_int))) (pk_slS (pk_var (i := 6) rfl) (po_1 (pk_var (i := 7) rfl)) po_0))))
                     case lc21 =>
                      exact fun _ => rfl
                     case k195 =>
                      intro y_42 a_43 found_44
                      refine' sk_st (ρ2 := [.val tR a.1, .val tI a.2.2, .val tS some_1, .val tR a_43, .un, .un, .val tS word_31, .val tI at_34, .val tI first_37, .un, .un, .un]) (cs2 := [⟨a.1, cL tI w_39⟩, ⟨a_43, cL tS found_44⟩]) rfl rfl ?k196
                      case k196 =>
                       refine' sk_join (fun z_45 : (List Int × List Str) => [.val tR a.1, .val tI a.2.2, .val tS some_1, .val tR a_43, .un, .un, .val tS word_31, .val tI at_34, .val tI first_37, .un, .un, .un]) (fun z_45 : (List Int × List Str) => [⟨a.1, cL tI z_45.1⟩, ⟨a_43, cL tS z_45.2⟩]) ?h197 ?k198
                       case h197 =>
                        intro R_46
                        refine' sk_if1E (tk_cmp op_eq r2_eqI (ek_o1 0 g_draw.F sl1 hr g_draw.m g_draw.k g_draw.b (pk_var (i := 0) rfl) (PAK.ak (pa_1 pk_int)) (fun _ => rfl)) (fun _ => (PK.ek pk_int))) ?a199 ?b200
                        case a199 =>
                         intro y_47
                         refine' sk_name 0 rfl ?k201
                         case k201 =>
                          intro w_49
                          refine' sk_st (ρ2 := [.val tR a.1, .val tI a.2.2, .val tS some_1, .val tR a_43, .un, .un, .val tS word_31, .val tI at_34, .val tI first_37, .un, .un, .un]) (cs2 := [⟨a.1, cL tI w_49⟩, ⟨a_43, cL tS found_44⟩]) rfl rfl ?k202
                          case k202 =>
                           refine' sk_set (i := 9) (by exact sc.nd) (pk_op op_add_str r2_addS (pk_var (i := 6) rfl) (pk_slS pk_str (po_1 (PV.k (pv_cb call_len_str bs.m_len bs.b_len u_lenS (PK.v (pk_var (i := 6) rfl))))) po_0)) ?k203
                           case k203 =>
                            intro long_50
                            refine' sk_st (ρ2 := [.val tR a.1, .val tI a.2.2, .val tS some_1, .val tR a_43, .un, .un, .val tS word_31, .val tI at_34, .val tI first_37, .val tS long_50, .un, .un]) (cs2 := [⟨a.1, cL tI w_49⟩, ⟨a_43, cL tS found_44⟩]) rfl rfl ?k204
                            case k204 =>
                             refine' sk_seq (sk_if1 (pt_nin fS (pk_var (i := 9) rfl) (PV.q (PK.own 1 (pk_var (i := 3) rfl) rfl))) ?a205 ?b206)
                             case a205 =>
                              refine' sk_setIx 1 (PK.ek (pk_var (i := 9) rfl)) (fun _ => (pk_var (i := 3) rfl)) (fun _ => pk_int) (fun _ => rfl) ?k207
                              case k207 =>
                               intro y_51 w_52
                               refine' sk_st (ρ2 := [.val tR a.1, .val tI a.2.2, .val tS some_1, .val tR a_43, .un, .un, .val tS word_31, .val tI at_34, .val tI first_37, .val tS long_50, .un, .un]) (cs2 := [⟨a.1, cL tI w_49⟩, ⟨a_43, cL tS w_52⟩]) rfl rfl ?k208
                               case k208 =>
                                refine' sk_nilX rfl ?k209
                                case k209 =>
                                 exact sk_midX (z := (_, _)) rfl (.same (.same (.same (.same (.same (.same (.same (.same (.same (.un (.same (.same .nil)))))))))))) rfl
                             case b206 =>
                              refine' sk_nilX rfl ?k210
                              case k210 =>
                               exact sk_midX (z := (_, _)) rfl (.same (.same (.same (.same (.same (.same (.same (.same (.same (.un (.same (.same .nil)))))))))))) rfl
                        case b200 =>
                         intro y_48
                         refine' sk_name 0 rfl ?k211
                         case k211 =>
                          intro w_53
                          refine' sk_st (ρ2 := [.val tR a.1, .val tI a.2.2, .val tS some_1, .val tR a_43, .un, .un, .val tS word_31, .val tI at_34, .val tI first_37, .un, .un, .un]) (cs2 := [⟨a.1, cL tI w_53⟩, ⟨a_43, cL tS found_44⟩]) rfl rfl ?k212
                          case k212 =>
                           exact sk_midX (z := (_, _)) rfl (.same (.same (.same (.same (.same (.same (.same (.same (.same (.same (.same (.same .nil)))))))))))) rfl
                       case k198 =>
                        intro z_45
                        refine' sk_freeze 1 3 rfl rfl rfl (Nat.le_of_ble_eq_true rfl) ?k213
                        case k213 =>
                         refine' sk_st (ρ2 := [.val tR a.1, .val tI a.2.2, .val tS some_1, .val (tL tS) z_45.2, .un, .un, .val tS word_31, .val tI at_34, .val tI first_37, .un, .un, .un]) (cs2 := [⟨a.1, cL tI z_45.1⟩]) rfl rfl ?k214
                         case k214 =>
                          exact sk_retO (pk_var (i := 3) rfl) rfl
  case vc =>
   intro h
   simp only [true_and, and_true, yes1, yes2]
   obtain ⟨l, fl, n⟩ := a
   obtain ⟨⟨hf, n0, n1⟩, hφ⟩ := h
   have hf : Fl fl := hf
   have n0 : 1 ≤ n := n0
   have n1 : n ≤ 8 := n1
   try dsimp only at hφ
   try dsimp only
   intro z hz
   have hz : z = abc := hz
   rw [hz]
   have al : abc.length ≤ sizeLine := by rw [abc_len, sizeLine_eq]; decide
   -- the letters of a word
   have word : ∀ (m : Int) (fl0 : List Int), 0 ≤ m → m ≤ 100 → Fl fl0 → ∀ Φ : List Str → List Int → Prop, (∀ acc w, Fl w → (acc.length : Int) = m → (∀ s ∈ acc, s.length = 1 ∧ Low s) → Φ acc w) →
     ∃ I : Nat → List Str → List Int → Prop, I 0 [] fl0 ∧ (∀ (i : Nat) (acc : List Str) (z_3 : List Int) (x : Int), (rng 0 m)[i]? = some x → I i acc z_3 →
       (True → pre_draw z_3 26 ∧ ∀ (r : Int) (w : List Int), post_draw z_3 26 r w → abc.length ≤ sizeLine ∧ IxOk (MD.signs abc) r ∧ I (i + 1) (acc ++ [pyIx (MD.signs abc) r]) w) ∧ (true = false → I (i + 1) acc z_3)) ∧
       ∀ (acc : List Str) (z_3 : List Int), I (rng 0 m).length acc z_3 → Φ acc z_3 := fun m fl0 m0 m1 hf0 Φ k => by
     refine ⟨fun i acc w => Fl w ∧ acc.length = i ∧ ∀ s ∈ acc, s.length = 1 ∧ Low s, ⟨hf0, rfl, fun s hs => (by cases hs)⟩, fun i acc w x hx ⟨i1, i2, i3⟩ => ⟨fun _ => ⟨⟨i1, by decide, by decide⟩, fun r w2 ⟨r0, r1, hw⟩ => ⟨al, ixok_abc r0 r1, hw, by rw [List.length_append, i2]; rfl, fun s hs => ?_⟩⟩, fun e => (by cases e)⟩, fun acc w ⟨i1, i2, i3⟩ => k acc w i1 (by rw [rng_length] at i2; omega) i3⟩
     rcases List.mem_append.mp hs with h | h
     · exact i3 s h
     · rw [List.mem_singleton.mp h, pyIx_abc r0 r1]
       exact ⟨len_sgn _, low_sgn (by omega)⟩
   refine ⟨⟨hf, by decide, by decide⟩, fun r w ⟨r0, r1, f1⟩ => ⟨fun _ w1 e1 _ found ef => ?_, fun _ w1 e1 => ?_⟩⟩
   · rw [e1, ef]
     refine ⟨⟨by omega, by omega⟩, fun i z => Fl z.1 ∧ z.2.length = i ∧ z.2.Nodup ∧ ∀ s ∈ z.2, Word s, ⟨f1, rfl, List.nodup_nil, fun s hs => (by cases hs)⟩, fun i z x hx ⟨i1, i2, i3, i4⟩ => ?_, fun z ⟨i1, i2, i3, i4⟩ => ?_⟩
     · obtain ⟨_, hi⟩ := rng_get hx
       refine ⟨⟨i1, by decide, by decide⟩, fun q w2 ⟨q0, q1, f2⟩ => ⟨by omega, by omega, ?_⟩⟩
       refine word (1 + q) w2 (by omega) (by omega) f2 _ fun acc w3 f3 hl hs => ?_
       obtain ⟨j1, j2⟩ := join_nil_len hs
       have hw : Word (Str.join "" acc) := ⟨by rw [j1]; omega, by rw [j1]; omega, j2⟩
       refine ⟨by rw [sum_len hs]; show acc.length + acc.length * 0 ≤ _; omega, fun nm en w4 e4 => ?_⟩
       rw [e4]
       have hwn : Word nm := by rw [en]; exact hw
       refine ⟨fun y => Word y ∧ y ∉ z.2, ⟨fun e => ⟨al, ?_⟩, fun e => ⟨hwn, of_decide_eq_false e⟩⟩, fun y ⟨y1, y2⟩ => ⟨by rw [sizeLine_eq]; omega, fun z5 e5 w5 f5 => ?_⟩⟩
       · refine ⟨fun j acc _ => acc = ((MD.signs abc).take j).filter fun d => !decide (d ∈ z.2), rfl, fun j acc _ d hd hI => ⟨fun e => ?_, fun e => ?_⟩, fun acc _ hI => ?_⟩
         · dsimp only at hI ⊢; rw [filt_yes hd e, hI]
         · dsimp only at hI ⊢; rw [filt_no hd e, hI]
         · dsimp only at hI
           rw [List.take_length] at hI
           obtain ⟨s, s1, s2⟩ := free_letter (found := z.2) (by omega)
           have hp : 0 < acc.length := List.length_pos_of_mem (a := s) (by rw [hI]; exact List.mem_filter.mpr ⟨s1, by simpa using s2⟩)
           refine ⟨⟨by omega, by omega⟩, fun y ey => ?_⟩
           have hm : y ∈ acc := by rw [ey]; exact pyIx_mem (by omega) (by omega)
           rw [hI] at hm
           obtain ⟨m1, m2⟩ := List.mem_filter.mp hm
           refine ⟨?_, by simpa using m2⟩
           rw [signs_abc] at m1
           obtain ⟨c, hc, rfl⟩ := List.mem_map.mp m1
           exact sgn_word (List.mem_range.mp hc)
       · rw [f5, e5]
         refine ⟨f3, by rw [List.length_append, i2]; rfl, List.nodup_append.mpr ⟨i3, by simp, fun u hu v hv e => ?_⟩, fun s hs => ?_⟩
         · rw [List.mem_singleton.mp hv] at e
           exact y2 (e ▸ hu)
         · rcases List.mem_append.mp hs with h | h
           · exact i4 s h
           · rw [List.mem_singleton.mp h]; exact y1
     · rw [rng_length] at i2
       exact hφ _ _ ⟨⟨by omega, i3, i4⟩, i1⟩
   · rw [e1]
     refine ⟨⟨f1, by decide, by decide⟩, fun q w2 ⟨q0, q1, f2⟩ => ⟨by omega, by omega, ?_⟩⟩
     refine word q w2 q0 (by omega) f2 _ fun acc w3 f3 hl hs => ?_
     obtain ⟨j1, j2⟩ := join_nil_len hs
     refine ⟨by rw [sum_len hs]; show acc.length + acc.length * 0 ≤ _; omega, fun wd ewd w4 e4 => ?_⟩
     rw [e4]
     have wl : wd.length ≤ 7 := by rw [ewd, j1]; omega
     have wlow : Low wd := by rw [ewd]; exact j2
     refine ⟨by rw [sizeLine_eq]; omega, ⟨f3, by omega, by omega⟩, fun at0 w5 ⟨a0, a1, f5⟩ at1 ea w6 e6 => ?_⟩
     rw [e6]
     refine ⟨⟨f5, by decide, by decide⟩, fun ft w7 ⟨t0, t1, f7⟩ ft1 ef w8 e8 => ?_⟩
     obtain ⟨na, rfl⟩ : ∃ na : Nat, at1 = (na : Int) := ⟨at1.toNat, by omega⟩
     have hna : na ≤ wd.length := by omega
     have t0' : 0 ≤ ft1 := by omega
     have mk : ∀ k : Int, 0 ≤ k → Word (cutS wd none (some (na : Int)) ++ pyIx (MD.signs abc) ((ft1 + 7 * k) % 26) ++ cutS wd (some (na : Int)) none) ∧ IxOk (MD.signs abc) ((ft1 + 7 * k) % 26) ∧ pyIx (MD.signs abc) ((ft1 + 7 * k) % 26) = sgn (97 + ((ft1 + 7 * k) % 26).toNat) := fun k k0 => by
       have m0 := Int.emod_nonneg (ft1 + 7 * k) (show (26 : Int) ≠ 0 by decide)
       have m1 := Int.emod_lt_of_pos (ft1 + 7 * k) (show (0 : Int) < 26 by decide)
       have e := pyIx_abc m0 m1
       refine ⟨?_, ixok_abc m0 m1, e⟩
       rw [e]
       refine ⟨?_, ?_, ins_low wlow (low_sgn (by omega)) hna⟩
       · rw [ins_len hna, len_sgn]; omega
       · rw [ins_len hna, len_sgn]; omega
     have cl : (cutS wd none (some (na : Int))).length ≤ 7 ∧ (cutS wd (some (na : Int)) none).length ≤ 7 := by
       have := str_len wd
       refine ⟨?_, ?_⟩
       · rw [str_len, cutS_to wd hna, List.length_take]; omega
       · rw [str_len, cutS_from wd hna, List.length_drop]; omega
     have wsz : wd.length ≤ sizeLine := by rw [sizeLine_eq]; omega
     refine ⟨⟨by omega, by omega⟩, fun i acc _ => acc.length = i ∧ acc.Nodup ∧ (∀ s ∈ acc, Word s) ∧ ∀ s ∈ acc, ∃ k : Nat, k < i ∧ s = cutS wd none (some (na : Int)) ++ pyIx (MD.signs abc) ((ft1 + 7 * (k : Int)) % 26) ++ cutS wd (some (na : Int)) none, ⟨rfl, List.nodup_nil, fun s hs => (by cases hs), fun s hs => (by cases hs)⟩, fun i acc _ x hx ⟨i1, i2, i3, i4⟩ => ⟨fun _ => ?_, fun e => (by cases e)⟩, fun acc _ ⟨i1, i2, i3, i4⟩ _ fd ef2 => ?_⟩
     · obtain ⟨ex, hi⟩ := rng_get hx
       have ex : x = (i : Int) := by omega
       subst ex
       obtain ⟨k1, k2, k3⟩ := mk (i : Int) (by omega)
       have l1 : (pyIx (MD.signs abc) ((ft1 + 7 * (i : Int)) % 26)).length = 1 := by rw [k3]; rfl
       refine ⟨⟨⟨wsz, ⟨⟨.inl ⟨by decide, by decide⟩, by decide⟩, al, k2⟩, by rw [sizeLine_eq]; omega⟩, wsz, by rw [app_len, sizeLine_eq]; omega⟩, by rw [List.length_append, i1]; rfl, List.nodup_append.mpr ⟨i2, by simp, fun u hu v hv e => ?_⟩, fun s hs => ?_, fun s hs => ?_⟩
       · rw [List.mem_singleton.mp hv] at e
         obtain ⟨k, hk, ek⟩ := i4 u hu
         rw [ek] at e
         have e2 := ins_inj hna e
         rw [(mk k (by omega)).2.2, k3] at e2
         have e3 := sgn_inj e2
         omega
       · rcases List.mem_append.mp hs with h | h
         · exact i3 s h
         · rw [List.mem_singleton.mp h]; exact k1
       · rcases List.mem_append.mp hs with h | h
         · obtain ⟨k, hk, ek⟩ := i4 s h
           exact ⟨k, by omega, ek⟩
         · exact ⟨i, by omega, List.mem_singleton.mp h⟩
     · rw [rng_length] at i1
       rw [ef2]
       obtain ⟨z1, z2⟩ := cutS_zs wl
       have zl : (Str.ofString "zzzzzzzz").length = 8 := by decide +kernel
       refine ⟨fun y => (y.2.length : Int) = n ∧ y.2.Nodup ∧ (∀ s ∈ y.2, Word s) ∧ Fl y.1, ⟨⟨by rw [e8]; exact f7, by decide, by decide⟩, fun q w ⟨_, _, g⟩ => ⟨fun _ w1 ew => ⟨⟨⟨wsz, by rw [zl, sizeLine_eq]; decide⟩, ?_⟩, fun lg elg => ⟨fun e => ⟨⟨by decide, by omega⟩, fun y ey => ?_⟩, fun _ => ?_⟩⟩, fun _ w1 ew => ?_⟩⟩, fun y ⟨y1, y2, y3, y4⟩ => hφ _ _ ⟨⟨y1, y2, y3⟩, y4⟩⟩
       · rw [sizeLine_eq]
         have : (cutS (Str.ofString "zzzzzzzz") (some (wd.length : Int)) none).length = 8 - wd.length := z1
         omega
       · rw [ew, ey]
         have nl : lg ∉ acc := by simpa using e
         refine ⟨by rw [List.length_set]; omega, nodup_set i2 nl, fun s hs => ?_, g⟩
         rcases List.mem_or_eq_of_mem_set hs with m | m
         · exact i3 s m
         · rw [m, elg]
           have z1' : (cutS (Str.ofString "zzzzzzzz") (some (wd.length : Int)) none).length = 8 - wd.length := z1
           refine ⟨by rw [app_len, z1']; omega, by rw [app_len, z1']; omega, low_app wlow z2⟩
       · rw [ew]
         exact ⟨by show (acc.length : Int) = n; omega, i2, i3, g⟩
       · rw [ew]
         exact ⟨by show (acc.length : Int) = n; omega, i2, i3, g⟩
abbrev s_Machine_init : Stmt := (inClass (topS 7) 0)
theorem sc_Machine_init : FnScope ["self", "letters", "table", "good", "told", "letter", "state", "steps", "goal"] ["self", "letters", "table", "good"] (defScope s_Machine_init) := ⟨rfl, rfl, rfl, by decide +kernel, rfl, by decide +kernel, by decide +kernel⟩
def c_Machine_init (K : PySem.W.Frag) (C_Machine : Addr) := Con.ini (K := K) C_Machine fd_Machine (fun x : ((List Str) × (List (List Int)) × (List Int)) => [.val (tL tS) x.1, .val (tL (tL tI)) x.2.1, .val (tL tI) x.2.2]) pre_Machine_init f_Machine_init (fun _ _ => False)
theorem ok_Machine_init (bs : Bs mg) {C_Machine : Addr} (cl_Machine : Cl_Machine K C_Machine) {f : Addr} {fd : FuncData} (F : Fun K "__init__" "Machine.__init__" s_Machine_init f fd) : FnOk P w K mg base (L2.CX P w) 2 f fd ["self", "letters", "table", "good"] (c_Machine_init K C_Machine).sp := by
  refine fn_con (c_Machine_init K C_Machine) F sc_Machine_init (fun _ => rfl) ?_
  intro cdv Ar outer s H E F0 a φ ε hr hp
  have hu := hu_of hr
  have sc := sc_Machine_init
  refine' SK.vc ?hh ?vc
  case hh =>
   refine' sk_setD kS tB (i := 4) (by exact sc.nd) nd_new ?k252
   case k252 =>
    intro a_1
    refine' sk_st (ρ2 := [.val tR a.1, .val (tL tS) a.2.1, .val (tL (tL tI)) a.2.2.1, .val (tL tI) a.2.2.2, .val tR a_1, .un, .un, .un, .un]) (cs2 := [⟨a.1, cI C_Machine []⟩, ⟨a_1, cD kS tB []⟩]) rfl rfl ?k253
    case k253 =>
     refine' sk_for (fun z_2 : List (Str × Bool) => [.val tR a.1, .val (tL tS) a.2.1, .val (tL (tL tI)) a.2.2.1, .val (tL tI) a.2.2.2, .val tR a_1, .un, .un, .un, .un]) (fun z_2 : List (Str × Bool) => [⟨a.1, cI C_Machine []⟩, ⟨a_1, cD kS tB z_2⟩]) _ hp rfl (ik_list (pk_var (i := 1) rfl)) (gk_name (i := 5) (by exact sc.nd)) (.same (.same (.same (.same (.same (.same (.same (.same (.same .nil))))))))) rfl ?b254 ?k255
     case b254 =>
      intro fl_6 hs_5 N_4 z_2 x_3
      refine' sk_st (ρ2 := [.val tR a.1, .val (tL tS) a.2.1, .val (tL (tL tI)) a.2.2.1, .val (tL tI) a.2.2.2, .val tR a_1, .val tS x_3, .un, .un, .un]) (cs2 := [⟨a.1, cI C_Machine []⟩, ⟨a_1, cD kS tB z_2⟩]) rfl rfl ?k256
      case k256 =>
       refine' sk_seq (sk_if1 (pt_din hu (pk_var (i := 5) rfl) (PK.ownD 1 (pk_var (i := 4) rfl) rfl)) ?a257 ?b258)
       case a257 =>
        exact sk_never
       case b258 =>
        refine' sk_nilX rfl ?k259
        case k259 =>
         refine' sk_dput 1 hu (PK.ek pk_bl) (fun _ => (pk_var (i := 4) rfl)) (fun _ => (pk_var (i := 5) rfl)) (fun _ => rfl) ?k260
         case k260 =>
          intro y_7 w_8
          refine' sk_st (ρ2 := [.val tR a.1, .val (tL tS) a.2.1, .val (tL (tL tI)) a.2.2.1, .val (tL tI) a.2.2.2, .val tR a_1, .val tS x_3, .un, .un, .un]) (cs2 := [⟨a.1, cI C_Machine []⟩, ⟨a_1, cD kS tB w_8⟩]) rfl rfl ?k261
          case k261 =>
           exact sk_midX (z := _) rfl (.same (.same (.same (.same (.same (.un (.same (.same (.same .nil))))))))) rfl
     case k255 =>
      intro z_2
      refine' sk_for (fun _ : Unit => [.val tR a.1, .val (tL tS) a.2.1, .val (tL (tL tI)) a.2.2.1, .val (tL tI) a.2.2.2, .val tR a_1, .un, .un, .un, .un]) (fun _ : Unit => [⟨a.1, cI C_Machine []⟩, ⟨a_1, cD kS tB z_2⟩]) () hp rfl (ik_enum bs.m_enumerate (pk_var (i := 2) rfl)) (gk_tup rfl (gs_C (gk_name (i := 6) (by exact sc.nd)) (gs_1 (gk_name (i := 7) (by exact sc.nd)))) (tlC tl1)) (.same (.same (.same (.same (.same (.same (.same (.same (.same .nil))))))))) rfl ?b262 ?k263
      case b262 =>
       intro fl_13 hs_12 N_11 z_9 x_10
       refine' sk_st (ρ2 := [.val tR a.1, .val (tL tS) a.2.1, .val (tL (tL tI)) a.2.2.1, .val (tL tI) a.2.2.2, .val tR a_1, .un, .val tI x_10.1, .val (tL tI) x_10.2, .un]) (cs2 := [⟨a.1, cI C_Machine []⟩, ⟨a_1, cD kS tB z_2⟩]) rfl rfl ?k264
       case k264 =>
        refine' sk_for (fun _ : Unit => [.val tR a.1, .val (tL tS) a.2.1, .val (tL (tL tI)) a.2.2.1, .val (tL tI) a.2.2.2, .val tR a_1, .un, .val tI x_10.1, .val (tL tI) x_10.2, .un]) (fun _ : Unit => [⟨a.1, cI C_Machine []⟩, ⟨a_1, cD kS tB z_2⟩]) () hp rfl (ik_zipL bs.m_zip (pk_var (i := 1) rfl) (pk_var (i := 7) rfl)) (gk_tup rfl (gs_C (gk_name (i := 5) (by exact sc.nd)) (gs_1 (gk_name (i := 8) (by exact sc.nd)))) (tlC tl1)) (.same (.same (.same (.same (.same (.same (.same (.same (.same .nil))))))))) rfl ?b265 ?k266
        case b265 =>
         intro fl_18 hs_17 N_16 z_14 x_15
         refine' sk_st (ρ2 := [.val tR a.1, .val (tL tS) a.2.1, .val (tL (tL tI)) a.2.2.1, .val (tL tI) a.2.2.2, .val tR a_1, .val tS x_15.1, .val tI x_10.1, .val (tL tI) x_10.2, .val tI x_15.2]) (cs2 := [⟨a.1, cI C_Machine []⟩, ⟨a_1, cD kS tB z_2⟩]) rfl rfl ?k267
         case k267 =>
          refine' sk_seq (sk_if1 (PWK.pt (pw_or' (pt_cmp' op_lt r2_B0 (pk_var (i := 8) rfl) pk_int) (pw_or1' (pt_cmp' op_ge r2_B0 (pk_var (i := 8) rfl) (PV.k (pv_cb cr_lenQ bs.m_len bs.b_len u_len (PV.q (PK.l (pk_var (i := 2) rfl))))))))) ?a268 ?b269)
          case a268 =>
           exact sk_never
          case b269 =>
           refine' sk_nilX rfl ?k270
           case k270 =>
            exact sk_midX (z := ()) rfl (.same (.same (.same (.same (.same (.un (.same (.same (.un .nil))))))))) rfl
        case k266 =>
         intro z_14
         exact sk_midX (z := ()) rfl (.same (.same (.same (.same (.same (.same (.un (.un (.same .nil))))))))) rfl
      case k263 =>
       intro z_9
       refine' sk_for (fun _ : Unit => [.val tR a.1, .val (tL tS) a.2.1, .val (tL (tL tI)) a.2.2.1, .val (tL tI) a.2.2.2, .val tR a_1, .un, .un, .un, .un]) (fun _ : Unit => [⟨a.1, cI C_Machine []⟩, ⟨a_1, cD kS tB z_2⟩]) () hp rfl (ik_list (pk_var (i := 3) rfl)) (gk_name (i := 6) (by exact sc.nd)) (.same (.same (.same (.same (.same (.same (.same (.same (.same .nil))))))))) rfl ?b271 ?k272
       case b271 =>
        intro fl_23 hs_22 N_21 z_19 x_20
        refine' sk_st (ρ2 := [.val tR a.1, .val (tL tS) a.2.1, .val (tL (tL tI)) a.2.2.1, .val (tL tI) a.2.2.2, .val tR a_1, .un, .val tI x_20, .un, .un]) (cs2 := [⟨a.1, cI C_Machine []⟩, ⟨a_1, cD kS tB z_2⟩]) rfl rfl ?k273
        case k273 =>
         refine' sk_seq (sk_if1 (PWK.pt (pw_or' (pt_cmp' op_lt r2_B0 (pk_var (i := 6) rfl) pk_int) (pw_or1' (pt_cmp' op_ge r2_B0 (pk_var (i := 6) rfl) (PV.k (pv_cb cr_lenQ bs.m_len bs.b_len u_len (PV.q (PK.l (pk_var (i := 2) rfl))))))))) ?a274 ?b275)
         case a274 =>
          exact sk_never
         case b275 =>
          refine' sk_nilX rfl ?k276
          case k276 =>
           exact sk_midX (z := ()) rfl (.same (.same (.same (.same (.same (.same (.un (.same (.same .nil))))))))) rfl
       case k272 =>
        intro z_19
        refine' sk_fld (T := (tUF tS)) (fs := []) 0 cl_Machine.c cl_Machine.n_letters (PK.ek (PV.k (pv_ct call_tupF bs.m_tuple bs.b_tuple u_tupF (PV.lk (PK.l (pk_var (i := 1) rfl)))))) (fun _ => (pk_var (i := 0) rfl)) (fun _ => rfl) ?k277
        case k277 =>
         intro y_24 letters_25
         refine' sk_st (ρ2 := [.val tR a.1, .val (tL tS) a.2.1, .val (tL (tL tI)) a.2.2.1, .val (tL tI) a.2.2.2, .val tR a_1, .un, .un, .un, .un]) (cs2 := [⟨a.1, cI C_Machine [("letters", .val (tUF tS) letters_25)]⟩, ⟨a_1, cD kS tB z_2⟩]) rfl rfl ?k278
         case k278 =>
          refine' sk_fld (T := (tU (tU tI))) (fs := [("letters", .val (tUF tS) letters_25)]) 0 cl_Machine.c cl_Machine.n_table (EV.k (ev_ct call_tuple_of bs.m_tuple bs.b_tuple (fun _ => u_tupL) (EV.lk (NE.l (ne_lc rfl (by exact sc.nd) ?lc23 ?lc22 ?lc24))))) (fun _ => (pk_var (i := 0) rfl)) ?lc25 ?k283
          case lc23 =>
           exact blkOk_by (own := [("steps", 7)]) (N := ["self", "letters", "table", "good", "told", "letter", "state", "steps", "goal"]) (sc := defScope s_Machine_init) (by decide +kernel)
          case lc22 =>
           exact lc_k (own := [("steps", 7)]) (T := (tL tI)) (U := (tU tI)) (G := fun ρ x => (List.set ρ 7 (.val (tL tI) x))) (vs := [7]) (cs' := (fun _ : Unit => [⟨a.1, cI C_Machine [("letters", .val (tUF tS) letters_25)]⟩, ⟨a_1, cD kS tB z_2⟩])) (z0 := fun y => ()) (s1 := fun _ _ _ => ()) (s2 := fun _ _ _ _ => ()) (IK.ie (ik_list (pk_var (i := 2) rfl))) (fun _ => rfl) (by decide) (fun _ _ _ _ _ => (gk_name (i := 7) (by exact sc.nd))) (fun _ _ _ _ _ _ _ => ts_0) (fun _ _ _ _ _ _ _ _ => (PK.ek (PV.k (pv_ct call_tuple_of bs.m_tuple bs.b_tuple u_tupL (PV.lk (PK.l (pk_var (i := 7) rfl)))))))
          case lc24 =>
           exact fun _ => rfl
          case lc25 =>
           exact fun _ => rfl
          case k283 =>
           intro y_28 table_29
           refine' sk_st (ρ2 := [.val tR a.1, .val (tL tS) a.2.1, .val (tL (tL tI)) a.2.2.1, .val (tL tI) a.2.2.2, .val tR a_1, .un, .un, .un, .un]) (cs2 := [⟨a.1, cI C_Machine [("letters", .val (tUF tS) letters_25), ("table", .val (tU (tU tI)) table_29)]⟩, ⟨a_1, cD kS tB z_2⟩]) rfl rfl ?k284
           case k284 =>
            refine' sk_fld (T := (tU tI)) (fs := [("letters", .val (tUF tS) letters_25), ("table", .val (tU (tU tI)) table_29)]) 0 cl_Machine.c cl_Machine.n_good (PK.ek (PV.k (pv_ct call_tuple_of bs.m_tuple bs.b_tuple u_tupL (PV.lk (NK.l (nk_cb (cr_sortedSet rfl) bs.m_sorted bs.b_sorted n_sortI1 (pv_ct (cr_setI rfl) bs.m_set bs.b_set u_setI (PV.lk (PK.l (pk_var (i := 3) rfl)))))))))) (fun _ => (pk_var (i := 0) rfl)) (fun _ => rfl) ?k285
            case k285 =>
             intro y_30 good_31
             refine' sk_st (ρ2 := [.val tR a.1, .val (tL tS) a.2.1, .val (tL (tL tI)) a.2.2.1, .val (tL tI) a.2.2.2, .val tR a_1, .un, .un, .un, .un]) (cs2 := [⟨a.1, cI C_Machine [("letters", .val (tUF tS) letters_25), ("table", .val (tU (tU tI)) table_29), ("good", .val (tU tI) good_31)]⟩, ⟨a_1, cD kS tB z_2⟩]) rfl rfl ?k286
             case k286 =>
              refine' sk_drop 1 ?k287
              case k287 =>
               refine' sk_st (ρ2 := [.val tR a.1, .val (tL tS) a.2.1, .val (tL (tL tI)) a.2.2.1, .val (tL tI) a.2.2.2, .val tR a_1, .un, .un, .un, .un]) (cs2 := [⟨a.1, cI C_Machine [("letters", .val (tUF tS) letters_25), ("table", .val (tU (tU tI)) table_29), ("good", .val (tU tI) good_31)]⟩]) rfl rfl ?k288
               case k288 =>
                exact sk_endI (_, _, _) rfl
  case vc =>
   intro h
   simp only [true_and, and_true, yes1, yes2]
   obtain ⟨p, ls, tab, good⟩ := a
   rcases h with ⟨⟨hT, hgl, hg⟩, hφ⟩ | ⟨_, hx, _⟩
   rotate_left
   · exact False.elim hx
   have hT : TabOk ls tab := hT
   have hgl : good.length ≤ 60 := hgl
   have hg : ∀ g ∈ good, 0 ≤ g ∧ g < (tab.length : Int) := hg
   try dsimp only at hφ
   try dsimp only
   have hs := sizeLine_eq
   have h24 : tab.length ≤ 24 := hT.few
   have h6 : ls.length ≤ 6 := hT.l6
   intro _
   refine ⟨fun i z => z = (ls.take i).map fun l => (l, true), rfl, fun i z x hx hI => ?_, fun z _ => ⟨fun _ _ => True, trivial, fun i _ x hx _ => ⟨fun _ _ => True, trivial, fun j _ y hy _ => ?_, fun _ _ => trivial⟩, fun _ _ => ⟨fun _ _ => True, trivial, fun i _ x hx _ => ?_, fun _ _ z1 e1 => ⟨fun i acc _ => acc = tab.take i, rfl, fun i acc _ x hx hI => ⟨fun _ => (by dsimp only at hI ⊢; rw [take_step hx, hI]), fun e => (by cases e)⟩, fun acc _ hI z2 e2 => ⟨⟨by show good.length < 4000; omega, by show good.length < 64; omega⟩, fun z3 e3 => hφ _ ?_⟩⟩⟩⟩⟩
   · dsimp only at hI
     have hn := nodup_take hT.nd hx
     have hx : ls[i]? = some x := hx
     have hi : i < ls.length := (List.getElem?_eq_some_iff.mp hx).1
     have e : z.map (·.1) = ls.take i := by rw [hI, List.map_map]; exact List.map_id _
     refine ⟨fun q => ?_, fun _ => ⟨by rw [hI, List.length_map, List.length_take]; omega, fun z1 e1 => ?_⟩⟩
     · rw [dget_none (by rw [e]; exact hn)] at q
       cases q
     · show z1 = (ls.take (i + 1)).map fun l => (l, true)
       rw [e1, dput_new (by rw [e]; exact hn), hI, map_step _ hx]
   · obtain ⟨e1, e2⟩ := enumF_get hx
     have hm := List.of_mem_zip (get_mem hy)
     have hgo : 0 ≤ y.2 ∧ y.2 < (tab.length : Int) := hT.goal x.2 (get_mem e2) y.2 hm.2
     refine ⟨fun _ => trivial, fun q => ?_, fun _ => trivial⟩
     rw [decide_eq_false (by omega), decide_eq_false (by omega)] at q
     cases q
   · have hgo : 0 ≤ x ∧ x < (tab.length : Int) := hg x (get_mem hx)
     refine ⟨fun _ => trivial, fun q => ?_, fun _ => trivial⟩
     rw [decide_eq_false (by omega), decide_eq_false (by omega)] at q
     cases q
   · dsimp only at hI
     rw [List.take_length] at hI
     show (z1, z2, z3) = (ls, tab, sortI1 good)
     rw [e1, e2, e3, hI]
abbrev s_Machine_place_of : Stmt := (inClass (topS 7) 1)
theorem sc_Machine_place_of : FnScope ["self", "letter"] ["self", "letter"] (defScope s_Machine_place_of) := ⟨rfl, rfl, rfl, by decide +kernel, rfl, by decide +kernel, by decide +kernel⟩
def c_Machine_place_of (K : PySem.W.Frag) (C_Machine : Addr) (xa : XA) := Con.fx (K := K) xa (fun x : ((List Str × List (List Int) × List Int) × Str) => [.val (ty_Machine C_Machine) x.1, .val tS x.2]) tI pre_Machine_place_of g_place
theorem ok_Machine_place_of (bs : Bs mg) {xa : XA} {C_MeetError : Addr} (xs : Xs K mg xa C_MeetError) {f_NoLetter : Addr} {fd_NoLetter : FuncData} (xi_NoLetter : XiT P w K mg base xa.NoLetter 1 ["self", "letter"] (spX1 xa.NoLetter "letter") f_NoLetter fd_NoLetter) {C_Machine : Addr} (cl_Machine : Cl_Machine K C_Machine) {f : Addr} {fd : FuncData} (F : Fun K "place_of" "Machine.place_of" s_Machine_place_of f fd) : FnOk P w K mg base (L2.CX P w) 3 f fd ["self", "letter"] (c_Machine_place_of K C_Machine xa).sp := by
  refine fn_con (c_Machine_place_of K C_Machine xa) F sc_Machine_place_of (fun _ => rfl) ?_
  intro cdv Ar outer s H E F0 a φ ε hr hp
  have hu := hu_of hr
  have sc := sc_Machine_place_of
  refine' SK.vc ?hh ?vc
  case hh =>
   refine' sk_seq (sk_if1 (pt_nin fS (pk_var (i := 1) rfl) (PV.uq (PK.u (PK.uf (pk_fld cl_Machine.c cl_Machine.n_letters (PK.ins (pk_var (i := 0) rfl))))))) ?a292 ?b293)
   case a292 =>
    exact sk_raise1 rfl xs.c_NoLetter xi_NoLetter.iC xi_NoLetter.tI xi_NoLetter.F xi_NoLetter.b hr (pk_var (i := 1) rfl) (by first | exact fun _ h => kp0 h | exact fun _ h => h)
   case b293 =>
    refine' sk_nilX rfl ?k294
    case k294 =>
     exact sk_retX (pk_indexF (pk_fld cl_Machine.c cl_Machine.n_letters (PK.ins (pk_var (i := 0) rfl))) (pk_var (i := 1) rfl))
  case vc =>
   intro h
   simp only [true_and, and_true, yes1, yes2]
   obtain ⟨_, hφ, hε⟩ := h
   refine ⟨fun e => ?_, fun e => ⟨by simpa using e, hφ _ (place_in (by simpa using e))⟩⟩
   exact hε (.noLetter a.2) (place_out (by simpa using e))
abbrev s_run : Stmt := topS 8
theorem sc_run : FnScope ["machine", "row", "state", "letter"] ["machine", "row"] (defScope s_run) := ⟨rfl, rfl, rfl, by decide +kernel, rfl, by decide +kernel, by decide +kernel⟩
def c_run (K : PySem.W.Frag) (C_Machine : Addr) (xa : XA) := Con.fx (K := K) xa (fun x : ((List Str × List (List Int) × List Int) × (List Str)) => [.val (ty_Machine C_Machine) x.1, .val (tL tS) x.2]) tI pre_run g_run
theorem ok_run (bs : Bs mg) {xa : XA} {C_MeetError : Addr} (xs : Xs K mg xa C_MeetError) {C_Machine : Addr} (cl_Machine : Cl_Machine K C_Machine) {f_Machine_place_of : Addr} {fd_Machine_place_of : FuncData} (g_Machine_place_of : Mth P w K mg base C_Machine "place_of" 3 ["self", "letter"] (c_Machine_place_of K C_Machine xa).sp f_Machine_place_of fd_Machine_place_of) {f : Addr} {fd : FuncData} (F : Fun K "run" "run" s_run f fd) : FnOk P w K mg base (L2.CX P w) 4 f fd ["machine", "row"] (c_run K C_Machine xa).sp := by
  refine fn_con (c_run K C_Machine xa) F sc_run (fun _ => rfl) ?_
  intro cdv Ar outer s H E F0 a φ ε hr hp
  have hu := hu_of hr
  have sc := sc_run
  refine' SK.vc ?hh ?vc
  case hh =>
   refine' sk_set (i := 2) (by exact sc.nd) pk_int ?k302
   case k302 =>
    intro state_1
    refine' sk_st (ρ2 := [.val (ty_Machine C_Machine) a.1, .val (tL tS) a.2, .val tI state_1, .un]) (cs2 := []) rfl rfl ?k303
    case k303 =>
     refine' sk_for (fun z_2 : Int => [.val (ty_Machine C_Machine) a.1, .val (tL tS) a.2, .val tI z_2, .un]) (fun z_2 : Int => []) _ hp rfl (ik_list (pk_var (i := 1) rfl)) (gk_name (i := 3) (by exact sc.nd)) (.same (.same (.same (.same .nil)))) rfl ?b304 ?k305
     case b304 =>
      intro fl_6 hs_5 N_4 z_2 x_3
      refine' sk_st (ρ2 := [.val (ty_Machine C_Machine) a.1, .val (tL tS) a.2, .val tI z_2, .val tS x_3]) (cs2 := []) rfl rfl ?k306
      case k306 =>
       refine' sk_setE (i := 2) (by exact sc.nd) (ek_ixU (PK.ek (pk_ixU (pk_fld cl_Machine.c cl_Machine.n_table (PK.ins (pk_var (i := 0) rfl))) (pk_var (i := 2) rfl))) (fun _ => (ek_methX cl_Machine.c g_Machine_place_of hr (slC sl1) (pk_var (i := 0) rfl) (PAK.ak (pa_1 (pk_var (i := 3) rfl))) (fun _ => (by first | exact fun _ h => kp0 h | exact fun _ h => h))))) ?k307
       case k307 =>
        intro y_8 state_7
        refine' sk_st (ρ2 := [.val (ty_Machine C_Machine) a.1, .val (tL tS) a.2, .val tI state_7, .val tS x_3]) (cs2 := []) rfl rfl ?k308
        case k308 =>
         exact sk_midX (z := _) rfl (.same (.same (.same (.un .nil)))) rfl
     case k305 =>
      intro z_2
      exact sk_retX (pk_var (i := 2) rfl)
  case vc =>
   intro h
   simp only [true_and, and_true, yes1, yes2]
   obtain ⟨⟨ls, tab, good⟩, row⟩ := a
   obtain ⟨⟨hT, hl⟩, hφ, hε⟩ := h
   have hT : TabOk ls tab := hT
   have hl : row.length ≤ 1000 := hl
   try dsimp only at hφ hε
   try dsimp only
   intro z ez
   refine ⟨fun i z => InL ls (row.take i) ∧ z = runM ls tab (row.take i), ⟨fun l hl => (by cases hl), ez⟩, fun i z x hx ⟨hI, eI⟩ => ?_, fun z ⟨hI, eI⟩ => ?_⟩
   · have hx : row[i]? = some x := hx
     have hz := run_at hT hI
     rw [← eI] at hz
     refine ⟨⟨by omega, by omega⟩, trivial, fun r hr => ?_, fun r hr => ?_⟩
     · by_cases hm : x ∈ ls
       · rw [place_in hm] at hr
         cases hr
         refine ⟨ix_ok hT hm (pyIx_mem hz.1 hz.2), fun z1 e1 => ⟨inL_take hx hI hm, ?_⟩⟩
         rw [e1, runM_step hx, ← eI]
       · rw [place_out hm] at hr
         cases hr
     · by_cases hm : x ∈ ls
       · rw [place_in hm] at hr
         cases hr
       · rw [place_out hm] at hr
         cases hr
         exact hε _ (run_odd (odd_at hx hI hm))
   · rw [List.take_length] at hI eI
     exact hφ _ (by rw [run_in hI, eI])
abbrev s_lets_by : Stmt := topS 9
theorem sc_lets_by : FnScope ["machine", "row"] ["machine", "row"] (defScope s_lets_by) := ⟨rfl, rfl, rfl, by decide +kernel, rfl, by decide +kernel, by decide +kernel⟩
def c_lets_by (K : PySem.W.Frag) (C_Machine : Addr) (xa : XA) := Con.fx (K := K) xa (fun x : ((List Str × List (List Int) × List Int) × (List Str)) => [.val (ty_Machine C_Machine) x.1, .val (tL tS) x.2]) tB pre_lets_by g_lets_by
theorem ok_lets_by (bs : Bs mg) {xa : XA} {C_MeetError : Addr} (xs : Xs K mg xa C_MeetError) {C_Machine : Addr} (cl_Machine : Cl_Machine K C_Machine) {f_run : Addr} {fd_run : FuncData} (g_run : Cal P w K mg base "run" 4 ["machine", "row"] (c_run K C_Machine xa).sp f_run fd_run) {f : Addr} {fd : FuncData} (F : Fun K "lets_by" "lets_by" s_lets_by f fd) : FnOk P w K mg base (L2.CX P w) 5 f fd ["machine", "row"] (c_lets_by K C_Machine xa).sp := by
  refine fn_con (c_lets_by K C_Machine xa) F sc_lets_by (fun _ => rfl) ?_
  intro cdv Ar outer s H E F0 a φ ε hr hp
  have hu := hu_of hr
  have sc := sc_lets_by
  refine' SK.vc ?hh ?vc
  case hh =>
   refine' sk_retXE (ek_inL fI (ek_fx g_run.F (slC sl1) hr g_run.m g_run.k g_run.b (PAK.ak (pa_C (pk_var (i := 0) rfl) (pa_1 (pk_var (i := 1) rfl)))) (fun _ => (by first | exact fun _ h => kp0 h | exact fun _ h => h))) ?lc26) ?lc27
   case lc26 =>
    exact fun _ => (PV.uq (PK.u (pk_fld cl_Machine.c cl_Machine.n_good (PK.ins (pk_var (i := 0) rfl)))))
   case lc27 =>
    exact fun _ => rfl
  case vc =>
   intro h
   simp only [true_and, and_true, yes1, yes2]
   obtain ⟨⟨ls, tab, good⟩, row⟩ := a
   obtain ⟨hp, hφ, hε⟩ := h
   have hp : pre_run ((ls, tab, good), row) := hp
   try dsimp only at hφ hε
   try dsimp only
   refine ⟨hp, fun r hr => ?_, fun r hr => ?_⟩
   · cases q : odd ls row with
     | some l => rw [run_odd q] at hr; cases hr
     | none =>
       rw [run_in (inL_none q)] at hr
       cases hr
       exact hφ _ (lets_in (inL_none q))
   · cases q : odd ls row with
     | some l =>
       rw [run_odd q] at hr
       cases hr
       exact hε _ (lets_odd q)
     | none => rw [run_in (inL_none q)] at hr; cases hr
abbrev s_machine : Stmt := topS 15
theorem sc_machine : FnScope ["_law_flow_here", "_law_many", "_law_letters", "_law_table", "_law_state", "_law_letter"] ["_law_flow_here", "_law_many", "_law_letters"] (defScope s_machine) := ⟨rfl, rfl, rfl, by decide +kernel, rfl, by decide +kernel, by decide +kernel⟩
def c_machine (K : PySem.W.Frag) := Con.o1 (K := K) tI (fun x : (Int × (List Str)) => [.val tI x.1, .val (tL tS) x.2]) (tT (tsC (tL (tL tI)) (ts1 (tL tI)))) pre_machine post_machine
theorem ok_machine (bs : Bs mg) {f_draw : Addr} {fd_draw : FuncData} (g_draw : Cal P w K mg base "_law_draw" 1 ["_law_flow_here", "_law_many"] (c_draw K).sp f_draw fd_draw) {f : Addr} {fd : FuncData} (F : Fun K "_law_machine" "_law_machine" s_machine f fd) : FnOk P w K mg base (L2.CX P w) 2 f fd ["_law_flow_here", "_law_many", "_law_letters"] (c_machine K).sp := by
  refine fn_con (c_machine K) F sc_machine (fun _ => rfl) ?_
  intro cdv Ar outer s H E F0 a φ ε hr hp
  have hu := hu_of hr
  have sc := sc_machine
  refine' SK.vc ?hh ?vc
  case hh =>
   refine' sk_setLc (i := 3) rfl (by exact sc.nd) (blkOk_by (own := [("_law_state", 4)]) (N := ["_law_flow_here", "_law_many", "_law_letters", "_law_table", "_law_state", "_law_letter"]) (sc := defScope s_machine) (by decide +kernel)) ?lc31 ?k326
   case lc31 =>
    refine' lc_k (own := [("_law_state", 4)]) (T := tI) (U := (tL tI)) (G := fun ρ x => (List.set ρ 4 (.val tI x))) (vs := [4]) (cs' := (fun c_1 : List Int => [⟨a.1, cL tI c_1⟩])) (z0 := fun y => _) (IK.ie (ik_range1 bs.m_range (pk_var (i := 1) rfl))) (fun _ => rfl) (by decide) (fun _ _ _ _ _ => (gk_name (i := 4) (by exact sc.nd))) (fun _ _ _ _ _ _ _ => ts_0) (fun _ _ _ _ _ _ _ _ => (NE.ek (ne_lc rfl (by exact sc.nd) ?lc29 ?lc28 ?lc30)))
    case lc29 =>
     exact blkIn_by (own := [("_law_letter", 5)]) (N := ["_law_flow_here", "_law_many", "_law_letters", "_law_table", "_law_state", "_law_letter"]) (sc := defScope s_machine) rfl rfl (by decide +kernel)
    case lc28 =>
     exact lc_k (own := [("_law_letter", 5)]) (T := tS) (U := tI) (G := fun ρ x => (List.set ρ 5 (.val tS x))) (vs := [5]) (cs' := (fun c_3 : List Int => [⟨a.1, cL tI c_3⟩])) (z0 := fun y => _) (IK.ie (ik_list (pk_var (i := 2) rfl))) (fun _ => rfl) (by decide) (fun _ _ _ _ _ => (gk_name (i := 5) (by exact sc.nd))) (fun _ _ _ _ _ _ _ => ts_0) (fun _ _ _ _ _ _ _ _ => (ek_o1 0 g_draw.F sl1 hr g_draw.m g_draw.k g_draw.b (pk_var (i := 0) rfl) (PAK.ak (pa_1 (pk_var (i := 1) rfl))) (fun _ => rfl)))
    case lc30 =>
     exact fun _ => rfl
   case k326 =>
    intro y_5 table_6
    refine' sk_name 0 rfl ?k330
    case k330 =>
     intro w_7
     refine' sk_st (ρ2 := [.val tR a.1, .val tI a.2.2.1, .val (tL tS) a.2.2.2, .val (tL (tL tI)) table_6, .un, .un]) (cs2 := [⟨a.1, cL tI w_7⟩]) rfl rfl ?k331
     case k331 =>
      refine' sk_st (ρ2 := [.val tR a.1, .val tI a.2.2.1, .val (tL tS) a.2.2.2, .val (tL (tL tI)) table_6, .un, .un]) (cs2 := [⟨a.1, cL tI w_7⟩]) rfl rfl ?k332
      case k332 =>
       refine' sk_retOE (ek_tup (ak_C (PK.ek (pk_var (i := 3) rfl)) (fun _ => (ak_1 (NE.ek (ne_lc rfl (by exact sc.nd) ?lc33 ?lc32 ?lc34))))) (lenC len1)) ?lc35
       case lc33 =>
        exact blkOk_by (own := [("_law_state", 4)]) (N := ["_law_flow_here", "_law_many", "_law_letters", "_law_table", "_law_state", "_law_letter"]) (sc := defScope s_machine) (by decide +kernel)
       case lc32 =>
        exact lc_k (own := [("_law_state", 4)]) (T := tI) (U := tI) (G := fun ρ x => (List.set ρ 4 (.val tI x))) (vs := [4]) (cs' := (fun c_8 : List Int => [⟨a.1, cL tI c_8⟩])) (z0 := fun y => _) (IK.ie (ik_range1 bs.m_range (pk_var (i := 1) rfl))) (fun _ => rfl) (by decide) (fun _ _ _ _ _ => (gk_name (i := 4) (by exact sc.nd))) (fun _ _ _ _ _ _ _ => (ts_1 (tk_cmp op_eq r2_eqI (ek_o1 0 g_draw.F sl1 hr g_draw.m g_draw.k g_draw.b (pk_var (i := 0) rfl) (PAK.ak (pa_1 pk_int)) (fun _ => rfl)) (fun _ => (PK.ek pk_int))))) (fun _ _ _ _ _ _ _ _ => (PK.ek (pk_var (i := 4) rfl)))
       case lc34 =>
        exact fun _ => rfl
       case lc35 =>
        exact fun _ => rfl
  case vc =>
   intro h
   simp only [true_and, and_true, yes1, yes2]
   obtain ⟨p, fl, n, ls⟩ := a
   obtain ⟨⟨hf, n0, n1, h6⟩, hφ⟩ := h
   have hf : Fl fl := hf
   have n0 : 1 ≤ n := n0
   have n1 : n ≤ 24 := n1
   try dsimp only at hφ
   try dsimp only
   refine ⟨⟨by omega, by omega⟩, fun i acc z => Fl z ∧ acc.length = i ∧ ∀ r ∈ acc, r.length = ls.length ∧ ∀ g ∈ r, 0 ≤ g ∧ g < n, ⟨hf, rfl, fun r hr => (by cases hr)⟩, fun i acc z x hx ⟨i1, i2, i3⟩ => ⟨fun _ => ⟨fun j acc z => Fl z ∧ acc.length = j ∧ ∀ g ∈ acc, 0 ≤ g ∧ g < n, ⟨i1, rfl, fun r hr => (by cases hr)⟩, fun j acc z y hy ⟨j1, j2, j3⟩ => ⟨fun _ => ⟨⟨j1, by omega, by omega⟩, fun r w ⟨r0, r1, f⟩ => ⟨f, by rw [List.length_append, j2]; rfl, fun g hg => ?_⟩⟩, fun e => (by cases e)⟩, fun acc1 z ⟨j1, j2, j3⟩ => ⟨j1, by rw [List.length_append, i2]; rfl, fun r hr => ?_⟩⟩, fun e => (by cases e)⟩, fun acc z ⟨i1, i2, i3⟩ tab etab w5 ew5 => ⟨⟨by omega, by omega⟩, fun i acc z => Fl z ∧ acc.Pairwise (· < ·) ∧ ∀ g ∈ acc, 0 ≤ g ∧ g < (i : Int), ⟨by rw [ew5]; exact i1, List.Pairwise.nil, fun g hg => (by cases hg)⟩, fun i acc z x hx ⟨k1, k2, k3⟩ => ⟨⟨k1, by omega, by omega⟩, fun r w ⟨r0, r1, f⟩ => ⟨fun _ => ?_, fun _ => ⟨f, k2, fun g hg => by have := k3 g hg; omega⟩⟩⟩, fun acc2 z2 ⟨k1, k2, k3⟩ => hφ _ _ ?_⟩⟩
   · rcases List.mem_append.mp hg with h | h
     · exact j3 g h
     · rw [List.mem_singleton.mp h]; exact ⟨r0, r1⟩
   · rcases List.mem_append.mp hr with h | h
     · exact i3 r h
     · rw [List.mem_singleton.mp h]
       exact ⟨j2, j3⟩
   · obtain ⟨ex, hxi⟩ := rng_get hx
     refine ⟨f, List.pairwise_append.mpr ⟨k2, List.pairwise_singleton _ _, fun g hg y hy => ?_⟩, fun g hg => ?_⟩
     · rw [List.mem_singleton.mp hy]
       have := k3 g hg
       omega
     · rcases List.mem_append.mp hg with h | h
       · have := k3 g h
         omega
       · rw [List.mem_singleton.mp h]
         omega
   · have htl : (tab.length : Int) = n := by
       rw [etab, i2, rng_length]
       omega
     refine ⟨k1, htl, by rw [etab]; exact i3, good_of k2 fun g hg => ?_⟩
     have := k3 g hg
     rw [rng_length] at this
     show 0 ≤ g ∧ g < (tab.length : Int)
     omega
abbrev s_case : Stmt := topS 16
theorem sc_case : FnScope ["_law_script", "_law_k", "_law_flow_here", "_law_letters", "_law_table", "_law_good", "_law_many", "_law_row", "_law_strange", "_law_spoilt", "_law_one", "_law_j"] ["_law_script", "_law_k"] (defScope s_case) := ⟨rfl, rfl, rfl, by decide +kernel, rfl, by decide +kernel, by decide +kernel⟩
def c_case (K : PySem.W.Frag) := Con.fp (K := K) (fun x : ((List Int) × Int) => [.val (tLK tI) x.1, .val tI x.2]) (tT (tsC (tL tS) (tsC (tL (tL tI)) (tsC (tL tI) (tsC (tL tS) (ts1 (tL tS))))))) pre_case post_case
theorem ok_case (bs : Bs mg) {f_draw : Addr} {fd_draw : FuncData} (g_draw : Cal P w K mg base "_law_draw" 1 ["_law_flow_here", "_law_many"] (c_draw K).sp f_draw fd_draw) {f_flow : Addr} {fd_flow : FuncData} (g_flow : Cal P w K mg base "_law_flow" 2 ["_law_script", "_law_k"] (c_flow K).sp f_flow fd_flow) {f_machine : Addr} {fd_machine : FuncData} (g_machine : Cal P w K mg base "_law_machine" 2 ["_law_flow_here", "_law_many", "_law_letters"] (c_machine K).sp f_machine fd_machine) {f_names : Addr} {fd_names : FuncData} (g_names : Cal P w K mg base "_law_names" 2 ["_law_flow_here", "_law_many"] (c_names K).sp f_names fd_names) {f : Addr} {fd : FuncData} (F : Fun K "_law_case" "_law_case" s_case f fd) : FnOk P w K mg base (L2.CX P w) 3 f fd ["_law_script", "_law_k"] (c_case K).sp := by
  refine fn_con (c_case K) F sc_case (fun _ => rfl) ?_
  intro cdv Ar outer s H E F0 a φ ε hr hp
  have hu := hu_of hr
  have sc := sc_case
  refine' SK.vc ?hh ?vc
  case hh =>
   refine' sk_setMk (i := 2) (by exact sc.nd) (ek_mk1 g_flow.F (slC sl1) hr g_flow.m g_flow.k g_flow.b (PAK.ak (pa_C (pk_var (i := 0) rfl) (pa_1 (pk_var (i := 1) rfl))))) ?k376
   case k376 =>
    intro y_1 l_2 flow_here_3
    refine' sk_st (ρ2 := [.val (tLK tI) a.1, .val tI a.2, .val tR l_2, .un, .un, .un, .un, .un, .un, .un, .un, .un]) (cs2 := [⟨l_2, cL tI flow_here_3⟩]) rfl rfl ?k377
    case k377 =>
     refine' sk_setE (i := 3) (by exact sc.nd) (ek_o1 0 g_names.F sl1 hr g_names.m g_names.k g_names.b (pk_var (i := 2) rfl) (ak_1 (ek_op op_add r2_I0 (PK.ek pk_int) (fun _ => (ek_o1 0 g_draw.F sl1 (hr.mono (by decide)) g_draw.m g_draw.k g_draw.b (pk_var (i := 2) rfl) (PAK.ak (pa_1 pk_int)) (fun _ => rfl))))) (fun _ => rfl)) ?k378
     case k378 =>
      intro y_5 letters_4
      refine' sk_name 0 rfl ?k379
      case k379 =>
       intro w_6
       refine' sk_st (ρ2 := [.val (tLK tI) a.1, .val tI a.2, .val tR l_2, .val (tL tS) letters_4, .un, .un, .un, .un, .un, .un, .un, .un]) (cs2 := [⟨l_2, cL tI w_6⟩]) rfl rfl ?k380
       case k380 =>
        refine' sk_st (ρ2 := [.val (tLK tI) a.1, .val tI a.2, .val tR l_2, .val (tL tS) letters_4, .un, .un, .un, .un, .un, .un, .un, .un]) (cs2 := [⟨l_2, cL tI w_6⟩]) rfl rfl ?k381
        case k381 =>
         refine' sk_setG (gk_tup rfl (gs_C (gk_name (i := 4) (by exact sc.nd)) (gs_1 (gk_name (i := 5) (by exact sc.nd)))) (tlC tl1)) (ek_o1 0 g_machine.F (slC sl1) hr g_machine.m g_machine.k g_machine.b (pk_var (i := 2) rfl) (ak_C (ek_ixL (PK.ek (NK.pk (nk_lst (pl_C pk_int (pl_C pk_int (pl_C pk_int (pl_C pk_int (pl_C pk_int (pl_C pk_int (pl_C pk_int (pl_C pk_int pl_0)))))))) (Nat.le_of_ble_eq_true rfl)))) (fun _ => (ek_o1 0 g_draw.F sl1 (hr.mono (by decide)) g_draw.m g_draw.k g_draw.b (pk_var (i := 2) rfl) (PAK.ak (pa_1 pk_int)) (fun _ => rfl)))) (fun _ => (ak_1 (PK.ek (pk_var (i := 3) rfl))))) (fun _ => rfl)) ?k382
         case k382 =>
          intro y_7 z_8
          refine' sk_name 0 rfl ?k383
          case k383 =>
           intro w_9
           refine' sk_st (ρ2 := [.val (tLK tI) a.1, .val tI a.2, .val tR l_2, .val (tL tS) letters_4, .val (tL (tL tI)) z_8.1, .val (tL tI) z_8.2, .un, .un, .un, .un, .un, .un]) (cs2 := [⟨l_2, cL tI w_9⟩]) rfl rfl ?k384
           case k384 =>
            refine' sk_st (ρ2 := [.val (tLK tI) a.1, .val tI a.2, .val tR l_2, .val (tL tS) letters_4, .val (tL (tL tI)) z_8.1, .val (tL tI) z_8.2, .un, .un, .un, .un, .un, .un]) (cs2 := [⟨l_2, cL tI w_9⟩]) rfl rfl ?k385
            case k385 =>
             refine' sk_setE (i := 6) (by exact sc.nd) (ek_ixL (PK.ek (NK.pk (nk_lst (pl_C pk_int (pl_C pk_int (pl_C pk_int (pl_C pk_int (pl_C pk_int (pl_C pk_int pl_0)))))) (Nat.le_of_ble_eq_true rfl)))) (fun _ => (ek_o1 0 g_draw.F sl1 (hr.mono (by decide)) g_draw.m g_draw.k g_draw.b (pk_var (i := 2) rfl) (PAK.ak (pa_1 pk_int)) (fun _ => rfl)))) ?k386
             case k386 =>
              intro y_11 many_10
              refine' sk_name 0 rfl ?k387
              case k387 =>
               intro w_12
               refine' sk_st (ρ2 := [.val (tLK tI) a.1, .val tI a.2, .val tR l_2, .val (tL tS) letters_4, .val (tL (tL tI)) z_8.1, .val (tL tI) z_8.2, .val tI many_10, .un, .un, .un, .un, .un]) (cs2 := [⟨l_2, cL tI w_12⟩]) rfl rfl ?k388
               case k388 =>
                refine' sk_st (ρ2 := [.val (tLK tI) a.1, .val tI a.2, .val tR l_2, .val (tL tS) letters_4, .val (tL (tL tI)) z_8.1, .val (tL tI) z_8.2, .val tI many_10, .un, .un, .un, .un, .un]) (cs2 := [⟨l_2, cL tI w_12⟩]) rfl rfl ?k389
                case k389 =>
                 refine' sk_setLc (i := 7) rfl (by exact sc.nd) (blkOk_by (own := [("_law_j", 11)]) (N := ["_law_script", "_law_k", "_law_flow_here", "_law_letters", "_law_table", "_law_good", "_law_many", "_law_row", "_law_strange", "_law_spoilt", "_law_one", "_law_j"]) (sc := defScope s_case) (by decide +kernel)) ?lc36 ?k391
                 case lc36 =>
                  exact lc_k (own := [("_law_j", 11)]) (T := tI) (U := tS) (G := fun ρ x => (List.set ρ 11 (.val tI x))) (vs := [11]) (cs' := (fun c_13 : List Int => [⟨l_2, cL tI c_13⟩])) (z0 := fun y => _) (IK.ie (ik_range1 bs.m_range (pk_var (i := 6) rfl))) (fun _ => rfl) (by decide) (fun _ _ _ _ _ => (gk_name (i := 11) (by exact sc.nd))) (fun _ _ _ _ _ _ _ => ts_0) (fun _ _ _ _ _ _ _ _ => (ek_ixL (PK.ek (pk_var (i := 3) rfl)) (fun _ => (ek_o1 0 g_draw.F sl1 (hr.mono (by decide)) g_draw.m g_draw.k g_draw.b (pk_var (i := 2) rfl) (PAK.ak (pa_1 (PV.k (pv_cb cr_lenQ bs.m_len bs.b_len u_len (PV.q (PK.l (pk_var (i := 3) rfl))))))) (fun _ => rfl)))))
                 case k391 =>
                  intro y_15 row_16
                  refine' sk_name 0 rfl ?k392
                  case k392 =>
                   intro w_17
                   refine' sk_st (ρ2 := [.val (tLK tI) a.1, .val tI a.2, .val tR l_2, .val (tL tS) letters_4, .val (tL (tL tI)) z_8.1, .val (tL tI) z_8.2, .val tI many_10, .val (tL tS) row_16, .un, .un, .un, .un]) (cs2 := [⟨l_2, cL tI w_17⟩]) rfl rfl ?k393
                   case k393 =>
                    refine' sk_st (ρ2 := [.val (tLK tI) a.1, .val tI a.2, .val tR l_2, .val (tL tS) letters_4, .val (tL (tL tI)) z_8.1, .val (tL tI) z_8.2, .val tI many_10, .val (tL tS) row_16, .un, .un, .un, .un]) (cs2 := [⟨l_2, cL tI w_17⟩]) rfl rfl ?k394
                    case k394 =>
                     refine' sk_setE (i := 8) (by exact sc.nd) (NE.ek (ne_slE (NE.ek (ne_lc rfl (by exact sc.nd) ?lc41 ?lc40 ?lc42)) (fun _ => po_0) (fun _ => (po_1 pk_int)))) ?k398
                     case lc41 =>
                      exact blkOk_by (own := [("_law_one", 10)]) (N := ["_law_script", "_law_k", "_law_flow_here", "_law_letters", "_law_table", "_law_good", "_law_many", "_law_row", "_law_strange", "_law_spoilt", "_law_one", "_law_j"]) (sc := defScope s_case) (by decide +kernel)
                     case lc40 =>
                      exact lc_k (own := [("_law_one", 10)]) (T := tS) (U := tS) (G := fun ρ x => (List.set ρ 10 (.val tS x))) (vs := [10]) (cs' := (fun _ : Unit => [⟨l_2, cL tI w_17⟩])) (z0 := fun y => ()) (s1 := fun _ _ _ => ()) (s2 := fun _ _ _ _ => ()) (IK.ie (ik_str pk_str)) (fun _ => rfl) (by decide) (fun _ _ _ _ _ => (gk_name (i := 10) (by exact sc.nd))) (fun _ _ _ _ _ _ _ => (ts_1 (PTK.tk (pt_nin fS (pk_var (i := 10) rfl) (PV.q (PK.l (pk_var (i := 3) rfl))))))) (fun _ _ _ _ _ _ _ _ => (PK.ek (pk_var (i := 10) rfl)))
                     case lc42 =>
                      exact fun _ => rfl
                     case k398 =>
                      intro y_23 strange_22
                      refine' sk_st (ρ2 := [.val (tLK tI) a.1, .val tI a.2, .val tR l_2, .val (tL tS) letters_4, .val (tL (tL tI)) z_8.1, .val (tL tI) z_8.2, .val tI many_10, .val (tL tS) row_16, .val (tL tS) strange_22, .un, .un, .un]) (cs2 := [⟨l_2, cL tI w_17⟩]) rfl rfl ?k399
                      case k399 =>
                       refine' sk_setN (i := 9) (T := tS) (by exact sc.nd) (NK.ne (nk_ct call_list_of bs.m_list bs.b_list n_list (PV.q (NK.l (nk_slL (PV.lk (PK.l (pk_var (i := 7) rfl))) po_0 (po_1 pk_int)))))) ?k400
                       case k400 =>
                        intro y_24 a_25 spoilt_26
                        refine' sk_st (ρ2 := [.val (tLK tI) a.1, .val tI a.2, .val tR l_2, .val (tL tS) letters_4, .val (tL (tL tI)) z_8.1, .val (tL tI) z_8.2, .val tI many_10, .val (tL tS) row_16, .val (tL tS) strange_22, .val tR a_25, .un, .un]) (cs2 := [⟨l_2, cL tI w_17⟩, ⟨a_25, cL tS spoilt_26⟩]) rfl rfl ?k401
                        case k401 =>
                         refine' sk_forA hp rfl ?lc43 ?k403
                         case lc43 =>
                          exact ie_list (NE.ek (ne_slH (pk_var (i := 8) rfl) (ek_op op_add r2_I0 (PK.ek pk_int) (fun _ => (ek_o1 0 g_draw.F sl1 (hr.mono (by decide)) g_draw.m g_draw.k g_draw.b (pk_var (i := 2) rfl) (PAK.ak (pa_1 pk_int)) (fun _ => rfl))))))
                         case k403 =>
                          intro y_35
                          refine' fb_for (fun z_27 : (List Int × List Str) => [.val (tLK tI) a.1, .val tI a.2, .val tR l_2, .val (tL tS) letters_4, .val (tL (tL tI)) z_8.1, .val (tL tI) z_8.2, .val tI many_10, .val (tL tS) row_16, .val (tL tS) strange_22, .val tR a_25, .un, .un]) (fun z_27 : (List Int × List Str) => [⟨l_2, cL tI z_27.1⟩, ⟨a_25, cL tS z_27.2⟩]) (_, _) (gk_name (i := 10) (by exact sc.nd)) (.same (.same (.same (.same (.same (.same (.same (.same (.same (.same (.same (.same .nil)))))))))))) rfl ?b404 ?k405
                          case b404 =>
                           intro fl_31 hs_30 N_29 z_27 x_28
                           refine' sk_st (ρ2 := [.val (tLK tI) a.1, .val tI a.2, .val tR l_2, .val (tL tS) letters_4, .val (tL (tL tI)) z_8.1, .val (tL tI) z_8.2, .val tI many_10, .val (tL tS) row_16, .val (tL tS) strange_22, .val tR a_25, .val tS x_28, .un]) (cs2 := [⟨l_2, cL tI z_27.1⟩, ⟨a_25, cL tS z_27.2⟩]) rfl rfl ?k406
                           case k406 =>
                            refine' sk_expr (ek_mL PySem.F.slot_list_insert PySem.F.type_list_insert mt_insert ml_insert 1 (pk_var (i := 9) rfl) (ak_C (ek_o1 0 g_draw.F sl1 (hr.mono (by decide)) g_draw.m g_draw.k g_draw.b (pk_var (i := 2) rfl) (PAK.ak (pa_1 (pk_op op_add r2_I0 (PV.k (pv_cb cr_lenQ bs.m_len bs.b_len u_len (PV.q (PK.own 1 (pk_var (i := 9) rfl) rfl)))) pk_int))) (fun _ => rfl)) (fun _ => (ak_1 (PK.ek (pk_var (i := 10) rfl))))) (fun _ => rfl) ⟨_, rfl⟩) ?k407
                            case k407 =>
                             intro y_32
                             refine' sk_name 0 rfl ?k408
                             case k408 =>
                              intro w_33
                              refine' sk_name 1 rfl ?k409
                              case k409 =>
                               intro w_34
                               refine' sk_st (ρ2 := [.val (tLK tI) a.1, .val tI a.2, .val tR l_2, .val (tL tS) letters_4, .val (tL (tL tI)) z_8.1, .val (tL tI) z_8.2, .val tI many_10, .val (tL tS) row_16, .val (tL tS) strange_22, .val tR a_25, .val tS x_28, .un]) (cs2 := [⟨l_2, cL tI w_33⟩, ⟨a_25, cL tS w_34⟩]) rfl rfl ?k410
                               case k410 =>
                                exact sk_midX (z := (_, _)) rfl (.same (.same (.same (.same (.same (.same (.same (.same (.same (.same (.un (.same .nil)))))))))))) rfl
                          case k405 =>
                           intro z_27
                           refine' sk_freeze 1 9 rfl rfl rfl (Nat.le_of_ble_eq_true rfl) ?k411
                           case k411 =>
                            refine' sk_st (ρ2 := [.val (tLK tI) a.1, .val tI a.2, .val tR l_2, .val (tL tS) letters_4, .val (tL (tL tI)) z_8.1, .val (tL tI) z_8.2, .val tI many_10, .val (tL tS) row_16, .val (tL tS) strange_22, .val (tL tS) z_27.2, .un, .un]) (cs2 := [⟨l_2, cL tI z_27.1⟩]) rfl rfl ?k412
                            case k412 =>
                             refine' sk_drop 0 ?k413
                             case k413 =>
                              refine' sk_st (ρ2 := [.val (tLK tI) a.1, .val tI a.2, .val tR l_2, .val (tL tS) letters_4, .val (tL (tL tI)) z_8.1, .val (tL tI) z_8.2, .val tI many_10, .val (tL tS) row_16, .val (tL tS) strange_22, .val (tL tS) z_27.2, .un, .un]) (cs2 := []) rfl rfl ?k414
                              case k414 =>
                               exact sk_retP (pk_tup (pa_C (pk_var (i := 3) rfl) (pa_C (pk_var (i := 4) rfl) (pa_C (pk_var (i := 5) rfl) (pa_C (pk_var (i := 7) rfl) (pa_1 (pk_var (i := 9) rfl)))))) (fun F vs => (lenC (lenC (lenC (lenC len1)))) F vs _))
  case vc =>
   intro h
   simp only [true_and, and_true, yes1, yes2]
   obtain ⟨sc, k⟩ := a
   obtain ⟨⟨k0, k1⟩, hφ⟩ := h
   have k0 : 0 ≤ k := k0
   have k1 : k ≤ 1000 := k1
   try dsimp only at hφ
   try dsimp only
   refine ⟨⟨k0, by show k ≤ 1000000; omega⟩, fun _ c f0 => ⟨⟨f0, by decide, by decide⟩, fun r w ⟨r0, r1, f1⟩ => ⟨⟨f1, by omega, by omega⟩, fun ls w1 ⟨hN, f2⟩ ls' els w2 ew2 => ?_⟩⟩⟩
   subst els
   have f3 : Fl w2 := by rw [ew2]; exact f2
   obtain ⟨hN1, hN2, hN3⟩ := hN
   have l6 : ls'.length ≤ 6 := by omega
   refine ⟨⟨f3, by decide, by decide⟩, fun q w3 ⟨q0, q1, f4⟩ => ⟨⟨by show -((8 : Nat) : Int) ≤ q; omega, by show q < ((8 : Nat) : Int); omega⟩, ?_⟩⟩
   have hm := pyIx_mem (xs := [(1 : Int), 2, 3, 4, 6, 9, 16, 24]) q0 (by show q < ((8 : Nat) : Int); omega)
   have hall : ∀ s ∈ [(1 : Int), 2, 3, 4, 6, 9, 16, 24], 1 ≤ s ∧ s ≤ 24 := by decide
   have hb := hall _ hm
   refine ⟨⟨f4, hb.1, hb.2, l6⟩, fun m w4 ⟨f5, m1, m2, m3⟩ m' em w5 ew5 => ?_⟩
   have m1 : (m.1.length : Int) = pyIx [(1 : Int), 2, 3, 4, 6, 9, 16, 24] q := m1
   subst em
   have f6 : Fl w5 := by rw [ew5]; exact f5
   refine ⟨⟨f6, by decide, by decide⟩, fun p w6 ⟨p0, p1, f7⟩ => ⟨⟨by show -((6 : Nat) : Int) ≤ p; omega, by show p < ((6 : Nat) : Int); omega⟩, fun mn emn w7 ew7 => ?_⟩⟩
   have hm2 := pyIx_mem (xs := [(0 : Int), 1, 4, 12, 30, 60]) p0 (by show p < ((6 : Nat) : Int); omega)
   have hall2 : ∀ s ∈ [(0 : Int), 1, 4, 12, 30, 60], 0 ≤ s ∧ s ≤ 60 := by decide
   have hb2 := hall2 _ hm2
   rw [← emn] at hb2
   have f8 : Fl w7 := by rw [ew7]; exact f7
   have lpos : 0 < ls'.length := by omega
   refine ⟨⟨by omega, by omega⟩, fun i acc z => Fl z ∧ acc.length = i ∧ InL ls' acc, ⟨f8, rfl, fun l hl => (by cases hl)⟩, fun i acc z x hx ⟨i1, i2, i3⟩ => ⟨fun _ => ⟨⟨i1, by omega, by omega⟩, fun r w ⟨r0, r1, f⟩ => ⟨⟨by omega, by omega⟩, f, by rw [List.length_append, i2]; rfl, fun l hl => ?_⟩⟩, fun e => (by cases e)⟩, fun row z ⟨i1, i2, i3⟩ row' erow w8 ew8 => ?_⟩
   · rcases List.mem_append.mp hl with h | h
     · exact i3 l h
     · rw [List.mem_singleton.mp h]; exact pyIx_mem r0 r1
   · subst erow
     have f9 : Fl w8 := by rw [ew8]; exact i1
     have hrl : row'.length ≤ 60 := by
       rw [i2, rng_length]
       omega
     have ea : (Str.ofString "abcdefghijklmnopqrstuvwxyz") = abc := rfl
     rw [ea]
     refine ⟨by rw [abc_len, sizeLine_eq]; omega, fun i acc _ => acc = ((MD.signs abc).take i).filter fun c => !decide (c ∈ ls'), rfl, fun i acc _ x hx hI => ⟨fun e => ?_, fun e => ?_⟩, fun acc _ hI st est _ sp esp => ?_⟩
     · dsimp only at hI ⊢
       rw [filt_yes hx e, hI]
     · dsimp only at hI ⊢
       rw [filt_no hx e, hI]
     · dsimp only at hI
       rw [List.take_length] at hI
       have est : st = acc.take 2 := est.trans (cutA_to' (n := 2))
       have esp : sp = row'.take 58 := esp.trans (cutA_to' (n := 58))
       have hne : acc ≠ [] := fun e => by
         obtain ⟨s, hs, hn⟩ := free_letter (found := ls') (by omega)
         have : s ∈ acc := by
           rw [hI]
           exact List.mem_filter.mpr ⟨hs, by simpa using hn⟩
         rw [e] at this
         cases this
       have hodd : ∀ s ∈ st, s ∉ ls' := fun s hs => by
         rw [est] at hs
         have h2 := List.mem_of_mem_take hs
         rw [hI] at h2
         simpa using (List.mem_filter.mp h2).2
       have hsp : sp.length ≤ 58 := by
         rw [esp, List.length_take]
         exact Nat.min_le_left _ _
       have hs := sizeLine_eq
       refine ⟨⟨f9, by decide, by decide⟩, fun d w9 ⟨d0, d1, f10⟩ => ?_⟩
       have ecut : cutA st none (some (1 + d)) = st.take (1 + d).toNat := by
         have e1 : (1 + d) = (((1 + d).toNat : Nat) : Int) := by omega
         rw [e1]
         exact cutA_to' (n := (1 + d).toNat)
       rw [ecut]
       refine ⟨fun i z => Fl z.1 ∧ z.2.length = sp.length + i ∧ (0 < i → ∃ l ∈ z.2, l ∉ ls'), ⟨f10, rfl, fun h => absurd h (Nat.lt_irrefl _)⟩, fun i z x hx ⟨j1, j2, j3⟩ => ?_, fun z ⟨j1, j2, j3⟩ => ?_⟩
       · have hx : (st.take (1 + d).toNat)[i]? = some x := hx
         have hi : i < 2 := by
           have h1 := (List.getElem?_eq_some_iff.mp hx).1
           rw [List.length_take] at h1
           have h2 : min (1 + d).toNat st.length ≤ (1 + d).toNat := Nat.min_le_left _ _
           omega
         refine ⟨⟨j1, by omega, by omega⟩, fun r w ⟨r0, r1, f⟩ => ⟨⟨by omega, r0, by omega⟩, fun z8 e8 w6 e6 w' e' => ⟨by rw [e6]; exact f, ?_, fun _ => ⟨x, ?_, hodd x (List.mem_of_mem_take (get_mem hx))⟩⟩⟩⟩
         · show w'.length = sp.length + (i + 1)
           rw [e', e8, List.length_append, List.length_append, List.length_take, List.length_drop]
           simp only [List.length_cons, List.length_nil]
           omega
         · show x ∈ w'
           rw [e', e8]
           simp
       · have hlen : (st.take (1 + d).toNat).length ≤ 2 ∧ 0 < (st.take (1 + d).toNat).length := by
           have h3 : 0 < st.length := by
             rw [est, List.length_take]
             have := List.length_pos_iff.mpr hne
             omega
           rw [List.length_take]
           omega
         refine hφ _ ⟨⟨⟨fun e => ?_, by show m'.1.length ≤ 24; omega, fun e => ?_, l6, hN2, hN3, fun r hr => (m2 r hr).1, fun r hr g hg => ?_⟩, m3⟩, i3, hrl, ?_, ?_⟩
         · have e : m'.1 = [] := e
           rw [e] at m1
           have m1 : ((0 : Nat) : Int) = pyIx [(1 : Int), 2, 3, 4, 6, 9, 16, 24] q := m1
           omega
         · have e : ls' = [] := e
           rw [e] at lpos
           exact absurd lpos (Nat.lt_irrefl _)
         · have := (m2 r hr).2 g hg
           show 0 ≤ g ∧ g < (m'.1.length : Int)
           rw [m1]
           exact this
         · show z.2.length ≤ 60
           omega
         · exact j3 hlen.2
abbrev s_made : Stmt := topS 17
theorem sc_made : FnScope ["_law_case_here", "_law_letters", "_law_table", "_law_good", "_law_made_here", "_law_steps"] ["_law_case_here"] (defScope s_made) := ⟨rfl, rfl, rfl, by decide +kernel, rfl, by decide +kernel, by decide +kernel⟩
def c_made (K : PySem.W.Frag) (C_Machine : Addr) := Con.fn (K := K) (fun x : ((List Str) × (List (List Int)) × (List Int) × (List Str) × (List Str)) => [.val (tT (tsC (tL tS) (tsC (tL (tL tI)) (tsC (tL tI) (tsC (tL tS) (ts1 (tL tS))))))) x]) (ty_Machine C_Machine) pre_made f_made
theorem ok_made (bs : Bs mg) {C_Machine : Addr} (cl_Machine : Cl_Machine K C_Machine) {f_Machine_init : Addr} {fd_Machine_init : FuncData} (g_Machine_init : MkC P w K mg base C_Machine "Machine" 2 ["self", "letters", "table", "good"] (c_Machine_init K C_Machine).sp f_Machine_init fd_Machine_init) {f : Addr} {fd : FuncData} (F : Fun K "_law_made" "_law_made" s_made f fd) : FnOk P w K mg base (L2.CX P w) 4 f fd ["_law_case_here"] (c_made K C_Machine).sp := by
  refine fn_con (c_made K C_Machine) F sc_made (fun _ => rfl) ?_
  intro cdv Ar outer s H E F0 a φ ε hr hp
  have hu := hu_of hr
  have sc := sc_made
  refine' SK.vc ?hh ?vc
  case hh =>
   refine' sk_unpD (gk_lstT rfl (gs_C (gk_name (i := 1) (by exact sc.nd)) (gs_C (gk_name (i := 2) (by exact sc.nd)) (gs_1 (gk_name (i := 3) (by exact sc.nd))))) (tlC (tlC tl1))) (ek_lstT (ak_C (NE.own (NK.ne (nk_ct call_list_of bs.m_list bs.b_list n_list (PV.q (PK.l (pk_ixT Nth.here (pk_var (i := 0) rfl))))))) ?lc59) (lenC (lenC len1))) ?k462
   case lc59 =>
    refine' fun y0 => (ak_C (ek_permC ?lc54 ?lc55) ?lc58)
    case lc54 =>
     refine' NE.own (ne_lc rfl (by exact sc.nd) ?lc52 ?lc51 ?lc53)
     case lc52 =>
      exact blkOk_by (own := [("_law_steps", 5)]) (N := ["_law_case_here", "_law_letters", "_law_table", "_law_good", "_law_made_here", "_law_steps"]) (sc := defScope s_made) (by decide +kernel)
     case lc51 =>
      refine' lc_k (own := [("_law_steps", 5)]) (T := (tL tI)) (U := tR) (G := fun ρ x => (List.set ρ 5 (.val (tL tI) x))) (vs := [5]) (cs' := (fun c_2 : List (Addr × List Int) => (catC [⟨y0.2.1, cL tS y0.2.2⟩] (gP tI c_2)))) (z0 := fun y => []) (υ := fun _ _ _ => Unit × Addr × List Int) (s1 := fun z _ _ => z) (s2 := fun z _ _ u => z ++ [(u.2.1, u.2.2)]) ?lc48 ?lc49 ?lc50 ?lc47 ?lc45 ?lc46
      case lc48 =>
       exact (IK.ie (ik_list (pk_ixT (Nth.next Nth.here) (pk_var (i := 0) rfl))))
      case lc49 =>
       exact fun _ => rfl
      case lc50 =>
       exact by decide
      case lc47 =>
       exact fun _ _ _ _ _ => (gk_name (i := 5) (by exact sc.nd))
      case lc45 =>
       exact fun _ _ _ _ _ _ _ => ts_0
      case lc46 =>
       refine' fun _ _ _ _ _ c_2 x_3 _ => (ek_newG (T := tI) (c0 := [⟨y0.2.1, cL tS y0.2.2⟩]) (c1 := fun y : Unit => [⟨y0.2.1, cL tS y0.2.2⟩]) (g := c_2) ?lc44)
       case lc44 =>
        exact NK.ne (nk_ct call_list_of bs.m_list bs.b_list n_list (PV.q (PK.l (pk_var (i := 5) rfl))))
     case lc53 =>
      exact fun _ => rfl
    case lc55 =>
     exact fun _ => perm_new _ _ _
    case lc58 =>
     refine' fun y1 => (ak_1 (ek_permC ?lc56 ?lc57))
     case lc56 =>
      exact NE.own (NK.ne (nk_cat (NK.l (nk_revL (PV.lk (PK.l (pk_ixT (Nth.next (Nth.next Nth.here)) (pk_var (i := 0) rfl)))))) (NK.l (nk_slL (PV.lk (PK.l (pk_ixT (Nth.next (Nth.next Nth.here)) (pk_var (i := 0) rfl)))) po_0 (po_1 pk_int)))))
     case lc57 =>
      exact fun _ => perm_new _ _ _
   case k462 =>
    intro y_1
    refine' sk_st (ρ2 := [.val (tT (tsC (tL tS) (tsC (tL (tL tI)) (tsC (tL tI) (tsC (tL tS) (ts1 (tL tS))))))) a, .val tR y_1.1.2.1, .val tR y_1.2.1.2.1, .val tR y_1.2.2.2.1, .un, .un]) (cs2 := (catC [⟨y_1.1.2.1, cL tS y_1.1.2.2⟩, ⟨y_1.2.1.2.1, cL tR y_1.2.1.2.2⟩, ⟨y_1.2.2.2.1, cL tI y_1.2.2.2.2⟩] (gP tI y_1.2.1.1.2))) rfl rfl ?k478
    case k478 =>
     refine' sk_nameG 1 rfl rfl ?k479
     case k479 =>
      intro g_6
      refine' sk_st (ρ2 := [.val (tT (tsC (tL tS) (tsC (tL (tL tI)) (tsC (tL tI) (tsC (tL tS) (ts1 (tL tS))))))) a, .val tR y_1.1.2.1, .val tR y_1.2.1.2.1, .val tR y_1.2.2.2.1, .un, .un]) (cs2 := (catC [⟨y_1.1.2.1, cL tS y_1.1.2.2⟩, ⟨y_1.2.1.2.1, cL tR (List.map (fun p => p.1) g_6)⟩, ⟨y_1.2.2.2.1, cL tI y_1.2.2.2.2⟩] (gP tI g_6))) rfl rfl ?k480
      case k480 =>
       refine' sk_name 0 rfl ?k481
       case k481 =>
        intro w_4
        refine' sk_name 2 rfl ?k482
        case k482 =>
         intro w_5
         refine' sk_st (ρ2 := [.val (tT (tsC (tL tS) (tsC (tL (tL tI)) (tsC (tL tI) (tsC (tL tS) (ts1 (tL tS))))))) a, .val tR y_1.1.2.1, .val tR y_1.2.1.2.1, .val tR y_1.2.2.2.1, .un, .un]) (cs2 := (catC [⟨y_1.1.2.1, cL tS w_4⟩, ⟨y_1.2.1.2.1, cL tR (List.map (fun p => p.1) g_6)⟩, ⟨y_1.2.2.2.1, cL tI w_5⟩] (gP tI g_6))) rfl rfl ?k483
         case k483 =>
          refine' sk_setE (i := 4) (by exact sc.nd) (ek_lendA (ρ2 := [.val (tT (tsC (tL tS) (tsC (tL (tL tI)) (tsC (tL tI) (tsC (tL tS) (ts1 (tL tS))))))) a, .val (tL tS) w_4, .val (tL (tL tI)) (g_6.map fun p => p.2), .val (tL tI) w_5, .un, .un]) ?lc60 nl_Machine ?lc61 ?lc62) ?k487
          case lc60 =>
           exact (lstCs_app (lstCs_cons lstC (lstCs_cons lstC (lstCs_cons lstC lstCs_nil))) lstCs_gP)
          case lc61 =>
           exact fun F2 σ hA h => (prd_lend 3 rfl (List.mem_of_getElem? (i := 2) rfl) hA (prd_lendG 2 rfl (List.mem_of_getElem? (i := 1) rfl) (fun c h => List.mem_append_right _ h) hA (prd_lend 1 rfl (List.mem_of_getElem? (i := 0) rfl) hA h)))
          case lc62 =>
           exact ek_makeS g_Machine_init hr (slC (slC sl1)) (PAK.ak (pa_C (pk_var (i := 1) rfl) (pa_C (pk_var (i := 2) rfl) (pa_1 (pk_var (i := 3) rfl)))))
          case k487 =>
           intro y_8 made_here_7
           refine' sk_st (ρ2 := [.val (tT (tsC (tL tS) (tsC (tL (tL tI)) (tsC (tL tI) (tsC (tL tS) (ts1 (tL tS))))))) a, .val tR y_1.1.2.1, .val tR y_1.2.1.2.1, .val tR y_1.2.2.2.1, .val (ty_Machine C_Machine) made_here_7, .un]) (cs2 := (catC [⟨y_1.1.2.1, cL tS w_4⟩, ⟨y_1.2.1.2.1, cL tR (List.map (fun p => p.1) g_6)⟩, ⟨y_1.2.2.2.1, cL tI w_5⟩] (gP tI g_6))) rfl rfl ?k488
           case k488 =>
            refine' sk_expr (ek_mL0 PySem.F.slot_list_reverse PySem.F.type_list_reverse mt_reverse ml_reverse 0 (pk_var (i := 1) rfl) rfl) ?k489
            case k489 =>
             intro y_9
             refine' sk_name 0 rfl ?k490
             case k490 =>
              intro w_10
              refine' sk_st (ρ2 := [.val (tT (tsC (tL tS) (tsC (tL (tL tI)) (tsC (tL tI) (tsC (tL tS) (ts1 (tL tS))))))) a, .val tR y_1.1.2.1, .val tR y_1.2.1.2.1, .val tR y_1.2.2.2.1, .val (ty_Machine C_Machine) made_here_7, .un]) (cs2 := (catC [⟨y_1.1.2.1, cL tS w_10⟩, ⟨y_1.2.1.2.1, cL tR (List.map (fun p => p.1) g_6)⟩, ⟨y_1.2.2.2.1, cL tI w_5⟩] (gP tI g_6))) rfl rfl ?k491
              case k491 =>
               refine' sk_setGr (c1 := fun q1 q2 => [⟨y_1.1.2.1, cL tS w_10⟩, ⟨y_1.2.1.2.1, cL tR (List.map (fun p => p.1) g_6)⟩, ⟨y_1.2.2.2.1, cL tI w_5⟩]) (G0 := g_6) (n := ((0 : Int)).toNat) (PK.ek (pk_op op_add r2_I0 (pk_ixR (T := tI) (PV.lk (PK.ownG (G0 := g_6) (n := ((0 : Int)).toNat) (pk_ixR (T := tR) (PV.lk (PK.own 1 (pk_var (i := 2) rfl) rfl)) pk_int) rfl)) pk_int) pk_int)) (fun _ => (pk_ixR (T := tR) (PV.lk (PK.own 1 (pk_var (i := 2) rfl) rfl)) pk_int)) (fun _ => (PK.ek pk_int)) (fun _ _ => rfl) ?k492
               case k492 =>
                intro y_11 u_12 z_13
                refine' sk_nameG 1 rfl rfl ?k493
                case k493 =>
                 intro g_14
                 refine' sk_st (ρ2 := [.val (tT (tsC (tL tS) (tsC (tL (tL tI)) (tsC (tL tI) (tsC (tL tS) (ts1 (tL tS))))))) a, .val tR y_1.1.2.1, .val tR y_1.2.1.2.1, .val tR y_1.2.2.2.1, .val (ty_Machine C_Machine) made_here_7, .un]) (cs2 := (catC [⟨y_1.1.2.1, cL tS w_10⟩, ⟨y_1.2.1.2.1, cL tR (List.map (fun p => p.1) g_14)⟩, ⟨y_1.2.2.2.1, cL tI w_5⟩] (gP tI g_14))) rfl rfl ?k494
                 case k494 =>
                  refine' sk_st (ρ2 := [.val (tT (tsC (tL tS) (tsC (tL (tL tI)) (tsC (tL tI) (tsC (tL tS) (ts1 (tL tS))))))) a, .val tR y_1.1.2.1, .val tR y_1.2.1.2.1, .val tR y_1.2.2.2.1, .val (ty_Machine C_Machine) made_here_7, .un]) (cs2 := (catC [⟨y_1.1.2.1, cL tS w_10⟩, ⟨y_1.2.1.2.1, cL tR (List.map (fun p => p.1) g_14)⟩, ⟨y_1.2.2.2.1, cL tI w_5⟩] (gP tI g_14))) rfl rfl ?k495
                  case k495 =>
                   refine' sk_expr (ek_mL PySem.F.slot_list_append PySem.F.type_list_append mt_append ml_append 1 (pk_var (i := 2) rfl) (ak_1 (ek_newG (T := tI) (c0 := [⟨y_1.1.2.1, cL tS w_10⟩, ⟨y_1.2.1.2.1, cL tR (List.map (fun p => p.1) g_14)⟩, ⟨y_1.2.2.2.1, cL tI w_5⟩]) (c1 := fun _ : Unit => [⟨y_1.1.2.1, cL tS w_10⟩, ⟨y_1.2.1.2.1, cL tR (List.map (fun p => p.1) g_14)⟩, ⟨y_1.2.2.2.1, cL tI w_5⟩]) (g := g_14) ?lc63)) ?lc64 ⟨_, rfl⟩) ?k498
                   case lc63 =>
                    exact NK.ne (nk_lst (T := tI) (pl_0 (T := tI)) (Nat.zero_le _))
                   case lc64 =>
                    exact fun _ => rfl
                   case k498 =>
                    intro y_15
                    refine' sk_st (ρ2 := [.val (tT (tsC (tL tS) (tsC (tL (tL tI)) (tsC (tL tI) (tsC (tL tS) (ts1 (tL tS))))))) a, .val tR y_1.1.2.1, .val tR y_1.2.1.2.1, .val tR y_1.2.2.2.1, .val (ty_Machine C_Machine) made_here_7, .un]) (cs2 := (catC [⟨y_1.1.2.1, cL tS w_10⟩, ⟨y_1.2.1.2.1, cL tR y_15.2⟩, ⟨y_1.2.2.2.1, cL tI w_5⟩] (gP tI (g_14 ++ [(y_15.1.2.1, y_15.1.2.2)])))) rfl rfl ?k499
                    case k499 =>
                     refine' sk_nameG 1 rfl rfl ?k500
                     case k500 =>
                      intro g_16
                      refine' sk_st (ρ2 := [.val (tT (tsC (tL tS) (tsC (tL (tL tI)) (tsC (tL tI) (tsC (tL tS) (ts1 (tL tS))))))) a, .val tR y_1.1.2.1, .val tR y_1.2.1.2.1, .val tR y_1.2.2.2.1, .val (ty_Machine C_Machine) made_here_7, .un]) (cs2 := (catC [⟨y_1.1.2.1, cL tS w_10⟩, ⟨y_1.2.1.2.1, cL tR (List.map (fun p => p.1) g_16)⟩, ⟨y_1.2.2.2.1, cL tI w_5⟩] (gP tI g_16))) rfl rfl ?k501
                      case k501 =>
                       refine' sk_expr (ek_mL PySem.F.slot_list_append PySem.F.type_list_append mt_append ml_append 2 (pk_var (i := 3) rfl) (ak_1 (PK.ek pk_int)) (fun _ => rfl) ⟨_, rfl⟩) ?k502
                       case k502 =>
                        intro y_17
                        refine' sk_name 2 rfl ?k503
                        case k503 =>
                         intro w_18
                         refine' sk_st (ρ2 := [.val (tT (tsC (tL tS) (tsC (tL (tL tI)) (tsC (tL tI) (tsC (tL tS) (ts1 (tL tS))))))) a, .val tR y_1.1.2.1, .val tR y_1.2.1.2.1, .val tR y_1.2.2.2.1, .val (ty_Machine C_Machine) made_here_7, .un]) (cs2 := (catC [⟨y_1.1.2.1, cL tS w_10⟩, ⟨y_1.2.1.2.1, cL tR (List.map (fun p => p.1) g_16)⟩, ⟨y_1.2.2.2.1, cL tI w_18⟩] (gP tI g_16))) rfl rfl ?k504
                         case k504 =>
                          refine' sk_dropA ?k505
                          case k505 =>
                           refine' sk_st (ρ2 := [.val (tT (tsC (tL tS) (tsC (tL (tL tI)) (tsC (tL tI) (tsC (tL tS) (ts1 (tL tS))))))) a, .val tR y_1.1.2.1, .val tR y_1.2.1.2.1, .val tR y_1.2.2.2.1, .val (ty_Machine C_Machine) made_here_7, .un]) (cs2 := []) rfl rfl ?k506
                           case k506 =>
                            exact sk_retF (pk_var (i := 4) rfl)
  case vc =>
   intro h
   simp only [true_and, and_true, yes1, yes2]
   obtain ⟨ls, tab, good, row, spoilt⟩ := a
   obtain ⟨hC, hφ⟩ := h
   have hC : CaseOk (ls, tab, good, row, spoilt) := hC
   have hφ : φ (ls, tab, good) := hφ _ rfl
   have hT : TabOk ls tab := hC.m.1
   have hg : GoodOk tab good := hC.m.2
   have hgl := good_len hT hg
   have hp := hT.pos
   have hs := sizeLine_eq
   have h24 := hT.few
   have hl6 := hT.l6
   try dsimp only
   intro _ z ez
   refine ⟨fun i acc g => acc = g.map (·.1) ∧ g.map (·.2) = tab.take i, ⟨rfl, rfl⟩, fun i acc g x hx ⟨i1, i2⟩ => ⟨fun _ ad z1 e1 => ⟨?_, ?_⟩, fun e => (by cases e)⟩, fun acc g ⟨i1, i2⟩ ad z2 e2 => ⟨?_, fun _ z3 e3 => ⟨by rw [e2, i1], fun w ew w1 ew1 w2 ew2 => ?_⟩⟩⟩
   · rw [i1, List.map_append]; rfl
   · rw [List.map_append, i2, take_step hx, ← e1]; rfl
   · have ec : cutA good none (some 1) = good.take 1 := cutA_to' (n := 1)
     rw [List.length_reverse, ec, List.length_take]
     have : min 1 good.length ≤ 1 := Nat.min_le_left _ _
     omega
   · rw [List.take_length] at i2
     have e3 : z3 = good.reverse ++ good.take 1 := by rw [e3]; exact congrArg _ (cutA_to' (n := 1))
     have hw : w.map (fun p => p.2) = tab := by rw [ew]; exact i2
     have hwl : w.length = tab.length := by rw [← hw, List.length_map]
     have hgm : ∀ g ∈ w2, g ∈ good := fun g h => by
       rw [ew2, e3] at h
       rcases List.mem_append.mp h with h | h
       · exact List.mem_reverse.mp h
       · exact List.mem_of_mem_take h
     have hz3 : w2.length ≤ 60 := by
       rw [ew2, e3, List.length_append, List.length_reverse, List.length_take]
       have : min 1 good.length ≤ 1 := Nat.min_le_left _ _
       omega
     refine ⟨⟨by rw [hw, ew1, ez]; exact hT, hz3, fun g h => ?_⟩, fun r hr z4 e4 z5 e5 w3 e6 => ?_⟩
     · have := good_in hg (hgm g h)
       show 0 ≤ g ∧ g < ((w.map fun p => p.2).length : Int)
       rw [hw]
       exact this
     · have hrr : r = (ls, tab, good) := by
         rw [hr]
         show (w1, w.map (fun p => p.2), sortI1 w2) = _
         rw [hw, ew1, ez]
         have : sortI1 w2 = good := (sortI1_of (good_pw hg) fun x => ⟨fun h => by
           rw [ew2, e3]
           exact List.mem_append_left _ (List.mem_reverse.mpr h), hgm x⟩).symm
         rw [this]
       have hk := gp_key (g := w) (i := 0) (by omega) (by omega)
       have hin : gAt w (Int.toNat 0) ∈ tab := by
         have h1 := gAt_get hk
         rw [← hw]
         exact List.mem_map.mpr ⟨_, List.mem_of_getElem? h1, rfl⟩
       have hlen := hT.len _ hin
       have hlp : 0 < ls.length := by
         cases ls with
         | nil => exact absurd rfl hT.lne
         | cons x xs => exact Nat.succ_pos _
       refine ⟨⟨⟨⟨by omega, by rw [List.length_map]; omega⟩, hk⟩, ⟨by omega, by omega⟩⟩, ⟨by omega, by rw [List.length_map]; omega⟩, ⟨hk, ⟨by omega, by omega⟩⟩, fun z6 _ => ⟨(gp_set hk).symm, fun w4 e7 ad2 z7 e8 => ⟨?_, fun z8 e9 => ⟨?_, fun w5 _ => ⟨by omega, fun z9 _ w6 _ => ?_⟩⟩⟩⟩⟩
       · rw [List.length_map, e7, List.length_set]
         omega
       · rw [e9, List.map_append]
         rfl
       · rw [e4, hrr]
         exact hφ
abbrev s_refused_run : Stmt := topS 18
theorem sc_refused_run : FnScope ["_law_asked", "_law_machine_here", "_law_row", "_law_found", "e"] ["_law_asked", "_law_machine_here", "_law_row"] (defScope s_refused_run) := ⟨rfl, rfl, rfl, by decide +kernel, rfl, by decide +kernel, by decide +kernel⟩
def c_refused_run (K : PySem.W.Frag) (C_Machine : Addr) (f_run : Addr) := Con.fn (K := K) (fun x : (Unit × (List Str × List (List Int) × List Int) × (List Str)) => [.val (tFn f_run) x.1, .val (ty_Machine C_Machine) x.2.1, .val (tL tS) x.2.2]) tA pre_refused f_refused
theorem ok_refused_run (bs : Bs mg) {xa : XA} {C_MeetError : Addr} (xs : Xs K mg xa C_MeetError) {C_Machine : Addr} (cl_Machine : Cl_Machine K C_Machine) {f_run : Addr} {fd_run : FuncData} (g_run : Cal P w K mg base "run" 4 ["machine", "row"] (c_run K C_Machine xa).sp f_run fd_run) {f : Addr} {fd : FuncData} (F : Fun K "_law_refused" "_law_refused" s_refused_run f fd) : FnOk P w K mg base (L2.CX P w) 6 f fd ["_law_asked", "_law_machine_here", "_law_row"] (c_refused_run K C_Machine f_run).sp := by
  refine fn_con (c_refused_run K C_Machine f_run) F sc_refused_run (fun _ => rfl) ?_
  intro cdv Ar outer s H E F0 a φ ε hr hp
  have hu := hu_of hr
  have sc := sc_refused_run
  refine' SK.vc ?hh ?vc
  case hh =>
   refine' sk_set (i := 3) (by exact sc.nd) (PK.anyD (fun q : Str => PyData.tuple [PyData.str q]) (D := ?lc65) ?lc66 ?lc67 (pk_tup (pa_1 pk_str) (fun F vs => len1 F vs _))) ?k527
   case lc65 =>
    exact dT (ds1 (@dS K))
   case lc66 =>
    exact fun _ => rfl
   case lc67 =>
    exact Nat.le_of_ble_eq_true rfl
   case k527 =>
    intro found_1
    refine' sk_st (ρ2 := [.val (tFn f_run) a.1, .val (ty_Machine C_Machine) a.2.1, .val (tL tS) a.2.2, .val tA found_1, .un]) (cs2 := []) rfl rfl ?k528
    case k528 =>
     refine' sk_join (fun z_2 : PyData => [.val (tFn f_run) a.1, .val (ty_Machine C_Machine) a.2.1, .val (tL tS) a.2.2, .val tA z_2, .un]) (fun z_2 : PyData => []) ?h529 ?k530
     case h529 =>
      intro R_3
      refine' sk1_tryA xa (by exact sc.nd) (hd_as (i := 4) ⟨rfl, by decide, .inl xs.g_NoLetter⟩ rfl rfl (hd_no ⟨rfl, by decide, .inl xs.g_MeetError⟩ hd_nil)) (fun _ => cl_never) (fun _ => cl_never) (fun _ _ => cl_never) (fun _ => cl_never) ?c_13531 (fun _ => cl_never) cl_never (fun _ _ => cl_never) (fun _ => cl_never) (fun _ => cl_never) cl_never cl_never ?b532
      case c_13531 =>
       intro letter_4
       refine' cl_as xs.x_NoLetter_NoLetter ?k533
       case k533 =>
        intro a_5 oe_6 pn_7 cls_8 d_9 hz_10 hf_11
        refine' sk_st (ρ2 := [.val (tFn f_run) a.1, .val (ty_Machine C_Machine) a.2.1, .val (tL tS) a.2.2, .val tA found_1, .val (tEx xa a_5 cls_8 d_9) (.noLetter letter_4)]) (cs2 := []) rfl rfl ?k534
        case k534 =>
         refine' sk_set (i := 3) (by exact sc.nd) (PK.anyD (fun q : (Str × Str × Bool × Bool) => PyData.tuple [PyData.str q.1, PyData.str q.2.1, PyData.bool q.2.2.1, PyData.bool q.2.2.2]) (D := ?lc71) ?lc72 ?lc73 (pk_tup (pa_C pk_str (pa_C (pk_exF (T := tS) (x := letter_4) (r := (.noLetter letter_4)) (xa := xa) (X := cxOf (L2.CX P w) P w K mg base ["_law_asked", "_law_machine_here", "_law_row", "_law_found", "e"] "_law_refused" (defScope s_refused_run) f cdv Ar outer s H E) (a := a_5) (pn := pn_7) xs.c_NoLetter.is xs.n_NoLetter_letter hz_10 hf_11 (pk_var (i := 4) rfl)) (pa_C (pk_exIsO (X := cxOf (L2.CX P w) P w K mg base ["_law_asked", "_law_machine_here", "_law_row", "_law_found", "e"] "_law_refused" (defScope s_refused_run) f cdv Ar outer s H E) (a := a_5) (pn := pn_7) xs.c_NoLetter.is xs.c_NoLetter.ox hz_10 hf_11 bs.m_isinstance bs.b_isinstance (pk_var (i := 4) rfl) (pk_glob (T := tR) (v := .ref C_MeetError) xs.g_MeetError rfl (fun _ => rfl)) xs.o_NoLetter_MeetError) (pa_1 (pk_exIsB (X := cxOf (L2.CX P w) P w K mg base ["_law_asked", "_law_machine_here", "_law_row", "_law_found", "e"] "_law_refused" (defScope s_refused_run) f cdv Ar outer s H E) (a := a_5) (pn := pn_7) xs.c_NoLetter.is xs.c_NoLetter.ox hz_10 hf_11 bs.m_isinstance bs.b_isinstance bs.m_ValueError bs.b_ValueError (pk_var (i := 4) rfl) xs.b_NoLetter_ValueError))))) (fun F vs => (lenC (lenC (lenC len1))) F vs _))) ?k538
         case lc71 =>
          exact dT (dsC (@dS K) (dsC (@dS K) (dsC (@dB K) (ds1 (@dB K)))))
         case lc72 =>
          exact fun _ => rfl
         case lc73 =>
          exact Nat.le_of_ble_eq_true rfl
         case k538 =>
          intro found_12
          refine' sk_st (ρ2 := [.val (tFn f_run) a.1, .val (ty_Machine C_Machine) a.2.1, .val (tL tS) a.2.2, .val tA found_12, .val (tEx xa a_5 cls_8 d_9) (.noLetter letter_4)]) (cs2 := []) rfl rfl ?k539
          case k539 =>
           exact sk_midSX (z := _) 4 rfl (.same (.same (.same (.same (.same .nil))))) rfl
      case b532 =>
       intro pn_14 xe_15 po_16
       refine' tb_expr (ek_fxTL 0 rfl rfl g_run.F (slC sl1) (hr.mono (by decide)) g_run.k g_run.b (PAK.ak (pa_C (pk_var (i := 1) rfl) (pa_1 (pk_var (i := 2) rfl)))) (fun _ => (by first | exact fun _ h => kp0 h | exact fun _ h => h)) (fun r h => ⟨r, rfl, h⟩)) ?k540
       case k540 =>
        intro y_17
        exact sk_midX (z := _) rfl (.same (.same (.same (.same (.same .nil))))) rfl
     case k530 =>
      intro z_2
      exact sk_retF (pk_var (i := 3) rfl)
  case vc =>
   intro h
   simp only [true_and, and_true, yes1, yes2]
   obtain ⟨u, ⟨ls, tab, good⟩, row⟩ := a
   obtain ⟨⟨hT, hl⟩, hφ⟩ := h
   have hT : TabOk ls tab := hT
   have hl : row.length ≤ 1000 := hl
   have hφ : φ (K07.f_refused (u, (ls, tab, good), row)) := hφ _ rfl
   try dsimp only
   intro z ez
   refine ⟨fun z => z = K07.f_refused (u, (ls, tab, good), row), ⟨⟨hT, hl⟩, fun r hr => ?_, fun r hr => ?_⟩, fun z hz => by rw [hz]; exact hφ⟩
   · unfold K07.f_refused
     cases q : odd ls row with
     | some l => rw [run_odd q] at hr; cases hr
     | none => exact ez
   · unfold K07.f_refused
     cases q : odd ls row with
     | none => rw [run_in (inL_none q)] at hr; cases hr
     | some l =>
       rw [run_odd q] at hr
       cases hr
       dsimp only [rfP]
       exact fun z e => e
abbrev s_refused_lets_by : Stmt := topS 18
theorem sc_refused_lets_by : FnScope ["_law_asked", "_law_machine_here", "_law_row", "_law_found", "e"] ["_law_asked", "_law_machine_here", "_law_row"] (defScope s_refused_lets_by) := ⟨rfl, rfl, rfl, by decide +kernel, rfl, by decide +kernel, by decide +kernel⟩
def c_refused_lets_by (K : PySem.W.Frag) (C_Machine : Addr) (f_lets_by : Addr) := Con.fn (K := K) (fun x : (Unit × (List Str × List (List Int) × List Int) × (List Str)) => [.val (tFn f_lets_by) x.1, .val (ty_Machine C_Machine) x.2.1, .val (tL tS) x.2.2]) tA pre_refused f_refused
theorem ok_refused_lets_by (bs : Bs mg) {xa : XA} {C_MeetError : Addr} (xs : Xs K mg xa C_MeetError) {C_Machine : Addr} (cl_Machine : Cl_Machine K C_Machine) {f_lets_by : Addr} {fd_lets_by : FuncData} (g_lets_by : Cal P w K mg base "lets_by" 5 ["machine", "row"] (c_lets_by K C_Machine xa).sp f_lets_by fd_lets_by) {f : Addr} {fd : FuncData} (F : Fun K "_law_refused" "_law_refused" s_refused_lets_by f fd) : FnOk P w K mg base (L2.CX P w) 6 f fd ["_law_asked", "_law_machine_here", "_law_row"] (c_refused_lets_by K C_Machine f_lets_by).sp := by
  refine fn_con (c_refused_lets_by K C_Machine f_lets_by) F sc_refused_lets_by (fun _ => rfl) ?_
  intro cdv Ar outer s H E F0 a φ ε hr hp
  have hu := hu_of hr
  have sc := sc_refused_lets_by
  refine' SK.vc ?hh ?vc
  case hh =>
   refine' sk_set (i := 3) (by exact sc.nd) (PK.anyD (fun q : Str => PyData.tuple [PyData.str q]) (D := ?lc74) ?lc75 ?lc76 (pk_tup (pa_1 pk_str) (fun F vs => len1 F vs _))) ?k561
   case lc74 =>
    exact dT (ds1 (@dS K))
   case lc75 =>
    exact fun _ => rfl
   case lc76 =>
    exact Nat.le_of_ble_eq_true rfl
   case k561 =>
    intro found_1
    refine' sk_st (ρ2 := [.val (tFn f_lets_by) a.1, .val (ty_Machine C_Machine) a.2.1, .val (tL tS) a.2.2, .val tA found_1, .un]) (cs2 := []) rfl rfl ?k562
    case k562 =>
     refine' sk_join (fun z_2 : PyData => [.val (tFn f_lets_by) a.1, .val (ty_Machine C_Machine) a.2.1, .val (tL tS) a.2.2, .val tA z_2, .un]) (fun z_2 : PyData => []) ?h563 ?k564
     case h563 =>
      intro R_3
      refine' sk1_tryA xa (by exact sc.nd) (hd_as (i := 4) ⟨rfl, by decide, .inl xs.g_NoLetter⟩ rfl rfl (hd_no ⟨rfl, by decide, .inl xs.g_MeetError⟩ hd_nil)) (fun _ => cl_never) (fun _ => cl_never) (fun _ _ => cl_never) (fun _ => cl_never) ?c_13565 (fun _ => cl_never) cl_never (fun _ _ => cl_never) (fun _ => cl_never) (fun _ => cl_never) cl_never cl_never ?b566
      case c_13565 =>
       intro letter_4
       refine' cl_as xs.x_NoLetter_NoLetter ?k567
       case k567 =>
        intro a_5 oe_6 pn_7 cls_8 d_9 hz_10 hf_11
        refine' sk_st (ρ2 := [.val (tFn f_lets_by) a.1, .val (ty_Machine C_Machine) a.2.1, .val (tL tS) a.2.2, .val tA found_1, .val (tEx xa a_5 cls_8 d_9) (.noLetter letter_4)]) (cs2 := []) rfl rfl ?k568
        case k568 =>
         refine' sk_set (i := 3) (by exact sc.nd) (PK.anyD (fun q : (Str × Str × Bool × Bool) => PyData.tuple [PyData.str q.1, PyData.str q.2.1, PyData.bool q.2.2.1, PyData.bool q.2.2.2]) (D := ?lc80) ?lc81 ?lc82 (pk_tup (pa_C pk_str (pa_C (pk_exF (T := tS) (x := letter_4) (r := (.noLetter letter_4)) (xa := xa) (X := cxOf (L2.CX P w) P w K mg base ["_law_asked", "_law_machine_here", "_law_row", "_law_found", "e"] "_law_refused" (defScope s_refused_lets_by) f cdv Ar outer s H E) (a := a_5) (pn := pn_7) xs.c_NoLetter.is xs.n_NoLetter_letter hz_10 hf_11 (pk_var (i := 4) rfl)) (pa_C (pk_exIsO (X := cxOf (L2.CX P w) P w K mg base ["_law_asked", "_law_machine_here", "_law_row", "_law_found", "e"] "_law_refused" (defScope s_refused_lets_by) f cdv Ar outer s H E) (a := a_5) (pn := pn_7) xs.c_NoLetter.is xs.c_NoLetter.ox hz_10 hf_11 bs.m_isinstance bs.b_isinstance (pk_var (i := 4) rfl) (pk_glob (T := tR) (v := .ref C_MeetError) xs.g_MeetError rfl (fun _ => rfl)) xs.o_NoLetter_MeetError) (pa_1 (pk_exIsB (X := cxOf (L2.CX P w) P w K mg base ["_law_asked", "_law_machine_here", "_law_row", "_law_found", "e"] "_law_refused" (defScope s_refused_lets_by) f cdv Ar outer s H E) (a := a_5) (pn := pn_7) xs.c_NoLetter.is xs.c_NoLetter.ox hz_10 hf_11 bs.m_isinstance bs.b_isinstance bs.m_ValueError bs.b_ValueError (pk_var (i := 4) rfl) xs.b_NoLetter_ValueError))))) (fun F vs => (lenC (lenC (lenC len1))) F vs _))) ?k572
         case lc80 =>
          exact dT (dsC (@dS K) (dsC (@dS K) (dsC (@dB K) (ds1 (@dB K)))))
         case lc81 =>
          exact fun _ => rfl
         case lc82 =>
          exact Nat.le_of_ble_eq_true rfl
         case k572 =>
          intro found_12
          refine' sk_st (ρ2 := [.val (tFn f_lets_by) a.1, .val (ty_Machine C_Machine) a.2.1, .val (tL tS) a.2.2, .val tA found_12, .val (tEx xa a_5 cls_8 d_9) (.noLetter letter_4)]) (cs2 := []) rfl rfl ?k573
          case k573 =>
           exact sk_midSX (z := _) 4 rfl (.same (.same (.same (.same (.same .nil))))) rfl
      case b566 =>
       intro pn_14 xe_15 po_16
       refine' tb_expr (ek_fxTL 0 rfl rfl g_lets_by.F (slC sl1) hr g_lets_by.k g_lets_by.b (PAK.ak (pa_C (pk_var (i := 1) rfl) (pa_1 (pk_var (i := 2) rfl)))) (fun _ => (by first | exact fun _ h => kp0 h | exact fun _ h => h)) (fun r h => ⟨r, rfl, h⟩)) ?k574
       case k574 =>
        intro y_17
        exact sk_midX (z := _) rfl (.same (.same (.same (.same (.same .nil))))) rfl
     case k564 =>
      intro z_2
      exact sk_retF (pk_var (i := 3) rfl)
  case vc =>
   intro h
   simp only [true_and, and_true, yes1, yes2]
   obtain ⟨u, ⟨ls, tab, good⟩, row⟩ := a
   obtain ⟨⟨hT, hl⟩, hφ⟩ := h
   have hT : TabOk ls tab := hT
   have hl : row.length ≤ 1000 := hl
   have hφ : φ (K07.f_refused (u, (ls, tab, good), row)) := hφ _ rfl
   try dsimp only
   intro z ez
   refine ⟨fun z => z = K07.f_refused (u, (ls, tab, good), row), ⟨⟨hT, hl⟩, fun r hr => ?_, fun r hr => ?_⟩, fun z hz => by rw [hz]; exact hφ⟩
   · unfold K07.f_refused
     cases q : odd ls row with
     | some l => rw [lets_odd q] at hr; cases hr
     | none => exact ez
   · unfold K07.f_refused
     cases q : odd ls row with
     | none => rw [lets_in (inL_none q)] at hr; cases hr
     | some l =>
       rw [lets_odd q] at hr
       cases hr
       dsimp only [rfP]
       exact fun z e => e
abbrev s_right : Stmt := topS 19
theorem sc_right : FnScope ["_law_machine_here", "_law_case_here", "_law_letters", "_law_table", "_law_good", "_law_row", "_law_spoilt", "_law_fields", "_law_many", "_law_part", "_law_state", "_law_letter", "_law_handed", "_law_found", "_law_due", "_law_steps", "_law_one"] ["_law_machine_here", "_law_case_here"] (defScope s_right) := ⟨rfl, rfl, rfl, by decide +kernel, rfl, by decide +kernel, by decide +kernel⟩
def c_right (K : PySem.W.Frag) (C_Machine : Addr) := Con.fn (K := K) (fun x : ((List Str × List (List Int) × List Int) × ((List Str) × (List (List Int)) × (List Int) × (List Str) × (List Str))) => [.val (ty_Machine C_Machine) x.1, .val (tT (tsC (tL tS) (tsC (tL (tL tI)) (tsC (tL tI) (tsC (tL tS) (ts1 (tL tS))))))) x.2]) tB pre_right f_right
theorem ok_right (bs : Bs mg) {xa : XA} {C_MeetError : Addr} (xs : Xs K mg xa C_MeetError) {C_Machine : Addr} (cl_Machine : Cl_Machine K C_Machine) {f_lets_by : Addr} {fd_lets_by : FuncData} (g_lets_by : Cal P w K mg base "lets_by" 5 ["machine", "row"] (c_lets_by K C_Machine xa).sp f_lets_by fd_lets_by) {f_run : Addr} {fd_run : FuncData} (g_run : Cal P w K mg base "run" 4 ["machine", "row"] (c_run K C_Machine xa).sp f_run fd_run) {f_refused_run : Addr} {fd_refused_run : FuncData} (g_refused_run : Cal P w K mg base "_law_refused" 6 ["_law_asked", "_law_machine_here", "_law_row"] (c_refused_run K C_Machine f_run).sp f_refused_run fd_refused_run) {f_refused_lets_by : Addr} {fd_refused_lets_by : FuncData} (g_refused_lets_by : Cal P w K mg base "_law_refused" 6 ["_law_asked", "_law_machine_here", "_law_row"] (c_refused_lets_by K C_Machine f_lets_by).sp f_refused_lets_by fd_refused_lets_by) {f : Addr} {fd : FuncData} (F : Fun K "_law_right" "_law_right" s_right f fd) : FnG P w K mg base 7 f fd ["_law_machine_here", "_law_case_here"] (c_right K C_Machine).sp := by
  refine fn_conG (c_right K C_Machine) F sc_right (fun _ => rfl) ?_
  intro cdv Ar outer s H E F0 a φ ε hgd hr hp
  have hu := hu_of hr
  have sc := sc_right
  refine' SK.vc ?hh ?vc
  case hh =>
   refine' sk_setG (gk_tup rfl (gs_C (gk_name (i := 2) (by exact sc.nd)) (gs_C (gk_name (i := 3) (by exact sc.nd)) (gs_C (gk_name (i := 4) (by exact sc.nd)) (gs_C (gk_name (i := 5) (by exact sc.nd)) (gs_1 (gk_name (i := 6) (by exact sc.nd))))))) (tlC (tlC (tlC (tlC tl1))))) (PK.ek (pk_var (i := 1) rfl)) ?k615
   case k615 =>
    intro y_1 z_2
    refine' sk_st (ρ2 := [.val (ty_Machine C_Machine) a.1, .val (tT (tsC (tL tS) (tsC (tL (tL tI)) (tsC (tL tI) (tsC (tL tS) (ts1 (tL tS))))))) a.2, .val (tL tS) z_2.1, .val (tL (tL tI)) z_2.2.1, .val (tL tI) z_2.2.2.1, .val (tL tS) z_2.2.2.2.1, .val (tL tS) z_2.2.2.2.2, .un, .un, .un, .un, .un, .un, .un, .un, .un, .un]) (cs2 := []) rfl rfl ?k616
    case k616 =>
     refine' sk_setE (i := 7) (by exact sc.nd) (ek_tup (ak_C (PK.ek (PV.k (pv_ct call_tuple_of bs.m_tuple bs.b_tuple u_tupL (PV.lk (PK.l (pk_var (i := 2) rfl)))))) (fun _ => (ak_C (EV.k (ev_ct call_tuple_of bs.m_tuple bs.b_tuple (fun _ => u_tupL) (EV.lk (NE.l (ne_lc rfl (by exact sc.nd) ?lc84 ?lc83 ?lc85))))) (fun _ => (ak_1 (PK.ek (PV.k (pv_ct call_tuple_of bs.m_tuple bs.b_tuple u_tupL (PV.lk (PK.l (pk_var (i := 4) rfl))))))))))) (lenC (lenC len1))) ?k620
     case lc84 =>
      exact blkOk_by (own := [("_law_steps", 15)]) (N := ["_law_machine_here", "_law_case_here", "_law_letters", "_law_table", "_law_good", "_law_row", "_law_spoilt", "_law_fields", "_law_many", "_law_part", "_law_state", "_law_letter", "_law_handed", "_law_found", "_law_due", "_law_steps", "_law_one"]) (sc := defScope s_right) (by decide +kernel)
     case lc83 =>
      exact lc_k (own := [("_law_steps", 15)]) (T := (tL tI)) (U := (tU tI)) (G := fun ρ x => (List.set ρ 15 (.val (tL tI) x))) (vs := [15]) (cs' := (fun _ : Unit => [])) (z0 := fun y => ()) (s1 := fun _ _ _ => ()) (s2 := fun _ _ _ _ => ()) (IK.ie (ik_list (pk_var (i := 3) rfl))) (fun _ => rfl) (by decide) (fun _ _ _ _ _ => (gk_name (i := 15) (by exact sc.nd))) (fun _ _ _ _ _ _ _ => ts_0) (fun _ _ _ _ _ _ _ _ => (PK.ek (PV.k (pv_ct call_tuple_of bs.m_tuple bs.b_tuple u_tupL (PV.lk (PK.l (pk_var (i := 15) rfl)))))))
     case lc85 =>
      exact fun _ => rfl
     case k620 =>
      intro y_6 fields_5
      refine' sk_st (ρ2 := [.val (ty_Machine C_Machine) a.1, .val (tT (tsC (tL tS) (tsC (tL (tL tI)) (tsC (tL tI) (tsC (tL tS) (ts1 (tL tS))))))) a.2, .val (tL tS) z_2.1, .val (tL (tL tI)) z_2.2.1, .val (tL tI) z_2.2.2.1, .val (tL tS) z_2.2.2.2.1, .val (tL tS) z_2.2.2.2.2, .val (tT (tsC (tU tS) (tsC (tU (tU tI)) (ts1 (tU tI))))) fields_5, .un, .un, .un, .un, .un, .un, .un, .un, .un]) (cs2 := []) rfl rfl ?k621
      case k621 =>
       refine' sk_seq (sk_if1 (pt_cmp' op_ne r2_neR (PV.k (pv_cb (cr_repr hgd hr) bs.m_repr bs.b_repr (u_repr (dT (dsC (dU (@dS K)) (dsC (dU (dU (@dI K))) (ds1 (dU (@dI K)))))) tT_ref (Nat.le_of_ble_eq_true rfl)) (PK.v (pk_tup (pa_C (PK.uf (pk_fld cl_Machine.c cl_Machine.n_letters (PK.ins (pk_var (i := 0) rfl)))) (pa_C (pk_fld cl_Machine.c cl_Machine.n_table (PK.ins (pk_var (i := 0) rfl))) (pa_1 (pk_fld cl_Machine.c cl_Machine.n_good (PK.ins (pk_var (i := 0) rfl)))))) (fun F vs => (lenC (lenC len1)) F vs _))))) (PV.k (pv_cb (cr_repr hgd hr) bs.m_repr bs.b_repr (u_repr (dT (dsC (dU (@dS K)) (dsC (dU (dU (@dI K))) (ds1 (dU (@dI K)))))) tT_ref (Nat.le_of_ble_eq_true rfl)) (PK.v (pk_var (i := 7) rfl))))) ?a622 ?b623)
       case a622 =>
        exact sk_retF pk_bl
       case b623 =>
        refine' sk_nilX rfl ?k624
        case k624 =>
         refine' sk_for (fun _ : Unit => [.val (ty_Machine C_Machine) a.1, .val (tT (tsC (tL tS) (tsC (tL (tL tI)) (tsC (tL tI) (tsC (tL tS) (ts1 (tL tS))))))) a.2, .val (tL tS) z_2.1, .val (tL (tL tI)) z_2.2.1, .val (tL tI) z_2.2.2.1, .val (tL tS) z_2.2.2.2.1, .val (tL tS) z_2.2.2.2.2, .val (tT (tsC (tU tS) (tsC (tU (tU tI)) (ts1 (tU tI))))) fields_5, .un, .un, .un, .un, .un, .un, .un, .un, .un]) (fun _ : Unit => []) () hp rfl (ik_tup (pk_tupU (pl_C (PV.k (pv_cb cr_lenQ bs.m_len bs.b_len u_len (PV.q (PK.l (pk_var (i := 5) rfl))))) (pl_C (pk_op op_fdiv r2_I (PV.k (pv_cb cr_lenQ bs.m_len bs.b_len u_len (PV.q (PK.l (pk_var (i := 5) rfl))))) pk_int) (pl_C pk_int pl_0))) (Nat.le_of_ble_eq_true rfl))) (gk_name (i := 8) (by exact sc.nd)) (.same (.same (.same (.same (.same (.same (.same (.same (.same (.same (.same (.same (.same (.same (.same (.same (.same .nil))))))))))))))))) rfl ?b625 ?k626
         case b625 =>
          intro fl_11 hs_10 N_9 z_7 x_8
          refine' sk_st (ρ2 := [.val (ty_Machine C_Machine) a.1, .val (tT (tsC (tL tS) (tsC (tL (tL tI)) (tsC (tL tI) (tsC (tL tS) (ts1 (tL tS))))))) a.2, .val (tL tS) z_2.1, .val (tL (tL tI)) z_2.2.1, .val (tL tI) z_2.2.2.1, .val (tL tS) z_2.2.2.2.1, .val (tL tS) z_2.2.2.2.2, .val (tT (tsC (tU tS) (tsC (tU (tU tI)) (ts1 (tU tI))))) fields_5, .val tI x_8, .un, .un, .un, .un, .un, .un, .un, .un]) (cs2 := []) rfl rfl ?k627
          case k627 =>
           refine' sk_set (i := 9) (by exact sc.nd) (NK.pk (nk_slL (PV.lk (PK.l (pk_var (i := 5) rfl))) po_0 (po_1 (pk_var (i := 8) rfl)))) ?k628
           case k628 =>
            intro part_12
            refine' sk_st (ρ2 := [.val (ty_Machine C_Machine) a.1, .val (tT (tsC (tL tS) (tsC (tL (tL tI)) (tsC (tL tI) (tsC (tL tS) (ts1 (tL tS))))))) a.2, .val (tL tS) z_2.1, .val (tL (tL tI)) z_2.2.1, .val (tL tI) z_2.2.2.1, .val (tL tS) z_2.2.2.2.1, .val (tL tS) z_2.2.2.2.2, .val (tT (tsC (tU tS) (tsC (tU (tU tI)) (ts1 (tU tI))))) fields_5, .val tI x_8, .val (tL tS) part_12, .un, .un, .un, .un, .un, .un, .un]) (cs2 := []) rfl rfl ?k629
            case k629 =>
             refine' sk_set (i := 10) (by exact sc.nd) pk_int ?k630
             case k630 =>
              intro state_13
              refine' sk_st (ρ2 := [.val (ty_Machine C_Machine) a.1, .val (tT (tsC (tL tS) (tsC (tL (tL tI)) (tsC (tL tI) (tsC (tL tS) (ts1 (tL tS))))))) a.2, .val (tL tS) z_2.1, .val (tL (tL tI)) z_2.2.1, .val (tL tI) z_2.2.2.1, .val (tL tS) z_2.2.2.2.1, .val (tL tS) z_2.2.2.2.2, .val (tT (tsC (tU tS) (tsC (tU (tU tI)) (ts1 (tU tI))))) fields_5, .val tI x_8, .val (tL tS) part_12, .val tI state_13, .un, .un, .un, .un, .un, .un]) (cs2 := []) rfl rfl ?k631
              case k631 =>
               refine' sk_for (fun z_14 : Int => [.val (ty_Machine C_Machine) a.1, .val (tT (tsC (tL tS) (tsC (tL (tL tI)) (tsC (tL tI) (tsC (tL tS) (ts1 (tL tS))))))) a.2, .val (tL tS) z_2.1, .val (tL (tL tI)) z_2.2.1, .val (tL tI) z_2.2.2.1, .val (tL tS) z_2.2.2.2.1, .val (tL tS) z_2.2.2.2.2, .val (tT (tsC (tU tS) (tsC (tU (tU tI)) (ts1 (tU tI))))) fields_5, .val tI x_8, .val (tL tS) part_12, .val tI z_14, .un, .un, .un, .un, .un, .un]) (fun z_14 : Int => []) _ hp rfl (ik_list (pk_var (i := 9) rfl)) (gk_name (i := 11) (by exact sc.nd)) (.same (.same (.same (.same (.same (.same (.same (.same (.same (.same (.same (.same (.same (.same (.same (.same (.same .nil))))))))))))))))) rfl ?b632 ?k633
               case b632 =>
                intro fl_18 hs_17 N_16 z_14 x_15
                refine' sk_st (ρ2 := [.val (ty_Machine C_Machine) a.1, .val (tT (tsC (tL tS) (tsC (tL (tL tI)) (tsC (tL tI) (tsC (tL tS) (ts1 (tL tS))))))) a.2, .val (tL tS) z_2.1, .val (tL (tL tI)) z_2.2.1, .val (tL tI) z_2.2.2.1, .val (tL tS) z_2.2.2.2.1, .val (tL tS) z_2.2.2.2.2, .val (tT (tsC (tU tS) (tsC (tU (tU tI)) (ts1 (tU tI))))) fields_5, .val tI x_8, .val (tL tS) part_12, .val tI z_14, .val tS x_15, .un, .un, .un, .un, .un]) (cs2 := []) rfl rfl ?k634
                case k634 =>
                 refine' sk_set (i := 10) (by exact sc.nd) (pk_ixR (T := tI) (PV.lk (PK.l (pk_ixR (T := (tL tI)) (PV.lk (PK.l (pk_var (i := 3) rfl))) (pk_var (i := 10) rfl)))) (pk_indexL (PV.lk (PK.l (pk_var (i := 2) rfl))) (pk_var (i := 11) rfl))) ?k635
                 case k635 =>
                  intro state_19
                  refine' sk_st (ρ2 := [.val (ty_Machine C_Machine) a.1, .val (tT (tsC (tL tS) (tsC (tL (tL tI)) (tsC (tL tI) (tsC (tL tS) (ts1 (tL tS))))))) a.2, .val (tL tS) z_2.1, .val (tL (tL tI)) z_2.2.1, .val (tL tI) z_2.2.2.1, .val (tL tS) z_2.2.2.2.1, .val (tL tS) z_2.2.2.2.2, .val (tT (tsC (tU tS) (tsC (tU (tU tI)) (ts1 (tU tI))))) fields_5, .val tI x_8, .val (tL tS) part_12, .val tI state_19, .val tS x_15, .un, .un, .un, .un, .un]) (cs2 := []) rfl rfl ?k636
                  case k636 =>
                   exact sk_midX (z := _) rfl (.same (.same (.same (.same (.same (.same (.same (.same (.same (.same (.same (.un (.same (.same (.same (.same (.same .nil))))))))))))))))) rfl
               case k633 =>
                intro z_14
                refine' sk_set (i := 12) (by exact sc.nd) (NK.pk (nk_ct call_list_of bs.m_list bs.b_list n_list (PV.q (PK.l (pk_var (i := 9) rfl))))) ?k637
                case k637 =>
                 intro handed_20
                 refine' sk_st (ρ2 := [.val (ty_Machine C_Machine) a.1, .val (tT (tsC (tL tS) (tsC (tL (tL tI)) (tsC (tL tI) (tsC (tL tS) (ts1 (tL tS))))))) a.2, .val (tL tS) z_2.1, .val (tL (tL tI)) z_2.2.1, .val (tL tI) z_2.2.2.1, .val (tL tS) z_2.2.2.2.1, .val (tL tS) z_2.2.2.2.2, .val (tT (tsC (tU tS) (tsC (tU (tU tI)) (ts1 (tU tI))))) fields_5, .val tI x_8, .val (tL tS) part_12, .val tI z_14, .un, .val (tL tS) handed_20, .un, .un, .un, .un]) (cs2 := []) rfl rfl ?k638
                 case k638 =>
                  refine' sk_setE (i := 13) (by exact sc.nd) (ek_lstT (ak_C (ek_fx g_run.F (slC sl1) (hr.mono (by decide)) g_run.m g_run.k g_run.b (PAK.ak (pa_C (pk_var (i := 0) rfl) (pa_1 (pk_var (i := 12) rfl)))) (fun _ => (by first | exact fun _ h => kp0 h | exact fun _ h => h))) (fun _ => (ak_1 (ek_fx g_lets_by.F (slC sl1) (hr.mono (by decide)) g_lets_by.m g_lets_by.k g_lets_by.b (PAK.ak (pa_C (pk_var (i := 0) rfl) (pa_1 (pk_var (i := 12) rfl)))) (fun _ => (by first | exact fun _ h => kp0 h | exact fun _ h => h)))))) (lenC len1)) ?k639
                  case k639 =>
                   intro y_22 found_21
                   refine' sk_st (ρ2 := [.val (ty_Machine C_Machine) a.1, .val (tT (tsC (tL tS) (tsC (tL (tL tI)) (tsC (tL tI) (tsC (tL tS) (ts1 (tL tS))))))) a.2, .val (tL tS) z_2.1, .val (tL (tL tI)) z_2.2.1, .val (tL tI) z_2.2.2.1, .val (tL tS) z_2.2.2.2.1, .val (tL tS) z_2.2.2.2.2, .val (tT (tsC (tU tS) (tsC (tU (tU tI)) (ts1 (tU tI))))) fields_5, .val tI x_8, .val (tL tS) part_12, .val tI z_14, .un, .val (tL tS) handed_20, .val (tLt (tsC tI (ts1 tB))) found_21, .un, .un, .un]) (cs2 := []) rfl rfl ?k640
                   case k640 =>
                    refine' sk_seq (sk_if1 (PWK.pt (pw_or' (pt_cmp' op_ne r2_neR (PV.k (pv_cb (cr_repr hgd hr) bs.m_repr bs.b_repr (u_repr (dLt (dsC (@dI K) (ds1 (@dB K)))) tLt_ref (Nat.le_of_ble_eq_true rfl)) (PK.v (pk_var (i := 13) rfl)))) (PV.k (pv_cb (cr_repr hgd hr) bs.m_repr bs.b_repr (u_repr (dLt (dsC (@dI K) (ds1 (@dB K)))) tLt_ref (Nat.le_of_ble_eq_true rfl)) (PK.v (pk_lstT (pa_C (pk_var (i := 10) rfl) (pa_1 (pk_in fI (pk_var (i := 10) rfl) (PV.q (PK.l (pk_var (i := 4) rfl)))))) (fun F vs => (lenC len1) F vs _)))))) (pw_or1' (pt_neV hr.units (dv_sv (dL (@dS K))) (dv_sv (dL (@dS K))) sv_stays (eqv_dec (dL (@dS K)) _ _) (PK.v (pk_var (i := 12) rfl)) (PK.v (pk_var (i := 9) rfl)))))) ?a641 ?b642)
                    case a641 =>
                     exact sk_retF pk_bl
                    case b642 =>
                     refine' sk_nilX rfl ?k643
                     case k643 =>
                      exact sk_midX (z := ()) rfl (.same (.same (.same (.same (.same (.same (.same (.same (.un (.un (.un (.same (.un (.un (.same (.same (.same .nil))))))))))))))))) rfl
         case k626 =>
          intro z_7
          refine' sk_setE (i := 14) (by exact sc.nd) (ek_tup (ak_C (PK.ek pk_str) (fun _ => (ak_C (ek_ixR (T := tS) (EV.lk (NE.l (ne_lc rfl (by exact sc.nd) ?lc90 ?lc89 ?lc91))) (fun _ => pk_int)) (fun _ => (ak_C (PK.ek pk_bl) (fun _ => (ak_1 (PK.ek pk_bl)))))))) (lenC (lenC (lenC len1)))) ?k647
          case lc90 =>
           exact blkOk_by (own := [("_law_one", 16)]) (N := ["_law_machine_here", "_law_case_here", "_law_letters", "_law_table", "_law_good", "_law_row", "_law_spoilt", "_law_fields", "_law_many", "_law_part", "_law_state", "_law_letter", "_law_handed", "_law_found", "_law_due", "_law_steps", "_law_one"]) (sc := defScope s_right) (by decide +kernel)
          case lc89 =>
           exact lc_k (own := [("_law_one", 16)]) (T := tS) (U := tS) (G := fun ρ x => (List.set ρ 16 (.val tS x))) (vs := [16]) (cs' := (fun _ : Unit => [])) (z0 := fun y => ()) (s1 := fun _ _ _ => ()) (s2 := fun _ _ _ _ => ()) (IK.ie (ik_list (pk_var (i := 6) rfl))) (fun _ => rfl) (by decide) (fun _ _ _ _ _ => (gk_name (i := 16) (by exact sc.nd))) (fun _ _ _ _ _ _ _ => (ts_1 (PTK.tk (pt_nin fS (pk_var (i := 16) rfl) (PV.q (PK.l (pk_var (i := 2) rfl))))))) (fun _ _ _ _ _ _ _ _ => (PK.ek (pk_var (i := 16) rfl)))
          case lc91 =>
           exact fun _ => rfl
          case k647 =>
           intro y_28 due_27
           refine' sk_st (ρ2 := [.val (ty_Machine C_Machine) a.1, .val (tT (tsC (tL tS) (tsC (tL (tL tI)) (tsC (tL tI) (tsC (tL tS) (ts1 (tL tS))))))) a.2, .val (tL tS) z_2.1, .val (tL (tL tI)) z_2.2.1, .val (tL tI) z_2.2.2.1, .val (tL tS) z_2.2.2.2.1, .val (tL tS) z_2.2.2.2.2, .val (tT (tsC (tU tS) (tsC (tU (tU tI)) (ts1 (tU tI))))) fields_5, .un, .un, .un, .un, .un, .un, .val (tT (tsC tS (tsC tS (tsC tB (ts1 tB))))) due_27, .un, .un]) (cs2 := []) rfl rfl ?k648
           case k648 =>
            refine' sk_retF (pk_and (pk_eqA hr.units (pk_fn g_refused_run.F (slC (slC sl1)) hr g_refused_run.m g_refused_run.k g_refused_run.b (pa_C (pk_fnv g_run.m) (pa_C (pk_var (i := 0) rfl) (pa_1 (pk_var (i := 6) rfl))))) (PK.anyD (fun q : (Str × Str × Bool × Bool) => PyData.tuple [PyData.str q.1, PyData.str q.2.1, PyData.bool q.2.2.1, PyData.bool q.2.2.2]) (D := ?lc92) ?lc93 ?lc94 (pk_var (i := 14) rfl))) (pk_one (pk_eqA hr.units (pk_fn g_refused_lets_by.F (slC (slC sl1)) hr g_refused_lets_by.m g_refused_lets_by.k g_refused_lets_by.b (pa_C (pk_fnv g_lets_by.m) (pa_C (pk_var (i := 0) rfl) (pa_1 (pk_var (i := 6) rfl))))) (PK.anyD (fun q : (Str × Str × Bool × Bool) => PyData.tuple [PyData.str q.1, PyData.str q.2.1, PyData.bool q.2.2.1, PyData.bool q.2.2.2]) (D := ?lc95) ?lc96 ?lc97 (pk_var (i := 14) rfl)))))
            case lc92 =>
             exact dT (dsC (@dS K) (dsC (@dS K) (dsC (@dB K) (ds1 (@dB K)))))
            case lc93 =>
             exact fun _ => rfl
            case lc94 =>
             exact Nat.le_of_ble_eq_true rfl
            case lc95 =>
             exact dT (dsC (@dS K) (dsC (@dS K) (dsC (@dB K) (ds1 (@dB K)))))
            case lc96 =>
             exact fun _ => rfl
            case lc97 =>
             exact Nat.le_of_ble_eq_true rfl
  case vc =>
   intro h
   simp only [true_and, and_true, yes1, yes2]
   obtain ⟨m, ls, tab, good, row, spoilt⟩ := a
   obtain ⟨⟨hC, em⟩, hφ⟩ := h
   have hC : CaseOk (ls, tab, good, row, spoilt) := hC
   have em : m = (ls, tab, good) := em
   subst em
   have hφ : φ true := hφ _ rfl
   have hT : TabOk ls tab := hC.m.1
   have hg : GoodOk tab good := hC.m.2
   have hin : InL ls row := hC.inl
   have hr60 : row.length ≤ 60 := hC.few
   have hs60 : spoilt.length ≤ 60 := hC.sfew
   have hodd : ∃ l ∈ spoilt, l ∉ ls := hC.odd
   have h24 := hT.few
   have hp := hT.pos
   try dsimp only
   have k1 := (sml_ma hT hg).fits (by decide)
   have k1 : ((dT (dsC (dU (dS (K := K))) (dsC (dU (dU (dI (K := K)))) (ds1 (dU (dI (K := K))))))).d (ls, tab, good)).showable = true ∧ ((dT (dsC (dU (dS (K := K))) (dsC (dU (dU (dI (K := K)))) (ds1 (dU (dI (K := K))))))).d (ls, tab, good)).hasDict = false ∧ ((dT (dsC (dU (dS (K := K))) (dsC (dU (dU (dI (K := K)))) (ds1 (dU (dI (K := K))))))).d (ls, tab, good)).shown.length ≤ sizeLine := k1
   have d1 : ∀ x : Str, decide (x = x) = true := fun x => decide_eq_true rfl
   intro z ez
   subst ez
   dsimp only
   refine ⟨fun i acc _ => acc = tab.take i, rfl, fun i acc _ x hx hI => ⟨fun _ => (by dsimp only at hI ⊢; rw [take_step hx, hI]), fun e => (by cases e)⟩, fun acc _ hI z2 e2 => ?_⟩
   dsimp only at hI
   rw [List.take_length] at hI
   rw [hI] at e2
   subst e2
   rw [d1]
   refine ⟨⟨k1, k1⟩, fun e => (by cases e), fun _ => ⟨by unfold CDiv; omega, fun _ _ => True, trivial, fun i _ x hx _ z4 e4 z5 e5 => ?_, fun _ _ => ?_⟩⟩
   · have hx0 : 0 ≤ x := by
       have := get_mem hx
       simp only [List.mem_cons, List.not_mem_nil, or_false] at this
       omega
     have e4 : z4 = row.take x.toNat := by
       rw [e4]
       have e1 : x = ((x.toNat : Nat) : Int) := by omega
       rw [e1]
       exact cutA_to'
     have hin4 : InL ls z4 := fun l hl => by
       rw [e4] at hl
       exact hin l (List.mem_of_mem_take hl)
     have hl4 : z4.length ≤ 60 := by
       rw [e4, List.length_take]
       have : min x.toNat row.length ≤ row.length := Nat.min_le_right _ _
       omega
     refine ⟨fun i z => z = runM ls tab (z4.take i), e5, fun i z x hx hJ => ?_, fun z6 hJ z7 e7 => ?_⟩
     · have hx : z4[i]? = some x := hx
       have hJ : z = runM ls tab (z4.take i) := hJ
       have hz := run_at hT (fun l hl => hin4 l (List.mem_of_mem_take hl) : InL ls (z4.take i))
       rw [← hJ] at hz
       have hm := hin4 x (get_mem hx)
       refine ⟨⟨⟨by omega, by omega⟩, hm, ix_ok hT hm (pyIx_mem hz.1 hz.2)⟩, fun z1 e1 => ?_⟩
       show z1 = runM ls tab (z4.take (i + 1))
       rw [e1, runM_step hx, ← hJ]
     · dsimp only at hJ
       rw [List.take_length] at hJ
       subst e7
       have e1 := run_in (m := (ls, tab, good)) hin4
       have e2 := lets_in (m := (ls, tab, good)) hin4
       dsimp only at e1 e2
       rw [← hJ] at e1 e2
       have hz := run_at hT hin4
       rw [← hJ] at hz
       have k2 : ((dLt (dsC (dI (K := K)) (ds1 (dB (K := K))))).d (z6, decide (z6 ∈ good))).showable = true ∧ ((dLt (dsC (dI (K := K)) (ds1 (dB (K := K))))).d (z6, decide (z6 ∈ good))).hasDict = false ∧ ((dLt (dsC (dI (K := K)) (ds1 (dB (K := K))))).d (z6, decide (z6 ∈ good))).shown.length ≤ sizeLine := by
         have h : ∀ x ∈ [PyData.int z6, .bool (decide (z6 ∈ good))], Sml 1001 x := fun x hx => by
           simp only [List.mem_cons, List.not_mem_nil, or_false] at hx
           rcases hx with rfl | rfl
           · exact sml_int hz.1 (by omega)
           · exact sml_bool _
         exact (sml_list h).fits (by simp only [List.length_cons, List.length_nil]; omega)
       refine ⟨⟨hT, by show z7.length ≤ 1000; omega⟩, fun r hr => ?_, fun r hr => ?_⟩
       · rw [e1] at hr
         cases hr
         refine ⟨⟨hT, by show z7.length ≤ 1000; omega⟩, fun r hr z8 e8 => ?_, fun r hr => ?_⟩
         · rw [e2] at hr
           cases hr
           subst e8
           rw [d1, decide_eq_true (rfl : z7 = z7)]
           exact ⟨⟨⟨k2, k2⟩, fun _ => trivial⟩, fun e => (by cases e), fun _ => trivial⟩
         · rw [e2] at hr
           cases hr
       · rw [e1] at hr
         cases hr
   · refine ⟨fun i acc _ => acc = (spoilt.take i).filter fun c => !decide (c ∈ ls), rfl, fun i acc _ x hx hI => ⟨fun e => ?_, fun e => ?_⟩, fun acc _ hI => ?_⟩
     · dsimp only at hI ⊢
       rw [filt_yes hx e, hI]
     · dsimp only at hI ⊢
       rw [filt_no hx e, hI]
     · dsimp only at hI
       rw [List.take_length] at hI
       obtain ⟨l, o1, o2, o3⟩ := odd_head hodd
       rw [← hI] at o2 o3
       have er : K07.f_refused ((), (ls, tab, good), spoilt) = PyData.tuple [.str "none", .str l, .bool true, .bool true] := by
         unfold K07.f_refused
         dsimp only
         rw [o1]
       have ev : PyData.eqv (PyData.tuple [.str "none", .str l, .bool true, .bool true]) (PyData.tuple [.str "none", .str l, .bool true, .bool true]) = true := by
         have := eqv_dec (dT (dsC (dS (K := K)) (dsC (dS (K := K)) (dsC (dB (K := K)) (ds1 (dB (K := K))))))) (("none" : Str), l, true, true) (("none" : Str), l, true, true)
         rw [decide_eq_true rfl] at this
         exact this
       have hpr : pre_refused ((), (ls, tab, good), spoilt) := ⟨hT, by show spoilt.length ≤ 1000; omega⟩
       refine ⟨⟨by omega, by omega⟩, fun z5 e5 => ⟨⟨hpr, fun _ => hpr⟩, ?_⟩⟩
       subst e5
       dsimp only
       rw [er, o3]
       have ev2 : PyData.eqv (PyData.tuple [.str "none", .str l, .bool true, .bool true]) (PyData.tuple [.str (Str.ofString "none"), .str l, .bool true, .bool true]) = true := ev
       rw [ev2]
       exact hφ
abbrev s_law : Stmt := topS 20
theorem sc_law : FnScope ["_law_script", "_law_cases", "_law_machines", "_law_k", "_law_case_here"] ["_law_script"] (defScope s_law) := ⟨rfl, rfl, rfl, by decide +kernel, rfl, by decide +kernel, by decide +kernel⟩
def c_law (K : PySem.W.Frag) := Con.fn (K := K) (fun x : (List Int) => [.val (tLK tI) x]) tB pre_law f_law
theorem ok_law (bs : Bs mg) {C_Machine : Addr} (cl_Machine : Cl_Machine K C_Machine) {f_case : Addr} {fd_case : FuncData} (g_case : Cal P w K mg base "_law_case" 3 ["_law_script", "_law_k"] (c_case K).sp f_case fd_case) {f_made : Addr} {fd_made : FuncData} (g_made : Cal P w K mg base "_law_made" 4 ["_law_case_here"] (c_made K C_Machine).sp f_made fd_made) {f_right : Addr} {fd_right : FuncData} (g_right : CalG P w K mg base "_law_right" 7 ["_law_machine_here", "_law_case_here"] (c_right K C_Machine).sp f_right fd_right) {f : Addr} {fd : FuncData} (F : Fun K "law" "law" s_law f fd) : FnG P w K mg base 8 f fd ["_law_script"] (c_law K).sp := by
  refine fn_conG (c_law K) F sc_law (fun _ => rfl) ?_
  intro cdv Ar outer s H E F0 a φ ε hgd hr hp
  have hu := hu_of hr
  have sc := sc_law
  refine' SK.vc ?hh ?vc
  case hh =>
   refine' sk_setE (i := 1) (by exact sc.nd) (NE.ek (ne_lc rfl (by exact sc.nd) ?lc99 ?lc98 ?lc100)) ?k672
   case lc99 =>
    exact blkOk_by (own := [("_law_k", 3)]) (N := ["_law_script", "_law_cases", "_law_machines", "_law_k", "_law_case_here"]) (sc := defScope s_law) (by decide +kernel)
   case lc98 =>
    exact lc_k (own := [("_law_k", 3)]) (T := tI) (U := (tT (tsC (tL tS) (tsC (tL (tL tI)) (tsC (tL tI) (tsC (tL tS) (ts1 (tL tS)))))))) (G := fun ρ x => (List.set ρ 3 (.val tI x))) (vs := [3]) (cs' := (fun _ : Unit => [])) (z0 := fun y => ()) (s1 := fun _ _ _ => ()) (s2 := fun _ _ _ _ => ()) (IK.ie (ik_range1 bs.m_range pk_int)) (fun _ => rfl) (by decide) (fun _ _ _ _ _ => (gk_name (i := 3) (by exact sc.nd))) (fun _ _ _ _ _ _ _ => ts_0) (fun _ _ _ _ _ _ _ _ => (ek_fp g_case.F (slC sl1) (hr.mono (by decide)) g_case.m g_case.k g_case.b (PAK.ak (pa_C (pk_var (i := 0) rfl) (pa_1 (pk_var (i := 3) rfl))))))
   case lc100 =>
    exact fun _ => rfl
   case k672 =>
    intro y_4 cases_3
    refine' sk_st (ρ2 := [.val (tLK tI) a, .val (tL (tT (tsC (tL tS) (tsC (tL (tL tI)) (tsC (tL tI) (tsC (tL tS) (ts1 (tL tS)))))))) cases_3, .un, .un, .un]) (cs2 := []) rfl rfl ?k673
    case k673 =>
     refine' sk_setE (i := 2) (by exact sc.nd) (NE.ek (ne_lc rfl (by exact sc.nd) ?lc102 ?lc101 ?lc103)) ?k677
     case lc102 =>
      exact blkOk_by (own := [("_law_case_here", 4)]) (N := ["_law_script", "_law_cases", "_law_machines", "_law_k", "_law_case_here"]) (sc := defScope s_law) (by decide +kernel)
     case lc101 =>
      exact lc_k (own := [("_law_case_here", 4)]) (T := (tT (tsC (tL tS) (tsC (tL (tL tI)) (tsC (tL tI) (tsC (tL tS) (ts1 (tL tS)))))))) (U := (ty_Machine C_Machine)) (G := fun ρ x => (List.set ρ 4 (.val (tT (tsC (tL tS) (tsC (tL (tL tI)) (tsC (tL tI) (tsC (tL tS) (ts1 (tL tS))))))) x))) (vs := [4]) (cs' := (fun _ : Unit => [])) (z0 := fun y => ()) (s1 := fun _ _ _ => ()) (s2 := fun _ _ _ _ => ()) (IK.ie (ik_list (pk_var (i := 1) rfl))) (fun _ => rfl) (by decide) (fun _ _ _ _ _ => (gk_name (i := 4) (by exact sc.nd))) (fun _ _ _ _ _ _ _ => ts_0) (fun _ _ _ _ _ _ _ _ => (PK.ek (pk_fn g_made.F sl1 (hr.mono (by decide)) g_made.m g_made.k g_made.b (pa_1 (pk_var (i := 4) rfl)))))
     case lc103 =>
      exact fun _ => rfl
     case k677 =>
      intro y_8 machines_7
      refine' sk_st (ρ2 := [.val (tLK tI) a, .val (tL (tT (tsC (tL tS) (tsC (tL (tL tI)) (tsC (tL tI) (tsC (tL tS) (ts1 (tL tS)))))))) cases_3, .val (tL (ty_Machine C_Machine)) machines_7, .un, .un]) (cs2 := []) rfl rfl ?k678
      case k678 =>
       refine' sk_retFE (EV.k (ev_cb (cr_all rfl) bs.m_all bs.b_all (fun _ => u_all) (EV.lk (NE.l (ne_lc rfl (by exact sc.nd) ?lc105 ?lc104 ?lc106))))) ?lc107
       case lc105 =>
        exact blkOk_by (own := [("_law_k", 3)]) (N := ["_law_script", "_law_cases", "_law_machines", "_law_k", "_law_case_here"]) (sc := defScope s_law) (by decide +kernel)
       case lc104 =>
        exact lc_k (own := [("_law_k", 3)]) (T := tI) (U := tB) (G := fun ρ x => (List.set ρ 3 (.val tI x))) (vs := [3]) (cs' := (fun _ : Unit => [])) (z0 := fun y => ()) (s1 := fun _ _ _ => ()) (s2 := fun _ _ _ _ => ()) (IK.ie (ik_tup (pk_tupU (pl_C pk_int (pl_C pk_int (pl_C pk_int pl_0))) (Nat.le_of_ble_eq_true rfl)))) (fun _ => rfl) (by decide) (fun _ _ _ _ _ => (gk_name (i := 3) (by exact sc.nd))) (fun _ _ _ _ _ _ _ => ts_0) (fun _ _ _ _ _ _ _ _ => (PK.ek (pk_fnG g_right (slC sl1) hr hgd (pa_C (pk_ixR (T := (ty_Machine C_Machine)) (PV.lk (PK.l (pk_var (i := 2) rfl))) (pk_var (i := 3) rfl)) (pa_1 (pk_ixR (T := (tT (tsC (tL tS) (tsC (tL (tL tI)) (tsC (tL tI) (tsC (tL tS) (ts1 (tL tS)))))))) (PV.lk (PK.l (pk_var (i := 1) rfl))) (pk_var (i := 3) rfl)))))))
       case lc106 =>
        exact fun _ => rfl
       case lc107 =>
        exact fun _ => rfl
  case vc =>
   intro h
   simp only [true_and, and_true, yes1, yes2]
   obtain ⟨hp, hφ⟩ := h
   have hφ : φ true := hφ _ rfl
   refine ⟨⟨by omega, by omega⟩, fun i acc _ => acc.length = i ∧ ∀ c ∈ acc, CaseOk c, ⟨rfl, fun c hc => (by cases hc)⟩, fun i acc _ x hx ⟨i1, i2⟩ => ⟨fun _ => ?_, fun e => (by cases e)⟩, fun acc _ ⟨i1, i2⟩ z ez => ?_⟩
   · obtain ⟨ex, hi⟩ := rng_get hx
     refine ⟨⟨by show 0 ≤ x; omega, by show x ≤ 1000; omega⟩, fun r hr => ⟨by rw [List.length_append, i1]; rfl, fun c hc => ?_⟩⟩
     rcases List.mem_append.mp hc with h | h
     · exact i2 c h
     · rw [List.mem_singleton.mp h]; exact hr
   · rw [← ez] at i1 i2
     have i1 : z.length = 2 := i1
     refine ⟨fun i acc _ => acc = (z.take i).map K07.f_made, rfl, fun i acc _ x hx hI => ⟨fun _ => ⟨i2 x (get_mem hx), by dsimp only at hI ⊢; rw [map_step _ hx, hI]⟩, fun e => (by cases e)⟩, fun acc _ hI z2 e2 => ?_⟩
     dsimp only at hI
     rw [List.take_length] at hI
     have e2 : z2 = z.map K07.f_made := e2.trans hI
     have l2 : z2.length = 2 := by rw [e2, List.length_map, i1]
     refine ⟨fun i acc _ => ∀ b ∈ acc, b = true, fun b hb => (by cases hb), fun i acc _ x hx hJ => ⟨fun _ => ?_, fun e => (by cases e)⟩, fun acc _ hJ => ?_⟩
     · have hx01 : 0 ≤ x ∧ x < 2 := by
         have := get_mem hx
         simp only [List.mem_cons, List.not_mem_nil, or_false] at this
         omega
       refine ⟨⟨⟨⟨by omega, by omega⟩, ⟨by omega, by omega⟩⟩, i2 _ (pyIx_mem hx01.1 (by omega)), ?_⟩, fun b hb => ?_⟩
       · show pyIx z2 x = K07.f_made (pyIx z x)
         rw [e2]
         exact pyIx_map hx01.1 (by omega)
       · rcases List.mem_append.mp hb with h | h
         · exact hJ b h
         · rw [List.mem_singleton.mp h]; rfl
     · have : acc.all id = true := List.all_eq_true.mpr fun b hb => hJ b hb
       rw [this]
       exact hφ
end
end K07
namespace K07
open PySem PySem.Spec PyProof.Rows L2 MD KP
theorem law_sp {K : PySem.W.Frag} {H : Hp} {a : Addr} {ns : List Int} (hl : ns.length ≤ 63) (hS : SqL K H a (ns.map V.int)) : (c_law K).sp [.ref a] H (fun v _ => v = .bl true) fun _ _ _ => False :=
  ⟨ns, H, .cons ⟨.ref a, rfl, a, ns.map V.int, rfl, hS, rl_of_ints, by rw [List.length_map, sizeLine_eq]; omega⟩ .nil, Same.refl H, fun c hc => (by cases hc), List.nodup_nil, hl, fun r er v F' H' _ hv => by
    subst er
    exact hv⟩
theorem all_mk {l : PySem.W.OpenLaw} {w : World} {K : PySem.W.Frag} {h : Heap} {mg : Str → Option Value} {fa C_Machine f_cell f_flow f_draw f_names f_Machine_init f_Machine_place_of f_run f_lets_by f_machine f_case f_made f_refused f_right f_law C_MeetError C_NoLetter f_NoLetter : Addr} (X : K.In h) (G : h.Ns mainGlobals mg) (hfa : mg "law" = some (.ref fa))
    {oc0 kV0 dc0 pm0 cd0 ct0 : Value} {od0 an0 : Option Addr} {sl0 : Array (Option Value)}
    {oc1 kV1 dc1 pm1 cd1 ct1 : Value} {od1 an1 : Option Addr} {sl1 : Array (Option Value)}
    {oc2 kV2 dc2 pm2 cd2 ct2 : Value} {od2 an2 : Option Addr} {sl2 : Array (Option Value)}
    {oc3 kV3 dc3 pm3 cd3 ct3 : Value} {od3 an3 : Option Addr} {sl3 : Array (Option Value)}
    {oc4 kV4 dc4 pm4 cd4 ct4 : Value} {od4 an4 : Option Addr} {sl4 : Array (Option Value)}
    {oc5 kV5 dc5 pm5 cd5 ct5 : Value} {od5 an5 : Option Addr} {sl5 : Array (Option Value)}
    {oc6 kV6 dc6 pm6 cd6 ct6 : Value} {od6 an6 : Option Addr} {sl6 : Array (Option Value)}
    {oc7 kV7 dc7 pm7 cd7 ct7 : Value} {od7 an7 : Option Addr} {sl7 : Array (Option Value)}
    {oc8 kV8 dc8 pm8 cd8 ct8 : Value} {od8 an8 : Option Addr} {sl8 : Array (Option Value)}
    {oc9 kV9 dc9 pm9 cd9 ct9 : Value} {od9 an9 : Option Addr} {sl9 : Array (Option Value)}
    {oc10 kV10 dc10 pm10 cd10 ct10 : Value} {od10 an10 : Option Addr} {sl10 : Array (Option Value)}
    {oc11 kV11 dc11 pm11 cd11 ct11 : Value} {od11 an11 : Option Addr} {sl11 : Array (Option Value)}
    {oc12 kV12 dc12 pm12 cd12 ct12 : Value} {od12 an12 : Option Addr} {sl12 : Array (Option Value)}
    {oc13 kV13 dc13 pm13 cd13 ct13 : Value} {od13 an13 : Option Addr} {sl13 : Array (Option Value)}
    {nmX0 qX0 : Str} {NX0 : Addr} {bsX0 : List Value} {snX0 : List Str} {subX0 : List Value} {abX0 : Bool} {colX0 : Option Bool} {ddX0 : Option Addr} {m0X0 m1X0 m2X0 m3X0 m5X0 : Option Value}
    {ocI0 kVI0 dcI0 pmI0 cdI0 ctI0 : Value} {odI0 anI0 : Option Addr} {slI0 : Array (Option Value)}
    (aC_Machine : PySem.W.nsIn K mainGlobals "Machine" = some (some (.ref C_Machine)))
    (a0 : PySem.W.nsIn K mainGlobals "_law_cell" = some (some (.ref f_cell)))
    (l0 : K.lookup f_cell = some ⟨oc0, od0, .func (PySem.W.fnOf "_law_cell" "_law_cell" (defArgs s_cell) (defBody s_cell) (defScope s_cell) .none kV0 dc0 pm0 an0 cd0 ct0), sl0⟩)
    (c0 : PySem.W.codeIn K cd0 "_law_cell" = true)
    (k0 : PySem.W.keepIn K (.ref f_cell) = true)
    (a1 : PySem.W.nsIn K mainGlobals "_law_flow" = some (some (.ref f_flow)))
    (l1 : K.lookup f_flow = some ⟨oc1, od1, .func (PySem.W.fnOf "_law_flow" "_law_flow" (defArgs s_flow) (defBody s_flow) (defScope s_flow) .none kV1 dc1 pm1 an1 cd1 ct1), sl1⟩)
    (c1 : PySem.W.codeIn K cd1 "_law_flow" = true)
    (k1 : PySem.W.keepIn K (.ref f_flow) = true)
    (a2 : PySem.W.nsIn K mainGlobals "_law_draw" = some (some (.ref f_draw)))
    (l2 : K.lookup f_draw = some ⟨oc2, od2, .func (PySem.W.fnOf "_law_draw" "_law_draw" (defArgs s_draw) (defBody s_draw) (defScope s_draw) .none kV2 dc2 pm2 an2 cd2 ct2), sl2⟩)
    (c2 : PySem.W.codeIn K cd2 "_law_draw" = true)
    (k2 : PySem.W.keepIn K (.ref f_draw) = true)
    (a3 : PySem.W.nsIn K mainGlobals "_law_names" = some (some (.ref f_names)))
    (l3 : K.lookup f_names = some ⟨oc3, od3, .func (PySem.W.fnOf "_law_names" "_law_names" (defArgs s_names) (defBody s_names) (defScope s_names) .none kV3 dc3 pm3 an3 cd3 ct3), sl3⟩)
    (c3 : PySem.W.codeIn K cd3 "_law_names" = true)
    (k3 : PySem.W.keepIn K (.ref f_names) = true)
    (a4 : PySem.W.findIn K (.ref C_Machine) "__init__" = some (some (.ref f_Machine_init)))
    (i4 : PySem.W.isFn K (.ref f_Machine_init) = true)
    (l4 : K.lookup f_Machine_init = some ⟨oc4, od4, .func (PySem.W.fnOf "__init__" "Machine.__init__" (defArgs s_Machine_init) (defBody s_Machine_init) (defScope s_Machine_init) .none kV4 dc4 pm4 an4 cd4 ct4), sl4⟩)
    (c4 : PySem.W.codeIn K cd4 "Machine.__init__" = true)
    (k4 : PySem.W.keepIn K (.ref f_Machine_init) = true)
    (a5 : PySem.W.findIn K (.ref C_Machine) "place_of" = some (some (.ref f_Machine_place_of)))
    (i5 : PySem.W.isFn K (.ref f_Machine_place_of) = true)
    (l5 : K.lookup f_Machine_place_of = some ⟨oc5, od5, .func (PySem.W.fnOf "place_of" "Machine.place_of" (defArgs s_Machine_place_of) (defBody s_Machine_place_of) (defScope s_Machine_place_of) .none kV5 dc5 pm5 an5 cd5 ct5), sl5⟩)
    (c5 : PySem.W.codeIn K cd5 "Machine.place_of" = true)
    (k5 : PySem.W.keepIn K (.ref f_Machine_place_of) = true)
    (a6 : PySem.W.nsIn K mainGlobals "run" = some (some (.ref f_run)))
    (l6 : K.lookup f_run = some ⟨oc6, od6, .func (PySem.W.fnOf "run" "run" (defArgs s_run) (defBody s_run) (defScope s_run) .none kV6 dc6 pm6 an6 cd6 ct6), sl6⟩)
    (c6 : PySem.W.codeIn K cd6 "run" = true)
    (k6 : PySem.W.keepIn K (.ref f_run) = true)
    (a7 : PySem.W.nsIn K mainGlobals "lets_by" = some (some (.ref f_lets_by)))
    (l7 : K.lookup f_lets_by = some ⟨oc7, od7, .func (PySem.W.fnOf "lets_by" "lets_by" (defArgs s_lets_by) (defBody s_lets_by) (defScope s_lets_by) .none kV7 dc7 pm7 an7 cd7 ct7), sl7⟩)
    (c7 : PySem.W.codeIn K cd7 "lets_by" = true)
    (k7 : PySem.W.keepIn K (.ref f_lets_by) = true)
    (a8 : PySem.W.nsIn K mainGlobals "_law_machine" = some (some (.ref f_machine)))
    (l8 : K.lookup f_machine = some ⟨oc8, od8, .func (PySem.W.fnOf "_law_machine" "_law_machine" (defArgs s_machine) (defBody s_machine) (defScope s_machine) .none kV8 dc8 pm8 an8 cd8 ct8), sl8⟩)
    (c8 : PySem.W.codeIn K cd8 "_law_machine" = true)
    (k8 : PySem.W.keepIn K (.ref f_machine) = true)
    (a9 : PySem.W.nsIn K mainGlobals "_law_case" = some (some (.ref f_case)))
    (l9 : K.lookup f_case = some ⟨oc9, od9, .func (PySem.W.fnOf "_law_case" "_law_case" (defArgs s_case) (defBody s_case) (defScope s_case) .none kV9 dc9 pm9 an9 cd9 ct9), sl9⟩)
    (c9 : PySem.W.codeIn K cd9 "_law_case" = true)
    (k9 : PySem.W.keepIn K (.ref f_case) = true)
    (a10 : PySem.W.nsIn K mainGlobals "_law_made" = some (some (.ref f_made)))
    (l10 : K.lookup f_made = some ⟨oc10, od10, .func (PySem.W.fnOf "_law_made" "_law_made" (defArgs s_made) (defBody s_made) (defScope s_made) .none kV10 dc10 pm10 an10 cd10 ct10), sl10⟩)
    (c10 : PySem.W.codeIn K cd10 "_law_made" = true)
    (k10 : PySem.W.keepIn K (.ref f_made) = true)
    (a11 : PySem.W.nsIn K mainGlobals "_law_refused" = some (some (.ref f_refused)))
    (l11 : K.lookup f_refused = some ⟨oc11, od11, .func (PySem.W.fnOf "_law_refused" "_law_refused" (defArgs s_refused_run) (defBody s_refused_run) (defScope s_refused_run) .none kV11 dc11 pm11 an11 cd11 ct11), sl11⟩)
    (c11 : PySem.W.codeIn K cd11 "_law_refused" = true)
    (k11 : PySem.W.keepIn K (.ref f_refused) = true)
    (a12 : PySem.W.nsIn K mainGlobals "_law_right" = some (some (.ref f_right)))
    (l12 : K.lookup f_right = some ⟨oc12, od12, .func (PySem.W.fnOf "_law_right" "_law_right" (defArgs s_right) (defBody s_right) (defScope s_right) .none kV12 dc12 pm12 an12 cd12 ct12), sl12⟩)
    (c12 : PySem.W.codeIn K cd12 "_law_right" = true)
    (k12 : PySem.W.keepIn K (.ref f_right) = true)
    (a13 : PySem.W.nsIn K mainGlobals "law" = some (some (.ref f_law)))
    (l13 : K.lookup f_law = some ⟨oc13, od13, .func (PySem.W.fnOf "law" "law" (defArgs s_law) (defBody s_law) (defScope s_law) .none kV13 dc13 pm13 an13 cd13 ct13), sl13⟩)
    (c13 : PySem.W.codeIn K cd13 "law" = true)
    (k13 : PySem.W.keepIn K (.ref f_law) = true)
    (pg_Machine : PySem.W.plainGet K C_Machine Str.empty = true)
    (hd_Machine : PySem.W.hasDictIn K C_Machine = true)
    (po_Machine : PySem.W.plainOver K C_Machine = true)
    (sa_Machine : PySem.W.findIn K (.ref C_Machine) "__setattr__" = some (some (.builtin "object.__setattr__")))
    (mk_Machine : PySem.W.makesIn K C_Machine = true)
    (kc_Machine : PySem.W.keepIn K (.ref C_Machine) = true)
    (n_Machine_letters : PySem.W.findIn K (.ref C_Machine) "letters" = some none)
    (n_Machine_table : PySem.W.findIn K (.ref C_Machine) "table" = some none)
    (n_Machine_good : PySem.W.findIn K (.ref C_Machine) "good" = some none)
    (z_len : PySem.W.nsIn K mainGlobals "len" = some none)
    (z_range : PySem.W.nsIn K mainGlobals "range" = some none)
    (z_sorted : PySem.W.nsIn K mainGlobals "sorted" = some none)
    (z_set : PySem.W.nsIn K mainGlobals "set" = some none)
    (z_tuple : PySem.W.nsIn K mainGlobals "tuple" = some none)
    (z_list : PySem.W.nsIn K mainGlobals "list" = some none)
    (z_isinstance : PySem.W.nsIn K mainGlobals "isinstance" = some none)
    (z_all : PySem.W.nsIn K mainGlobals "all" = some none)
    (z_int : PySem.W.nsIn K mainGlobals "int" = some none)
    (z_max : PySem.W.nsIn K mainGlobals "max" = some none)
    (z_min : PySem.W.nsIn K mainGlobals "min" = some none)
    (z_str : PySem.W.nsIn K mainGlobals "str" = some none)
    (z_enumerate : PySem.W.nsIn K mainGlobals "enumerate" = some none)
    (z_bool : PySem.W.nsIn K mainGlobals "bool" = some none)
    (z_zip : PySem.W.nsIn K mainGlobals "zip" = some none)
    (z_repr : PySem.W.nsIn K mainGlobals "repr" = some none)
    (z_ValueError : PySem.W.nsIn K mainGlobals "ValueError" = some none)
    (aX_MeetError : PySem.W.nsIn K mainGlobals "MeetError" = some (some (.ref C_MeetError)))
    (sb_MeetError : PySem.W.subIn K (.ref C_MeetError) (.type "BaseException") = some true)
    (hx_MeetError : PySem.W.hasDictIn K C_MeetError = true)
    (tx_MeetError : PySem.W.typeIn K (.ref C_MeetError) = some (.type "type"))
    (ss_MeetError : PySem.W.subIn K (.ref C_MeetError) (.ref C_MeetError) = some true)
    (aX_NoLetter : PySem.W.nsIn K mainGlobals "NoLetter" = some (some (.ref C_NoLetter)))
    (sb_NoLetter : PySem.W.subIn K (.ref C_NoLetter) (.type "BaseException") = some true)
    (hx_NoLetter : PySem.W.hasDictIn K C_NoLetter = true)
    (tx_NoLetter : PySem.W.typeIn K (.ref C_NoLetter) = some (.type "type"))
    (ss_NoLetter : PySem.W.subIn K (.ref C_NoLetter) (.ref C_NoLetter) = some true)
    (xL_NoLetter : K.lookup C_NoLetter = some (excClassObj nmX0 qX0 C_NoLetter NX0 bsX0 [.ref C_MeetError, .type "ValueError", .type "Exception", .type "BaseException", .type "object"] true snX0 subX0 abX0 colX0 ddX0 m0X0 m1X0 m2X0 m3X0 m5X0 "ValueError.__new__"))
    (sx_NoLetter : PySem.W.findIn K (.ref C_NoLetter) "__setattr__" = some (some (.builtin "object.__setattr__")))
    (kx_NoLetter : PySem.W.keepIn K (.ref C_NoLetter) = true)
    (gx_NoLetter : PySem.W.findIn K (.ref C_NoLetter) "__getattribute__" = some (some (.builtin "BaseException.__getattribute__")))
    (gg_NoLetter : PySem.W.findIn K (.ref C_NoLetter) "__getattr__" = some none)
    (gc_NoLetter : PySem.W.findIn K (.ref C_NoLetter) "__class__" = some (some (.builtin "object.__class__")))
    (mo_NoLetter : PySem.W.mroIn K C_NoLetter (.type "object") = some true)
    (oc1 : PySem.W.specialIn K (.builtin "object.__class__") "__get__" = some (some (.builtin "getset_descriptor.__get__")))
    (oc2 : PySem.W.takesIn K (.builtin "object.__class__") = some true)
    (n_NoLetter_letter : PySem.W.findIn K (.ref C_NoLetter) "letter" = some none)
    (sp_NoLetter_MeetError : PySem.W.subIn K (.ref C_NoLetter) (.ref C_MeetError) = some true)
    (st_NoLetter_ValueError : PySem.W.subIn K (.ref C_NoLetter) (.type "ValueError") = some true)
    (iX_NoLetter : PySem.W.findIn K (.ref C_NoLetter) "__init__" = some (some (.ref f_NoLetter)))
    (tI_NoLetter : PySem.W.typeIn K (.ref f_NoLetter) = some (.type "function"))
    (lI_NoLetter : K.lookup f_NoLetter = some ⟨ocI0, odI0, .func (PySem.W.fnOf "__init__" "NoLetter.__init__" (defArgs s_NoLetter_init) (defBody s_NoLetter_init) (defScope s_NoLetter_init) .none kVI0 dcI0 pmI0 anI0 cdI0 ctI0), slI0⟩)
    (cI_NoLetter : PySem.W.codeIn K cdI0 "NoLetter.__init__" = true)
    (kI_NoLetter : PySem.W.keepIn K (.ref f_NoLetter) = true)
    (mo1 : PySem.W.specialIn K (.ref C_MeetError) "__getattribute__" = some (some (.builtin "type.__getattribute__")))
    (mo2 : PySem.W.readsIn K C_MeetError (.type "type") = true)
    (mo3 : PySem.W.findCls K (.ref C_MeetError) (.type "type") "__init__" = some (.val (.builtin "ValueError.__init__")))
    : ∃ fd : FuncData, (∀ (s : Shared) (v : Value), BindsTo s fd ⟨[v], []⟩ [("_law_script", v)]) ∧ ∀ base : Heap, K.In base → base.Ns mainGlobals mg → FnG l.prog w K mg base 8 fa fd ["_law_script"] (c_law K).sp := by
  have e := hfa.symm.trans (PySem.W.mg_of X G a13)
  cases e
  have F0 := fun_mk (st := s_cell) l0 c0 k0
  have b0 := F0.binds (ps := ["_law_script", "_law_k"]) fun _ _ _ _ _ _ us hl => match us, hl with | [_, _], _ => rfl
  have F1 := fun_mk (st := s_flow) l1 c1 k1
  have b1 := F1.binds (ps := ["_law_script", "_law_k"]) fun _ _ _ _ _ _ us hl => match us, hl with | [_, _], _ => rfl
  have F2 := fun_mk (st := s_draw) l2 c2 k2
  have b2 := F2.binds (ps := ["_law_flow_here", "_law_many"]) fun _ _ _ _ _ _ us hl => match us, hl with | [_, _], _ => rfl
  have F3 := fun_mk (st := s_names) l3 c3 k3
  have b3 := F3.binds (ps := ["_law_flow_here", "_law_many"]) fun _ _ _ _ _ _ us hl => match us, hl with | [_, _], _ => rfl
  have F4 := fun_mk (st := s_Machine_init) l4 c4 k4
  have b4 := F4.binds (ps := ["self", "letters", "table", "good"]) fun _ _ _ _ _ _ us hl => match us, hl with | [_, _, _, _], _ => rfl
  have F5 := fun_mk (st := s_Machine_place_of) l5 c5 k5
  have b5 := F5.binds (ps := ["self", "letter"]) fun _ _ _ _ _ _ us hl => match us, hl with | [_, _], _ => rfl
  have F6 := fun_mk (st := s_run) l6 c6 k6
  have b6 := F6.binds (ps := ["machine", "row"]) fun _ _ _ _ _ _ us hl => match us, hl with | [_, _], _ => rfl
  have F7 := fun_mk (st := s_lets_by) l7 c7 k7
  have b7 := F7.binds (ps := ["machine", "row"]) fun _ _ _ _ _ _ us hl => match us, hl with | [_, _], _ => rfl
  have F8 := fun_mk (st := s_machine) l8 c8 k8
  have b8 := F8.binds (ps := ["_law_flow_here", "_law_many", "_law_letters"]) fun _ _ _ _ _ _ us hl => match us, hl with | [_, _, _], _ => rfl
  have F9 := fun_mk (st := s_case) l9 c9 k9
  have b9 := F9.binds (ps := ["_law_script", "_law_k"]) fun _ _ _ _ _ _ us hl => match us, hl with | [_, _], _ => rfl
  have F10 := fun_mk (st := s_made) l10 c10 k10
  have b10 := F10.binds (ps := ["_law_case_here"]) fun _ _ _ _ _ _ us hl => match us, hl with | [_], _ => rfl
  have F11 := fun_mk (st := s_refused_run) l11 c11 k11
  have b11 := F11.binds (ps := ["_law_asked", "_law_machine_here", "_law_row"]) fun _ _ _ _ _ _ us hl => match us, hl with | [_, _, _], _ => rfl
  have F12 := fun_mk (st := s_right) l12 c12 k12
  have b12 := F12.binds (ps := ["_law_machine_here", "_law_case_here"]) fun _ _ _ _ _ _ us hl => match us, hl with | [_, _], _ => rfl
  have F13 := fun_mk (st := s_law) l13 c13 k13
  have b13 := F13.binds (ps := ["_law_script"]) fun _ _ _ _ _ _ us hl => match us, hl with | [_], _ => rfl
  have bs : Bs mg := ⟨PySem.W.mg_none_of X G z_len, by decide +kernel, PySem.W.mg_none_of X G z_range, by decide +kernel, PySem.W.mg_none_of X G z_sorted, by decide +kernel, PySem.W.mg_none_of X G z_set, by decide +kernel, PySem.W.mg_none_of X G z_tuple, by decide +kernel, PySem.W.mg_none_of X G z_list, by decide +kernel, PySem.W.mg_none_of X G z_isinstance, by decide +kernel, PySem.W.mg_none_of X G z_all, by decide +kernel, PySem.W.mg_none_of X G z_int, by decide +kernel, PySem.W.mg_none_of X G z_max, by decide +kernel, PySem.W.mg_none_of X G z_min, by decide +kernel, PySem.W.mg_none_of X G z_str, by decide +kernel, PySem.W.mg_none_of X G z_enumerate, by decide +kernel, PySem.W.mg_none_of X G z_bool, by decide +kernel, PySem.W.mg_none_of X G z_zip, by decide +kernel, PySem.W.mg_none_of X G z_repr, by decide +kernel, PySem.W.mg_none_of X G z_ValueError, by decide +kernel⟩
  have cl_Machine : Cl_Machine K C_Machine := ⟨⟨pg_Machine, hd_Machine, po_Machine, sa_Machine⟩, n_Machine_letters, n_Machine_table, n_Machine_good⟩
  have ox_NoLetter : OexC K C_NoLetter := { cls := ⟨_, _, _, _, _, _, _, _, _, _, _, _, _, _, _, xL_NoLetter, rfl⟩, sa := sx_NoLetter, exC := sb_NoLetter, tyC := tx_NoLetter, kC := kx_NoLetter }
  have is_NoLetter : ExcC K C_NoLetter := { hg := gx_NoLetter, hk := gg_NoLetter, hs := sb_NoLetter, hd := hx_NoLetter, ha := gc_NoLetter, hn := oc1, ht := oc2, hm := mo_NoLetter }
  have xs : Xs K mg ({ NoLetter := C_NoLetter } : XA) C_MeetError := ⟨⟨PySem.W.mg_of X G aX_NoLetter, ox_NoLetter, is_NoLetter⟩, PySem.W.mg_of X G aX_MeetError, PySem.W.mg_of X G aX_NoLetter, n_NoLetter_letter, kit_ref sb_MeetError hx_MeetError tx_MeetError ss_MeetError sp_NoLetter_MeetError, kit_typ st_NoLetter_ValueError, PySem.W.exm_ref sb_NoLetter hx_NoLetter tx_NoLetter ss_NoLetter⟩
  have FI_NoLetter := fun_mk (st := s_NoLetter_init) lI_NoLetter cI_NoLetter kI_NoLetter
  have bI_NoLetter := FI_NoLetter.binds (ps := ["self", "letter"]) fun _ _ _ _ _ _ us hl => match us, hl with | [_, _], _ => rfl
  refine ⟨PySem.W.fnOf "law" "law" (defArgs s_law) (defBody s_law) (defScope s_law) .none kV13 dc13 pm13 an13 cd13 ct13, fun s v => .of_eq rfl, fun base _ _ => ?_⟩
  have mot : MoT K mg "MeetError" C_MeetError := ⟨PySem.W.mg_of X G aX_MeetError, mo1, mo2, mo3⟩
  have xi_NoLetter : XiT l.prog w K mg base C_NoLetter 1 ["self", "letter"] (spX1 C_NoLetter "letter") f_NoLetter _ := ⟨iX_NoLetter, tI_NoLetter, ok_NoLetter_init ox_NoLetter mot n_NoLetter_letter FI_NoLetter, bI_NoLetter⟩
  have g_cell : Cal l.prog w K mg base "_law_cell" 1 ["_law_script", "_law_k"] (c_cell K).sp f_cell _ := ⟨ok_cell bs F0, PySem.W.mg_of X G a0, k0, b0⟩
  have g_flow : Cal l.prog w K mg base "_law_flow" 2 ["_law_script", "_law_k"] (c_flow K).sp f_flow _ := ⟨ok_flow bs g_cell F1, PySem.W.mg_of X G a1, k1, b1⟩
  have g_draw : Cal l.prog w K mg base "_law_draw" 1 ["_law_flow_here", "_law_many"] (c_draw K).sp f_draw _ := ⟨ok_draw bs F2, PySem.W.mg_of X G a2, k2, b2⟩
  have g_names : Cal l.prog w K mg base "_law_names" 2 ["_law_flow_here", "_law_many"] (c_names K).sp f_names _ := ⟨ok_names bs g_draw F3, PySem.W.mg_of X G a3, k3, b3⟩
  have g_Machine_init : MkC l.prog w K mg base C_Machine "Machine" 2 ["self", "letters", "table", "good"] (c_Machine_init K C_Machine).sp f_Machine_init _ := ⟨ok_Machine_init bs cl_Machine F4, PySem.W.mg_of X G aC_Machine, ⟨mk_Machine, a4, i4, kc_Machine⟩, b4⟩
  have g_Machine_place_of : Mth l.prog w K mg base C_Machine "place_of" 3 ["self", "letter"] (c_Machine_place_of K C_Machine ({ NoLetter := C_NoLetter } : XA)).sp f_Machine_place_of _ := ⟨ok_Machine_place_of bs (xa := ({ NoLetter := C_NoLetter } : XA)) xs xi_NoLetter cl_Machine F5, ⟨a5, i5, k5⟩, b5⟩
  have g_run : Cal l.prog w K mg base "run" 4 ["machine", "row"] (c_run K C_Machine ({ NoLetter := C_NoLetter } : XA)).sp f_run _ := ⟨ok_run bs (xa := ({ NoLetter := C_NoLetter } : XA)) xs cl_Machine g_Machine_place_of F6, PySem.W.mg_of X G a6, k6, b6⟩
  have g_lets_by : Cal l.prog w K mg base "lets_by" 5 ["machine", "row"] (c_lets_by K C_Machine ({ NoLetter := C_NoLetter } : XA)).sp f_lets_by _ := ⟨ok_lets_by bs (xa := ({ NoLetter := C_NoLetter } : XA)) xs cl_Machine g_run F7, PySem.W.mg_of X G a7, k7, b7⟩
  have g_machine : Cal l.prog w K mg base "_law_machine" 2 ["_law_flow_here", "_law_many", "_law_letters"] (c_machine K).sp f_machine _ := ⟨ok_machine bs g_draw F8, PySem.W.mg_of X G a8, k8, b8⟩
  have g_case : Cal l.prog w K mg base "_law_case" 3 ["_law_script", "_law_k"] (c_case K).sp f_case _ := ⟨ok_case bs g_draw g_flow g_machine g_names F9, PySem.W.mg_of X G a9, k9, b9⟩
  have g_made : Cal l.prog w K mg base "_law_made" 4 ["_law_case_here"] (c_made K C_Machine).sp f_made _ := ⟨ok_made bs cl_Machine g_Machine_init F10, PySem.W.mg_of X G a10, k10, b10⟩
  have g_refused_run : Cal l.prog w K mg base "_law_refused" 6 ["_law_asked", "_law_machine_here", "_law_row"] (c_refused_run K C_Machine f_run).sp f_refused _ := ⟨ok_refused_run bs (xa := ({ NoLetter := C_NoLetter } : XA)) xs cl_Machine g_run F11, PySem.W.mg_of X G a11, k11, b11⟩
  have g_refused_lets_by : Cal l.prog w K mg base "_law_refused" 6 ["_law_asked", "_law_machine_here", "_law_row"] (c_refused_lets_by K C_Machine f_lets_by).sp f_refused _ := ⟨ok_refused_lets_by bs (xa := ({ NoLetter := C_NoLetter } : XA)) xs cl_Machine g_lets_by F11, PySem.W.mg_of X G a11, k11, b11⟩
  have g_right : CalG l.prog w K mg base "_law_right" 7 ["_law_machine_here", "_law_case_here"] (c_right K C_Machine).sp f_right _ := ⟨ok_right bs (xa := ({ NoLetter := C_NoLetter } : XA)) xs cl_Machine g_lets_by g_run g_refused_run g_refused_lets_by F12, PySem.W.mg_of X G a12, k12, b12⟩
  exact ok_law bs cl_Machine g_case g_made g_right F13
theorem walk {l : PySem.W.OpenLaw} {q : Program} {loose : List Str} {XP : (Str → Option Value) → Heap → Prop} {YP : World → Heap → Prop} {d : DefRec} {K : Params → PySem.W.Frag} (hn : l.most = some 63) (hdf : d.params.defaults = [])
    (hY : ∀ (w : World) (h : Heap), YP w h → (K w.params).In h)
    (F : ∀ (w : World) (mg : Str → Option Value) (fa : Addr) (h : Heap), (K w.params).In h → h.Ns mainGlobals mg → mg d.name = some (.ref fa) →
      ∃ fd : FuncData, (∀ (s : Shared) (u : Value), BindsTo s fd ⟨[u], []⟩ [("_law_script", u)]) ∧ ∀ base : Heap, (K w.params).In base → base.Ns mainGlobals mg → FnG l.prog w (K w.params) mg base 8 fa fd ["_law_script"] (c_law (K w.params)).sp) :
    PySem.W.WalkO q loose XP YP l.row.toRowW d [] (fun f vs => PySem.call f vs) :=
  MD.walk_ofG (n := 63) (k := 8) (x := "_law_script") (sp := fun w => (c_law (K w.params)).sp) hn (by decide) hdf ⟨rfl, by decide, by decide⟩ hY F
    (fun w H a ns hl _ hS => law_sp hl hS) (fun w H s e s' z => by obtain ⟨_, _, _, _, _, _, _, _, _, _, _, _, h⟩ := z; exact h)
end K07
open PySem PySem.W PyProof.Rows in
set_option maxRecDepth 100000 in
set_option maxHeartbeats 0 in
theorem PySem.Challenge.cw_meetdesks_k07_runs_and_rows_let_by_holds : PySem.Challenge.rw_meetdesks_k07_runs_and_rows_let_by.Holds := by
  w_on; o_law; k_head; (case hw => w_witness2)
  k_fill
  refine K07.walk (l := PySem.Challenge.rw_meetdesks_k07_runs_and_rows_let_by) rfl rfl (fun w h Y => PySem.W.kIn_of Y) ?F
  case F =>
    intro w mg fa h KX G hmg
    refine' K07.all_mk KX G hmg ?aC_Machine ?a0 ?l0 ?c0 ?k0 ?a1 ?l1 ?c1 ?k1 ?a2 ?l2 ?c2 ?k2 ?a3 ?l3 ?c3 ?k3 ?a4 ?i4 ?l4 ?c4 ?k4 ?a5 ?i5 ?l5 ?c5 ?k5 ?a6 ?l6 ?c6 ?k6 ?a7 ?l7 ?c7 ?k7 ?a8 ?l8 ?c8 ?k8 ?a9 ?l9 ?c9 ?k9 ?a10 ?l10 ?c10 ?k10 ?a11 ?l11 ?c11 ?k11 ?a12 ?l12 ?c12 ?k12 ?a13 ?l13 ?c13 ?k13 ?pg_Machine ?hd_Machine ?po_Machine ?sa_Machine ?mk_Machine ?kc_Machine ?n_Machine_letters ?n_Machine_table ?n_Machine_good ?z_len ?z_range ?z_sorted ?z_set ?z_tuple ?z_list ?z_isinstance ?z_all ?z_int ?z_max ?z_min ?z_str ?z_enumerate ?z_bool ?z_zip ?z_repr ?z_ValueError ?aX_MeetError ?sb_MeetError ?hx_MeetError ?tx_MeetError ?ss_MeetError ?aX_NoLetter ?sb_NoLetter ?hx_NoLetter ?tx_NoLetter ?ss_NoLetter ?xL_NoLetter ?sx_NoLetter ?kx_NoLetter ?gx_NoLetter ?gg_NoLetter ?gc_NoLetter ?mo_NoLetter ?oc1 ?oc2 ?n_NoLetter_letter ?sp_NoLetter_MeetError ?st_NoLetter_ValueError ?iX_NoLetter ?tI_NoLetter ?lI_NoLetter ?cI_NoLetter ?kI_NoLetter ?mo1 ?mo2 ?mo3
    (case aC_Machine => k_is)
    (case a0 => k_is)
    (case l0 => k_is)
    (case c0 => k_is)
    (case k0 => k_is)
    (case a1 => k_is)
    (case l1 => k_is)
    (case c1 => k_is)
    (case k1 => k_is)
    (case a2 => k_is)
    (case l2 => k_is)
    (case c2 => k_is)
    (case k2 => k_is)
    (case a3 => k_is)
    (case l3 => k_is)
    (case c3 => k_is)
    (case k3 => k_is)
    (case a4 => k_is)
    (case i4 => k_is)
    (case l4 => k_is)
    (case c4 => k_is)
    (case k4 => k_is)
    (case a5 => k_is)
    (case i5 => k_is)
    (case l5 => k_is)
    (case c5 => k_is)
    (case k5 => k_is)
    (case a6 => k_is)
    (case l6 => k_is)
    (case c6 => k_is)
    (case k6 => k_is)
    (case a7 => k_is)
    (case l7 => k_is)
    (case c7 => k_is)
    (case k7 => k_is)
    (case a8 => k_is)
    (case l8 => k_is)
    (case c8 => k_is)
    (case k8 => k_is)
    (case a9 => k_is)
    (case l9 => k_is)
    (case c9 => k_is)
    (case k9 => k_is)
    (case a10 => k_is)
    (case l10 => k_is)
    (case c10 => k_is)
    (case k10 => k_is)
    (case a11 => k_is)
    (case l11 => k_is)
    (case c11 => k_is)
    (case k11 => k_is)
    (case a12 => k_is)
    (case l12 => k_is)
    (case c12 => k_is)
    (case k12 => k_is)
    (case a13 => k_is)
    (case l13 => k_is)
    (case c13 => k_is)
    (case k13 => k_is)
    (case pg_Machine => k_is)
    (case hd_Machine => k_is)
    (case po_Machine => k_is)
    (case sa_Machine => k_is)
    (case mk_Machine => k_is)
    (case kc_Machine => k_is)
    (case n_Machine_letters => k_is)
    (case n_Machine_table => k_is)
    (case n_Machine_good => k_is)
    (case z_len => k_is)
    (case z_range => k_is)
    (case z_sorted => k_is)
    (case z_set => k_is)
    (case z_tuple => k_is)
    (case z_list => k_is)
    (case z_isinstance => k_is)
    (case z_all => k_is)
    (case z_int => k_is)
    (case z_max => k_is)
    (case z_min => k_is)
    (case z_str => k_is)
    (case z_enumerate => k_is)
    (case z_bool => k_is)
    (case z_zip => k_is)
    (case z_repr => k_is)
    (case z_ValueError => k_is)
    (case aX_MeetError => k_is)
    (case sb_MeetError => k_is)
    (case hx_MeetError => k_is)
    (case tx_MeetError => k_is)
    (case ss_MeetError => k_is)
    (case aX_NoLetter => k_is)
    (case sb_NoLetter => k_is)
    (case hx_NoLetter => k_is)
    (case tx_NoLetter => k_is)
    (case ss_NoLetter => k_is)
    (case xL_NoLetter => k_is)
    (case sx_NoLetter => k_is)
    (case kx_NoLetter => k_is)
    (case gx_NoLetter => k_is)
    (case gg_NoLetter => k_is)
    (case gc_NoLetter => k_is)
    (case mo_NoLetter => k_is)
    (case oc1 => k_is)
    (case oc2 => k_is)
    (case n_NoLetter_letter => k_is)
    (case sp_NoLetter_MeetError => k_is)
    (case st_NoLetter_ValueError => k_is)
    (case iX_NoLetter => k_is)
    (case tI_NoLetter => k_is)
    (case lI_NoLetter => k_is)
    (case cI_NoLetter => k_is)
    (case kI_NoLetter => k_is)
    (case mo1 => k_is)
    (case mo2 => k_is)
    (case mo3 => k_is)
