import PyProof.Rows.All
import Wide.All
import OpenK.AllK
import Wide.FinOn
import HandS.ForMost
import HandS.Exc
import HandS.ForSpec
import HandS.Zip
import HandS.Strs
import HandS.SetFor
import HandS.SortInts
import HandS.IsInst
import HandS.WordsDict
import HandS.TupAny
import KE.GoesEnum
import HandS.Text
import HandS.ExcInit
import HandS.ExcIs
import KE.KExcIs
import HandS.TryMany
import HandS.Style
import HandS.HotCalls
import HandS.TupLe
import PyProof.FitsReplace
import HandS.Ends
import PyProof.ReprRoads
import HandS.Conv
import HandS.More
import PySem.Challenge.RW_meetdesks_k13_texts_of_no_machine
set_option Elab.async false
set_option linter.all false
set_option maxRecDepth 100000
set_option maxHeartbeats 4000000
/-! MD: typed judgements over the hand layer: what is frozen is plain data, what is owned is a cell; a def's walk gives a condition in plain Lean. -/
namespace MD
open PySem PySem.Spec PyProof.Rows L2
/-! ### the weakest readings -/
section
variable (X : Cx)
def WE (e : Expr) : TE := fun σ H Q => ∀ pins s, Inv X pins σ H s → wpAny (model X.prog X.w) X.A (eval e X.env) (EP X pins σ Q) X.xe s
def WT (e : Expr) : TT := fun σ H Q => ∀ pins s, Inv X pins σ H s → wpAny (model X.prog X.w) X.A (isTrue e X.env (eval e X.env)) (TP X pins σ Q) X.xe s
def WW (e : Expr) : TT := fun σ H Q => ∀ (wh : Sem Value) pins s, Inv X pins σ H s → wpAny (model X.prog X.w) X.A (isTrue e X.env wh) (TP X pins σ Q) X.xe s
def WA (es : List Expr) : TA := fun σ H Q => ∀ (pos : Pos) pins s, Inv X pins σ H s → wpAny (model X.prog X.w) X.A (spliced (backTo pos (starEach es X.env))) (AP X pins σ Q) X.xe s
def WS (st : Stmt) : TS := fun D σ H => ∀ pins s, Inv X pins σ H s → wpAny (model X.prog X.w) X.A (exec st X.env) (SP X pins D) X.xe s
def WB (st : List Stmt) : TS := fun D σ H => ∀ pins s, Inv X pins σ H s → wpAny (model X.prog X.w) X.A (execs st X.env) (SP X pins D) X.xe s
def WG (tg : Expr) : TG := fun v σ H Q => ∀ pins s u, Inv X pins σ H s → RelV v u → wpAny (model X.prog X.w) X.A (assign tg X.env u) (fun _ s' => ∃ σ' H', Inv X pins σ' H' s' ∧ Q σ' H') X.xe s
def WGs (tgs : List Expr) : TGs := fun vs σ H Q => ∀ pins s us, Inv X pins σ H s → Vals vs us →
    wpAny (model X.prog X.w) X.A (assignInOrder ((assignEach tgs X.env).map (·.2)) us) (fun _ s' => ∃ σ' H', Inv X pins σ' H' s' ∧ Q σ' H') X.xe s
def WI (tg iter : Expr) : TI := fun σ H R => ∀ pins s, Inv X pins σ H s → wpAny (model X.prog X.w) X.A (eval iter X.env) (fun v s1 => wpAny (model X.prog X.w) X.A (pyIter v) (PIE X pins σ tg R) X.xe s1) X.xe s
def WTs (ifs : List Expr) : TT := fun σ H Q => ∀ pins s, Inv X pins σ H s →
    wpAny (model X.prog X.w) X.A (forIn ifs true fun c r => if r = true then do let ok ← isTrue c X.env (eval c X.env); pure (ForInStep.yield ok) else pure (ForInStep.yield r)) (TP X pins σ Q) X.xe s
end
section
variable {X : Cx}
theorem pe_w {e : Expr} : PE X e (WE X e) := ⟨fun pins s _ _ _ I h => h pins s I⟩
theorem pt_w {e : Expr} : PT X e (WT X e) := ⟨fun pins s _ _ _ I h => h pins s I⟩
theorem pw_w {e : Expr} : PW X e (WW X e) := ⟨fun wh pins s _ _ _ I h => h wh pins s I⟩
theorem pa_w {es : List Expr} : PA X es (WA X es) := ⟨fun pos pins s _ _ _ I h => h pos pins s I⟩
theorem ps_w {st : Stmt} : PS X st (WS X st) := ⟨fun pins s _ _ _ I h => h pins s I⟩
theorem pss_w {st : List Stmt} : PSs X st (WB X st) := ⟨fun pins s _ _ _ I h => h pins s I⟩
theorem pg_w {tg : Expr} : PG X tg (WG X tg) := ⟨fun pins s _ _ _ u _ I r h => h pins s u I r⟩
theorem pgs_w {tgs : List Expr} : PGs X tgs (WGs X tgs) := ⟨fun pins s _ _ _ us _ I r h => h pins s us I r⟩
theorem pi_w {tg iter : Expr} : PI X tg iter (WI X tg iter) := ⟨fun pins s _ _ _ I h => h pins s I⟩
theorem we {e : Expr} {t : TE} (h : PE X e t) {σ H Q} (q : t σ H Q) : WE X e σ H Q := fun pins s I => h.run pins s σ H Q I q
theorem wt {e : Expr} {t : TT} (h : PT X e t) {σ H Q} (q : t σ H Q) : WT X e σ H Q := fun pins s I => h.run pins s σ H Q I q
theorem ww {e : Expr} {t : TT} (h : PW X e t) {σ H Q} (q : t σ H Q) : WW X e σ H Q := fun wh pins s I => h.run wh pins s σ H Q I q
theorem wa {es : List Expr} {t : TA} (h : PA X es t) {σ H Q} (q : t σ H Q) : WA X es σ H Q := fun pos pins s I => h.run pos pins s σ H Q I q
theorem ws {st : Stmt} {t : TS} (h : PS X st t) {D σ H} (q : t D σ H) : WS X st D σ H := fun pins s I => h.run pins s σ H D I q
theorem wb {st : List Stmt} {t : TS} (h : PSs X st t) {D σ H} (q : t D σ H) : WB X st D σ H := fun pins s I => h.run pins s σ H D I q
theorem wg {tg : Expr} {t : TG} (h : PG X tg t) {v σ H Q} (q : t v σ H Q) : WG X tg v σ H Q := fun pins s u I r => h.run pins s σ H v u Q I r q
theorem wgs {tgs : List Expr} {t : TGs} (h : PGs X tgs t) {vs σ H Q} (q : t vs σ H Q) : WGs X tgs vs σ H Q := fun pins s us I r => h.run pins s σ H vs us Q I r q
theorem wi {tg iter : Expr} {t : TI} (h : PI X tg iter t) {σ H R} (q : t σ H R) : WI X tg iter σ H R := fun pins s I => h.run pins s σ H R I q
theorem wts {ifs : List Expr} {t : TT} (h : PTs X ifs t) {σ H Q} (q : t σ H Q) : WTs X ifs σ H Q := fun pins s I => h.run pins s σ H Q I q
end
/-! ### types -/
structure Ty (K : PySem.W.Frag) (α : Type) where
  rep : Hp → V → α → Prop
  mono : ∀ {F F' : Hp} {v : V} {x : α}, Same F F' → rep F v x → rep F' v x
/-- several values in a row -/
structure Tys (K : PySem.W.Frag) (α : Type) where
  rep : Hp → List V → α → Prop
  mono : ∀ {F F' : Hp} {v : List V} {x : α}, Same F F' → rep F v x → rep F' v x
theorem same_rd {H H' : Hp} {a : Addr} {u : HO} (e : Same H H') (h : Rd H a u) : Rd H' a u := by
  rcases h with h | ⟨o, h⟩
  · exact .inl (e a _ h)
  · exact .inr ⟨o, e a _ h⟩
theorem paired_mono {α β : Type} {f g : α → β → Prop} (h : ∀ a b, f a b → g a b) : ∀ {xs : List α} {ys : List β}, Paired f xs ys → Paired g xs ys
  | _, _, .nil => .nil
  | _, _, .cons r t => .cons (h _ _ r) (paired_mono h t)
section
variable {K : PySem.W.Frag} {α β γ : Type}
def tI : Ty K Int := ⟨fun _ v x => v = .int x, fun _ h => h⟩
def tB : Ty K Bool := ⟨fun _ v x => v = .bl x, fun _ h => h⟩
def tS : Ty K Str := ⟨fun _ v x => v = .str x ∧ PySem.PyData.strOk x = true, fun _ h => h⟩
def tN : Ty K Unit := ⟨fun _ v _ => v = .non, fun _ h => h⟩
def tR : Ty K Addr := ⟨fun _ v x => v = .ref x, fun _ h => h⟩
def tO (T : Ty K α) : Ty K (Option α) := ⟨fun F v x => match x with | none => v = .non | some y => T.rep F v y, fun {F F' v x} e h => by
  cases x with
  | none => exact h
  | some y => exact T.mono e h⟩
def Rl (T : Ty K α) (F : Hp) : List V → List α → Prop := Paired (T.rep F)
theorem Rl.mono {T : Ty K α} {F F' : Hp} {vs : List V} {xs : List α} (e : Same F F') (h : Rl T F vs xs) : Rl T F' vs xs := paired_mono (fun _ _ r => T.mono e r) h
def tL (T : Ty K α) : Ty K (List α) := ⟨fun F v xs => ∃ a vs, v = .ref a ∧ F a = some (.lst vs) ∧ Rl T F vs xs ∧ vs.length ≤ sizeLine, fun e ⟨a, vs, h1, h2, h3, h4⟩ => ⟨a, vs, h1, e _ _ h2, h3.mono e, h4⟩⟩
/-- a list that may be the module's own, or the script -/
def tLK (T : Ty K α) : Ty K (List α) := ⟨fun F v xs => ∃ a vs, v = .ref a ∧ SqL K F a vs ∧ Rl T F vs xs ∧ vs.length ≤ sizeLine, fun e ⟨a, vs, h1, h2, h3, h4⟩ => ⟨a, vs, h1, e.seq h2, h3.mono e, h4⟩⟩
def tU (T : Ty K α) : Ty K (List α) := ⟨fun F v xs => ∃ a vs, v = .ref a ∧ Rd F a (.tup vs) ∧ Rl T F vs xs ∧ vs.length ≤ sizeLine, fun e ⟨a, vs, h1, h2, h3, h4⟩ => ⟨a, vs, h1, same_rd e h2, h3.mono e, h4⟩⟩
def ts0 : Tys K Unit := ⟨fun _ vs _ => vs = [], fun _ h => h⟩
def ts1 (T : Ty K α) : Tys K α := ⟨fun F vs x => ∃ v, vs = [v] ∧ T.rep F v x, fun e ⟨v, h, r⟩ => ⟨v, h, T.mono e r⟩⟩
def tsC (T : Ty K α) (Ts : Tys K β) : Tys K (α × β) := ⟨fun F vs x => ∃ v r, vs = v :: r ∧ T.rep F v x.1 ∧ Ts.rep F r x.2, fun e ⟨v, r, h, a, b⟩ => ⟨v, r, h, T.mono e a, Ts.mono e b⟩⟩
/-- a tuple of written places -/
def tT (Ts : Tys K α) : Ty K α := ⟨fun F v x => ∃ a vs, v = .ref a ∧ F a = some (.tup vs) ∧ Ts.rep F vs x, fun e ⟨a, vs, h1, h2, h3⟩ => ⟨a, vs, h1, e _ _ h2, Ts.mono e h3⟩⟩
def tP (T : Ty K α) (U : Ty K β) : Ty K (α × β) := tT (tsC T (ts1 U))
end
/-! ### slots, cells -/
inductive Slot (K : PySem.W.Frag) : Type 1 where
  | un
  | val {α : Type} (T : Ty K α) (x : α)
def Slot.ok {K : PySem.W.Frag} (F : Hp) : Slot K → Option V → Prop
  | .un, _ => True
  | .val T x, o => ∃ v, o = some v ∧ T.rep F v x
theorem Slot.ok.mono {K : PySem.W.Frag} {F F' : Hp} (e : Same F F') : ∀ {s : Slot K} {o : Option V}, Slot.ok F s o → Slot.ok F' s o
  | .un, _, _ => trivial
  | .val T _, _, ⟨v, h, r⟩ => ⟨v, h, T.mono e r⟩
/-- what lies in a cell -/
structure CK (K : PySem.W.Frag) where
  rep : Hp → HO → Prop
  mono : ∀ {F F' : Hp} {o : HO}, Same F F' → rep F o → rep F' o
structure Cell (K : PySem.W.Frag) where
  a : Addr
  ck : CK K
def cL {K : PySem.W.Frag} {α : Type} (T : Ty K α) (xs : List α) : CK K := ⟨fun F o => ∃ vs, o = .lst vs ∧ Rl T F vs xs ∧ vs.length ≤ sizeLine, fun e ⟨vs, h, r, z⟩ => ⟨vs, h, r.mono e, z⟩⟩
/-- paired lists over any universe -/
inductive Prd {α : Type 1} {β : Type} (R : α → β → Prop) : List α → List β → Prop
  | nil : Prd R [] []
  | cons {a : α} {b : β} {as : List α} {bs : List β} : R a b → Prd R as bs → Prd R (a :: as) (b :: bs)
section
variable {α : Type 1} {β : Type} {R S : α → β → Prop}
theorem Prd.mono (h : ∀ a b, R a b → S a b) : ∀ {xs : List α} {ys : List β}, Prd R xs ys → Prd S xs ys
  | _, _, .nil => .nil
  | _, _, .cons r t => .cons (h _ _ r) (Prd.mono h t)
theorem Prd.get : ∀ {xs : List α} {ys : List β} {i : Nat} {x : α}, Prd R xs ys → xs[i]? = some x → ∃ y, ys[i]? = some y ∧ R x y
  | _, _, _, _, .nil, e => by simp at e
  | _, _, 0, _, .cons r _, e => by simp at e; subst e; exact ⟨_, rfl, r⟩
  | _, _, i + 1, x, .cons _ t, e => by
    obtain ⟨u, h1, h2⟩ := Prd.get (i := i) (x := x) t (by simpa using e)
    exact ⟨u, by simpa using h1, h2⟩
theorem Prd.set {x : α} {u : β} (r : R x u) : ∀ {xs : List α} {ys : List β} (i : Nat), Prd R xs ys → Prd R (xs.set i x) (ys.set i u)
  | _, _, _, .nil => .nil
  | _, _, 0, .cons _ t => .cons r t
  | _, _, i + 1, .cons q t => .cons q (Prd.set r i t)
theorem Prd.length : ∀ {xs : List α} {ys : List β}, Prd R xs ys → xs.length = ys.length
  | _, _, .nil => rfl
  | _, _, .cons _ t => by rw [List.length_cons, List.length_cons, t.length]
theorem Prd.append {xs' : List α} {ys' : List β} : ∀ {xs : List α} {ys : List β}, Prd R xs ys → Prd R xs' ys' → Prd R (xs ++ xs') (ys ++ ys')
  | _, _, .nil, s => s
  | _, _, .cons r t, s => .cons r (Prd.append t s)
end
/-- a growth: F grows by new things, H keeps all -/
structure Grow (F H F' H' : Hp) : Prop where
  ff : Same F F'
  fh : Same F' H'
  hh : Same H H'
  fr : ∀ b, F b = none → F' b ≠ none → H b = none
section
variable {F F' H H' : Hp}
theorem Grow.refl (h : Same F H) : Grow F H F H := ⟨Same.refl F, h, Same.refl H, fun b h1 h2 => absurd h1 h2⟩
theorem Grow.trans {F1 H1 F2 H2 : Hp} (a : Grow F H F1 H1) (b : Grow F1 H1 F2 H2) : Grow F H F2 H2 where
  ff := a.ff.trans b.ff
  fh := b.fh
  hh := a.hh.trans b.hh
  fr := fun x h1 h2 => by
    by_cases h : F1 x = none
    · exact a.hh.free (b.fr x h h2)
    · exact a.fr x h1 h
/-- a new frozen thing -/
theorem grow_new (h : Same F H) {p : Addr} (hp : H p = none) (o : HO) : Grow F H (upd F p o) (upd H p o) where
  ff := fun b u e => by
    have : b ≠ p := fun z => by subst z; rw [h _ _ e] at hp; cases hp
    rw [upd_ne this]; exact e
  fh := fun b u e => by
    by_cases z : b = p
    · subst z; rw [upd_same] at e ⊢; exact e
    · rw [upd_ne z] at e ⊢; exact h _ _ e
  hh := fun b u e => by
    have : b ≠ p := fun z => by subst z; rw [e] at hp; cases hp
    rw [upd_ne this]; exact e
  fr := fun b n1 n2 => by
    by_cases z : b = p
    · subst z; exact hp
    · rw [upd_ne z] at n2; exact absurd n1 n2
end
/-- the weaker state that reading asks -/
structure Okw {K : PySem.W.Frag} (ρ : List (Slot K)) (cs : List (Cell K)) (F : Hp) (σ : L2.St) (H : Hp) : Prop where
  env : Prd (Slot.ok F) ρ σ
  same : Same F H
  cell : ∀ c ∈ cs, ∃ o, H c.a = some o ∧ c.ck.rep F o
section
variable {K : PySem.W.Frag} {ρ : List (Slot K)} {cs : List (Cell K)} {F F' H H' : Hp} {σ : L2.St}
theorem Okw.grow (o : Okw ρ cs F σ H) (g : Grow F H F' H') : Okw ρ cs F' σ H' :=
  ⟨o.env.mono fun _ _ r => r.mono g.ff, g.fh, fun c hc => let ⟨u, e, r⟩ := o.cell c hc; ⟨u, g.hh _ _ e, c.ck.mono g.ff r⟩⟩
theorem Okw.slot {α : Type} {T : Ty K α} {x : α} {i : Nat} (o : Okw ρ cs F σ H) (h : ρ[i]? = some (.val T x)) : ∃ v, σ[i]? = some (some v) ∧ T.rep F v x := by
  obtain ⟨u, h1, v, h2, r⟩ := o.env.get h
  subst h2
  exact ⟨v, h1, r⟩
end
/-! ### the judgements -/
section
/-- e gives x, if P; nothing that stands is changed -/
def PK (X : Cx) (e : Expr) (ρ : List (Slot X.K)) (cs : List (Cell X.K)) {α : Type} (T : Ty X.K α) (x : α) (P : Prop) : Prop :=
  ∀ F σ H, Okw ρ cs F σ H → P → ∀ Q : VK, (∀ v F' H', Grow F H F' H' → T.rep F' v x → Q v H') → WE X e σ H Q
def PAK (X : Cx) (es : List Expr) (ρ : List (Slot X.K)) (cs : List (Cell X.K)) {α : Type} (T : Tys X.K α) (x : α) (P : Prop) : Prop :=
  ∀ F σ H, Okw ρ cs F σ H → P → ∀ Q : List V → Hp → Prop, (∀ v F' H', Grow F H F' H' → T.rep F' v x → Q v H') → WA X es σ H Q
def PTK (X : Cx) (e : Expr) (ρ : List (Slot X.K)) (cs : List (Cell X.K)) (b : Bool) (P : Prop) : Prop :=
  ∀ F σ H, Okw ρ cs F σ H → P → ∀ Q : Bool → Hp → Prop, (∀ F' H', Grow F H F' H' → Q b H') → WT X e σ H Q
def PWK (X : Cx) (e : Expr) (ρ : List (Slot X.K)) (cs : List (Cell X.K)) (b : Bool) (P : Prop) : Prop :=
  ∀ F σ H, Okw ρ cs F σ H → P → ∀ Q : Bool → Hp → Prop, (∀ F' H', Grow F H F' H' → Q b H') → WW X e σ H Q
/-- an exception: its class, its fields -/
structure Exn (K : PySem.W.Frag) : Type 1 where
  c : Addr
  fs : List (Str × Slot K)
inductive FldOk {K : PySem.W.Frag} (F : Hp) : List (Str × Slot K) → List (Str × V) → Prop
  | nil : FldOk F [] []
  | cons {n : Str} {s : Slot K} {v : V} {as bs} : Slot.ok F s (some v) → FldOk F as bs → FldOk F ((n, s) :: as) ((n, v) :: bs)
def ExnRep {K : PySem.W.Frag} (F : Hp) (ex : Exn K) (cls : Value) (d : Option Addr) : Prop :=
  cls = .ref ex.c ∧ ((ex.fs = [] ∧ d = none) ∨ ∃ dd fs, d = some dd ∧ F dd = some (.xd fs) ∧ FldOk F ex.fs fs)
/-- what is wished of exceptions: ε of it, the cells kp as they were -/
structure Ec (K : PySem.W.Frag) : Type 1 where
  kp : List (Cell K)
  ε : Exn K → Prop
/-- the state that an expression asks -/
structure Okc {K : PySem.W.Frag} (ρ : List (Slot K)) (cs : List (Cell K)) (F : Hp) (σ : L2.St) (H : Hp) : Prop where
  env : Prd (Slot.ok F) ρ σ
  same : Same F H
  cell : ∀ c ∈ cs, F c.a = none ∧ ∃ o, H c.a = some o ∧ c.ck.rep F o
  nd : (cs.map Cell.a).Nodup
/-- from a state to another one: the cells cs alone have changed, and are cs' now, with new ones -/
structure Mv {K : PySem.W.Frag} (cs : List (Cell K)) (F H : Hp) (cs' : List (Cell K)) (F' H' : Hp) : Prop where
  ff : Same F F'
  fh : Same F' H'
  fr : ∀ b, F b = none → F' b ≠ none → H b = none
  kp : ∀ b o, H b = some o → (∀ c ∈ cs, c.a ≠ b) → H' b = some o
  cell : ∀ c ∈ cs', F' c.a = none ∧ ∃ o, H' c.a = some o ∧ c.ck.rep F' o
  nd : (cs'.map Cell.a).Nodup
  nw : ∀ c ∈ cs', (∃ c0 ∈ cs, c0.a = c.a) ∨ H c.a = none
  st : ∀ c ∈ cs, H' c.a ≠ none
section
variable {K : PySem.W.Frag} {ρ : List (Slot K)} {cs cs1 cs2 : List (Cell K)} {F F' F1 F2 H H' H1 H2 : Hp} {σ : L2.St}
theorem Okc.w (o : Okc ρ cs F σ H) : Okw ρ cs F σ H := ⟨o.env, o.same, fun c hc => (o.cell c hc).2⟩
theorem Okc.slot {α : Type} {T : Ty K α} {x : α} {i : Nat} (o : Okc ρ cs F σ H) (h : ρ[i]? = some (.val T x)) : ∃ v, σ[i]? = some (some v) ∧ T.rep F v x := o.w.slot h
theorem Okc.mv (o : Okc ρ cs F σ H) (m : Mv cs F H cs' F' H') : Okc ρ cs' F' σ H' := ⟨o.env.mono fun _ _ r => r.mono m.ff, m.fh, m.cell, m.nd⟩
theorem Okc.grow (o : Okc ρ cs F σ H) (g : Grow F H F' H') : Mv cs F H cs F' H' where
  ff := g.ff
  fh := g.fh
  fr := g.fr
  kp := fun b u e _ => g.hh b u e
  cell := fun c hc => by
    obtain ⟨n, u, e, r⟩ := o.cell c hc
    refine ⟨?_, u, g.hh _ _ e, c.ck.mono g.ff r⟩
    cases q : F' c.a with
    | none => rfl
    | some w =>
      have := g.fr c.a n (by rw [q]; simp)
      rw [e] at this; cases this
  nd := o.nd
  nw := fun c hc => .inl ⟨c, hc, rfl⟩
  st := fun c hc n => by
    obtain ⟨_, u, e, _⟩ := o.cell c hc
    rw [g.hh _ _ e] at n; cases n
theorem Okc.refl (o : Okc ρ cs F σ H) : Mv cs F H cs F H := o.grow (Grow.refl o.same)
theorem Mv.trans (a : Mv cs F H cs1 F1 H1) (b : Mv cs1 F1 H1 cs2 F2 H2) : Mv cs F H cs2 F2 H2 where
  ff := a.ff.trans b.ff
  fh := b.fh
  fr := fun x h1 h2 => by
    by_cases h : F1 x = none
    · have n1 := b.fr x h h2
      cases q : H x with
      | none => rfl
      | some o =>
        by_cases m : ∃ c ∈ cs, c.a = x
        · obtain ⟨c, hc, rfl⟩ := m
          exact absurd n1 (a.st c hc)
        · rw [a.kp x o q fun c hc e => m ⟨c, hc, e⟩] at n1; cases n1
    · exact a.fr x h1 h
  kp := fun x o e n => by
    have e1 := a.kp x o e n
    refine b.kp x o e1 fun c hc z => ?_
    rcases a.nw c hc with ⟨c0, h0, e0⟩ | h0
    · exact n c0 h0 (e0.trans z)
    · rw [z, e] at h0; cases h0
  cell := b.cell
  nd := b.nd
  nw := fun c hc => by
    rcases b.nw c hc with ⟨c0, h0, e0⟩ | h0
    · rcases a.nw c0 h0 with ⟨c1, h1, e1⟩ | h1
      · exact .inl ⟨c1, h1, e1.trans e0⟩
      · rw [e0] at h1; exact .inr h1
    · refine .inr ?_
      cases q : H c.a with
      | none => rfl
      | some o =>
        by_cases m : ∃ c1 ∈ cs, c1.a = c.a
        · obtain ⟨c1, hc1, e⟩ := m
          have := a.st c1 hc1
          rw [e] at this
          exact absurd h0 this
        · rw [a.kp c.a o q fun c1 hc1 e => m ⟨c1, hc1, e⟩] at h0; cases h0
  st := fun c hc n => by
    by_cases m : ∃ c1 ∈ cs1, c1.a = c.a
    · obtain ⟨c1, h1, e⟩ := m
      have := b.st c1 h1
      rw [e] at this
      exact this n
    · cases q : H1 c.a with
      | none => exact a.st c hc q
      | some o => rw [b.kp c.a o q fun c1 h1 e => m ⟨c1, h1, e⟩] at n; cases n
end
/-- where a def began -/
structure Hb (K : PySem.W.Frag) where
  F0 : Hp
  H0 : Hp
  cin : List (Cell K)
/-- the state of a def's body: names by slots, cells, and how it came from the beginning -/
structure Ok {K : PySem.W.Frag} (B : Hb K) (fl : Hp) (ρ : List (Slot K)) (cs : List (Cell K)) (F : Hp) (σ : L2.St) (H : Hp) : Prop where
  env : Prd (Slot.ok F) ρ σ
  mv : Mv B.cin B.F0 B.H0 cs F H
  flo : Same fl F
section
variable {K : PySem.W.Frag} {B : Hb K} {ρ : List (Slot K)} {cs cs1 cs2 : List (Cell K)} {F F' F1 F2 H H' H1 H2 : Hp} {σ : L2.St}
theorem Ok.c {fl : Hp} (o : Ok B fl ρ cs F σ H) : Okc ρ cs F σ H := ⟨o.env, o.mv.fh, o.mv.cell, o.mv.nd⟩
theorem Ok.to {fl : Hp} (o : Ok B fl ρ cs F σ H) (m : Mv cs F H cs1 F1 H1) : Ok B fl ρ cs1 F1 σ H1 := ⟨o.env.mono fun _ _ r => r.mono m.ff, o.mv.trans m, o.flo.trans m.ff⟩
theorem Ok.set {fl : Hp} {α : Type} {T : Ty K α} {x : α} {v : V} (i : Nat) (o : Ok B fl ρ cs F σ H) (r : T.rep F v x) : Ok B fl (ρ.set i (.val T x)) cs F (σ.set i (some v)) H := ⟨o.env.set (R := Slot.ok F) (x := .val T x) (u := some v) ⟨v, rfl, r⟩ i, o.mv, o.flo⟩
theorem Ok.unset {fl : Hp} (i : Nat) {u : Option V} (o : Ok B fl ρ cs F σ H) : Ok B fl (ρ.set i .un) cs F (σ.set i u) H := ⟨o.env.set (R := Slot.ok F) (x := .un) (u := u) trivial i, o.mv, o.flo⟩
theorem Ok.low {fl fl' : Hp} (o : Ok B fl' ρ cs F σ H) (h : Same fl fl') : Ok B fl ρ cs F σ H := ⟨o.env, o.mv, h.trans o.flo⟩
theorem Okc.set {α : Type} {T : Ty K α} {x : α} {v : V} (i : Nat) (o : Okc ρ cs F σ H) (r : T.rep F v x) : Okc (ρ.set i (.val T x)) cs F (σ.set i (some v)) H := ⟨o.env.set (R := Slot.ok F) (x := .val T x) (u := some v) ⟨v, rfl, r⟩ i, o.same, o.cell, o.nd⟩
end
/-- what an expression's exceptions meet -/
def Xh (X : Cx) (Y : Ec X.K) (cs : List (Cell X.K)) (F : Hp) (σ : L2.St) (H : Hp) : Prop :=
  ∃ W, Takes X W ∧ ∀ ex cls d cs2 F' H', Mv cs F H cs2 F' H' → (∀ c ∈ Y.kp, c ∈ cs2) → ExnRep F' ex cls d → Y.ε ex → W cls d σ H'
theorem Xh.mv {X : Cx} {Y : Ec X.K} {cs cs1 : List (Cell X.K)} {F F1 H H1 : Hp} {σ : L2.St} (x : Xh X Y cs F σ H) (m : Mv cs F H cs1 F1 H1) : Xh X Y cs1 F1 σ H1 := by
  obtain ⟨W, tk, h⟩ := x
  exact ⟨W, tk, fun ex cls d cs2 F' H' m2 kp r e => h ex cls d cs2 F' H' (m.trans m2) kp r e⟩
/-- e gives vl y of the type T, y being what the condition M hands on; the cells behind it are cs' y -/
def EK (X : Cx) (Y : Ec X.K) (e : Expr) (ρ : List (Slot X.K)) (cs : List (Cell X.K)) {μ α : Type} (T : Ty X.K α) (vl : μ → α) (cs' : μ → List (Cell X.K)) (M : (μ → Prop) → Prop) : Prop :=
  ∀ F σ H, Okc ρ cs F σ H → Xh X Y cs F σ H → ∀ φ : μ → Prop, M φ → ∀ Q : VK, (∀ y v F' H', Mv cs F H (cs' y) F' H' → T.rep F' v (vl y) → φ y → Q v H') → WE X e σ H Q
def AK (X : Cx) (Y : Ec X.K) (es : List Expr) (ρ : List (Slot X.K)) (cs : List (Cell X.K)) {μ α : Type} (T : Tys X.K α) (vl : μ → α) (cs' : μ → List (Cell X.K)) (M : (μ → Prop) → Prop) : Prop :=
  ∀ F σ H, Okc ρ cs F σ H → Xh X Y cs F σ H → ∀ φ : μ → Prop, M φ → ∀ Q : List V → Hp → Prop, (∀ y v F' H', Mv cs F H (cs' y) F' H' → T.rep F' v (vl y) → φ y → Q v H') → WA X es σ H Q
def TK (X : Cx) (Y : Ec X.K) (e : Expr) (ρ : List (Slot X.K)) (cs : List (Cell X.K)) {μ : Type} (vl : μ → Bool) (cs' : μ → List (Cell X.K)) (M : (μ → Prop) → Prop) : Prop :=
  ∀ F σ H, Okc ρ cs F σ H → Xh X Y cs F σ H → ∀ φ : μ → Prop, M φ → ∀ Q : Bool → Hp → Prop, (∀ y F' H', Mv cs F H (cs' y) F' H' → φ y → Q (vl y) H') → WT X e σ H Q
/-- a block, from a state of that form, if φ -/
def SK (X : Cx) (B : Hb X.K) (Y : Ec X.K) (fl : Hp) (st : List Stmt) (ρ : List (Slot X.K)) (cs : List (Cell X.K)) (D : Ends) (φ : Prop) : Prop :=
  ∀ F σ H, Ok B fl ρ cs F σ H → φ → ∀ W, Takes X W → (∀ ex cls d cs2 F' H' σ', Mv B.cin B.F0 B.H0 cs2 F' H' → (∀ c ∈ Y.kp, c ∈ cs2) → ExnRep F' ex cls d → Y.ε ex → W cls d σ' H') → WB X st D σ H
end
end MD
namespace MD
open PySem PySem.Spec PyProof.Rows L2
section
variable {X : Cx} {Y : Ec X.K} {ρ : List (Slot X.K)} {cs : List (Cell X.K)} {α β γ : Type} {pos : Pos}
/-! ### names, constants -/
theorem pk_var {i : Nat} {nm : Str} {T : Ty X.K α} {x : α} (hρ : ρ[i]? = some (.val T x)) (hN : X.N[i]? = some nm := by rfl) (hv : Vis X.env.scope nm := by first | exact Or.inl rfl | exact Or.inr (Or.inl rfl) | exact Or.inr (Or.inr rfl))
    (hd : (nm == ("__debug__" : Str)) = false := by decide) (hcd : (nm == ("__classdict__" : Str)) = false := by decide) : PK X (.Name nm pos) ρ cs T x True := fun F σ H ok _ Q k => by
  obtain ⟨v, e, r⟩ := ok.slot hρ
  exact we (pe_var hN hv hd hcd) ⟨v, e, k v F H (Grow.refl ok.same) r⟩
theorem pk_int {i : Int} {j} : PK X (.Constant (.int i) j pos) ρ cs tI i True := fun F σ H ok _ Q k => we pe_int (k _ F H (Grow.refl ok.same) rfl)
theorem pk_bl {b : Bool} {j} : PK X (.Constant (.bool b) j pos) ρ cs tB b True := fun F σ H ok _ Q k => we pe_bl (k _ F H (Grow.refl ok.same) rfl)
theorem pk_str {s : Str} {j} (hs : PySem.PyData.strOk s = true := by decide +kernel) : PK X (.Constant (.str s) j pos) ρ cs tS s True := fun F σ H ok _ Q k => we pe_str (k _ F H (Grow.refl ok.same) ⟨rfl, hs⟩)
theorem pk_nonO {T : Ty X.K α} {j} : PK X (.Constant .none j pos) ρ cs (tO T) none True := fun F σ H ok _ Q k => we pe_non (k _ F H (Grow.refl ok.same) rfl)
/-- a constant of a module -/
theorem pk_glob {nm : Str} {v : V} {u : Value} {T : Ty X.K α} {x : α} (hm : X.mg nm = some u) (r : RelV v u) (hT : ∀ F, T.rep F v x) (hg : Gl X nm := by rfl) (hd : (nm == ("__debug__" : Str)) = false := by decide) : PK X (.Name nm pos) ρ cs T x True :=
  fun F σ H ok _ Q k => we (pe_glob hg hm r hd) (k _ F H (Grow.refl ok.same) (hT F))
/-! ### between the judgements -/
theorem PK.to {e : Expr} {T : Ty X.K α} {x x' : α} {P P' : Prop} (h : PK X e ρ cs T x P) (hx : x = x') (hp : P' → P) : PK X e ρ cs T x' P' := by
  subst hx
  exact fun F σ H ok p Q k => h F σ H ok (hp p) Q k
theorem PK.some {e : Expr} {T : Ty X.K α} {x : α} {P : Prop} (h : PK X e ρ cs T x P) : PK X e ρ cs (tO T) (some x) P := fun F σ H ok p Q k => h F σ H ok p Q k
theorem PK.unO {e : Expr} {T : Ty X.K α} [Inhabited α] {x : Option α} {P : Prop} (h : PK X e ρ cs (tO T) x P) : PK X e ρ cs T (x.getD default) (P ∧ x.isSome = true) := fun F σ H ok p Q k =>
  h F σ H ok p.1 Q fun v F' H' g r => by
    cases x with
    | none => exact absurd p.2 (by simp)
    | some y => exact k v F' H' g r
theorem PK.ek {e : Expr} {T : Ty X.K α} {x : α} {P : Prop} (h : PK X e ρ cs T x P) : EK X Y e ρ cs T (fun _ : Unit => x) (fun _ => cs) (fun φ => P ∧ φ ()) := fun F σ H ok _ φ m Q k =>
  h F σ H ok.w m.1 Q fun v F' H' g r => k () v F' H' (ok.grow g) r m.2
theorem PAK.ak {es : List Expr} {T : Tys X.K α} {x : α} {P : Prop} (h : PAK X es ρ cs T x P) : AK X Y es ρ cs T (fun _ : Unit => x) (fun _ => cs) (fun φ => P ∧ φ ()) := fun F σ H ok _ φ m Q k =>
  h F σ H ok.w m.1 Q fun v F' H' g r => k () v F' H' (ok.grow g) r m.2
theorem PTK.tk {e : Expr} {b : Bool} {P : Prop} (h : PTK X e ρ cs b P) : TK X Y e ρ cs (fun _ : Unit => b) (fun _ => cs) (fun φ => P ∧ φ ()) := fun F σ H ok _ φ m Q k =>
  h F σ H ok.w m.1 Q fun F' H' g => k () F' H' (ok.grow g) m.2
/-! ### operators -/
def R2K {K : PySem.W.Frag} (r : R2) (T1 : Ty K α) (T2 : Ty K β) (T3 : Ty K γ) (C : α → β → Prop) (f : α → β → γ) : Prop :=
  ∀ F H v w x y, Same F H → T1.rep F v x → T2.rep F w y → C x y → ∀ Q : VK, (∀ z F' H', Grow F H F' H' → T3.rep F' z (f x y) → Q z H') → r v w H Q
def yes2 : α → β → Prop := fun _ _ => True
section
variable {K : PySem.W.Frag}
theorem r2_I {C : Int → Int → Prop} {g : Int → Int → Int} : R2K (K := K) (rI C fun i j => .int (g i j)) tI tI tI C g := fun F H v w x y s h1 h2 c Q k => ⟨x, y, h1, h2, c, k _ F H (Grow.refl s) rfl⟩
theorem r2_I0 {g : Int → Int → Int} : R2K (K := K) (rI0 fun i j => .int (g i j)) tI tI tI yes2 g := fun F H v w x y s h1 h2 c Q k => ⟨x, y, h1, h2, k _ F H (Grow.refl s) rfl⟩
theorem r2_B0 {g : Int → Int → Bool} : R2K (K := K) (rI0 fun i j => .bl (g i j)) tI tI tB yes2 g := fun F H v w x y s h1 h2 c Q k => ⟨x, y, h1, h2, k _ F H (Grow.refl s) rfl⟩
theorem r2_eqI : R2K (K := K) rEq tI tI tB yes2 (fun i j => decide (i = j)) := fun F H v w x y s h1 h2 c Q k => by
  cases h1; cases h2
  refine ⟨rfl, k _ F H (Grow.refl s) ?_⟩
  show V.bl _ = V.bl _
  rw [dec_int, Bool.beq_eq_decide_eq]
theorem r2_neI : R2K (K := K) rNe tI tI tB yes2 (fun i j => !decide (i = j)) := fun F H v w x y s h1 h2 c Q k => by
  cases h1; cases h2
  refine ⟨rfl, k _ F H (Grow.refl s) ?_⟩
  show V.bl _ = V.bl _
  rw [dec_int, Bool.beq_eq_decide_eq]
theorem dec_strD {i j : Str} : decide (V.str i = V.str j) = decide (i = j) := by
  by_cases h : i = j
  · subst h; simp
  · rw [decide_eq_false h, decide_eq_false fun q => h (V.str.inj q)]
theorem r2_eqS : R2K (K := K) rEq tS tS tB yes2 (fun i j => decide (i = j)) := fun F H v w x y s h1 h2 c Q k => by
  obtain ⟨h1, _⟩ := h1; obtain ⟨h2, _⟩ := h2; cases h1; cases h2
  refine ⟨rfl, k _ F H (Grow.refl s) ?_⟩
  show V.bl _ = V.bl _
  rw [dec_strD]
theorem r2_neS : R2K (K := K) rNe tS tS tB yes2 (fun i j => !decide (i = j)) := fun F H v w x y s h1 h2 c Q k => by
  obtain ⟨h1, _⟩ := h1; obtain ⟨h2, _⟩ := h2; cases h1; cases h2
  refine ⟨rfl, k _ F H (Grow.refl s) ?_⟩
  show V.bl _ = V.bl _
  rw [dec_strD]
theorem strOk_app {a b : Str} (ha : PySem.PyData.strOk a = true) (hb : PySem.PyData.strOk b = true) : PySem.PyData.strOk (a ++ b) = true := by
  unfold PySem.PyData.strOk at *
  show (a.cps ++ b.cps).all _ = true
  rw [Array.all_append, ha, hb]
  rfl
theorem r2_addS : R2K (K := K) (fun x y H Q => ∃ i j, x = .str i ∧ y = .str j ∧ i.length + j.length ≤ sizeLine ∧ Q (.str (i ++ j)) H) tS tS tS (fun i j => i.length + j.length ≤ sizeLine) (· ++ ·) :=
  fun F H v w x y s h1 h2 c Q k => ⟨x, y, h1.1, h2.1, c, k _ F H (Grow.refl s) ⟨rfl, strOk_app h1.2 h2.2⟩⟩
end
theorem pk_op {op : Operator} {a b : Expr} {r : R2} {T1 : Ty X.K α} {T2 : Ty X.K β} {T3 : Ty X.K γ} {C : α → β → Prop} {f : α → β → γ} {x : α} {y : β} {P1 P2 : Prop} (ho : OpR X (binaryOp op) r) (hr : R2K r T1 T2 T3 C f)
    (ha : PK X a ρ cs T1 x P1) (hb : PK X b ρ cs T2 y P2) : PK X (.BinOp a op b pos) ρ cs T3 (f x y) (P1 ∧ P2 ∧ C x y) := fun F σ H ok p Q k => by
  refine we (pe_op ho pe_w pe_w) ?_
  refine ha F σ H ok p.1 _ fun v F1 H1 g1 r1 => ?_
  refine hb F1 σ H1 (ok.grow g1) p.2.1 _ fun w F2 H2 g2 r2 => ?_
  exact hr F2 H2 v w x y g2.fh (T1.mono g2.ff r1) r2 p.2.2 Q fun z F3 H3 g3 r3 => k z F3 H3 ((g1.trans g2).trans g3) r3
theorem pk_cmp {op : CmpOp} {a b : Expr} {r : R2} {T1 : Ty X.K α} {T2 : Ty X.K β} {T3 : Ty X.K γ} {C : α → β → Prop} {f : α → β → γ} {x : α} {y : β} {P1 P2 : Prop} (ho : OpR X (compareOp op) r) (hr : R2K r T1 T2 T3 C f)
    (ha : PK X a ρ cs T1 x P1) (hb : PK X b ρ cs T2 y P2) (hm : behindInMarks op b = false := by first | exact nomark _ | rfl) : PK X (.Compare a [op] [b] pos) ρ cs T3 (f x y) (P1 ∧ P2 ∧ C x y) := fun F σ H ok p Q k => by
  refine we (pe_cmpR ho pe_w pe_w hm) ?_
  refine ha F σ H ok p.1 _ fun v F1 H1 g1 r1 => ?_
  refine hb F1 σ H1 (ok.grow g1) p.2.1 _ fun w F2 H2 g2 r2 => ?_
  exact hr F2 H2 v w x y g2.fh (T1.mono g2.ff r1) r2 p.2.2 Q fun z F3 H3 g3 r3 => k z F3 H3 ((g1.trans g2).trans g3) r3
theorem pt_cmp' {op : CmpOp} {a b : Expr} {r : R2} {T1 : Ty X.K α} {T2 : Ty X.K β} {C : α → β → Prop} {f : α → β → Bool} {x : α} {y : β} {P1 P2 : Prop} (ho : OpR X (compareOp op) r) (hr : R2K r T1 T2 tB C f)
    (ha : PK X a ρ cs T1 x P1) (hb : PK X b ρ cs T2 y P2) (hm : behindInMarks op b = false := by first | exact nomark _ | rfl) : PTK X (.Compare a [op] [b] pos) ρ cs (f x y) (P1 ∧ P2 ∧ C x y) := fun F σ H ok p Q k => by
  refine wt (pt_cmpR ho pe_w pe_w hm) ?_
  refine ha F σ H ok p.1 _ fun v F1 H1 g1 r1 => ?_
  refine hb F1 σ H1 (ok.grow g1) p.2.1 _ fun w F2 H2 g2 r2 => ?_
  exact hr F2 H2 v w x y g2.fh (T1.mono g2.ff r1) r2 p.2.2 _ fun z F3 H3 g3 r3 => ⟨_, r3, k F3 H3 ((g1.trans g2).trans g3)⟩
/-! ### tests -/
theorem pt_val' {e : Expr} {b : Bool} {P : Prop} (h : PK X e ρ cs tB b P) (he : ∀ whole, isTrue e X.env whole = (do let v ← whole; standAt e.pos; holding [v] (truthy v)) := by intro _; rfl) : PTK X e ρ cs b P := fun F σ H ok p Q k => by
  refine wt (pt_val pe_w he) ?_
  exact h F σ H ok p _ fun v F1 H1 g1 r1 => ⟨b, r1, k F1 H1 g1⟩
theorem pt_not' {e : Expr} {b : Bool} {P : Prop} (h : PTK X e ρ cs b P) : PTK X (.UnaryOp .Not e pos) ρ cs (!b) P := fun F σ H ok p Q k => by
  refine wt (pt_not pt_w) ?_
  exact h F σ H ok p _ fun F1 H1 g1 => k F1 H1 g1
theorem pw_and1' {a : Expr} {b : Bool} {P : Prop} (h : PTK X a ρ cs b P) : PWK X (.BoolOp .And [a] pos) ρ cs b P := fun F σ H ok p Q k => ww (pw_and1 pt_w) (h F σ H ok p Q k)
theorem pw_or1' {a : Expr} {b : Bool} {P : Prop} (h : PTK X a ρ cs b P) : PWK X (.BoolOp .Or [a] pos) ρ cs b P := fun F σ H ok p Q k => ww (pw_or1 pt_w) (h F σ H ok p Q k)
theorem pw_and' {a b : Expr} {rest : List Expr} {x y : Bool} {P1 P2 : Prop} (ha : PTK X a ρ cs x P1) (hb : PWK X (.BoolOp .And (b :: rest) pos) ρ cs y P2) : PWK X (.BoolOp .And (a :: b :: rest) pos) ρ cs (x && y) (P1 ∧ (x = true → P2)) := fun F σ H ok p Q k => by
  refine ww (pw_and pt_w pw_w) ?_
  refine ha F σ H ok p.1 _ fun F1 H1 g1 => ?_
  cases x with
  | true => exact (if_pos rfl).mpr (hb F1 σ H1 (ok.grow g1) (p.2 rfl) Q fun F2 H2 g2 => k F2 H2 (g1.trans g2))
  | false => exact (if_neg Bool.false_ne_true).mpr (k F1 H1 g1)
theorem pw_or' {a b : Expr} {rest : List Expr} {x y : Bool} {P1 P2 : Prop} (ha : PTK X a ρ cs x P1) (hb : PWK X (.BoolOp .Or (b :: rest) pos) ρ cs y P2) : PWK X (.BoolOp .Or (a :: b :: rest) pos) ρ cs (x || y) (P1 ∧ (x = false → P2)) := fun F σ H ok p Q k => by
  refine ww (pw_or pt_w pw_w) ?_
  refine ha F σ H ok p.1 _ fun F1 H1 g1 => ?_
  cases x with
  | false => exact (if_neg Bool.false_ne_true).mpr (hb F1 σ H1 (ok.grow g1) (p.2 rfl) Q fun F2 H2 g2 => k F2 H2 (g1.trans g2))
  | true => exact (if_pos rfl).mpr (k F1 H1 g1)
theorem PWK.pt {e : Expr} {b : Bool} {P : Prop} (h : PWK X e ρ cs b P) : PTK X e ρ cs b P := fun F σ H ok p Q k => wt pw_w.pt (h F σ H ok p Q k)
/-! ### as values -/
theorem pk_one {a : Expr} {op} {T : Ty X.K α} {x : α} {P : Prop} (h : PK X a ρ cs T x P) : PK X (.BoolOp op [a] pos) ρ cs T x P := fun F σ H ok p Q k => we (pe_one pe_w) (h F σ H ok p Q k)
theorem pk_and {a b : Expr} {rest : List Expr} {x y : Bool} {P1 P2 : Prop} (ha : PK X a ρ cs tB x P1) (hb : PK X (.BoolOp .And (b :: rest) pos) ρ cs tB y P2) : PK X (.BoolOp .And (a :: b :: rest) pos) ρ cs tB (x && y) (P1 ∧ (x = true → P2)) := fun F σ H ok p Q k => by
  refine we (pe_and pe_w pe_w) ?_
  refine ha F σ H ok p.1 _ fun v F1 H1 g1 r1 => ⟨x, r1, ?_⟩
  cases x with
  | true => exact (if_pos rfl).mpr (hb F1 σ H1 (ok.grow g1) (p.2 rfl) Q fun w F2 H2 g2 r2 => k w F2 H2 (g1.trans g2) r2)
  | false => exact (if_neg Bool.false_ne_true).mpr (k _ F1 H1 g1 rfl)
theorem pk_or {a b : Expr} {rest : List Expr} {x y : Bool} {P1 P2 : Prop} (ha : PK X a ρ cs tB x P1) (hb : PK X (.BoolOp .Or (b :: rest) pos) ρ cs tB y P2) : PK X (.BoolOp .Or (a :: b :: rest) pos) ρ cs tB (x || y) (P1 ∧ (x = false → P2)) := fun F σ H ok p Q k => by
  refine we (pe_or pe_w pe_w) ?_
  refine ha F σ H ok p.1 _ fun v F1 H1 g1 r1 => ⟨x, r1, ?_⟩
  cases x with
  | false => exact (if_neg Bool.false_ne_true).mpr (hb F1 σ H1 (ok.grow g1) (p.2 rfl) Q fun w F2 H2 g2 r2 => k w F2 H2 (g1.trans g2) r2)
  | true => exact (if_pos rfl).mpr (k _ F1 H1 g1 rfl)
/-! ### argument lists, displays -/
theorem pa_1 {e : Expr} {T : Ty X.K α} {x : α} {P : Prop} (h : PK X e ρ cs T x P) (hs : starEach (e :: []) X.env = (false, eval e X.env) :: starEach [] X.env := by rfl) : PAK X [e] ρ cs (ts1 T) x P := fun F σ H ok p Q k => by
  refine wa (pa_cons pe_w pa_nil hs) ?_
  exact h F σ H ok p _ fun v F1 H1 g1 r1 => k [v] F1 H1 g1 ⟨v, rfl, r1⟩
theorem pa_C {e : Expr} {es : List Expr} {T : Ty X.K α} {Ts : Tys X.K β} {x : α} {y : β} {P1 P2 : Prop} (h : PK X e ρ cs T x P1) (hr : PAK X es ρ cs Ts y P2) (hs : starEach (e :: es) X.env = (false, eval e X.env) :: starEach es X.env := by rfl) :
    PAK X (e :: es) ρ cs (tsC T Ts) (x, y) (P1 ∧ P2) := fun F σ H ok p Q k => by
  refine wa (pa_cons pe_w pa_w hs) ?_
  refine h F σ H ok p.1 _ fun v F1 H1 g1 r1 => ?_
  exact hr F1 σ H1 (ok.grow g1) p.2 _ fun w F2 H2 g2 r2 => k (v :: w) F2 H2 (g1.trans g2) ⟨v, w, rfl, T.mono g2.ff r1, r2⟩
/-- of one type, as a list -/
def tsL {K : PySem.W.Frag} (T : Ty K α) : Tys K (List α) := ⟨fun F vs xs => Rl T F vs xs, fun e h => h.mono e⟩
theorem pl_0 {T : Ty X.K α} : PAK X [] ρ cs (tsL T) [] True := fun F σ H ok _ Q k => wa pa_nil (k [] F H (Grow.refl ok.same) .nil)
theorem pl_C {e : Expr} {es : List Expr} {T : Ty X.K α} {x : α} {y : List α} {P1 P2 : Prop} (h : PK X e ρ cs T x P1) (hr : PAK X es ρ cs (tsL T) y P2) (hs : starEach (e :: es) X.env = (false, eval e X.env) :: starEach es X.env := by rfl) :
    PAK X (e :: es) ρ cs (tsL T) (x :: y) (P1 ∧ P2) := fun F σ H ok p Q k => by
  refine wa (pa_cons pe_w pa_w hs) ?_
  refine h F σ H ok p.1 _ fun v F1 H1 g1 r1 => ?_
  exact hr F1 σ H1 (ok.grow g1) p.2 _ fun w F2 H2 g2 r2 => k (v :: w) F2 H2 (g1.trans g2) (.cons (T.mono g2.ff r1) r2)
theorem Rl.length {K : PySem.W.Frag} {T : Ty K α} {F : Hp} {vs : List V} {xs : List α} (h : Rl T F vs xs) : vs.length = xs.length := Paired.length h
theorem pk_tup {es : List Expr} {x1} {Ts : Tys X.K α} {x : α} {P : Prop} (h : PAK X es ρ cs Ts x P) (hl : ∀ F vs, Ts.rep F vs x → vs.length ≤ 1000) : PK X (.Tuple es x1 pos) ρ cs (tT Ts) x P := fun F σ H ok p Q k => by
  refine we (pe_tup pa_w) ?_
  refine h F σ H ok p _ fun vs F1 H1 g1 r1 => ⟨Nat.le_trans (hl F1 vs r1) (by decide), fun q hq => ?_⟩
  have g2 := grow_new g1.fh hq (.tup vs)
  exact k _ _ _ (g1.trans g2) ⟨q, vs, rfl, upd_same, Ts.mono g2.ff r1⟩
theorem pk_tupU {es : List Expr} {x1} {T : Ty X.K α} {x : List α} {P : Prop} (h : PAK X es ρ cs (tsL T) x P) (hl : x.length ≤ 1000) : PK X (.Tuple es x1 pos) ρ cs (tU T) x P := fun F σ H ok p Q k => by
  refine we (pe_tup pa_w) ?_
  refine h F σ H ok p _ fun vs F1 H1 g1 r1 => ?_
  have hz : vs.length ≤ sizeLine := Nat.le_trans (by rw [Rl.length r1]; exact hl) (by decide)
  refine ⟨hz, fun q hq => ?_⟩
  have g2 := grow_new g1.fh hq (.tup vs)
  exact k _ _ _ (g1.trans g2) ⟨q, vs, rfl, .inl upd_same, Rl.mono g2.ff r1, hz⟩
theorem len1 {K : PySem.W.Frag} {T : Ty K α} {n : Nat} : ∀ F vs (x : α), (ts1 T).rep F vs x → vs.length ≤ n + 1 := fun F vs x ⟨v, e, _⟩ => by subst e; exact Nat.succ_le_succ (Nat.zero_le n)
theorem lenC {K : PySem.W.Frag} {T : Ty K α} {Ts : Tys K β} {n : Nat} (h : ∀ F vs (x : β), Ts.rep F vs x → vs.length ≤ n) : ∀ F vs (x : α × β), (tsC T Ts).rep F vs x → vs.length ≤ n + 1 := fun F vs x ⟨v, r, e, _, q⟩ => by subst e; exact Nat.succ_le_succ (h F r x.2 q)
/-! ### built-in functions -/
def RCK {K : PySem.W.Frag} (r : List V → Hp → VK → Prop) (Ts : Tys K α) (T3 : Ty K γ) (C : α → Prop) (f : α → γ) : Prop :=
  ∀ F H vs x, Same F H → Ts.rep F vs x → C x → ∀ Q : VK, (∀ z F' H', Grow F H F' H' → T3.rep F' z (f x) → Q z H') → r vs H Q
def yes1 : α → Prop := fun _ => True
theorem pk_cb {nm : Str} {p : Pos} {e : Expr} {es : List Expr} {id : String} {r : List V → Hp → VK → Prop} {Ts : Tys X.K α} {T3 : Ty X.K γ} {C : α → Prop} {f : α → γ} {x : α} {P : Prop} (hc : CallR X (.builtin id) r) (hm : X.mg nm = none) (hv : bootBuiltins nm = some (.builtin id)) (hr : RCK r Ts T3 C f)
    (ha : PAK X (e :: es) ρ cs Ts x P) (hg : Gl X nm := by rfl) (hn : nm ≠ "__name__" := by decide) (hdb : (nm == ("__debug__" : Str)) = false := by decide)
    (he : starEach (e :: es) X.env = (false, eval e X.env) :: starEach es X.env := by rfl) (hpl : (backTo pos (starEach es X.env)).any (·.1) = false := by rfl) : PK X (.Call (.Name nm p) (e :: es) [] pos) ρ cs T3 (f x) (P ∧ C x) := fun F σ H ok q Q k => by
  refine we (pe_callB hc hg hm hv pa_w hn hdb he hpl) ?_
  refine ha F σ H ok q.1 _ fun vs F1 H1 g1 r1 => ?_
  exact hr F1 H1 vs x g1.fh r1 q.2 Q fun z F2 H2 g2 r2 => k z F2 H2 (g1.trans g2) r2
section
variable {K : PySem.W.Frag}
def rLenQ (K : PySem.W.Frag) : List V → Hp → VK → Prop := fun xs H Q => ∃ p ys, xs = [.ref p] ∧ (SqL K H p ys ∨ SqT K H p ys) ∧ Q (.int ys.length) H
end
theorem cr_lenQ : CallR X (.builtin "len") (rLenQ X.K) := call_len_seq
/-! ### items -/
def pyIx [Inhabited α] (xs : List α) (i : Int) : α := (atI xs i).getD default
def IxOk (xs : List α) (i : Int) : Prop := -(xs.length : Int) ≤ i ∧ i < xs.length
theorem rl_atI {K : PySem.W.Frag} [Inhabited α] {T : Ty K α} {F : Hp} {vs : List V} {xs : List α} {i : Int} (h : Rl T F vs xs) (hi : IxOk xs i) : ∃ v, atI vs i = some v ∧ T.rep F v (pyIx xs i) := by
  have hl := Rl.length h
  unfold pyIx atI
  rw [hl]
  obtain ⟨h1, h2⟩ := hi
  have get : ∀ {ws : List V} {ys : List α} {j : Nat}, Rl T F ws ys → j < ys.length → ∃ v, ws[j]? = some v ∧ T.rep F v ((ys[j]?).getD default) := by
    intro ws ys j hh
    induction hh generalizing j with
    | nil => intro hj; exact absurd hj (Nat.not_lt_zero _)
    | cons r t ih =>
      intro hj
      cases j with
      | zero => exact ⟨_, rfl, r⟩
      | succ j =>
        obtain ⟨v, e, q⟩ := ih (Nat.lt_of_succ_lt_succ hj)
        exact ⟨v, by simpa using e, by simpa using q⟩
  by_cases h0 : 0 ≤ i
  · have e : ixN xs.length i = some i.toNat := by unfold ixN; rw [if_pos h0, if_pos h2]
    rw [e]
    exact get h (by omega)
  · have e : ixN xs.length i = some (i + xs.length).toNat := by unfold ixN; rw [if_neg h0, if_pos h1]
    rw [e]
    exact get h (by omega)
end
end MD
namespace MD
open PySem PySem.Spec PyProof.Rows L2
/-! ### contracts -/
structure Con (K : PySem.W.Frag) (A R γ : Type) where
  ins : A → List (Slot K)
  cin : A → List (Cell K)
  wp : A → (R → Prop) → (Exn K → Prop) → Prop
  T : Ty K γ
  rv : R → γ
  cout : A → R → List (Cell K)
  mono : ∀ a φ φ' ε ε', (∀ r, φ r → φ' r) → (∀ e, ε e → ε' e) → wp a φ ε → wp a φ' ε'
def Con.sp {K : PySem.W.Frag} {A R γ : Type} (C : Con K A R γ) : Sp := fun vs H Q E => ∃ (a : A) (F : Hp), Prd (fun s v => Slot.ok F s (some v)) (C.ins a) vs ∧ Same F H ∧
  (∀ c ∈ C.cin a, F c.a = none ∧ ∃ o, H c.a = some o ∧ c.ck.rep F o) ∧ ((C.cin a).map Cell.a).Nodup ∧
  C.wp a (fun r => ∀ v F' H', Mv (C.cin a) F H (C.cout a r) F' H' → C.T.rep F' v (C.rv r) → Q v H') (fun ex => ∀ cls d F' H', Mv (C.cin a) F H (C.cin a) F' H' → ExnRep F' ex cls d → E cls d H')
/-- a function of frozen data: where pre holds it is f -/
def Con.fn {K : PySem.W.Frag} {A γ : Type} (ins : A → List (Slot K)) (T : Ty K γ) (pre : A → Prop) (f : A → γ) : Con K A γ γ where
  ins := ins
  cin := fun _ => []
  wp := fun a φ _ => pre a ∧ ∀ r, r = f a → φ r
  T := T
  rv := fun r => r
  cout := fun _ _ => []
  mono := fun _ _ _ _ _ h _ w => ⟨w.1, fun r e => h r (w.2 r e)⟩
section
variable {P : Program} {w : World} {K : PySem.W.Frag} {mg : Str → Option Value} {base : Heap} {A R γ : Type}
theorem Prd.start {F : Hp} {n : Nat} : ∀ {ss : List (Slot K)} {vs : List V}, Prd (fun s v => Slot.ok F s (some v)) ss vs → Prd (Slot.ok F) (ss ++ List.replicate n .un) (vs.map some ++ List.replicate n none)
  | _, _, .cons r t => .cons r (Prd.start t)
  | _, _, .nil => by
    show Prd _ (List.replicate n Slot.un) (List.replicate n none)
    induction n with
    | zero => exact .nil
    | succ n ih => exact .cons trivial ih
/-- what a return is to reach -/
def retD (C : Con K A R γ) (a : A) (B : Hb K) (φ : R → Prop) : Ends where
  nx := fun _ H' => ∃ r F', Mv B.cin B.F0 B.H0 (C.cout a r) F' H' ∧ C.T.rep F' .non (C.rv r) ∧ φ r
  rt := fun v H' => ∃ r F', Mv B.cin B.F0 B.H0 (C.cout a r) F' H' ∧ C.T.rep F' v (C.rv r) ∧ φ r
theorem PSs.ends {X : Cx} {st : List Stmt} {D D' : Ends} {σ : L2.St} {H : Hp} (hn : ∀ σ H, D.nx σ H → D'.nx σ H) (hr : ∀ v H, D.rt v H → D'.rt v H) (hb : ∀ σ H, D.bk σ H → D'.bk σ H) (hc : ∀ σ H, D.ct σ H → D'.ct σ H) (h : WB X st D σ H) : WB X st D' σ H :=
  fun pins s I => thn (h pins s I) fun f s' q => by
    cases f with
    | next => obtain ⟨σ', H', I', q⟩ := q; exact ⟨σ', H', I', hn _ _ q⟩
    | brk => obtain ⟨σ', H', I', q⟩ := q; exact ⟨σ', H', I', hb _ _ q⟩
    | cont => obtain ⟨σ', H', I', q⟩ := q; exact ⟨σ', H', I', hc _ _ q⟩
    | ret u => obtain ⟨v, σ', H', I', r, q⟩ := q; exact ⟨v, σ', H', I', r, hr _ _ q⟩
/-- a def keeps its contract, by its body -/
theorem fn_con {x qual : Str} {st : Stmt} {f : Addr} {fd : FuncData} {N ps : List Str} {k : Nat} (C : Con K A R γ) (F : Fun K x qual st f fd) (S : FnScope N ps (defScope st)) (hl : ∀ a, (C.ins a).length = ps.length)
    (body : ∀ (cdv : Value) (Ar : Around) (outer : List Env) (s : Shared) (H : Hp) (E : XK) (F0 : Hp) (a : A) (φ : R → Prop) (ε : Exn K → Prop), Room k (Ar.deeper (envOfC qual (defScope st) s.heap.objs.size f cdv)) →
      PassesOwn (model P w) (Ar.deeper (envOfC qual (defScope st) s.heap.objs.size f cdv)) (envOfC qual (defScope st) s.heap.objs.size f cdv) (cxOf (L2.CX P w) P w K mg base N qual (defScope st) f cdv Ar outer s H E).xe →
      SK (cxOf (L2.CX P w) P w K mg base N qual (defScope st) f cdv Ar outer s H E) ⟨F0, H, C.cin a⟩ ⟨C.cin a, ε⟩ F0 (defBody st) (C.ins a ++ List.replicate (N.length - ps.length) .un) (C.cin a) (retD C a ⟨F0, H, C.cin a⟩ φ) (C.wp a φ ε)) :
    FnOk P w K mg base (L2.CX P w) (k + 1) f fd ps C.sp := by
  refine F.okX S (fun vs H Q E ⟨a, F, h, _⟩ => by rw [← h.length]; exact hl a) (fun cdv Ar outer s H vs Q E hr h => ?_)
  obtain ⟨a, F0, hv, hs, hc, hn, hw⟩ := h
  refine ⟨_, pss_w, ?_⟩
  have e : vs.length = ps.length := by rw [← hv.length]; exact hl a
  have Bo : Mv (C.cin a) F0 H (C.cin a) F0 H := ⟨Same.refl _, hs, fun b h1 h2 => absurd h1 h2, fun b o e _ => e, hc, hn, fun c hc => .inl ⟨c, hc, rfl⟩, fun c hcm z => by
    obtain ⟨_, o, e, _⟩ := hc c hcm
    rw [e] at z; cases z⟩
  have hb := body cdv Ar outer s H E F0 a _ _ hr (passes_of rfl) F0 (L2.start N vs) H ⟨by
    unfold L2.start
    rw [e]
    exact hv.start, Bo, Same.refl _⟩ hw (fun cls d _ H => E cls d H) (takes_of rfl rfl rfl rfl) (fun ex cls d cs2 F' H' σ' mv kp r ep => ep cls d F' H' ⟨mv.ff, mv.fh, mv.fr, mv.kp, fun c hc => mv.cell c (kp c hc), hn, fun c hc => .inl ⟨c, hc, rfl⟩, mv.st⟩ r)
  refine PSs.ends ?_ ?_ ?_ ?_ hb
  · intro _ H' ⟨r, F', m, t, q⟩
    exact q .non F' H' m t
  · intro v H' ⟨r, F', m, t, q⟩
    exact q v F' H' m t
  · exact fun _ _ z => z
  · exact fun _ _ z => z
/-- the condition -/
theorem SK.vc {X : Cx} {B : Hb X.K} {Y : Ec X.K} {st : List Stmt} {ρ : List (Slot X.K)} {cs : List (Cell X.K)} {D : Ends} {φ ψ : Prop} {fl : Hp} (h : SK X B Y fl st ρ cs D φ) (v : ψ → φ) : SK X B Y fl st ρ cs D ψ := fun F σ H ok p => h F σ H ok (v p)
end
/-! ### calls -/
section
variable {X : Cx} {Y : Ec X.K} {ρ : List (Slot X.K)} {cs : List (Cell X.K)} {A R α γ μ : Type} {pos : Pos}
/-- a pure function's call -/
theorem pk_call {k : Nat} {f : Addr} {fd : FuncData} {ps : List Str} {nm : Str} {p : Pos} {e : Expr} {es : List Expr} {ins : A → List (Slot X.K)} {T : Ty X.K γ} {pre : A → Prop} {g : A → γ} {β : Type} {Ts : Tys X.K β} {x : β} {Pa : Prop} (a : A)
    (F : FnOk X.prog X.w X.K X.mg X.base (L2.CX X.prog X.w) k f fd ps (Con.fn ins T pre g).sp) (hr : Room k X.A) (hm : X.mg nm = some (.ref f)) (hk : PySem.W.keepIn X.K (.ref f) = true) (hb : Binds X.K fd ps [])
    (ha : PAK X (e :: es) ρ cs Ts x Pa) (hi : ∀ F vs, Ts.rep F vs x → Prd (fun s v => Slot.ok F s (some v)) (ins a) vs) (hg : Gl X nm := by rfl)
    (hdb : (nm == ("__debug__" : Str)) = false := by decide) (he : starEach (e :: es) X.env = (false, eval e X.env) :: starEach es X.env := by rfl) (hpl : (backTo pos (starEach es X.env)).any (·.1) = false := by rfl) :
    PK X (.Call (.Name nm p) (e :: es) [] pos) ρ cs T (g a) (Pa ∧ pre a) := fun F0 σ H ok q Q kk => by
  refine we (pe_call F hr hg hm hk hb .nil (E := E0) (passL) pa_w hdb he hpl) ?_
  refine ha F0 σ H ok q.1 _ fun vs F1 H1 g1 r1 => ?_
  refine ⟨a, F1, by rw [List.append_nil]; exact hi F1 vs r1, g1.fh, fun c hc => absurd hc (by simp [Con.fn]), by simp [Con.fn], q.2, fun r er v F2 H2 m rr => ?_⟩
  subst er
  exact kk v F2 H2 (g1.trans ⟨m.ff, m.fh, fun b o e => m.kp b o e fun c hc => absurd hc (by simp [Con.fn]), m.fr⟩) rr
end
end MD
namespace MD
open PySem PySem.Spec PyProof.Rows L2
/-! ### statements -/
section
variable {X : Cx} {fl : Hp} {B : Hb X.K} {Y : Ec X.K} {ρ : List (Slot X.K)} {cs : List (Cell X.K)} {α β γ μ : Type} {pos : Pos} {rest : List Stmt} {D : Ends} {e : Expr}
/-- the exceptions' wish within -/
theorem xh_of {F H : Hp} {σ : L2.St} {W : WX} (ok : Ok B fl ρ cs F σ H) (tk : Takes X W) (hx : ∀ ex cls d cs2 F' H' σ', Mv B.cin B.F0 B.H0 cs2 F' H' → (∀ c ∈ Y.kp, c ∈ cs2) → ExnRep F' ex cls d → Y.ε ex → W cls d σ' H') : Xh X Y cs F σ H :=
  ⟨W, tk, fun ex cls d cs2 F' H' m kp r ep => hx ex cls d cs2 F' H' σ (ok.mv.trans m) kp r ep⟩
theorem sk_set {i : Nat} {nm : Str} {pos' : Pos} {T : Ty X.K α} {x : α} {P : Prop} {φ : α → Prop} (hN : X.N.Nodup) (he : PK X e ρ cs T x P) (k : ∀ z, SK X B Y fl rest (ρ.set i (.val T z)) cs D (φ z)) (hi : X.N[i]? = some nm := by rfl) (hx : Loc X.env.scope nm := by first | exact Or.inl rfl | exact Or.inr rfl)
    (hs : swapsWith e (some (.Name nm pos')) pos.line X.env = pure false := by rfl) (hf : X.fn nm = true ∨ X.env.scope.names.lookup nm = some .local := by first | exact .inl rfl | exact .inr rfl) :
    SK X B Y fl (.Assign [.Name nm pos'] e pos :: rest) ρ cs D (P ∧ ∀ z, z = x → φ z) := fun F σ H ok p W tk hx' => by
  refine wb (pss_cons (ps_set hN hi hx pe_w hs hf) pss_w) ?_
  refine he F σ H ok.c.w p.1 _ fun v F' H' g r => ?_
  have ok1 := ok.to (ok.c.grow g)
  exact k x F' _ H' (ok1.set i r) (p.2 x rfl) W tk hx'
theorem sk_setE {i : Nat} {nm : Str} {pos' : Pos} {T : Ty X.K α} {vl : μ → α} {cs' : μ → List (Cell X.K)} {M : (μ → Prop) → Prop} {φ : μ → α → Prop} (hN : X.N.Nodup) (he : EK X Y e ρ cs T vl cs' M) (k : ∀ y z, SK X B Y fl rest (ρ.set i (.val T z)) (cs' y) D (φ y z)) (hi : X.N[i]? = some nm := by rfl)
    (hx : Loc X.env.scope nm := by first | exact Or.inl rfl | exact Or.inr rfl)
    (hs : swapsWith e (some (.Name nm pos')) pos.line X.env = pure false := by rfl) (hf : X.fn nm = true ∨ X.env.scope.names.lookup nm = some .local := by first | exact .inl rfl | exact .inr rfl) :
    SK X B Y fl (.Assign [.Name nm pos'] e pos :: rest) ρ cs D (M fun y => ∀ z, z = vl y → φ y z) := fun F σ H ok p W tk hx' => by
  refine wb (pss_cons (ps_set hN hi hx pe_w hs hf) pss_w) ?_
  refine he F σ H ok.c (xh_of ok tk hx') _ p _ fun y v F' H' m r q => ?_
  exact k y (vl y) F' _ H' ((ok.to m).set i r) (q _ rfl) W tk hx'
theorem sk_expr {T : Ty X.K α} {vl : μ → α} {cs' : μ → List (Cell X.K)} {M : (μ → Prop) → Prop} {φ : μ → Prop} (he : EK X Y e ρ cs T vl cs' M) (k : ∀ y, SK X B Y fl rest ρ (cs' y) D (φ y)) (hs : swapsWith e none pos.line X.env = pure false := by rfl) :
    SK X B Y fl (.Expr e pos :: rest) ρ cs D (M φ) := fun F σ H ok p W tk hx' => by
  refine wb (pss_cons (ps_expr pe_w hs) pss_w) ?_
  refine he F σ H ok.c (xh_of ok tk hx') _ p _ fun y v F' H' m r q => ?_
  exact k y F' _ H' (ok.to m) q W tk hx'
/-- one statement -/
def SK1 (X : Cx) (B : Hb X.K) (Y : Ec X.K) (fl : Hp) (st : Stmt) (ρ : List (Slot X.K)) (cs : List (Cell X.K)) (D : Ends) (φ : Prop) : Prop :=
  ∀ F σ H, Ok B fl ρ cs F σ H → φ → ∀ W, Takes X W → (∀ ex cls d cs2 F' H' σ', Mv B.cin B.F0 B.H0 cs2 F' H' → (∀ c ∈ Y.kp, c ∈ cs2) → ExnRep F' ex cls d → Y.ε ex → W cls d σ' H') → WS X st D σ H
/-- the rest behind each end -/
theorem sk_seq {st : Stmt} {φ : Prop} (h : SK1 X B Y fl st ρ cs { D with nx := WB X rest D } φ) : SK X B Y fl (st :: rest) ρ cs D φ := fun F σ H ok p W tk hx' => wb (pss_cons ps_w pss_w) (h F σ H ok p W tk hx')
theorem sk_if1 {c : Expr} {a b : List Stmt} {bv : Bool} {P φ1 φ2 : Prop} (hc : PTK X c ρ cs bv P) (ha : SK X B Y fl a ρ cs D φ1) (hb : SK X B Y fl b ρ cs D φ2) :
    SK1 X B Y fl (.If c a b pos) ρ cs D (P ∧ (bv = true → φ1) ∧ (bv = false → φ2)) := fun F σ H ok p W tk hx' => by
  refine ws (ps_if pt_w pss_w pss_w) ?_
  refine hc F σ H ok.c.w p.1 _ fun F' H' g => ?_
  have ok1 := ok.to (ok.c.grow g)
  cases bv with
  | true => exact (if_pos rfl).mpr (ha F' σ H' ok1 (p.2.1 rfl) W tk hx')
  | false => exact (if_neg Bool.false_ne_true).mpr (hb F' σ H' ok1 (p.2.2 rfl) W tk hx')
theorem sk_if1E {c : Expr} {a b : List Stmt} {vl : μ → Bool} {cs' : μ → List (Cell X.K)} {M : (μ → Prop) → Prop} {φ1 φ2 : μ → Prop} (hc : TK X Y c ρ cs vl cs' M) (ha : ∀ y, SK X B Y fl a ρ (cs' y) D (φ1 y)) (hb : ∀ y, SK X B Y fl b ρ (cs' y) D (φ2 y)) :
    SK1 X B Y fl (.If c a b pos) ρ cs D (M fun y => (vl y = true → φ1 y) ∧ (vl y = false → φ2 y)) := fun F σ H ok p W tk hx' => by
  refine ws (ps_if pt_w pss_w pss_w) ?_
  refine hc F σ H ok.c (xh_of ok tk hx') _ p _ fun y F' H' m q => ?_
  have ok1 := ok.to m
  cases hv : vl y with
  | true => exact (if_pos rfl).mpr (ha y F' σ H' ok1 (q.1 hv) W tk hx')
  | false => exact (if_neg Bool.false_ne_true).mpr (hb y F' σ H' ok1 (q.2 hv) W tk hx')
/-- one state may stand for another -/
inductive Le {K : PySem.W.Frag} : List (Slot K) → List (Slot K) → Prop
  | nil : Le [] []
  | same {s : Slot K} {a b : List (Slot K)} : Le a b → Le (s :: a) (s :: b)
  | un {s : Slot K} {a b : List (Slot K)} : Le a b → Le (s :: a) (.un :: b)
theorem Le.refl {K : PySem.W.Frag} : ∀ a : List (Slot K), Le a a
  | [] => .nil
  | _ :: a => .same (Le.refl a)
theorem Le.env {K : PySem.W.Frag} {F : Hp} : ∀ {a b : List (Slot K)} {σ : L2.St}, Le a b → Prd (Slot.ok F) a σ → Prd (Slot.ok F) b σ
  | _, _, _, .nil, .nil => .nil
  | _, _, _, .same t, .cons r q => .cons r (Le.env t q)
  | _, _, _, .un t, .cons _ q => .cons trivial (Le.env t q)
/-- a state of that form, of which R holds -/
def Mid {K : PySem.W.Frag} (B : Hb K) (fl : Hp) (ρ' : β → List (Slot K)) (cs' : β → List (Cell K)) (R : β → Prop) : L2.St → Hp → Prop := fun σ H => ∃ z F, Ok B fl (ρ' z) (cs' z) F σ H ∧ R z
/-- a statement whose ends meet in one form -/
theorem sk_join {st : Stmt} (ρ' : β → List (Slot X.K)) (cs' : β → List (Cell X.K)) {ψ : (β → Prop) → Prop} {φ : β → Prop} (h : ∀ R, SK1 X B Y fl st ρ cs { D with nx := Mid B fl ρ' cs' R } (ψ R)) (k : ∀ z, SK X B Y fl rest (ρ' z) (cs' z) D (φ z)) :
    SK X B Y fl (st :: rest) ρ cs D (∃ R, ψ R ∧ ∀ z, R z → φ z) := fun F σ H ok p W tk hx' => by
  obtain ⟨R, p1, p2⟩ := p
  have q := h R F σ H ok p1 W tk hx'
  refine fun pins s I => ?_
  refine wpAny_execs_cons (thn (q pins s I) fun f s1 q3 => ?_)
  cases f with
  | next =>
    obtain ⟨σ', H', I', z, F', ok', r⟩ := q3
    exact k z F' σ' H' ok' (p2 z r) W tk hx' pins s1 I'
  | ret v => exact q3
  | brk => exact q3
  | cont => exact q3
/-- return -/
theorem sk_ret {A R : Type} {C : Con X.K A R γ} {a : A} {ψ : R → Prop} {n b' c' : L2.St → Hp → Prop} {x : γ} {P : Prop} {r : List Stmt} (q : R) (he : PK X e ρ cs C.T x P) (hv : C.rv q = x) (hc : C.cout a q = cs) :
    SK X B Y fl (.Return (some e) pos :: r) ρ cs { retD C a B ψ with nx := n, bk := b', ct := c' } (P ∧ ψ q) := fun F σ H ok p W tk hx' => by
  refine wb (pss_cons (ps_ret pe_w) pss_w) ?_
  refine he F σ H ok.c.w p.1 _ fun v F' H' g t => ?_
  have ok1 := ok.to (ok.c.grow g)
  subst hv
  exact ⟨q, F', by rw [hc]; exact ok1.mv, t, p.2⟩
theorem sk_retE {A R : Type} {C : Con X.K A R γ} {a : A} {ψ : R → Prop} {n b' c' : L2.St → Hp → Prop} {vl : μ → γ} {cs' : μ → List (Cell X.K)} {M : (μ → Prop) → Prop} {r : List Stmt} (q : μ → R) (he : EK X Y e ρ cs C.T vl cs' M) (hv : ∀ y, C.rv (q y) = vl y) (hc : ∀ y, C.cout a (q y) = cs' y) :
    SK X B Y fl (.Return (some e) pos :: r) ρ cs { retD C a B ψ with nx := n, bk := b', ct := c' } (M fun y => ψ (q y)) := fun F σ H ok p W tk hx' => by
  refine wb (pss_cons (ps_ret pe_w) pss_w) ?_
  refine he F σ H ok.c (xh_of ok tk hx') _ p _ fun y v F' H' m t h => ?_
  have ok1 := ok.to m
  refine ⟨q y, F', by rw [hc]; exact ok1.mv, ?_, h⟩
  rw [hv]
  exact t
/-! ### owned lists -/
theorem mv_upd {F H : Hp} {j : Nat} {l : Addr} {k0 k : CK X.K} {o : HO} (ok : Okc ρ cs F σ H) (hc : cs[j]? = some ⟨l, k0⟩) (hr : k.rep F o) : Mv cs F H (cs.set j ⟨l, k⟩) F (upd H l o) := by
  have hj : j < cs.length := (List.getElem?_eq_some_iff.mp hc).1
  have hm : ⟨l, k0⟩ ∈ cs := List.mem_of_getElem? hc
  have hFl := (ok.cell _ hm).1
  have map_eq : (cs.set j ⟨l, k⟩).map Cell.a = cs.map Cell.a := by
    rw [List.map_set]
    apply List.ext_getElem?
    intro n
    by_cases hn : j = n
    · subst hn
      rw [List.getElem?_set_self (by simpa using hj), List.getElem?_map, hc]
      rfl
    · rw [List.getElem?_set_ne hn]
  have others : ∀ (n : Nat) (c : Cell X.K), n ≠ j → cs[n]? = some c → c.a ≠ l := fun n c hn e z => by
    have nd := ok.nd
    have e1 : (cs.map Cell.a)[n]? = some l := by rw [List.getElem?_map, e]; exact congrArg some z
    have e2 : (cs.map Cell.a)[j]? = some l := by rw [List.getElem?_map, hc]; rfl
    obtain ⟨h1, q1⟩ := List.getElem?_eq_some_iff.mp e1
    obtain ⟨h2, q2⟩ := List.getElem?_eq_some_iff.mp e2
    exact hn ((List.getElem_inj nd).mp (q1.trans q2.symm))
  refine ⟨Same.refl F, fun b u e => ?_, fun b h1 h2 => absurd h1 h2, fun b u e n => ?_, fun c hcm => ?_, by rw [map_eq]; exact ok.nd, fun c hcm => ?_, fun c hcm z => ?_⟩
  · have : b ≠ l := fun z => by rw [z, hFl] at e; cases e
    rw [upd_ne this]; exact ok.same _ _ e
  · have : b ≠ l := fun z => n _ hm z.symm
    rw [upd_ne this]; exact e
  · obtain ⟨n, e⟩ := List.getElem?_of_mem hcm
    by_cases hn : n = j
    · subst hn
      rw [List.getElem?_set_self hj] at e
      cases e
      exact ⟨hFl, o, upd_same, hr⟩
    · rw [List.getElem?_set_ne (Ne.symm hn)] at e
      obtain ⟨n1, u, e1, r1⟩ := ok.cell c (List.mem_of_getElem? e)
      exact ⟨n1, u, by rw [upd_ne (others n c hn e)]; exact e1, r1⟩
  · obtain ⟨n, e⟩ := List.getElem?_of_mem hcm
    by_cases hn : n = j
    · subst hn
      rw [List.getElem?_set_self hj] at e
      cases e
      exact .inl ⟨_, hm, rfl⟩
    · rw [List.getElem?_set_ne (Ne.symm hn)] at e
      exact .inl ⟨c, List.mem_of_getElem? e, rfl⟩
  · by_cases hl : c.a = l
    · rw [hl, upd_same] at z; cases z
    · rw [upd_ne hl] at z
      obtain ⟨_, u, e1, _⟩ := ok.cell c hcm
      rw [e1] at z; cases z
theorem Rl.set {K : PySem.W.Frag} {T : Ty K α} {F : Hp} {v : V} {x : α} : ∀ {vs : List V} {xs : List α} {i : Nat}, Rl T F vs xs → T.rep F v x → Rl T F (vs.set i v) (xs.set i x)
  | _, _, _, .nil, _ => .nil
  | _, _, 0, .cons _ t, h => .cons h t
  | _, _, i + 1, .cons r t, h => .cons r (Rl.set (i := i) t h)
theorem Rl.append {K : PySem.W.Frag} {T : Ty K α} {F : Hp} : ∀ {vs ws : List V} {xs ys : List α}, Rl T F vs xs → Rl T F ws ys → Rl T F (vs ++ ws) (xs ++ ys)
  | _, _, _, _, .nil, h => h
  | _, _, _, _, .cons r t, h => .cons r (Rl.append t h)
def IxW (xs : List α) (i : Int) : Prop := 0 ≤ i ∧ i < xs.length
/-- l[i] = e, l an owned list, i a place -/
theorem sk_setIx {o ie : Expr} {T : Ty X.K α} {vl : μ → α} {cs' : μ → List (Cell X.K)} {M : (μ → Prop) → Prop} {l : Addr} {xs : μ → List α} {i : μ → Int} {P1 P2 : μ → Prop} {φ : μ → List α → Prop} {p1 : Pos} (j : Nat) (he : EK X Y e ρ cs T vl cs' M) (ho : ∀ y, PK X o ρ (cs' y) tR l (P1 y))
    (hi : ∀ y, PK X ie ρ (cs' y) tI (i y) (P2 y)) (hc : ∀ y, (cs' y)[j]? = some ⟨l, cL T (xs y)⟩) (k : ∀ y z, SK X B Y fl rest ρ ((cs' y).set j ⟨l, cL T z⟩) D (φ y z))
    (ha : ∀ v, assign (.Subscript o ie p1) X.env v = (do
      let ov ← holding [v] (eval o X.env)
      let iv ← holding [v, ov] (eval ie X.env)
      standAt p1
      holding [v, ov, iv] (setItem ov iv v)
      release [v, ov, iv] []) := by intro _; rfl) (hs : swapsWithSole [.Subscript o ie p1] e pos.line X.env = pure false := by rfl) (hw : swappedStores [.Subscript o ie p1] e X.env = pure none := by rfl)
    (h1 : (assignEach [.Subscript o ie p1] X.env).map (·.2) = [assign (.Subscript o ie p1) X.env] := by rfl) :
    SK X B Y fl (.Assign [.Subscript o ie p1] e pos :: rest) ρ cs D (M fun y => P1 y ∧ P2 y ∧ IxW (xs y) (i y) ∧ ∀ z, z = (xs y).set (i y).toNat (vl y) → φ y z) := fun F σ H ok p W tk hx' => by
  refine wb (pss_cons (ps_asg pe_w (pg_sub pe_w pe_w set_list ha) hs hw h1) pss_w) ?_
  refine he F σ H ok.c (xh_of ok tk hx') _ p _ fun y v F1 H1 m t q => ?_
  have ok1 := ok.to m
  refine ho y F1 σ H1 ok1.c.w q.1 _ fun v2 F2 H2 g2 r2 => ?_
  have ok2 := ok1.to (ok1.c.grow g2)
  refine hi y F2 σ H2 ok2.c.w q.2.1 _ fun v3 F3 H3 g3 r3 => ?_
  have ok3 := ok2.to (ok2.c.grow g3)
  obtain ⟨_, ob, hob, vs, e1, rl, z⟩ := ok3.c.cell _ (List.mem_of_getElem? (hc y))
  subst e1
  have hix : ixN vs.length (i y) = some (i y).toNat := by
    unfold ixN
    rw [if_pos q.2.2.1.1, if_pos (by rw [Rl.length rl]; exact q.2.2.1.2)]
  refine ⟨l, vs, i y, (i y).toNat, r2, r3, hob, hix, ?_⟩
  exact k y _ F3 σ _ (ok3.to (mv_upd (k := cL T ((xs y).set (i y).toNat (vl y))) ok3.c (hc y) ⟨_, rfl, Rl.set rl (T.mono (g2.ff.trans g3.ff) t), by rw [List.length_set]; exact z⟩)) (q.2.2.2 _ rfl) W tk hx'
/-- a method of an owned list: what it asks, what it leaves, what it gives -/
def MLK {K : PySem.W.Frag} (r : V → List V → Hp → VK → Prop) (T : Ty K α) (Ts : Tys K β) (U : Ty K γ) (C : List α → β → Prop) (f : List α → β → List α) (g : List α → β → γ) : Prop :=
  ∀ F H l vs ws x y, Same F H → H l = some (.lst vs) → Rl T F vs x → vs.length ≤ sizeLine → Ts.rep F ws y → C x y → ∀ Q : VK, (∀ v vs', Rl T F vs' (f x y) → vs'.length ≤ sizeLine → U.rep F v (g x y) → Q v (upd H l (.lst vs'))) → r (.ref l) ws H Q
theorem ek_mL {o : Expr} {es : List Expr} {name : Str} {id : String} {r : V → List V → Hp → VK → Prop} {T : Ty X.K α} {Ts : Tys X.K β} {U : Ty X.K γ} {C : List α → β → Prop} {f : List α → β → List α} {g : List α → β → γ} {vl : μ → β} {cs' : μ → List (Cell X.K)} {M : (μ → Prop) → Prop} {l : Addr} {xs : μ → List α} {P1 : Prop} {apos cpos : Pos}
    (slot : PySem.Slot "list" name id) (hty : typeOf (.builtin id) = pure (.type "method_descriptor")) (hm : MtR X id r) (hr : MLK r T Ts U C f g) (j : Nat) (ho : PK X o ρ cs tR l P1) (he : AK X Y (e :: es) ρ cs Ts vl cs' M)
    (hc : ∀ y, (cs' y)[j]? = some ⟨l, cL T (xs y)⟩) (hc0 : ∃ x0, cs[j]? = some ⟨l, cL T x0⟩)
    (hbase : attributeBase o name X.env (eval o X.env) = eval o X.env := by rfl)
    (hfew : ((backTo cpos (starEach (e :: es) X.env)).all (fun x => !x.1) && (backToKw cpos (keywordEach [] X.env)).all (fun x => x.1.isSome)
      && decide ((e :: es).length + ([] : List Keyword).length + (if ([] : List Keyword).isEmpty then 0 else 1) < 30)) = true := by rfl)
    (hline : (apos.endLine == cpos.line) = true := by rfl) (hs : starEach (e :: es) X.env = (false, eval e X.env) :: starEach es X.env := by rfl) (hplain : (backTo cpos (starEach es X.env)).any (·.1) = false := by rfl) :
    EK X Y (.Call (.Attribute o name apos) (e :: es) [] cpos) ρ cs U (fun y : μ × List α => g (xs y.1) (vl y.1)) (fun y => (cs' y.1).set j ⟨l, cL T y.2⟩) (fun φ => P1 ∧ M fun y => C (xs y) (vl y) ∧ ∀ z, z = f (xs y) (vl y) → φ (y, z)) := fun F σ H ok xh φ p Q k => by
  refine we (pe_bm PySem.F.plainAttrs_list slot hty hm pe_w pa_w hbase hfew hline hs hplain) ?_
  refine ho F σ H ok.w p.1 _ fun v0 F0 H0 g0 r0 => ?_
  have m0 := ok.grow g0
  have ok0 := ok.mv m0
  obtain ⟨x0, hc0⟩ := hc0
  obtain ⟨_, ob0, hob0, vs0, e0, _, _⟩ := ok0.cell _ (List.mem_of_getElem? hc0)
  subst e0
  cases r0
  refine ⟨.inl ⟨rfl, _, SqL.of hob0⟩, ?_⟩
  refine he F0 σ H0 ok0 (xh.mv m0) _ p.2 _ fun y ws F1 H1 m t q => ?_
  have ok1 := ok0.mv m
  obtain ⟨_, ob, hob, vs, e1, rl, z⟩ := ok1.cell _ (List.mem_of_getElem? (hc y))
  subst e1
  refine hr F1 H1 l vs ws (xs y) (vl y) m.fh hob rl z t q.1 Q fun v vs' rl' z' u => ?_
  exact k (y, f (xs y) (vl y)) v F1 _ ((m0.trans m).trans (mv_upd (k := cL T (f (xs y) (vl y))) ok1 (hc y) ⟨_, rfl, rl', z'⟩)) u (q.2 _ rfl)
theorem ml_append {K : PySem.W.Frag} {T : Ty K α} : MLK rAppend T (ts1 T) tN (fun xs _ => xs.length < sizeLine) (fun xs x => xs ++ [x]) (fun _ _ => ()) := fun F H l vs ws x y s h rl z ⟨w, e, t⟩ c Q k => by
  subst e
  exact ⟨l, vs, w, rfl, rfl, h, by rw [Rl.length rl]; exact c, k _ _ (Rl.append rl (.cons t .nil)) (by rw [List.length_append, List.length_singleton, Rl.length rl]; exact c) rfl⟩
end
end MD
namespace MD
open PySem PySem.Spec PyProof.Rows L2
section
variable {X : Cx} {fl : Hp} {B : Hb X.K} {Y : Ec X.K} {ρ : List (Slot X.K)} {cs : List (Cell X.K)} {α β γ μ : Type} {pos : Pos} {rest : List Stmt} {D : Ends} {e : Expr}
/-! ### targets -/
/-- a value x of type T goes to a target: G, what the names hold behind it; vs, the places that it may change -/
def GK (X : Cx) (tg : Expr) (T : Ty X.K α) (G : List (Slot X.K) → α → List (Slot X.K)) (vs : List Nat) : Prop :=
  ∀ F σ H v x ρ, Prd (Slot.ok F) ρ σ → Same F H → T.rep F v x → ∀ Q : L2.St → Hp → Prop, (∀ σ', Prd (Slot.ok F) (G ρ x) σ' → (∀ ws : List Nat, (∀ j ∈ vs, j ∈ ws) → wipe σ' ws = wipe σ ws) → Q σ' H) → WG X tg v σ H Q
def GsK (X : Cx) (tgs : List Expr) (T : Tys X.K α) (G : List (Slot X.K) → α → List (Slot X.K)) (vs : List Nat) : Prop :=
  ∀ F σ H us x ρ, Prd (Slot.ok F) ρ σ → Same F H → T.rep F us x → ∀ Q : L2.St → Hp → Prop, (∀ σ', Prd (Slot.ok F) (G ρ x) σ' → (∀ ws : List Nat, (∀ j ∈ vs, j ∈ ws) → wipe σ' ws = wipe σ ws) → Q σ' H) → WGs X tgs us σ H Q
theorem set_none_comm {σ : L2.St} {o : Option V} (i j : Nat) : (σ.set i o).set j none = if i = j then σ.set j none else (σ.set j none).set i o := by
  by_cases h : i = j
  · subst h; rw [if_pos rfl, List.set_set]
  · rw [if_neg h, List.set_comm _ _ h]
theorem wipe_set {o : Option V} {i : Nat} : ∀ (ws : List Nat) (σ : L2.St), i ∈ ws → wipe (σ.set i o) ws = wipe σ ws
  | [], _, h => absurd h (by simp)
  | j :: ws, σ, h => by
    have key : ∀ (ws : List Nat) (σ : L2.St), wipe (σ.set i o) ws = if i ∈ ws then wipe σ ws else (wipe σ ws).set i o := by
      intro ws
      induction ws with
      | nil => intro σ; simp [wipe]
      | cons j ws ih =>
        intro σ
        show (wipe (σ.set i o) ws).set j none = if i ∈ j :: ws then (wipe σ ws).set j none else ((wipe σ ws).set j none).set i o
        rw [ih σ]
        by_cases hm : i ∈ ws
        · rw [if_pos hm, if_pos (List.mem_cons_of_mem _ hm)]
        · rw [if_neg hm, set_none_comm]
          by_cases hij : i = j
          · rw [if_pos hij, if_pos (by rw [hij]; exact List.mem_cons_self)]
          · rw [if_neg hij, if_neg (by simp only [List.mem_cons, not_or]; exact ⟨hij, hm⟩)]
    rw [key, if_pos h]
theorem gk_name {T : Ty X.K α} {i : Nat} {nm : Str} (hN : X.N.Nodup) (hi : X.N[i]? = some nm := by rfl) (hx : Loc X.env.scope nm := by first | exact Or.inl rfl | exact Or.inr rfl) (hf : X.fn nm = true ∨ X.env.scope.names.lookup nm = some .local := by first | exact .inl rfl | exact .inr rfl) :
    GK X (.Name nm pos) T (fun ρ x => ρ.set i (.val T x)) [i] := fun F σ H v x ρ hρ hs r Q k => by
  refine wg (pg_name hN hi hx hf) ?_
  exact k _ (hρ.set (R := Slot.ok F) (x := .val T x) (u := some v) ⟨v, rfl, r⟩ i) fun ws hw => wipe_set ws σ (hw i (by simp))
theorem gs_C {t : Expr} {ts : List Expr} {T : Ty X.K α} {Ts : Tys X.K β} {G1 : List (Slot X.K) → α → List (Slot X.K)} {G2 : List (Slot X.K) → β → List (Slot X.K)} {v1 v2 : List Nat} (h1 : GK X t T G1 v1) (h2 : GsK X ts Ts G2 v2)
    (hs : (assignEach (t :: ts) X.env).map (·.2) = assign t X.env :: (assignEach ts X.env).map (·.2) := by rfl) : GsK X (t :: ts) (tsC T Ts) (fun ρ x => G2 (G1 ρ x.1) x.2) (v1 ++ v2) := fun F σ H us x ρ hρ hs' ⟨v, r, e, ra, rb⟩ Q k => by
  subst e
  refine wgs (pgs_cons pg_w pgs_w hs) ⟨v, r, rfl, ?_⟩
  refine h1 F σ H v x.1 ρ hρ hs' ra _ fun σ1 hρ1 w1 => ?_
  exact h2 F σ1 H r x.2 _ hρ1 hs' rb Q fun σ2 hρ2 w2 => k σ2 hρ2 fun ws hw => (w2 ws fun j hj => hw j (List.mem_append_right _ hj)).trans (w1 ws fun j hj => hw j (List.mem_append_left _ hj))
theorem gs_1 {t : Expr} {T : Ty X.K α} {G1 : List (Slot X.K) → α → List (Slot X.K)} {v1 : List Nat} (h1 : GK X t T G1 v1)
    (hs : (assignEach (t :: []) X.env).map (·.2) = assign t X.env :: (assignEach [] X.env).map (·.2) := by rfl) : GsK X [t] (ts1 T) G1 v1 := fun F σ H us x ρ hρ hs' ⟨v, e, ra⟩ Q k => by
  subst e
  refine wgs (pgs_cons pg_w pgs_nil hs) ⟨v, [], rfl, ?_⟩
  exact h1 F σ H v x ρ hρ hs' ra _ fun σ1 hρ1 w1 => ⟨rfl, k σ1 hρ1 w1⟩
theorem gk_tup {tgs : List Expr} {k0 : Nat} {Ts : Tys X.K α} {G : List (Slot X.K) → α → List (Slot X.K)} {vs : List Nat} {n : Nat} (hc : X.calm = true) (h : GsK X tgs Ts G vs) (hl : ∀ F us x, Ts.rep F us x → us.length = n)
    (hn : (assignEach tgs X.env).length = n := by rfl) (hst : (assignEach tgs X.env).findIdx? (·.1) = none := by rfl) : GK X (.Tuple tgs k0 pos) (tT Ts) G vs := fun F σ H v x ρ hρ hs ⟨a, us, e, hq, r⟩ Q k => by
  subst e
  refine wg (pg_tup hc pgs_w hn hst) ?_
  exact ⟨a, us, rfl, SqT.of (hs _ _ hq), hl F us x r, h F σ H us x ρ hρ hs r Q k⟩
theorem tl1 {K : PySem.W.Frag} {T : Ty K α} : ∀ F us (x : α), (ts1 T).rep F us x → us.length = 1 := fun F us x ⟨v, e, _⟩ => by subst e; rfl
theorem tlC {K : PySem.W.Frag} {T : Ty K α} {Ts : Tys K β} {n : Nat} (h : ∀ F us (x : β), Ts.rep F us x → us.length = n) : ∀ F us (x : α × β), (tsC T Ts).rep F us x → us.length = n + 1 := fun F us x ⟨v, r, e, _, q⟩ => by subst e; rw [List.length_cons, h F r x.2 q]
/-! ### what is walked -/
def ItOk {K : PySem.W.Frag} (T : Ty K α) (J : It) (F : Hp) (xs : List α) : Prop := ∀ (i : Nat) F1 H1, Same F F1 → Same F1 H1 →
  (∀ x, xs[i]? = some x → J.go i H1 ∧ ∀ v H2, J.yld i H1 v H2 → ∃ F2, Grow F1 H1 F2 H2 ∧ T.rep F2 v x) ∧ (xs.length ≤ i → J.stop i H1)
def IK (X : Cx) (tg iter : Expr) (ρ : List (Slot X.K)) (cs : List (Cell X.K)) (T : Ty X.K α) (xs : List α) (P : Prop) : Prop :=
  ∀ F σ H, Okw ρ cs F σ H → P → ∀ R : It → Hp → Prop, (∀ J F' H', Grow F H F' H' → ItOk T J F' xs → xs.length ≤ sizeLine → R J H') → WI X tg iter σ H R
theorem rl_get {K : PySem.W.Frag} {T : Ty K α} {F : Hp} : ∀ {vs : List V} {xs : List α} {i : Nat} {x : α}, Rl T F vs xs → xs[i]? = some x → ∃ v, vs[i]? = some v ∧ T.rep F v x
  | _, _, _, _, .nil, e => by simp at e
  | _, _, 0, _, .cons r _, e => by simp at e; subst e; exact ⟨_, rfl, r⟩
  | _, _, i + 1, x, .cons _ t, e => by
    obtain ⟨u, h1, h2⟩ := rl_get (i := i) (x := x) t (by simpa using e)
    exact ⟨u, by simpa using h1, h2⟩
theorem itl_ok {K : PySem.W.Frag} {T : Ty K α} {F : Hp} {a : Addr} {vs : List V} {xs : List α} (h : SqL K F a vs) (r : Rl T F vs xs) : ItOk T (Itl K a) F xs := fun i F1 H1 e1 e2 => by
  have hq := (e1.trans e2).seq h
  refine ⟨fun x hx => ?_, fun hi => ⟨vs, hq, by rw [Rl.length r]; exact hi⟩⟩
  obtain ⟨v, hv, rv⟩ := rl_get r hx
  refine ⟨⟨vs, v, hq, hv⟩, fun v' H2 ⟨e, y⟩ => ?_⟩
  subst e
  have := (y vs hq).symm.trans hv
  cases this
  exact ⟨F1, Grow.refl e2, T.mono e1 rv⟩
theorem ik_list {tg : Expr} {T : Ty X.K α} {xs : List α} {P : Prop} (h : PK X e ρ cs (tL T) xs P) : IK X tg e ρ cs T xs P := fun F σ H ok p R k => by
  refine wi (pi_list pe_w) ?_
  refine h F σ H ok p _ fun v F1 H1 g ⟨a, vs, e1, hq, r, z⟩ => ?_
  exact ⟨a, e1, ⟨vs, SqL.of (g.fh _ _ hq)⟩, k _ F1 H1 g (itl_ok (SqL.of hq) r) (by rw [← Rl.length r]; exact z)⟩
/-- range(a), range(a, b) as lists -/
def rng (a b : Int) : List Int := (List.range (b - a).toNat).map fun (i : Nat) => a + (i : Int)
theorem rng_get {a b : Int} {i : Nat} {x : Int} (h : (rng a b)[i]? = some x) : x = a + i ∧ i < (b - a).toNat := by
  unfold rng at h
  rw [List.getElem?_map] at h
  by_cases hi : i < (b - a).toNat
  · rw [List.getElem?_range hi] at h
    exact ⟨(Option.some.inj h).symm, hi⟩
  · rw [List.getElem?_eq_none (by rw [List.length_range]; omega)] at h
    cases h
theorem rng_length {a b : Int} : (rng a b).length = (b - a).toNat := by unfold rng; rw [List.length_map, List.length_range]
theorem itr_ok {K : PySem.W.Frag} {F : Hp} {a b : Int} : ItOk (tI (K := K)) (Itr a (b - a).toNat) F (rng a b) := fun i F1 H1 e1 e2 => by
  refine ⟨fun x hx => ?_, fun hi => by rw [rng_length] at hi; exact hi⟩
  obtain ⟨e, hi⟩ := rng_get hx
  refine ⟨hi, fun v H2 ⟨eh, ev⟩ => ?_⟩
  subst eh
  exact ⟨F1, Grow.refl e2, by rw [ev, e]; rfl⟩
theorem ik_range1 {tg a : Expr} {x : Int} {P : Prop} {p : Pos} (hm : X.mg "range" = none) (h : PK X a ρ cs tI x P) (hg : Gl X "range" := by rfl) (hs : starEach [a] X.env = [(false, eval a X.env)] := by rfl) :
    IK X tg (.Call (.Name "range" p) [a] [] pos) ρ cs tI (rng 0 x) (P ∧ -(2 ^ 62) ≤ x ∧ x ≤ 16777216) := fun F σ H ok q R k => by
  refine wi (pi_range1 hg hm (pa_cons pe_w pa_nil hs) hs) ?_
  refine h F σ H ok q.1 _ fun v F1 H1 g r => ⟨x, by cases r; rfl, q.2.1, by have := q.2.2; omega, k _ F1 H1 g ?_ (by rw [rng_length, sizeLine_eq]; have := q.2.2; omega)⟩
  have := itr_ok (K := X.K) (F := F1) (a := 0) (b := x)
  rw [show (x - 0).toNat = x.toNat by rw [Int.sub_zero]] at this
  exact this
/-- the signs of a text -/
def signs (s : Str) : List Str := s.cps.toList.map fun c => ⟨#[c]⟩
theorem strOk_sign {x : Str} {c : Nat} (h : PySem.PyData.strOk x = true) (hc : c ∈ x.cps.toList) : PySem.PyData.strOk ⟨#[c]⟩ = true := by
  unfold PySem.PyData.strOk at *
  rw [← Array.all_toList] at *
  have := List.all_eq_true.mp h c hc
  simpa using this
theorem ik_str {tg : Expr} {x : Str} {P : Prop} (h : PK X e ρ cs tS x P) : IK X tg e ρ cs tS (signs x) (P ∧ x.length ≤ sizeLine) := fun F σ H ok p R k => by
  refine wi (pi_str pe_w) ?_
  refine h F σ H ok p.1 _ fun v F1 H1 g r => ⟨x, r.1, k _ F1 H1 g (fun i F2 H2 e1 e2 => ?_) (by unfold signs; rw [List.length_map, Array.length_toList]; exact p.2)⟩
  refine ⟨fun y hy => ?_, fun hi => by unfold signs at hi; rw [List.length_map, Array.length_toList] at hi; exact hi⟩
  unfold signs at hy
  rw [List.getElem?_map] at hy
  cases q : x.cps.toList[i]? with
  | none => rw [q] at hy; cases hy
  | some c =>
    rw [q] at hy
    have hc : x.cps[i]? = some c := by simpa using q
    refine ⟨(Array.getElem?_eq_some_iff.mp hc).1, fun v2 H3 ⟨eh, c', e', ev⟩ => ?_⟩
    subst eh
    rw [hc] at e'
    cases e'
    refine ⟨F2, Grow.refl e2, ?_⟩
    have ey : (⟨#[c]⟩ : Str) = y := Option.some.inj hy
    rw [← ey]
    exact ⟨ev, strOk_sign r.2 (List.mem_of_getElem? q)⟩
/-- with its number -/
def enumF (xs : List α) : List (Int × α) := (List.range xs.length).zip xs |>.map fun p => ((p.1 : Int), p.2)
theorem enumF_get {xs : List α} {i : Nat} {y : Int × α} (h : (enumF xs)[i]? = some y) : y.1 = i ∧ xs[i]? = some y.2 := by
  unfold enumF at h
  rw [List.getElem?_map] at h
  cases q : ((List.range xs.length).zip xs)[i]? with
  | none => rw [q] at h; cases h
  | some p =>
    rw [q] at h
    have e := Option.some.inj h
    rw [List.getElem?_zip_eq_some] at q
    obtain ⟨h1, h2⟩ := q
    have hi : i < xs.length := (List.getElem?_eq_some_iff.mp h2).1
    rw [List.getElem?_range hi] at h1
    have e1 := Option.some.inj h1
    subst e
    exact ⟨by show ((p.1 : Nat) : Int) = i; rw [← e1], h2⟩
theorem enumF_length {xs : List α} : (enumF xs).length = xs.length := by
  unfold enumF
  rw [List.length_map, List.length_zip, List.length_range, Nat.min_self]
theorem grow_tup2 {K : PySem.W.Frag} {T1 : Ty K α} {T2 : Ty K β} {F H : Hp} {p : Addr} {v w : V} {x : α} {y : β} (h : Same F H) (hp : H p = none) (r1 : T1.rep F v x) (r2 : T2.rep F w y) : Grow F H (upd F p (.tup [v, w])) (upd H p (.tup [v, w])) ∧ (tP T1 T2).rep (upd F p (.tup [v, w])) (.ref p) (x, y) :=
  let g := grow_new h hp (.tup [v, w])
  ⟨g, p, _, rfl, upd_same, v, _, rfl, T1.mono g.ff r1, w, rfl, T2.mono g.ff r2⟩
theorem ik_enum {a : Expr} {T : Ty X.K α} {xs : List α} {P : Prop} {p tpos : Pos} {elts : List Expr} {kk : Nat} (hm : X.mg "enumerate" = none) (h : PK X a ρ cs (tL T) xs P) (hg : Gl X "enumerate" := by rfl) (hs : starEach [a] X.env = [(false, eval a X.env)] := by rfl) :
    IK X (.Tuple elts kk tpos) (.Call (.Name "enumerate" p) [a] [] pos) ρ cs (tP tI T) (enumF xs) P := fun F σ H ok q R k => by
  refine wi (pi_enum hg hm (pa_cons pe_w pa_nil hs) hs) ?_
  refine h F σ H ok q _ fun v F1 H1 g ⟨a, vs, e1, hq, r, z⟩ => ⟨a, vs, by rw [e1], SqL.of (g.fh _ _ hq), k _ F1 H1 g (fun i F2 H2 e1 e2 => ?_) (by rw [enumF_length, ← Rl.length r]; exact z)⟩
  have hq2 := SqL.of (K := X.K) ((e1.trans e2) _ _ hq)
  refine ⟨fun y hy => ?_, fun hi => ⟨vs, hq2, by rw [Rl.length r]; rw [enumF_length] at hi; exact hi⟩⟩
  obtain ⟨hy1, hy2⟩ := enumF_get hy
  obtain ⟨v, hv, rv⟩ := rl_get r hy2
  refine ⟨⟨vs, v, hq2, hv⟩, fun v' H3 ⟨t, x', ev, hn, eh, hx⟩ => ?_⟩
  have := (hx vs hq2).symm.trans hv
  cases this
  subst ev; subst eh
  obtain ⟨g2, r2⟩ := grow_tup2 (T1 := tI (K := X.K)) (T2 := T) (x := y.1) (y := y.2) (v := .int (i : Nat)) e2 hn (by rw [hy1]; rfl) (T.mono e1 rv)
  exact ⟨_, g2, r2⟩
theorem zip_get {xs : List α} {ys : List β} {i : Nat} {z : α × β} (h : (xs.zip ys)[i]? = some z) : xs[i]? = some z.1 ∧ ys[i]? = some z.2 := List.getElem?_zip_eq_some.mp h
theorem ik_zipL {a b : Expr} {T : Ty X.K α} {U : Ty X.K β} {xs : List α} {ys : List β} {P1 P2 : Prop} {p tpos : Pos} {elts : List Expr} {kk : Nat} (hm : X.mg "zip" = none) (h1 : PK X a ρ cs (tL T) xs P1) (h2 : PK X b ρ cs (tL U) ys P2) (hg : Gl X "zip" := by rfl)
    (hs : starEach [a, b] X.env = (false, eval a X.env) :: starEach [b] X.env := by rfl) (hs2 : starEach [b] X.env = (false, eval b X.env) :: starEach [] X.env := by rfl) (hpl : (backTo pos (starEach [b] X.env)).any (·.1) = false := by rfl) :
    IK X (.Tuple elts kk tpos) (.Call (.Name "zip" p) [a, b] [] pos) ρ cs (tP T U) (xs.zip ys) (P1 ∧ P2) := fun F σ H ok q R k => by
  refine wi (pi_zip hg hm (pa_cons pe_w (pa_cons pe_w pa_nil hs2) hs) hs hpl) ?_
  refine h1 F σ H ok q.1 _ fun v F1 H1 g1 ⟨a1, vs, e1, hq1, r1, z1⟩ => ?_
  refine h2 F1 σ H1 (ok.grow g1) q.2 _ fun w F2 H2 g2 ⟨a2, ws, e2, hq2, r2, z2⟩ => ⟨a1, a2, vs, ws, by rw [e1, e2], SqL.of ((g2.ff.trans g2.fh) _ _ hq1), SqL.of (g2.fh _ _ hq2), k _ F2 H2 (g1.trans g2) (fun i F3 H3 e3 e4 => ?_) (by rw [List.length_zip]; have := Rl.length r1; omega)⟩
  have q1 := SqL.of (K := X.K) (((g2.ff.trans e3).trans e4) _ _ hq1)
  have q2 := SqL.of (K := X.K) ((e3.trans e4) _ _ hq2)
  refine ⟨fun z hz => ?_, fun hi => ⟨vs, ws, q1, q2, by rw [Rl.length r1, Rl.length r2]; rw [List.length_zip] at hi; omega⟩⟩
  obtain ⟨hx, hy⟩ := zip_get hz
  obtain ⟨v1, hv1, rv1⟩ := rl_get r1 hx
  obtain ⟨w1, hw1, rw1⟩ := rl_get r2 hy
  refine ⟨⟨vs, ws, v1, w1, q1, q2, hv1, hw1⟩, fun v' H4 ⟨t, x', y', ev, hn, eh, hx', hy'⟩ => ?_⟩
  have t1 := (hx' vs q1).symm.trans hv1
  have t2 := (hy' ws q2).symm.trans hw1
  cases t1; cases t2
  subst ev; subst eh
  obtain ⟨g3, r3⟩ := grow_tup2 (T1 := T) (T2 := U) (x := z.1) (y := z.2) e4 hn (T.mono (g2.ff.trans e3) rv1) (U.mono e3 rw1)
  exact ⟨_, g3, r3⟩
/-! ### loops -/
/-- for tg in iter: body; z: what a turn changes -/
theorem sk_for {tg iter : Expr} {body : List Stmt} {T : Ty X.K α} {xs : List α} {P : Prop} {G : List (Slot X.K) → α → List (Slot X.K)} {vs : List Nat} (ρ' : β → List (Slot X.K)) (cs' : β → List (Cell X.K)) (z0 : β) {φb : (β → Prop) → β → α → Prop} {φr : β → Prop}
    (hp : PassesOwn (model X.prog X.w) X.A X.env X.xe) (hc : X.calm = true) (hi : IK X tg iter ρ cs T xs P) (hg : GK X tg T G vs) (hle : Le ρ (ρ' z0)) (hcs : cs = cs' z0)
    (hb : ∀ (fl' : Hp), Same fl fl' → ∀ (N : β → Prop) z x, SK X B Y fl' body (G (ρ' z) x) (cs' z) { D with nx := Mid B fl' ρ' cs' N, ct := Mid B fl' ρ' cs' N, bk := WB X rest D } (φb N z x))
    (hr : ∀ z, SK X B Y fl rest (ρ' z) (cs' z) D (φr z)) (hfo : ∀ x, foldedSetIterable iter X.env x = pure x := by intro _; rfl) :
    SK X B Y fl (.For tg iter body [] pos :: rest) ρ cs D (P ∧ ∃ I : Nat → β → Prop, I 0 z0 ∧ (∀ i z x, xs[i]? = some x → I i z → φb (I (i + 1)) z x) ∧ ∀ z, I xs.length z → φr z) := fun F σ H ok p W tk hx' => by
  subst hcs
  obtain ⟨pP, I, i0, iS, iE⟩ := p
  refine wb (pss_cons (ps_for hp hc pi_w pg_w pss_w hfo) pss_w) ?_
  refine hi F σ H ok.c.w pP _ fun J F1 H1 g it _ => ?_
  have ok1 := ok.to (ok.c.grow g)
  refine ⟨fun i m σ H => m = xs.length - i ∧ i ≤ xs.length ∧ ∃ z F2, Ok B F1 (ρ' z) (cs' z) F2 σ H ∧ I i z, ⟨xs.length, by simp, Nat.zero_le _, z0, F1, ⟨hle.env ok1.env, ok1.mv, Same.refl _⟩, i0⟩, ?_⟩
  rintro i m σ2 H2 ⟨rfl, hil, z, F2, ok2, hI⟩
  obtain ⟨go, stop⟩ := it i F2 H2 ok2.flo ok2.mv.fh
  by_cases hlt : i < xs.length
  · obtain ⟨hgo, hy⟩ := go xs[i] (List.getElem?_eq_getElem hlt)
    refine .inr ⟨hgo, Mid B F1 ρ' cs' (I (i + 1)), fun σ' H' ⟨z', F3, ok3, h3⟩ => ⟨xs.length - (i + 1), by omega, rfl, hlt, z', F3, ok3, h3⟩, fun v H3 hv => ?_⟩
    obtain ⟨F3, g3, rv⟩ := hy v H3 hv
    have ok3 := ok2.to (ok2.c.grow g3)
    refine hg F3 σ2 H3 v xs[i] (ρ' z) ok3.env ok3.mv.fh rv _ fun σ4 hρ4 _ => ?_
    exact hb F1 ok1.flo (I (i + 1)) z xs[i] F3 σ4 H3 ⟨hρ4, ok3.mv, ok3.flo⟩ (iS i z xs[i] (List.getElem?_eq_getElem hlt) hI) W tk hx'
  · exact .inl ⟨stop (by omega), hr z F2 σ2 H2 (ok2.low ok1.flo) (iE z (by rw [show xs.length = i by omega]; exact hI)) W tk hx'⟩
end
end MD
namespace MD
open PySem PySem.Spec PyProof.Rows L2
section
variable {X : Cx} {fl : Hp} {B : Hb X.K} {Y : Ec X.K} {ρ : List (Slot X.K)} {cs : List (Cell X.K)} {α β γ μ ν : Type} {pos : Pos} {rest : List Stmt} {D : Ends} {e : Expr}
/-! ### new lists -/
/-- e makes a new list of xs -/
def NK (X : Cx) (e : Expr) (ρ : List (Slot X.K)) (cs : List (Cell X.K)) (T : Ty X.K α) (xs : List α) (P : Prop) : Prop :=
  ∀ F σ H, Okw ρ cs F σ H → P → ∀ Q : VK, (∀ a vs F' H', Grow F H F' H' → H a = none → F' a = none → H' a = some (.lst vs) → Rl T F' vs xs → vs.length ≤ sizeLine → Q (.ref a) H') → WE X e σ H Q
def NE (X : Cx) (Y : Ec X.K) (e : Expr) (ρ : List (Slot X.K)) (cs : List (Cell X.K)) {μ α : Type} (T : Ty X.K α) (vl : μ → List α) (cs' : μ → List (Cell X.K)) (M : (μ → Prop) → Prop) : Prop :=
  ∀ F σ H, Okc ρ cs F σ H → Xh X Y cs F σ H → ∀ φ : μ → Prop, M φ → ∀ Q : VK, (∀ y a vs F' H', Mv cs F H (cs' y) F' H' → H a = none → F' a = none → H' a = some (.lst vs) → (∀ c ∈ cs' y, c.a ≠ a) → Rl T F' vs (vl y) → vs.length ≤ sizeLine → φ y → Q (.ref a) H') → WE X e σ H Q
theorem frz_grow {F H F' H' : Hp} {a : Addr} {o : HO} (g : Grow F H F' H') (hH : H a = none) (hF : F' a = none) (ho : H' a = some o) : Grow F H (upd F' a o) H' where
  ff := fun b u e => by
    have : b ≠ a := fun z => by rw [z] at e; rw [g.ff _ _ e] at hF; cases hF
    rw [upd_ne this]; exact g.ff _ _ e
  fh := fun b u e => by
    by_cases z : b = a
    · subst z; rw [upd_same] at e; cases e; exact ho
    · rw [upd_ne z] at e; exact g.fh _ _ e
  hh := g.hh
  fr := fun b h1 h2 => by
    by_cases z : b = a
    · subst z; exact hH
    · rw [upd_ne z] at h2; exact g.fr b h1 h2
theorem same_upd {F : Hp} {a : Addr} {o : HO} (h : F a = none) : Same F (upd F a o) := fun b u e => by
  have : b ≠ a := fun z => by rw [z, h] at e; cases e
  rw [upd_ne this]; exact e
theorem NK.pk {T : Ty X.K α} {xs : List α} {P : Prop} (h : NK X e ρ cs T xs P) : PK X e ρ cs (tL T) xs P := fun F σ H ok p Q k =>
  h F σ H ok p Q fun a vs F' H' g hH hF ho r z => k _ _ _ (frz_grow g hH hF ho) ⟨a, vs, rfl, upd_same, r.mono (same_upd hF), z⟩
theorem NK.ne {T : Ty X.K α} {xs : List α} {P : Prop} (h : NK X e ρ cs T xs P) : NE X Y e ρ cs T (fun _ : Unit => xs) (fun _ => cs) (fun φ => P ∧ φ ()) := fun F σ H ok xh φ p Q k =>
  h F σ H ok.w p.1 Q fun a vs F' H' g hH hF ho r z => k () a vs F' H' (ok.grow g) hH hF ho (fun c hc e => by
    obtain ⟨_, o, e1, _⟩ := ok.cell c hc
    rw [e, hH] at e1; cases e1) r z p.2
theorem frz_mv {cs cs' : List (Cell X.K)} {F H F' H' : Hp} {a : Addr} {o : HO} (m : Mv cs F H cs' F' H') (hH : H a = none) (hF : F' a = none) (ho : H' a = some o) (hn : ∀ c ∈ cs', c.a ≠ a) : Mv cs F H cs' (upd F' a o) H' where
  ff := m.ff.trans (same_upd hF)
  fh := fun b u e => by
    by_cases z : b = a
    · subst z; rw [upd_same] at e; cases e; exact ho
    · rw [upd_ne z] at e; exact m.fh _ _ e
  fr := fun b h1 h2 => by
    by_cases z : b = a
    · subst z; exact hH
    · rw [upd_ne z] at h2; exact m.fr b h1 h2
  kp := m.kp
  cell := fun c hc => by
    obtain ⟨n, u, e, r⟩ := m.cell c hc
    exact ⟨by rw [upd_ne (hn c hc)]; exact n, u, e, c.ck.mono (same_upd hF) r⟩
  nd := m.nd
  nw := m.nw
  st := m.st
theorem NE.ek {T : Ty X.K α} {vl : μ → List α} {cs' : μ → List (Cell X.K)} {M : (μ → Prop) → Prop} (h : NE X Y e ρ cs T vl cs' M) : EK X Y e ρ cs (tL T) vl cs' M := fun F σ H ok xh φ p Q k =>
  h F σ H ok xh φ p Q fun y a vs F' H' m hH hF ho hn r z q => k y _ _ _ (frz_mv m hH hF ho hn) ⟨a, vs, rfl, upd_same, r.mono (same_upd hF), z⟩ q
/-- as a cell, the last one -/
theorem new_mv {T : Ty X.K α} {xs : List α} {cs cs' : List (Cell X.K)} {F H F' H' : Hp} {a : Addr} {vs : List V} (m : Mv cs F H cs' F' H') (hH : H a = none) (hF : F' a = none) (ho : H' a = some (.lst vs)) (hn : ∀ c ∈ cs', c.a ≠ a) (r : Rl T F' vs xs) (z : vs.length ≤ sizeLine) :
    Mv cs F H (cs' ++ [⟨a, cL T xs⟩]) F' H' where
  ff := m.ff
  fh := m.fh
  fr := m.fr
  kp := m.kp
  cell := fun c hc => by
    rcases List.mem_append.mp hc with hc | hc
    · exact m.cell c hc
    · obtain rfl := List.mem_singleton.mp hc
      exact ⟨hF, _, ho, vs, rfl, r, z⟩
  nd := by
    rw [List.map_append]
    refine List.nodup_append.mpr ⟨m.nd, by simp, fun x hx y hy => ?_⟩
    obtain ⟨c, hc, rfl⟩ := List.mem_map.mp hx
    have : y = a := by simpa using hy
    rw [this]; exact hn c hc
  nw := fun c hc => by
    rcases List.mem_append.mp hc with hc | hc
    · exact m.nw c hc
    · obtain rfl := List.mem_singleton.mp hc
      exact .inr hH
  st := m.st
theorem NE.own {T : Ty X.K α} {vl : μ → List α} {cs' : μ → List (Cell X.K)} {M : (μ → Prop) → Prop} (h : NE X Y e ρ cs T vl cs' M) :
    EK X Y e ρ cs tR (fun y : μ × Addr × List α => y.2.1) (fun y => cs' y.1 ++ [⟨y.2.1, cL T y.2.2⟩]) (fun φ => M fun y => ∀ a z, z = vl y → φ (y, a, z)) := fun F σ H ok xh φ p Q k =>
  h F σ H ok xh _ p Q fun y a vs F' H' m hH hF ho hn r z q => k (y, a, vl y) _ _ _ (new_mv m hH hF ho hn r z) rfl (q a _ rfl)
/-- a display -/
theorem nk_lst {es : List Expr} {T : Ty X.K α} {x : List α} {P : Prop} (h : PAK X es ρ cs (tsL T) x P) (hl : x.length ≤ 1000 := by decide) : NK X (.List es pos) ρ cs T x P := fun F σ H ok p Q k => by
  refine we (pe_lst pa_w) ?_
  refine h F σ H ok p _ fun vs F1 H1 g1 r1 => ?_
  have hz : vs.length ≤ sizeLine := Nat.le_trans (by rw [Rl.length r1]; exact hl) (by decide)
  refine ⟨hz, fun q hq => ?_⟩
  have hF : F1 q = none := by
    cases e : F1 q with
    | none => rfl
    | some u => rw [g1.fh _ _ e] at hq; cases hq
  refine k q vs F1 _ ⟨g1.ff, fun b u e => ?_, fun b u e => ?_, g1.fr⟩ (g1.hh.free hq) hF upd_same r1 hz
  · have : b ≠ q := fun z => by rw [z, hF] at e; cases e
    rw [upd_ne this]; exact g1.fh _ _ e
  · have : b ≠ q := fun z => by rw [z, g1.hh.free hq] at e; cases e
    rw [upd_ne this]; exact g1.hh _ _ e
/-- a call that hands back a new list -/
theorem grow_upd {F H F1 H1 : Hp} {q : Addr} {o : HO} (g1 : Grow F H F1 H1) (hq : H1 q = none) : Grow F H F1 (upd H1 q o) ∧ F1 q = none := by
  have hF : F1 q = none := by
    cases e : F1 q with
    | none => rfl
    | some u => rw [g1.fh _ _ e] at hq; cases hq
  refine ⟨⟨g1.ff, fun b u e => ?_, fun b u e => ?_, g1.fr⟩, hF⟩
  · have : b ≠ q := fun z => by rw [z, hF] at e; cases e
    rw [upd_ne this]; exact g1.fh _ _ e
  · have : b ≠ q := fun z => by rw [z, g1.hh.free hq] at e; cases e
    rw [upd_ne this]; exact g1.hh _ _ e
/-! ### what is walked, with effects ahead -/
def IE (X : Cx) (Y : Ec X.K) (tg iter : Expr) (ρ : List (Slot X.K)) (cs : List (Cell X.K)) {μ α : Type} (T : Ty X.K α) (xs : μ → List α) (cs' : μ → List (Cell X.K)) (M : (μ → Prop) → Prop) : Prop :=
  ∀ F σ H, Okc ρ cs F σ H → Xh X Y cs F σ H → ∀ φ : μ → Prop, M φ → ∀ R : It → Hp → Prop, (∀ y J F' H', Mv cs F H (cs' y) F' H' → ItOk T J F' (xs y) → (xs y).length ≤ sizeLine → φ y → R J H') → WI X tg iter σ H R
theorem IK.ie {tg iter : Expr} {T : Ty X.K α} {xs : List α} {P : Prop} (h : IK X tg iter ρ cs T xs P) : IE X Y tg iter ρ cs T (fun _ : Unit => xs) (fun _ => cs) (fun φ => P ∧ φ ()) := fun F σ H ok xh φ p R k =>
  h F σ H ok.w p.1 R fun J F' H' g it z => k () J F' H' (ok.grow g) it z p.2
theorem ie_range1 {tg a : Expr} {vl : μ → Int} {cs' : μ → List (Cell X.K)} {M : (μ → Prop) → Prop} {p : Pos} (hm : X.mg "range" = none) (h : EK X Y a ρ cs tI vl cs' M) (hg : Gl X "range" := by rfl) (hs : starEach [a] X.env = [(false, eval a X.env)] := by rfl) :
    IE X Y tg (.Call (.Name "range" p) [a] [] pos) ρ cs tI (fun y => rng 0 (vl y)) cs' (fun φ => M fun y => -(2 ^ 62) ≤ vl y ∧ vl y ≤ 16777216 ∧ φ y) := fun F σ H ok xh φ q R k => by
  refine wi (pi_range1 hg hm (pa_cons pe_w pa_nil hs) hs) ?_
  refine h F σ H ok xh _ q _ fun y v F1 H1 m r q2 => ⟨vl y, by cases r; rfl, q2.1, by have := q2.2.1; omega, k y _ F1 H1 m ?_ (by rw [rng_length, sizeLine_eq]; have := q2.2.1; omega) q2.2.2⟩
  have := itr_ok (K := X.K) (F := F1) (a := 0) (b := vl y)
  rw [show (vl y - 0).toNat = (vl y).toNat by rw [Int.sub_zero]] at this
  exact this
/-! ### comprehensions -/
def TsK (X : Cx) (Y : Ec X.K) (ifs : List Expr) (ρ : List (Slot X.K)) (cs : List (Cell X.K)) {μ : Type} (vl : μ → Bool) (cs' : μ → List (Cell X.K)) (M : (μ → Prop) → Prop) : Prop :=
  ∀ F σ H, Okc ρ cs F σ H → Xh X Y cs F σ H → ∀ φ : μ → Prop, M φ → ∀ Q : Bool → Hp → Prop, (∀ y F' H', Mv cs F H (cs' y) F' H' → φ y → Q (vl y) H') → WTs X ifs σ H Q
theorem ts_0 : TsK X Y [] ρ cs (fun _ : Unit => true) (fun _ => cs) (fun φ => φ ()) := fun F σ H ok xh φ p Q k => wts pts_nil (k () F H ok.refl p)
theorem ts_1 {c : Expr} {vl : μ → Bool} {cs' : μ → List (Cell X.K)} {M : (μ → Prop) → Prop} (h : TK X Y c ρ cs vl cs' M) : TsK X Y [c] ρ cs vl cs' M := fun F σ H ok xh φ p Q k => wts (pts_one pt_w) (h F σ H ok xh φ p Q k)
def wipeS (ρ : List (Slot X.K)) : List Nat → List (Slot X.K)
  | [] => ρ
  | v :: vs => (wipeS ρ vs).set v .un
theorem wipe_prd {F : Hp} {σ : L2.St} (h : Prd (Slot.ok F) ρ σ) : ∀ vs : List Nat, Prd (Slot.ok F) (wipeS ρ vs) (wipe σ vs)
  | [] => h
  | v :: vs => (wipe_prd h vs).set (R := Slot.ok F) (x := .un) (u := none) trivial v
/-- no exception -/
abbrev Y0 (K : PySem.W.Frag) : Ec K := ⟨[], fun _ => False⟩
theorem xh0 {F H : Hp} {σ : L2.St} : Xh X (Y0 X.K) cs F σ H := ⟨fun _ _ _ _ => False, takes0, fun _ _ _ _ _ _ _ _ _ e => e.elim⟩
/-- the reading of a comprehension, its parts by their weakest readings -/
def gBlk (X : Cx) (tg : Expr) (scope : Scope) : TG := fun v σ H Q => ∀ (s : Shared) (H0 : Hp) (C : Addr) (cl : List (Str × Addr)) (fp : List Addr), WG (X.blk s H0 scope (compEnvC scope cl C X.env) fp) tg v σ H Q
def ttBlk (X : Cx) (ifs : List Expr) (scope : Scope) : TT := fun σ H Q => ∀ (s : Shared) (H0 : Hp) (C : Addr) (cl : List (Str × Addr)) (fp : List Addr), WTs (X.blk s H0 scope (compEnvC scope cl C X.env) fp) ifs σ H Q
def teBlk (X : Cx) (elt : Expr) (scope : Scope) : TE := fun σ H Q => ∀ (s : Shared) (H0 : Hp) (C : Addr) (cl : List (Str × Addr)) (fp : List Addr), WE (X.blk s H0 scope (compEnvC scope cl C X.env) fp) elt σ H Q
theorem pg_blk {tg : Expr} {scope : Scope} (s : Shared) (H : Hp) (C : Addr) (cl : List (Str × Addr)) (fp : List Addr) : PG (X.blk s H scope (compEnvC scope cl C X.env) fp) tg (gBlk X tg scope) := ⟨fun pins s' σ H1 v u Q I r h => h s H C cl fp pins s' u I r⟩
theorem pts_blk {ifs : List Expr} {scope : Scope} (s : Shared) (H : Hp) (C : Addr) (cl : List (Str × Addr)) (fp : List Addr) : PTs (X.blk s H scope (compEnvC scope cl C X.env) fp) ifs (ttBlk X ifs scope) := ⟨fun pins s' σ H1 Q I h => h s H C cl fp pins s' I⟩
theorem pe_blk {elt : Expr} {scope : Scope} (s : Shared) (H : Hp) (C : Addr) (cl : List (Str × Addr)) (fp : List Addr) : PE (X.blk s H scope (compEnvC scope cl C X.env) fp) elt (teBlk X elt scope) := ⟨fun pins s' σ H1 Q I h => h s H C cl fp pins s' I⟩
def tLcW (X : Cx) (elt tg iter : Expr) (ifs : List Expr) (scope : Scope) (own : List (Str × Nat)) : TE := tLc (WI X tg iter) (gBlk X tg scope) (ttBlk X ifs scope) (teBlk X elt scope) (own.map (·.2))
/-- a comprehension that makes a new list -/
def LcK (X : Cx) (Y : Ec X.K) (elt tg iter : Expr) (ifs : List Expr) (scope : Scope) (own : List (Str × Nat)) (ρ : List (Slot X.K)) (cs : List (Cell X.K)) {μ α : Type} (T : Ty X.K α) (vl : μ → List α) (cs' : μ → List (Cell X.K)) (M : (μ → Prop) → Prop) : Prop :=
  ∀ F σ H, Okc ρ cs F σ H → Xh X Y cs F σ H → ∀ φ : μ → Prop, M φ → ∀ Q : VK, (∀ y a vs F' H', Mv cs F H (cs' y) F' H' → H a = none → F' a = none → H' a = some (.lst vs) → (∀ c ∈ cs' y, c.a ≠ a) → Rl T F' vs (vl y) → vs.length ≤ sizeLine → φ y → Q (.ref a) H') → tLcW X elt tg iter ifs scope own σ H Q
theorem lc_k {elt tg iter : Expr} {ifs : List Expr} {scope : Scope} {own : List (Str × Nat)} {T : Ty X.K α} {U : Ty X.K γ} {xs : μ → List α} {cs1 : μ → List (Cell X.K)} {Mi : (μ → Prop) → Prop} {G : List (Slot X.K) → α → List (Slot X.K)} {vs : List Nat}
    {τ : β → α → Type} {υ : (z : β) → (x : α) → τ z x → Type} {cs' : β → List (Cell X.K)} {z0 : μ → β} {bt : (z : β) → (x : α) → τ z x → Bool} {s1 : (z : β) → (x : α) → τ z x → β} {Mt : (z : β) → (x : α) → (τ z x → Prop) → Prop}
    {vl : (z : β) → (x : α) → (y : τ z x) → υ z x y → γ} {s2 : (z : β) → (x : α) → (y : τ z x) → υ z x y → β} {Me : (z : β) → (x : α) → (y : τ z x) → (υ z x y → Prop) → Prop}
    (hi : IE X Y tg iter ρ cs T xs cs1 Mi) (hz : ∀ y, cs1 y = cs' (z0 y)) (hvs : ∀ j ∈ vs, j ∈ own.map (·.2))
    (hg : ∀ (s : Shared) (H : Hp) (C : Addr) (cl : List (Str × Addr)) (fp : List Addr), GK (X.blk s H scope (compEnvC scope cl C X.env) fp) tg T G vs)
    (ht : ∀ (s : Shared) (H : Hp) (C : Addr) (cl : List (Str × Addr)) (fp : List Addr) (z : β) (x : α), TsK (X.blk s H scope (compEnvC scope cl C X.env) fp) (Y0 X.K) ifs (G (wipeS ρ (own.map (·.2))) x) (cs' z) (bt z x) (fun y => cs' (s1 z x y)) (Mt z x))
    (he : ∀ (s : Shared) (H : Hp) (C : Addr) (cl : List (Str × Addr)) (fp : List Addr) (z : β) (x : α) (y : τ z x), EK (X.blk s H scope (compEnvC scope cl C X.env) fp) (Y0 X.K) elt (G (wipeS ρ (own.map (·.2))) x) (cs' (s1 z x y)) U (vl z x y) (fun u => cs' (s2 z x y u)) (Me z x y)) :
    LcK X Y elt tg iter ifs scope own ρ cs U (fun y : List γ × β => y.1) (fun y => cs' y.2) (fun φ => Mi fun w => ∃ I : Nat → List γ → β → Prop, I 0 [] (z0 w) ∧
      (∀ i acc z x, (xs w)[i]? = some x → I i acc z → Mt z x fun y => (bt z x y = true → Me z x y fun u => I (i + 1) (acc ++ [vl z x y u]) (s2 z x y u)) ∧ (bt z x y = false → I (i + 1) acc (s1 z x y))) ∧ ∀ acc z, I (xs w).length acc z → φ (acc, z)) := fun F σ H ok0 xh φ p Q k => by
  refine hi F σ H ok0 xh _ p _ fun w J F1 H1 m1 it hsz q => ?_
  obtain ⟨I, i0, iS, iE⟩ := q
  refine fun D hD => ⟨fun i m H2 => m = (xs w).length - i ∧ i ≤ (xs w).length ∧ ∃ z acc F2 us, Mv cs F H (cs' z) F2 H2 ∧ Same F1 F2 ∧ F2 D = none ∧ H2 D = some (.lst us) ∧ (∀ c ∈ cs' z, c.a ≠ D) ∧ Rl U F2 us acc ∧ us.length ≤ i ∧ I i acc z, ⟨(xs w).length, by simp, Nat.zero_le _, ?_⟩, ?_⟩
  · have hF : F1 D = none := by
      cases e : F1 D with
      | none => rfl
      | some u => rw [m1.fh _ _ e] at hD; cases hD
    have nD : ∀ c ∈ cs' (z0 w), c.a ≠ D := fun c hcm e => by
      rw [← hz] at hcm
      obtain ⟨_, o, e1, _⟩ := m1.cell c hcm
      rw [e, hD] at e1; cases e1
    refine ⟨z0 w, [], F1, [], ?_, Same.refl _, hF, upd_same, nD, .nil, Nat.zero_le _, i0⟩
    rw [← hz] at nD ⊢
    exact ⟨m1.ff, (fun b u e => by
        have : b ≠ D := fun z => by rw [z, hF] at e; cases e
        rw [upd_ne this]; exact m1.fh _ _ e), m1.fr, (fun b u e n => by
        have h1 := m1.kp b u e n
        have : b ≠ D := fun z => by rw [z, hD] at h1; cases h1
        rw [upd_ne this]; exact h1), (fun c hcm => by
        obtain ⟨n, o, e1, r⟩ := m1.cell c hcm
        exact ⟨n, o, by rw [upd_ne (nD c hcm)]; exact e1, r⟩), m1.nd, m1.nw, (fun c hcm e => by
        by_cases h : c.a = D
        · rw [h, upd_same] at e; cases e
        · rw [upd_ne h] at e; exact m1.st c hcm e)⟩
  · rintro i m H2 ⟨rfl, hil, z, acc, F2, us, m2, e12, hF2, hH2, nD, rl, hul, hI⟩
    have hHD : H D = none := by
      cases e : H D with
      | none => rfl
      | some u =>
        by_cases hx : ∃ c ∈ cs, c.a = D
        · obtain ⟨c, hcm, rfl⟩ := hx
          exact absurd hD (m1.st c hcm)
        · rw [m1.kp D u e fun c hcm e => hx ⟨c, hcm, e⟩] at hD; cases hD
    obtain ⟨go, stop⟩ := it i F2 H2 e12 m2.fh
    by_cases hlt : i < (xs w).length
    · obtain ⟨hgo, hy⟩ := go (xs w)[i] (List.getElem?_eq_getElem hlt)
      refine .inr ⟨hgo, fun H3 => ∃ z acc F3 us, Mv cs F H (cs' z) F3 H3 ∧ Same F1 F3 ∧ F3 D = none ∧ H3 D = some (.lst us) ∧ (∀ c ∈ cs' z, c.a ≠ D) ∧ Rl U F3 us acc ∧ us.length ≤ i + 1 ∧ I (i + 1) acc z, fun H3 h => ⟨(xs w).length - (i + 1), by omega, rfl, hlt, h⟩, fun v H3 hv => ?_⟩
      obtain ⟨F3, g3, rv⟩ := hy v H3 hv
      have ok2 : Okc ρ (cs' z) F2 σ H2 := ok0.mv m2
      have m23 := ok2.grow g3
      have ok3 := ok2.mv m23
      have step := iS i acc z (xs w)[i] (List.getElem?_eq_getElem hlt) hI
      -- D stands through whatever the cells do
      have keepD : ∀ {ca cb : List (Cell X.K)} {Fa Ha Fb Hb : Hp}, Mv ca Fa Ha cb Fb Hb → Fa D = none → Ha D = some (.lst us) → (∀ c ∈ ca, c.a ≠ D) → Fb D = none ∧ Hb D = some (.lst us) ∧ ∀ c ∈ cb, c.a ≠ D := fun {ca cb Fa Ha Fb Hb} mm h1 h2 h3 => by
        refine ⟨?_, mm.kp D _ h2 h3, fun c hcm e => ?_⟩
        · cases e : Fb D with
          | none => rfl
          | some u =>
            have := mm.fr D h1 (by rw [e]; simp)
            rw [h2] at this; cases this
        · rcases mm.nw c hcm with ⟨c0, h0, e0⟩ | h0
          · exact h3 c0 h0 (e0.trans e)
          · rw [e, h2] at h0; cases h0
      have d3 := keepD m23 hF2 hH2 nD
      intro s0 H0 C cl fp
      refine hg s0 H0 C cl fp F3 _ H3 v (xs w)[i] _ (wipe_prd ok3.env (own.map (·.2))) ok3.same rv _ ?_
      intro σ4 hρ4 hw4
      refine ⟨?_, ?_⟩
      · rw [hw4 _ hvs]
        have idem : ∀ (l l' : List Nat) (σ : L2.St), (∀ j ∈ l, j ∈ l') → wipe (wipe σ l) l' = wipe σ l' := by
          intro l
          induction l with
          | nil => intro l' σ _; rfl
          | cons j l ih =>
            intro l' σ h
            show wipe ((wipe σ l).set j none) l' = _
            rw [wipe_set l' _ (h j (by simp))]
            exact ih l' σ fun x hx => h x (List.mem_cons_of_mem _ hx)
        exact idem _ _ σ fun _ h => h
      have ok4 : Okc (G (wipeS ρ (own.map (·.2))) (xs w)[i]) (cs' z) F3 σ4 H3 := ⟨hρ4, ok3.same, ok3.cell, ok3.nd⟩
      intro s0 H0 C cl fp
      refine ht s0 H0 C cl fp z (xs w)[i] F3 σ4 H3 ok4 xh0 _ step _ fun y F5 H5 m5 q5 => ?_
      have d5 := keepD m5 d3.1 d3.2.1 d3.2.2
      have m05 := (m2.trans m23).trans m5
      cases hb : bt z (xs w)[i] y with
      | false =>
        exact (if_neg Bool.false_ne_true).mpr ⟨_, acc, F5, us, m05, (e12.trans g3.ff).trans m5.ff, d5.1, d5.2.1, d5.2.2, rl.mono (g3.ff.trans m5.ff), by omega, q5.2 hb⟩
      | true =>
        refine (if_pos rfl).mpr ?_
        intro s0 H0 C cl fp
        refine he s0 H0 C cl fp z (xs w)[i] y F5 σ4 H5 (ok4.mv m5) xh0 _ (q5.1 hb) _ fun u v6 F6 H6 m6 r6 q6 => ?_
        have d6 := keepD m6 d5.1 d5.2.1 d5.2.2
        refine ⟨us, d6.2.1, Nat.lt_of_le_of_lt hul (Nat.lt_of_lt_of_le hlt hsz), _, acc ++ [vl z (xs w)[i] y u], F6, us ++ [v6], ?_, ((e12.trans g3.ff).trans m5.ff).trans m6.ff, d6.1, upd_same, d6.2.2, Rl.append (rl.mono ((g3.ff.trans m5.ff).trans m6.ff)) (.cons r6 .nil), by rw [List.length_append, List.length_singleton]; omega, q6⟩
        have mm := m05.trans m6
        exact ⟨mm.ff, (fun b u e => by
            have : b ≠ D := fun z => by rw [z, d6.1] at e; cases e
            rw [upd_ne this]; exact mm.fh _ _ e), mm.fr, (fun b u e n => by
            have : b ≠ D := fun z => by rw [z, hHD] at e; cases e
            rw [upd_ne this]; exact mm.kp b u e n), (fun c hcm => by
            obtain ⟨n, o, e1, r⟩ := mm.cell c hcm
            exact ⟨n, o, by rw [upd_ne (d6.2.2 c hcm)]; exact e1, r⟩), mm.nd, mm.nw, (fun c hcm e => by
            by_cases h : c.a = D
            · rw [h, upd_same] at e; cases e
            · rw [upd_ne h] at e; exact mm.st c hcm e)⟩
    · refine .inl ⟨stop (by omega), ?_⟩
      have hl : i = (xs w).length := by omega
      exact k (acc, z) D us F2 H2 m2 hHD hF2 hH2 nD rl (by omega) (iE acc z (by rw [← hl]; exact hI))
/-- .. as a value -/
theorem ne_lc {elt tg iter : Expr} {ifs : List Expr} {scope : Scope} {own : List (Str × Nat)} {T : Ty X.K α} {vl : μ → List α} {cs' : μ → List (Cell X.K)} {M : (μ → Prop) → Prop} (hc : X.calm = true) (hN : X.N.Nodup) (ok : BlkOk X.N X.env.scope scope own) (h : LcK X Y elt tg iter ifs scope own ρ cs T vl cs' M)
    (hfo : ∀ x, foldedSetIterable iter X.env x = pure x := by intro _; rfl) : NE X Y (.ListComp elt [⟨tg, iter, ifs, 0⟩] scope pos) ρ cs T vl cs' M := fun F σ H ok0 xh φ p Q k =>
  we (pe_lc hc hN pi_w ok pg_blk pts_blk pe_blk hfo) (h F σ H ok0 xh φ p Q k)
/-- y = [..], frozen -/
theorem sk_setLc {i : Nat} {nm : Str} {py : Pos} {elt tg iter : Expr} {ifs : List Expr} {scope : Scope} {own : List (Str × Nat)} {T : Ty X.K α} {vl : μ → List α} {cs' : μ → List (Cell X.K)} {M : (μ → Prop) → Prop} {spos : Pos} {φ : μ → List α → Prop} (hc : X.calm = true) (hN : X.N.Nodup) (ok : BlkOk X.N X.env.scope scope own) (h : LcK X Y elt tg iter ifs scope own ρ cs T vl cs' M)
    (k : ∀ y z, SK X B Y fl rest (ρ.set i (.val (tL T) z)) (cs' y) D (φ y z)) (hy : X.N[i]? = some nm := by rfl) (hyl : X.env.scope.names.lookup nm = some .local := by rfl)
    (hsw : swapsWith (.ListComp elt [⟨tg, iter, ifs, 0⟩] scope pos) (some (.Name nm py)) spos.line X.env = pure true := by exact sw_true rfl rfl rfl (by decide +kernel))
    (hfo : ∀ x, foldedSetIterable iter X.env x = pure x := by intro _; rfl) :
    SK X B Y fl (.Assign [.Name nm py] (.ListComp elt [⟨tg, iter, ifs, 0⟩] scope pos) spos :: rest) ρ cs D (M fun y => ∀ z, z = vl y → φ y z) := fun F σ H ok0 p W tk hx' => by
  refine wb (pss_cons (ps_setLc hc hN hy hyl hsw pi_w ok pg_blk pts_blk pe_blk hfo) pss_w) ?_
  refine h F σ H ok0.c (xh_of ok0 tk hx') _ p _ fun y a vs F' H' m hH hF ho hn r z q => ?_
  have m2 := frz_mv m hH hF ho hn
  have ok1 := ok0.to m2
  exact k y (vl y) _ _ H' (ok1.set i ⟨a, vs, rfl, upd_same, r.mono (same_upd hF), z⟩) (q _ rfl) W tk hx'
/-! ### statements with cells -/
/-- x = a new owned list -/
theorem sk_setN {i : Nat} {nm : Str} {pos' : Pos} {T : Ty X.K α} {vl : μ → List α} {cs' : μ → List (Cell X.K)} {M : (μ → Prop) → Prop} {φ : μ → Addr → List α → Prop} (hN : X.N.Nodup) (he : NE X Y e ρ cs T vl cs' M) (k : ∀ y a z, SK X B Y fl rest (ρ.set i (.val tR a)) (cs' y ++ [⟨a, cL T z⟩]) D (φ y a z)) (hi : X.N[i]? = some nm := by rfl)
    (hx : Loc X.env.scope nm := by first | exact Or.inl rfl | exact Or.inr rfl)
    (hs : swapsWith e (some (.Name nm pos')) pos.line X.env = pure false := by rfl) (hf : X.fn nm = true ∨ X.env.scope.names.lookup nm = some .local := by first | exact .inl rfl | exact .inr rfl) :
    SK X B Y fl (.Assign [.Name nm pos'] e pos :: rest) ρ cs D (M fun y => ∀ a z, z = vl y → φ y a z) := fun F σ H ok p W tk hx' => by
  refine wb (pss_cons (ps_set hN hi hx pe_w hs hf) pss_w) ?_
  refine he F σ H ok.c (xh_of ok tk hx') _ p _ fun y a vs F' H' m hH hF ho hn r z q => ?_
  have ok1 := ok.to (new_mv m hH hF ho hn r z)
  exact k y a (vl y) F' _ H' (ok1.set (T := tR) i rfl) (q a _ rfl) W tk hx'
/-- a cell's content gets a name -/
theorem sk_name {st : List Stmt} {T : Ty X.K α} {l : Addr} {x : List α} {φ : List α → Prop} (j : Nat) (hc : cs[j]? = some ⟨l, cL T x⟩) (k : ∀ w, SK X B Y fl st ρ (cs.set j ⟨l, cL T w⟩) D (φ w)) : SK X B Y fl st ρ cs D (∀ w, w = x → φ w) := fun F σ H ok p W tk hx' => by
  have e : cs.set j ⟨l, cL T x⟩ = cs := by
    apply List.ext_getElem?
    intro n
    by_cases hn : j = n
    · subst hn
      rw [List.getElem?_set_self (List.getElem?_eq_some_iff.mp hc).1, hc]
    · rw [List.getElem?_set_ne hn]
  have q := k x
  rw [e] at q
  exact q F σ H ok (p x rfl) W tk hx'
/-- the cell at j is written no more: frozen; it was made here -/
theorem sk_freeze {st : List Stmt} {T : Ty X.K α} {l : Addr} {x : List α} {φ : Prop} (j i : Nat) (hc : cs[j]? = some ⟨l, cL T x⟩) (hρ : ρ[i]? = some (.val tR l)) (hB : (cs.map Cell.a).take B.cin.length = B.cin.map Cell.a) (hj : B.cin.length ≤ j) (k : SK X B Y fl st (ρ.set i (.val (tL T) x)) (cs.eraseIdx j) D φ) : SK X B Y fl st ρ cs D φ := fun F σ H ok p W tk hx' => by
  have hm : ⟨l, cL T x⟩ ∈ cs := List.mem_of_getElem? hc
  obtain ⟨hF, o, ho, vs, e, r, z⟩ := ok.mv.cell _ hm
  subst e
  have hlt : j < cs.length := (List.getElem?_eq_some_iff.mp hc).1
  have inj : ∀ (n : Nat) (d : Cell X.K), cs[n]? = some d → d.a = l → n = j := fun n d e z => by
    have e1 : (cs.map Cell.a)[n]? = some l := by rw [List.getElem?_map, e]; exact congrArg some z
    have e2 : (cs.map Cell.a)[j]? = some l := by rw [List.getElem?_map, hc]; rfl
    obtain ⟨h1, q1⟩ := List.getElem?_eq_some_iff.mp e1
    obtain ⟨h2, q2⟩ := List.getElem?_eq_some_iff.mp e2
    exact (List.getElem_inj ok.mv.nd).mp (q1.trans q2.symm)
  have notin : ∀ c ∈ B.cin, c.a ≠ l := fun c hcm e => by
    have h1 : c.a ∈ (cs.map Cell.a).take B.cin.length := by rw [hB]; exact List.mem_map.mpr ⟨c, hcm, rfl⟩
    obtain ⟨n, hn⟩ := List.getElem?_of_mem h1
    have hnl : n < B.cin.length := by
      have := (List.getElem?_eq_some_iff.mp hn).1
      rw [List.length_take] at this
      omega
    rw [List.getElem?_take_of_lt hnl, List.getElem?_map] at hn
    cases q : cs[n]? with
    | none => rw [q] at hn; cases hn
    | some d =>
      rw [q] at hn
      have : n = j := inj n d q ((Option.some.inj hn).trans e)
      omega
  have fresh : B.H0 l = none := by
    rcases ok.mv.nw _ hm with ⟨c0, h0, e0⟩ | h0
    · exact absurd e0 (notin c0 h0)
    · exact h0
  have sF : Same F (upd F l (.lst vs)) := same_upd hF
  have rest_ne : ∀ c ∈ cs.eraseIdx j, c ∈ cs ∧ c.a ≠ l := fun c hcm => by
    refine ⟨List.mem_of_mem_eraseIdx hcm, fun e => ?_⟩
    obtain ⟨n, hn⟩ := List.getElem?_of_mem hcm
    rw [List.getElem?_eraseIdx] at hn
    split at hn
    · have := inj n c hn e; omega
    · have := inj (n + 1) c hn e; omega
  have ok2 : Ok B fl (ρ.set i (.val (tL T) x)) (cs.eraseIdx j) (upd F l (.lst vs)) σ H := by
    obtain ⟨u, hu, hs⟩ := ok.env.get hρ
    obtain ⟨v, ev, rv⟩ := hs
    subst ev
    have hv : v = .ref l := rv
    subst hv
    have e1 : σ.set i (some (.ref l)) = σ := by
      apply List.ext_getElem?
      intro n
      by_cases hn : i = n
      · subst hn
        rw [List.getElem?_set_self (List.getElem?_eq_some_iff.mp hu).1, hu]
      · rw [List.getElem?_set_ne hn]
    have env2 : Prd (Slot.ok (upd F l (.lst vs))) (ρ.set i (.val (tL T) x)) (σ.set i (some (.ref l))) :=
      (ok.env.mono fun _ _ r => r.mono sF).set (R := Slot.ok (upd F l (.lst vs))) (x := .val (tL T) x) (u := some (.ref l)) ⟨_, rfl, l, vs, rfl, upd_same, r.mono sF, z⟩ i
    rw [e1] at env2
    refine ⟨env2, ⟨ok.mv.ff.trans sF, fun b u e => ?_, fun b h1 h2 => ?_, ok.mv.kp, fun c hcm => ?_, ?_, fun c hcm => ok.mv.nw c (rest_ne c hcm).1, ok.mv.st⟩, ok.flo.trans sF⟩
    · by_cases h : b = l
      · subst h; rw [upd_same] at e; cases e; exact ho
      · rw [upd_ne h] at e; exact ok.mv.fh _ _ e
    · by_cases h : b = l
      · subst h; exact fresh
      · rw [upd_ne h] at h2; exact ok.mv.fr b h1 h2
    · obtain ⟨hcm, hne⟩ := rest_ne c hcm
      obtain ⟨n, o, e, r⟩ := ok.mv.cell c hcm
      exact ⟨by rw [upd_ne hne]; exact n, o, e, c.ck.mono sF r⟩
    · exact ok.mv.nd.sublist ((List.eraseIdx_sublist _ _).map _)
  exact k _ σ H ok2 p W tk hx'
/-- return, the value as it is -/
theorem sk_retF {A γ : Type} {ins : A → List (Slot X.K)} {T : Ty X.K γ} {pre : A → Prop} {f : A → γ} {a : A} {ψ : γ → Prop} {n b' c' : L2.St → Hp → Prop} {x : γ} {P : Prop} {r : List Stmt} (he : PK X e ρ [] T x P) :
    SK X B Y fl (.Return (some e) pos :: r) ρ [] { retD (Con.fn ins T pre f) a B ψ with nx := n, bk := b', ct := c' } (P ∧ ψ x) := sk_ret (C := Con.fn ins T pre f) x he rfl rfl
end
end MD
namespace MD
open PySem PySem.Spec PyProof.Rows L2
section
variable {X : Cx} {fl : Hp} {B : Hb X.K} {Y : Ec X.K} {ρ : List (Slot X.K)} {cs : List (Cell X.K)} {A R α β γ μ ν : Type} {pos : Pos} {rest : List Stmt} {D : Ends} {e : Expr}
/-! ### contracts with one owned list -/
/-- from the callee's cells to the caller's: the cell at j goes, the further ones come behind -/
theorem mv_one {F H F' H' : Hp} {j : Nat} {c c' : Cell X.K} {more : List (Cell X.K)} (ok : Okc ρ cs F σ H) (hc : cs[j]? = some c) (ha : c'.a = c.a) (m : Mv [c] F H (c' :: more) F' H') : Mv cs F H (cs.set j c' ++ more) F' H' := by
  have hj : j < cs.length := (List.getElem?_eq_some_iff.mp hc).1
  have hm : c ∈ cs := List.mem_of_getElem? hc
  have map_eq : (cs.set j c').map Cell.a = cs.map Cell.a := by
    rw [List.map_set]
    apply List.ext_getElem?
    intro n
    by_cases hn : j = n
    · subst hn
      rw [List.getElem?_set_self (by simpa using hj), List.getElem?_map, hc, ha]
      rfl
    · rw [List.getElem?_set_ne hn]
  have others : ∀ (n : Nat) (d : Cell X.K), n ≠ j → cs[n]? = some d → d.a ≠ c.a := fun n d hn e z => by
    have e1 : (cs.map Cell.a)[n]? = some c.a := by rw [List.getElem?_map, e]; exact congrArg some z
    have e2 : (cs.map Cell.a)[j]? = some c.a := by rw [List.getElem?_map, hc]; rfl
    obtain ⟨h1, q1⟩ := List.getElem?_eq_some_iff.mp e1
    obtain ⟨h2, q2⟩ := List.getElem?_eq_some_iff.mp e2
    exact hn ((List.getElem_inj ok.nd).mp (q1.trans q2.symm))
  have newa : ∀ d ∈ more, H d.a = none := fun d hd => by
    rcases m.nw d (List.mem_cons_of_mem _ hd) with ⟨c0, h0, e0⟩ | h0
    · obtain rfl := List.mem_singleton.mp h0
      have nd := m.nd
      rw [List.map_cons, List.nodup_cons] at nd
      exact absurd (List.mem_map.mpr ⟨d, hd, e0.symm.trans ha.symm⟩) nd.1
    · exact h0
  -- the cells that were not handed
  have old : ∀ d ∈ cs, d.a ≠ c.a → F' d.a = none ∧ ∃ o, H' d.a = some o ∧ d.ck.rep F' o := fun d hd hne => by
    obtain ⟨n, o, e, r⟩ := ok.cell d hd
    refine ⟨?_, o, m.kp d.a o e (fun c0 h0 z => ?_), d.ck.mono m.ff r⟩
    · cases q : F' d.a with
      | none => rfl
      | some u =>
        have := m.fr d.a n (by rw [q]; simp)
        rw [e] at this; cases this
    · obtain rfl := List.mem_singleton.mp h0
      exact hne z.symm
  refine ⟨m.ff, m.fh, m.fr, fun b o e n => m.kp b o e fun c0 h0 => ?_, fun d hd => ?_, ?_, fun d hd => ?_, fun d hd => ?_⟩
  · obtain rfl := List.mem_singleton.mp h0
    exact n _ hm
  · rcases List.mem_append.mp hd with hd | hd
    · obtain ⟨n, e⟩ := List.getElem?_of_mem hd
      by_cases hn : n = j
      · subst hn
        rw [List.getElem?_set_self hj] at e
        cases e
        exact m.cell _ List.mem_cons_self
      · rw [List.getElem?_set_ne (Ne.symm hn)] at e
        exact old d (List.mem_of_getElem? e) (others n d hn e)
    · exact m.cell d (List.mem_cons_of_mem _ hd)
  · rw [List.map_append, map_eq]
    have nd := m.nd
    rw [List.map_cons, List.nodup_cons] at nd
    refine List.nodup_append.mpr ⟨ok.nd, nd.2, fun x hx y hy e => ?_⟩
    obtain ⟨d, hd, rfl⟩ := List.mem_map.mp hx
    obtain ⟨d', hd', rfl⟩ := List.mem_map.mp hy
    obtain ⟨_, o, e1, _⟩ := ok.cell d hd
    rw [e, newa d' hd'] at e1; cases e1
  · rcases List.mem_append.mp hd with hd | hd
    · obtain ⟨n, e⟩ := List.getElem?_of_mem hd
      by_cases hn : n = j
      · subst hn
        rw [List.getElem?_set_self hj] at e
        cases e
        exact .inl ⟨c, hm, ha.symm⟩
      · rw [List.getElem?_set_ne (Ne.symm hn)] at e
        exact .inl ⟨d, List.mem_of_getElem? e, rfl⟩
    · exact .inr (newa d hd)
  · by_cases hne : d.a = c.a
    · rw [hne]; exact m.st c (by simp)
    · intro z
      obtain ⟨_, o, e, _⟩ := old d hd hne
      rw [e] at z; cases z
theorem mv_zero {F H F' H' : Hp} {σ : L2.St} {more : List (Cell X.K)} (ok : Okc ρ cs F σ H) (m : Mv [] F H more F' H') : Mv cs F H (cs ++ more) F' H' := by
  have newa : ∀ d ∈ more, H d.a = none := fun d hd => by
    rcases m.nw d hd with ⟨c0, h0, _⟩ | h0
    · cases h0
    · exact h0
  have old : ∀ d ∈ cs, F' d.a = none ∧ ∃ o, H' d.a = some o ∧ d.ck.rep F' o := fun d hd => by
    obtain ⟨n, o, e, r⟩ := ok.cell d hd
    refine ⟨?_, o, m.kp d.a o e (fun c0 h0 => (by cases h0)), d.ck.mono m.ff r⟩
    cases q : F' d.a with
    | none => rfl
    | some u =>
      have := m.fr d.a n (by rw [q]; simp)
      rw [e] at this; cases this
  refine ⟨m.ff, m.fh, m.fr, fun b o e n => m.kp b o e (fun c0 h0 => (by cases h0)), fun d hd => ?_, ?_, fun d hd => ?_, fun d hd z => ?_⟩
  · rcases List.mem_append.mp hd with hd | hd
    · exact old d hd
    · exact m.cell d hd
  · rw [List.map_append]
    refine List.nodup_append.mpr ⟨ok.nd, m.nd, fun x hx y hy e => ?_⟩
    obtain ⟨d, hd, rfl⟩ := List.mem_map.mp hx
    obtain ⟨d', hd', rfl⟩ := List.mem_map.mp hy
    obtain ⟨_, o, e1, _⟩ := ok.cell d hd
    rw [e, newa d' hd'] at e1; cases e1
  · rcases List.mem_append.mp hd with hd | hd
    · exact .inl ⟨d, hd, rfl⟩
    · exact .inr (newa d hd)
  · obtain ⟨_, o, e, _⟩ := old d hd
    rw [e] at z; cases z
/-! ### effects in arguments and operands -/
theorem ak_1 {T : Ty X.K α} {vl : μ → α} {cs' : μ → List (Cell X.K)} {M : (μ → Prop) → Prop} (h : EK X Y e ρ cs T vl cs' M) (hs : starEach (e :: []) X.env = (false, eval e X.env) :: starEach [] X.env := by rfl) : AK X Y [e] ρ cs (ts1 T) vl cs' M := fun F σ H ok xh φ p Q k => by
  refine wa (pa_cons pe_w pa_nil hs) ?_
  exact h F σ H ok xh φ p _ fun y v F1 H1 m r q => k y [v] F1 H1 m ⟨v, rfl, r⟩ q
theorem ak_C {es : List Expr} {T : Ty X.K α} {Ts : Tys X.K β} {vl : μ → α} {cs1 : μ → List (Cell X.K)} {M : (μ → Prop) → Prop} {vl2 : μ → ν → β} {cs2 : μ → ν → List (Cell X.K)} {M2 : μ → (ν → Prop) → Prop} (h : EK X Y e ρ cs T vl cs1 M) (hr : ∀ y, AK X Y es ρ (cs1 y) Ts (vl2 y) (cs2 y) (M2 y))
    (hs : starEach (e :: es) X.env = (false, eval e X.env) :: starEach es X.env := by rfl) : AK X Y (e :: es) ρ cs (tsC T Ts) (fun y : μ × ν => (vl y.1, vl2 y.1 y.2)) (fun y => cs2 y.1 y.2) (fun φ => M fun y => M2 y fun u => φ (y, u)) := fun F σ H ok xh φ p Q k => by
  refine wa (pa_cons pe_w pa_w hs) ?_
  refine h F σ H ok xh _ p _ fun y v F1 H1 m r q => ?_
  refine hr y F1 σ H1 (ok.mv m) (xh.mv m) _ q _ fun u w F2 H2 m2 r2 q2 => ?_
  exact k (y, u) (v :: w) F2 H2 (m.trans m2) ⟨v, w, rfl, T.mono m2.ff r, r2⟩ q2
theorem ek_op {op : Operator} {a b : Expr} {r : R2} {T1 : Ty X.K α} {T2 : Ty X.K β} {T3 : Ty X.K γ} {C : α → β → Prop} {f : α → β → γ} {vl : μ → α} {cs1 : μ → List (Cell X.K)} {M : (μ → Prop) → Prop} {vl2 : μ → ν → β} {cs2 : μ → ν → List (Cell X.K)} {M2 : μ → (ν → Prop) → Prop} (ho : OpR X (binaryOp op) r) (hr : R2K r T1 T2 T3 C f)
    (ha : EK X Y a ρ cs T1 vl cs1 M) (hb : ∀ y, EK X Y b ρ (cs1 y) T2 (vl2 y) (cs2 y) (M2 y)) : EK X Y (.BinOp a op b pos) ρ cs T3 (fun y : μ × ν => f (vl y.1) (vl2 y.1 y.2)) (fun y => cs2 y.1 y.2) (fun φ => M fun y => M2 y fun u => C (vl y) (vl2 y u) ∧ φ (y, u)) := fun F σ H ok xh φ p Q k => by
  refine we (pe_op ho pe_w pe_w) ?_
  refine ha F σ H ok xh _ p _ fun y v F1 H1 m1 r1 q1 => ?_
  have ok1 := ok.mv m1
  refine hb y F1 σ H1 ok1 (xh.mv m1) _ q1 _ fun u w F2 H2 m2 r2 q2 => ?_
  exact hr F2 H2 v w _ _ m2.fh (T1.mono m2.ff r1) r2 q2.1 Q fun z F3 H3 g3 r3 => k (y, u) z F3 H3 ((m1.trans m2).trans ((ok1.mv m2).grow g3)) r3 q2.2
theorem tk_cmp {op : CmpOp} {a b : Expr} {r : R2} {T1 : Ty X.K α} {T2 : Ty X.K β} {C : α → β → Prop} {f : α → β → Bool} {vl : μ → α} {cs1 : μ → List (Cell X.K)} {M : (μ → Prop) → Prop} {vl2 : μ → ν → β} {cs2 : μ → ν → List (Cell X.K)} {M2 : μ → (ν → Prop) → Prop} (ho : OpR X (compareOp op) r) (hr : R2K r T1 T2 tB C f)
    (ha : EK X Y a ρ cs T1 vl cs1 M) (hb : ∀ y, EK X Y b ρ (cs1 y) T2 (vl2 y) (cs2 y) (M2 y)) (hm : behindInMarks op b = false := by first | exact nomark _ | rfl) : TK X Y (.Compare a [op] [b] pos) ρ cs (fun y : μ × ν => f (vl y.1) (vl2 y.1 y.2)) (fun y => cs2 y.1 y.2) (fun φ => M fun y => M2 y fun u => C (vl y) (vl2 y u) ∧ φ (y, u)) := fun F σ H ok xh φ p Q k => by
  refine wt (pt_cmpR ho pe_w pe_w hm) ?_
  refine ha F σ H ok xh _ p _ fun y v F1 H1 m1 r1 q1 => ?_
  have ok1 := ok.mv m1
  refine hb y F1 σ H1 ok1 (xh.mv m1) _ q1 _ fun u w F2 H2 m2 r2 q2 => ?_
  exact hr F2 H2 v w _ _ m2.fh (T1.mono m2.ff r1) r2 q2.1 _ fun z F3 H3 g3 r3 => ⟨_, r3, k (y, u) F3 H3 ((m1.trans m2).trans ((ok1.mv m2).grow g3)) q2.2⟩
theorem ek_ixL [Inhabited α] {a b : Expr} {T : Ty X.K α} {vl : μ → List α} {cs1 : μ → List (Cell X.K)} {M : (μ → Prop) → Prop} {vl2 : μ → ν → Int} {cs2 : μ → ν → List (Cell X.K)} {M2 : μ → (ν → Prop) → Prop} (ha : EK X Y a ρ cs (tL T) vl cs1 M) (hb : ∀ y, EK X Y b ρ (cs1 y) tI (vl2 y) (cs2 y) (M2 y)) (hs : PlainIx b := by exact fun _ _ => rfl) :
    EK X Y (.Subscript a b pos) ρ cs T (fun y : μ × ν => pyIx (vl y.1) (vl2 y.1 y.2)) (fun y => cs2 y.1 y.2) (fun φ => M fun y => M2 y fun u => IxOk (vl y) (vl2 y u) ∧ φ (y, u)) := fun F σ H ok xh φ p Q k => by
  refine we (pe_ix ix_list pe_w pe_w hs) ?_
  refine ha F σ H ok xh _ p _ fun y v F1 H1 m1 ⟨q, vs, e1, hq, r, z⟩ q1 => ?_
  refine hb y F1 σ H1 (ok.mv m1) (xh.mv m1) _ q1 _ fun u w F2 H2 m2 r2 q2 => ?_
  obtain ⟨x, hx, rx⟩ := rl_atI (Rl.mono m2.ff r) q2.1
  exact ⟨q, vs, _, x, e1, r2, SqL.of ((m2.ff.trans m2.fh) _ _ hq), hx, k (y, u) x F2 H2 (m1.trans m2) rx q2.2⟩
end
end MD
/-! MDs: sets of texts made of a list, and sorted. -/
namespace MD
open PySem PySem.Spec PyProof.Rows L2
/-- the text of an entry -/
def txtOf (e : Int × Value) : Str := match e.2 with | .str k _ => k | _ => Str.empty
def TxtE (P : Program) (w : World) (e : Int × Value) : Prop := ∃ k tk, e.2 = Value.str k tk ∧ e.1 = (strKind P w).hash k
/-- at a lies a set of just the texts L -/
def SetX (P : Program) (w : World) (h : Heap) (a : Addr) (L : List Str) : Prop :=
  ∃ o es ep t, h.get? a = some o ∧ o.ExactSet ∧ o.data = .set es ep t ∧ (∀ e ∈ es.toList, TxtE P w e) ∧ es.toList.map txtOf = L ∧ L.Nodup ∧
    es.size < scanBound ∧ t.fits es.size = true ∧ Ris t.place.toList ∧ (w.params.followText "set-order" = true ∨ t.led = true)
section
variable {P : Program} {w : World} {h h' : Heap} {a : Addr} {L : List Str}
theorem SetX.keep (R : SetX P w h a L) (k : ∀ o, h.get? a = some o → h'.get? a = some o) : SetX P w h' a L :=
  let ⟨o, es, ep, t, ho, r⟩ := R; ⟨o, es, ep, t, k o ho, r⟩
theorem SetX.len (R : SetX P w h a L) : ∃ o es ep t, h.get? a = some o ∧ o.data = .set es ep t ∧ es.size = L.length := by
  obtain ⟨o, es, ep, t, ho, _, hd, _, hL, _⟩ := R
  exact ⟨o, es, ep, t, ho, hd, by rw [← hL, List.length_map, Array.length_toList]⟩
end
end MD
namespace MD
open PySem PySem.Spec PyProof.Rows L2
/-! ### views: what is seen of a value at a moment -/
abbrev Vw := Hp → Hp → V → Prop
section
variable {K : PySem.W.Frag} {α β γ : Type}
def sv (T : Ty K α) (x : α) : Vw := fun F _ v => T.rep F v x
/-- a list that stands, frozen or owned -/
def rL (T : Ty K α) (xs : List α) : Vw := fun F H v => ∃ a vs, v = .ref a ∧ H a = some (.lst vs) ∧ Rl T F vs xs ∧ vs.length ≤ sizeLine
/-- .. or known -/
def rK (T : Ty K α) (xs : List α) : Vw := fun F H v => ∃ a vs, v = .ref a ∧ SqL K H a vs ∧ Rl T F vs xs ∧ vs.length ≤ sizeLine
def rU (T : Ty K α) (xs : List α) : Vw := fun F H v => ∃ a vs, v = .ref a ∧ Rd H a (.tup vs) ∧ Rl T F vs xs ∧ vs.length ≤ sizeLine
def rQ (T : Ty K α) (xs : List α) : Vw := fun F H v => ∃ a vs, v = .ref a ∧ (SqL K H a vs ∨ SqT K H a vs) ∧ Rl T F vs xs ∧ vs.length ≤ sizeLine
/-- it stays while things grow -/
def Stays (S : Vw) : Prop := ∀ F H F' H' v, Grow F H F' H' → S F H v → S F' H' v
theorem sv_stays {T : Ty K α} {x : α} : Stays (sv T x) := fun F H F' H' v g h => T.mono g.ff h
end
section
variable {X : Cx} {fl : Hp} {B : Hb X.K} {Y : Ec X.K} {ρ : List (Slot X.K)} {cs : List (Cell X.K)} {A R α β γ μ ν : Type} {pos : Pos} {rest : List Stmt} {D : Ends} {e : Expr}
def PV (X : Cx) (e : Expr) (ρ : List (Slot X.K)) (cs : List (Cell X.K)) (S : Vw) (P : Prop) : Prop :=
  ∀ F σ H, Okw ρ cs F σ H → P → ∀ Q : VK, (∀ v F' H', Grow F H F' H' → S F' H' v → Q v H') → WE X e σ H Q
def EV (X : Cx) (Y : Ec X.K) (e : Expr) (ρ : List (Slot X.K)) (cs : List (Cell X.K)) {μ : Type} (S : μ → Vw) (cs' : μ → List (Cell X.K)) (M : (μ → Prop) → Prop) : Prop :=
  ∀ F σ H, Okc ρ cs F σ H → Xh X Y cs F σ H → ∀ φ : μ → Prop, M φ → ∀ Q : VK, (∀ y v F' H', Mv cs F H (cs' y) F' H' → S y F' H' v → φ y → Q v H') → WE X e σ H Q
theorem PK.v {T : Ty X.K α} {x : α} {P : Prop} (h : PK X e ρ cs T x P) : PV X e ρ cs (sv T x) P := h
theorem PV.k {T : Ty X.K α} {x : α} {P : Prop} (h : PV X e ρ cs (sv T x) P) : PK X e ρ cs T x P := h
theorem EK.v {T : Ty X.K α} {vl : μ → α} {cs' : μ → List (Cell X.K)} {M : (μ → Prop) → Prop} (h : EK X Y e ρ cs T vl cs' M) : EV X Y e ρ cs (fun y => sv T (vl y)) cs' M := h
theorem EV.k {T : Ty X.K α} {vl : μ → α} {cs' : μ → List (Cell X.K)} {M : (μ → Prop) → Prop} (h : EV X Y e ρ cs (fun y => sv T (vl y)) cs' M) : EK X Y e ρ cs T vl cs' M := h
theorem PV.to {S S' : Vw} {P C : Prop} (h : PV X e ρ cs S P) (k : ∀ F H v, Same F H → S F H v → S' F H v) : PV X e ρ cs S' P := fun F σ H ok p Q q => h F σ H ok p Q fun v F' H' g s => q v F' H' g (k F' H' v g.fh s)
theorem EV.to {S S' : μ → Vw} {cs' : μ → List (Cell X.K)} {M : (μ → Prop) → Prop} (h : EV X Y e ρ cs S cs' M) (k : ∀ y F H v, Same F H → S y F H v → S' y F H v) : EV X Y e ρ cs S' cs' M := fun F σ H ok xh φ p Q q => h F σ H ok xh φ p Q fun y v F' H' m s => q y v F' H' m (k y F' H' v m.fh s)
/-! lists, frozen and owned -/
theorem PK.l {T : Ty X.K α} {xs : List α} {P : Prop} (h : PK X e ρ cs (tL T) xs P) : PV X e ρ cs (rL T xs) P := fun F σ H ok p Q q => h F σ H ok p Q fun v F' H' g ⟨a, vs, h1, h2, h3, h4⟩ => q v F' H' g ⟨a, vs, h1, g.fh _ _ h2, h3, h4⟩
theorem PK.lk {T : Ty X.K α} {xs : List α} {P : Prop} (h : PK X e ρ cs (tLK T) xs P) : PV X e ρ cs (rK T xs) P := fun F σ H ok p Q q => h F σ H ok p Q fun v F' H' g ⟨a, vs, h1, h2, h3, h4⟩ => q v F' H' g ⟨a, vs, h1, g.fh.seq h2, h3, h4⟩
theorem PK.u {T : Ty X.K α} {xs : List α} {P : Prop} (h : PK X e ρ cs (tU T) xs P) : PV X e ρ cs (rU T xs) P := fun F σ H ok p Q q => h F σ H ok p Q fun v F' H' g ⟨a, vs, h1, h2, h3, h4⟩ => q v F' H' g ⟨a, vs, h1, same_rd g.fh h2, h3, h4⟩
theorem PK.own {T : Ty X.K α} {l : Addr} {xs : List α} {P : Prop} (j : Nat) (h : PK X e ρ cs tR l P) (hc : cs[j]? = Option.some ⟨l, cL T xs⟩) : PV X e ρ cs (rL T xs) P := fun F σ H ok p Q q => h F σ H ok p Q fun v F' H' g h1 => by
  obtain ⟨o, ho, vs, e, r, z⟩ := (ok.grow g).cell _ (List.mem_of_getElem? hc)
  subst e
  exact q v F' H' g ⟨l, vs, h1, ho, r, z⟩
theorem EK.l {T : Ty X.K α} {vl : μ → List α} {cs' : μ → List (Cell X.K)} {M : (μ → Prop) → Prop} (h : EK X Y e ρ cs (tL T) vl cs' M) : EV X Y e ρ cs (fun y => rL T (vl y)) cs' M := fun F σ H ok xh φ p Q q => h F σ H ok xh φ p Q fun y v F' H' m ⟨a, vs, h1, h2, h3, h4⟩ => q y v F' H' m ⟨a, vs, h1, m.fh _ _ h2, h3, h4⟩
theorem NE.l {T : Ty X.K α} {vl : μ → List α} {cs' : μ → List (Cell X.K)} {M : (μ → Prop) → Prop} (h : NE X Y e ρ cs T vl cs' M) : EV X Y e ρ cs (fun y => rL T (vl y)) cs' M := h.ek.l
theorem NK.l {T : Ty X.K α} {xs : List α} {P : Prop} (h : NK X e ρ cs T xs P) : PV X e ρ cs (rL T xs) P := h.pk.l
theorem PV.lk {T : Ty X.K α} {xs : List α} {P : Prop} (h : PV X e ρ cs (rL T xs) P) : PV X e ρ cs (rK T xs) P := PV.to (C := True) h fun F H v _ ⟨a, vs, h1, h2, h3, h4⟩ => ⟨a, vs, h1, SqL.of h2, h3, h4⟩
theorem PV.q {T : Ty X.K α} {xs : List α} {P : Prop} (h : PV X e ρ cs (rL T xs) P) : PV X e ρ cs (rQ T xs) P := PV.to (C := True) h fun F H v _ ⟨a, vs, h1, h2, h3, h4⟩ => ⟨a, vs, h1, .inl (SqL.of h2), h3, h4⟩
theorem PV.kq {T : Ty X.K α} {xs : List α} {P : Prop} (h : PV X e ρ cs (rK T xs) P) : PV X e ρ cs (rQ T xs) P := PV.to (C := True) h fun F H v _ ⟨a, vs, h1, h2, h3, h4⟩ => ⟨a, vs, h1, .inl h2, h3, h4⟩
theorem PV.uq {T : Ty X.K α} {xs : List α} {P : Prop} (h : PV X e ρ cs (rU T xs) P) : PV X e ρ cs (rQ T xs) P := PV.to (C := True) h fun F H v _ ⟨a, vs, h1, h2, h3, h4⟩ => ⟨a, vs, h1, .inr (.inl h2), h3, h4⟩
theorem EV.lk {T : Ty X.K α} {vl : μ → List α} {cs' : μ → List (Cell X.K)} {M : (μ → Prop) → Prop} (h : EV X Y e ρ cs (fun y => rL T (vl y)) cs' M) : EV X Y e ρ cs (fun y => rK T (vl y)) cs' M := h.to fun y F H v _ ⟨a, vs, h1, h2, h3, h4⟩ => ⟨a, vs, h1, SqL.of h2, h3, h4⟩
theorem EV.q {T : Ty X.K α} {vl : μ → List α} {cs' : μ → List (Cell X.K)} {M : (μ → Prop) → Prop} (h : EV X Y e ρ cs (fun y => rL T (vl y)) cs' M) : EV X Y e ρ cs (fun y => rQ T (vl y)) cs' M := h.to fun y F H v _ ⟨a, vs, h1, h2, h3, h4⟩ => ⟨a, vs, h1, .inl (SqL.of h2), h3, h4⟩
/-! ### a built-in function of one thing -/
/-- from a view to a view -/
def U1 (r : List V → Hp → VK → Prop) (S : Vw) (C : Prop) (S' : Vw) : Prop := ∀ F H v, Same F H → S F H v → C → ∀ Q : VK, (∀ z F' H', Grow F H F' H' → S' F' H' z → Q z H') → r [v] H Q
/-- .. to a new list -/
def UN {K : PySem.W.Frag} (r : List V → Hp → VK → Prop) (S : Vw) (C : Prop) (T : Ty K α) (xs : List α) : Prop := ∀ F H v, Same F H → S F H v → C → ∀ Q : VK, (∀ a vs, H a = none → Rl T F vs xs → vs.length ≤ sizeLine → Q (.ref a) (upd H a (.lst vs))) → r [v] H Q
section
variable {nm : Str} {p : Pos} {id : String} {r : List V → Hp → VK → Prop} {S S' : Vw} {P C : Prop} {Se Se' : μ → Vw} {Ce : μ → Prop} {cs' : μ → List (Cell X.K)} {M : (μ → Prop) → Prop}
theorem pv_cb (hc : CallR X (.builtin id) r) (hm : X.mg nm = none) (hv : bootBuiltins nm = some (.builtin id)) (hr : U1 r S C S') (h : PV X e ρ cs S P) (hg : Gl X nm := by rfl) (hn : nm ≠ "__name__" := by decide) (hdb : (nm == ("__debug__" : Str)) = false := by decide)
    (he : starEach (e :: []) X.env = (false, eval e X.env) :: starEach [] X.env := by rfl) (hpl : (backTo pos (starEach [] X.env)).any (·.1) = false := by rfl) : PV X (.Call (.Name nm p) [e] [] pos) ρ cs S' (P ∧ C) := fun F σ H ok q Q k => by
  refine we (pe_callB hc hg hm hv (pa_cons pe_w pa_nil he) hn hdb he hpl) ?_
  refine h F σ H ok q.1 _ fun v F1 H1 g1 s => ?_
  exact hr F1 H1 v g1.fh s q.2 Q fun z F2 H2 g2 s2 => k z F2 H2 (g1.trans g2) s2
theorem pv_ct (hc : CallR X (.type id) r) (hm : X.mg nm = none) (hv : bootBuiltins nm = some (.type id)) (hr : U1 r S C S') (h : PV X e ρ cs S P) (hg : Gl X nm := by rfl) (hn : nm ≠ "__name__" := by decide) (hdb : (nm == ("__debug__" : Str)) = false := by decide)
    (he : starEach (e :: []) X.env = (false, eval e X.env) :: starEach [] X.env := by rfl) (hpl : (backTo pos (starEach [] X.env)).any (·.1) = false := by rfl) : PV X (.Call (.Name nm p) [e] [] pos) ρ cs S' (P ∧ C) := fun F σ H ok q Q k => by
  refine we (pe_callTy hc hg hm hv (pa_cons pe_w pa_nil he) hn hdb he hpl) ?_
  refine h F σ H ok q.1 _ fun v F1 H1 g1 s => ?_
  exact hr F1 H1 v g1.fh s q.2 Q fun z F2 H2 g2 s2 => k z F2 H2 (g1.trans g2) s2
theorem ev_cb (hc : CallR X (.builtin id) r) (hm : X.mg nm = none) (hv : bootBuiltins nm = some (.builtin id)) (hr : ∀ y, U1 r (Se y) (Ce y) (Se' y)) (h : EV X Y e ρ cs Se cs' M) (hg : Gl X nm := by rfl) (hn : nm ≠ "__name__" := by decide) (hdb : (nm == ("__debug__" : Str)) = false := by decide)
    (he : starEach (e :: []) X.env = (false, eval e X.env) :: starEach [] X.env := by rfl) (hpl : (backTo pos (starEach [] X.env)).any (·.1) = false := by rfl) : EV X Y (.Call (.Name nm p) [e] [] pos) ρ cs Se' cs' (fun φ => M fun y => Ce y ∧ φ y) := fun F σ H ok xh φ q Q k => by
  refine we (pe_callB hc hg hm hv (pa_cons pe_w pa_nil he) hn hdb he hpl) ?_
  refine h F σ H ok xh _ q _ fun y v F1 H1 m1 s q1 => ?_
  exact hr y F1 H1 v m1.fh s q1.1 Q fun z F2 H2 g2 s2 => k y z F2 H2 (m1.trans ((ok.mv m1).grow g2)) s2 q1.2
theorem ev_ct (hc : CallR X (.type id) r) (hm : X.mg nm = none) (hv : bootBuiltins nm = some (.type id)) (hr : ∀ y, U1 r (Se y) (Ce y) (Se' y)) (h : EV X Y e ρ cs Se cs' M) (hg : Gl X nm := by rfl) (hn : nm ≠ "__name__" := by decide) (hdb : (nm == ("__debug__" : Str)) = false := by decide)
    (he : starEach (e :: []) X.env = (false, eval e X.env) :: starEach [] X.env := by rfl) (hpl : (backTo pos (starEach [] X.env)).any (·.1) = false := by rfl) : EV X Y (.Call (.Name nm p) [e] [] pos) ρ cs Se' cs' (fun φ => M fun y => Ce y ∧ φ y) := fun F σ H ok xh φ q Q k => by
  refine we (pe_callTy hc hg hm hv (pa_cons pe_w pa_nil he) hn hdb he hpl) ?_
  refine h F σ H ok xh _ q _ fun y v F1 H1 m1 s q1 => ?_
  exact hr y F1 H1 v m1.fh s q1.1 Q fun z F2 H2 g2 s2 => k y z F2 H2 (m1.trans ((ok.mv m1).grow g2)) s2 q1.2
variable {T : Ty X.K α} {xs : List α} {vl : μ → List α}
theorem nk_cb (hc : CallR X (.builtin id) r) (hm : X.mg nm = none) (hv : bootBuiltins nm = some (.builtin id)) (hr : UN r S C T xs) (h : PV X e ρ cs S P) (hg : Gl X nm := by rfl) (hn : nm ≠ "__name__" := by decide) (hdb : (nm == ("__debug__" : Str)) = false := by decide)
    (he : starEach (e :: []) X.env = (false, eval e X.env) :: starEach [] X.env := by rfl) (hpl : (backTo pos (starEach [] X.env)).any (·.1) = false := by rfl) : NK X (.Call (.Name nm p) [e] [] pos) ρ cs T xs (P ∧ C) := fun F σ H ok q Q k => by
  refine we (pe_callB hc hg hm hv (pa_cons pe_w pa_nil he) hn hdb he hpl) ?_
  refine h F σ H ok q.1 _ fun v F1 H1 g1 s => ?_
  refine hr F1 H1 v g1.fh s q.2 Q fun a vs hn r z => ?_
  obtain ⟨g2, hF⟩ := grow_upd (o := .lst vs) g1 hn
  exact k a vs F1 _ g2 (g1.hh.free hn) hF upd_same r z
theorem nk_ct (hc : CallR X (.type id) r) (hm : X.mg nm = none) (hv : bootBuiltins nm = some (.type id)) (hr : UN r S C T xs) (h : PV X e ρ cs S P) (hg : Gl X nm := by rfl) (hn : nm ≠ "__name__" := by decide) (hdb : (nm == ("__debug__" : Str)) = false := by decide)
    (he : starEach (e :: []) X.env = (false, eval e X.env) :: starEach [] X.env := by rfl) (hpl : (backTo pos (starEach [] X.env)).any (·.1) = false := by rfl) : NK X (.Call (.Name nm p) [e] [] pos) ρ cs T xs (P ∧ C) := fun F σ H ok q Q k => by
  refine we (pe_callTy hc hg hm hv (pa_cons pe_w pa_nil he) hn hdb he hpl) ?_
  refine h F σ H ok q.1 _ fun v F1 H1 g1 s => ?_
  refine hr F1 H1 v g1.fh s q.2 Q fun a vs hn r z => ?_
  obtain ⟨g2, hF⟩ := grow_upd (o := .lst vs) g1 hn
  exact k a vs F1 _ g2 (g1.hh.free hn) hF upd_same r z
end
end
/-! ### the order of texts -/
def leS (a b : Str) : Bool := !decide (b.cps.toList < a.cps.toList)
theorem str_ext {a b : Str} (h : a.cps.toList = b.cps.toList) : a = b := by
  cases a; cases b
  simp at h
  rw [h]
def sortS (xs : List Str) : List Str := xs.mergeSort leS
theorem sortS_perm (xs : List Str) : (sortS xs).Perm xs := List.mergeSort_perm xs leS
theorem sortS_mem {xs : List Str} {x : Str} : x ∈ sortS xs ↔ x ∈ xs := (sortS_perm xs).mem_iff
end MD
namespace MD
open PySem PySem.Spec PyProof.Rows L2
section
variable {K : PySem.W.Frag} {α β γ : Type}
theorem strOk_iff {x : Str} : PySem.PyData.strOk x = true ↔ ∀ c ∈ x.cps.toList, c < 0x110000 := by
  unfold PySem.PyData.strOk
  rw [← Array.all_toList, List.all_eq_true]
  simp
theorem strOk_join {sep : Str} {ys : List Str} (h : PySem.PyData.strOk sep = true) (hy : ∀ y ∈ ys, PySem.PyData.strOk y = true) : PySem.PyData.strOk (Str.join sep ys) = true := by
  rw [strOk_iff] at *
  intro c hc
  rcases (mem_join sep c ys).mp hc with ⟨t, ht, h1⟩ | ⟨_, h1⟩
  · exact strOk_iff.mp (hy t ht) c h1
  · exact h c h1
theorem strOk_cut {z : Str} {lo hi : Option Int} (h : PySem.PyData.strOk z = true) : PySem.PyData.strOk (cutS z lo hi) = true := by
  rw [strOk_iff] at *
  intro c hc
  exact h c (List.mem_of_mem_drop (List.mem_of_mem_take (by simpa [cutS] using hc)))
theorem rl_strs {F : Hp} {vs : List V} {xs : List Str} (h : Rl (tS (K := K)) F vs xs) : vs = xs.map V.str ∧ ∀ x ∈ xs, PySem.PyData.strOk x = true := by
  induction h with
  | nil => exact ⟨rfl, fun x hx => (by cases hx)⟩
  | cons r _ ih => exact ⟨by rw [List.map_cons, r.1, ih.1], fun x hx => (List.mem_cons.mp hx).elim (fun e => by rw [e]; exact r.2) (ih.2 x)⟩
theorem rl_of_strs {F : Hp} : ∀ {xs : List Str}, (∀ x ∈ xs, PySem.PyData.strOk x = true) → Rl (tS (K := K)) F (xs.map V.str) xs
  | [], _ => .nil
  | x :: xs, h => .cons ⟨rfl, h x List.mem_cons_self⟩ (rl_of_strs fun y hy => h y (List.mem_cons_of_mem _ hy))
theorem rl_ints {F : Hp} {vs : List V} {xs : List Int} (h : Rl (tI (K := K)) F vs xs) : vs = xs.map V.int := by
  induction h with
  | nil => rfl
  | cons r _ ih => rw [List.map_cons, ih]; congr
theorem rl_of_ints {F : Hp} : ∀ {xs : List Int}, Rl (tI (K := K)) F (xs.map V.int) xs
  | [] => .nil
  | x :: xs => .cons rfl rl_of_ints
theorem rl_bls {F : Hp} {vs : List V} {xs : List Bool} (h : Rl (tB (K := K)) F vs xs) : vs = xs.map V.bl := by
  induction h with
  | nil => rfl
  | cons r _ ih => rw [List.map_cons, ih]; congr
/-! ### built-in functions of one thing -/
theorem u_len {T : Ty K α} {xs : List α} : U1 (rLenQ K) (rQ T xs) True (sv (tI (K := K)) (xs.length : Int)) := fun F H v s ⟨a, vs, e, h, r, z⟩ _ Q k => by
  subst e
  exact ⟨a, vs, rfl, h, by rw [Rl.length r]; exact k _ F H (Grow.refl s) rfl⟩
theorem u_lenS {x : Str} : U1 (fun xs H Q => ∃ z, xs = [.str z] ∧ z.length ≤ sizeLine ∧ Q (.int z.length) H) (sv (tS (K := K)) x) (x.length ≤ sizeLine) (sv (tI (K := K)) (x.length : Int)) := fun F H v s h c Q k => ⟨x, by rw [h.1], c, k _ F H (Grow.refl s) rfl⟩
/-- the texts of xs, each once, sorted -/
def setS (xs : List Str) : List Str := sortS xs.eraseDups
theorem nodup_eraseDups [BEq α] [LawfulBEq α] : ∀ (xs : List α), xs.eraseDups.Nodup
  | [] => by simp
  | x :: xs => by
    rw [List.eraseDups_cons]
    refine List.nodup_cons.mpr ⟨fun h => ?_, nodup_eraseDups _⟩
    have := List.mem_eraseDups.mp h
    simp at this
  termination_by xs => xs.length
  decreasing_by
    have := List.length_filter_le (fun b => !b == x) xs
    simp only [List.length_cons]
    omega
theorem u_tupL {T : Ty K α} {xs : List α} : U1 (fun vs H Q => ∃ p ys, vs = [.ref p] ∧ ((SqL K H p ys ∧ ∀ l, H l = none → Q (.ref l) (upd H l (.tup ys))) ∨ (SqT K H p ys ∧ Q (.ref p) H))) (rK T xs) True (sv (tU T) xs) := fun F H v s ⟨a, vs, e, h, r, z⟩ _ Q k => by
  subst e
  refine ⟨a, vs, rfl, .inl ⟨h, fun l hl => ?_⟩⟩
  have g := grow_new s hl (.tup vs)
  exact k _ _ _ g ⟨l, vs, rfl, .inl upd_same, r.mono g.ff, z⟩
theorem n_list {T : Ty K α} {xs : List α} : UN (fun vs H Q => ∃ p ys, vs = [.ref p] ∧ (SqL K H p ys ∨ SqT K H p ys) ∧ ∀ l, H l = none → Q (.ref l) (upd H l (.lst ys))) (rQ T xs) True T xs := fun F H v s ⟨a, vs, e, h, r, z⟩ _ Q k => by
  subst e
  exact ⟨a, vs, rfl, h, fun l hl => k l vs hl r z⟩
theorem u_all {xs : List Bool} : U1 (rAll K) (rK (tB (K := K)) xs) True (sv (tB (K := K)) (xs.all id)) := fun F H v s ⟨a, vs, e, h, r, z⟩ _ Q k => by
  subst e
  obtain rfl := rl_bls r
  exact ⟨a, xs, rfl, h, k _ F H (Grow.refl s) rfl⟩
theorem u_intB {b : Bool} : U1 (fun xs H Q => (∃ i, xs = [.int i] ∧ Q (.int i) H) ∨ ∃ k, xs = [.bl k] ∧ Q (.int (if k then 1 else 0)) H) (sv (tB (K := K)) b) True (sv (tI (K := K)) (if b then 1 else 0)) := fun F H v s h _ Q k => by
  cases h
  exact .inr ⟨b, rfl, k _ F H (Grow.refl s) rfl⟩
/-! ### flat things in a row -/
structure FT [DecidableEq α] (T : Ty K α) : Prop where
  flat : ∀ F v x, T.rep F v x → flatV v = true
  eqv : ∀ F v w x y, T.rep F v x → T.rep F w y → eqV v w = decide (x = y)
theorem fI : FT (tI (K := K)) := ⟨fun F v x h => by cases h; rfl, fun F v w x y h1 h2 => by
  cases h1; cases h2
  show (x == y) = _
  exact Bool.beq_eq_decide_eq _ _⟩
theorem fS : FT (tS (K := K)) := ⟨fun F v x h => by obtain ⟨e, _⟩ := h; subst e; rfl, fun F v w x y h1 h2 => by
  obtain ⟨e1, _⟩ := h1; obtain ⟨e2, _⟩ := h2
  subst e1; subst e2
  show (x == y) = _
  exact Bool.beq_eq_decide_eq _ _⟩
theorem ft_all [DecidableEq α] {T : Ty K α} (f : FT T) {F : Hp} {vs : List V} {xs : List α} (r : Rl T F vs xs) : vs.all flatV = true := by
  induction r with
  | nil => rfl
  | cons r _ ih => rw [List.all_cons, f.flat _ _ _ r, ih] <;> rfl
theorem ft_in [DecidableEq α] {T : Ty K α} (f : FT T) {F : Hp} {v : V} {x : α} {vs : List V} {xs : List α} (h : T.rep F v x) (r : Rl T F vs xs) : inV v vs = decide (x ∈ xs) := by
  unfold inV
  induction r with
  | nil => simp
  | cons r _ ih =>
    rw [List.any_cons, ih, f.eqv _ _ _ _ _ r h, ← Bool.decide_or]
    exact decide_eq_decide.mpr (by rw [List.mem_cons, eq_comm])
end
section
variable {X : Cx} {fl : Hp} {B : Hb X.K} {Y : Ec X.K} {ρ : List (Slot X.K)} {cs : List (Cell X.K)} {A R α β γ μ ν : Type} {pos : Pos} {rest : List Stmt} {D : Ends} {e : Expr}
theorem pk_in [DecidableEq α] {a b : Expr} {T : Ty X.K α} {x : α} {xs : List α} {P1 P2 : Prop} (f : FT T) (ha : PK X a ρ cs T x P1) (hb : PV X b ρ cs (rQ T xs) P2) (hm : behindInMarks .In b = false := by rfl) : PK X (.Compare a [.In] [b] pos) ρ cs tB (decide (x ∈ xs)) (P1 ∧ P2) := fun F σ H ok p Q k => by
  refine we (pe_cmpR op_in_seq pe_w pe_w hm) ?_
  refine ha F σ H ok p.1 _ fun v F1 H1 g1 r1 => ?_
  refine hb F1 σ H1 (ok.grow g1) p.2 _ fun w F2 H2 g2 ⟨q, vs, e, h, r, z⟩ => ?_
  refine ⟨q, vs, e, h, f.flat _ _ _ r1, ft_all f r, ?_⟩
  rw [ft_in f (T.mono g2.ff r1) r]
  exact k _ F2 H2 (g1.trans g2) rfl
theorem pt_in [DecidableEq α] {a b : Expr} {T : Ty X.K α} {x : α} {xs : List α} {P1 P2 : Prop} (f : FT T) (ha : PK X a ρ cs T x P1) (hb : PV X b ρ cs (rQ T xs) P2) (hm : behindInMarks .In b = false := by rfl) : PTK X (.Compare a [.In] [b] pos) ρ cs (decide (x ∈ xs)) (P1 ∧ P2) := fun F σ H ok p Q k => by
  refine wt (pt_cmpR op_in_seq pe_w pe_w hm) ?_
  refine ha F σ H ok p.1 _ fun v F1 H1 g1 r1 => ?_
  refine hb F1 σ H1 (ok.grow g1) p.2 _ fun w F2 H2 g2 ⟨q, vs, e, h, r, z⟩ => ?_
  refine ⟨q, vs, e, h, f.flat _ _ _ r1, ft_all f r, ?_⟩
  rw [ft_in f (T.mono g2.ff r1) r]
  exact ⟨_, rfl, k F2 H2 (g1.trans g2)⟩
theorem pt_nin [DecidableEq α] {a b : Expr} {T : Ty X.K α} {x : α} {xs : List α} {P1 P2 : Prop} (f : FT T) (ha : PK X a ρ cs T x P1) (hb : PV X b ρ cs (rQ T xs) P2) (hm : behindInMarks .NotIn b = false := by rfl) : PTK X (.Compare a [.NotIn] [b] pos) ρ cs (!decide (x ∈ xs)) (P1 ∧ P2) := fun F σ H ok p Q k => by
  refine wt (pt_cmpR op_notIn_seq pe_w pe_w hm) ?_
  refine ha F σ H ok p.1 _ fun v F1 H1 g1 r1 => ?_
  refine hb F1 σ H1 (ok.grow g1) p.2 _ fun w F2 H2 g2 ⟨q, vs, e, h, r, z⟩ => ?_
  refine ⟨q, vs, e, h, f.flat _ _ _ r1, ft_all f r, ?_⟩
  show ∃ k, V.bl (!inV v vs) = .bl k ∧ Q k H2
  rw [ft_in f (T.mono g2.ff r1) r]
  exact ⟨_, rfl, k F2 H2 (g1.trans g2)⟩
/-! ### items of what stands -/
theorem pk_ixR [Inhabited α] {a b : Expr} {T : Ty X.K α} {xs : List α} {i : Int} {P1 P2 : Prop} (ha : PV X a ρ cs (rK T xs) P1) (hb : PK X b ρ cs tI i P2) (hs : PlainIx b := by exact fun _ _ => rfl) : PK X (.Subscript a b pos) ρ cs T (pyIx xs i) (P1 ∧ P2 ∧ IxOk xs i) := fun F σ H ok p Q k => by
  refine we (pe_ix ix_list pe_w pe_w hs) ?_
  refine ha F σ H ok p.1 _ fun v F1 H1 g1 ⟨q, vs, e1, hq, r, z⟩ => ?_
  refine hb F1 σ H1 (ok.grow g1) p.2.1 _ fun w F2 H2 g2 r2 => ?_
  obtain ⟨u, hu, ru⟩ := rl_atI (Rl.mono g2.ff r) p.2.2
  exact ⟨q, vs, i, u, e1, r2, g2.hh.seq hq, hu, k u F2 H2 (g1.trans g2) ru⟩
theorem atI_signs {z : Str} {i : Int} (hi : IxOk (signs z) i) : ∃ c, atI z.cps.toList i = some c ∧ c ∈ z.cps.toList ∧ pyIx (signs z) i = ⟨#[c]⟩ := by
  have hl : (signs z).length = z.cps.toList.length := by unfold signs; rw [List.length_map]
  unfold IxOk at hi
  rw [hl] at hi
  unfold pyIx atI
  rw [hl]
  have get : ∀ j : Nat, j < z.cps.toList.length → ∃ c, z.cps.toList[j]? = some c ∧ c ∈ z.cps.toList ∧ ((signs z)[j]?).getD default = ⟨#[c]⟩ := fun j hj => by
    refine ⟨z.cps.toList[j], List.getElem?_eq_getElem hj, List.getElem_mem hj, ?_⟩
    unfold signs
    rw [List.getElem?_map, List.getElem?_eq_getElem hj]
    rfl
  by_cases h0 : 0 ≤ i
  · have e : ixN z.cps.toList.length i = some i.toNat := by unfold ixN; rw [if_pos h0, if_pos hi.2]
    rw [e]
    exact get _ (by omega)
  · have e : ixN z.cps.toList.length i = some (i + z.cps.toList.length).toNat := by unfold ixN; rw [if_neg h0, if_pos hi.1]
    rw [e]
    exact get _ (by omega)
/-- a sign of a text -/
theorem pk_ixS {a b : Expr} {z : Str} {i : Int} {P1 P2 : Prop} (ha : PK X a ρ cs tS z P1) (hb : PK X b ρ cs tI i P2) (hs : PlainIx b := by exact fun _ _ => rfl) : PK X (.Subscript a b pos) ρ cs tS (pyIx (signs z) i) (P1 ∧ P2 ∧ z.length ≤ sizeLine ∧ IxOk (signs z) i) := fun F σ H ok p Q k => by
  refine we (pe_ix ix_str pe_w pe_w hs) ?_
  refine ha F σ H ok p.1 _ fun v F1 H1 g1 r1 => ?_
  refine hb F1 σ H1 (ok.grow g1) p.2.1 _ fun w F2 H2 g2 r2 => ?_
  obtain ⟨c, h1, h2, h3⟩ := atI_signs p.2.2.2
  exact ⟨z, i, c, r1.1, r2, p.2.2.1, h1, k _ F2 H2 (g1.trans g2) ⟨by rw [h3], by rw [h3]; exact strOk_sign r1.2 h2⟩⟩
theorem ek_ixS {a b : Expr} {vl : μ → Str} {cs1 : μ → List (Cell X.K)} {M : (μ → Prop) → Prop} {vl2 : μ → ν → Int} {cs2 : μ → ν → List (Cell X.K)} {M2 : μ → (ν → Prop) → Prop} (ha : EK X Y a ρ cs tS vl cs1 M) (hb : ∀ y, EK X Y b ρ (cs1 y) tI (vl2 y) (cs2 y) (M2 y)) (hs : PlainIx b := by exact fun _ _ => rfl) :
    EK X Y (.Subscript a b pos) ρ cs tS (fun y : μ × ν => pyIx (signs (vl y.1)) (vl2 y.1 y.2)) (fun y => cs2 y.1 y.2) (fun φ => M fun y => M2 y fun u => (vl y).length ≤ sizeLine ∧ IxOk (signs (vl y)) (vl2 y u) ∧ φ (y, u)) := fun F σ H ok xh φ p Q k => by
  refine we (pe_ix ix_str pe_w pe_w hs) ?_
  refine ha F σ H ok xh _ p _ fun y v F1 H1 m1 r1 q1 => ?_
  refine hb y F1 σ H1 (ok.mv m1) (xh.mv m1) _ q1 _ fun u w F2 H2 m2 r2 q2 => ?_
  obtain ⟨c, h1, h2, h3⟩ := atI_signs q2.2.1
  exact ⟨_, _, c, r1.1, r2, q2.1, h1, k (y, u) _ F2 H2 (m1.trans m2) ⟨by show V.str _ = V.str (pyIx (signs (vl y)) (vl2 y u)); rw [h3], by show PySem.PyData.strOk (pyIx (signs (vl y)) (vl2 y u)) = true; rw [h3]; exact strOk_sign r1.2 h2⟩ q2.2.2⟩
/-- the n-th of a tuple of written places -/
inductive Nth {K : PySem.W.Frag} : {α β : Type} → Nat → Tys K α → Ty K β → (α → β) → Prop
  | one {α : Type} {T : Ty K α} : Nth 0 (ts1 T) T fun x => x
  | here {α β : Type} {T : Ty K α} {Ts : Tys K β} : Nth 0 (tsC T Ts) T fun x => x.1
  | next {α β γ : Type} {n : Nat} {T : Ty K α} {Ts : Tys K β} {U : Ty K γ} {f : β → γ} : Nth n Ts U f → Nth (n + 1) (tsC T Ts) U fun x => f x.2
theorem Nth.get {K : PySem.W.Frag} {α β : Type} {n : Nat} {Ts : Tys K α} {U : Ty K β} {f : α → β} (h : Nth n Ts U f) : ∀ {F : Hp} {vs : List V} {x : α}, Ts.rep F vs x → ∃ v, vs[n]? = some v ∧ U.rep F v (f x) := by
  induction h with
  | one => intro F vs x ⟨v, e, r⟩; subst e; exact ⟨v, rfl, r⟩
  | here => intro F vs x ⟨v, r, e, h, _⟩; subst e; exact ⟨v, rfl, h⟩
  | next _ ih =>
    intro F vs x ⟨v, r, e, _, h⟩
    subst e
    obtain ⟨u, e1, q⟩ := ih h
    exact ⟨u, by simpa using e1, q⟩
theorem atI_nth {vs : List V} {n : Nat} {v : V} (h : vs[n]? = some v) : atI vs (n : Int) = some v := by
  have hn : n < vs.length := (List.getElem?_eq_some_iff.mp h).1
  unfold atI ixN
  rw [if_pos (Int.natCast_nonneg n), if_pos (by exact_mod_cast hn)]
  simpa using h
theorem pk_ixT {a : Expr} {Ts : Tys X.K α} {U : Ty X.K β} {f : α → β} {x : α} {P1 : Prop} {n : Nat} {j} {p2 : Pos} (hn : Nth n Ts U f) (ha : PK X a ρ cs (tT Ts) x P1) (hs : PlainIx (.Constant (.int n) j p2) := by exact fun _ _ => rfl) : PK X (.Subscript a (.Constant (.int n) j p2) pos) ρ cs U (f x) P1 := fun F σ H ok p Q k => by
  refine we (pe_ix ix_tup pe_w pe_int hs) ?_
  refine ha F σ H ok p _ fun v F1 H1 g1 ⟨q, vs, e1, hq, r⟩ => ?_
  obtain ⟨u, hu, ru⟩ := hn.get r
  exact ⟨q, vs, n, u, e1, rfl, SqT.of (g1.fh _ _ hq), atI_nth hu, k u F1 H1 g1 ru⟩
/-! ### join -/
theorem rq_strs {F H : Hp} {v : V} {ys : List Str} (h : rQ (tS (K := X.K)) ys F H v) : ∃ p, v = .ref p ∧ (SqL X.K H p (ys.map V.str) ∨ SqT X.K H p (ys.map V.str)) ∧ ∀ y ∈ ys, PySem.PyData.strOk y = true := by
  obtain ⟨p, vs, e, h, r, z⟩ := h
  obtain ⟨e1, ok⟩ := rl_strs r
  subst e1
  exact ⟨p, e, h, ok⟩
theorem pk_join {o a : Expr} {sep : Str} {ys : List Str} {P1 P2 : Prop} {apos : Pos} (ho : PK X o ρ cs tS sep P1) (ha : PV X a ρ cs (rQ (tS (K := X.K)) ys) P2) (hs : starEach [a] X.env = [(false, eval a X.env)] := by rfl) (hbase : attributeBase o "join" X.env (eval o X.env) = eval o X.env := by rfl) (hline : (apos.endLine == pos.line) = true := by rfl) :
    PK X (.Call (.Attribute o "join" apos) [a] [] pos) ρ cs tS (Str.join sep ys) (P1 ∧ P2 ∧ (ys.map (·.length)).sum + ys.length * sep.length ≤ 16777216) := fun F σ H ok p Q k => by
  refine we (pe_join pe_w pe_w hs hbase hline) ?_
  refine ho F σ H ok p.1 _ fun v F1 H1 g1 r1 => ⟨⟨sep, r1.1⟩, ?_⟩
  refine ha F1 σ H1 (ok.grow g1) p.2.1 _ fun w F2 H2 g2 s => ?_
  obtain ⟨q, e, h, oky⟩ := rq_strs s
  refine ⟨sep, q, ys, r1.1, by rw [e], h, p.2.2, ?_⟩
  exact k _ F2 H2 (g1.trans g2) ⟨congrArg V.str (PySem.StrLaws.glued_eq_join sep ys), strOk_join r1.2 oky⟩
theorem ek_join {o a : Expr} {sep : Str} {vl : μ → List Str} {cs1 : μ → List (Cell X.K)} {M : (μ → Prop) → Prop} {P1 : Prop} {apos : Pos} (ho : PK X o ρ cs tS sep P1) (ha : EV X Y a ρ cs (fun y => rQ (tS (K := X.K)) (vl y)) cs1 M) (hs : starEach [a] X.env = [(false, eval a X.env)] := by rfl) (hbase : attributeBase o "join" X.env (eval o X.env) = eval o X.env := by rfl) (hline : (apos.endLine == pos.line) = true := by rfl) :
    EK X Y (.Call (.Attribute o "join" apos) [a] [] pos) ρ cs tS (fun y => Str.join sep (vl y)) cs1 (fun φ => P1 ∧ M fun y => ((vl y).map (·.length)).sum + (vl y).length * sep.length ≤ 16777216 ∧ φ y) := fun F σ H ok xh φ p Q k => by
  refine we (pe_join pe_w pe_w hs hbase hline) ?_
  refine ho F σ H ok.w p.1 _ fun v F1 H1 g1 r1 => ⟨⟨sep, r1.1⟩, ?_⟩
  have m0 := ok.grow g1
  refine ha F1 σ H1 (ok.mv m0) (xh.mv m0) _ p.2 _ fun y w F2 H2 m2 s q2 => ?_
  obtain ⟨q, e, h, oky⟩ := rq_strs s
  refine ⟨sep, q, vl y, r1.1, by rw [e], h, q2.1, ?_⟩
  exact k y _ F2 H2 (m0.trans m2) ⟨congrArg V.str (PySem.StrLaws.glued_eq_join sep (vl y)), strOk_join r1.2 oky⟩ q2.2
end
end MD
namespace MD
open PySem PySem.Spec PyProof.Rows L2
section
variable {K : PySem.W.Frag} {α β γ : Type}
/-! ### methods of owned lists -/
theorem Rl.erase {T : Ty K α} {F : Hp} : ∀ {vs : List V} {xs : List α} (i : Nat), Rl T F vs xs → Rl T F (vs.eraseIdx i) (xs.eraseIdx i)
  | _, _, _, .nil => .nil
  | _, _, 0, .cons _ t => t
  | _, _, i + 1, .cons r t => .cons r (Rl.erase i t)
theorem Rl.drop {T : Ty K α} {F : Hp} : ∀ {vs : List V} {xs : List α} (i : Nat), Rl T F vs xs → Rl T F (vs.drop i) (xs.drop i)
  | _, _, 0, h => h
  | _, _, _ + 1, .nil => .nil
  | _, _, i + 1, .cons _ t => Rl.drop i t
theorem Rl.take {T : Ty K α} {F : Hp} : ∀ {vs : List V} {xs : List α} (i : Nat), Rl T F vs xs → Rl T F (vs.take i) (xs.take i)
  | _, _, 0, _ => .nil
  | _, _, _ + 1, .nil => .nil
  | _, _, i + 1, .cons r t => .cons r (Rl.take i t)
/-! ### plain data -/
structure DT (T : Ty K α) where
  d : α → PyData
  n : Nat
  dp : ∀ F H v x, Same F H → T.rep F v x → Dp K H v (d x)
  lay : ∀ F v x, T.rep F v x → (d x).canLay0 = true
  dep : ∀ x, (d x).depth ≤ n
  eqv : ∀ x y, PyData.eqv (d x) (d y) = true ↔ x = y
structure DTs (T : Tys K α) where
  d : α → List PyData
  n : Nat
  dp : ∀ F H v x, Same F H → T.rep F v x → DpAll K H v (d x)
  lay : ∀ F v x, T.rep F v x → PyData.canLayAll0 (d x) = true
  dep : ∀ x, PyData.depthAll (d x) ≤ n
  eqv : ∀ x y, PyData.eqvAll (d x) (d y) = true ↔ x = y
def dI : DT (tI (K := K)) := ⟨.int, 0, fun F H v x s h => by cases h; exact .int x, fun F v x h => by simp [PyData.canLay0], fun x => by simp [PyData.depth], fun x y => by simp [PyData.eqv]⟩
def dS : DT (tS (K := K)) := ⟨.str, 0, fun F H v x s h => by obtain ⟨e, _⟩ := h; subst e; exact .str x, fun F v x h => by simp only [PyData.canLay0]; exact h.2, fun x => by simp [PyData.depth], fun x y => by simp [PyData.eqv]⟩
theorem dp_all {T : Ty K α} (D : DT T) {F H : Hp} (s : Same F H) : ∀ {vs : List V} {xs : List α}, Rl T F vs xs → DpAll K H vs (xs.map D.d)
  | _, _, .nil => .nil
  | _, _, .cons r t => .cons (D.dp F H _ _ s r) (dp_all D s t)
theorem lay_all {T : Ty K α} (D : DT T) {F : Hp} : ∀ {vs : List V} {xs : List α}, Rl T F vs xs → PyData.canLayAll0 (xs.map D.d) = true
  | _, _, .nil => by simp [PyData.canLayAll0]
  | _, _, .cons r t => by simp only [List.map_cons, PyData.canLayAll0, D.lay _ _ _ r, lay_all D t, Bool.and_self]
theorem dep_all {T : Ty K α} (D : DT T) : ∀ xs : List α, PyData.depthAll (xs.map D.d) ≤ D.n
  | [] => by simp [PyData.depthAll]
  | x :: xs => by simp only [List.map_cons, PyData.depthAll]; exact Nat.max_le.mpr ⟨D.dep x, dep_all D xs⟩
theorem eqv_all {T : Ty K α} (D : DT T) : ∀ xs ys : List α, PyData.eqvAll (xs.map D.d) (ys.map D.d) = true ↔ xs = ys
  | [], [] => by simp [PyData.eqvAll]
  | [], y :: ys => by simp [PyData.eqvAll]
  | x :: xs, [] => by simp [PyData.eqvAll]
  | x :: xs, y :: ys => by simp only [List.map_cons, PyData.eqvAll, Bool.and_eq_true, D.eqv, eqv_all D xs ys, List.cons.injEq]
def dL {T : Ty K α} (D : DT T) : DT (tL T) := ⟨fun xs => .list (xs.map D.d), D.n + 1, fun F H v x s ⟨a, vs, e, h, r, z⟩ => by subst e; exact .lst (SqL.of (s _ _ h)) (dp_all D s r), fun F v x ⟨a, vs, e, h, r, z⟩ => by simp only [PyData.canLay0]; exact lay_all D r,
  fun x => by simp only [PyData.depth]; exact Nat.succ_le_succ (dep_all D x), fun x y => by simp only [PyData.eqv]; exact eqv_all D x y⟩
def dU {T : Ty K α} (D : DT T) : DT (tU T) := ⟨fun xs => .tuple (xs.map D.d), D.n + 1, fun F H v x s ⟨a, vs, e, h, r, z⟩ => by subst e; exact .tup (.inl (same_rd s h)) (dp_all D s r), fun F v x ⟨a, vs, e, h, r, z⟩ => by simp only [PyData.canLay0]; exact lay_all D r,
  fun x => by simp only [PyData.depth]; exact Nat.succ_le_succ (dep_all D x), fun x y => by simp only [PyData.eqv]; exact eqv_all D x y⟩
def ds1 {T : Ty K α} (D : DT T) : DTs (ts1 T) := ⟨fun x => [D.d x], D.n, fun F H v x s ⟨u, e, r⟩ => by subst e; exact .cons (D.dp F H _ _ s r) .nil, fun F v x ⟨u, e, r⟩ => by simp only [PyData.canLayAll0, D.lay _ _ _ r, Bool.and_self],
  fun x => by simp only [PyData.depthAll]; exact Nat.max_le.mpr ⟨D.dep x, Nat.zero_le _⟩, fun x y => by simp only [PyData.eqvAll, Bool.and_true, D.eqv]⟩
def dsC {T : Ty K α} {Ts : Tys K β} (D : DT T) (Ds : DTs Ts) : DTs (tsC T Ts) := ⟨fun x => D.d x.1 :: Ds.d x.2, max D.n Ds.n, fun F H v x s ⟨u, r, e, h1, h2⟩ => by subst e; exact .cons (D.dp F H _ _ s h1) (Ds.dp F H _ _ s h2),
  fun F v x ⟨u, r, e, h1, h2⟩ => by simp only [PyData.canLayAll0, D.lay _ _ _ h1, Ds.lay _ _ _ h2, Bool.and_self], fun x => by simp only [PyData.depthAll]; have := D.dep x.1; have := Ds.dep x.2; omega,
  fun x y => by simp only [PyData.eqvAll, Bool.and_eq_true, D.eqv, Ds.eqv]; exact Prod.ext_iff.symm⟩
def dT {Ts : Tys K α} (D : DTs Ts) : DT (tT Ts) := ⟨fun x => .tuple (D.d x), D.n + 1, fun F H v x s ⟨a, vs, e, h, r⟩ => by subst e; exact .tup (SqT.of (s _ _ h)) (D.dp F H _ _ s r), fun F v x ⟨a, vs, e, h, r⟩ => by simp only [PyData.canLay0]; exact D.lay _ _ _ r,
  fun x => by simp only [PyData.depth]; exact Nat.succ_le_succ (D.dep x), fun x y => by simp only [PyData.eqv]; exact D.eqv x y⟩
/-- a view of plain data -/
def DV (K : PySem.W.Frag) (S : Vw) (d : PyData) : Prop := ∀ F H v, Same F H → S F H v → Dp K H v d ∧ SeqAt.shaped d = true
theorem shaped_of {d : PyData} {n : Nat} (h : d.canLay0 = true) (h2 : d.depth ≤ n) (hn : n ≤ 64) : SeqAt.shaped d = true := by
  unfold SeqAt.shaped
  rw [h, Bool.true_and, decide_eq_true_eq]
  omega
theorem dv_sv {T : Ty K α} (D : DT T) {x : α} (hn : D.n ≤ 64 := by exact Nat.le_of_ble_eq_true rfl) : DV K (sv T x) (D.d x) := fun F H v s h => ⟨D.dp F H v x s h, shaped_of (D.lay _ _ _ h) (D.dep x) hn⟩
theorem eqv_dec [DecidableEq α] {T : Ty K α} (D : DT T) (x y : α) : PyData.eqv (D.d x) (D.d y) = decide (x = y) := by
  rw [Bool.eq_iff_iff, D.eqv, decide_eq_true_eq]
/-! ### what is of which type -/
def TVw (K : PySem.W.Frag) (S : Vw) (t : String) : Prop := ∀ F H v, Same F H → S F H v → TyX K H v (.type t)
theorem ty_S {x : Str} : TVw K (sv (tS (K := K)) x) "str" := fun F H v s h => by obtain ⟨e, _⟩ := h; subst e; exact .base (.str x)
def cutA (xs : List α) (lo hi : Option Int) : List α := (xs.drop (HT.sIx xs.length 0 lo)).take (HT.sIx xs.length xs.length hi - HT.sIx xs.length 0 lo)
theorem Rl.cut {T : Ty K α} {F : Hp} {vs : List V} {xs : List α} {lo hi : Option Int} (h : Rl T F vs xs) : Rl T F (cutV vs lo hi) (cutA xs lo hi) := by
  unfold cutV cutA
  rw [Rl.length h]
  exact Rl.take _ (Rl.drop _ h)
end
section
variable {X : Cx} {fl : Hp} {B : Hb X.K} {Y : Ec X.K} {ρ : List (Slot X.K)} {cs : List (Cell X.K)} {A R α β γ μ ν : Type} {pos : Pos} {rest : List Stmt} {D : Ends} {e : Expr}
theorem pt_eqV {a b : Expr} {S1 S2 : Vw} {d1 d2 : PyData} {r : Bool} {P1 P2 : Prop} (hu : X.A.units + 64 < cLine) (h1 : DV X.K S1 d1) (h2 : DV X.K S2 d2) (st : Stays S1) (he : PyData.eqv d1 d2 = r) (ha : PV X a ρ cs S1 P1) (hb : PV X b ρ cs S2 P2) (hm : behindInMarks .Eq b = false := by first | exact nomark _ | rfl) :
    PTK X (.Compare a [.Eq] [b] pos) ρ cs r (P1 ∧ P2) := fun F σ H ok p Q k => by
  refine wt (pt_cmpR (op_eqD hu) pe_w pe_w hm) ?_
  refine ha F σ H ok p.1 _ fun v F1 H1 g1 s1 => ?_
  refine hb F1 σ H1 (ok.grow g1) p.2 _ fun w F2 H2 g2 s2 => ?_
  have q1 := h1 F2 H2 v g2.fh (st _ _ _ _ _ g2 s1)
  have q2 := h2 F2 H2 w g2.fh s2
  exact ⟨d1, d2, q1.1, q2.1, q1.2, q2.2, _, rfl, by rw [he]; exact k F2 H2 (g1.trans g2)⟩
theorem pk_isi {a : Expr} {S : Vw} {t c : String} {r : Bool} {P : Prop} {nm cn : Str} {p p2 : Pos} (h : TVw X.K S t) (ha : PV X a ρ cs S P) (hm : X.mg nm = none) (hv : bootBuiltins nm = some (.builtin "isinstance")) (hm2 : X.mg cn = none) (hv2 : bootBuiltins cn = some (.type c)) (hk : kitB t c = some r) (hg : Gl X nm := by rfl) (hg2 : Gl X cn := by rfl) (hn : nm ≠ "__name__" := by decide) (hdb : (nm == ("__debug__" : Str)) = false := by decide)
    (hn2 : cn ≠ "__name__" := by decide) (hdb2 : (cn == ("__debug__" : Str)) = false := by decide)
    (he : starEach (a :: [.Name cn p2]) X.env = (false, eval a X.env) :: starEach [.Name cn p2] X.env := by rfl) (he2 : starEach (.Name cn p2 :: []) X.env = (false, eval (.Name cn p2) X.env) :: starEach [] X.env := by rfl) (hpl : (backTo pos (starEach [.Name cn p2] X.env)).any (·.1) = false := by rfl) :
    PK X (.Call (.Name nm p) [a, .Name cn p2] [] pos) ρ cs tB r P := fun F σ H ok q Q k => by
  refine we (pe_callB call_isi hg hm hv (pa_cons pe_w (pa_cons (pe_bltn (v := .ty c) hg2 hm2 hv2 rfl hn2 hdb2) pa_nil he2) he) hn hdb he hpl) ?_
  refine ha F σ H ok q _ fun v F1 H1 g1 s1 => ?_
  exact ⟨v, .ty c, _, _, r, rfl, .ty c, h F1 H1 v g1.fh s1, kit_ty hk, k _ F1 H1 g1 rfl⟩
/-! ### slices -/
def WO (X : Cx) (e : Option Expr) : TO := fun σ H Q => ∀ pins s, Inv X pins σ H s → wpAny (model X.prog X.w) X.A (evalPart e X.env) (fun u s' => ∃ o H', Inv X pins σ H' s' ∧ IsPart u o ∧ Q o H') X.xe s
theorem po_w {e : Option Expr} : PO X e (WO X e) := ⟨fun pins s σ H Q I h => h pins s I⟩
def PKo (X : Cx) (e : Option Expr) (ρ : List (Slot X.K)) (cs : List (Cell X.K)) (o : Option Int) (P : Prop) : Prop :=
  ∀ F σ H, Okw ρ cs F σ H → P → ∀ Q : Option Int → Hp → Prop, (∀ F' H', Grow F H F' H' → Q o H') → WO X e σ H Q
theorem po_0 : PKo X none ρ cs none True := fun F σ H ok _ Q k => fun pins s I => po_none.run pins s σ H Q I (k F H (Grow.refl ok.same))
theorem po_1 {e : Expr} {i : Int} {P : Prop} (h : PK X e ρ cs tI i P) : PKo X (some e) ρ cs (some i) P := fun F σ H ok p Q k => fun pins s I => (po_some pe_w).run pins s σ H Q I (h F σ H ok p _ fun v F' H' g r => ⟨i, r, k F' H' g⟩)
theorem pk_slS {a : Expr} {lo hi : Option Expr} {z : Str} {l h : Option Int} {P P1 P2 : Prop} {p2 : Pos} (ha : PK X a ρ cs tS z P) (hl : PKo X lo ρ cs l P1) (hh : PKo X hi ρ cs h P2) : PK X (.Subscript a (.Slice lo hi none p2) pos) ρ cs tS (cutS z l h) (P ∧ P1 ∧ P2 ∧ z.length ≤ sizeLine) := fun F σ H ok q Q k => by
  refine we (pe_slice sl_str pe_w po_w po_w) ?_
  refine ha F σ H ok q.1 _ fun v F1 H1 g1 r1 => ?_
  refine hl F1 σ H1 (ok.grow g1) q.2.1 _ fun F2 H2 g2 => ?_
  refine hh F2 σ H2 (ok.grow (g1.trans g2)) q.2.2.1 _ fun F3 H3 g3 => ?_
  exact ⟨z, r1.1, q.2.2.2, k _ F3 H3 ((g1.trans g2).trans g3) ⟨rfl, strOk_cut r1.2⟩⟩
theorem nk_slL {a : Expr} {lo hi : Option Expr} {T : Ty X.K α} {xs : List α} {l h : Option Int} {P P1 P2 : Prop} {p2 : Pos} (ha : PV X a ρ cs (rK T xs) P) (hl : PKo X lo ρ cs l P1) (hh : PKo X hi ρ cs h P2) : NK X (.Subscript a (.Slice lo hi none p2) pos) ρ cs T (cutA xs l h) (P ∧ P1 ∧ P2) := fun F σ H ok q Q k => by
  refine we (pe_slice sl_list pe_w po_w po_w) ?_
  refine ha F σ H ok q.1 _ fun v F1 H1 g1 ⟨b, vs, e, hb, r, z⟩ => ?_
  refine hl F1 σ H1 (ok.grow g1) q.2.1 _ fun F2 H2 g2 => ?_
  refine hh F2 σ H2 (ok.grow (g1.trans g2)) q.2.2 _ fun F3 H3 g3 => ?_
  refine ⟨b, vs, e, (g2.hh.trans g3.hh).seq hb, fun p hp => ?_⟩
  have g := (g1.trans g2).trans g3
  obtain ⟨g4, hF⟩ := grow_upd (o := .lst (cutV vs l h)) g hp
  exact k p _ F3 _ g4 (g.hh.free hp) hF upd_same (Rl.cut (r.mono (g2.ff.trans g3.ff))) (Nat.le_trans (cutV_length ..) z)
/-! ### one behind another -/
theorem nk_cat {a b : Expr} {T : Ty X.K α} {xs ys : List α} {P1 P2 : Prop} (ha : PV X a ρ cs (rL T xs) P1) (hb : PV X b ρ cs (rL T ys) P2) : NK X (.BinOp a .Add b pos) ρ cs T (xs ++ ys) (P1 ∧ P2 ∧ xs.length + ys.length ≤ sizeLine) := fun F σ H ok q Q k => by
  refine we (pe_op op_cat pe_w pe_w) ?_
  refine ha F σ H ok q.1 _ fun v F1 H1 g1 ⟨l, vs, e, h, r, z⟩ => ?_
  refine hb F1 σ H1 (ok.grow g1) q.2.1 _ fun w F2 H2 g2 ⟨m, ws, e2, h2, r2, z2⟩ => ?_
  have hl : vs.length + ws.length ≤ sizeLine := by rw [Rl.length r, Rl.length r2]; exact q.2.2
  refine ⟨l, m, vs, ws, e, e2, g2.hh _ _ h, h2, hl, fun p hp => ?_⟩
  have g := g1.trans g2
  obtain ⟨g4, hF⟩ := grow_upd (o := .lst (vs ++ ws)) g hp
  exact k p _ F2 _ g4 (g.hh.free hp) hF upd_same (Rl.append (r.mono g2.ff) r2) (by rw [List.length_append]; exact hl)
theorem rc_max2 {K : PySem.W.Frag} : RCK (K := K) (fun xs H Q => ∃ i j, xs = [.int i, .int j] ∧ Q (.int (if j > i then j else i)) H) (tsC tI (ts1 tI)) tI yes1 (fun x => if x.2 > x.1 then x.2 else x.1) := fun F H vs x s ⟨v, r, e, h1, u, e2, h2⟩ c Q k => by
  subst e; subst e2; cases h1; cases h2
  exact ⟨_, _, rfl, k _ F H (Grow.refl s) rfl⟩
end
end MD
namespace MD
open PySem PySem.Spec PyProof.Rows L2
section
variable {K : PySem.W.Frag} {κ α β γ : Type}
/-! ### dicts with flat keys -/
structure KT (T : Ty K κ) where
  kf : κ → Key
  inj : ∀ x y, kf x = kf y → x = y
  val : ∀ F v x, T.rep F v x → v = kV (kf x)
def kS : KT (tS (K := K)) := ⟨Sum.inr, fun x y h => Sum.inr.inj h, fun F v x h => h.1⟩
def Ent {TK : Ty K κ} (k : KT TK) (T : Ty K α) (F : Hp) (e : Key × V) (p : κ × α) : Prop := e.1 = k.kf p.1 ∧ TK.rep F (kV e.1) p.1 ∧ T.rep F e.2 p.2
def Re {TK : Ty K κ} (k : KT TK) (T : Ty K α) (F : Hp) : List (Key × V) → List (κ × α) → Prop := Paired (Ent k T F)
theorem Re.mono {TK : Ty K κ} {k : KT TK} {T : Ty K α} {F F' : Hp} {es kvs} (e : Same F F') (h : Re k T F es kvs) : Re k T F' es kvs := paired_mono (fun _ _ r => ⟨r.1, TK.mono e r.2.1, T.mono e r.2.2⟩) h
def cD {TK : Ty K κ} (k : KT TK) (T : Ty K α) (kvs : List (κ × α)) : CK K := ⟨fun F o => ∃ es, o = .dK es ∧ Re k T F es kvs ∧ es.length ≤ sizeLine, fun e ⟨es, h, r, z⟩ => ⟨es, h, r.mono e, z⟩⟩
def tD {TK : Ty K κ} (k : KT TK) (T : Ty K α) : Ty K (List (κ × α)) := ⟨fun F v kvs => ∃ a es o, v = .ref a ∧ F a = some (.frz o (.dK es)) ∧ Re k T F es kvs ∧ es.length ≤ sizeLine, fun e ⟨a, es, o, h1, h2, r, z⟩ => ⟨a, es, o, h1, e _ _ h2, r.mono e, z⟩⟩
def rD {TK : Ty K κ} (k : KT TK) (T : Ty K α) (kvs : List (κ × α)) : Vw := fun F H v => ∃ a es, v = .ref a ∧ Rd H a (.dK es) ∧ Re k T F es kvs ∧ es.length ≤ sizeLine
def dget [DecidableEq κ] (kvs : List (κ × α)) (x : κ) : Option α := (kvs.find? fun p => decide (p.1 = x)).map (·.2)
def dput [DecidableEq κ] (kvs : List (κ × α)) (x : κ) (y : α) : List (κ × α) := if (kvs.any fun p => decide (p.1 = x)) = true then kvs.map (fun p => if p.1 = x then (p.1, y) else p) else kvs ++ [(x, y)]
section
variable [DecidableEq κ] {TK : Ty K κ} {k : KT TK} {T : Ty K α} {F : Hp}
theorem kf_dec (k : KT TK) (x y : κ) : decide (k.kf x = k.kf y) = decide (x = y) := decide_eq_decide.mpr ⟨k.inj x y, fun e => by rw [e]⟩
theorem re_val {es : List (Key × V)} {kvs : List (κ × α)} (h : Re k T F es kvs) (x : κ) : (valV es (k.kf x) = none ∧ dget kvs x = none) ∨ ∃ v y, valV es (k.kf x) = some v ∧ dget kvs x = some y ∧ T.rep F v y := by
  induction h with
  | nil => exact .inl ⟨rfl, rfl⟩
  | @cons e p es' kvs' r _ ih =>
    by_cases q : p.1 = x
    · refine .inr ⟨e.2, p.2, ?_, ?_, r.2.2⟩
      · exact valV_pos (by rw [r.1, q])
      · unfold dget; rw [List.find?_cons_of_pos (by simpa using q)]; rfl
    · have e1 : valV (e :: es') (k.kf x) = valV es' (k.kf x) := valV_neg fun z => q (k.inj _ _ (r.1.symm.trans z))
      have e2 : dget (p :: kvs') x = dget kvs' x := by unfold dget; rw [List.find?_cons_of_neg (by simpa using q)]
      rw [e1, e2]
      exact ih
theorem re_any {es : List (Key × V)} {kvs : List (κ × α)} (h : Re k T F es kvs) (x : κ) : (es.any fun kv => decide (kv.1 = k.kf x)) = kvs.any fun p => decide (p.1 = x) := by
  induction h with
  | nil => rfl
  | cons r _ ih => rw [List.any_cons, List.any_cons, ih, r.1, kf_dec]
theorem re_map {es : List (Key × V)} {kvs : List (κ × α)} (h : Re k T F es kvs) {x : κ} {v : V} {y : α} (r : T.rep F v y) : Re k T F (es.map fun kv => if kv.1 = k.kf x then (kv.1, v) else kv) (kvs.map fun p => if p.1 = x then (p.1, y) else p) := by
  induction h with
  | nil => exact .nil
  | @cons e p es' kvs' q _ ih =>
    refine .cons ?_ ih
    by_cases hx : p.1 = x
    · have h1 : e.1 = k.kf x := by rw [q.1, hx]
      show Ent k T F (if e.1 = k.kf x then (e.1, v) else e) (if p.1 = x then (p.1, y) else p)
      rw [if_pos h1, if_pos hx]
      exact ⟨q.1, q.2.1, r⟩
    · have h1 : ¬ e.1 = k.kf x := fun z => hx (k.inj _ _ (q.1.symm.trans z))
      show Ent k T F (if e.1 = k.kf x then (e.1, v) else e) (if p.1 = x then (p.1, y) else p)
      rw [if_neg h1, if_neg hx]
      exact q
theorem re_app {es es' : List (Key × V)} {kvs kvs' : List (κ × α)} (h : Re k T F es kvs) (h' : Re k T F es' kvs') : Re k T F (es ++ es') (kvs ++ kvs') := by
  induction h with
  | nil => exact h'
  | cons r _ ih => exact .cons r ih
theorem re_put {es : List (Key × V)} {kvs : List (κ × α)} (h : Re k T F es kvs) {x : κ} {v : V} {y : α} (hx : TK.rep F (kV (k.kf x)) x) (r : T.rep F v y) : Re k T F (putK es (k.kf x) v) (dput kvs x y) := by
  unfold putK dput
  rw [re_any h x]
  split
  · exact re_map h r
  · exact re_app h (.cons ⟨rfl, hx, r⟩ .nil)
end
theorem Re.length {TK : Ty K κ} {k : KT TK} {T : Ty K α} {F : Hp} {es : List (Key × V)} {kvs : List (κ × α)} (h : Re k T F es kvs) : es.length = kvs.length := Paired.length h
theorem putK_len {kvs : List (Key × V)} {x : Key} {v : V} : (putK kvs x v).length ≤ kvs.length + 1 := by
  unfold putK
  split
  · rw [List.length_map]; exact Nat.le_succ _
  · rw [List.length_append]; exact Nat.le_refl _
/-! ### instances -/
def putS (f : Str) (s : Slot K) : List (Str × Slot K) → List (Str × Slot K)
  | [] => [(f, s)]
  | (g, x) :: r => bif g == f then (g, s) :: r else (g, x) :: putS f s r
theorem FldOk.mono {F F' : Hp} (e : Same F F') : ∀ {fs : List (Str × Slot K)} {vs : List (Str × V)}, FldOk F fs vs → FldOk F' fs vs
  | _, _, .nil => .nil
  | _, _, .cons r t => .cons (r.mono e) (FldOk.mono e t)
theorem FldOk.put {F : Hp} {f : Str} {s : Slot K} {v : V} (h : Slot.ok F s (some v)) : ∀ {fs : List (Str × Slot K)} {vs : List (Str × V)}, FldOk F fs vs → FldOk F (putS f s fs) (putF f v vs)
  | _, _, .nil => .cons h .nil
  | _, _, .cons (n := n) r t => by
    unfold putS putF
    by_cases e : n = f
    · subst e
      rw [if_pos rfl, beq_self_eq_true, cond_true]
      exact .cons h t
    · rw [if_neg e, beq_eq_false_iff_ne.mpr e, cond_false]
      exact .cons r (FldOk.put h t)
theorem FldOk.len {F : Hp} : ∀ {fs : List (Str × Slot K)} {vs : List (Str × V)}, FldOk F fs vs → vs.length = fs.length
  | _, _, .nil => rfl
  | _, _, .cons _ t => by rw [List.length_cons, List.length_cons, t.len]
theorem FldOk.look {F : Hp} {f : Str} : ∀ {fs : List (Str × Slot K)} {vs : List (Str × V)}, FldOk F fs vs → (fs.lookup f = none ∧ vs.lookup f = none) ∨ ∃ s v, fs.lookup f = some s ∧ vs.lookup f = some v ∧ Slot.ok F s (some v)
  | _, _, .nil => .inl ⟨rfl, rfl⟩
  | _, _, .cons (n := n) (s := s) (v := v) r t => by
    by_cases h : f = n
    · subst h
      exact .inr ⟨s, v, List.lookup_cons_self, List.lookup_cons_self, r⟩
    · have hb : (f == n) = false := beq_eq_false_iff_ne.mpr h
      rcases FldOk.look (f := f) t with ⟨h1, h2⟩ | ⟨s', v', h1, h2, q⟩
      · exact .inl ⟨by rw [List.lookup_cons, hb]; exact h1, by rw [List.lookup_cons, hb]; exact h2⟩
      · exact .inr ⟨s', v', by rw [List.lookup_cons, hb]; exact h1, by rw [List.lookup_cons, hb]; exact h2, q⟩
def cI (C : Addr) (fs : List (Str × Slot K)) : CK K := ⟨fun F o => ∃ dx vs, o = .ins C dx vs ∧ FldOk F fs vs, fun e ⟨dx, vs, h, r⟩ => ⟨dx, vs, h, r.mono e⟩⟩
def tIn (C : Addr) (fd : α → List (Str × Slot K)) : Ty K α := ⟨fun F v x => ∃ a dx vs, v = .ref a ∧ F a = some (.ins C dx vs) ∧ FldOk F (fd x) vs, fun e ⟨a, dx, vs, h1, h2, r⟩ => ⟨a, dx, vs, h1, e _ _ h2, r.mono e⟩⟩
/-- an instance that stands -/
def rI' (C : Addr) (fs : List (Str × Slot K)) : Vw := fun F H v => ∃ a dx vs, v = .ref a ∧ H a = some (.ins C dx vs) ∧ FldOk F fs vs
end
section
variable {X : Cx} {fl : Hp} {B : Hb X.K} {Y : Ec X.K} {ρ : List (Slot X.K)} {cs : List (Cell X.K)} {A R κ α β γ μ ν : Type} {pos : Pos} {rest : List Stmt} {D : Ends} {e : Expr}
theorem PK.ins {C : Addr} {fd : α → List (Str × Slot X.K)} {x : α} {P : Prop} (h : PK X e ρ cs (tIn C fd) x P) : PV X e ρ cs (rI' C (fd x)) P := fun F σ H ok p Q q => h F σ H ok p Q fun v F' H' g ⟨a, dx, vs, h1, h2, r⟩ => q v F' H' g ⟨a, dx, vs, h1, g.fh _ _ h2, r⟩
theorem PK.dict {TK : Ty X.K κ} {k : KT TK} {T : Ty X.K α} {kvs : List (κ × α)} {P : Prop} (h : PK X e ρ cs (tD k T) kvs P) : PV X e ρ cs (rD k T kvs) P := fun F σ H ok p Q q => h F σ H ok p Q fun v F' H' g ⟨a, es, o, h1, h2, r, z⟩ => q v F' H' g ⟨a, es, h1, .inr ⟨o, g.fh _ _ h2⟩, r, z⟩
theorem PK.ownD {TK : Ty X.K κ} {k : KT TK} {T : Ty X.K α} {kvs : List (κ × α)} {l : Addr} {P : Prop} (j : Nat) (h : PK X e ρ cs tR l P) (hc : cs[j]? = Option.some ⟨l, cD k T kvs⟩) : PV X e ρ cs (rD k T kvs) P := fun F σ H ok p Q q => h F σ H ok p Q fun v F' H' g h1 => by
  obtain ⟨o, ho, es, e, r, z⟩ := (ok.grow g).cell _ (List.mem_of_getElem? hc)
  subst e
  exact q v F' H' g ⟨l, es, h1, .inl ho, r, z⟩
/-- o.f -/
theorem pk_fld {o : Expr} {f : Str} {C : Addr} {fs : List (Str × Slot X.K)} {T : Ty X.K α} {x : α} {P : Prop} (c : Cls X.K C) (n : NoAttr X.K C f) (h : PV X o ρ cs (rI' C fs) P) (hf : fs.lookup f = some (.val T x) := by rfl) (hb : attributeBase o f X.env (eval o X.env) = eval o X.env := by rfl) : PK X (.Attribute o f pos) ρ cs T x P := fun F σ H ok p Q k => by
  refine we (pe_fld pe_w hb) ?_
  refine h F σ H ok p _ fun v F1 H1 g ⟨a, dx, vs, e, ha, r⟩ => ?_
  rcases r.look (f := f) with ⟨h1, _⟩ | ⟨s, u, h1, h2, q⟩
  · rw [hf] at h1; cases h1
  · rw [hf] at h1
    cases h1
    obtain ⟨u', e1, q⟩ := q
    cases e1
    exact ⟨a, C, dx, vs, u, e, ha, c, n, h2, k u F1 H1 g q⟩
/-- o.f = e, o an owned instance -/
theorem sk_fld {o : Expr} {f : Str} {p1 : Pos} {C x : Addr} {fs : List (Str × Slot X.K)} {T : Ty X.K α} {vl : μ → α} {cs' : μ → List (Cell X.K)} {M : (μ → Prop) → Prop} {φ : μ → α → Prop} (j : Nat) (c : Cls X.K C) (n : NoAttr X.K C f) (he : EK X Y e ρ cs T vl cs' M) (ho : ∀ y, PK X o ρ (cs' y) tR x True) (hc : ∀ y, (cs' y)[j]? = some ⟨x, cI C fs⟩)
    (k : ∀ y z, SK X B Y fl rest ρ ((cs' y).set j ⟨x, cI C (putS f (.val T z) fs)⟩) D (φ y z)) (hl : fs.length < 1000 := by exact Nat.le_of_ble_eq_true rfl) (hs : swapsWith e (some (.Attribute o f p1)) pos.line X.env = pure false := by rfl) :
    SK X B Y fl (.Assign [.Attribute o f p1] e pos :: rest) ρ cs D (M fun y => ∀ z, z = vl y → φ y z) := fun F σ H ok p W tk hx' => by
  refine wb (pss_cons (ps_fld pe_w pe_w hs) pss_w) ?_
  refine he F σ H ok.c (xh_of ok tk hx') _ p _ fun y v F1 H1 m r q => ?_
  have ok1 := ok.to m
  refine ho y F1 σ H1 ok1.c.w trivial _ fun w F2 H2 g r2 => ?_
  have ok2 := ok1.to (ok1.c.grow g)
  obtain ⟨_, ob, hob, dx, vs, e1, rf⟩ := ok2.c.cell _ (List.mem_of_getElem? (hc y))
  subst e1
  refine ⟨x, C, dx, vs, r2, hob, c, n, by rw [rf.len]; exact hl, ?_⟩
  exact k y (vl y) F2 σ _ (ok2.to (mv_upd (k := cI C (putS f (.val T (vl y)) fs)) ok2.c (hc y) (show ∃ dx' vs', HO.ins C dx (putF f v vs) = .ins C dx' vs' ∧ FldOk F2 (putS f (.val T (vl y)) fs) vs' from ⟨dx, _, rfl, rf.put (f := f) (s := .val T (vl y)) ⟨v, rfl, T.mono g.ff r⟩⟩))) (q _ rfl) W tk hx'
/-- a new dict, the last cell -/
def ND (X : Cx) (e : Expr) : Prop := ∀ σ H (Q : VK), (∀ a, H a = none → Q (.ref a) (upd H a (.dK []))) → WE X e σ H Q
theorem nd_new : ND X (.Dict [] [] pos) := fun σ H Q k => we pe_dnewK fun a ha => k a ha
theorem newD_mv {TK : Ty X.K κ} (k : KT TK) (T : Ty X.K α) {F H : Hp} {σ : L2.St} {a : Addr} (ok : Okc ρ cs F σ H) (ha : H a = none) : Mv cs F H (cs ++ [⟨a, cD k T []⟩]) F (upd H a (.dK [])) := by
  have g := grow_upd (o := .dK []) (Grow.refl ok.same) ha
  have m := ok.grow g.1
  refine ⟨m.ff, m.fh, m.fr, m.kp, fun c hc => ?_, ?_, fun c hc => ?_, m.st⟩
  · rcases List.mem_append.mp hc with hc | hc
    · exact m.cell c hc
    · obtain rfl := List.mem_singleton.mp hc
      exact ⟨g.2, _, upd_same, [], rfl, .nil, Nat.zero_le _⟩
  · rw [List.map_append]
    refine List.nodup_append.mpr ⟨m.nd, by simp, fun x hx y hy => ?_⟩
    obtain ⟨c, hc, rfl⟩ := List.mem_map.mp hx
    have : y = a := by simpa using hy
    rw [this]
    intro e
    obtain ⟨_, o, e1, _⟩ := ok.cell c hc
    rw [e, ha] at e1; cases e1
  · rcases List.mem_append.mp hc with hc | hc
    · exact m.nw c hc
    · obtain rfl := List.mem_singleton.mp hc
      exact .inr ha
theorem sk_setD {TK : Ty X.K κ} (kt : KT TK) (T : Ty X.K α) {i : Nat} {nm : Str} {pos' : Pos} {φ : Addr → Prop} (hN : X.N.Nodup) (he : ND X e) (k : ∀ a, SK X B Y fl rest (ρ.set i (.val tR a)) (cs ++ [⟨a, cD kt T []⟩]) D (φ a)) (hi : X.N[i]? = some nm := by rfl)
    (hx : Loc X.env.scope nm := by first | exact Or.inl rfl | exact Or.inr rfl) (hs : swapsWith e (some (.Name nm pos')) pos.line X.env = pure false := by rfl) (hf : X.fn nm = true ∨ X.env.scope.names.lookup nm = some .local := by first | exact .inl rfl | exact .inr rfl) :
    SK X B Y fl (.Assign [.Name nm pos'] e pos :: rest) ρ cs D (∀ a, φ a) := fun F σ H ok p W tk hx' => by
  refine wb (pss_cons (ps_set hN hi hx pe_w hs hf) pss_w) ?_
  refine he σ H _ fun a ha => ?_
  exact k a F _ _ ((ok.to (newD_mv kt T ok.c ha)).set (T := tR) i rfl) (p a) W tk hx'
/-! ### reading dicts -/
section
variable [DecidableEq κ] {TK : Ty X.K κ} {kt : KT TK} {T : Ty X.K α} {kvs : List (κ × α)} {x : κ} {P1 P2 : Prop} {d i : Expr}
theorem re_some {F : Hp} {es : List (Key × V)} (r : Re kt T F es kvs) : (valV es (kt.kf x)).isSome = (dget kvs x).isSome := by
  rcases re_val r x with ⟨h1, h2⟩ | ⟨u, y, h1, h2, q⟩ <;> rw [h1, h2] <;> rfl
theorem pt_din (hu : X.A.units + 1 < cLine) (hi : PK X i ρ cs TK x P2) (hd : PV X d ρ cs (rD kt T kvs) P1) (hm : behindInMarks .In d = false := by rfl) : PTK X (.Compare i [.In] [d] pos) ρ cs (dget kvs x).isSome (P2 ∧ P1) := fun F σ H ok p Q k => by
  refine wt (pt_cmp (pc_din hu pe_w pe_w) hm) ?_
  refine hi F σ H ok p.1 _ fun w F1 H1 g1 r1 => ?_
  refine hd F1 σ H1 (ok.grow g1) p.2 _ fun v F2 H2 g2 ⟨a, es, e, ha, r, z⟩ => ?_
  have ew := kt.val _ _ _ r1
  subst ew
  exact ⟨a, _, e, .inl ⟨es, kt.kf x, ha, rfl, rfl⟩, _, rfl, by rw [re_some r]; exact k F2 H2 (g1.trans g2)⟩
/-- d[i] = e, d an owned dict -/
theorem sk_dput {p1 : Pos} {l : Addr} {vl : μ → α} {cs' : μ → List (Cell X.K)} {M : (μ → Prop) → Prop} {kw : μ → List (κ × α)} {P3 P4 : μ → Prop} {φ : μ → List (κ × α) → Prop} (j : Nat) (hu : X.A.units + 1 < cLine) (he : EK X Y e ρ cs T vl cs' M) (hd : ∀ y, PK X d ρ (cs' y) tR l (P3 y)) (hi : ∀ y, PK X i ρ (cs' y) TK x (P4 y)) (hc : ∀ y, (cs' y)[j]? = some ⟨l, cD kt T (kw y)⟩)
    (k : ∀ y z, SK X B Y fl rest ρ ((cs' y).set j ⟨l, cD kt T z⟩) D (φ y z)) (hs : swapsWith e (some (.Subscript d i p1)) pos.line X.env = pure false := by rfl) :
    SK X B Y fl (.Assign [.Subscript d i p1] e pos :: rest) ρ cs D (M fun y => P3 y ∧ P4 y ∧ (kw y).length < sizeLine ∧ ∀ z, z = dput (kw y) x (vl y) → φ y z) := fun F σ H ok p W tk hx' => by
  refine wb (pss_cons (ps_dput hu pe_w pe_w pe_w hs) pss_w) ?_
  refine he F σ H ok.c (xh_of ok tk hx') _ p _ fun y v F1 H1 m r q => ?_
  have ok1 := ok.to m
  refine hd y F1 σ H1 ok1.c.w q.1 _ fun w F2 H2 g2 r2 => ?_
  have ok2 := ok1.to (ok1.c.grow g2)
  refine hi y F2 σ H2 ok2.c.w q.2.1 _ fun u F3 H3 g3 r3 => ?_
  have ok3 := ok2.to (ok2.c.grow g3)
  have eu := kt.val _ _ _ r3
  subst eu
  obtain ⟨_, ob, hob, es, e1, re, z⟩ := ok3.c.cell _ (List.mem_of_getElem? (hc y))
  subst e1
  have hl : es.length < sizeLine := by rw [re.length]; exact q.2.2.1
  refine ⟨l, _, r2, .inl ⟨es, kt.kf x, hob, rfl, hl, rfl⟩, ?_⟩
  exact k y _ F3 σ _ (ok3.to (mv_upd (k := cD kt T (dput (kw y) x (vl y))) ok3.c (hc y) ⟨_, rfl, re_put re r3 (T.mono (g2.ff.trans g3.ff) r), Nat.le_trans putK_len hl⟩)) (q.2.2.2 _ rfl) W tk hx'
end
end
end MD
namespace MD
open PySem PySem.Spec PyProof.Rows L2
section
variable {X : Cx} {fl : Hp} {B : Hb X.K} {Y : Ec X.K} {ρ : List (Slot X.K)} {cs : List (Cell X.K)} {A R κ α β γ δ μ ν : Type} {pos : Pos} {rest : List Stmt} {D : Ends} {e : Expr}
/-! ### freezing -/
theorem FldOk.set {K : PySem.W.Frag} {F : Hp} {f : Str} {s s2 : Slot K} : ∀ {fs : List (Str × Slot K)} {vs : List (Str × V)} {m : Nat}, FldOk F fs vs → fs[m]? = some (f, s) → (∀ v, Slot.ok F s (some v) → Slot.ok F s2 (some v)) → FldOk F (fs.set m (f, s2)) vs
  | _, _, _, .nil, h, _ => by simp at h
  | _, _, 0, .cons r t, h, k => by simp at h; obtain ⟨rfl, rfl⟩ := h; exact .cons (k _ r) t
  | _, _, m + 1, .cons r t, h, k => .cons r (FldOk.set (m := m) t (by simpa using h) k)
/-! ### walks over dicts -/
/-! ### making, methods -/
/-! ### ends -/
/-- the end of a def without a return -/
theorem sk_end {A R : Type} {C : Con X.K A R Unit} {a : A} {ψ : R → Prop} {b' c' : L2.St → Hp → Prop} (q : R) (hT : ∀ F, C.T.rep F .non (C.rv q)) (hc : C.cout a q = cs) : SK X B Y fl [] ρ cs { retD C a B ψ with bk := b', ct := c' } (ψ q) := fun F σ H ok p W tk hx' =>
  wb pss_nil ⟨q, F, by rw [hc]; exact ok.mv, hT F, p⟩
end
end MD
namespace MD
open PySem PySem.Spec PyProof.Rows L2
/-! ### calls by shape -/
/-- the arguments' types as slots -/
def Sl {K : PySem.W.Frag} {α : Type} (Ts : Tys K α) (ins : α → List (Slot K)) : Prop := ∀ F vs x, Ts.rep F vs x → Prd (fun s v => Slot.ok F s (some v)) (ins x) vs
section
variable {K : PySem.W.Frag} {α β γ δ : Type}
theorem sl0 : Sl (ts0 (K := K)) fun _ => [] := fun F vs x h => by
  have h : vs = [] := h
  subst h
  exact .nil
theorem sl1 {T : Ty K α} : Sl (ts1 T) fun x => [.val T x] := fun F vs x ⟨v, e, r⟩ => by subst e; exact .cons ⟨v, rfl, r⟩ .nil
theorem slC {T : Ty K α} {Ts : Tys K β} {ins : β → List (Slot K)} (h : Sl Ts ins) : Sl (tsC T Ts) fun x => .val T x.1 :: ins x.2 := fun F vs x ⟨v, r, e, h1, h2⟩ => by subst e; exact .cons ⟨v, rfl, h1⟩ (h F r x.2 h2)
/-- one owned list, then frozen things -/
def Con.o1 (T0 : Ty K δ) (ins : α → List (Slot K)) (T : Ty K γ) (pre : List δ → α → Prop) (post : List δ → α → γ → List δ → Prop) : Con K (Addr × List δ × α) (γ × List δ) γ where
  ins := fun a => .val tR a.1 :: ins a.2.2
  cin := fun a => [⟨a.1, cL T0 a.2.1⟩]
  wp := fun a φ _ => pre a.2.1 a.2.2 ∧ ∀ r c, post a.2.1 a.2.2 r c → φ (r, c)
  T := T
  rv := fun r => r.1
  cout := fun a r => [⟨a.1, cL T0 r.2⟩]
  mono := fun _ _ _ _ _ h _ w => ⟨w.1, fun r c e => h (r, c) (w.2 r c e)⟩
/-- frozen things, a new owned list -/
def Con.mk1 (ins : α → List (Slot K)) (T0 : Ty K δ) (pre : α → Prop) (post : α → List δ → Prop) : Con K α (Addr × List δ) Addr where
  ins := ins
  cin := fun _ => []
  wp := fun a φ _ => pre a ∧ ∀ l c, post a c → φ (l, c)
  T := tR
  rv := fun r => r.1
  cout := fun _ r => [⟨r.1, cL T0 r.2⟩]
  mono := fun _ _ _ _ _ h _ w => ⟨w.1, fun l c e => h (l, c) (w.2 l c e)⟩
end
section
variable {X : Cx} {fl : Hp} {B : Hb X.K} {Y : Ec X.K} {ρ : List (Slot X.K)} {cs : List (Cell X.K)} {A R α β γ δ μ ν : Type} {pos : Pos} {rest : List Stmt} {D : Ends} {e : Expr}
theorem pk_fn {k : Nat} {f : Addr} {fd : FuncData} {ps : List Str} {nm : Str} {p : Pos} {es : List Expr} {ins : α → List (Slot X.K)} {T : Ty X.K γ} {pre : α → Prop} {g : α → γ} {Ts : Tys X.K α} {x : α} {Pa : Prop}
    (F : FnOk X.prog X.w X.K X.mg X.base (L2.CX X.prog X.w) k f fd ps (Con.fn ins T pre g).sp) (hs : Sl Ts ins) (hr : Room k X.A) (hm : X.mg nm = some (.ref f)) (hk : PySem.W.keepIn X.K (.ref f) = true) (hb : Binds X.K fd ps [])
    (ha : PAK X (e :: es) ρ cs Ts x Pa) (hg : Gl X nm := by rfl) (hdb : (nm == ("__debug__" : Str)) = false := by decide) (he : starEach (e :: es) X.env = (false, eval e X.env) :: starEach es X.env := by rfl) (hpl : (backTo pos (starEach es X.env)).any (·.1) = false := by rfl) :
    PK X (.Call (.Name nm p) (e :: es) [] pos) ρ cs T (g x) (Pa ∧ pre x) := pk_call x F hr hm hk hb ha (fun F vs h => hs F vs x h) hg hdb he hpl
/-- f(l, ..), l an owned list at j -/
theorem ek_o1 {k : Nat} {f : Addr} {fd : FuncData} {ps : List Str} {nm : Str} {p : Pos} {es : List Expr} {T0 : Ty X.K δ} {ins : α → List (Slot X.K)} {T : Ty X.K γ} {pre : List δ → α → Prop} {post : List δ → α → γ → List δ → Prop} {Ts : Tys X.K α} {vl : μ → α} {cs1 : μ → List (Cell X.K)} {M : (μ → Prop) → Prop} {l : Addr} {c : μ → List δ} (j : Nat)
    (F : FnOk X.prog X.w X.K X.mg X.base (L2.CX X.prog X.w) k f fd ps (Con.o1 T0 ins T pre post).sp) (hs : Sl Ts ins) (hr : Room k X.A) (hm : X.mg nm = some (.ref f)) (hk : PySem.W.keepIn X.K (.ref f) = true) (hb : Binds X.K fd ps [])
    (hl : PK X e ρ cs tR l True) (ha : AK X Y es ρ cs Ts vl cs1 M) (hc : ∀ y, (cs1 y)[j]? = some ⟨l, cL T0 (c y)⟩) (hg : Gl X nm := by rfl) (hdb : (nm == ("__debug__" : Str)) = false := by decide) (he : starEach (e :: es) X.env = (false, eval e X.env) :: starEach es X.env := by rfl) (hpl : (backTo pos (starEach es X.env)).any (·.1) = false := by rfl) :
    EK X Y (.Call (.Name nm p) (e :: es) [] pos) ρ cs T (fun y : μ × γ × List δ => y.2.1) (fun y => (cs1 y.1).set j ⟨l, cL T0 y.2.2⟩) (fun φ => M fun y => pre (c y) (vl y) ∧ ∀ r w, post (c y) (vl y) r w → φ (y, r, w)) := fun F0 σ H ok xh φ q Q kk => by
  refine we (pe_call F hr hg hm hk hb .nil (E := E0) (passL) (pa_cons pe_w pa_w he) hdb he hpl) ?_
  refine hl F0 σ H ok.w trivial _ fun v F1 H1 g1 ev => ?_
  have m0 := ok.grow g1
  refine ha F1 σ H1 (ok.mv m0) (xh.mv m0) _ q _ fun y vs F2 H2 m2 r2 q2 => ?_
  have ok2 := (ok.mv m0).mv m2
  have hv : v = .ref l := ev
  subst hv
  refine ⟨(l, c y, vl y), F2, ?_, m2.fh, fun c0 h0 => ?_, by simp [Con.o1], q2.1, fun r w hp v F3 H3 m3 rr => ?_⟩
  · rw [List.append_nil]
    exact .cons ⟨_, rfl, rfl⟩ (hs F2 vs (vl y) r2)
  · have : c0 = ⟨l, cL T0 (c y)⟩ := by simpa [Con.o1] using h0
    subst this
    exact ok2.cell _ (List.mem_of_getElem? (hc y))
  · have m4 := mv_one (c' := ⟨l, cL T0 w⟩) (more := []) ok2 (hc y) rfl m3
    rw [List.append_nil] at m4
    exact kk (y, r, w) v F3 H3 ((m0.trans m2).trans m4) rr (q2.2 r w hp)
/-- x = f(..), a new owned list -/
theorem ek_mk1 {k : Nat} {f : Addr} {fd : FuncData} {ps : List Str} {nm : Str} {p : Pos} {es : List Expr} {T0 : Ty X.K δ} {ins : α → List (Slot X.K)} {pre : α → Prop} {post : α → List δ → Prop} {Ts : Tys X.K α} {vl : μ → α} {cs1 : μ → List (Cell X.K)} {M : (μ → Prop) → Prop}
    (F : FnOk X.prog X.w X.K X.mg X.base (L2.CX X.prog X.w) k f fd ps (Con.mk1 ins T0 pre post).sp) (hs : Sl Ts ins) (hr : Room k X.A) (hm : X.mg nm = some (.ref f)) (hk : PySem.W.keepIn X.K (.ref f) = true) (hb : Binds X.K fd ps [])
    (ha : AK X Y (e :: es) ρ cs Ts vl cs1 M) (hg : Gl X nm := by rfl) (hdb : (nm == ("__debug__" : Str)) = false := by decide) (he : starEach (e :: es) X.env = (false, eval e X.env) :: starEach es X.env := by rfl) (hpl : (backTo pos (starEach es X.env)).any (·.1) = false := by rfl) :
    EK X Y (.Call (.Name nm p) (e :: es) [] pos) ρ cs tR (fun y : μ × Addr × List δ => y.2.1) (fun y => cs1 y.1 ++ [⟨y.2.1, cL T0 y.2.2⟩]) (fun φ => M fun y => pre (vl y) ∧ ∀ l c, post (vl y) c → φ (y, l, c)) := fun F0 σ H ok xh φ q Q kk => by
  refine we (pe_call F hr hg hm hk hb .nil (E := E0) (passL) pa_w hdb he hpl) ?_
  refine ha F0 σ H ok xh _ q _ fun y vs F1 H1 m1 r1 q1 => ?_
  have ok1 := ok.mv m1
  refine ⟨vl y, F1, by rw [List.append_nil]; exact hs F1 vs (vl y) r1, m1.fh, fun c hc => absurd hc (by simp [Con.mk1]), by simp [Con.mk1], q1.1, fun l c hp v F2 H2 m rr => ?_⟩
  exact kk (y, l, c) v F2 H2 (m1.trans (mv_zero ok1 m)) rr (q1.2 l c hp)
theorem sk_setMk {i : Nat} {nm : Str} {pos' : Pos} {T0 : Ty X.K δ} {cs1 : μ → List (Cell X.K)} {M : (μ × Addr × List δ → Prop) → Prop} {φ : μ → Addr → List δ → Prop} (hN : X.N.Nodup) (he : EK X Y e ρ cs tR (fun y : μ × Addr × List δ => y.2.1) (fun y => cs1 y.1 ++ [⟨y.2.1, cL T0 y.2.2⟩]) M)
    (k : ∀ y l c, SK X B Y fl rest (ρ.set i (.val tR l)) (cs1 y ++ [⟨l, cL T0 c⟩]) D (φ y l c)) (hi : X.N[i]? = some nm := by rfl) (hx : Loc X.env.scope nm := by first | exact Or.inl rfl | exact Or.inr rfl)
    (hs : swapsWith e (some (.Name nm pos')) pos.line X.env = pure false := by rfl) (hf : X.fn nm = true ∨ X.env.scope.names.lookup nm = some .local := by first | exact .inl rfl | exact .inr rfl) :
    SK X B Y fl (.Assign [.Name nm pos'] e pos :: rest) ρ cs D (M fun y => φ y.1 y.2.1 y.2.2) := fun F σ H ok p W tk hx' => by
  refine wb (pss_cons (ps_set hN hi hx pe_w hs hf) pss_w) ?_
  refine he F σ H ok.c (xh_of ok tk hx') _ p _ fun y v F' H' m r q => ?_
  exact k y.1 y.2.1 y.2.2 F' _ H' ((ok.to m).set (T := tR) i r) q W tk hx'
/-! ### returns by shape -/
theorem sk_retO {T0 : Ty X.K δ} {ins : α → List (Slot X.K)} {T : Ty X.K γ} {pre : List δ → α → Prop} {post : List δ → α → γ → List δ → Prop} {a : Addr × List δ × α} {ψ : γ × List δ → Prop} {n b' c' : L2.St → Hp → Prop} {x : γ} {w : List δ} {P : Prop} {r : List Stmt} (he : PK X e ρ cs T x P) (hc : cs = [⟨a.1, cL T0 w⟩]) :
    SK X B Y fl (.Return (some e) pos :: r) ρ cs { retD (Con.o1 T0 ins T pre post) a B ψ with nx := n, bk := b', ct := c' } (P ∧ ψ (x, w)) := sk_ret (C := Con.o1 T0 ins T pre post) (x, w) he rfl hc.symm
theorem sk_retOE {T0 : Ty X.K δ} {ins : α → List (Slot X.K)} {T : Ty X.K γ} {pre : List δ → α → Prop} {post : List δ → α → γ → List δ → Prop} {a : Addr × List δ × α} {ψ : γ × List δ → Prop} {n b' c' : L2.St → Hp → Prop} {vl : μ → γ} {cs' : μ → List (Cell X.K)} {M : (μ → Prop) → Prop} {w : μ → List δ} {r : List Stmt} (he : EK X Y e ρ cs T vl cs' M) (hc : ∀ y, cs' y = [⟨a.1, cL T0 (w y)⟩]) :
    SK X B Y fl (.Return (some e) pos :: r) ρ cs { retD (Con.o1 T0 ins T pre post) a B ψ with nx := n, bk := b', ct := c' } (M fun y => ψ (vl y, w y)) := sk_retE (C := Con.o1 T0 ins T pre post) (fun y => (vl y, w y)) he (fun _ => rfl) fun y => (hc y).symm
/-- return [..], a new owned list -/
theorem sk_retN {ins : α → List (Slot X.K)} {T0 : Ty X.K δ} {pre : α → Prop} {post : α → List δ → Prop} {a : α} {ψ : Addr × List δ → Prop} {n b' c' : L2.St → Hp → Prop} {vl : μ → List δ} {M : (μ → Prop) → Prop} {r : List Stmt} (he : NE X Y e ρ [] T0 vl (fun _ => []) M) :
    SK X B Y fl (.Return (some e) pos :: r) ρ [] { retD (Con.mk1 ins T0 pre post) a B ψ with nx := n, bk := b', ct := c' } (M fun y => ∀ l c, c = vl y → ψ (l, c)) := sk_retE (C := Con.mk1 ins T0 pre post) (fun y : μ × Addr × List δ => (y.2.1, y.2.2)) he.own (fun _ => rfl) fun y => rfl
end
end MD
/-! MDt: enumerate(a tuple). -/
namespace MD
open PySem PySem.Spec PyProof.Rows L2
end MD
namespace MD
open PySem PySem.Spec PyProof.Rows L2
section
variable {X : Cx} {fl : Hp} {B : Hb X.K} {Y : Ec X.K} {ρ : List (Slot X.K)} {cs : List (Cell X.K)} {A R α β γ δ μ ν : Type} {pos : Pos} {rest : List Stmt} {D : Ends} {e : Expr}
theorem tk_val {vl : μ → Bool} {cs' : μ → List (Cell X.K)} {M : (μ → Prop) → Prop} (h : EK X Y e ρ cs tB vl cs' M) (he : ∀ whole, isTrue e X.env whole = (do let v ← whole; standAt e.pos; holding [v] (truthy v)) := by intro _; rfl) : TK X Y e ρ cs vl cs' M := fun F σ H ok xh φ p Q k => by
  refine wt (pt_val pe_w he) ?_
  exact h F σ H ok xh φ p _ fun y v F1 H1 m1 r1 q => ⟨vl y, r1, k y F1 H1 m1 q⟩
theorem tk_not {vl : μ → Bool} {cs' : μ → List (Cell X.K)} {M : (μ → Prop) → Prop} (h : TK X Y e ρ cs vl cs' M) : TK X Y (.UnaryOp .Not e pos) ρ cs (fun y => !vl y) cs' M := fun F σ H ok xh φ p Q k => by
  refine wt (pt_not pt_w) ?_
  exact h F σ H ok xh φ p _ fun y F1 H1 m1 q => k y F1 H1 m1 q
theorem ek_tup {es : List Expr} {x1} {Ts : Tys X.K α} {vl : μ → α} {cs' : μ → List (Cell X.K)} {M : (μ → Prop) → Prop} (h : AK X Y es ρ cs Ts vl cs' M) (hl : ∀ F vs x, Ts.rep F vs x → vs.length ≤ 1000) : EK X Y (.Tuple es x1 pos) ρ cs (tT Ts) vl cs' M := fun F σ H ok xh φ p Q k => by
  refine we (pe_tup pa_w) ?_
  refine h F σ H ok xh φ p _ fun y vs F1 H1 m r q => ⟨Nat.le_trans (hl F1 vs _ r) (by decide), fun a ha => ?_⟩
  have g2 := grow_new m.fh ha (.tup vs)
  exact k y _ _ _ (m.trans ((ok.mv m).grow g2)) ⟨a, vs, rfl, upd_same, Ts.mono g2.ff r⟩ q
theorem sk_retFE {ins : A → List (Slot X.K)} {T : Ty X.K γ} {pre : A → Prop} {f : A → γ} {a : A} {ψ : γ → Prop} {n b' c' : L2.St → Hp → Prop} {vl : μ → γ} {cs' : μ → List (Cell X.K)} {M : (μ → Prop) → Prop} {r : List Stmt} (he : EK X Y e ρ cs T vl cs' M) (hc : ∀ y, cs' y = []) :
    SK X B Y fl (.Return (some e) pos :: r) ρ cs { retD (Con.fn ins T pre f) a B ψ with nx := n, bk := b', ct := c' } (M fun y => ψ (vl y)) := sk_retE (C := Con.fn ins T pre f) vl he (fun _ => rfl) fun y => (hc y).symm
theorem sk_drop {st : List Stmt} {φ : Prop} (j : Nat) (k : SK X B Y fl st ρ (cs.eraseIdx j) D φ) : SK X B Y fl st ρ cs D φ := fun F σ H ok p W tk hx' =>
  k F σ H ⟨ok.env, ⟨ok.mv.ff, ok.mv.fh, ok.mv.fr, ok.mv.kp, fun c hc => ok.mv.cell c (List.mem_of_mem_eraseIdx hc), ok.mv.nd.sublist ((List.eraseIdx_sublist _ _).map _), fun c hc => ok.mv.nw c (List.mem_of_mem_eraseIdx hc), ok.mv.st⟩, ok.flo⟩ p W tk hx'
/-! ### what is known of a callee, of a class -/
structure Cal (P : Program) (w : World) (K : PySem.W.Frag) (mg : Str → Option Value) (base : Heap) (nm : Str) (k : Nat) (ps : List Str) (sp : Sp) (f : Addr) (fd : FuncData) : Prop where
  F : FnOk P w K mg base (L2.CX P w) k f fd ps sp
  m : mg nm = some (.ref f)
  k : PySem.W.keepIn K (.ref f) = true
  b : Binds K fd ps []
structure MkC (P : Program) (w : World) (K : PySem.W.Frag) (mg : Str → Option Value) (base : Heap) (C : Addr) (nm : Str) (k : Nat) (ps : List Str) (sp : Sp) (f : Addr) (fd : FuncData) : Prop where
  F : FnOk P w K mg base (L2.CX P w) k f fd ps sp
  m : mg nm = some (.ref C)
  mm : Mk K C f
  b : Binds K fd ps []
theorem sk_st {st : List Stmt} {φ : Prop} {ρ2 : List (Slot X.K)} {cs2 : List (Cell X.K)} (h1 : ρ = ρ2) (h2 : cs = cs2) (k : SK X B Y fl st ρ2 cs2 D φ) : SK X B Y fl st ρ cs D φ := by subst h1; subst h2; exact k
theorem ek_ixR [Inhabited α] {a b : Expr} {T : Ty X.K α} {vl : μ → List α} {cs1 : μ → List (Cell X.K)} {M : (μ → Prop) → Prop} {i : Int} {P2 : Prop} (ha : EV X Y a ρ cs (fun y => rK T (vl y)) cs1 M) (hb : ∀ y, PK X b ρ (cs1 y) tI i P2) (hs : PlainIx b := by exact fun _ _ => rfl) :
    EK X Y (.Subscript a b pos) ρ cs T (fun y => pyIx (vl y) i) cs1 (fun φ => M fun y => P2 ∧ IxOk (vl y) i ∧ φ y) := fun F σ H ok xh φ p Q k => by
  refine we (pe_ix ix_list pe_w pe_w hs) ?_
  refine ha F σ H ok xh _ p _ fun y v F1 H1 m1 ⟨q, vs, e1, hq, r, z⟩ q1 => ?_
  refine hb y F1 σ H1 (ok.mv m1).w q1.1 _ fun w F2 H2 g2 r2 => ?_
  obtain ⟨u, hu, ru⟩ := rl_atI (Rl.mono g2.ff r) q1.2.1
  exact ⟨q, vs, i, u, e1, r2, g2.hh.seq hq, hu, k y u F2 H2 (m1.trans ((ok.mv m1).grow g2)) ru q1.2.2⟩
theorem sk_midX {ρ' : β → List (Slot X.K)} {cs' : β → List (Cell X.K)} {R : β → Prop} {z : β} (hn : D.nx = Mid B fl ρ' cs' R) (h : Le ρ (ρ' z)) (hc : cs = cs' z) : SK X B Y fl [] ρ cs D (R z) := fun F σ H ok p W tk hx' => by
  subst hc
  refine wb pss_nil ?_
  show D.nx σ H
  rw [hn]
  exact ⟨z, F, ⟨h.env ok.env, ok.mv, ok.flo⟩, p⟩
theorem sk_nilX {φ : Prop} {D' : Ends} (hn : D.nx = WB X rest D') (k : SK X B Y fl rest ρ cs D' φ) : SK X B Y fl [] ρ cs D φ := fun F σ H ok p W tk hx' => by
  refine wb pss_nil ?_
  show D.nx σ H
  rw [hn]
  exact k F σ H ok p W tk hx'
/-! ### chains of tests with effects -/
def TWK (X : Cx) (Y : Ec X.K) (e : Expr) (ρ : List (Slot X.K)) (cs : List (Cell X.K)) {μ : Type} (vl : μ → Bool) (cs' : μ → List (Cell X.K)) (M : (μ → Prop) → Prop) : Prop :=
  ∀ F σ H, Okc ρ cs F σ H → Xh X Y cs F σ H → ∀ φ : μ → Prop, M φ → ∀ Q : Bool → Hp → Prop, (∀ y F' H', Mv cs F H (cs' y) F' H' → φ y → Q (vl y) H') → WW X e σ H Q
section
variable {vl : μ → Bool} {cs1 : μ → List (Cell X.K)} {M : (μ → Prop) → Prop} {vl2 : μ → ν → Bool} {cs2 : μ → ν → List (Cell X.K)} {M2 : μ → (ν → Prop) → Prop} {a b : Expr} {more : List Expr}
theorem tw_or1 (h : TK X Y a ρ cs vl cs1 M) : TWK X Y (.BoolOp .Or [a] pos) ρ cs vl cs1 M := fun F σ H ok xh φ p Q k => ww (L2.pw_or1 pt_w) (h F σ H ok xh φ p Q k)
theorem tw_or (ha : TK X Y a ρ cs vl (fun _ => cs) M) (hb : ∀ y, TWK X Y (.BoolOp .Or (b :: more) pos) ρ cs (vl2 y) (fun _ => cs) (M2 y)) :
    TWK X Y (.BoolOp .Or (a :: b :: more) pos) ρ cs (fun y : μ × Option ν => match y.2 with | none => true | some u => vl2 y.1 u) (fun _ => cs) (fun φ => M fun y => (vl y = true → φ (y, none)) ∧ (vl y = false → M2 y fun u => φ (y, some u))) := fun F σ H ok xh φ p Q k => by
  refine ww (L2.pw_or pt_w pw_w) ?_
  refine ha F σ H ok xh _ p _ fun y F1 H1 m1 q1 => ?_
  cases hv : vl y with
  | false => exact (if_neg Bool.false_ne_true).mpr (hb y F1 σ H1 (ok.mv m1) (xh.mv m1) _ (q1.2 hv) Q fun u F2 H2 m2 q2 => k (y, some u) F2 H2 (m1.trans m2) q2)
  | true => exact (if_pos rfl).mpr (k (y, none) F1 H1 m1 (q1.1 hv))
theorem TWK.tk (h : TWK X Y e ρ cs vl cs1 M) : TK X Y e ρ cs vl cs1 M := fun F σ H ok xh φ p Q k => wt pw_w.pt (h F σ H ok xh φ p Q k)
end
end
end MD
namespace MD
open PySem PySem.Spec PyProof.Rows L2
end MD
namespace MD
open PySem PySem.Spec PyProof.Rows L2
section
variable {X : Cx} {fl : Hp} {B : Hb X.K} {Y : Ec X.K} {ρ : List (Slot X.K)} {cs : List (Cell X.K)} {A R α β γ δ μ ν : Type} {pos : Pos} {rest : List Stmt} {D : Ends} {e : Expr} {es : List Expr} {t : TA}
def tUF {K : PySem.W.Frag} (T : Ty K α) : Ty K (List α) := ⟨fun F v xs => ∃ a vs o, v = .ref a ∧ F a = some (.frz o (.tup vs)) ∧ o.dict = none ∧ Rl T F vs xs ∧ vs.length ≤ sizeLine, fun e ⟨a, vs, o, h1, h2, hd, h3, h4⟩ => ⟨a, vs, o, h1, e _ _ h2, hd, h3.mono e, h4⟩⟩
theorem PK.uf {T : Ty X.K α} {xs : List α} {P : Prop} (h : PK X e ρ cs (tUF T) xs P) : PK X e ρ cs (tU T) xs P := fun F σ H ok p Q k => h F σ H ok p Q fun v F' H' g ⟨a, vs, o, h1, h2, hd, h3, h4⟩ => k v F' H' g ⟨a, vs, h1, .inr ⟨o, h2⟩, h3, h4⟩
end
end MD
namespace MD
open PySem PySem.Spec PyProof.Rows L2
section
variable {X : Cx} {fl : Hp} {B : Hb X.K} {Y : Ec X.K} {ρ : List (Slot X.K)} {cs : List (Cell X.K)} {A R α β γ δ μ ν : Type} {pos : Pos} {rest : List Stmt} {D : Ends} {e : Expr}
/-! ### chains of two comparisons -/
theorem pk_chain {op op' : CmpOp} {a b c : Expr} {r r' : R2} {T1 : Ty X.K α} {T2 : Ty X.K β} {T3 : Ty X.K γ} {C : α → β → Prop} {C' : β → γ → Prop} {f : α → β → Bool} {g : β → γ → Bool} {x : α} {y : β} {z : γ} {P1 P2 P3 : Prop} (ho : OpR X (compareOp op) r) (hr : R2K r T1 T2 tB C f) (ho' : OpR X (compareOp op') r') (hr' : R2K r' T2 T3 tB C' g)
    (ha : PK X a ρ cs T1 x P1) (hb : PK X b ρ cs T2 y P2) (hc : PK X c ρ cs T3 z P3) (hm : lastMarks [op, op'] [b, c] = false := by with_unfolding_all rfl) : PK X (.Compare a [op, op'] [b, c] pos) ρ cs tB (f x y && g y z) (P1 ∧ P2 ∧ C x y ∧ (f x y = true → P3 ∧ C' y z)) := fun F σ H ok p Q k => by
  refine we (pe_chain ho ho' pe_w pe_w pe_w hm) ?_
  refine ha F σ H ok p.1 _ fun v F1 H1 g1 r1 => ?_
  refine hb F1 σ H1 (ok.grow g1) p.2.1 _ fun w F2 H2 g2 r2 => ?_
  refine hr F2 H2 v w x y g2.fh (T1.mono g2.ff r1) r2 p.2.2.1 _ fun u F3 H3 g3 r3 => ⟨f x y, r3, ?_⟩
  have ok3 := ok.grow ((g1.trans g2).trans g3)
  cases hf : f x y with
  | false =>
    rw [hf, Bool.false_and] at k
    exact (if_neg Bool.false_ne_true).mpr (k _ F3 H3 ((g1.trans g2).trans g3) rfl)
  | true =>
    rw [hf, Bool.true_and] at k
    refine (if_pos rfl).mpr ?_
    refine hc F3 σ H3 ok3 (p.2.2.2 hf).1 _ fun w2 F4 H4 g4 r4 => ?_
    exact hr' F4 H4 w w2 y z g4.fh (T2.mono (g3.ff.trans g4.ff) r2) r4 (p.2.2.2 hf).2 Q fun q F5 H5 g5 r5 => k q F5 H5 ((((g1.trans g2).trans g3).trans g4).trans g5) r5
theorem pt_chain' {op op' : CmpOp} {a b c : Expr} {r r' : R2} {T1 : Ty X.K α} {T2 : Ty X.K β} {T3 : Ty X.K γ} {C : α → β → Prop} {C' : β → γ → Prop} {f : α → β → Bool} {g : β → γ → Bool} {x : α} {y : β} {z : γ} {P1 P2 P3 : Prop} (ho : OpR X (compareOp op) r) (hr : R2K r T1 T2 tB C f) (ho' : OpR X (compareOp op') r') (hr' : R2K r' T2 T3 tB C' g)
    (ha : PK X a ρ cs T1 x P1) (hb : PK X b ρ cs T2 y P2) (hc : PK X c ρ cs T3 z P3) (hm : lastMarks [op, op'] [b, c] = false := by with_unfolding_all rfl) : PTK X (.Compare a [op, op'] [b, c] pos) ρ cs (f x y && g y z) (P1 ∧ P2 ∧ C x y ∧ (f x y = true → P3 ∧ C' y z)) := fun F σ H ok p Q k => by
  refine wt (L2.pt_chain ho ho' pe_w pe_w pe_w hm) ?_
  refine ha F σ H ok p.1 _ fun v F1 H1 g1 r1 => ?_
  refine hb F1 σ H1 (ok.grow g1) p.2.1 _ fun w F2 H2 g2 r2 => ?_
  refine hr F2 H2 v w x y g2.fh (T1.mono g2.ff r1) r2 p.2.2.1 _ fun u F3 H3 g3 r3 => ⟨f x y, r3, ?_⟩
  have ok3 := ok.grow ((g1.trans g2).trans g3)
  cases hf : f x y with
  | false =>
    rw [hf, Bool.false_and] at k
    exact (if_neg Bool.false_ne_true).mpr ⟨false, rfl, k F3 H3 ((g1.trans g2).trans g3)⟩
  | true =>
    rw [hf, Bool.true_and] at k
    refine (if_pos rfl).mpr ?_
    refine hc F3 σ H3 ok3 (p.2.2.2 hf).1 _ fun w2 F4 H4 g4 r4 => ?_
    refine hr' F4 H4 w w2 y z g4.fh (T2.mono (g3.ff.trans g4.ff) r2) r4 (p.2.2.2 hf).2 _ fun q F5 H5 g5 r5 => ⟨g y z, r5, ?_⟩
    exact k F5 H5 ((((g1.trans g2).trans g3).trans g4).trans g5)
/-! ### a sign in a text -/
theorem signs_in {x z : Str} {c : Nat} (h : x = ⟨#[c]⟩) : decide (c ∈ z.cps.toList) = decide (x ∈ signs z) := by
  subst h
  refine decide_eq_decide.mpr ⟨fun h => List.mem_map.mpr ⟨c, h, rfl⟩, fun h => ?_⟩
  obtain ⟨d, hd, e⟩ := List.mem_map.mp h
  have e2 := congrArg (fun s : Str => s.cps.toList) e
  have : d = c := by simpa using e2
  exact this ▸ hd
theorem pk_inSign {a b : Expr} {x z : Str} {P1 P2 : Prop} (ha : PK X a ρ cs tS x P1) (hb : PK X b ρ cs tS z P2) (hm : behindInMarks .In b = false := by first | exact nomark _ | rfl) : PK X (.Compare a [.In] [b] pos) ρ cs tB (decide (x ∈ signs z)) (P1 ∧ P2 ∧ ∃ c, x = ⟨#[c]⟩) := fun F σ H ok p Q k => by
  refine we (pe_cmpR op_in_sign pe_w pe_w hm) ?_
  refine ha F σ H ok p.1 _ fun v F1 H1 g1 r1 => ?_
  refine hb F1 σ H1 (ok.grow g1) p.2.1 _ fun w F2 H2 g2 r2 => ?_
  obtain ⟨c, hc⟩ := p.2.2
  refine ⟨c, z, by rw [r1.1, hc], r2.1, ?_⟩
  rw [signs_in hc]
  exact k _ F2 H2 (g1.trans g2) rfl
/-! ### texts of a module -/
theorem pk_globS {nm z : Str} (h : ∃ t, X.mg nm = some (.str z t)) (hz : PySem.PyData.strOk z = true := by decide +kernel) (hg : Gl X nm := by rfl) (hd : (nm == ("__debug__" : Str)) = false := by decide) : PK X (.Name nm pos) ρ cs tS z True := by
  obtain ⟨t, h⟩ := h
  exact pk_glob (v := .str z) h ⟨t, rfl⟩ (fun _ => ⟨rfl, hz⟩) hg hd
theorem pk_globI {nm : Str} {z : Int} (h : ∃ t, X.mg nm = some (.int z t)) (hg : Gl X nm := by rfl) (hd : (nm == ("__debug__" : Str)) = false := by decide) : PK X (.Name nm pos) ρ cs tI z True := by
  obtain ⟨t, h⟩ := h
  exact pk_glob (v := .int z) h ⟨t, rfl⟩ (fun _ => rfl) hg hd
/-! ### split -/
theorem mem_join {sep : Str} : ∀ {ps : List Str} {p : Str} {c : Nat}, p ∈ ps → c ∈ p.cps.toList → c ∈ (Str.join sep ps).cps.toList
  | [], _, _, h, _ => by cases h
  | [x], p, c, h, hc => by
    have : p = x := by simpa using h
    subst this
    exact hc
  | x :: y :: r, p, c, h, hc => by
    have e : Str.join sep (x :: y :: r) = x ++ sep ++ Str.join sep (y :: r) := rfl
    have e2 : (x ++ sep ++ Str.join sep (y :: r)).cps.toList = x.cps.toList ++ sep.cps.toList ++ (Str.join sep (y :: r)).cps.toList := by
      show ((x.cps ++ sep.cps) ++ (Str.join sep (y :: r)).cps).toList = _
      rw [Array.toList_append, Array.toList_append]
    rw [e, e2]
    rcases List.mem_cons.mp h with h | h
    · subst h
      exact List.mem_append.mpr (.inl (List.mem_append.mpr (.inl hc)))
    · exact List.mem_append.mpr (.inr (mem_join h hc))
theorem strOk_split {a b : Str} (h : PySem.PyData.strOk a = true) : ∀ p ∈ Txt.split a b, PySem.PyData.strOk p = true := fun p hp => by
  have e := PySem.StrLaws.join_split a b
  rw [← e, strOk_iff] at h
  exact strOk_iff.mpr fun c hc => h c (mem_join hp hc)
theorem nk_split {o a : Expr} {x y : Str} {P1 P2 : Prop} {apos : Pos} (ho : PK X o ρ cs tS x P1) (ha : PK X a ρ cs tS y P2) (hs : starEach [a] X.env = [(false, eval a X.env)] := by rfl) (hbase : attributeBase o "split" X.env (eval o X.env) = eval o X.env := by rfl) (hline : (apos.endLine == pos.line) = true := by rfl) :
    NK X (.Call (.Attribute o "split" apos) [a] [] pos) ρ cs tS (Txt.split x y) (P1 ∧ P2 ∧ (y.length == 0) = false ∧ x.length + 2 ≤ sizeLine) := fun F σ H ok p Q k => by
  refine we (pe_split pe_w pe_w hs hbase hline) ?_
  refine ho F σ H ok p.1 _ fun v F1 H1 g1 r1 => ⟨⟨x, r1.1⟩, ?_⟩
  refine ha F1 σ H1 (ok.grow g1) p.2.1 _ fun w F2 H2 g2 r2 => ?_
  refine ⟨x, y, r1.1, by rw [r2.1], p.2.2.1, p.2.2.2, fun q hq => ?_⟩
  have g := g1.trans g2
  obtain ⟨g3, hF⟩ := grow_upd (o := .lst ((Txt.split x y).map V.str)) g hq
  exact k q _ F2 _ g3 (g.hh.free hq) hF upd_same (rl_of_strs (strOk_split r1.2)) (by rw [List.length_map]; exact Nat.le_trans (PyProof.Rows.split_le x y) p.2.2.2)
/-! ### for over what is made with effects -/
/-! ### equality behind effects -/
section
variable [DecidableEq α] {T : Ty X.K α} {vl : μ → α} {cs1 : μ → List (Cell X.K)} {M : (μ → Prop) → Prop} {vl2 : μ → ν → α} {cs2 : μ → ν → List (Cell X.K)} {M2 : μ → (ν → Prop) → Prop} {a b : Expr}
theorem ek_eqE (hu : X.A.units + 64 < cLine) (dd : DT T) (ha : EK X Y a ρ cs T vl cs1 M) (hb : ∀ y, EK X Y b ρ (cs1 y) T (vl2 y) (cs2 y) (M2 y)) (hm : behindInMarks .Eq b = false := by first | exact nomark _ | rfl) (hn : dd.n ≤ 64 := by exact Nat.le_of_ble_eq_true rfl) :
    EK X Y (.Compare a [.Eq] [b] pos) ρ cs tB (fun y : μ × ν => decide (vl y.1 = vl2 y.1 y.2)) (fun y => cs2 y.1 y.2) (fun φ => M fun y => M2 y fun u => φ (y, u)) := fun F σ H ok xh φ p Q k => by
  refine we (pe_cmpR (op_eqD hu) pe_w pe_w hm) ?_
  refine ha F σ H ok xh _ p _ fun y v F1 H1 m1 r1 q1 => ?_
  refine hb y F1 σ H1 (ok.mv m1) (xh.mv m1) _ q1 _ fun u w F2 H2 m2 r2 q2 => ?_
  have d1 := dv_sv dd hn F2 H2 v m2.fh (T.mono m2.ff r1)
  have d2 := dv_sv dd hn F2 H2 w m2.fh r2
  refine ⟨_, _, d1.1, d2.1, d1.2, d2.2, k (y, u) _ F2 H2 (m1.trans m2) ?_ q2⟩
  rw [eqv_dec dd]
  rfl
end
end
end MD
namespace MD
open PySem PySem.Spec PyProof.Rows L2
/-! ### refusals -/
inductive Rf where
  | noText (n : Int) | twice (s : Str) | badStep (i : Int) (s : Str) | badGood (i : Int) | noLetter (s : Str) | noDesk (s : Str)
  | otherLetters | notices (a b : List Str) | tooMany (n : Int) | noName (s : Str) | noKind | noRow
/-- where the classes stand -/
structure XA where
  NoText : Addr := 0
  Twice : Addr := 0
  BadStep : Addr := 0
  BadGood : Addr := 0
  NoLetter : Addr := 0
  NoDesk : Addr := 0
  OtherLetters : Addr := 0
  Notices : Addr := 0
  TooMany : Addr := 0
  NoName : Addr := 0
  NoKind : Addr := 0
  NoRow : Addr := 0
def exn {K : PySem.W.Frag} (xa : XA) : Rf → Exn K
  | .noText n => ⟨xa.NoText, [("line", .val tI n)]⟩
  | .twice s => ⟨xa.Twice, [("name", .val tS s)]⟩
  | .badStep i s => ⟨xa.BadStep, [("letter", .val tS s), ("state", .val tI i)]⟩
  | .badGood i => ⟨xa.BadGood, [("state", .val tI i)]⟩
  | .noLetter s => ⟨xa.NoLetter, [("letter", .val tS s)]⟩
  | .noDesk s => ⟨xa.NoDesk, [("desk", .val tS s)]⟩
  | .otherLetters => ⟨xa.OtherLetters, []⟩
  | .notices a b => ⟨xa.Notices, [("other", .val (tL tS) b), ("one", .val (tL tS) a)]⟩
  | .tooMany n => ⟨xa.TooMany, [("most", .val tI n)]⟩
  | .noName s => ⟨xa.NoName, [("name", .val tS s)]⟩
  | .noKind => ⟨xa.NoKind, []⟩
  | .noRow => ⟨xa.NoRow, []⟩
/-- what of the text an exception's class must have -/
structure XcT (K : PySem.W.Frag) (mg : Str → Option Value) (nm : Str) (C : Addr) : Prop where
  gC : mg nm = some (.ref C)
  ox : OexC K C
  is : ExcC K C
/-- .. its base, whose __init__ is ValueError's -/
structure MoT (K : PySem.W.Frag) (mg : Str → Option Value) (nm : Str) (B : Addr) : Prop where
  gB : mg nm = some (.ref B)
  sp : PySem.W.specialIn K (.ref B) "__getattribute__" = some (some (.builtin "type.__getattribute__"))
  rd : PySem.W.readsIn K B (.type "type") = true
  fi : PySem.W.findCls K (.ref B) (.type "type") "__init__" = some (.val (.builtin "ValueError.__init__"))
section
variable {X : Cx} {o e : Expr} {es : List Expr} {ta : TA} {p1 p2 pos : Pos}
/-- Base.__init__(self, ..) -/
theorem pe_moinit {nm : Str} {Ba : Addr} {pl : Sem Bool} (T : MoT X.K X.mg nm Ba) (ha : PA X (e :: es) ta) (hg : Gl X nm := by rfl) (hdb : (nm == ("__debug__" : Str)) = false := by decide)
    (hc : eval (.Call (.Attribute (.Name nm p1) "__init__" p2) (e :: es) [] pos) X.env = (do
      let ov ← eval (.Name nm p1) X.env
      standAt p2.atName
      let (f, first) ← holding [ov] (getMethod ov "__init__" pl)
      callWith pos f first (backTo pos (starEach (e :: es) X.env)) (backToKw pos (keywordEach [] X.env))) := by rfl)
    (he : starEach (e :: es) X.env = (false, eval e X.env) :: starEach es X.env := by rfl) (hpl : (backTo pos (starEach es X.env)).any (·.1) = false := by rfl) :
    PE X (.Call (.Attribute (.Name nm p1) "__init__" p2) (e :: es) [] pos) (tVeI X.K ta) := by
  refine ⟨fun pins s σ H Q inv0 hq0 => ?_⟩
  refine PySem.W.methodCall_KW (ld_glob inv0 hg T.gB ?_ hdb) hc
  refine PySem.W.method_cls inv0.kIn T.sp (PySem.W.cls_value inv0.kIn T.rd T.fi (by decide +kernel) ?_)
  show wpAny _ _ (callWith pos (Value.builtin "ValueError.__init__") [] _ []) _ _ _
  refine PyProof.Rows.callWith_method1 (thn (ha.run pos pins _ σ H _ (inv0.tok _) hq0) fun us s1 hh => ?_) he hpl
  obtain ⟨vs, H1, inv1, r1, a, C, ws, ev, hl, tt, ea, q⟩ := hh
  subst ev
  cases r1 with
  | @cons _ u0 _ ur ra rw' =>
    have eu : u0 = Value.ref a := ra
    subst eu
    have hlen : ur.length ≤ sizeLine := by
      have := Paired.length rw'
      rw [sizeLine_eq]
      omega
    exact oinit_ok tt inv1 ea hlen fun s' j => ⟨.non, H1, j, rfl, q⟩
end
/-! ### the promises of __init__ -/
/-- one field -/
def spX1 (C : Addr) (f : Str) : Sp := fun vs H Q _ => ∃ (a : Addr) (v : V), vs = [.ref a, v] ∧ H a = some (exo a C none) ∧ ∀ d, H d = none → d ≠ a → Q .non (upd (upd H d (exd d [(f, v)])) a (exo a C (some d)))
/-- two fields -/
def spX2 (C : Addr) (f g : Str) : Sp := fun vs H Q _ => ∃ (a : Addr) (v w : V), vs = [.ref a, v, w] ∧ H a = some (exo a C none) ∧ ∀ d, H d = none → d ≠ a → Q .non (upd (upd (upd H d (exd d [(f, v)])) a (exo a C (some d))) d (exd d [(g, w), (f, v)]))
/-- the heap behind the making -/
theorem made_heap {H : Hp} {a d : Addr} {fs : List (Str × V)} {H2 : Hp} (ha : H a = none) (hd : d ≠ a) (h2 : ∀ b, b ≠ a → b ≠ d → H2 b = H b) : upd (del H2 a) d (.xd fs) = upd H d (.xd fs) := by
  funext b
  by_cases h : b = d
  · subst h; rw [upd_same, upd_same]
  · rw [upd_ne h, upd_ne h]
    by_cases h' : b = a
    · subst h'; rw [del_same, ha]
    · rw [del_ne h', h2 b h' h]
section
variable {X : Cx} {fl : Hp} {B : Hb X.K} {Y : Ec X.K} {ρ : List (Slot X.K)} {cs : List (Cell X.K)} {A R α β γ δ μ ν : Type} {pos : Pos} {rest : List Stmt} {D : Ends} {e : Expr}
/-- what an exception with these fields leaves, frozen -/
theorem exn_made {F H : Hp} {d : Addr} {fs : List (Str × Slot X.K)} {vs : List (Str × V)} (s : Same F H) (hd : H d = none) (h : FldOk F fs vs) (C : Addr) :
    Grow F H (upd F d (.xd vs)) (upd H d (.xd vs)) ∧ ExnRep (upd F d (.xd vs)) ⟨C, fs⟩ (.ref C) (some d) := by
  have g := grow_new s hd (.xd vs)
  exact ⟨g, rfl, .inr ⟨d, vs, rfl, upd_same, h.mono g.ff⟩⟩
theorem sk_raise1 {nm f1 : Str} {C fI : Addr} {fd : FuncData} {ps : List Str} {k : Nat} {T1 : Ty X.K α} {x : α} {P : Prop} {p pos2 : Pos} (hc : X.calm = true) (T : XcT X.K X.mg nm C) (iC : PySem.W.findIn X.K (.ref C) "__init__" = some (some (.ref fI))) (tI : PySem.W.typeIn X.K (.ref fI) = some (.type "function"))
    (F1 : FnOk X.prog X.w X.K X.mg X.base (L2.CX X.prog X.w) k fI fd ps (spX1 C f1)) (hb : Binds X.K fd ps []) (hr : Room (k + 1) X.A) (ha : PK X e ρ cs T1 x P) (hk : ∀ c ∈ Y.kp, c ∈ cs) (hg : Gl X nm := by rfl)
    (hdb : (nm == ("__debug__" : Str)) = false := by decide) (he : starEach (e :: []) X.env = (false, eval e X.env) :: starEach [] X.env := by rfl) (hpl : (backTo pos (starEach [] X.env)).any (·.1) = false := by rfl) :
    SK X B Y fl (.Raise (some (.Call (.Name nm p) [e] [] pos)) none pos2 :: rest) ρ cs D (P ∧ Y.ε ⟨C, [(f1, .val T1 x)]⟩) := fun F σ H ok q W tk hx' => by
  refine wb (pss_cons (ps_raise hc tk (pmk_oex T.ox iC tI F1 hr hb .nil (passL) hg T.gC (pa_cons pe_w pa_nil he) hdb he hpl)) pss_w) ?_
  refine ha F σ H ok.c.w q.1 _ fun v F1 H1 g1 r => ?_
  have ok1 := ok.to (ok.c.grow g1)
  refine ⟨by show 1 ≤ 1000; decide, fun a hna => ⟨a, v, rfl, upd_same, fun d hd hda => ⟨rfl, d, [(f1, v)], upd_same, by rw [upd_ne hda, upd_same], ?_, ?_⟩⟩⟩
  · rw [upd_ne hda] at hd; exact hd
  · rw [upd_ne hda] at hd
    rw [made_heap (H := H1) hna hda fun b h1 h2 => by rw [upd_ne h1, upd_ne h2, upd_ne h1]]
    obtain ⟨g2, rep⟩ := exn_made (X := X) (fs := [(f1, .val T1 x)]) (vs := [(f1, v)]) g1.fh hd (.cons ⟨v, rfl, r⟩ .nil) C
    exact hx' _ _ _ cs _ _ σ (ok1.to (ok1.c.grow g2)).mv hk rep q.2
theorem sk_raise2 {nm f1 f2 : Str} {C fI : Addr} {fd : FuncData} {ps : List Str} {k : Nat} {T1 : Ty X.K α} {T2 : Ty X.K β} {e2 : Expr} {x : α} {y : β} {P P2 : Prop} {p pos2 : Pos} (hc : X.calm = true) (T : XcT X.K X.mg nm C) (iC : PySem.W.findIn X.K (.ref C) "__init__" = some (some (.ref fI))) (tI : PySem.W.typeIn X.K (.ref fI) = some (.type "function"))
    (F1 : FnOk X.prog X.w X.K X.mg X.base (L2.CX X.prog X.w) k fI fd ps (spX2 C f1 f2)) (hb : Binds X.K fd ps []) (hr : Room (k + 1) X.A) (ha : PK X e ρ cs T1 x P) (ha2 : PK X e2 ρ cs T2 y P2) (hk : ∀ c ∈ Y.kp, c ∈ cs) (hg : Gl X nm := by rfl)
    (hdb : (nm == ("__debug__" : Str)) = false := by decide) (he : starEach (e :: [e2]) X.env = (false, eval e X.env) :: starEach [e2] X.env := by rfl) (he2 : starEach (e2 :: []) X.env = (false, eval e2 X.env) :: starEach [] X.env := by rfl) (hpl : (backTo pos (starEach [e2] X.env)).any (·.1) = false := by rfl) :
    SK X B Y fl (.Raise (some (.Call (.Name nm p) [e, e2] [] pos)) none pos2 :: rest) ρ cs D (P ∧ P2 ∧ Y.ε ⟨C, [(f2, .val T2 y), (f1, .val T1 x)]⟩) := fun F σ H ok q W tk hx' => by
  refine wb (pss_cons (ps_raise hc tk (pmk_oex T.ox iC tI F1 hr hb .nil (passL) hg T.gC (pa_cons pe_w (pa_cons pe_w pa_nil he2) he) hdb he hpl)) pss_w) ?_
  refine ha F σ H ok.c.w q.1 _ fun v F1 H1 g1 r => ?_
  have ok1 := ok.to (ok.c.grow g1)
  refine ha2 F1 σ H1 ok1.c.w q.2.1 _ fun w F2 H2 g2 r2 => ?_
  have ok2 := ok1.to (ok1.c.grow g2)
  refine ⟨by show 2 ≤ 1000; decide, fun a hna => ⟨a, v, w, rfl, upd_same, fun d hd hda => ⟨rfl, d, [(f2, w), (f1, v)], by rw [upd_ne (Ne.symm hda), upd_same], upd_same, ?_, ?_⟩⟩⟩
  · rw [upd_ne hda] at hd; exact hd
  · rw [upd_ne hda] at hd
    rw [made_heap (H := H2) hna hda fun b h1 h2 => by rw [upd_ne h2, upd_ne h1, upd_ne h2, upd_ne h1]]
    obtain ⟨g3, rep⟩ := exn_made (X := X) (fs := [(f2, .val T2 y), (f1, .val T1 x)]) (vs := [(f2, w), (f1, v)]) g2.fh hd (.cons ⟨w, rfl, r2⟩ (.cons ⟨v, rfl, T1.mono g2.ff r⟩ .nil)) C
    exact hx' _ _ _ cs _ _ σ (ok2.to (ok2.c.grow g3)).mv hk rep q.2.2
end
end MD
namespace MD
open PySem PySem.Spec PyProof.Rows L2
/-! ### making and methods that may raise, at the slots as they are -/
section
variable {X : Cx} {CXx : CXT} {C f : Addr} {fd : FuncData} {k : Nat} {ps : List Str} {sp : Sp} {ds : List Value} {dvs : List V} {Ex : L2.St → XK}
theorem run_makeE {pn : List (Addr × Obj)} {τ : L2.St} {H : Hp} {s : Shared} {Q : VK} {us : List Value} {vs : List V} (mk : Mk X.K C f) (F : FnOk X.prog X.w X.K X.mg X.base CXx k f fd ps sp) (hr : Room (k + 1) X.A) (hb : Binds X.K fd ps ds) (hd : Vals dvs ds)
    (hx : PassesAt CXx X τ (Ex τ)) (inv : Inv X pn τ H s) (rel : Vals vs us)
    (ask : ∀ x dx, H x = none → H dx = none → dx ≠ x → sp (.ref x :: (vs ++ dvs)) (upd (upd H dx (.own x)) x (.ins C dx [])) (fun v H2 => v = .non ∧ Q (.ref x) H2) (Ex τ)) :
    wpAny (model X.prog X.w) X.A (call (.ref C) us) (EP X pn τ Q) X.xe s := by
  have want := ask (s.heap.objs.size + 1) s.heap.objs.size (inv.hok.fresh (Nat.le_succ _)) (inv.hok.fresh (Nat.le_refl _)) (Nat.ne_of_lt (Nat.lt_succ_self _))
  have inv2 := Inv.made (C := C) inv
  have rel2 : Vals (V.ref (s.heap.objs.size + 1) :: (vs ++ dvs)) (Value.ref (s.heap.objs.size + 1) :: (us ++ ds)) := .cons rfl (rel.append hd)
  have len2 : (Value.ref (s.heap.objs.size + 1) :: us ++ ds).length = ps.length := by
    have q := rel2.length
    rw [F.len _ _ _ _ want] at q
    exact q.symm
  refine wpAny_call (make_map (f := f) inv.kIn mk.makes mk.init (beq_iff_eq.mp mk.fn) (codeAny_mono (F.run _ X.stack _ _ ⟨Value.ref (s.heap.objs.size + 1) :: us, []⟩ (Value.ref (s.heap.objs.size + 1) :: (us ++ ds)) _ _ (Ex τ) (hr.make C us [])
    (inv2.env0.make C us []) (hb _ (Value.ref (s.heap.objs.size + 1) :: us) inv2.kIn len2) rel2 want) fun out s2 got => ?_))
  match out, got with
  | .error e, got => exact hx pn _ _ e s2 inv2 got
  | .ok (.ret u), got =>
    obtain ⟨v, H3, inv3, rv, ev, q3⟩ := inv2.after got
    subst ev
    exact ⟨rv, ⟨V.ref (s.heap.objs.size + 1), H3, inv3, rfl, q3⟩⟩
  | .ok .next, got => exact False.elim got
  | .ok .brk, got => exact False.elim got
  | .ok .cont, got => exact False.elim got
variable {x m : Str} {o e : Expr} {es : List Expr} {t : TA} {to : TE} {p pos apos : Pos}
def tMakeE (C : Addr) (sp : Sp) (Ex : L2.St → XK) (t : TA) : TE := fun τ H Q => t τ H fun vs H1 => ∀ x dx, H1 x = none → H1 dx = none → dx ≠ x → sp (.ref x :: (vs ++ [])) (upd (upd H1 dx (.own x)) x (.ins C dx [])) (fun v H2 => v = .non ∧ Q (.ref x) H2) (Ex τ)
theorem pe_makeE (mk : Mk X.K C f) (F : FnOk X.prog X.w X.K X.mg X.base CXx k f fd ps sp) (hr : Room (k + 1) X.A) (hg : Gl X x) (hm : X.mg x = some (.ref C)) (hb : Binds X.K fd ps []) (hx : ∀ τ, PassesAt CXx X τ (Ex τ))
    (ha : PA X (e :: es) t) (hdb : (x == ("__debug__" : Str)) = false := by decide) (he : starEach (e :: es) X.env = (false, eval e X.env) :: starEach es X.env := by rfl) (hpl : (backTo pos (starEach es X.env)).any (·.1) = false := by rfl) :
    PE X (.Call (.Name x p) (e :: es) [] pos) (tMakeE C sp Ex t) := by
  refine ⟨fun pn s τ H Q inv ask => ?_⟩
  refine wpAny_Call_Name_kw (ld_glob inv hg hm ?_ hdb)
  refine PySem.W.callWith_K (h₀ := X.base) inv.ok.mod.kin mk.kp (thn (ha.run pos pn s τ H _ inv ask) fun us s1 hh => ?_) he hpl
  obtain ⟨vs, H1, inv1, rel, q⟩ := hh
  exact ⟨inv1.kIn, run_makeE mk F hr hb .nil (hx τ) inv1 rel q⟩
end
/-! ### contracts of what may raise -/
/-- where pre holds: a value, or a refusal -/
def Con.fx {K : PySem.W.Frag} {A γ : Type} (xa : XA) (ins : A → List (Slot K)) (T : Ty K γ) (pre : A → Prop) (g : A → γ ⊕ Rf) : Con K A γ γ where
  ins := ins
  cin := fun _ => []
  wp := fun a φ ε => pre a ∧ (∀ r, g a = .inl r → φ r) ∧ ∀ e, g a = .inr e → ε (exn xa e)
  T := T
  rv := fun r => r
  cout := fun _ _ => []
  mono := fun _ _ _ _ _ h h' w => ⟨w.1, fun r e => h r (w.2.1 r e), fun e q => h' _ (w.2.2 e q)⟩
/-- an __init__ -/
def Con.inx {K : PySem.W.Frag} {A γ : Type} (xa : XA) (Cl : Addr) (fd : γ → List (Str × Slot K)) (ins : A → List (Slot K)) (pre : A → Prop) (g : A → γ ⊕ Rf) : Con K (Addr × A) γ Unit where
  ins := fun a => .val tR a.1 :: ins a.2
  cin := fun a => [⟨a.1, cI Cl []⟩]
  wp := fun a φ ε => pre a.2 ∧ (∀ r, g a.2 = .inl r → φ r) ∧ ∀ e, g a.2 = .inr e → ε (exn xa e)
  T := tN
  rv := fun _ => ()
  cout := fun a r => [⟨a.1, cI Cl (fd r)⟩]
  mono := fun _ _ _ _ _ h h' w => ⟨w.1, fun r e => h r (w.2.1 r e), fun e q => h' _ (w.2.2 e q)⟩
/-- the promise where a raising leaves no cell -/
def Con.spk {K : PySem.W.Frag} {A R γ : Type} (C : Con K A R γ) : Sp := fun vs H Q E => ∃ (a : A) (F : Hp), Prd (fun s v => Slot.ok F s (some v)) (C.ins a) vs ∧ Same F H ∧
  (∀ c ∈ C.cin a, F c.a = none ∧ ∃ o, H c.a = some o ∧ c.ck.rep F o) ∧ ((C.cin a).map Cell.a).Nodup ∧
  C.wp a (fun r => ∀ v F' H', Mv (C.cin a) F H (C.cout a r) F' H' → C.T.rep F' v (C.rv r) → Q v H') (fun ex => ∀ cls d F' H', Mv (C.cin a) F H [] F' H' → ExnRep F' ex cls d → E cls d H')
theorem Mv.none {K : PySem.W.Frag} {cs cs1 : List (Cell K)} {F H F' H' : Hp} (m : Mv cs F H cs1 F' H') : Mv cs F H [] F' H' :=
  ⟨m.ff, m.fh, m.fr, m.kp, fun c h => (nomatch h), List.nodup_nil, fun c h => (nomatch h), m.st⟩
section
variable {P : Program} {w : World} {K : PySem.W.Frag} {mg : Str → Option Value} {base : Heap} {A R γ : Type}
theorem fn_conk {x qual : Str} {st : Stmt} {f : Addr} {fd : FuncData} {N ps : List Str} {k : Nat} (C : Con K A R γ) (F : Fun K x qual st f fd) (S : FnScope N ps (defScope st)) (hl : ∀ a, (C.ins a).length = ps.length)
    (body : ∀ (cdv : Value) (Ar : Around) (outer : List Env) (s : Shared) (H : Hp) (E : XK) (F0 : Hp) (a : A) (φ : R → Prop) (ε : Exn K → Prop), Room k (Ar.deeper (envOfC qual (defScope st) s.heap.objs.size f cdv)) →
      PassesOwn (model P w) (Ar.deeper (envOfC qual (defScope st) s.heap.objs.size f cdv)) (envOfC qual (defScope st) s.heap.objs.size f cdv) (cxOf (L2.CX P w) P w K mg base N qual (defScope st) f cdv Ar outer s H E).xe →
      SK (cxOf (L2.CX P w) P w K mg base N qual (defScope st) f cdv Ar outer s H E) ⟨F0, H, C.cin a⟩ ⟨[], ε⟩ F0 (defBody st) (C.ins a ++ List.replicate (N.length - ps.length) .un) (C.cin a) (retD C a ⟨F0, H, C.cin a⟩ φ) (C.wp a φ ε)) :
    FnOk P w K mg base (L2.CX P w) (k + 1) f fd ps C.spk := by
  refine F.okX S (fun vs H Q E hh => ?_) (fun cdv Ar outer s H vs Q E hr hh => ?_)
  · obtain ⟨a, F, h, _⟩ := hh
    rw [← h.length]; exact hl a
  obtain ⟨a, F0, hv, hs, hc, hn, hw⟩ := hh
  refine ⟨_, pss_w, ?_⟩
  have e : vs.length = ps.length := by rw [← hv.length]; exact hl a
  have Bo : Mv (C.cin a) F0 H (C.cin a) F0 H := ⟨Same.refl _, hs, fun b h1 h2 => absurd h1 h2, fun b o e _ => e, hc, hn, fun c hc => .inl ⟨c, hc, rfl⟩, fun c hcm z => by
    obtain ⟨_, o, e, _⟩ := hc c hcm
    rw [e] at z; cases z⟩
  have hb := body cdv Ar outer s H E F0 a _ _ hr (passes_of rfl) F0 (L2.start N vs) H ⟨by
    unfold L2.start
    rw [e]
    exact hv.start, Bo, Same.refl _⟩ hw (fun cls d _ H => E cls d H) (takes_of rfl rfl rfl rfl) (fun ex cls d cs2 F' H' σ' mv _ r ep => ep cls d F' H' mv.none r)
  refine PSs.ends ?_ ?_ ?_ ?_ hb
  · intro _ H' ⟨r, F', m, t, q⟩
    exact q .non F' H' m t
  · intro v H' ⟨r, F', m, t, q⟩
    exact q v F' H' m t
  · exact fun _ _ z => z
  · exact fun _ _ z => z
end
/-! ### calls of what may raise -/
section
variable {X : Cx} {fl : Hp} {B : Hb X.K} {Y : Ec X.K} {ρ : List (Slot X.K)} {cs : List (Cell X.K)} {A R α β γ δ μ ν : Type} {pos : Pos} {rest : List Stmt} {D : Ends} {e : Expr}
theorem ek_makeX {xa : XA} {k : Nat} {Cl f : Addr} {fd : FuncData} {ps : List Str} {nm : Str} {p : Pos} {es : List Expr} {fdd : γ → List (Str × Slot X.K)} {ins : α → List (Slot X.K)} {pre : α → Prop} {g : α → γ ⊕ Rf} {Ts : Tys X.K α} {vl : μ → α} {cs1 : μ → List (Cell X.K)} {M : (μ → Prop) → Prop}
    (c : MkC X.prog X.w X.K X.mg X.base Cl nm k ps (Con.inx xa Cl fdd ins pre g).spk f fd) (hr : Room (k + 1) X.A) (hs : Sl Ts ins)
    (ha : AK X Y (e :: es) ρ cs Ts vl cs1 M) (hy : ∀ y, ∀ c ∈ Y.kp, c ∈ cs1 y) (hg : Gl X nm := by rfl)
    (hdb : (nm == ("__debug__" : Str)) = false := by decide) (he : starEach (e :: es) X.env = (false, eval e X.env) :: starEach es X.env := by rfl) (hpl : (backTo pos (starEach es X.env)).any (·.1) = false := by rfl) :
    EK X Y (.Call (.Name nm p) (e :: es) [] pos) ρ cs (tIn Cl fdd) (fun y : μ × γ => y.2) (fun y => cs1 y.1) (fun φ => M fun y => pre (vl y) ∧ (∀ r, g (vl y) = .inl r → φ (y, r)) ∧ ∀ r, g (vl y) = .inr r → Y.ε (exn xa r)) := fun F0 σ H ok xh φ q Q kk => by
  obtain ⟨W, tk, hW⟩ := id xh
  refine we (pe_makeE c.mm c.F hr hg c.m c.b (Ex := L2.WE W) (fun σ => passAt tk σ) pa_w hdb he hpl) ?_
  refine ha F0 σ H ok xh _ q _ fun y vs F1 H1 m1 r1 q1 => fun x dx hx hdx ne => ?_
  have ok1 := ok.mv m1
  have hFx : F1 x = none := by
    cases e : F1 x with
    | none => rfl
    | some u => rw [m1.fh _ _ e] at hx; cases hx
  have hFd : F1 dx = none := by
    cases e : F1 dx with
    | none => rfl
    | some u => rw [m1.fh _ _ e] at hdx; cases hdx
  have hS : Same F1 (upd (upd H1 dx (.own x)) x (.ins Cl dx [])) := fun b u e => by
    rw [upd_ne (fun z => by rw [z, hFx] at e; cases e), upd_ne (fun z => by rw [z, hFd] at e; cases e)]
    exact m1.fh _ _ e
  have keep : ∀ {cs3 : List (Cell X.K)} {F2 H2 : Hp}, Mv [⟨x, cI Cl []⟩] F1 (upd (upd H1 dx (.own x)) x (.ins Cl dx [])) cs3 F2 H2 → ∀ b u, H1 b = some u → H2 b = some u := fun m2 b u e => by
    have n1 : b ≠ x := fun z => by rw [z, hx] at e; cases e
    have n2 : b ≠ dx := fun z => by rw [z, hdx] at e; cases e
    refine m2.kp b u (by rw [upd_ne n1, upd_ne n2]; exact e) fun c hc => ?_
    have : c = ⟨x, cI Cl []⟩ := by simpa using hc
    subst this
    exact fun z => n1 z.symm
  have fresh : ∀ {cs3 : List (Cell X.K)} {F2 H2 : Hp}, Mv [⟨x, cI Cl []⟩] F1 (upd (upd H1 dx (.own x)) x (.ins Cl dx [])) cs3 F2 H2 → ∀ b, F1 b = none → F2 b ≠ none → H1 b = none := fun m2 b h1 h2 => by
    by_cases hb : b = x
    · rw [hb]; exact hx
    · have := m2.fr b h1 h2
      rw [upd_ne hb] at this
      by_cases hb2 : b = dx
      · rw [hb2]; exact hdx
      · rw [upd_ne hb2] at this; exact this
  refine ⟨(x, vl y), F1, ?_, hS, fun c hc => ?_, by simp [Con.inx], q1.1, fun r er v F2 H2 m2 rr => ?_, fun r er cls d F2 H2 m2 rep => ?_⟩
  · rw [List.append_nil]
    exact .cons ⟨.ref x, rfl, rfl⟩ (hs F1 vs (vl y) r1)
  · have : c = ⟨x, cI Cl []⟩ := by simpa [Con.inx] using hc
    subst this
    exact ⟨hFx, _, upd_same, dx, [], rfl, .nil⟩
  · obtain ⟨hF2, o, ho, dx2, fs2, e2, rf⟩ := m2.cell ⟨x, cI Cl (fdd r)⟩ (by simp [Con.inx])
    subst e2
    have hv : v = .non := rr
    refine ⟨hv, ?_⟩
    have g1 : Grow F1 H1 (upd F2 x (.ins Cl dx2 fs2)) H2 := by
      refine ⟨m2.ff.trans (same_upd hF2), fun b u e => ?_, keep m2, fun b h1 h2 => ?_⟩
      · by_cases hb : b = x
        · subst hb; rw [upd_same] at e; cases e; exact ho
        · rw [upd_ne hb] at e; exact m2.fh _ _ e
      · by_cases hb : b = x
        · rw [hb]; exact hx
        · rw [upd_ne hb] at h2
          exact fresh m2 b h1 h2
    exact kk (y, r) _ _ H2 (m1.trans (ok1.grow g1)) ⟨x, dx2, fs2, rfl, upd_same, rf.mono (same_upd hF2)⟩ (q1.2.1 r er)
  · have g1 : Grow F1 H1 F2 H2 := ⟨m2.ff, m2.fh, keep m2, fresh m2⟩
    exact hW _ cls d (cs1 y) F2 H2 (m1.trans (ok1.grow g1)) (hy y) rep (q1.2.2 r er)
end
end MD
namespace MD
open PySem PySem.Spec PyProof.Rows L2
/-! ### except clauses, each with a name or with none -/
abbrev Clause := Value × Option Nat × (Addr → Value → Option Addr → TS)
def offI (D : Ends) (i : Nat) : Ends := { nx := fun σ H => D.nx (σ.set i none) H, rt := D.rt, bk := fun σ H => D.bk (σ.set i none) H, ct := fun σ H => D.ct (σ.set i none) H }
def wMix (K : PySem.W.Frag) (Wo : WX) (D : Ends) : List Clause → WX
  | [] => Wo
  | (c, none, ts) :: r => fun cls d σ H => ∃ b, PySem.W.exmOne K cls c = some b ∧ (b = true → ∀ a, H a = none → ts a cls d D σ H) ∧ (b = false → wMix K Wo D r cls d σ H)
  | (c, some i, ts) :: r => fun cls d σ H => ∃ b, PySem.W.exmOne K cls c = some b ∧ (b = true → ∀ a, H a = none → ts a cls d (offI D i) (σ.set i (some (.ref a))) H) ∧ (b = false → wMix K Wo D r cls d σ H)
inductive HdMix (X : Cx) : List ExceptHandler → List Clause → Prop
  | nil : HdMix X [] []
  | cons {x : Str} {c : Value} {ts : Addr → Value → Option Addr → TS} {b₀ : Stmt} {suite : List Stmt} {np pos' : Pos} {hds : List ExceptHandler} {l : List Clause} (hc : Names X x c)
      (hsu : ∀ (a : Addr) (oe : Obj) (cls : Value) (d : Option Addr) (pn : List (Addr × Obj)), Zc cls d oe → (∃ vs, oe.data = .fields vs) → PSs (X.suite a ((a, oe) :: pn)) (b₀ :: suite) (ts a cls d)) (r : HdMix X hds l) :
      HdMix X (.ExceptHandler (some (.Name x np)) none (b₀ :: suite) pos' :: hds) ((c, none, ts) :: l)
  | consAs {x n : Str} {i : Nat} {c : Value} {ts : Addr → Value → Option Addr → TS} {b₀ : Stmt} {suite : List Stmt} {np pos' : Pos} {hds : List ExceptHandler} {l : List Clause} (hc : Names X x c) (hi : X.N[i]? = some n) (hln : X.env.kindOf n = some .local)
      (hsu : ∀ (a : Addr) (oe : Obj) (cls : Value) (d : Option Addr) (pn : List (Addr × Obj)), Zc cls d oe → (∃ vs, oe.data = .fields vs) → PSs (X.suite a ((a, oe) :: pn)) (b₀ :: suite) (ts a cls d)) (r : HdMix X hds l) :
      HdMix X (.ExceptHandler (some (.Name x np)) (some n) (b₀ :: suite) pos' :: hds) ((c, some i, ts) :: l)
section
variable {X : Cx} {body : List Stmt} {h₀ : ExceptHandler} {hds : List ExceptHandler} {l : List Clause} {pos : Pos} {tb : WX → TS} {Wo : WX}
theorem ps_try_mix (hs : X.stack = X.env :: X.outer) (hf : X.env.frame = some X.env.locals) (hN : X.N.Nodup) (tk : Takes X Wo)
    (hb : ∀ (W : WX) (pn : List (Addr × Obj)) (xe : Value → Shared → Prop), Takes (X.tr pn xe) W → PassesOwn (model X.prog X.w) X.A X.env xe → PSs (X.tr pn xe) body (tb W))
    (hh : HdMix X (h₀ :: hds) l) : PS X (.Try body (h₀ :: hds) [] [] pos) (fun D σ H => tb (wMix X.K Wo D l) D σ H) := by
  refine ⟨fun pins s σ H D inv ask => ?_⟩
  have okX := inv.ok
  have frA : X.A.frames = some (X.env :: X.outer) := by rw [okX.frames, hs]
  refine wpAny_Try_except ?_
  refine wpAny_mono ((hb (wMix X.K Wo D l) (X.pn ++ pins) (fun e sa => wpAny (model X.prog X.w) X.A (noteFrame e X.env) (fun _ sb => wpAny (model X.prog X.w) X.A (setFlight e none) (fun _ sc =>
    wpAny (model X.prog X.w) X.A (handleBy e X.env (h₀ :: hds)) (SP X pins D) X.xe sc) X.xe sb) X.xe sa) (fun u s' met => ?_) PassesOwn.looking).run [] s σ H D (inv.toTry _) ask) (fun f s1 fin => ?_) (fun e s1 he => he)
  · obtain ⟨a, B, sI, pins', σ', H', cls, d, rfl, inv0, nb, up, sky, na, os, ag, w⟩ := met
    have inv1 : Inv X pins σ' H' sI := inv0.ofTry okX
    have sky' : Sky B (X.env :: X.outer) a (Zc cls d) X.env.locals s'.heap := by rw [← hs]; exact sky
    show wpAny (model X.prog X.w) X.A (noteFrame (.ref a) X.env) _ _ _
    refine Sky.land Zc.steady frA hf sky' fun h3 fl3 up3 => ?_
    have inv3 : Inv X pins σ' H' { s' with heap := h3 } := inv1.landed nb fl3.1 (up.trans up3) os ag
    obtain ⟨o3, v3, e3, z3, d3⟩ := fl3.there
    have away : a ∉ frs (X.env :: X.outer) := fun hm => by
      obtain ⟨_, o', e', hnf⟩ := (fl3.2.2.1).mem hm
      rw [e3] at e'
      cases e'
      exact hnf _ d3
    have nL : a ≠ X.env.locals := fun z => away (List.mem_filterMap.mpr ⟨X.env, List.mem_cons_self, by rw [hf, z]⟩)
    have nF : a ∉ X.fs := fun hm => by
      obtain ⟨e, he, q⟩ := List.mem_filterMap.mp hm
      exact away (List.mem_filterMap.mpr ⟨e, List.mem_cons_of_mem _ he, q⟩)
    have suit3 := inv3.suite e3 d3 na nL nF
    have ask1 : ∀ {x : Str} {c : Value} {np : Pos} {Q : Value → Shared → Prop} {E : Value → Shared → Prop}, Names X x c → Q c { s' with heap := h3 } → wpAny (model X.prog X.w) (X.A.mark (some (.ref a))) (eval (.Name x np) X.env) Q E { s' with heap := h3 } := fun hc q => by
      obtain ⟨hg, hdbg, hm | ⟨hm, hv, hnn⟩⟩ := hc
      · exact ld_glob (X := X.suite a ((a, o3) :: (X.pn ++ pins))) suit3 hg hm q hdbg
      · exact ld_blt (X := X.suite a ((a, o3) :: (X.pn ++ pins))) suit3 hg hm hv q hnn hdbg
    have kind : PySem.W.Looks (model X.prog X.w) h3 (typeOf (.ref a)) cls := fun A Q E s k q => wpAny_typeOf_ref (k _ _ e3) (by rw [z3.1]; exact q)
    have go : ∀ {hds' : List ExceptHandler} {l' : List Clause}, HdMix X hds' l' → wMix X.K Wo D l' cls d σ' H' →
        wpAny (model X.prog X.w) X.A (handleBy (.ref a) X.env hds') (SP X pins D) X.xe { s' with heap := h3 } := by
      intro hds' l' hk
      induction hk with
      | nil =>
        intro w
        refine wpAny_handleBy_nil ?_
        obtain ⟨k1, k2, k3, oe, vs, T, oT, ts', he, hz, hd, h1, hr⟩ := id fl3
        unfold PySem.passOn
        refine wpAny_bind (wpAny_field he hd h1 ?_)
        rw [if_neg (show ¬ ((Value.ref T == Value.none) = true) from by simp)]
        have out : wpAny (model X.prog X.w) X.A (setFlight (.ref a) X.env.frame) (fun _ s4 => wpAny (model X.prog X.w) X.A (throw (.ref a) : Sem Flow) (SP X pins D) X.xe s4) X.xe { s' with heap := h3 } := by
          rw [hf]
          refine HandSPX.setFlight_upZ fl3 fun h4 hh4 up4 => wpAny_throw (tk _ _ ?_)
          exact ⟨a, B, sI, pins, σ', H', cls, d, rfl, inv1, nb, (up.trans up3).trans up4, .inr (.inr (by rw [hs]; exact hh4)), na, os, ag, w⟩
        first
          | exact wpAny_bind (wpAny_pure (wpAny_bind out))
          | exact wpAny_bind out
      | cons hc hsu r ih =>
        intro w
        obtain ⟨b, hb1, hyes, hno⟩ := w
        refine wpAny_handleBy_cons (codeAny_handlers_test ?_) (by intro q; cases q)
        refine ask1 hc ((PySem.W.exm_one (M := model X.prog X.w) inv3.kIn kind hb1).here ?_)
        cases b with
        | false => exact ih (hno rfl)
        | true =>
          refine codeAny_handlers_suite ?_
          refine HandSPX.lands_againZ fl3 fun h4 fl4 up4 => ?_
          obtain ⟨o4, v4, e4, z4, d4⟩ := fl4.there
          have inv4 : Inv X pins σ' H' { s' with heap := h4 } := inv1.landed nb fl4.1 ((up.trans up3).trans up4) os ag
          refine wpAny_mono ((hsu a o4 cls d (X.pn ++ pins) z4 ⟨_, d4⟩).run [] _ _ H' _ (inv4.suite e4 d4 na nL nF) (hyes rfl a na)) (fun f s6 fin => ?_) (fun _ _ z => False.elim z)
          match f, fin with
          | .next, ⟨_, _, j, q⟩ => exact ⟨_, _, j.unsuite okX, q⟩
          | .brk, ⟨_, _, j, q⟩ => exact ⟨_, _, j.unsuite okX, q⟩
          | .cont, ⟨_, _, j, q⟩ => exact ⟨_, _, j.unsuite okX, q⟩
          | .ret u, ⟨_, _, _, j, r6, q⟩ => exact ⟨_, _, _, j.unsuite okX, r6, q⟩
      | @consAs x n i c ts b₀ suite np pos' hds2 l2 hc hi hln hsu r ih =>
        intro w
        obtain ⟨b, hb1, hyes, hno⟩ := w
        refine wpAny_handleBy_cons (codeAny_handlers_test ?_) (by intro q; cases q)
        refine ask1 hc ((PySem.W.exm_one (M := model X.prog X.w) inv3.kIn kind hb1).here ?_)
        cases b with
        | false => exact ih (hno rfl)
        | true =>
          refine codeAny_handlers_suite_as ?_
          refine HandSPX.lands_againZ fl3 fun h4 fl4 up4 => ?_
          obtain ⟨o4, v4, e4, z4, d4⟩ := fl4.there
          have inv4 : Inv X pins σ' H' { s' with heap := h4 } := inv1.landed nb fl4.1 ((up.trans up3).trans up4) os ag
          have loc : Loc X.env.scope n := .inl hln
          refine store_ok (X := X.suite a ((a, o4) :: (X.pn ++ pins))) (v := .ref a) (inv4.suite e4 d4 na nL nF) hN hi loc rfl (fun s5 suit5 => ?_) (.inr hln)
          refine wpAny_mono ((hsu a o4 cls d (X.pn ++ pins) z4 ⟨_, d4⟩).run [] s5 _ H' _ suit5 (hyes rfl a na)) (fun f s6 fin => ?_) (fun _ _ z => False.elim z)
          match f, fin with
          | .next, ⟨_, _, j, q⟩ => exact gone_ok (j.unsuite okX) hN hi hln fun s7 j7 => ⟨_, _, j7, q⟩
          | .brk, ⟨_, _, j, q⟩ => exact gone_ok (j.unsuite okX) hN hi hln fun s7 j7 => ⟨_, _, j7, q⟩
          | .cont, ⟨_, _, j, q⟩ => exact gone_ok (j.unsuite okX) hN hi hln fun s7 j7 => ⟨_, _, j7, q⟩
          | .ret u, ⟨_, _, _, j, r6, q⟩ => exact gone_ok (j.unsuite okX) hN hi hln fun s7 j7 => ⟨_, _, _, j7, r6, q⟩
    exact go hh w
  · match f, fin with
    | .next, ⟨σ6, H6, j, q⟩ => exact wpAny_execs_nil ⟨σ6, H6, j.ofTry okX, q⟩
    | .brk, ⟨σ6, H6, j, q⟩ => exact ⟨σ6, H6, j.ofTry okX, q⟩
    | .cont, ⟨σ6, H6, j, q⟩ => exact ⟨σ6, H6, j.ofTry okX, q⟩
    | .ret u, ⟨v6, σ6, H6, j, r6, q⟩ => exact ⟨v6, σ6, H6, j.ofTry okX, r6, q⟩
end
/-! ### try, typed -/
/-- a try's body: what it raises is met at the slots as they are -/
def TB (X : Cx) (B : Hb X.K) (Y : Ec X.K) (fl : Hp) (st : List Stmt) (ρ : List (Slot X.K)) (cs : List (Cell X.K)) (D : Ends) (φ : Prop) : Prop := ∀ F σ H, Ok B fl ρ cs F σ H → φ → Xh X Y cs F σ H → WB X st D σ H
theorem Mv.sub {K : PySem.W.Frag} {c0 cs cs2 : List (Cell K)} {F H F' H' : Hp} (m : Mv c0 F H cs2 F' H') (h : ∀ c ∈ cs, c ∈ cs2) (nd : (cs.map Cell.a).Nodup) : Mv c0 F H cs F' H' :=
  ⟨m.ff, m.fh, m.fr, m.kp, fun c hc => m.cell c (h c hc), nd, fun c hc => m.nw c (h c hc), m.st⟩
/-- an exception that an except clause has bound -/
def tEx {K : PySem.W.Frag} (xa : XA) (a : Addr) (cls : Value) (d : Option Addr) : Ty K Rf := ⟨fun F v r => v = .ref a ∧ ExnRep F (exn (K := K) xa r) cls d, fun {F F' v r} e h => ⟨h.1, h.2.1, h.2.2.imp id fun ⟨dd, fs, h1, h2, h3⟩ => ⟨dd, fs, h1, e _ _ h2, h3.mono e⟩⟩⟩
section
variable {X : Cx} {fl : Hp} {B : Hb X.K} {Y : Ec X.K} {ρ : List (Slot X.K)} {cs : List (Cell X.K)} {A R α β γ δ μ ν : Type} {pos : Pos} {rest : List Stmt} {D : Ends} {e : Expr}
theorem SK.at0 {st : List Stmt} {φ : Prop} {F H : Hp} {σ : L2.St} (h : SK X B (Y0 X.K) fl st ρ cs D φ) (ok : Ok B fl ρ cs F σ H) (p : φ) : WB X st D σ H := h F σ H ok p (fun _ _ _ _ => False) takes0 fun _ _ _ _ _ _ _ _ _ _ z => z.elim
theorem tb_set {i : Nat} {nm : Str} {pos' : Pos} {T : Ty X.K α} {vl : μ → α} {cs' : μ → List (Cell X.K)} {M : (μ → Prop) → Prop} {φ : μ → α → Prop} (hN : X.N.Nodup) (he : EK X Y e ρ cs T vl cs' M) (k : ∀ y z, SK X B (Y0 X.K) fl rest (ρ.set i (.val T z)) (cs' y) D (φ y z)) (hi : X.N[i]? = some nm := by rfl)
    (hx : Loc X.env.scope nm := by first | exact Or.inl rfl | exact Or.inr rfl)
    (hs : swapsWith e (some (.Name nm pos')) pos.line X.env = pure false := by rfl) (hf : X.fn nm = true ∨ X.env.scope.names.lookup nm = some .local := by first | exact .inl rfl | exact .inr rfl) :
    TB X B Y fl (.Assign [.Name nm pos'] e pos :: rest) ρ cs D (M fun y => ∀ z, z = vl y → φ y z) := fun F σ H ok p xh => by
  refine wb (pss_cons (ps_set hN hi hx pe_w hs hf) pss_w) ?_
  exact he F σ H ok.c xh _ p _ fun y v F' H' m r q => (k y (vl y)).at0 ((ok.to m).set i r) (q _ rfl)
/-- the clauses' readings -/
def tsW (X : Cx) (suite : List Stmt) : Addr → Value → Option Addr → TS := fun a cls d D σ H => ∀ oe pn, Zc cls d oe → (∃ vs, oe.data = .fields vs) → WB (X.suite a ((a, oe) :: pn)) suite D σ H
theorem hd_nil : HdMix X [] [] := .nil
theorem hd_no {x : Str} {c : Value} {b₀ : Stmt} {suite : List Stmt} {np pos' : Pos} {hds : List ExceptHandler} {l : List Clause} (hc : Names X x c) (r : HdMix X hds l) : HdMix X (.ExceptHandler (some (.Name x np)) none (b₀ :: suite) pos' :: hds) ((c, none, tsW X (b₀ :: suite)) :: l) :=
  .cons hc (fun a oe cls d pn hz hf => ⟨fun pins s σ H D I h => h oe pn hz hf pins s I⟩) r
theorem hd_as {x n : Str} {i : Nat} {c : Value} {b₀ : Stmt} {suite : List Stmt} {np pos' : Pos} {hds : List ExceptHandler} {l : List Clause} (hc : Names X x c) (hi : X.N[i]? = some n) (hln : X.env.kindOf n = some .local) (r : HdMix X hds l) :
    HdMix X (.ExceptHandler (some (.Name x np)) (some n) (b₀ :: suite) pos' :: hds) ((c, some i, tsW X (b₀ :: suite)) :: l) :=
  .consAs hc hi hln (fun a oe cls d pn hz hf => ⟨fun pins s σ H D I h => h oe pn hz hf pins s I⟩) r
/-- the ways of an exception r through the clauses -/
def ClK (X : Cx) (B : Hb X.K) (fl : Hp) (ρ : List (Slot X.K)) (cs : List (Cell X.K)) (D : Ends) (xa : XA) (l : List Clause) (r : Rf) (φ : Prop) : Prop :=
  ∀ F σ H cls d, Ok B fl ρ cs F σ H → ExnRep F (exn (K := X.K) xa r) cls d → φ → wMix X.K (fun _ _ _ _ => False) D l cls d σ H
theorem cl_miss {xa : XA} {c : Value} {o : Option Nat} {ts : Addr → Value → Option Addr → TS} {l : List Clause} {r : Rf} {φ : Prop} (hx : PySem.W.exmOne X.K (.ref (exn (K := X.K) xa r).c) c = some false) (k : ClK X B fl ρ cs D xa l r φ) : ClK X B fl ρ cs D xa ((c, o, ts) :: l) r φ := fun F σ H cls d ok rep p => by
  have e : cls = .ref (exn (K := X.K) xa r).c := rep.1
  cases o with
  | none => exact ⟨false, by rw [e]; exact hx, fun z => (nomatch z), fun _ => k F σ H cls d ok rep p⟩
  | some i => exact ⟨false, by rw [e]; exact hx, fun z => (nomatch z), fun _ => k F σ H cls d ok rep p⟩
theorem cl_as {xa : XA} {c : Value} {i : Nat} {suite : List Stmt} {l : List Clause} {r : Rf} {φ : Prop} (hx : PySem.W.exmOne X.K (.ref (exn (K := X.K) xa r).c) c = some true)
    (k : ∀ a oe pn cls d, Zc cls d oe → (∃ vs, oe.data = .fields vs) → SK (X.suite a ((a, oe) :: pn)) B (Y0 X.K) fl suite (ρ.set i (.val (tEx xa a cls d) r)) cs (offI D i) φ) : ClK X B fl ρ cs D xa ((c, some i, tsW X suite) :: l) r φ := fun F σ H cls d ok rep p => by
  have e : cls = .ref (exn (K := X.K) xa r).c := rep.1
  exact ⟨true, by rw [e]; exact hx, fun _ a ha oe pn hz hf => SK.at0 (X := X.suite a ((a, oe) :: pn)) (k a oe pn cls d hz hf) (ok.set (T := tEx xa a cls d) (x := r) i ⟨rfl, rep⟩) p, fun z => (nomatch z)⟩
theorem sk1_try {body : List Stmt} {h₀ : ExceptHandler} {hds : List ExceptHandler} {l : List Clause} {φ : Prop} (xa : XA) (Φ : Rf → Prop) (hN : X.N.Nodup)
    (hb : ∀ pn xe, PassesOwn (model X.prog X.w) X.A X.env xe → TB (X.tr pn xe) B ⟨cs, fun ex => ∃ r, ex = exn xa r ∧ Φ r⟩ fl body ρ cs D φ)
    (hh : HdMix X (h₀ :: hds) l) (hc : ∀ r, ClK X B fl ρ cs D xa l r (Φ r)) (hs : X.stack = X.env :: X.outer := by rfl) (hf : X.env.frame = some X.env.locals := by rfl) :
    SK1 X B Y fl (.Try body (h₀ :: hds) [] [] pos) ρ cs D φ := fun F σ H ok p W tk hx' => by
  refine ws (ps_try_mix hs hf hN takes0 (tb := fun W D σ H => ∀ pn xe, Takes (X.tr pn xe) W → PassesOwn (model X.prog X.w) X.A X.env xe → WB (X.tr pn xe) body D σ H) (fun W pn xe tkb po => ⟨fun pins s σ H D I h => h pn xe tkb po pins s I⟩) hh) ?_
  intro pn xe tkb po
  refine hb pn xe po F σ H ok p ⟨_, tkb, fun ex cls d cs2 F' H' mv kp rep hr => ?_⟩
  obtain ⟨r, er, hr⟩ := hr
  subst er
  exact hc r F' σ H' cls d ⟨ok.env.mono fun _ _ q => q.mono mv.ff, (ok.mv.trans mv).sub kp ok.mv.nd, ok.flo.trans mv.ff⟩ rep hr
theorem sk_midSX {ρ' : β → List (Slot X.K)} {cs' : β → List (Cell X.K)} {Rz : β → Prop} {z : β} (i : Nat) (hn : D.nx = fun σ H => Mid B fl ρ' cs' Rz (σ.set i none) H) (h : Le (ρ.set i .un) (ρ' z)) (hc : cs = cs' z) : SK X B Y fl [] ρ cs D (Rz z) := fun F σ H ok p W tk hx' => by
  subst hc
  refine wb pss_nil ?_
  show D.nx σ H
  rw [hn]
  have ok1 := ok.unset i (u := none)
  exact ⟨z, F, ⟨h.env ok1.env, ok1.mv, ok1.flo⟩, p⟩
/-! ### in a suite: fields, classes -/
theorem pk_exF {xa : XA} {a : Addr} {oe : Obj} {pn : List (Addr × Obj)} {cls : Value} {d : Option Addr} {r : Rf} {C : Addr} {f : Str} {T : Ty X.K α} {x : α} {P : Prop} (ct : ExcC X.K C) (nf : PySem.W.findIn X.K (.ref C) f = some none) (hz : Zc cls d oe) (hfo : ∃ vs, oe.data = .fields vs)
    (he : PK (X.suite a ((a, oe) :: pn)) e ρ cs (tEx xa a cls d) r P) (hC : (exn (K := X.K) xa r).c = C := by rfl) (hl : (exn (K := X.K) xa r).fs.lookup f = some (.val T x) := by rfl) (hb : attributeBase e f X.env (eval e X.env) = eval e X.env := by rfl) :
    PK (X.suite a ((a, oe) :: pn)) (.Attribute e f pos) ρ cs T x P := fun F σ H ok p Q k => by
  have h0 : WE (X.suite a ((a, oe) :: pn)) e σ H (fun v H1 => v = .ref a ∧ ∃ u dd vs, d = some dd ∧ H1 dd = some (.xd vs) ∧ vs.lookup f = some u ∧ cls = .ref C ∧ Q u H1) := by
    refine he F σ H ok p _ fun v F1 H1 g rv => ?_
    obtain ⟨ev, ecl, hd⟩ := rv
    rcases hd with ⟨h0, _⟩ | ⟨dd, vs, ed, hF, hfl⟩
    · rw [h0] at hl; cases hl
    · rcases hfl.look (f := f) with ⟨h1, _⟩ | ⟨s0, u, h1, h2, q⟩
      · rw [hl] at h1; cases h1
      · rw [hl] at h1
        cases h1
        obtain ⟨u', e1, q⟩ := q
        cases e1
        exact ⟨ev, u, dd, vs, ed, g.fh _ _ hF, h2, by rw [ecl, hC], k u F1 H1 g q⟩
  refine fun pins s I => attr_of hb (thn (h0 pins s I) fun u s1 hh => ?_)
  · obtain ⟨x1, H1, I1, rx, ex, u1, dd, vs, ed, ea, lk, ecl, q⟩ := hh
    subst ex
    have eu : u = Value.ref a := rx
    subst eu
    subst ecl
    subst ed
    obtain ⟨ha, _⟩ := I1.pin (a, oe) (List.mem_append_left _ List.mem_cons_self)
    obtain ⟨ws, hd⟩ := hfo
    have hx : ObjOk X.prog X.w H1 s1.heap dd (.xd vs) := I1.hok dd _ ea
    obtain ⟨mA, hns, hr⟩ := hx
    obtain ⟨od, ho, hlk⟩ := lookIn_ns hns
    obtain ⟨w, hw, rw'⟩ := RelO.some_of (v := u1) (o := mA f) (by rw [← lk]; exact hr f)
    have inst : PySem.W.InstAt s1.heap a oe C (some od) := ⟨ha, hz.1, by unfold PySem.W.notCls; rw [hd] <;> rfl, by rw [hz.2]; exact ho⟩
    exact HandSPX.exc_get I1.kIn inst ct.hg ct.hk ct.hs (PySem.W.findObj_own ct.hd nf rfl (by rw [hlk, hw])) (handed_of rw') ⟨u1, H1, I1.tok _, rw', q⟩
end
end MD
namespace MD
open PySem PySem.Spec PyProof.Rows L2
section
variable {X : Cx} {fl : Hp} {B : Hb X.K} {Y : Ec X.K} {ρ : List (Slot X.K)} {cs : List (Cell X.K)} {A R α β γ δ μ ν : Type} {pos : Pos} {rest : List Stmt} {D : Ends} {e : Expr}
/-! ### any plain data -/
def tA {K : PySem.W.Frag} : Ty K PyData := ⟨fun F v d => (∀ H, Same F H → Dp K H v d) ∧ SeqAt.shaped d = true, fun e h => ⟨fun H s => h.1 H (e.trans s), h.2⟩⟩
theorem PK.any {T : Ty X.K α} {x : α} {P : Prop} (D : DT T) (h : PK X e ρ cs T x P) (hn : D.n ≤ 64 := by exact Nat.le_of_ble_eq_true rfl) : PK X e ρ cs tA (D.d x) P := fun F σ H ok p Q k =>
  h F σ H ok p Q fun v F' H' g r => k v F' H' g ⟨fun H2 s => D.dp F' H2 v x s r, shaped_of (D.lay _ _ _ r) (D.dep x) hn⟩
theorem EK.any {T : Ty X.K α} {vl : μ → α} {cs' : μ → List (Cell X.K)} {M : (μ → Prop) → Prop} (D : DT T) (h : EK X Y e ρ cs T vl cs' M) (hn : D.n ≤ 64 := by exact Nat.le_of_ble_eq_true rfl) : EK X Y e ρ cs tA (fun y => D.d (vl y)) cs' M := fun F σ H ok xh φ p Q k =>
  h F σ H ok xh φ p Q fun y v F' H' m r q => k y v F' H' m ⟨fun H2 s => D.dp F' H2 v (vl y) s r, shaped_of (D.lay _ _ _ r) (D.dep _) hn⟩ q
theorem PK.anyD {T : Ty X.K α} {x : α} {P : Prop} (d : α → PyData) {D : DT T} (hd : ∀ y, D.d y = d y) (hn : D.n ≤ 64) (h : PK X e ρ cs T x P) : PK X e ρ cs tA (d x) P := hd x ▸ PK.any D h hn
theorem EK.anyD {T : Ty X.K α} {vl : μ → α} {cs' : μ → List (Cell X.K)} {M : (μ → Prop) → Prop} (d : α → PyData) {D : DT T} (hd : ∀ y, D.d y = d y) (hn : D.n ≤ 64) (h : EK X Y e ρ cs T vl cs' M) : EK X Y e ρ cs tA (fun y => d (vl y)) cs' M := by
  have e : (fun y => d (vl y)) = fun y => D.d (vl y) := funext fun y => (hd (vl y)).symm
  rw [e]
  exact EK.any D h hn
/-! ### None -/
/-- what is never None -/
def NoN {K : PySem.W.Frag} (T : Ty K α) : Prop := ∀ F v x, T.rep F v x → v ≠ .non
theorem nn_T {K : PySem.W.Frag} {T : Tys K α} : NoN (tT T) := fun F v x ⟨a, vs, h, _⟩ e => by rw [h] at e; cases e
theorem o_none {K : PySem.W.Frag} {T : Ty K α} (n : NoN T) {F : Hp} {v : V} {x : Option α} (h : (tO T).rep F v x) : decide (v = .non) = x.isNone := by
  cases x with
  | none => exact decide_eq_true h
  | some y => exact decide_eq_false (n F v y h)
theorem pt_isN {a : Expr} {T : Ty X.K α} {x : Option α} {P : Prop} {j} {p2 : Pos} (n : NoN T) (ha : PK X a ρ cs (tO T) x P) (hm : behindInMarks .Is (.Constant .none j p2) = false := by first | exact nomark _ | rfl) : PTK X (.Compare a [.Is] [.Constant .none j p2] pos) ρ cs x.isNone P := fun F σ H ok p Q k => by
  refine wt (pt_cmpR op_isN pe_w pe_non hm) ?_
  exact ha F σ H ok p _ fun v F1 H1 g1 r1 => ⟨rfl, _, rfl, by rw [o_none n r1]; exact k F1 H1 g1⟩
/-! ### tuples with effects -/
/-! ### isinstance in a suite -/
theorem sk_retXE {A γ : Type} {xa : XA} {ins : A → List (Slot X.K)} {T : Ty X.K γ} {pre : A → Prop} {g : A → γ ⊕ Rf} {a : A} {ψ : γ → Prop} {n b' c' : L2.St → Hp → Prop} {vl : μ → γ} {cs' : μ → List (Cell X.K)} {M : (μ → Prop) → Prop} {r : List Stmt} (he : EK X Y e ρ cs T vl cs' M) (hc : ∀ y, cs' y = []) :
    SK X B Y fl (.Return (some e) pos :: r) ρ cs { retD (Con.fx xa ins T pre g) a B ψ with nx := n, bk := b', ct := c' } (M fun y => ψ (vl y)) := sk_retE (C := Con.fx xa ins T pre g) vl he (fun _ => rfl) fun y => (hc y).symm
theorem sk_endX {A γ : Type} {xa : XA} {Cl : Addr} {fd : γ → List (Str × Slot X.K)} {ins : A → List (Slot X.K)} {pre : A → Prop} {g : A → γ ⊕ Rf} {a : Addr × A} {ψ : γ → Prop} {b' c' : L2.St → Hp → Prop} (q : γ) (hc : [⟨a.1, cI Cl (fd q)⟩] = cs) :
    SK X B Y fl [] ρ cs { retD (Con.inx xa Cl fd ins pre g) a B ψ with bk := b', ct := c' } (ψ q) := sk_end (C := Con.inx xa Cl fd ins pre g) q (fun _ => rfl) hc
/-! ### all ways of a refusal -/
theorem kp0 {K : PySem.W.Frag} {c : Cell K} {Pr : Prop} (h : c ∈ ([] : List (Cell K))) : Pr := nomatch h
theorem cl_never {xa : XA} {l : List Clause} {r : Rf} : ClK X B fl ρ cs D xa l r False := fun F σ H cls d ok rep p => p.elim
def rfP (a1 : Int → Prop) (a2 : Str → Prop) (a3 : Int → Str → Prop) (a4 : Int → Prop) (a5 a6 : Str → Prop) (a7 : Prop) (a8 : List Str → List Str → Prop) (a9 : Int → Prop) (a10 : Str → Prop) (a11 a12 : Prop) : Rf → Prop
  | .noText n => a1 n
  | .twice s => a2 s
  | .badStep i s => a3 i s
  | .badGood i => a4 i
  | .noLetter s => a5 s
  | .noDesk s => a6 s
  | .otherLetters => a7
  | .notices a b => a8 a b
  | .tooMany n => a9 n
  | .noName s => a10 s
  | .noKind => a11
  | .noRow => a12
theorem sk1_tryA {body : List Stmt} {h₀ : ExceptHandler} {hds : List ExceptHandler} {l : List Clause} {φ : Prop} (xa : XA) {a1 : Int → Prop} {a2 : Str → Prop} {a3 : Int → Str → Prop} {a4 : Int → Prop} {a5 a6 : Str → Prop} {a7 : Prop} {a8 : List Str → List Str → Prop} {a9 : Int → Prop} {a10 : Str → Prop} {a11 a12 : Prop} (hN : X.N.Nodup)
    (hh : HdMix X (h₀ :: hds) l) (c1 : ∀ n, ClK X B fl ρ cs D xa l (.noText n) (a1 n)) (c2 : ∀ s, ClK X B fl ρ cs D xa l (.twice s) (a2 s)) (c3 : ∀ i s, ClK X B fl ρ cs D xa l (.badStep i s) (a3 i s)) (c4 : ∀ i, ClK X B fl ρ cs D xa l (.badGood i) (a4 i))
    (c5 : ∀ s, ClK X B fl ρ cs D xa l (.noLetter s) (a5 s)) (c6 : ∀ s, ClK X B fl ρ cs D xa l (.noDesk s) (a6 s)) (c7 : ClK X B fl ρ cs D xa l .otherLetters a7) (c8 : ∀ a b, ClK X B fl ρ cs D xa l (.notices a b) (a8 a b)) (c9 : ∀ n, ClK X B fl ρ cs D xa l (.tooMany n) (a9 n))
    (c10 : ∀ s, ClK X B fl ρ cs D xa l (.noName s) (a10 s)) (c11 : ClK X B fl ρ cs D xa l .noKind a11) (c12 : ClK X B fl ρ cs D xa l .noRow a12)
    (hb : ∀ pn xe, PassesOwn (model X.prog X.w) X.A X.env xe → TB (X.tr pn xe) B ⟨cs, fun ex => ∃ r, ex = exn xa r ∧ rfP a1 a2 a3 a4 a5 a6 a7 a8 a9 a10 a11 a12 r⟩ fl body ρ cs D φ) (hs : X.stack = X.env :: X.outer := by rfl) (hf : X.env.frame = some X.env.locals := by rfl) :
    SK1 X B Y fl (.Try body (h₀ :: hds) [] [] pos) ρ cs D φ := sk1_try xa (rfP a1 a2 a3 a4 a5 a6 a7 a8 a9 a10 a11 a12) hN hb hh (fun r => match r with
      | .noText n => c1 n
      | .twice s => c2 s
      | .badStep i s => c3 i s
      | .badGood i => c4 i
      | .noLetter s => c5 s
      | .noDesk s => c6 s
      | .otherLetters => c7
      | .notices a b => c8 a b
      | .tooMany n => c9 n
      | .noName s => c10 s
      | .noKind => c11
      | .noRow => c12) hs hf
/-- what a raising needs of the class's __init__ -/
structure XiT (P : Program) (w : World) (K : PySem.W.Frag) (mg : Str → Option Value) (base : Heap) (C : Addr) (k : Nat) (ps : List Str) (sp : Sp) (f : Addr) (fd : FuncData) : Prop where
  iC : PySem.W.findIn K (.ref C) "__init__" = some (some (.ref f))
  tI : PySem.W.typeIn K (.ref f) = some (.type "function")
  F : FnOk P w K mg base (L2.CX P w) k f fd ps sp
  b : Binds K fd ps []
/-- a, b = e and its like -/
theorem sk_setG {tg : Expr} {T : Ty X.K α} {G : List (Slot X.K) → α → List (Slot X.K)} {vs : List Nat} {vl : μ → α} {cs' : μ → List (Cell X.K)} {M : (μ → Prop) → Prop} {φ : μ → α → Prop} (hg : GK X tg T G vs) (he : EK X Y e ρ cs T vl cs' M) (k : ∀ y z, SK X B Y fl rest (G ρ z) (cs' y) D (φ y z))
    (hs : swapsWithSole [tg] e pos.line X.env = pure false := by rfl) (hw : swappedStores [tg] e X.env = pure none := by rfl) (h1 : (assignEach [tg] X.env).map (·.2) = [assign tg X.env] := by rfl) :
    SK X B Y fl (.Assign [tg] e pos :: rest) ρ cs D (M fun y => ∀ z, z = vl y → φ y z) := fun F σ H ok p W tk hx' => by
  refine wb (pss_cons (ps_asg pe_w pg_w hs hw h1) pss_w) ?_
  refine he F σ H ok.c (xh_of ok tk hx') _ p _ fun y v F1 H1 m t q => ?_
  have ok1 := ok.to m
  refine hg F1 σ H1 v (vl y) ρ ok1.env ok1.mv.fh t _ fun σ2 hρ2 _ => ?_
  exact k y (vl y) F1 σ2 H1 ⟨hρ2, ok1.mv, ok1.flo⟩ (q _ rfl) W tk hx'
/-! ### a for over what effects made, in two rules -/
/-! ### the same, where the refusals are caught: no fragment in the condition -/
theorem ek_fxT {xa : XA} {k : Nat} {f : Addr} {fd : FuncData} {ps : List Str} {nm : Str} {p : Pos} {es : List Expr} {ins : α → List (Slot X.K)} {T : Ty X.K γ} {pre : α → Prop} {g : α → γ ⊕ Rf} {Ts : Tys X.K α} {vl : μ → α} {cs1 : μ → List (Cell X.K)} {M : (μ → Prop) → Prop} {ε1 : Rf → Prop}
    (F : FnOk X.prog X.w X.K X.mg X.base (L2.CX X.prog X.w) k f fd ps (Con.fx xa ins T pre g).sp) (hs : Sl Ts ins) (hr : Room k X.A) (hm : X.mg nm = some (.ref f)) (hk : PySem.W.keepIn X.K (.ref f) = true) (hb : Binds X.K fd ps [])
    (ha : AK X Y (e :: es) ρ cs Ts vl cs1 M) (hy : ∀ y, ∀ c ∈ Y.kp, c ∈ cs1 y) (hE : ∀ r, ε1 r → Y.ε (exn xa r)) (hg : Gl X nm := by rfl) (hdb : (nm == ("__debug__" : Str)) = false := by decide) (he : starEach (e :: es) X.env = (false, eval e X.env) :: starEach es X.env := by rfl) (hpl : (backTo pos (starEach es X.env)).any (·.1) = false := by rfl) :
    EK X Y (.Call (.Name nm p) (e :: es) [] pos) ρ cs T (fun y : μ × γ => y.2) (fun y => cs1 y.1) (fun φ => M fun y => pre (vl y) ∧ (∀ r, g (vl y) = .inl r → φ (y, r)) ∧ ∀ r, g (vl y) = .inr r → ε1 r) := fun F0 σ H ok xh φ q Q kk => by
  obtain ⟨W, tk, hW⟩ := id xh
  refine we (pe_callS F hr hg hm hk hb (E := L2.WE W) (fun σ => passAt tk σ) pa_w hdb he hpl) ?_
  refine ha F0 σ H ok xh _ q _ fun y vs F1 H1 m1 r1 q1 => ?_
  have ok1 := ok.mv m1
  have up : ∀ {F2 H2 : Hp}, Mv (K := X.K) [] F1 H1 [] F2 H2 → Mv cs F0 H (cs1 y) F2 H2 := fun m => m1.trans (ok1.grow ⟨m.ff, m.fh, fun b o e => m.kp b o e fun c hc => (nomatch hc), m.fr⟩)
  refine ⟨vl y, F1, hs F1 vs (vl y) r1, m1.fh, fun c hc => absurd hc (by simp [Con.fx]), by simp [Con.fx], q1.1, fun r er v F2 H2 m rr => ?_, fun r er cls d F2 H2 m rep => ?_⟩
  · exact kk (y, r) v F2 H2 (up m) rr (q1.2.1 r er)
  · exact hW _ cls d (cs1 y) F2 H2 (up m) (hy y) rep (hE _ (q1.2.2 r er))
/-! ### the answers that the written part does not give at once -/
end
end MD
namespace KP
open PySem PySem.Spec PyProof.Rows L2 MD
/-! ### words -/
def abc : Str := "abcdefghijklmnopqrstuvwxyz"
def Low (s : Str) : Prop := ∀ c ∈ s.cps.toList, 97 ≤ c ∧ c ≤ 122
def Word (s : Str) : Prop := 1 ≤ s.length ∧ s.length ≤ 8 ∧ Low s
def sgn (c : Nat) : Str := ⟨#[c]⟩
theorem abc_cps : abc.cps.toList = List.map (fun i => 97 + i) (List.range 26) := by decide +kernel
theorem abc_len : abc.length = 26 := by decide +kernel
theorem str_len (s : Str) : s.length = s.cps.toList.length := by
  show s.cps.size = _
  rw [Array.length_toList]
theorem signs_abc : MD.signs abc = List.map (fun i => sgn (97 + i)) (List.range 26) := by
  unfold MD.signs
  rw [abc_cps, List.map_map]
  rfl
theorem app_cps (a b : Str) : (a ++ b).cps.toList = a.cps.toList ++ b.cps.toList := by
  show (a.cps ++ b.cps).toList = _
  rw [Array.toList_append]
theorem app_len (a b : Str) : (a ++ b).length = a.length + b.length := by rw [str_len, str_len, str_len, app_cps, List.length_append]
theorem low_app {a b : Str} (ha : Low a) (hb : Low b) : Low (a ++ b) := fun c hc => by
  rw [app_cps] at hc
  exact (List.mem_append.mp hc).elim (ha c) (hb c)
theorem pyIx_abc {r : Int} (h0 : 0 ≤ r) (h1 : r < 26) : pyIx (MD.signs abc) r = sgn (97 + r.toNat) := by
  unfold pyIx atI
  have hl : (MD.signs abc).length = 26 := by rw [signs_abc, List.length_map, List.length_range]
  have e : ixN (MD.signs abc).length r = some r.toNat := by
    unfold ixN
    rw [if_pos h0, hl, if_pos (by omega)]
  rw [e]
  show ((MD.signs abc)[r.toNat]?).getD default = _
  rw [signs_abc, List.getElem?_map, List.getElem?_range (by omega)]
  rfl
theorem ixok_abc {r : Int} (h0 : 0 ≤ r) (h1 : r < 26) : IxOk (MD.signs abc) r := by
  have hl : (MD.signs abc).length = 26 := by rw [signs_abc, List.length_map, List.length_range]
  exact ⟨by rw [hl]; omega, by rw [hl]; omega⟩
theorem sgn_word {r : Nat} (h : r < 26) : Word (sgn (97 + r)) := ⟨Nat.le_refl _, by show 1 ≤ 8; decide, fun c hc => by
  have : c = 97 + r := by simpa [sgn] using hc
  omega⟩
/-- joined single letters -/
theorem join_letters : ∀ ls : List Str, (∀ s ∈ ls, s.length = 1 ∧ Low s) → (Str.join ⟨#[]⟩ ls).length = ls.length ∧ Low (Str.join ⟨#[]⟩ ls)
  | [], _ => ⟨rfl, fun c hc => by cases hc⟩
  | s :: ls, h => by
    obtain ⟨i1, i2⟩ := join_letters ls fun x hx => h x (List.mem_cons_of_mem _ hx)
    obtain ⟨h1, h2⟩ := h s List.mem_cons_self
    rw [join_nil_cons]
    exact ⟨by rw [app_len, h1, i1, List.length_cons]; omega, low_app h2 i2⟩
/-- fewer than 26 words leave a letter free -/
theorem nodup_sub_len {α : Type} [DecidableEq α] : ∀ {xs ys : List α}, xs.Nodup → (∀ x ∈ xs, x ∈ ys) → xs.length ≤ ys.length
  | [], _, _, _ => Nat.zero_le _
  | x :: xs, ys, h, hs => by
    obtain ⟨h1, h2⟩ := List.nodup_cons.mp h
    have hx : x ∈ ys := hs x List.mem_cons_self
    have := nodup_sub_len (xs := xs) (ys := ys.erase x) h2 fun y hy => (List.mem_erase_of_ne (show y ≠ x from fun e => h1 (by rw [← e]; exact hy))).mpr (hs y (List.mem_cons_of_mem _ hy))
    rw [List.length_erase_of_mem hx] at this
    have := List.length_pos_of_mem hx
    rw [List.length_cons]
    omega
theorem sgn_inj {a b : Nat} (h : sgn a = sgn b) : a = b := by
  have := congrArg (fun s : Str => s.cps.toList) h
  simpa [sgn] using this
theorem signs_nodup : (MD.signs abc).Nodup := by
  rw [signs_abc]
  exact List.Pairwise.map (R := fun a b => a ≠ b) _ (fun a b h e => h (by have := sgn_inj e; omega)) List.nodup_range
theorem free_letter {found : List Str} (h : found.length < 26) : ∃ s ∈ MD.signs abc, s ∉ found := by
  refine Classical.byContradiction fun hn => ?_
  have : ∀ s ∈ MD.signs abc, s ∈ found := fun s hs => Classical.byContradiction fun hf => hn ⟨s, hs, hf⟩
  have h2 := nodup_sub_len signs_nodup this
  rw [signs_abc, List.length_map, List.length_range] at h2
  omega
/-! ### pieces of texts and lists -/
theorem cutS_to (z : Str) {n : Nat} (h : n ≤ z.length) : (cutS z none (some (n : Int))).cps.toList = z.cps.toList.take n := by
  unfold cutS
  rw [HT.sIx_none, HT.sIx_nat, Nat.min_eq_left h]
  simp
theorem cutS_from (z : Str) {n : Nat} (h : n ≤ z.length) : (cutS z (some (n : Int)) none).cps.toList = z.cps.toList.drop n := by
  unfold cutS
  rw [HT.sIx_none, HT.sIx_nat, Nat.min_eq_left h]
  simp only [List.drop_zero, List.toList_toArray]
  exact List.take_of_length_le (by rw [List.length_drop, str_len]; omega)
theorem take_step {α : Type} {xs : List α} {i : Nat} {x : α} (h : xs[i]? = some x) : xs.take (i + 1) = xs.take i ++ [x] := by
  rw [List.take_add_one, h]
  rfl
theorem get_mem {α : Type} {xs : List α} {i : Nat} {x : α} (h : xs[i]? = some x) : x ∈ xs := List.mem_of_getElem? h
theorem pyIx_nat {α : Type} [Inhabited α] {xs : List α} {i : Int} (h0 : 0 ≤ i) (h1 : i < xs.length) : ∃ x, pyIx xs i = x ∧ xs[i.toNat]? = some x := by
  unfold pyIx atI
  have e : ixN xs.length i = some i.toNat := by unfold ixN; rw [if_pos h0, if_pos h1]
  rw [e]
  have hl : i.toNat < xs.length := by omega
  exact ⟨xs[i.toNat], by show (xs[i.toNat]?).getD default = _; rw [List.getElem?_eq_getElem hl]; rfl, List.getElem?_eq_getElem hl⟩
theorem pyIx_mem {α : Type} [Inhabited α] {xs : List α} {i : Int} (h0 : 0 ≤ i) (h1 : i < xs.length) : pyIx xs i ∈ xs := by
  obtain ⟨x, e, h⟩ := pyIx_nat h0 h1
  rw [e]; exact get_mem h
/-! ### sharings' rows -/
abbrev SRow := Str × List Str
def desksF (rows : List SRow) : List Str := (rows.map (·.2)).flatten
def desksOf (rows : List SRow) : List Str := setS (desksF rows)
theorem desksF_mem {rows : List SRow} {d : Str} : d ∈ desksF rows ↔ ∃ r ∈ rows, d ∈ r.2 := by
  unfold desksF
  rw [List.mem_flatten]
  constructor
  · rintro ⟨l, hl, hd⟩
    obtain ⟨r, hr, rfl⟩ := List.mem_map.mp hl
    exact ⟨r, hr, hd⟩
  · rintro ⟨r, hr, hd⟩
    exact ⟨r.2, List.mem_map.mpr ⟨r, hr, rfl⟩, hd⟩
theorem setS_mem {xs : List Str} {x : Str} : x ∈ setS xs ↔ x ∈ xs := by unfold setS; rw [sortS_mem, List.mem_eraseDups]
theorem setS_nodup (xs : List Str) : (setS xs).Nodup := (sortS_perm _).nodup_iff.mpr (nodup_eraseDups xs)
theorem desksOf_mem {rows : List SRow} {d : Str} : d ∈ desksOf rows ↔ ∃ r ∈ rows, d ∈ r.2 := by unfold desksOf; rw [setS_mem, desksF_mem]
def Names (n : Int) (r : List Str) : Prop := (r.length : Int) = n ∧ r.Nodup ∧ ∀ s ∈ r, Word s
structure RowsOk (rows : List SRow) : Prop where
  ne : rows ≠ []
  len : rows.length ≤ 6
  nd : (rows.map (·.1)).Nodup
  wl : ∀ r ∈ rows, Word r.1
  dne : ∀ r ∈ rows, r.2 ≠ []
  dnd : ∀ r ∈ rows, r.2.Nodup
  dw : ∀ r ∈ rows, ∀ d ∈ r.2, Word d
  all : (desksOf rows).length ≤ 4
theorem RowsOk.of {rows acc : List SRow} (h : RowsOk rows) (hf : (acc.map (·.1)).Perm (rows.map (·.1))) (hr : ∀ r ∈ acc, r.2 ≠ [] ∧ r.2.Nodup ∧ ∀ d ∈ r.2, Word d) {ds : List Str} (hl : ds.length ≤ 4) (hd : ∀ r ∈ acc, ∀ d ∈ r.2, d ∈ ds) : RowsOk acc where
  ne := fun e => by
    subst e
    have := hf.length_eq
    simp at this
    exact h.ne (List.length_eq_zero_iff.mp this.symm)
  len := by
    have := hf.length_eq
    rw [List.length_map, List.length_map] at this
    rw [this]; exact h.len
  nd := hf.nodup_iff.mpr h.nd
  wl := fun r hr => by
    have : r.1 ∈ rows.map (·.1) := hf.mem_iff.mp (List.mem_map.mpr ⟨r, hr, rfl⟩)
    obtain ⟨r0, h0, e⟩ := List.mem_map.mp this
    rw [← e]; exact h.wl r0 h0
  dne := fun r h => (hr r h).1
  dnd := fun r h => (hr r h).2.1
  dw := fun r h => (hr r h).2.2
  all := Nat.le_trans (nodup_sub_len (setS_nodup _) fun d hdd => by
    obtain ⟨r, h1, h2⟩ := desksOf_mem.mp hdd
    exact hd r h1 d h2) hl
/-! ### dicts of rows -/
theorem dput_new {α : Type} {kvs : List (Str × α)} {x : Str} {y : α} (h : x ∉ kvs.map (·.1)) : dput kvs x y = kvs ++ [(x, y)] := by
  unfold dput
  rw [if_neg]
  intro e
  obtain ⟨p, hp, q⟩ := List.any_eq_true.mp e
  exact h (List.mem_map.mpr ⟨p, hp, by simpa using q⟩)
theorem dget_none {α : Type} {kvs : List (Str × α)} {x : Str} (h : x ∉ kvs.map (·.1)) : dget kvs x = none := by
  unfold dget
  rw [List.find?_eq_none.mpr fun p hp => by
    have : ¬ p.1 = x := fun e => h (List.mem_map.mpr ⟨p, hp, e⟩)
    simpa using this]
  rfl
theorem dget_isSome {α : Type} {kvs : List (Str × α)} {x : Str} (h : x ∈ kvs.map (·.1)) : (dget kvs x).isSome = true := by
  obtain ⟨p, hp, e⟩ := List.mem_map.mp h
  unfold dget
  rw [Option.isSome_map, List.find?_isSome]
  exact ⟨p, hp, by simpa using e⟩
/-! ### steps of comprehensions -/
section
variable {α β γ : Type}
theorem map_step {xs : List α} {i : Nat} {x : α} (g : α → γ) (h : xs[i]? = some x) : (xs.take (i + 1)).map g = (xs.take i).map g ++ [g x] := by
  rw [take_step h, List.map_append]
  rfl
theorem filt_yes {xs : List α} {i : Nat} {x : α} {p : α → Bool} (h : xs[i]? = some x) (hp : p x = true) : (xs.take (i + 1)).filter p = (xs.take i).filter p ++ [x] := by
  rw [take_step h, List.filter_append, List.filter_cons_of_pos hp]
  rfl
theorem filt_no {xs : List α} {i : Nat} {x : α} {p : α → Bool} (h : xs[i]? = some x) (hp : p x = false) : (xs.take (i + 1)).filter p = (xs.take i).filter p := by
  rw [take_step h, List.filter_append, List.filter_cons_of_neg (by simp [hp]), List.filter_nil, List.append_nil]
theorem cutA_to {xs : List α} {n : Nat} (h : n ≤ xs.length) : cutA xs none (some (n : Int)) = xs.take n := by
  unfold cutA
  rw [HT.sIx_none, HT.sIx_nat, Nat.min_eq_left h]
  simp
theorem cutA_to' {xs : List α} {n : Nat} : cutA xs none (some (n : Int)) = xs.take n := by
  by_cases h : n ≤ xs.length
  · exact cutA_to h
  · unfold cutA
    rw [HT.sIx_none, HT.sIx_nat, Nat.min_eq_right (by omega), List.take_of_length_le (by omega : xs.length ≤ n)]
    simp
end
/-! ### words made -/
theorem join_nil_len {ls : List Str} (h : ∀ s ∈ ls, s.length = 1 ∧ Low s) : (Str.join "" ls).length = ls.length ∧ Low (Str.join "" ls) := join_letters ls h
theorem sum_len {ls : List Str} (h : ∀ s ∈ ls, s.length = 1 ∧ Low s) : (ls.map (fun x => x.length)).sum = ls.length := by
  induction ls with
  | nil => rfl
  | cons x ls ih =>
    rw [List.map_cons, List.sum_cons, ih fun s hs => h s (List.mem_cons_of_mem _ hs), (h x List.mem_cons_self).1, List.length_cons]
    omega
theorem ins_low {w s : Str} {n : Nat} (hw : Low w) (hs : Low s) (h : n ≤ w.length) : Low (cutS w none (some (n : Int)) ++ s ++ cutS w (some (n : Int)) none) := by
  refine low_app (low_app (fun c hc => ?_) hs) (fun c hc => ?_)
  · rw [cutS_to w h] at hc; exact hw c (List.mem_of_mem_take hc)
  · rw [cutS_from w h] at hc; exact hw c (List.mem_of_mem_drop hc)
theorem ins_len {w s : Str} {n : Nat} (h : n ≤ w.length) : (cutS w none (some (n : Int)) ++ s ++ cutS w (some (n : Int)) none).length = w.length + s.length := by
  rw [str_len, app_cps, app_cps, cutS_to w h, cutS_from w h, List.length_append, List.length_append, List.length_take, List.length_drop, str_len s]
  have : w.length = w.cps.toList.length := str_len w
  omega
theorem ins_inj {w s t : Str} {n : Nat} (h : n ≤ w.length) (e : cutS w none (some (n : Int)) ++ s ++ cutS w (some (n : Int)) none = cutS w none (some (n : Int)) ++ t ++ cutS w (some (n : Int)) none) : s = t := by
  have e2 := congrArg (fun z : Str => z.cps.toList) e
  simp only [app_cps] at e2
  exact str_ext (List.append_cancel_left (List.append_cancel_right e2))
theorem len_sgn (c : Nat) : (sgn c).length = 1 := rfl
theorem low_sgn {r : Nat} (h : r < 26) : Low (sgn (97 + r)) := (sgn_word h).2.2
theorem zs_low : Low "zzzzzzzz" := by
  intro c hc
  have : ∀ c ∈ (Str.ofString "zzzzzzzz").cps.toList, 97 ≤ c ∧ c ≤ 122 := by decide +kernel
  exact this c hc
theorem cutS_zs {n : Nat} (h : n ≤ 7) : (cutS "zzzzzzzz" (some (n : Int)) none).length = 8 - n ∧ Low (cutS "zzzzzzzz" (some (n : Int)) none) := by
  have hz : (Str.ofString "zzzzzzzz").length = 8 := by decide +kernel
  have e := cutS_from "zzzzzzzz" (n := n) (by show n ≤ (Str.ofString "zzzzzzzz").length; omega)
  refine ⟨?_, fun c hc => ?_⟩
  · rw [str_len, e, List.length_drop, ← str_len]
    show (Str.ofString "zzzzzzzz").length - n = _
    rw [hz]
  · rw [e] at hc
    exact zs_low c (List.mem_of_mem_drop hc)
theorem nodup_set {α : Type} : ∀ {xs : List α} {x : α} {i : Nat}, xs.Nodup → x ∉ xs → (xs.set i x).Nodup
  | [], _, _, h, _ => h
  | a :: xs, x, 0, h, hx => by
    obtain ⟨h1, h2⟩ := List.nodup_cons.mp h
    rw [List.set_cons_zero]
    exact List.nodup_cons.mpr ⟨fun m => hx (List.mem_cons_of_mem _ m), h2⟩
  | a :: xs, x, i + 1, h, hx => by
    obtain ⟨h1, h2⟩ := List.nodup_cons.mp h
    rw [List.set_cons_succ]
    refine List.nodup_cons.mpr ⟨fun m => ?_, nodup_set h2 fun m => hx (List.mem_cons_of_mem _ m)⟩
    rcases List.mem_or_eq_of_mem_set m with m | e
    · exact h1 m
    · exact hx (by rw [← e]; exact List.mem_cons_self)
/-! ### what each def asks and gives -/
def Fl (fl : List Int) : Prop := ∃ a b c : Int, fl = [a, b, c] ∧ 0 ≤ c ∧ c < 1099511627776
def pre_draw (fl : List Int) (n : Int) : Prop := Fl fl ∧ 0 < n ∧ n ≤ 1000000
def post_draw (fl : List Int) (n r : Int) (fl2 : List Int) : Prop := 0 ≤ r ∧ r < n ∧ Fl fl2
def pre_cell (x : List Int × Int) : Prop := 0 ≤ x.2
def f_cell (x : List Int × Int) : Int := if x.2 < x.1.length then pyIx x.1 x.2 else (if 0 < x.1.length then pyIx x.1 (x.2 * 7 % x.1.length) % 2147483629 * 48271 + x.2 * 7919 else x.2 * 7919 + 5) % 2147483647 * 31
def pre_flow (x : List Int × Int) : Prop := 0 ≤ x.2 ∧ x.2 ≤ 1000000
def post_flow (x : List Int × Int) (r : List Int) : Prop := Fl r
def pre_names (fl : List Int) (n : Int) : Prop := Fl fl ∧ 1 ≤ n ∧ n ≤ 8
def post_names (fl : List Int) (n : Int) (r : List Str) (fl2 : List Int) : Prop := Names n r ∧ Fl fl2
end KP
namespace MD
open PySem PySem.Spec PyProof.Rows L2
/-! ### a def of one thing, the caught exception, called in a suite: nothing flies out of it -/
end MD
namespace MD
open PySem PySem.Spec PyProof.Rows L2
/-! ### dict(a list of pairs) -/
/-! ### is, of truths; what is never come to -/
/-! ### a slice of an owned list put otherwise -/
theorem rc_min2 {K : PySem.W.Frag} : RCK (K := K) (fun xs H Q => ∃ i j, xs = [.int i, .int j] ∧ Q (.int (if j < i then j else i)) H) (tsC tI (ts1 tI)) tI yes1 (fun x => if x.2 < x.1 then x.2 else x.1) := fun F H vs x s ⟨v, r, e, h1, u, e2, h2⟩ c Q k => by
  subst e; subst e2; cases h1; cases h2
  exact ⟨_, _, rfl, k _ F H (Grow.refl s) rfl⟩
/-! ### equality where no cell changes -/
end MD
namespace MD
open PySem PySem.Spec PyProof.Rows L2
open PySem.Builtin PySem.Builtin.Str
/-! ### signs of pieces -/
/-! ### str.partition -/
/-! ### str.replace of written texts, a token out -/
/-! ### lists one behind another, pieces of lists, and; with effects -/
end MD
namespace MD
open PySem PySem.Spec PyProof.Rows L2
end MD
namespace MD
open PySem PySem.Spec PyProof.Rows L2
/-! ### a def within which repr may be asked: around it nothing is being shown -/
structure FnG (P : Program) (w : World) (K : PySem.W.Frag) (mg : Str → Option Value) (base : Heap) (k : Nat) (f : Addr) (fd : FuncData) (ps : List Str) (sp : Sp) : Prop where
  len : ∀ vs H Q E, sp vs H Q E → vs.length = ps.length
  run : ∀ (A : Around) (ou : List Env) (s : Shared) (H : Hp) (as : Args) (us : List Value) (vs : List V) (Q : VK) (E : XK), Room k A → A.guards = some [] → Env0 P w K mg base A ou s H → BindsTo s fd as (ps.zip us) → Vals vs us → sp vs H Q E →
    codeAny (model P w) A (.call (.ref f) as) (CR (L2.CX P w) ou P w H s Q E) s
section
variable {P : Program} {w : World} {K : PySem.W.Frag} {mg : Str → Option Value} {base : Heap} {A R γ : Type}
theorem fn_conG {y qual : Str} {st : Stmt} {f : Addr} {fd : FuncData} {N ps : List Str} {k : Nat} (C : Con K A R γ) (F : Fun K y qual st f fd) (S : FnScope N ps (defScope st)) (hl : ∀ a, (C.ins a).length = ps.length)
    (body : ∀ (cdv : Value) (Ar : Around) (outer : List Env) (s : Shared) (H : Hp) (E : XK) (F0 : Hp) (a : A) (φ : R → Prop) (ε : Exn K → Prop), (Ar.deeper (envOfC qual (defScope st) s.heap.objs.size f cdv)).guards = some [] → Room k (Ar.deeper (envOfC qual (defScope st) s.heap.objs.size f cdv)) →
      PassesOwn (model P w) (Ar.deeper (envOfC qual (defScope st) s.heap.objs.size f cdv)) (envOfC qual (defScope st) s.heap.objs.size f cdv) (cxOf (L2.CX P w) P w K mg base N qual (defScope st) f cdv Ar outer s H E).xe →
      SK (cxOf (L2.CX P w) P w K mg base N qual (defScope st) f cdv Ar outer s H E) ⟨F0, H, C.cin a⟩ ⟨C.cin a, ε⟩ F0 (defBody st) (C.ins a ++ List.replicate (N.length - ps.length) .un) (C.cin a) (retD C a ⟨F0, H, C.cin a⟩ φ) (C.wp a φ ε)) :
    FnG P w K mg base (k + 1) f fd ps C.sp := by
  obtain ⟨oc, od, kV, doc, pm, an, cdv, ct, osl, rfl, lk, hcd⟩ := F.ex
  have hlen : ∀ vs H Q E, C.sp vs H Q E → vs.length = ps.length := fun vs H Q E ⟨a, F, h, _⟩ => by rw [← h.length]; exact hl a
  refine ⟨hlen, fun A outer s H args us vs Q E hr hgd e0 hb r hsp => ?_⟩
  have e := hlen _ _ _ _ hsp
  obtain ⟨a, F0, hv, hs, hc, hn, hw⟩ := hsp
  have inK : K.In s.heap := e0.mod.kin.keeps fun b o e => (e0.bs b o e).1
  have noL : s.heap.NoLimit := e0.mod.nolimit.keeps fun b o e => (e0.bs b o e).1
  have kinds : ∀ y ∈ ps.zip us, (defScope st).names.lookup y.1 = some .local ∨ ((defScope st).names.lookup y.1 = some .cell ∧ ((cellsFrom (s.heap.objs.size + 1) (defScope st).names []).lookup y.1).isSome = true) := fun ⟨n, v⟩ hy =>
    (S.par n (List.of_mem_zip hy).1).elim .inl fun q => .inr ⟨q, PySem.W.cellsFrom_some _ _ _ (.inl q)⟩
  refine codeAny_call_function hr.depth (inK _ _ lk) rfl S.co S.gen rfl (PySem.W.codeRec_of inK hcd) (hb _ _ _ _ ?_)
  refine wpAny_newFunctionEnv_cells S.kind kinds fun env he s1 y1 => ?_
  subst he
  refine ⟨noL.keeps y1.toInCall.keep, codeAny_func ?_⟩
  have I : Inv (cxOf (L2.CX P w) P w K mg base N qual (defScope st) f cdv A outer s H E) [] (L2.start N vs) H s1 := inv_start S hr.hd e0 e r y1
  have Bo : Mv (C.cin a) F0 H (C.cin a) F0 H := ⟨Same.refl _, hs, fun b h1 h2 => absurd h1 h2, fun b o e _ => e, hc, hn, fun c hc => .inl ⟨c, hc, rfl⟩, fun c hcm z => by
    obtain ⟨_, o, e, _⟩ := hc c hcm
    rw [e] at z; cases z⟩
  have run := body cdv A outer s H E F0 a _ _ hgd (hr.deeper _) (passes_of rfl) F0 (L2.start N vs) H ⟨by
    unfold L2.start
    rw [e]
    exact hv.start, Bo, Same.refl _⟩ hw (fun cls d _ H => E cls d H) (takes_of rfl rfl rfl rfl) (fun ex cls d cs2 F' H' σ' mv kp r ep => ep cls d F' H' ⟨mv.ff, mv.fh, mv.fr, mv.kp, fun c hc => mv.cell c (kp c hc), hn, fun c hc => .inl ⟨c, hc, rfl⟩, mv.st⟩ r) [] s1 I
  refine wpAny_mono run (fun fl s' hs => ?_) fun e s' hs => hs
  have done : ∀ {σ' : L2.St} {H' : Hp} {v : V} {u : Value}, Inv (cxOf (L2.CX P w) P w K mg base N qual (defScope st) f cdv A outer s H E) [] σ' H' s' → RelV v u → Q v H' → CE outer P w H s Q u s' :=
    fun {_ H' v _} J rv q => ⟨v, H', J.os, J.bare, J.base, J.hok, rv, q⟩
  cases fl with
  | ret u =>
    obtain ⟨v, σ', H', J, rv, z, F', m, t, q⟩ := hs
    exact done J rv (q v F' H' m t)
  | next =>
    obtain ⟨σ', H', J, z, F', m, t, q⟩ := hs
    exact done (v := V.non) (u := Value.none) J rfl (q .non F' H' m t)
  | brk =>
    obtain ⟨_, _, _, q⟩ := hs
    exact False.elim q
  | cont =>
    obtain ⟨_, _, _, q⟩ := hs
    exact False.elim q
end
/-! ### its call -/
/-! ### repr -/
/-- a text, of whatever signs -/
def tSx {K : PySem.W.Frag} : Ty K Str := ⟨fun _ v x => v = .str x, fun _ h => h⟩
section
variable {X : Cx}
theorem cr_repr {k : Nat} (hgd : X.A.guards = some []) (hr : Room k X.A) : CallR X (.builtin "repr") (fun xs H Q => ∃ a d, xs = [.ref a] ∧ Dp X.K H (.ref a) d ∧ d.showable = true ∧ d.hasDict = false ∧ d.depth ≤ 64 ∧ d.shown.length ≤ sizeLine ∧ Q (.str d.shown) H) := by
  intro pins s σ H xs us Q I rs ⟨a, d, e, hd, h1, h2, h3, h4, hq⟩
  subst e
  cases rs with
  | cons r1 rs =>
    cases rs
    obtain rfl : _ = Value.ref a := r1
    obtain ⟨as, hrd⟩ := Dp.reads I d (.ref a) (.ref a) hd rfl
    have hu := hr.un
    exact repr_of_reads' hrd h1 (fun e => by rw [h2] at e; cases e) hgd (by omega) (fun b o e => e) (fun h' u tk hk => ⟨.str d.shown, H, I.kept hk, ⟨u, rfl⟩, hq⟩) h4
end
theorem r2_neR {K : PySem.W.Frag} : R2K (K := K) rNe tSx tSx tB yes2 (fun i j => !decide (i = j)) := fun F H v w x y s h1 h2 c Q k => by
  cases h1; cases h2
  refine ⟨rfl, k _ F H (Grow.refl s) ?_⟩
  show V.bl _ = V.bl _
  rw [dec_strD]
/-! ### the law's end -/
section
variable {P : Program} {w : World} {K : PySem.W.Frag} {mg mb : Str → Option Value} {k : Nat} {fa a : Addr} {fd : FuncData} {x : Str} {sp : Sp} {s1 : Shared} {vs : List Value} {ns : List Int}
theorem law_callG (inK : K.In s1.heap) (gn : s1.heap.Ns mainGlobals mg) (bn : s1.heap.Ns builtinsNs mb) (bb : ∀ x : Str, x ≠ "__name__" → mb x = bootBuiltins x) (nl : s1.heap.NoLimit) (ge : s1.gens = #[])
    (ha : s1.heap.get? a = some { cls := .type "list", data := .seq vs.toArray }) (hi : IntsAre vs ns) (hl : ns.length ≤ sizeLine) (hr : Room k callerA)
    (F : ∀ base : Heap, K.In base → base.Ns mainGlobals mg → FnG P w K mg base k fa fd [x] sp) (hbind : ∀ (s : Shared) (u : Value), BindsTo s fd ⟨[u], []⟩ [(x, u)])
    (hsp : ∀ H : Hp, Only H → SqL K H a (ns.map V.int) → sp [.ref a] H (fun v _ => v = .bl true) fun _ _ _ => False)
    (hCX : ∀ H e s', L2.CX P w [] H s1 (fun _ _ _ => False) e s' → False) :
    codeAny (model P w) callerA (.call (.ref fa) ⟨[.ref a], []⟩) (fun r s' => r = .ok (.ret (.bool true)) ∧ OldK s1.heap s'.heap ∧ s'.os = s1.os ∧ AllBare s'.gens) s1 := by
  have vi := vals_ints hi
  have vl := hi.length
  have go : ∀ H : Hp, Only H → SqL K H a (ns.map V.int) → HOk P w H s1.heap → (∀ b, H b ≠ none → b = a) → (H a ≠ none → K.lookup a = none) →
      codeAny (model P w) callerA (.call (.ref fa) ⟨[.ref a], []⟩) (fun r s' => r = .ok (.ret (.bool true)) ∧ OldK s1.heap s'.heap ∧ s'.os = s1.os ∧ AllBare s'.gens) s1 := by
    intro H only seq ok one low
    have put : ∀ {b : Addr} {o : Obj}, s1.heap.get? b = some o → H b = none → (hidT s1.heap H).get? b = some o := fun e n => hidT_get e n
    have freeD : ∀ {b : Addr} {o : Obj} {es : Array DictEntry} {n : Nat}, s1.heap.get? b = some o → o.data = .dict es n → H b = none := fun {b o es n} e d => Classical.byContradiction fun q => by
      have eb := one b q
      subst eb
      rw [ha] at e
      cases e
      have d2 : Data.seq vs.toArray _ = Data.dict es n := d
      cases d2
    have nss : ∀ {b : Addr} {m : Str → Option Value}, s1.heap.Ns b m → (hidT s1.heap H).Ns b m := fun ⟨o, es, n, e, d, r⟩ => ⟨o, es, n, put e (freeD e d), d, r⟩
    have inH : K.In (hidT s1.heap H) := fun b o e => put (inK b o e) (Classical.byContradiction fun q => by
      have eb := one b q
      subst eb
      rw [low q] at e
      cases e)
    have md : Mod K mg (hidT s1.heap H) := ⟨inH, nss gn, ⟨mb, nss bn, bb⟩, nl.elim fun mc h => ⟨mc, nss h.1, h.2⟩⟩
    have env : Env0 P w K mg (hidT s1.heap H) callerA [] s1 H := ⟨rfl, md, fun b o e => of_hidT e, Nat.le_of_eq (hidT_size _ _), trivial, fun b hb => absurd (show b ∈ ([] : List Addr) from hb) (by simp), ok, .of_eq ge⟩
    have run := (F _ inH (nss gn)).run callerA [] s1 H ⟨[.ref a], []⟩ [.ref a] [.ref a] _ _ hr rfl env (hbind s1 (.ref a)) (.cons rfl .nil) (hsp H only seq)
    refine codeAny_mono run fun r s2 h => ?_
    cases r with
    | error e => exact (hCX H e s2 h).elim
    | ok fl =>
      cases fl with
      | next => exact False.elim h
      | brk => exact False.elim h
      | cont => exact False.elim h
      | ret u =>
        obtain ⟨v, H2, os, bare, un, ok2, rv, q⟩ := h
        have q : v = .bl true := q
        subst q
        obtain rfl : u = Value.bool true := rv
        refine ⟨rfl, OldK.of_keep fun b o e => ?_, os, bare⟩
        cases hb : H b with
        | none => exact un.keep b o e hb (by intro z; exact absurd (show b ∈ ([] : List Addr) from z) (by simp)) (by simp)
        | some t =>
          rcases only b with z | ⟨ob, xs, z⟩
          · rw [hb] at z
            cases z
          · obtain ⟨g1, _⟩ := ok b _ z
            obtain ⟨g2, _⟩ := ok2 b _ (un.frzs b ob _ z)
            rw [e] at g1
            cases g1
            exact g2
  have sz : (ns.map V.int).length ≤ sizeLine := by rw [List.length_map]; exact hl
  cases hk : K.lookup a with
  | some o =>
    have e := inK a o hk
    rw [ha] at e
    cases e
    exact go (fun _ => none) (fun _ => .inl rfl) (.inr ⟨_, vs.toArray, _, hk, rfl, rfl, rfl, by rw [List.size_toArray, vl]; exact hl, by simpa using vi⟩) (fun b u z => nomatch z) (fun b z => absurd rfl z) fun z => absurd rfl z
  | none =>
    let one : HO := .frz { cls := .type "list", data := .seq vs.toArray } (.lst (ns.map V.int))
    have at1 : ∀ {b : Addr}, b = a → (fun b => if b = a then some one else none : Hp) b = some one := fun h => if_pos h
    have at0 : ∀ {b : Addr}, b ≠ a → (fun b => if b = a then some one else none : Hp) b = none := fun h => if_neg h
    refine go (fun b => if b = a then some one else none) (fun b => ?_) (.inl (.inr ⟨{ cls := .type "list", data := .seq vs.toArray }, at1 rfl⟩)) (fun b u z => ?_) (fun b z => Classical.byContradiction fun h => z (at0 h)) fun _ => hk
    · by_cases h : b = a
      · exact .inr ⟨_, _, at1 h⟩
      · exact .inl (at0 h)
    · by_cases h : b = a
      · subst h
        have z := (at1 rfl).symm.trans z
        cases z
        exact ⟨ha, sz, vs, _, vi, ha⟩
      · exact nomatch (at0 h).symm.trans z
end
theorem walk_ofG {l : PySem.W.OpenLaw} {n k : Nat} {q : Program} {loose : List Str} {XP : (Str → Option Value) → Heap → Prop} {YP : World → Heap → Prop} {d : DefRec} {K : Params → PySem.W.Frag} {sp : World → Sp} {x : Str}
    (hn : l.most = some n) (n2 : n ≤ sizeLine) (hdf : d.params.defaults = []) (hr : Room k callerA) (hY : ∀ (w : World) (h : Heap), YP w h → (K w.params).In h)
    (F : ∀ (w : World) (mg : Str → Option Value) (fa : Addr) (h : Heap), (K w.params).In h → h.Ns mainGlobals mg → mg d.name = some (.ref fa) →
      ∃ fd : FuncData, (∀ (s : Shared) (u : Value), BindsTo s fd ⟨[u], []⟩ [(x, u)]) ∧ ∀ base : Heap, (K w.params).In base → base.Ns mainGlobals mg → FnG l.prog w (K w.params) mg base k fa fd [x] (sp w))
    (hsp : ∀ (w : World) (H : Hp) (a : Addr) (ns : List Int), ns.length ≤ n → Only H → SqL (K w.params) H a (ns.map V.int) → sp w [.ref a] H (fun v _ => v = .bl true) fun _ _ _ => False)
    (hCX : ∀ (w : World) (H : Hp) (s : Shared) (e : Value) (s' : Shared), L2.CX l.prog w [] H s (fun _ _ _ => False) e s' → False) : PySem.W.WalkO q loose XP YP l.row.toRowW d [] (fun f vs => PySem.call f vs) :=
  Att.attach_call hn hdf fun w s0 s1 mg mb fa o pm cd doc a vs ns G Y ho hd hcd hmg hobj hints hlen hg =>
    have inK := hY w _ Y
    have ⟨_, hb, hF⟩ := F w mg fa _ inK G.T.g hmg
    law_callG inK G.T.g G.T.b G.T.builtins G.T.nolimit hg hobj hints (Nat.le_trans hlen n2) hr hF hb (fun H hO hS => hsp w H a ns hlen hO hS) fun H e s' => hCX w H s1 e s'
end MD
namespace MD
open PySem PySem.Spec PyProof.Rows L2
/-! ### tuple(a list), locked -/
section
variable {X : Cx}
theorem call_tupF : CallR X (.type "tuple") (fun xs H Q => ∃ p ys, xs = [.ref p] ∧ SqL X.K H p ys ∧ ∀ l o, H l = none → o.dict = none → Q (.ref l) (upd H l (.frz o (.tup ys)))) := by
  intro pins s σ H xs us Q I r ⟨p, ys, e, hq, q⟩
  subst e
  cases r with
  | cons r1 rs =>
    cases rs
    obtain rfl : _ = Value.ref p := r1
    obtain ⟨its, rv, pl, hz⟩ := I.list hq
    have hlen := rv.length
    refine call_tuple_list pl.isList (fun h' kp => ?_) (by simp only [List.size_toArray]; omega)
    have I1 : Inv X pins σ H { s with heap := h' } := I.kept (t' := s.toks) kp
    let ob : Obj := { cls := .type "tuple", data := .seq its.toArray }
    have hg : (h'.push ob).get? h'.objs.size = some ob := Heap.get?_push_size _ rfl
    exact ⟨.ref h'.objs.size, _, I1.laid (t' := s.toks) (o := .frz ob (.tup ys)) (fun b u e => Heap.get?_push_of_some _ e) (Nat.le_refl _) ⟨hg, hz, its, rv, ⟨_, hg, rfl, _, rfl⟩⟩, rfl, q _ ob (I1.hok.fresh (Nat.le_refl _)) rfl⟩
theorem u_tupF {K : PySem.W.Frag} {α : Type} {T : Ty K α} {xs : List α} : U1 (fun vs H Q => ∃ p ys, vs = [.ref p] ∧ SqL K H p ys ∧ ∀ l o, H l = none → o.dict = none → Q (.ref l) (upd H l (.frz o (.tup ys)))) (rK T xs) True (sv (tUF T) xs) := fun F H v s ⟨a, vs, e, h, r, z⟩ _ Q k => by
  subst e
  refine ⟨a, vs, rfl, h, fun l o hl hd => ?_⟩
  have g := grow_new s hl (.frz o (.tup vs))
  exact k _ _ _ g ⟨l, vs, o, rfl, upd_same, hd, r.mono g.ff, z⟩
end
end MD
namespace MD
open PySem PySem.Spec PyProof.Rows L2
/-! ### a comprehension within one -/
def relS (scope sc : Scope) : Scope := { scope with names := scope.names.map fun (n, k) => if (k == .free && sc.kind == .function && sc.names.lookup n == some .cell) then (n, .cell) else (n, k) }
theorem blkIn_by {X : Cx} {s : Shared} {H : Hp} {scope1 : Scope} {cl : List (Str × Addr)} {C : Addr} {fp : List Addr} {N : List Str} {sc scope2 : Scope} {own : List (Str × Nat)} (hN : X.N = N) (hs : X.env.scope = sc) (h : blkC N (relS scope1 sc) scope2 own = true) :
    BlkOk (X.blk s H scope1 (compEnvC scope1 cl C X.env) fp).N (X.blk s H scope1 (compEnvC scope1 cl C X.env) fp).env.scope scope2 own := by
  subst hN
  subst hs
  exact blkOk_by h
end MD
/-! MDah: sets of ints made of a list, and sorted. -/
namespace MD
open PySem PySem.Spec PyProof.Rows L2
theorem ints_at : ∀ {us : List Value} {xs : List Int}, IntsAre us xs → ∀ (i : Nat) (v : Value), us[i]? = some v → ∃ x t, xs[i]? = some x ∧ v = .int x t
  | _, _, .nil, _, _, h => by simp at h
  | _, _, .cons _ _ r, 0, v, h => by
    have h : _ = v := Option.some.inj h
    exact ⟨_, _, rfl, h.symm⟩
  | _, _, .cons _ _ r, i + 1, v, h => ints_at r i v h
section
variable {P : Program} {w : World} {A : Around} {E : Value → Shared → Prop} {s : Shared} {a : Addr}
theorem setI_loop {I : Addr} {fp wr : List Addr} {G : Array GenState → Array GenState → Prop} {n : Nat} {Pv : Nat → Value → Prop} {St : Nat → Shared → Prop} {R : Result → Shared → Prop} (W : WalksS P w A.in1 I fp wr G n Pv St) (S : Addr) (hSf : S ∉ fp) (xs : List Int) (hn : xs.length = n) (hfew : n + 1 < scanBound)
    (hval : ∀ i v, Pv i v → ∃ x t, xs[i]? = some x ∧ v = .int x t) : ∀ (k i : Nat) (s : Shared), n - i = k → i ≤ n → St i s → (∃ L m, SetR w s.heap S L m ∧ (∀ x, L x = true ↔ x ∈ xs.take i) ∧ m ≤ i) →
      (∀ s' L m, Moved (S :: wr) G s s' → SetR w s'.heap S L m → (∀ x, L x = true ↔ x ∈ xs) → m ≤ n → R (.ok (.ret .none)) s') → codeAny (model P w) A (.builtin "set.update.loop" ⟨[.ref S, .ref I], []⟩) R s := by
  have hSw : S ∉ wr := fun h => hSf (W.sub _ h)
  intro k
  induction k with
  | zero =>
    intro i s hk hi hst ⟨L, m, hS, hm, hl⟩ hR
    obtain rfl : i = n := by omega
    refine codeAny_builtin PyProof.Rows.F.entry_set_update_loop ?_
    rw [Around.under_plainId PyProof.Rows.F.plain_set_update_loop _]
    show wpAny _ A.in1 (pyNext (.ref I) >>= _) _ _ s
    refine wpAny_bind (W.done s _ _ hst fun s' mv => ?_)
    exact wpAny_pure (hR s' L m (mv.mono fun b hb => List.mem_cons_of_mem _ hb) (hS.at fun o e => mv.heap S o hSw e) (fun x => by rw [hm x, ← hn, List.take_length]) hl)
  | succ k ih =>
    intro i s hk hi hst ⟨L, m, hS, hm, hl⟩ hR
    have hlt : i < n := by omega
    refine codeAny_builtin PyProof.Rows.F.entry_set_update_loop ?_
    rw [Around.under_plainId PyProof.Rows.F.plain_set_update_loop _]
    show wpAny _ A.in1 (pyNext (.ref I) >>= _) _ _ s
    refine wpAny_bind (W.item i s _ _ hlt hst fun v s' hP hst' mv => ?_)
    obtain ⟨x, t, hx, rfl⟩ := hval i v hP
    have hS' : SetR w s'.heap S L m := hS.at fun o e => mv.heap S o hSw e
    show wpAny _ A.in1 (holding [Value.int x t] (setAdd S (.int x t)) >>= _) _ _ s'
    refine wpAny_bind (wpAny_holding ?_)
    unfold setAdd
    refine wpAny_holding (wpAny_bind ((intKind P w).pyHash (intKind_is P w x t) ?_))
    refine setR_add_hashed (s := { s' with toks := s'.toks + 1 }) hS' (by omega) fun h' sb hS2 => ?_
    refine wpAny_pure ⟨plainId_quiet PyProof.Rows.F.plain_set_update_loop _, ih (i + 1) _ (by omega) hlt (W.frame _ s' _ _ hst' (Nat.le_succ _) fun b hb o e => ?_) ⟨_, _, hS2, fun y => ?_, by split <;> omega⟩ fun s'' L2 m2 mv2 hS3 hm3 hl3 => ?_⟩
    · rw [sb.2 b fun z => hSf (by rw [← z]; exact hb)]; exact e
    · rw [Bool.or_eq_true, hm y, List.take_succ, hx, List.mem_append, decide_eq_true_eq]
      constructor
      · rintro (z | z)
        · exact .inl z
        · exact .inr (by rw [z]; exact List.mem_singleton.mpr rfl)
      · rintro (z | z)
        · exact .inl z
        · exact .inr (List.mem_singleton.mp z)
    · refine hR s'' L2 m2 (Moved.trans W.gtrans ((mv.mono fun b hb => List.mem_cons_of_mem _ hb).then_heap (Nat.le_succ _) fun b o hb e => ?_) mv2) hS3 hm3 hl3
      rw [sb.2 b fun z => hb (by rw [z]; exact List.mem_cons_self)]; exact e
theorem setI_call {l : Addr} {items : Array Value} {xs : List Int} {Q : Value → Shared → Prop} (hh : A.handled = none) (hl : s.heap.IsList l items) (hi : IntsAre items.toList xs) (few : xs.length + 1 < scanBound)
    (h : ∀ (h' : Heap) (tk : Nat) L m, SetR w h' s.heap.objs.size L m → (∀ x, L x = true ↔ x ∈ xs) → m ≤ xs.length → (∀ b o, s.heap.get? b = some o → h'.get? b = some o) → Q (.ref s.heap.objs.size) { s with heap := h', toks := tk }) :
    wpAny (model P w) A (call (.type "set") [.ref l]) Q E s := by
  obtain ⟨c, tl, hmro⟩ := PySem.F.called_set.mro
  have hmade := PySem.F.called_set.made; have hsub := PySem.F.called_set.sub
  refine wpAny_call (codeAny_of_tree ?_)
  show wpAny _ _ (callAny (.type "set") _) _ _ _
  refine wpAny_pure ⟨Code.quiet_builtin _ (by decide +kernel), codeAny_builtin PySem.F.entry_type_call ?_⟩
  rw [Around.under_plain (weight_type_call_type "set" [.ref l] []) rfl]
  have h1 := PySem.F.called_set.notType; have h2 := PySem.F.called_set.canCreate
  have hct := PySem.F.typeCall_set_1 (.ref l)
  repeat (any_goals (first | assumption | wp_step))

  let fr : Obj := { cls := .type "set", dict := none, data := .set #[] 0 (.fresh 0 0 (!w.params.followText "set-order")) }
  refine codeAny_mono (code_set_led1 (.ref l) (E := E) (Q₁ := fun obj s₁ => obj = .ref s.heap.objs.size ∧ s₁ = { s with heap := s.heap.push fr }) ⟨rfl, rfl⟩) fun r s₁ hr => ?_
  cases r with
  | error e => exact hr
  | ok flw =>
    cases flw with
    | ret obj =>
      obtain ⟨rfl, rfl⟩ := hr
      have hS : (s.heap.push fr).get? s.heap.objs.size = some fr := Heap.get?_push_size _ rfl
      have hT : Shared.TypeIs { s with heap := s.heap.push fr } (.ref s.heap.objs.size) "set" := ⟨_, hS, rfl⟩
      have hli := PySem.F.called_set.init.lookup; have hbi := PySem.F.called_set.init.bind (.ref s.heap.objs.size)
      repeat (any_goals (first | assumption | wp_step))

      refine codeAny_mono (codeAny_call_builtin (R := wants (fun r s₂ => r = .none ∧ ∃ h' tk L m, s₂ = { s with heap := h', toks := tk } ∧ SetR w h' s.heap.objs.size L m ∧ (∀ x, L x = true ↔ x ∈ xs) ∧ m ≤ xs.length ∧ (∀ b o, s.heap.get? b = some o → h'.get? b = some o)) E) PySem.F.called_set.init.plain PySem.F.entry_set_init (check_set_init_1 hT ?_)) fun r₂ s₂ hr₂ => ?_
      · obtain ⟨ol, hol, hcl, nl, hdl⟩ := hl
        obtain ⟨ocls, odict, odata, oslots⟩ := ol
        simp only at hcl hdl
        subst hcl; subst hdl
        have hol' : (s.heap.push fr).get? l = some { cls := .type "list", dict := odict, data := .seq items nl, slots := oslots } := Heap.get?_push_of_some _ hol
        have hsls := PySem.F.sub_list_set; have hslf := PySem.F.sub_list_frozenset
        have hne : (Value.type "list" == Value.type "dict") = false := by decide
        have hl1 : (s.heap.push fr).IsList l items := ⟨_, hol', rfl, nl, rfl⟩
        unfold Builtin.«set.__init__» noKeywords Builtin.Frozenset.updateFrom
        generalize hPI : pyIter = PI
        wp_walk
        subst hPI

        refine wpAny_pyIter_list hl1 (wpAny_bind (wpAny_runValue ?_))
        have hlS : l < s.heap.objs.size := Heap.lt_size hol
        have hh3 : A.in1.in1.in1.handled = none := by simp [hh]
        have hz1 : (s.heap.push fr).objs.size = s.heap.objs.size + 1 := Heap.size_push ..
        have hneI : l ≠ (s.heap.push fr).objs.size := by rw [hz1]; exact Nat.ne_of_lt (Nat.lt_succ_of_lt hlS)
        have hSf : s.heap.objs.size ∉ [(s.heap.push fr).objs.size, l] := by
          rw [hz1]; simp only [List.mem_cons, List.mem_singleton, List.not_mem_nil, or_false, not_or]
          exact ⟨Nat.ne_of_lt (Nat.lt_succ_self _), Nat.ne_of_gt hlS⟩
        have hsz : xs.length = items.size := by rw [← IntsAre.length hi, Array.length_toList]
        have hval : ∀ (i : Nat) (v : Value), items[i]? = some v → ∃ x t, xs[i]? = some x ∧ v = .int x t := fun i v hv => ints_at hi i v (by rw [Array.getElem?_toList]; exact hv)
        refine setI_loop ((Walks.list hh3 _ l hneI items).toS) s.heap.objs.size hSf xs hsz (by omega) hval (items.size - 0) 0 _ (by omega) (Nat.zero_le _) ⟨⟨_, Heap.get?_push_size _ rfl, rfl, rfl⟩, (hl1.push _)⟩ ⟨fun _ => false, 0, (setR_fresh w).at (fun o e => Heap.get?_push_of_some _ e), fun x => by simp, Nat.le_refl _⟩ ?_
        intro s' L m mv hS' hm' hl'
        obtain ⟨h', g', d', tk', os'⟩ := s'
        obtain rfl : g' = s.gens := mv.gens
        obtain rfl : d' = s.drawn := mv.drawn
        obtain rfl : os' = s.os := mv.os
        show wpAny _ _ _ _ _ _
        refine wpAny_pure ?_
        show wpAny _ _ (ret Value.none) _ _ _
        refine wpAny_pure ⟨rfl, h', tk', L, m, rfl, hS', hm', by omega, fun b o e => mv.heap b o ?_ (Heap.get?_push_of_some _ (Heap.get?_push_of_some _ e))⟩
        have hb := Heap.lt_size e
        simp only [List.mem_cons, List.mem_singleton, List.not_mem_nil, or_false, not_or]
        exact ⟨Nat.ne_of_lt hb, by rw [hz1]; exact Nat.ne_of_lt (Nat.lt_succ_of_lt hb)⟩

      · cases r₂ with
        | error e => exact hr₂
        | ok fl₂ =>
          cases fl₂ with
          | ret r =>
            obtain ⟨rfl, h', tk, L, m, rfl, hS', hm', hl', hk'⟩ := hr₂
            repeat (any_goals (first | assumption | wp_step))
            exact h _ _ _ _ hS' hm' hl' hk'
          | _ => exact hr₂.elim
    | _ => exact hr.elim
end
section
variable {X : Cx}
def rSetI (K : PySem.W.Frag) (w : World) : List V → Hp → VK → Prop := fun vs H Q => ∃ (l : Addr) (xs : List Int), vs = [V.ref l] ∧ SqL K H l (xs.map V.int) ∧ xs.length < 4000 ∧ ∀ S m p, (∀ x, S x = true ↔ x ∈ xs) → m ≤ xs.length → H p = none → Q (.ref p) (upd H p (SetO w p S m))
theorem cr_setI (hc : X.calm = true) : CallR X (.type "set") (rSetI X.K X.w) := by
  intro pins s σ H vs us Q I r h
  obtain ⟨l, xs, rfl, hs, few, q⟩ := h
  obtain ⟨its, rv, hl, _⟩ := I.list hs
  rw [Vals.ref1 r]
  refine setI_call (I.ok.hd hc) hl.isList (by simpa using ints_of_vals rv) (by unfold scanBound; omega) fun h' tk S m R hm hlen kp => ?_
  exact ⟨.ref _, _, I.laid (t' := tk) (o := SetO X.w s.heap.objs.size S m) kp (Nat.le_refl _) (setO_new R), rfl, q S m _ hm hlen (I.hok.fresh (Nat.le_refl _))⟩
end
/-- the ints of a list, each once, rising -/
def sortI1 (xs : List Int) : List Int := (xs.eraseDups).mergeSort (fun a b => decide (a ≤ b))
theorem sortI1_mem {xs : List Int} {x : Int} : x ∈ sortI1 xs ↔ x ∈ xs := by unfold sortI1; rw [List.mem_mergeSort, List.mem_eraseDups]
theorem sortI1_pw (xs : List Int) : (sortI1 xs).Pairwise (· < ·) := by
  have h1 : (sortI1 xs).Pairwise (· ≤ ·) := by
    have := List.pairwise_mergeSort (le := fun a b : Int => decide (a ≤ b)) (fun a b c h1 h2 => decide_eq_true (Int.le_trans (of_decide_eq_true h1) (of_decide_eq_true h2))) (fun a b => by simp; omega) xs.eraseDups
    exact this.imp fun h => of_decide_eq_true h
  have h2 : (sortI1 xs).Nodup := (List.mergeSort_perm _ _).nodup_iff.mpr (nodup_eraseDups xs)
  exact lt_of_le_nodup _ h1 h2
theorem pw_ext : ∀ {xs ys : List Int}, xs.Pairwise (· < ·) → ys.Pairwise (· < ·) → (∀ x, x ∈ xs ↔ x ∈ ys) → xs = ys
  | [], [], _, _, _ => rfl
  | [], y :: ys, _, _, h => nomatch (h y).mpr List.mem_cons_self
  | x :: xs, [], _, _, h => nomatch (h x).mp List.mem_cons_self
  | x :: xs, y :: ys, h1, h2, h => by
    obtain ⟨a1, a2⟩ := List.pairwise_cons.mp h1
    obtain ⟨b1, b2⟩ := List.pairwise_cons.mp h2
    have e : x = y := by
      have p := (h x).mp List.mem_cons_self
      have q := (h y).mpr List.mem_cons_self
      rcases List.mem_cons.mp p with p | p
      · exact p
      · rcases List.mem_cons.mp q with q | q
        · exact q.symm
        · have := b1 x p
          have := a1 y q
          omega
    subst e
    congr 1
    refine pw_ext a2 b2 fun z => ⟨fun hz => ?_, fun hz => ?_⟩
    · rcases List.mem_cons.mp ((h z).mp (List.mem_cons_of_mem _ hz)) with q | q
      · have := a1 z hz
        omega
      · exact q
    · rcases List.mem_cons.mp ((h z).mpr (List.mem_cons_of_mem _ hz)) with q | q
      · have := b1 z hz
        omega
      · exact q
theorem sortI1_of {xs ys : List Int} (h : ys.Pairwise (· < ·)) (e : ∀ x, x ∈ ys ↔ x ∈ xs) : ys = sortI1 xs := pw_ext h (sortI1_pw xs) fun x => by rw [e, sortI1_mem]
section
variable {K : PySem.W.Frag}
/-- a set of the ints of xs -/
def rI (w : World) (xs : List Int) : Vw := fun _ H v => ∃ p S m, v = .ref p ∧ H p = some (SetO w p S m) ∧ (∀ x, S x = true ↔ x ∈ xs) ∧ m ≤ xs.length
theorem u_setI {w : World} {xs : List Int} : U1 (rSetI K w) (rK (tI (K := K)) xs) (xs.length < 4000) (rI w xs) := fun F H v s ⟨a, vs, e, h, r, z⟩ c Q k => by
  subst e
  obtain rfl := rl_ints r
  refine ⟨a, xs, rfl, h, c, fun S m p hm hl hp => ?_⟩
  have g := grow_upd (o := SetO w p S m) (Grow.refl s) hp
  exact k _ F _ g.1 ⟨p, S, m, rfl, upd_same, hm, hl⟩
theorem n_sortI1 {w : World} {xs : List Int} : UN (rSortedSet w) (rI w xs) (xs.length < 64) (tI (K := K)) (sortI1 xs) := fun F H v s ⟨a, S, m, e, h, hm, hl⟩ c Q k => by
  subst e
  refine ⟨a, S, m, rfl, h, by omega, fun ns p pw hmem hlen hp => ?_⟩
  have e : ns = sortI1 xs := sortI1_of pw fun x => by rw [hmem, hm]
  rw [e]
  refine k p _ hp rl_of_ints ?_
  rw [← e, List.length_map, hlen, sizeLine_eq]; omega
end
end MD
namespace MD
open PySem PySem.Spec PyProof.Rows L2
section
variable {K : PySem.W.Frag}
/-! ### str(an int), int(a text) -/
def strI (i : Int) : Str := Str.ofString (toString i)
theorem u_strI {i : Int} : U1 (fun xs H Q => ∃ i : Int, xs = [.int i] ∧ i.natAbs.log2 < 1920 ∧ Q (.str (toString i)) H) (sv (tI (K := K)) i) (i.natAbs.log2 < 1920 ∧ PySem.PyData.strOk (strI i) = true) (sv (tS (K := K)) (strI i)) := fun F H v s h c Q k =>
  ⟨i, by rw [show v = .int i from h], c.1, k _ F H (Grow.refl s) ⟨rfl, c.2⟩⟩
def intS (x : Str) : Int := (PySem.intText? x).getD 0
theorem u_intS {x : Str} : U1 (fun xs H Q => ∃ a n, xs = [.str a] ∧ PySem.intText? a = some n ∧ a.length ≤ 640 ∧ Q (.int n) H) (sv (tS (K := K)) x) ((PySem.intText? x).isSome = true ∧ x.length ≤ 640) (sv (tI (K := K)) (intS x)) := fun F H v s h c Q k => by
  obtain ⟨n, hn⟩ := Option.isSome_iff_exists.mp c.1
  exact ⟨x, n, by rw [h.1], hn, c.2, k _ F H (Grow.refl s) (by show V.int n = V.int (intS x); unfold intS; rw [hn]; rfl)⟩
end
section
variable {X : Cx} {Y : Ec X.K} {ρ : List (Slot X.K)} {cs : List (Cell X.K)} {A α β γ δ μ ν : Type} {pos : Pos} {e : Expr}
/-! ### a list without a None -/
theorem rl_unO {T : Ty X.K α} [Inhabited α] {F : Hp} : ∀ {vs : List V} {xs : List (Option α)}, Rl (tO T) F vs xs → (∀ x ∈ xs, x.isSome = true) → Rl T F vs (xs.map fun x => x.getD default)
  | _, _, .nil, _ => .nil
  | _, none :: xs, .cons r t, h => nomatch h none List.mem_cons_self
  | _, some x :: xs, .cons r t, h => .cons r (rl_unO t fun y hy => h y (List.mem_cons_of_mem _ hy))
theorem PK.unOL {T : Ty X.K α} [Inhabited α] {xs : List (Option α)} {P : Prop} (h : PK X e ρ cs (tL (tO T)) xs P) : PK X e ρ cs (tL T) (xs.map fun x => x.getD default) (P ∧ ∀ x ∈ xs, x.isSome = true) := fun F σ H ok p Q k =>
  h F σ H ok p.1 Q fun v F' H' g ⟨a, vs, e1, h1, r, z⟩ => k v F' H' g ⟨a, vs, e1, h1, rl_unO r p.2, z⟩
/-! ### f(l, ..), l an owned list; what it gives is a new one -/
def Con.o1m {K : PySem.W.Frag} (T0 : Ty K δ) (ins : α → List (Slot K)) (T1 : Ty K γ) (pre : List δ → α → Prop) (post : List δ → α → List γ → List δ → Prop) : Con K (Addr × List δ × α) ((Addr × List γ) × List δ) Addr where
  ins := fun a => .val tR a.1 :: ins a.2.2
  cin := fun a => [⟨a.1, cL T0 a.2.1⟩]
  wp := fun a φ _ => pre a.2.1 a.2.2 ∧ ∀ l r c, post a.2.1 a.2.2 r c → φ ((l, r), c)
  T := tR
  rv := fun r => r.1.1
  cout := fun a r => [⟨a.1, cL T0 r.2⟩, ⟨r.1.1, cL T1 r.1.2⟩]
  mono := fun _ _ _ _ _ h _ w => ⟨w.1, fun l r c e => h ((l, r), c) (w.2 l r c e)⟩
theorem ek_o1m {k : Nat} {f : Addr} {fd : FuncData} {ps : List Str} {nm : Str} {p : Pos} {es : List Expr} {T0 : Ty X.K δ} {ins : α → List (Slot X.K)} {T1 : Ty X.K γ} {pre : List δ → α → Prop} {post : List δ → α → List γ → List δ → Prop} {Ts : Tys X.K α} {vl : μ → α} {cs1 : μ → List (Cell X.K)} {M : (μ → Prop) → Prop} {l : Addr} {c : μ → List δ} {cs3 : μ × List δ → List (Cell X.K)} (j : Nat)
    (F : FnOk X.prog X.w X.K X.mg X.base (L2.CX X.prog X.w) k f fd ps (Con.o1m T0 ins T1 pre post).sp) (hs : Sl Ts ins) (hr : Room k X.A) (hm : X.mg nm = some (.ref f)) (hk : PySem.W.keepIn X.K (.ref f) = true) (hb : Binds X.K fd ps [])
    (hl : PK X e ρ cs tR l True) (ha : AK X Y es ρ cs Ts vl cs1 M) (hc : ∀ y, (cs1 y)[j]? = some ⟨l, cL T0 (c y)⟩) (h3 : ∀ z, cs3 z = (cs1 z.1).set j ⟨l, cL T0 z.2⟩ := by intro _; rfl) (hg : Gl X nm := by rfl) (hdb : (nm == ("__debug__" : Str)) = false := by decide) (he : starEach (e :: es) X.env = (false, eval e X.env) :: starEach es X.env := by rfl) (hpl : (backTo pos (starEach es X.env)).any (·.1) = false := by rfl) :
    EK X Y (.Call (.Name nm p) (e :: es) [] pos) ρ cs tR (fun y : (μ × List δ) × Addr × List γ => y.2.1) (fun y => cs3 y.1 ++ [⟨y.2.1, cL T1 y.2.2⟩]) (fun φ => M fun y => pre (c y) (vl y) ∧ ∀ a r w, post (c y) (vl y) r w → φ ((y, w), a, r)) := fun F0 σ H ok xh φ q Q kk => by
  refine we (pe_call F hr hg hm hk hb .nil (E := E0) (passL) (pa_cons pe_w pa_w he) hdb he hpl) ?_
  refine hl F0 σ H ok.w trivial _ fun v F1 H1 g1 ev => ?_
  have m0 := ok.grow g1
  refine ha F1 σ H1 (ok.mv m0) (xh.mv m0) _ q _ fun y vs F2 H2 m2 r2 q2 => ?_
  have ok2 := (ok.mv m0).mv m2
  have hv : v = .ref l := ev
  subst hv
  refine ⟨(l, c y, vl y), F2, ?_, m2.fh, fun c0 h0 => ?_, by simp [Con.o1m], q2.1, fun a r w hp v F3 H3 m3 rr => ?_⟩
  · rw [List.append_nil]
    exact .cons ⟨_, rfl, rfl⟩ (hs F2 vs (vl y) r2)
  · have : c0 = ⟨l, cL T0 (c y)⟩ := by simpa [Con.o1m] using h0
    subst this
    exact ok2.cell _ (List.mem_of_getElem? (hc y))
  · have m4 := mv_one (c' := ⟨l, cL T0 w⟩) (more := [⟨a, cL T1 r⟩]) ok2 (hc y) rfl m3
    rw [← h3 (y, w)] at m4
    exact kk ((y, w), a, r) v F3 H3 ((m0.trans m2).trans m4) rr (q2.2 a r w hp)
section
variable {fl : Hp} {B : Hb X.K} {rest : List Stmt} {D : Ends}
theorem sk_retM {T0 : Ty X.K δ} {ins : α → List (Slot X.K)} {T1 : Ty X.K γ} {pre : List δ → α → Prop} {post : List δ → α → List γ → List δ → Prop} {a : Addr × List δ × α} {ψ : (Addr × List γ) × List δ → Prop} {n b' c' : L2.St → Hp → Prop} {x : Addr} {z : List γ} {w : List δ} {P : Prop} {r : List Stmt} (he : PK X e ρ cs tR x P) (hc : cs = [⟨a.1, cL T0 w⟩, ⟨x, cL T1 z⟩]) :
    SK X B Y fl (.Return (some e) pos :: r) ρ cs { retD (Con.o1m T0 ins T1 pre post) a B ψ with nx := n, bk := b', ct := c' } (P ∧ ψ ((x, z), w)) := sk_ret (C := Con.o1m T0 ins T1 pre post) ((x, z), w) he rfl hc.symm
end
end
section
variable {K : PySem.W.Frag}
theorem fOI : FT (tO (tI (K := K))) := ⟨fun F v x h => by
  cases x with
  | none =>
    have h : v = .non := h
    subst h
    rfl
  | some i =>
    have h : v = .int i := h
    subst h
    rfl, fun F v w x y h1 h2 => by
  cases x with
  | none =>
    have h1 : v = .non := h1
    subst h1
    cases y with
    | none =>
      have h2 : w = .non := h2
      subst h2
      rfl
    | some j =>
      have h2 : w = .int j := h2
      subst h2
      rfl
  | some i =>
    have h1 : v = .int i := h1
    subst h1
    cases y with
    | none =>
      have h2 : w = .non := h2
      subst h2
      rfl
    | some j =>
      have h2 : w = .int j := h2
      subst h2
      show (i == j) = _
      rw [Bool.beq_eq_decide_eq]
      exact decide_eq_decide.mpr ⟨fun e => by rw [e], fun e => Option.some.inj e⟩⟩
end
/-! ### a def whose value is told by a promise -/
end MD
namespace MD
open PySem PySem.Spec PyProof.Rows L2
end MD
namespace KP
open PySem PySem.Spec PyProof.Rows L2 MD
/-! ### texts of sharings -/
def line (r : SRow) : Str := Str.join " " (r.1 :: r.2)
theorem join_mem {sep : Str} : ∀ {ps : List Str} {c : Nat}, c ∈ (Str.join sep ps).cps.toList → c ∈ sep.cps.toList ∨ ∃ p ∈ ps, c ∈ p.cps.toList
  | [], _, h => by cases h
  | [x], c, h => .inr ⟨x, List.mem_singleton.mpr rfl, h⟩
  | x :: y :: r, c, h => by
    have e : Str.join sep (x :: y :: r) = x ++ sep ++ Str.join sep (y :: r) := rfl
    rw [e, app_cps, app_cps] at h
    rcases List.mem_append.mp h with h | h
    · rcases List.mem_append.mp h with h | h
      · exact .inr ⟨x, List.mem_cons_self, h⟩
      · exact .inl h
    · rcases join_mem h with h | ⟨p, hp, hc⟩
      · exact .inl h
      · exact .inr ⟨p, List.mem_cons_of_mem _ hp, hc⟩
theorem split_lines {ls : List Str} (hne : ls ≠ []) (h : ∀ l ∈ ls, (10 : Nat) ∉ l.cps.toList) : Txt.split (Str.join "\n" ls) "\n" = ls := by
  have := TL.split_join (y := "\n") (s := 10) (S := []) (by decide +kernel) (by decide +kernel) hne fun p hp => h p hp
  rw [show Txt.join "\n" ls = Str.join "\n" ls from PySem.StrLaws.glued_eq_join _ _] at this
  exact this
theorem sum_le {α : Type} {f : α → Nat} {n : Nat} : ∀ {xs : List α}, (∀ x ∈ xs, f x ≤ n) → (xs.map f).sum ≤ n * xs.length
  | [], _ => Nat.zero_le _
  | x :: xs, h => by
    have ih := sum_le (f := f) (n := n) (xs := xs) fun y hy => h y (List.mem_cons_of_mem _ hy)
    have := h x List.mem_cons_self
    rw [List.map_cons, List.sum_cons, List.length_cons]
    have : n * (xs.length + 1) = n * xs.length + n := Nat.mul_succ _ _
    omega
end KP
namespace MD
open PySem PySem.Spec PyProof.Rows L2
section
variable {X : Cx} {fl : Hp} {B : Hb X.K} {Y : Ec X.K} {ρ : List (Slot X.K)} {cs : List (Cell X.K)} {α μ : Type} {pos : Pos} {rest : List Stmt} {D : Ends} {e : Expr}
/-- l[i], l[j] = e, e two things -/
theorem sk_setIx2 {o1 o2 i1 i2 : Expr} {T : Ty X.K α} {x : α × α} {l : Addr} {xs : List α} {v1 v2 : Int} {P0 P1 P2 P3 P4 : Prop} {φ : List α → Prop} {p1 p2 pt : Pos} {k0 : Nat} (hcm : X.calm = true) (j : Nat) (he : PK X e ρ cs (tT (tsC T (ts1 T))) x P0) (ho1 : PK X o1 ρ cs tR l P1)
    (hi1 : PK X i1 ρ cs tI v1 P2) (hc : cs[j]? = some ⟨l, cL T xs⟩) (ho2 : ∀ z, PK X o2 ρ (cs.set j ⟨l, cL T z⟩) tR l P3) (hi2 : ∀ z, PK X i2 ρ (cs.set j ⟨l, cL T z⟩) tI v2 P4) (k : ∀ z, SK X B Y fl rest ρ (cs.set j ⟨l, cL T z⟩) D (φ z))
    (ha1 : ∀ v, assign (.Subscript o1 i1 p1) X.env v = (do
      let ov ← holding [v] (eval o1 X.env)
      let iv ← holding [v, ov] (eval i1 X.env)
      standAt p1
      holding [v, ov, iv] (setItem ov iv v)
      release [v, ov, iv] []) := by intro _; rfl)
    (ha2 : ∀ v, assign (.Subscript o2 i2 p2) X.env v = (do
      let ov ← holding [v] (eval o2 X.env)
      let iv ← holding [v, ov] (eval i2 X.env)
      standAt p2
      holding [v, ov, iv] (setItem ov iv v)
      release [v, ov, iv] []) := by intro _; rfl)
    (g1 : (assignEach [.Subscript o1 i1 p1, .Subscript o2 i2 p2] X.env).map (·.2) = assign (.Subscript o1 i1 p1) X.env :: (assignEach [.Subscript o2 i2 p2] X.env).map (·.2) := by rfl)
    (g2 : (assignEach [.Subscript o2 i2 p2] X.env).map (·.2) = assign (.Subscript o2 i2 p2) X.env :: (assignEach [] X.env).map (·.2) := by rfl)
    (hn : (assignEach [.Subscript o1 i1 p1, .Subscript o2 i2 p2] X.env).length = 2 := by rfl) (hst : (assignEach [.Subscript o1 i1 p1, .Subscript o2 i2 p2] X.env).findIdx? (·.1) = none := by rfl)
    (hs : swapsWithSole [.Tuple [.Subscript o1 i1 p1, .Subscript o2 i2 p2] k0 pt] e pos.line X.env = pure false := by rfl) (hw : swappedStores [.Tuple [.Subscript o1 i1 p1, .Subscript o2 i2 p2] k0 pt] e X.env = pure none := by rfl)
    (h1 : (assignEach [.Tuple [.Subscript o1 i1 p1, .Subscript o2 i2 p2] k0 pt] X.env).map (·.2) = [assign (.Tuple [.Subscript o1 i1 p1, .Subscript o2 i2 p2] k0 pt) X.env] := by rfl) :
    SK X B Y fl (.Assign [.Tuple [.Subscript o1 i1 p1, .Subscript o2 i2 p2] k0 pt] e pos :: rest) ρ cs D (P0 ∧ P1 ∧ P2 ∧ IxW xs v1 ∧ P3 ∧ P4 ∧ IxW xs v2 ∧ ∀ z, z = (xs.set v1.toNat x.1).set v2.toNat x.2 → φ z) := fun F σ H ok p W tk hx' => by
  refine wb (pss_cons (ps_asg pe_w (pg_tup hcm (pgs_cons (pg_sub pe_w pe_w set_list ha1) (pgs_cons (pg_sub pe_w pe_w set_list ha2) pgs_nil g2) g1) hn hst) hs hw h1) pss_w) ?_
  refine he F σ H ok.c.w p.1 _ fun v F1 H1 gg1 t => ?_
  have ok1 := ok.to (ok.c.grow gg1)
  obtain ⟨a, us, ev, hq, r⟩ := t
  obtain ⟨u1, r1, er, ra, rb⟩ := r
  obtain ⟨u2, er2, rb⟩ := rb
  subst er2
  subst er
  subst ev
  refine ⟨a, _, rfl, SqT.of (ok1.mv.fh _ _ hq), rfl, u1, [u2], rfl, ?_⟩
  refine ho1 F1 σ H1 ok1.c.w p.2.1 _ fun w1 F2 H2 gg2 rr2 => ?_
  have ok2 := ok1.to (ok1.c.grow gg2)
  refine hi1 F2 σ H2 ok2.c.w p.2.2.1 _ fun w2 F3 H3 gg3 rr3 => ?_
  have ok3 := ok2.to (ok2.c.grow gg3)
  obtain ⟨_, ob, hob, vs, e1, rl, z⟩ := ok3.c.cell _ (List.mem_of_getElem? hc)
  subst e1
  have hl := Rl.length rl
  have hix : ixN vs.length v1 = some v1.toNat := by
    unfold ixN
    rw [if_pos p.2.2.2.1.1, if_pos (by rw [hl]; exact p.2.2.2.1.2)]
  refine ⟨l, vs, v1, v1.toNat, rr2, rr3, hob, hix, ?_⟩
  have ra3 := T.mono (gg2.ff.trans gg3.ff) ra
  have ok4 := ok3.to (mv_upd (k := cL T (xs.set v1.toNat x.1)) ok3.c hc ⟨_, rfl, Rl.set rl ra3, by rw [List.length_set]; exact z⟩)
  refine ⟨u2, [], rfl, ?_⟩
  refine ho2 _ F3 σ _ ok4.c.w p.2.2.2.2.1 _ fun w3 F5 H5 gg5 rr5 => ?_
  have ok5 := ok4.to (ok4.c.grow gg5)
  refine hi2 _ F5 σ H5 ok5.c.w p.2.2.2.2.2.1 _ fun w4 F6 H6 gg6 rr6 => ?_
  have ok6 := ok5.to (ok5.c.grow gg6)
  have hj : j < cs.length := (List.getElem?_eq_some_iff.mp hc).1
  have hc6 : (cs.set j ⟨l, cL T (xs.set v1.toNat x.1)⟩)[j]? = some ⟨l, cL T (xs.set v1.toNat x.1)⟩ := by rw [List.getElem?_set_self hj]
  obtain ⟨_, ob2, hob2, vs2, e2, rl2, z2⟩ := ok6.c.cell _ (List.mem_of_getElem? hc6)
  subst e2
  have hl2 := Rl.length rl2
  rw [List.length_set] at hl2
  have hix2 : ixN vs2.length v2 = some v2.toNat := by
    unfold ixN
    rw [if_pos p.2.2.2.2.2.2.1.1, if_pos (by rw [hl2]; exact p.2.2.2.2.2.2.1.2)]
  refine ⟨l, vs2, v2, v2.toNat, rr5, rr6, hob2, hix2, rfl, ?_⟩
  have rb6 := T.mono (((gg2.ff.trans gg3.ff).trans gg5.ff).trans gg6.ff) rb
  have ok7 := ok6.to (mv_upd (k := cL T ((xs.set v1.toNat x.1).set v2.toNat x.2)) ok6.c hc6 ⟨_, rfl, Rl.set rl2 rb6, by rw [List.length_set]; exact z2⟩)
  rw [List.set_set] at ok7
  exact k _ F6 σ _ ok7 (p.2.2.2.2.2.2.2 _ rfl) W tk hx'
/-- a, b = x, y: plain local names -/
theorem sk_par {β : Type} {i j : Nat} {x y : Str} {a b : Expr} {px py pt : Pos} {kt k2 : Nat} {pt2 : Pos} {T1 : Ty X.K α} {T2 : Ty X.K β} {vl : μ → α × β} {cs' : μ → List (Cell X.K)} {M : (μ → Prop) → Prop} {φ : μ → α × β → Prop} (hc : X.calm = true) (hN : X.N.Nodup)
    (he : AK X Y [a, b] ρ cs (tsC T1 (ts1 T2)) vl cs' M) (k : ∀ y z, SK X B Y fl rest ((ρ.set i (.val T1 z.1)).set j (.val T2 z.2)) (cs' y) D (φ y z)) (hi : X.N[i]? = some x := by rfl) (hj : X.N[j]? = some y := by rfl) (hij : i ≠ j := by decide)
    (hx : X.env.scope.names.lookup x = some .local := by rfl) (hy : X.env.scope.names.lookup y = some .local := by rfl)
    (hw : swappedStores [.Tuple [.Name x px, .Name y py] kt pt] (.Tuple [a, b] k2 pt2) X.env = pure (some [x, y]) := by rfl)
    (hs : swapsWithSole [.Tuple [.Name x px, .Name y py] kt pt] (.Tuple [a, b] k2 pt2) pos.line X.env = pure false := by rfl) :
    SK X B Y fl (.Assign [.Tuple [.Name x px, .Name y py] kt pt] (.Tuple [a, b] k2 pt2) pos :: rest) ρ cs D (M fun y => ∀ z, z = vl y → φ y z) := fun F σ H ok p W tk hx' => by
  refine wb (pss_cons (ps_par hc hN hi hj hij hx hy pa_w hw hs) pss_w) ?_
  refine he F σ H ok.c (xh_of ok tk hx') _ p _ fun y vs F1 H1 m r q => ?_
  have ok1 := ok.to m
  obtain ⟨u1, r1, er, ra, u2, er2, rb⟩ := r
  subst er2
  subst er
  refine ⟨u1, u2, rfl, ?_⟩
  have h1 := ok1.env.set (R := Slot.ok F1) (x := .val T1 (vl y).1) (u := some u1) ⟨u1, rfl, ra⟩ i
  have h2 := h1.set (R := Slot.ok F1) (x := .val T2 (vl y).2) (u := some u2) ⟨u2, rfl, rb⟩ j
  exact k y (vl y) F1 _ H1 ⟨h2, ok1.mv, ok1.flo⟩ (q _ rfl) W tk hx'
/-- f() -/
theorem pk_fn0 {γ : Type} {n : Nat} {f : Addr} {fd : FuncData} {ps : List Str} {nm : Str} {p : Pos} {ins : Unit → List (Slot X.K)} {T : Ty X.K γ} {pre : Unit → Prop} {g : Unit → γ}
    (F : FnOk X.prog X.w X.K X.mg X.base (L2.CX X.prog X.w) n f fd ps (Con.fn ins T pre g).sp) (h0 : ins () = []) (hr : Room n X.A) (hm : X.mg nm = some (.ref f)) (hk : PySem.W.keepIn X.K (.ref f) = true) (hb : Binds X.K fd ps [])
    (hg : Gl X nm := by rfl) (hdb : (nm == ("__debug__" : Str)) = false := by decide) :
    PK X (.Call (.Name nm p) [] [] pos) ρ cs T (g ()) (pre ()) := fun F0 σ H ok q Q kk => by
  refine we (pe_call0 F hr hg hm hk hb .nil (E := E0) (passL) hdb) ?_
  refine ⟨(), F0, ?_, ok.same, fun c hc => absurd hc (by simp [Con.fn]), by simp [Con.fn], q, fun r er v F2 H2 m rr => ?_⟩
  · show Prd _ (ins ()) ([] ++ [])
    rw [h0]
    exact .nil
  subst er
  exact kk v F2 H2 ⟨m.ff, m.fh, fun b o e => m.kp b o e fun c hc => absurd hc (by simp [Con.fn]), m.fr⟩ rr
theorem pt_ninSign {a b : Expr} {x z : Str} {P1 P2 : Prop} (ha : PK X a ρ cs tS x P1) (hb : PK X b ρ cs tS z P2) (hm : behindInMarks .NotIn b = false := by first | exact nomark _ | rfl) : PTK X (.Compare a [.NotIn] [b] pos) ρ cs (!decide (x ∈ signs z)) (P1 ∧ P2 ∧ ∃ c, x = ⟨#[c]⟩) := fun F σ H ok p Q k => by
  refine wt (pt_cmpR op_notIn_sign pe_w pe_w hm) ?_
  refine ha F σ H ok p.1 _ fun v F1 H1 g1 r1 => ?_
  refine hb F1 σ H1 (ok.grow g1) p.2.1 _ fun w F2 H2 g2 r2 => ?_
  obtain ⟨c, hc⟩ := p.2.2
  refine ⟨c, z, by rw [r1.1, hc], r2.1, ?_⟩
  rw [signs_in hc]
  exact ⟨_, rfl, k F2 H2 (g1.trans g2)⟩
/-- l[i] = e, both told with effects -/
theorem sk_setIxF {o ie : Expr} {T : Ty X.K α} {vl : μ → α} {cs' : μ → List (Cell X.K)} {M : (μ → Prop) → Prop} {ν : Type} {cs2 : μ → ν → List (Cell X.K)} {M2 : μ → (ν → Prop) → Prop} {l : Addr} {xs : μ → ν → List α} {vi : μ → ν → Int} {P1 : μ → Prop} {φ : μ → ν → List α → Prop} {p1 : Pos} (j : Nat) (he : EK X Y e ρ cs T vl cs' M) (ho : ∀ y, PK X o ρ (cs' y) tR l (P1 y))
    (hi : ∀ y, EK X Y ie ρ (cs' y) tI (vi y) (cs2 y) (M2 y)) (hc : ∀ y u, (cs2 y u)[j]? = some ⟨l, cL T (xs y u)⟩) (k : ∀ y u z, SK X B Y fl rest ρ ((cs2 y u).set j ⟨l, cL T z⟩) D (φ y u z))
    (ha : ∀ v, assign (.Subscript o ie p1) X.env v = (do
      let ov ← holding [v] (eval o X.env)
      let iv ← holding [v, ov] (eval ie X.env)
      standAt p1
      holding [v, ov, iv] (setItem ov iv v)
      release [v, ov, iv] []) := by intro _; rfl) (hs : swapsWithSole [.Subscript o ie p1] e pos.line X.env = pure false := by rfl) (hw : swappedStores [.Subscript o ie p1] e X.env = pure none := by rfl)
    (h1 : (assignEach [.Subscript o ie p1] X.env).map (·.2) = [assign (.Subscript o ie p1) X.env] := by rfl) :
    SK X B Y fl (.Assign [.Subscript o ie p1] e pos :: rest) ρ cs D (M fun y => P1 y ∧ M2 y fun u => IxW (xs y u) (vi y u) ∧ ∀ z, z = (xs y u).set (vi y u).toNat (vl y) → φ y u z) := fun F σ H ok p W tk hx' => by
  refine wb (pss_cons (ps_asg pe_w (pg_sub pe_w pe_w set_list ha) hs hw h1) pss_w) ?_
  refine he F σ H ok.c (xh_of ok tk hx') _ p _ fun y v F1 H1 g1 t q1 => ?_
  have ok1 := ok.to g1
  refine ho y F1 σ H1 ok1.c.w q1.1 _ fun v2 F2 H2 g2 r2 => ?_
  have ok2 := ok1.to (ok1.c.grow g2)
  refine hi y F2 σ H2 ok2.c (xh_of ok2 tk hx') _ q1.2 _ fun u v3 F3 H3 m3 r3 q => ?_
  have ok3 := ok2.to m3
  obtain ⟨_, ob, hob, vs, e1, rl, z⟩ := ok3.c.cell _ (List.mem_of_getElem? (hc y u))
  subst e1
  have hix : ixN vs.length (vi y u) = some (vi y u).toNat := by
    unfold ixN
    rw [if_pos q.1.1, if_pos (by rw [Rl.length rl]; exact q.1.2)]
  refine ⟨l, vs, vi y u, (vi y u).toNat, r2, r3, hob, hix, ?_⟩
  exact k y u _ F3 σ _ (ok3.to (mv_upd (k := cL T ((xs y u).set (vi y u).toNat (vl y))) ok3.c (hc y u) ⟨_, rfl, Rl.set rl (T.mono (g2.ff.trans m3.ff) t), by rw [List.length_set]; exact z⟩)) (q.2 _ rfl) W tk hx'
end
/-- repr of plain data that is a tuple -/
theorem u_reprA {K : PySem.W.Frag} {x : PyData} : U1 (fun xs H Q => ∃ a d, xs = [.ref a] ∧ Dp K H (.ref a) d ∧ d.showable = true ∧ d.hasDict = false ∧ d.depth ≤ 64 ∧ d.shown.length ≤ sizeLine ∧ Q (.str d.shown) H) (sv (tA (K := K)) x)
    ((∃ xs, x = .tuple xs) ∧ x.showable = true ∧ x.hasDict = false ∧ x.depth ≤ 64 ∧ x.shown.length ≤ sizeLine) (sv (tSx (K := K)) x.shown) := fun F H v s h c Q k => by
  obtain ⟨⟨xs, ex⟩, h1, h2, h3, h4⟩ := c
  have hd := h.1 H s
  have ⟨a, ea⟩ : ∃ a, v = .ref a := by
    rw [ex] at hd
    cases hd
    exact ⟨_, rfl⟩
  subst ea
  exact ⟨a, x, rfl, hd, h1, h2, h3, h4, k _ F H (Grow.refl s) rfl⟩
end MD
namespace MD
open PySem PySem.Spec PyProof.Rows L2
/-- the written texts of a list -/
def strsOf : List Expr → Option (List Str)
  | [] => some []
  | .Constant (.str s) _ _ :: es => (strsOf es).map (s :: ·)
  | _ => none
section
variable {X : Cx} {ρ : List (Slot X.K)} {cs : List (Cell X.K)}
theorem pl_strs : ∀ {es : List Expr} {xs : List Str}, strsOf es = some xs → xs.all PySem.PyData.strOk = true → PAK X es ρ cs (tsL tS) xs True
  | [], xs, h, _ => by
    cases h
    exact pl_0
  | .Constant (.str s) j p :: es, xs, h, ok => by
    have h : (strsOf es).map (s :: ·) = some xs := h
    obtain ⟨ys, h1, h2⟩ := Option.map_eq_some_iff.mp h
    subst h2
    rw [List.all_cons, Bool.and_eq_true] at ok
    have hr := pl_strs h1 ok.2
    have := pl_C (pk_str (j := j) (pos := p) ok.1) hr rfl
    exact fun F σ H o _ Q k => this F σ H o ⟨trivial, trivial⟩ Q k
end
end MD
namespace K13
open PySem PySem.Spec PyProof.Rows L2 MD KP
def topS (i : Nat) : Stmt := PySem.Challenge.pw_meetdesks_k13_texts_of_no_machine.main.body.getD i (.Pass ⟨0, 0, 0, 0⟩)
structure Bs (mg : Str → Option Value) : Prop where
  m_len : mg "len" = none
  b_len : bootBuiltins "len" = some (.builtin "len")
  m_range : mg "range" = none
  b_range : bootBuiltins "range" = some (.type "range")
  m_sorted : mg "sorted" = none
  b_sorted : bootBuiltins "sorted" = some (.builtin "sorted")
  m_set : mg "set" = none
  b_set : bootBuiltins "set" = some (.type "set")
  m_tuple : mg "tuple" = none
  b_tuple : bootBuiltins "tuple" = some (.type "tuple")
  m_list : mg "list" = none
  b_list : bootBuiltins "list" = some (.type "list")
  m_isinstance : mg "isinstance" = none
  b_isinstance : bootBuiltins "isinstance" = some (.builtin "isinstance")
  m_all : mg "all" = none
  b_all : bootBuiltins "all" = some (.builtin "all")
  m_int : mg "int" = none
  b_int : bootBuiltins "int" = some (.type "int")
  m_max : mg "max" = none
  b_max : bootBuiltins "max" = some (.builtin "max")
  m_min : mg "min" = none
  b_min : bootBuiltins "min" = some (.builtin "min")
  m_str : mg "str" = none
  b_str : bootBuiltins "str" = some (.type "str")
  m_enumerate : mg "enumerate" = none
  b_enumerate : bootBuiltins "enumerate" = some (.type "enumerate")
  m_bool : mg "bool" = none
  b_bool : bootBuiltins "bool" = some (.type "bool")
  m_zip : mg "zip" = none
  b_zip : bootBuiltins "zip" = some (.type "zip")
  m_repr : mg "repr" = none
  b_repr : bootBuiltins "repr" = some (.builtin "repr")
  g_LETTERS : ∃ t, mg "LETTERS" = some (.str (Str.ofString "abcdefghijklmnopqrstuvwxyz") t)
  g_FIGURES_words : ∃ t, mg "FIGURES_words" = some (.str (Str.ofString "0123456789") t)
  g_FIGURES_machinetext : ∃ t, mg "FIGURES_machinetext" = some (.int (3) t)
structure Xs (K : PySem.W.Frag) (mg : Str → Option Value) (xa : XA) (C_MeetError : Addr) : Prop where
  c_Twice : XcT K mg "Twice" xa.Twice
  c_BadStep : XcT K mg "BadStep" xa.BadStep
  c_BadGood : XcT K mg "BadGood" xa.BadGood
  c_NoText : XcT K mg "NoText" xa.NoText
  g_MeetError : mg "MeetError" = some (.ref C_MeetError)
  g_BadGood : mg "BadGood" = some (.ref xa.BadGood)
  g_BadStep : mg "BadStep" = some (.ref xa.BadStep)
  g_Twice : mg "Twice" = some (.ref xa.Twice)
  g_NoText : mg "NoText" = some (.ref xa.NoText)
  n_NoText_line : PySem.W.findIn K (.ref xa.NoText) "line" = some none
  x_NoText_NoText : PySem.W.exmOne K (.ref xa.NoText) (.ref xa.NoText) = some true
  n_Twice_name : PySem.W.findIn K (.ref xa.Twice) "name" = some none
  x_Twice_Twice : PySem.W.exmOne K (.ref xa.Twice) (.ref xa.Twice) = some true
  x_Twice_NoText : PySem.W.exmOne K (.ref xa.Twice) (.ref xa.NoText) = some false
  n_BadStep_state : PySem.W.findIn K (.ref xa.BadStep) "state" = some none
  n_BadStep_letter : PySem.W.findIn K (.ref xa.BadStep) "letter" = some none
  x_BadStep_BadStep : PySem.W.exmOne K (.ref xa.BadStep) (.ref xa.BadStep) = some true
  x_BadStep_Twice : PySem.W.exmOne K (.ref xa.BadStep) (.ref xa.Twice) = some false
  x_BadStep_NoText : PySem.W.exmOne K (.ref xa.BadStep) (.ref xa.NoText) = some false
  n_BadGood_state : PySem.W.findIn K (.ref xa.BadGood) "state" = some none
  x_BadGood_BadGood : PySem.W.exmOne K (.ref xa.BadGood) (.ref xa.BadGood) = some true
  x_BadGood_BadStep : PySem.W.exmOne K (.ref xa.BadGood) (.ref xa.BadStep) = some false
  x_BadGood_Twice : PySem.W.exmOne K (.ref xa.BadGood) (.ref xa.Twice) = some false
  x_BadGood_NoText : PySem.W.exmOne K (.ref xa.BadGood) (.ref xa.NoText) = some false
abbrev Ma := List Str × List (List Int) × List Int
def fd_Machine {K : PySem.W.Frag} (x : Ma) : List (Str × MD.Slot K) := [("letters", .val (tUF tS) x.1), ("table", .val (tU (tU tI)) x.2.1), ("good", .val (tU tI) x.2.2)]
def ty_Machine {K : PySem.W.Frag} (C : Addr) : Ty K Ma := tIn C fd_Machine
structure Cl_Machine (K : PySem.W.Frag) (C : Addr) : Prop where
  c : Cls K C
  n_letters : NoAttr K C "letters"
  n_table : NoAttr K C "table"
  n_good : NoAttr K C "good"
structure TabOk (ls : List Str) (tab : List (List Int)) : Prop where
  ne : tab ≠ []
  few : tab.length ≤ 24
  lne : ls ≠ []
  l6 : ls.length ≤ 6
  nd : ls.Nodup
  w : ∀ s ∈ ls, Word s
  len : ∀ r ∈ tab, r.length = ls.length
  goal : ∀ r ∈ tab, ∀ g ∈ r, 0 ≤ g ∧ g < tab.length
/-- the good ones, rising -/
def GoodOk (tab : List (List Int)) (good : List Int) : Prop := good = (rng 0 (tab.length : Int)).filter fun k => decide (k ∈ good)
def MaOk (m : Ma) : Prop := TabOk m.1 m.2.1 ∧ GoodOk m.2.1 m.2.2
def FIG : Str := "0123456789"
def pre_all_of (x : Str × Str) : Prop := x.1.length ≤ 10000
def f_all_of (x : Str × Str) : Bool := (MD.signs x.1).all fun c => decide (c ∈ MD.signs x.2)
def pre_lall_of (x : Str × Str) : Prop := x.1.length ≤ 10000
def f_lall_of (x : Str × Str) : Bool := f_all_of x
def pre_is_name (x : Str) : Prop := x.length ≤ 10000
def f_is_name (x : Str) : Bool := decide (1 ≤ (x.length : Int)) && decide ((x.length : Int) ≤ 8) && f_all_of (x, abc)
def pre_lis_name (x : Str) : Prop := x.length ≤ 10000
def f_lis_name (x : Str) : Bool := f_is_name x
/-- a word of one to three figures, none of them a nought ahead -/
def isNum (w : Str) : Bool := (decide (1 ≤ (w.length : Int)) && decide ((w.length : Int) ≤ 3)) && f_all_of (w, FIG) && !(decide (1 < (w.length : Int)) && decide (pyIx (MD.signs w) 0 = Str.ofString "0"))
def pre_is_number (x : Str) : Prop := x.length ≤ 10000
def f_is_number (x : Str) : Bool := isNum x
def pre_number_of (x : Str × Int) : Prop := x.2 = 3 ∧ x.1.length ≤ 10000
def f_number_of (x : Str × Int) : Option Int := if isNum x.1 then some (intS x.1) else none
/-- a state's row that is one, for so many letters -/
def rowOk (n : Nat) (ws : List Str) : Bool := decide (ws.headD default ∈ [Str.ofString "good", Str.ofString "plain"]) && decide (ws.tail.length = n) && ws.tail.all isNum
def pre_steps_in (x : Str × Int) : Prop := 0 ≤ x.2 ∧ x.1.length ≤ 10000
def f_steps_in (x : Str × Int) : Option (Str × List Int) := if rowOk x.2.toNat (Txt.split x.1 " ") then some ((Txt.split x.1 " ").headD default, (Txt.split x.1 " ").tail.map intS) else none
def headOk (ws : List Str) : Bool := decide (ws.headD default = Str.ofString "letters") && !decide (ws.tail = []) && ws.tail.all f_is_name
def badRow (n : Int) (k : Nat) : List (List Str) → Option Int
  | [] => none
  | ws :: r => if rowOk k ws then badRow (n + 1) k r else some n
def wordsT (x : Str) : List (List Str) := (Txt.split x "\n").map fun r => Txt.split r " "
def goods (rs : List (List Str)) : List Int := (rng 0 (rs.length : Int)).filter fun k => decide ((pyIx rs k).headD default = Str.ofString "good")
def tabOf (rs : List (List Str)) : List (List Int) := rs.map fun ws => ws.tail.map intS
def dupFrom (seen : List Str) : List Str → Option Str
  | [] => none
  | x :: xs => if x ∈ seen then some x else dupFrom (seen ++ [x]) xs
def stepIn (n s : Int) : List (Str × Int) → Option (Int × Str)
  | [] => none
  | p :: r => if decide (p.2 < 0) || decide (n ≤ p.2) then some (s, p.1) else stepIn n s r
def stepFrom (n : Int) (ls : List Str) (s : Int) : List (List Int) → Option (Int × Str)
  | [] => none
  | r :: rs => match stepIn n s (ls.zip r) with
    | some e => some e
    | none => stepFrom n ls (s + 1) rs
def pre_Machine_init (x : Ma) : Prop := GoodOk x.2.1 x.2.2 ∧ x.1.length ≤ 6 ∧ x.2.1.length ≤ 20
def g_Machine_init (x : Ma) : Ma ⊕ Rf := match dupFrom [] x.1 with
  | some d => .inr (.twice d)
  | none => match stepFrom (x.2.1.length : Int) x.1 0 x.2.1 with
    | some e => .inr (.badStep e.1 e.2)
    | none => .inl x
def cnt (t : Str) : Nat := t.cps.toList.count 10
def TB (t : Str) : Prop := t.length ≤ 8000 ∧ cnt t ≤ 18 ∧ ((wordsT t).headD default).length ≤ 7
def pre_read_machine (x : Str) : Prop := TB x
def g_read_machine (x : Str) : Ma ⊕ Rf :=
  if headOk ((wordsT x).headD default) then
    (if (wordsT x).tail = [] then .inr (.noText 2) else
      match badRow 2 ((wordsT x).headD default).tail.length (wordsT x).tail with
      | some n => .inr (.noText n)
      | none => g_Machine_init (((wordsT x).headD default).tail, tabOf (wordsT x).tail, goods (wordsT x).tail))
  else .inr (.noText 1)
/-- a state's row, as a text -/
def stateT (good : List Int) (k : Int) (r : List Int) : Str := Str.join " " ((if decide (k ∈ good) then "good" else "plain") :: r.map strI)
def statesT (m : Ma) : List Str := (rng 0 (m.2.1.length : Int)).map fun k => stateT m.2.2 k (pyIx m.2.1 k)
def linesT (m : Ma) : List Str := Str.join " " ("letters" :: m.1) :: statesT m
def textM (m : Ma) : Str := Str.join "\n" (linesT m)
def pre_machine (fl : List Int) (x : Int × List Str) : Prop := Fl fl ∧ 1 ≤ x.1 ∧ x.1 ≤ 24 ∧ x.2.length ≤ 6
def post_machine (fl : List Int) (x : Int × List Str) (r : List (List Int) × List Int) (fl2 : List Int) : Prop := Fl fl2 ∧ (r.1.length : Int) = x.1 ∧ (∀ s ∈ r.1, s.length = x.2.length ∧ ∀ g ∈ s, 0 ≤ g ∧ g < x.1) ∧ GoodOk r.1 r.2
def pre_text (x : Ma) : Prop := MaOk x
def f_text (x : Ma) : Str := textM x
def f_told (x : Str) : PyData := match g_read_machine x with
  | .inl m => .tuple [.str "made", .tuple (m.1.map fun q0 => .str q0), .tuple (m.2.1.map fun q0 => .tuple (q0.map fun q1 => .int q1)), .tuple (m.2.2.map fun q0 => .int q0)]
  | .inr (.noText n) => .tuple [.str "text", .int n]
  | .inr (.twice d) => .tuple [.str "twice", .str d]
  | .inr (.badStep s l) => .tuple [.str "step", .int s, .str l]
  | .inr (.badGood s) => .tuple [.str "good", .int s]
  | _ => .none
def pre_told (x : Str) : Prop := TB x
def pre_due (x : Str) : Prop := TB x
def f_due (x : Str) : PyData := f_told x
def pre_signs (x : Unit) : Prop := True
def f_signs (x : Unit) : Str := Str.ofString " !\"#$&'()*+,-./0123456789:;<=>?@ABCDEFGHIJKLMNOPQRSTUVWXYZ" ++ Str.ofString "[\\]^_`abcdefghijklmnopqrstuvwxyz{|}~\n"
def lsum (ps : List Str) : Nat := (ps.map fun x => x.length).sum
def pre_moved (fl : List Int) (x : List Str) : Prop := Fl fl ∧ x ≠ [] ∧ x.length ≤ 10010
def post_moved (fl : List Int) (x : List Str) (r : List Str) (fl2 : List Int) : Prop := Fl fl2 ∧ lsum r ≤ 3 * lsum x ∧ r.length ≤ x.length + 1 ∧ ∀ s ∈ r, s ∈ x
def pre_spoilt (fl : List Int) (x : Str) : Prop := Fl fl ∧ x.length ≤ 3000 ∧ cnt x ≤ 16
def post_spoilt (fl : List Int) (x : Str) (r : Str) (fl2 : List Int) : Prop := Fl fl2 ∧ r.length ≤ 4 * x.length + 40 ∧ cnt r ≤ cnt x + 1
def pre_law (x : List Int) : Prop := x.length ≤ 63
def f_law (x : List Int) : Bool := true
theorem pyIx_some {α : Type} [Inhabited α] {xs : List α} {n : Nat} (h : n < xs.length) : xs[n]? = some (pyIx xs (n : Int)) := by
  obtain ⟨x, e, hx⟩ := pyIx_nat (xs := xs) (i := (n : Int)) (by omega) (by omega)
  rw [e]
  exact hx
theorem pyIx_map {α β : Type} [Inhabited α] [Inhabited β] {f : α → β} {xs : List α} {i : Int} (h0 : 0 ≤ i) (h1 : i < xs.length) : pyIx (xs.map f) i = f (pyIx xs i) := by
  obtain ⟨x, e, hx⟩ := pyIx_nat h0 h1
  obtain ⟨y, e2, hy⟩ := pyIx_nat (xs := xs.map f) h0 (by rw [List.length_map]; exact h1)
  rw [e, e2]
  rw [List.getElem?_map, hx] at hy
  exact (Option.some.inj hy).symm
theorem rng_len (n : Nat) : (rng 0 (n : Int)).length = n := by rw [rng_length]; omega
theorem rng_mem {n : Nat} {g : Int} (h : g ∈ rng 0 (n : Int)) : 0 ≤ g ∧ g < n := by
  obtain ⟨i, hi, rfl⟩ := List.mem_map.mp h
  have := List.mem_range.mp hi
  omega
theorem pyIx_rng {n : Nat} {s : Int} (h0 : 0 ≤ s) (h1 : s < n) : pyIx (rng 0 (n : Int)) s = s := by
  obtain ⟨x, e, hx⟩ := pyIx_nat (xs := rng 0 (n : Int)) h0 (by rw [rng_len]; exact h1)
  rw [e]
  have := (rng_get hx).1
  omega
/-! ### what repr is asked of is small -/
structure Sml (n : Nat) (d : PyData) : Prop where
  s : d.showable = true
  h : d.hasDict = false
  l : d.leavesShort 13 = true
  w : d.weight ≤ n
theorem Sml.mono {n m : Nat} {d : PyData} (h : Sml n d) (hm : n ≤ m) : Sml m d := ⟨h.s, h.h, h.l, Nat.le_trans h.w hm⟩
theorem sml_str {w : Str} (h : Word w) : Sml 8 (.str w) := by
  refine ⟨by simp only [PyData.showable], by simp only [PyData.hasDict], ?_, ?_⟩
  · simp only [PyData.leavesShort, List.all_eq_true, decide_eq_true_eq]
    intro c hc
    have := h.2.2 c hc
    have e : (16 : Nat) ^ 8 = 4294967296 := by decide
    omega
  · simp only [PyData.weight]
    exact h.2.1
theorem sml_int {i : Int} (h0 : 0 ≤ i) (h1 : i < 1000) : Sml 1001 (.int i) := by
  have hl : i.natAbs.log2 ≤ i.natAbs := Nat.log2_le_self _
  refine ⟨by simp only [PyData.showable, decide_eq_true_eq]; omega, by simp only [PyData.hasDict], ?_, ?_⟩
  · simp only [PyData.leavesShort, decide_eq_true_eq]
    exact PyData.shown_int_le (by have e : (10 : Nat) ^ 12 = 1000000000000 := by decide
                                  omega)
  · simp only [PyData.weight]
    split <;> omega
theorem sml_all {n : Nat} : ∀ {xs : List PyData}, (∀ x ∈ xs, Sml n x) → PyData.showableAll xs = true ∧ PyData.hasDictAll xs = false ∧ PyData.leavesShortAll 13 xs = true ∧ PyData.weightAll xs ≤ (n + 1) * xs.length
  | [], _ => ⟨by simp only [PyData.showableAll], by simp only [PyData.hasDictAll], by simp only [PyData.leavesShortAll], by simp only [PyData.weightAll]; exact Nat.zero_le _⟩
  | x :: xs, h => by
    obtain ⟨h1, h2, h3, h4⟩ := sml_all fun y hy => h y (List.mem_cons_of_mem _ hy)
    have hx := h x List.mem_cons_self
    have hw := hx.w
    refine ⟨by simp only [PyData.showableAll, hx.s, h1, Bool.and_self], by simp only [PyData.hasDictAll, hx.h, h2, Bool.or_self], by simp only [PyData.leavesShortAll, hx.l, h3, Bool.and_self], ?_⟩
    simp only [PyData.weightAll, List.length_cons]
    have : (n + 1) * (xs.length + 1) = (n + 1) * xs.length + (n + 1) := Nat.mul_succ _ _
    omega
theorem sml_list {n : Nat} {xs : List PyData} (h : ∀ x ∈ xs, Sml n x) : Sml ((n + 1) * xs.length) (.list xs) := by
  obtain ⟨h1, h2, h3, h4⟩ := sml_all h
  exact ⟨by simp only [PyData.showable, h1], by simp only [PyData.hasDict, h2], by simp only [PyData.leavesShort, h3], by simp only [PyData.weight]; exact h4⟩
theorem sml_tup {n : Nat} {xs : List PyData} (h : ∀ x ∈ xs, Sml n x) : Sml ((n + 1) * xs.length) (.tuple xs) := by
  obtain ⟨h1, h2, h3, h4⟩ := sml_all h
  exact ⟨by simp only [PyData.showable, h1], by simp only [PyData.hasDict, h2], by simp only [PyData.leavesShort, h3], by simp only [PyData.weight]; exact h4⟩
theorem Sml.fits {n : Nat} {d : PyData} (h : Sml n d) (hn : n ≤ 1048576) : d.showable = true ∧ d.hasDict = false ∧ d.shown.length ≤ sizeLine :=
  ⟨h.s, h.h, PyData.shown_fits (B := 13) (by decide) (by decide) h.l (Nat.le_trans h.w (Nat.le_trans hn (by decide)))⟩
theorem sml_words {ws : List Str} {n : Nat} (h : ∀ w ∈ ws, Word w) (hn : ws.length ≤ n) : Sml (9 * n) (.tuple (ws.map .str)) ∧ Sml (9 * n) (.list (ws.map .str)) := by
  have h1 : ∀ x ∈ ws.map PyData.str, Sml 8 x := fun x hx => by
    obtain ⟨w, hw, rfl⟩ := List.mem_map.mp hx
    exact sml_str (h w hw)
  have hl : (8 + 1) * (ws.map PyData.str).length ≤ 9 * n := by rw [List.length_map]; omega
  exact ⟨(sml_tup h1).mono hl, (sml_list h1).mono hl⟩
theorem cut1 {α : Type} (xs : List α) : cutA xs (some 1) none = xs.tail := by
  unfold cutA
  rw [HT.sIx_none, show (some (1 : Int)) = some ((1 : Nat) : Int) from rfl, HT.sIx_nat]
  cases xs with
  | nil => rfl
  | cons x xs =>
    rw [Nat.min_eq_left (by rw [List.length_cons]; omega)]
    show xs.take (xs.length + 1 - 1) = xs
    exact List.take_of_length_le (Nat.le_refl _)
theorem pyIx_head {α : Type} [Inhabited α] (w : α) (ws : List α) : pyIx (w :: ws) 0 = w := by
  have h := pyIx_some (xs := w :: ws) (n := 0) (Nat.succ_pos _)
  exact (Option.some.inj h).symm
theorem rng_pw (n : Nat) : (rng 0 (n : Int)).Pairwise (· < ·) := by
  unfold rng
  rw [List.pairwise_map]
  exact List.pairwise_lt_range.imp fun h => by omega
theorem rng_memI {n : Nat} {g : Int} (h0 : 0 ≤ g) (h1 : g < n) : g ∈ rng 0 (n : Int) := List.mem_map.mpr ⟨g.toNat, List.mem_range.mpr (by omega), by omega⟩
theorem good_of {tab : List (List Int)} {good : List Int} (h : good.Pairwise (· < ·)) (hb : ∀ g ∈ good, 0 ≤ g ∧ g < (tab.length : Int)) : GoodOk tab good :=
  pw_ext h ((rng_pw tab.length).filter _) fun x => by
    rw [List.mem_filter, decide_eq_true_eq]
    exact ⟨fun hx => ⟨rng_memI (hb x hx).1 (hb x hx).2, hx⟩, fun hx => hx.2⟩
theorem good_in {tab : List (List Int)} {good : List Int} (h : GoodOk tab good) {g : Int} (hg : g ∈ good) : 0 ≤ g ∧ g < (tab.length : Int) := by
  rw [h] at hg
  exact rng_mem (List.mem_filter.mp hg).1
theorem good_pw {tab : List (List Int)} {good : List Int} (h : GoodOk tab good) : good.Pairwise (· < ·) := by
  rw [h]
  exact (rng_pw _).filter _
theorem good_sort {tab : List (List Int)} {good : List Int} (h : GoodOk tab good) : sortI1 good = good := (sortI1_of (good_pw h) fun x => Iff.rfl).symm
theorem strI_f1 : ∀ k : Fin 24, 1 ≤ (strI (k.val : Int)).length ∧ (strI (k.val : Int)).length ≤ 2 := by decide +kernel
theorem strI_f2 : ∀ k : Fin 24, PySem.PyData.strOk (strI (k.val : Int)) = true := by decide +kernel
theorem strI_f3 : ∀ k : Fin 24, f_all_of (strI (k.val : Int), FIG) = true := by decide +kernel
theorem strI_f4 : ∀ k : Fin 24, PySem.intText? (strI (k.val : Int)) = some (k.val : Int) := by decide +kernel
theorem strI_f5 : ∀ k : Fin 24, 1 < (strI (k.val : Int)).length → ¬ pyIx (MD.signs (strI (k.val : Int))) 0 = Str.ofString "0" := by decide +kernel
theorem strI_f6 : ∀ k : Fin 24, ∀ c ∈ (strI (k.val : Int)).cps.toList, 33 ≤ c := by decide +kernel
structure Num (g : Int) : Prop where
  l1 : 1 ≤ (strI g).length
  l2 : (strI g).length ≤ 2
  ok : PySem.PyData.strOk (strI g) = true
  fig : f_all_of (strI g, FIG) = true
  it : PySem.intText? (strI g) = some g
  z : 1 < (strI g).length → ¬ pyIx (MD.signs (strI g)) 0 = Str.ofString "0"
  c : ∀ c ∈ (strI g).cps.toList, 33 ≤ c
  lg : g.natAbs.log2 < 1920
theorem num {g : Int} (h0 : 0 ≤ g) (h1 : g < 24) : Num g := by
  obtain ⟨k, rfl⟩ : ∃ k : Fin 24, g = (k.val : Int) := ⟨⟨g.toNat, by omega⟩, by show g = (g.toNat : Int); omega⟩
  have hk := k.isLt
  have hl : ((k.val : Int)).natAbs.log2 ≤ ((k.val : Int)).natAbs := Nat.log2_le_self _
  exact ⟨(strI_f1 k).1, (strI_f1 k).2, strI_f2 k, strI_f3 k, strI_f4 k, strI_f5 k, strI_f6 k, by omega⟩
theorem split_sp {ws : List Str} (hne : ws ≠ []) (h : ∀ w ∈ ws, ∀ c ∈ w.cps.toList, 33 ≤ c) : Txt.split (Str.join " " ws) " " = ws := by
  have := TL.split_join (y := " ") (s := 32) (S := []) (by decide +kernel) (by decide +kernel) hne fun p hp hm => by
    have := h p hp 32 hm
    omega
  rw [show Txt.join " " ws = Str.join " " ws from PySem.StrLaws.glued_eq_join _ _] at this
  exact this
theorem sp_no {ws : List Str} (h : ∀ w ∈ ws, ∀ c ∈ w.cps.toList, 33 ≤ c) : (10 : Nat) ∉ (Str.join " " ws).cps.toList := fun hm => by
  rcases join_mem hm with h3 | ⟨p, hp, hc⟩
  · have : ∀ c ∈ (Str.ofString " ").cps.toList, c = 32 := by decide +kernel
    have := this _ h3
    omega
  · have := h p hp 10 hc
    omega
theorem w33 {w : Str} (h : Word w) : ∀ c ∈ w.cps.toList, 33 ≤ c := fun c hc => by
  have := h.2.2 c hc
  omega
theorem goodw : Word "good" ∧ Word "plain" ∧ Word "letters" := by
  refine ⟨⟨by decide +kernel, by decide +kernel, fun c hc => ?_⟩, ⟨by decide +kernel, by decide +kernel, fun c hc => ?_⟩, ⟨by decide +kernel, by decide +kernel, fun c hc => ?_⟩⟩
  · have : ∀ c ∈ (Str.ofString "good").cps.toList, 97 ≤ c ∧ c ≤ 122 := by decide +kernel
    exact this c hc
  · have : ∀ c ∈ (Str.ofString "plain").cps.toList, 97 ≤ c ∧ c ≤ 122 := by decide +kernel
    exact this c hc
  · have : ∀ c ∈ (Str.ofString "letters").cps.toList, 97 ≤ c ∧ c ≤ 122 := by decide +kernel
    exact this c hc
/-- the words of a state's row -/
theorem row33 {w : Str} {r : List Int} (hw : w = "good" ∨ w = "plain") (hr : ∀ g ∈ r, 0 ≤ g ∧ g < 24) : ∀ x ∈ w :: r.map strI, ∀ c ∈ x.cps.toList, 33 ≤ c := fun x hx => by
  rcases List.mem_cons.mp hx with e | e
  · rw [e]
    rcases hw with h | h
    · rw [h]; exact w33 goodw.1
    · rw [h]; exact w33 goodw.2.1
  · obtain ⟨g, hg, rfl⟩ := List.mem_map.mp e
    exact (num (hr g hg).1 (hr g hg).2).c
theorem wordOf (good : List Int) (k : Int) : (if decide (k ∈ good) then ("good" : Str) else "plain") = "good" ∨ (if decide (k ∈ good) then ("good" : Str) else "plain") = "plain" := by
  split
  · exact .inl rfl
  · exact .inr rfl
theorem TabOk.row {ls : List Str} {tab : List (List Int)} (hT : TabOk ls tab) {k : Int} (h0 : 0 ≤ k) (h1 : k < tab.length) : (pyIx tab k).length = ls.length ∧ ∀ g ∈ pyIx tab k, 0 ≤ g ∧ g < 24 := by
  have hm := pyIx_mem (xs := tab) h0 h1
  have h24 := hT.few
  exact ⟨hT.len _ hm, fun g hg => by have := hT.goal _ hm g hg; omega⟩
theorem states_len (m : Ma) : (statesT m).length = m.2.1.length := by unfold statesT; rw [List.length_map, rng_len]
theorem states_at {m : Ma} {k : Int} (h0 : 0 ≤ k) (h1 : k < m.2.1.length) : pyIx (statesT m) k = stateT m.2.2 k (pyIx m.2.1 k) := by
  unfold statesT
  rw [pyIx_map h0 (by rw [rng_len]; exact h1), pyIx_rng h0 h1]
theorem head33 {m : Ma} (h : MaOk m) : ∀ x ∈ ("letters" : Str) :: m.1, ∀ c ∈ x.cps.toList, 33 ≤ c := fun x hx => by
  rcases List.mem_cons.mp hx with e | e
  · rw [e]; exact w33 goodw.2.2
  · exact w33 (h.1.w x e)
theorem split_textM {m : Ma} (h : MaOk m) : Txt.split (textM m) "\n" = linesT m := by
  refine split_lines (by unfold linesT; simp) fun l hl => ?_
  unfold linesT at hl
  rcases List.mem_cons.mp hl with e | e
  · rw [e]; exact sp_no (head33 h)
  · unfold statesT at e
    obtain ⟨k, hk, rfl⟩ := List.mem_map.mp e
    have := rng_mem hk
    exact sp_no (row33 (wordOf _ _) (h.1.row this.1 this.2).2)
theorem split_head {m : Ma} (h : MaOk m) : Txt.split (Str.join " " (("letters" : Str) :: m.1)) " " = ("letters" : Str) :: m.1 := split_sp (by simp) (head33 h)
theorem len_join (ps : List Str) : (Str.join " " ps).length ≤ (ps.map (·.length)).sum + ps.length := by
  have h := PySem.StrLaws.join_length_le " " ps
  have e : (Str.ofString " ").length = 1 := by decide +kernel
  have h : (Str.join " " ps).length ≤ (ps.map (·.length)).sum + ps.length * (Str.ofString " ").length := h
  rw [e, Nat.mul_one] at h
  exact h
theorem dupFrom_cons (x : Str) (xs seen : List Str) : dupFrom seen (x :: xs) = if x ∈ seen then some x else dupFrom (seen ++ [x]) xs := rfl
theorem dupFrom_app : ∀ (xs ys seen : List Str), dupFrom seen (xs ++ ys) = (match dupFrom seen xs with | some d => some d | none => dupFrom (seen ++ xs) ys)
  | [], ys, seen => by rw [List.nil_append, List.append_nil]; rfl
  | x :: xs, ys, seen => by
    rw [List.cons_append, dupFrom_cons, dupFrom_cons]
    by_cases h : x ∈ seen
    · rw [if_pos h, if_pos h]
    · rw [if_neg h, if_neg h, dupFrom_app xs ys (seen ++ [x]), List.append_assoc]
      rfl
theorem split_at {α : Type} {xs : List α} {i : Nat} {x : α} (h : xs[i]? = some x) : xs = xs.take i ++ x :: xs.drop (i + 1) := by
  obtain ⟨hi, e⟩ := List.getElem?_eq_some_iff.mp h
  rw [← e, ← List.drop_eq_getElem_cons hi, List.take_append_drop]
/-- one place further -/
theorem dup_step {xs : List Str} {i : Nat} {x : Str} (h : xs[i]? = some x) (hn : dupFrom [] (xs.take i) = none) : (x ∈ xs.take i → dupFrom [] xs = some x) ∧ (x ∉ xs.take i → dupFrom [] (xs.take (i + 1)) = none) := by
  refine ⟨fun hm => ?_, fun hm => ?_⟩
  · rw [split_at h, dupFrom_app, hn]
    show dupFrom ([] ++ xs.take i) _ = _
    rw [List.nil_append, dupFrom_cons]
    rw [if_pos hm]
  · rw [take_step h, dupFrom_app, hn]
    show dupFrom ([] ++ xs.take i) [x] = _
    rw [List.nil_append, dupFrom_cons]
    rw [if_neg hm]
    rfl
theorem cutA_from {α : Type} {xs : List α} {n : Nat} : cutA xs (some (n : Int)) none = xs.drop n := by
  unfold cutA
  rw [HT.sIx_none, HT.sIx_nat]
  by_cases h : n ≤ xs.length
  · rw [Nat.min_eq_left h, List.take_of_length_le (by rw [List.length_drop]; exact Nat.le_refl _)]
  · rw [Nat.min_eq_right (by omega), List.drop_of_length_le (Nat.le_refl _), List.drop_of_length_le (by omega), List.take_nil]
theorem name_word {w : Str} (h : f_is_name w = true) : Word w := by
  unfold f_is_name f_all_of at h
  rw [Bool.and_eq_true, Bool.and_eq_true] at h
  obtain ⟨⟨h1, h2⟩, h3⟩ := h
  have h1 := of_decide_eq_true h1
  have h2 := of_decide_eq_true h2
  refine ⟨by omega, by omega, fun c hc => ?_⟩
  have := List.all_eq_true.mp h3 (sgn c) (List.mem_map.mpr ⟨c, hc, rfl⟩)
  have hm : sgn c ∈ MD.signs abc := of_decide_eq_true this
  rw [signs_abc] at hm
  obtain ⟨i, hi, e⟩ := List.mem_map.mp hm
  have hi := List.mem_range.mp hi
  have := sgn_inj e
  omega
theorem split_ne (x y : Str) : Txt.split x y ≠ [] := fun e => by
  have := congrArg List.length e
  unfold Txt.split at this
  split at this
  · cases this
  · split at this
    · cases this
    · rw [length_partsBetween] at this; cases this
theorem wordsT_ne (x : Str) : wordsT x ≠ [] := fun e => split_ne x "\n" (List.map_eq_nil_iff.mp e)
theorem words_ne {x : Str} {ws : List Str} (h : ws ∈ wordsT x) : ws ≠ [] := by
  obtain ⟨r, _, rfl⟩ := List.mem_map.mp h
  exact split_ne _ _
theorem signs_len (z : Str) : (MD.signs z).length = z.length := by
  unfold MD.signs
  rw [List.length_map, str_len]
theorem signs_one {z s : Str} (h : s ∈ MD.signs z) : s.length = 1 := by
  obtain ⟨c, _, rfl⟩ := List.mem_map.mp h
  rfl
theorem cutS_len (z : Str) (lo hi : Option Int) : (cutS z lo hi).length ≤ z.length := by
  rw [str_len, str_len]
  unfold cutS
  simp only [List.length_take, List.length_drop]
  omega
theorem mem_sum {ps : List Str} {p : Str} (h : p ∈ ps) : p.length ≤ (ps.map (·.length)).sum := by
  induction ps with
  | nil => cases h
  | cons q ps ih =>
    rw [List.map_cons, List.sum_cons]
    rcases List.mem_cons.mp h with e | e
    · rw [e]; omega
    · have := ih e
      omega
theorem join_len (sep : Str) (ps : List Str) : (Str.join sep ps).length = (ps.map (·.length)).sum + (ps.length - 1) * sep.length := by
  rw [← PySem.StrLaws.glued_eq_join]
  exact size_glued sep ps
theorem split_sum (x y : Str) : ((Txt.split x y).map (·.length)).sum + ((Txt.split x y).length - 1) * y.length = x.length := by
  have e := congrArg Str.length (PySem.StrLaws.join_split x y)
  have e : (Str.join y (Txt.split x y)).length = x.length := e
  rw [join_len] at e
  exact e
theorem piece_le {x y p : Str} (h : p ∈ Txt.split x y) : p.length ≤ x.length := by
  have h1 := mem_sum h
  have h2 := split_sum x y
  omega
theorem words_piece {x w : Str} {ws : List Str} (h : ws ∈ wordsT x) (hw : w ∈ ws) : w.length ≤ x.length := by
  obtain ⟨r, hr, rfl⟩ := List.mem_map.mp h
  exact Nat.le_trans (piece_le hw) (piece_le hr)
theorem words_len {x : Str} {ws : List Str} (h : ws ∈ wordsT x) : ws.length ≤ x.length + 2 := by
  obtain ⟨r, hr, rfl⟩ := List.mem_map.mp h
  exact Nat.le_trans (PyProof.Rows.split_le r " ") (Nat.add_le_add_right (piece_le hr) 2)
theorem lsum_app (xs ys : List Str) : lsum (xs ++ ys) = lsum xs + lsum ys := by
  unfold lsum
  rw [List.map_append, List.sum_append]
theorem lsum_one (x : Str) : lsum [x] = x.length := by
  unfold lsum
  simp
theorem lsum_td (z : List Str) (k : Nat) : lsum (z.take k) + lsum (z.drop k) = lsum z := by rw [← lsum_app, List.take_append_drop]
theorem lsum_mid {z : List Str} {k : Nat} {p : Str} (h : z[k]? = some p) : lsum (z.take k) + p.length + lsum (z.drop (k + 1)) = lsum z := by
  have e : z = z.take k ++ p :: z.drop (k + 1) := split_at h
  have e2 := congrArg lsum e
  rw [lsum_app, show p :: z.drop (k + 1) = [p] ++ z.drop (k + 1) from rfl, lsum_app, lsum_one] at e2
  omega
theorem join_nl (ps : List Str) : (Str.join (Str.ofString "\n") ps).length = lsum ps + (ps.length - 1) := by
  have l1 : (Str.ofString "\n").length = 1 := by decide +kernel
  rw [join_len, l1, Nat.mul_one]
  rfl
theorem fig_cps : FIG.cps.toList = List.map (fun i => 48 + i) (List.range 10) := by decide +kernel
theorem signs_fig : MD.signs FIG = List.map (fun i => sgn (48 + i)) (List.range 10) := by
  unfold MD.signs
  rw [fig_cps, List.map_map]
  rfl
theorem isNum_parts {w : Str} (h : isNum w = true) : 1 ≤ w.length ∧ w.length ≤ 3 ∧ f_all_of (w, FIG) = true := by
  unfold isNum at h
  rw [Bool.and_eq_true, Bool.and_eq_true, Bool.and_eq_true] at h
  have h1 := of_decide_eq_true h.1.1.1
  have h2 := of_decide_eq_true h.1.1.2
  exact ⟨by omega, by omega, h.1.2⟩
theorem num_digits {w : Str} (h : isNum w = true) : PySem.NumText.AllDigits w.cps.toList := fun c hc => by
  have h3 := (isNum_parts h).2.2
  unfold f_all_of at h3
  have := List.all_eq_true.mp h3 (sgn c) (List.mem_map.mpr ⟨c, hc, rfl⟩)
  have hm : sgn c ∈ MD.signs FIG := of_decide_eq_true this
  rw [signs_fig] at hm
  obtain ⟨i, hi, e⟩ := List.mem_map.mp hm
  have hi := List.mem_range.mp hi
  have := sgn_inj e
  omega
theorem num_text {w : Str} (h : isNum w = true) : PySem.intText? w = some ((PySem.NumText.digitsVal w.cps.toList : Nat) : Int) := by
  have hp := isNum_parts h
  refine PySem.intText_digits (num_digits h) (fun e => ?_) (by omega)
  have := str_len w
  rw [e] at this
  have : w.length = 0 := this
  omega
theorem digits_small : ∀ cs : List Nat, PySem.NumText.AllDigits cs → ∀ n : Nat, cs.foldl (fun acc c => acc * 10 + (c - 48)) n < (n + 1) * 10 ^ cs.length
  | [], _, n => by simp
  | c :: cs, h, n => by
    have h1 := digits_small cs (fun d hd => h d (List.mem_cons_of_mem _ hd)) (n * 10 + (c - 48))
    have hc := h c List.mem_cons_self
    rw [List.foldl_cons, List.length_cons]
    refine Nat.lt_of_lt_of_le h1 ?_
    have : n * 10 + (c - 48) + 1 ≤ (n + 1) * 10 := by omega
    calc (n * 10 + (c - 48) + 1) * 10 ^ cs.length ≤ (n + 1) * 10 * 10 ^ cs.length := Nat.mul_le_mul_right _ this
      _ = (n + 1) * 10 ^ (cs.length + 1) := by rw [Nat.pow_succ, Nat.mul_assoc, Nat.mul_comm 10]
theorem num_small {w : Str} (h : isNum w = true) : 0 ≤ intS w ∧ intS w < 1000 := by
  have e : intS w = ((PySem.NumText.digitsVal w.cps.toList : Nat) : Int) := by unfold intS; rw [num_text h]; rfl
  have h1 := digits_small _ (num_digits h) 0
  have hp := (isNum_parts h).2.1
  rw [str_len] at hp
  have h2 : 10 ^ w.cps.toList.length ≤ 10 ^ 3 := Nat.pow_le_pow_right (by decide) hp
  have h3 : PySem.NumText.digitsVal w.cps.toList < 1000 := by
    have : PySem.NumText.digitsVal w.cps.toList < (0 + 1) * 10 ^ w.cps.toList.length := h1
    omega
  rw [e]
  omega
theorem none_mem (ws : List Str) : decide (none ∈ ws.map fun x => if isNum x then some (intS x) else none) = !ws.all isNum := by
  rw [Bool.eq_iff_iff, decide_eq_true_eq]
  constructor
  · intro h
    obtain ⟨x, hx, e⟩ := List.mem_map.mp h
    cases hn : isNum x with
    | true => rw [hn] at e; cases e
    | false =>
      have : ws.all isNum = false := by
        rw [List.all_eq_false]
        exact ⟨x, hx, by rw [hn]; exact Bool.false_ne_true⟩
      rw [this]
      rfl
  · intro h
    have : ws.all isNum = false := by simpa using h
    obtain ⟨x, hx, e⟩ := List.all_eq_false.mp this
    refine List.mem_map.mpr ⟨x, hx, ?_⟩
    rw [if_neg e]
theorem filter_yes {α : Type} {p : α → Bool} {x : α} (ys : List α) (h : p x = true) : (ys ++ [x]).filter p = ys.filter p ++ [x] := by
  rw [List.filter_append, List.filter_cons, if_pos h, List.filter_nil]
theorem filter_no {α : Type} {p : α → Bool} {x : α} (ys : List α) (h : p x = false) : (ys ++ [x]).filter p = ys.filter p := by
  rw [List.filter_append, List.filter_cons, if_neg (by rw [h]; exact Bool.false_ne_true), List.filter_nil, List.append_nil]
theorem one_sign {a s : Str} (h : a.length = 1) (hp : pyIx (MD.signs a) 0 = s) : a = s := by
  rw [str_len] at h
  obtain ⟨c, hc⟩ := List.length_eq_one_iff.mp h
  have e : MD.signs a = [sgn c] := by
    unfold MD.signs
    rw [hc]
    rfl
  rw [e, pyIx_head] at hp
  rw [← hp]
  exact str_ext hc
theorem drop_get {α : Type} {xs : List α} {i : Nat} {x : α} (h : xs[i]? = some x) : xs.drop i = x :: xs.drop (i + 1) := by
  obtain ⟨hi, e⟩ := List.getElem?_eq_some_iff.mp h
  rw [← e, ← List.drop_eq_getElem_cons hi]
theorem cps_from (z : Str) (n : Nat) : (cutS z (some (n : Int)) none).cps.toList = z.cps.toList.drop n := by
  by_cases h : n ≤ z.length
  · exact cutS_from z h
  · unfold cutS
    rw [HT.sIx_none, HT.sIx_nat, Nat.min_eq_right (by omega)]
    simp only [List.toList_toArray, Nat.sub_self, List.take_zero]
    rw [List.drop_eq_nil_of_le (by rw [← str_len]; omega)]
theorem cps_to (z : Str) (n : Nat) : (cutS z none (some (n : Int))).cps.toList = z.cps.toList.take n := by
  by_cases h : n ≤ z.length
  · exact cutS_to z h
  · unfold cutS
    rw [HT.sIx_none, HT.sIx_nat, Nat.min_eq_right (by omega)]
    simp only [List.drop_zero, List.toList_toArray]
    rw [str_len, Nat.sub_zero, List.take_length, List.take_of_length_le (by rw [← str_len]; omega)]
theorem cnt_app (a b : Str) : cnt (a ++ b) = cnt a + cnt b := by
  unfold cnt
  rw [app_cps, List.count_append]
theorem cnt_le (a : Str) : cnt a ≤ a.length := by
  unfold cnt
  rw [str_len]
  exact List.count_le_length
theorem cnt_two (z : Str) (n d : Nat) : cnt (cutS z none (some (n : Int))) + cnt (cutS z (some ((n + d : Nat) : Int)) none) ≤ cnt z := by
  unfold cnt
  rw [cps_to, cps_from]
  have h1 : z.cps.toList = z.cps.toList.take n ++ z.cps.toList.drop n := (List.take_append_drop n _).symm
  have h2 : (z.cps.toList.drop (n + d)).count 10 ≤ (z.cps.toList.drop n).count 10 := by
    rw [← List.drop_drop]
    exact (List.drop_sublist _ _).count_le _
  have h3 := congrArg (fun l => List.count 10 l) h1
  simp only [List.count_append] at h3
  omega
theorem cnt0 {s : Str} (h : (10 : Nat) ∉ s.cps.toList) : cnt s = 0 := List.count_eq_zero.mpr h
theorem cnt_join_sp : ∀ ws : List Str, (∀ w ∈ ws, (10 : Nat) ∉ w.cps.toList) → (10 : Nat) ∉ (Str.join (Str.ofString " ") ws).cps.toList := fun ws h hm => by
  rcases join_mem hm with h3 | ⟨p, hp, hc⟩
  · have : ∀ c ∈ (Str.ofString " ").cps.toList, c = 32 := by decide +kernel
    have := this _ h3
    omega
  · exact h p hp hc
theorem cnt_join_nl : ∀ ws : List Str, (∀ w ∈ ws, (10 : Nat) ∉ w.cps.toList) → cnt (Str.join (Str.ofString "\n") ws) = ws.length - 1
  | [], _ => rfl
  | [w], h => cnt0 (h w List.mem_cons_self)
  | w :: v :: ws, h => by
    have ih := cnt_join_nl (v :: ws) fun x hx => h x (List.mem_cons_of_mem _ hx)
    have e : Str.join (Str.ofString "\n") (w :: v :: ws) = w ++ Str.ofString "\n" ++ Str.join (Str.ofString "\n") (v :: ws) := rfl
    have c1 : cnt (Str.ofString "\n") = 1 := by decide +kernel
    rw [e, cnt_app, cnt_app, ih, cnt0 (h w List.mem_cons_self), c1]
    simp only [List.length_cons]
    omega
theorem nl_eq : Str.ofString "\n" = ⟨#[10]⟩ := by decide +kernel
theorem nl_free {x p : Str} (h : p ∈ Txt.split x (Str.ofString "\n")) : (10 : Nat) ∉ p.cps.toList := by
  rw [nl_eq] at h
  exact PySem.StrLaws.split_free x 10 p h
theorem nl_len (x : Str) : (Txt.split x (Str.ofString "\n")).length = cnt x + 1 := by
  have h := cnt_join_nl (Txt.split x (Str.ofString "\n")) fun p hp => nl_free hp
  have e : Str.join (Str.ofString "\n") (Txt.split x (Str.ofString "\n")) = x := PySem.StrLaws.join_split x _
  rw [e] at h
  have hne := split_ne x (Str.ofString "\n")
  have : (Txt.split x (Str.ofString "\n")).length ≠ 0 := fun e => hne (List.length_eq_zero_iff.mp e)
  omega
theorem sp_split_free {x p : Str} (h : p ∈ Txt.split x (Str.ofString " ")) (hx : (10 : Nat) ∉ x.cps.toList) : (10 : Nat) ∉ p.cps.toList := fun hm => hx (by
  have e : Str.join (Str.ofString " ") (Txt.split x (Str.ofString " ")) = x := PySem.StrLaws.join_split x _
  rw [← e]
  exact mem_join h hm)
theorem lsum_set {z : List Str} {k : Nat} {p : Str} : lsum (z.set k p) ≤ lsum z + p.length := by
  induction z generalizing k with
  | nil => exact Nat.zero_le _
  | cons a z ih =>
    cases k with
    | zero =>
      show lsum (p :: z) ≤ lsum (a :: z) + _
      rw [show p :: z = [p] ++ z from rfl, show a :: z = [a] ++ z from rfl, lsum_app, lsum_app, lsum_one]
      omega
    | succ k =>
      have := ih (k := k)
      show lsum (a :: z.set k p) ≤ lsum (a :: z) + _
      rw [show a :: z.set k p = [a] ++ z.set k p from rfl, show a :: z = [a] ++ z from rfl, lsum_app, lsum_app]
      omega
theorem join_spl (ps : List Str) : (Str.join (Str.ofString " ") ps).length = lsum ps + (ps.length - 1) := by
  have l1 : (Str.ofString " ").length = 1 := by decide +kernel
  rw [join_len, l1, Nat.mul_one]
  rfl
theorem cutA_to2 {α : Type} {xs : List α} {n : Nat} : cutA xs none (some (n : Int)) = xs.take n := cutA_to'
theorem init_refs {m : Ma} {r : Rf} (h : g_Machine_init m = .inr r) : (∃ n, r = .noText n) ∨ (∃ d, r = .twice d) ∨ ∃ s l, r = .badStep s l := by
  unfold g_Machine_init at h
  split at h
  · cases h; exact .inr (.inl ⟨_, rfl⟩)
  · split at h
    · cases h; exact .inr (.inr ⟨_, _, rfl⟩)
    · cases h
theorem read_refs {x : Str} {r : Rf} (h : g_read_machine x = .inr r) : (∃ n, r = .noText n) ∨ (∃ d, r = .twice d) ∨ ∃ s l, r = .badStep s l := by
  unfold g_read_machine at h
  split at h
  · split at h
    · cases h; exact .inl ⟨_, rfl⟩
    · split at h
      · cases h; exact .inl ⟨_, rfl⟩
      · exact init_refs h
  · cases h; exact .inl ⟨_, rfl⟩
theorem badRow_step {rs : List (List Str)} {i : Nat} {ws : List Str} {k : Nat} {n : Int} (h : rs[i]? = some ws) : badRow n k (rs.drop i) = if rowOk k ws then badRow (n + 1) k (rs.drop (i + 1)) else some n := by
  rw [drop_get h]
  rfl
theorem badRow_none {k : Nat} : ∀ {rs : List (List Str)} {n : Int}, badRow n k rs = none → ∀ ws ∈ rs, rowOk k ws = true
  | [], _, _, ws, h => by cases h
  | r :: rs, n, h, ws, hm => by
    unfold badRow at h
    split at h
    · rename_i hr
      rcases List.mem_cons.mp hm with e | e
      · rw [e]; exact hr
      · exact badRow_none h ws e
    · cases h
theorem rowOk_parts {k : Nat} {ws : List Str} (h : rowOk k ws = true) : ws.tail.length = k ∧ ∀ w ∈ ws.tail, isNum w = true := by
  unfold rowOk at h
  rw [Bool.and_eq_true, Bool.and_eq_true] at h
  exact ⟨of_decide_eq_true h.1.2, List.all_eq_true.mp h.2⟩
theorem step_here {n : Int} {ls : List Str} {rs : List (List Int)} {i : Nat} {x : List Int} (h : rs[i]? = some x) : stepFrom n ls (i : Int) (rs.drop i) = (match stepIn n (i : Int) (ls.zip x) with | some e => some e | none => stepFrom n ls ((i : Int) + 1) (rs.drop (i + 1))) := by
  rw [drop_get h]
  rfl
theorem ix0 {α : Type} {xs : List α} (h : xs ≠ []) : IxOk xs 0 := by
  have : 0 < xs.length := List.length_pos_iff.mpr h
  exact ⟨by omega, by omega⟩
theorem depthAll_le {n : Nat} : ∀ {xs : List PyData}, (∀ x ∈ xs, x.depth ≤ n) → PyData.depthAll xs ≤ n
  | [], _ => by simp [PyData.depthAll]
  | x :: xs, h => by
    have h1 := depthAll_le (xs := xs) fun y hy => h y (List.mem_cons_of_mem _ hy)
    have h2 := h x List.mem_cons_self
    simp only [PyData.depthAll]
    omega
theorem depth_tup {n : Nat} {xs : List PyData} (h : ∀ x ∈ xs, x.depth ≤ n) : (PyData.tuple xs).depth ≤ n + 1 := by
  simp only [PyData.depth]
  have := depthAll_le h
  omega
theorem depth_str (w : Str) : (PyData.str w).depth ≤ 0 := by simp [PyData.depth]
theorem depth_int (i : Int) : (PyData.int i).depth ≤ 0 := by simp [PyData.depth]
/-- what repr is asked of here -/
def Tf (d : PyData) : Prop := ∃ xs, d = .tuple xs ∧ xs.length ≤ 4 ∧ ∀ x ∈ xs, Sml 120000 x ∧ x.depth ≤ 2
theorem Tf.fits {d : PyData} (h : Tf d) : (∃ xs, d = .tuple xs) ∧ d.showable = true ∧ d.hasDict = false ∧ d.depth ≤ 64 ∧ d.shown.length ≤ sizeLine := by
  obtain ⟨xs, rfl, hl, h⟩ := h
  have h1 := (sml_tup fun x hx => (h x hx).1).fits (by
    have : (120000 + 1) * xs.length ≤ (120000 + 1) * 4 := Nat.mul_le_mul_left _ hl
    omega)
  have h2 := depth_tup fun x hx => (h x hx).2
  exact ⟨⟨xs, rfl⟩, h1.1, h1.2.1, by omega, h1.2.2⟩
theorem tf_str {w : Str} (h : Word w) : Sml 120000 (.str w) ∧ (PyData.str w).depth ≤ 2 := ⟨(sml_str h).mono (by decide), Nat.le_trans (depth_str w) (by decide)⟩
theorem tf_int {i : Int} (h0 : 0 ≤ i) (h1 : i < 1000) : Sml 120000 (.int i) ∧ (PyData.int i).depth ≤ 2 := ⟨(sml_int h0 h1).mono (by decide), Nat.le_trans (depth_int i) (by decide)⟩
theorem badRow_le {k : Nat} : ∀ {rs : List (List Str)} {n m : Int}, badRow n k rs = some m → n ≤ m ∧ m < n + rs.length
  | [], _, _, h => by cases h
  | r :: rs, n, m, h => by
    unfold badRow at h
    split at h
    · have := badRow_le h
      rw [List.length_cons]
      omega
    · cases h
      rw [List.length_cons]
      omega
theorem dup_mem : ∀ {xs seen : List Str} {d : Str}, dupFrom seen xs = some d → d ∈ xs
  | [], _, _, h => by cases h
  | x :: xs, seen, d, h => by
    rw [dupFrom_cons] at h
    split at h
    · cases h; exact List.mem_cons_self
    · exact List.mem_cons_of_mem _ (dup_mem h)
theorem stepIn_mem {n s : Int} : ∀ {ps : List (Str × Int)} {e : Int × Str}, stepIn n s ps = some e → e.1 = s ∧ ∃ p ∈ ps, p.1 = e.2
  | [], _, h => by cases h
  | p :: ps, e, h => by
    unfold stepIn at h
    split at h
    · cases h; exact ⟨rfl, p, List.mem_cons_self, rfl⟩
    · obtain ⟨h1, q, hq, h2⟩ := stepIn_mem h
      exact ⟨h1, q, List.mem_cons_of_mem _ hq, h2⟩
theorem stepFrom_mem {n : Int} {ls : List Str} : ∀ {rs : List (List Int)} {s : Int} {e : Int × Str}, stepFrom n ls s rs = some e → (s ≤ e.1 ∧ e.1 < s + rs.length) ∧ e.2 ∈ ls
  | [], _, _, h => by cases h
  | r :: rs, s, e, h => by
    unfold stepFrom at h
    rw [List.length_cons]
    split at h
    · rename_i e2 he
      cases h
      obtain ⟨h1, q, hq, h2⟩ := stepIn_mem he
      exact ⟨by omega, by rw [← h2]; exact (List.of_mem_zip hq).1⟩
    · have := stepFrom_mem h
      exact ⟨by omega, this.2⟩
theorem word_text : Word "text" ∧ Word "twice" ∧ Word "step" ∧ Word "made" := by
  have : ∀ s ∈ [Str.ofString "text", Str.ofString "twice", Str.ofString "step", Str.ofString "made"], 1 ≤ s.length ∧ s.length ≤ 8 ∧ ∀ c ∈ s.cps.toList, 97 ≤ c ∧ c ≤ 122 := by decide +kernel
  exact ⟨this _ (by simp), this _ (by simp), this _ (by simp), this _ (by simp)⟩
theorem tf2 {a b : PyData} (ha : Sml 120000 a ∧ a.depth ≤ 2) (hb : Sml 120000 b ∧ b.depth ≤ 2) : Tf (.tuple [a, b]) := ⟨_, rfl, Nat.le_of_ble_eq_true rfl, fun x hx => by
  rcases List.mem_cons.mp hx with e | e
  · rw [e]; exact ha
  · rw [List.mem_singleton.mp e]; exact hb⟩
theorem tf3 {a b c : PyData} (ha : Sml 120000 a ∧ a.depth ≤ 2) (hb : Sml 120000 b ∧ b.depth ≤ 2) (hc : Sml 120000 c ∧ c.depth ≤ 2) : Tf (.tuple [a, b, c]) := ⟨_, rfl, Nat.le_of_ble_eq_true rfl, fun x hx => by
  rcases List.mem_cons.mp hx with e | hx
  · rw [e]; exact ha
  rcases List.mem_cons.mp hx with e | e
  · rw [e]; exact hb
  · rw [List.mem_singleton.mp e]; exact hc⟩
theorem tf4 {a b c d : PyData} (ha : Sml 120000 a ∧ a.depth ≤ 2) (hb : Sml 120000 b ∧ b.depth ≤ 2) (hc : Sml 120000 c ∧ c.depth ≤ 2) (hd : Sml 120000 d ∧ d.depth ≤ 2) : Tf (.tuple [a, b, c, d]) := ⟨_, rfl, Nat.le_of_ble_eq_true rfl, fun x hx => by
  rcases List.mem_cons.mp hx with e | hx
  · rw [e]; exact ha
  rcases List.mem_cons.mp hx with e | hx
  · rw [e]; exact hb
  rcases List.mem_cons.mp hx with e | e
  · rw [e]; exact hc
  · rw [List.mem_singleton.mp e]; exact hd⟩
theorem tf_ints {r : List Int} {n : Nat} (h : ∀ g ∈ r, 0 ≤ g ∧ g < 1000) (hl : r.length ≤ n) : Sml (1002 * n) (.tuple (r.map fun q1 => PyData.int q1)) ∧ (PyData.tuple (r.map fun q1 => PyData.int q1)).depth ≤ 1 := by
  have h1 : ∀ x ∈ r.map fun q1 => PyData.int q1, Sml 1001 x ∧ x.depth ≤ 0 := fun x hx => by
    obtain ⟨g, hg, rfl⟩ := List.mem_map.mp hx
    exact ⟨sml_int (h g hg).1 (h g hg).2, depth_int g⟩
  refine ⟨(sml_tup fun x hx => (h1 x hx).1).mono ?_, depth_tup fun x hx => (h1 x hx).2⟩
  rw [List.length_map]
  exact Nat.mul_le_mul_left _ hl
theorem told_fits {t : Str} (hT : TB t) : Tf (f_told t) := by
  obtain ⟨hl, hc, h7⟩ := hT
  obtain ⟨hw1, hw2, hw3, hw4⟩ := word_text
  have hwl : (wordsT t).length ≤ 19 := by
    have h := nl_len t
    have e : (wordsT t).length = (Txt.split t (Str.ofString "\n")).length := List.length_map ..
    omega
  unfold f_told
  cases hg : g_read_machine t with
  | inr r =>
    have hcase := hg
    unfold g_read_machine at hcase
    split at hcase
    · rename_i hh
      have hls : ∀ w ∈ ((wordsT t).headD default).tail, Word w := fun w hw => by
        unfold headOk at hh
        rw [Bool.and_eq_true] at hh
        exact name_word (List.all_eq_true.mp hh.2 w hw)
      split at hcase
      · cases hcase; exact tf2 (tf_str hw1) (tf_int (by decide) (by decide))
      · split at hcase
        · rename_i n hb
          cases hcase
          have := badRow_le hb
          rw [List.length_tail] at this
          exact tf2 (tf_str hw1) (tf_int (by omega) (by omega))
        · unfold g_Machine_init at hcase
          split at hcase
          · rename_i d hd
            cases hcase
            exact tf2 (tf_str hw2) (tf_str (hls _ (dup_mem hd)))
          · split at hcase
            · rename_i e he
              cases hcase
              have h := stepFrom_mem he
              have el : (tabOf (wordsT t).tail).length = (wordsT t).length - 1 := by unfold tabOf; rw [List.length_map, List.length_tail]
              have h1 : 0 ≤ e.1 ∧ e.1 < 0 + ((tabOf (wordsT t).tail).length : Int) := h.1
              exact tf3 (tf_str hw3) (tf_int (by omega) (by omega)) (tf_str (hls _ h.2))
            · cases hcase
    · cases hcase; exact tf2 (tf_str hw1) (tf_int (by decide) (by decide))
  | inl m =>
    have hcase := hg
    unfold g_read_machine at hcase
    split at hcase
    · rename_i hh
      have hls : ∀ w ∈ ((wordsT t).headD default).tail, Word w := fun w hw => by
        unfold headOk at hh
        rw [Bool.and_eq_true] at hh
        exact name_word (List.all_eq_true.mp hh.2 w hw)
      have hl6 : ((wordsT t).headD default).tail.length ≤ 6 := by rw [List.length_tail]; omega
      split at hcase
      · cases hcase
      · split at hcase
        · cases hcase
        · rename_i hb
          have hro := badRow_none hb
          unfold g_Machine_init at hcase
          split at hcase
          · cases hcase
          · split at hcase
            · cases hcase
            · cases hcase
              have htl : (wordsT t).tail.length ≤ 18 := by rw [List.length_tail]; omega
              refine tf4 (tf_str hw4) ⟨(sml_words hls hl6).1.mono (by decide), ?_⟩ ⟨?_, ?_⟩ ⟨?_, ?_⟩
              · refine Nat.le_trans (depth_tup (n := 0) fun x hx => ?_) (by decide)
                obtain ⟨w, _, rfl⟩ := List.mem_map.mp hx
                exact depth_str w
              · have h1 : ∀ x ∈ (tabOf (wordsT t).tail).map fun q0 => PyData.tuple (q0.map fun q1 => PyData.int q1), Sml 6012 x := fun x hx => by
                  obtain ⟨r, hr, rfl⟩ := List.mem_map.mp hx
                  obtain ⟨ws, hws, rfl⟩ := List.mem_map.mp hr
                  have hp := rowOk_parts (hro ws hws)
                  refine (tf_ints (n := 6) (fun g hg => ?_) (by rw [List.length_map, hp.1]; exact hl6)).1
                  obtain ⟨w, hw, rfl⟩ := List.mem_map.mp hg
                  exact num_small (hp.2 w hw)
                refine (sml_tup h1).mono ?_
                unfold tabOf
                rw [List.length_map, List.length_map]
                omega
              · refine depth_tup fun x hx => ?_
                obtain ⟨r, hr, rfl⟩ := List.mem_map.mp hx
                refine depth_tup fun y hy => ?_
                obtain ⟨g, _, rfl⟩ := List.mem_map.mp hy
                exact depth_int g
              · have hgl : (goods (wordsT t).tail).length ≤ 18 := by
                  refine Nat.le_trans (List.length_filter_le _ _) ?_
                  rw [rng_len]
                  exact htl
                exact (tf_ints (n := 18) (fun g hg => by have := rng_mem (List.mem_filter.mp hg).1; omega) hgl).1.mono (by decide)
              · refine Nat.le_trans (depth_tup (n := 0) fun x hx => ?_) (by decide)
                obtain ⟨g, _, rfl⟩ := List.mem_map.mp hx
                exact depth_int g
    · cases hcase
theorem text_small {m : Ma} (h : MaOk m) (h8 : m.2.1.length ≤ 8) (h4 : m.1.length ≤ 4) : (textM m).length ≤ 450 ∧ cnt (textM m) ≤ 8 ∧ ((wordsT (textM m)).headD default).length ≤ 7 := by
  have hln : ∀ l ∈ linesT m, l.length ≤ 45 ∧ (10 : Nat) ∉ l.cps.toList := fun l hl => by
    rcases List.mem_cons.mp hl with e | e
    · rw [e]
      refine ⟨?_, sp_no (head33 h)⟩
      have h1 := len_join (("letters" : Str) :: m.1)
      have h2 : ((("letters" : Str) :: m.1).map (·.length)).sum ≤ 8 * (("letters" : Str) :: m.1).length := sum_le fun x hx => by
        rcases List.mem_cons.mp hx with e | e
        · rw [e]; exact goodw.2.2.2.1
        · exact (h.1.w x e).2.1
      rw [List.length_cons] at h1 h2
      omega
    · obtain ⟨k, hk, rfl⟩ := List.mem_map.mp e
      have hk2 := rng_mem hk
      have hr := h.1.row hk2.1 hk2.2
      refine ⟨?_, sp_no (row33 (wordOf _ _) hr.2)⟩
      have h1 := len_join ((if decide (k ∈ m.2.2) then ("good" : Str) else "plain") :: (pyIx m.2.1 k).map strI)
      have h2 : (((if decide (k ∈ m.2.2) then ("good" : Str) else "plain") :: (pyIx m.2.1 k).map strI).map (·.length)).sum ≤ 8 * ((if decide (k ∈ m.2.2) then ("good" : Str) else "plain") :: (pyIx m.2.1 k).map strI).length := sum_le fun x hx => by
        rcases List.mem_cons.mp hx with e | e
        · rw [e]
          rcases wordOf m.2.2 k with h | h
          · rw [h]; exact goodw.1.2.1
          · rw [h]; exact goodw.2.1.2.1
        · obtain ⟨g, hg, rfl⟩ := List.mem_map.mp e
          have := (num (hr.2 g hg).1 (hr.2 g hg).2).l2
          omega
      rw [List.length_cons, List.length_map] at h1 h2
      have := hr.1
      show (Str.join " " _).length ≤ 45
      omega
  have lines : (linesT m).length = m.2.1.length + 1 := by
    show (statesT m).length + 1 = _
    rw [states_len]
  have hs : lsum (linesT m) ≤ 45 * (linesT m).length := sum_le fun l hl => (hln l hl).1
  have hj := join_nl (linesT m)
  refine ⟨?_, ?_, ?_⟩
  · show (Str.join (Str.ofString "\n") (linesT m)).length ≤ 450
    omega
  · show cnt (Str.join (Str.ofString "\n") (linesT m)) ≤ 8
    rw [cnt_join_nl _ fun l hl => (hln l hl).2]
    omega
  · have e : wordsT (textM m) = (linesT m).map fun r => Txt.split r " " := by
      unfold wordsT
      rw [split_textM h]
    have e2 : (linesT m).map (fun r => Txt.split r " ") = Txt.split (Str.join " " (("letters" : Str) :: m.1)) " " :: (statesT m).map fun r => Txt.split r " " := rfl
    rw [e, e2, split_head h]
    show (("letters" : Str) :: m.1).length ≤ 7
    rw [List.length_cons]
    omega
end K13
namespace K13
open PySem PySem.Spec PyProof.Rows L2 MD KP
section
variable {P : Program} {w : World} {K : PySem.W.Frag} {mg : Str → Option Value} {base : Heap}
abbrev s_BadGood_init : Stmt := (inClass (topS 6) 0)
theorem sc_BadGood_init : FnScope ["self", "state"] ["self", "state"] (defScope s_BadGood_init) := ⟨rfl, rfl, rfl, by decide +kernel, rfl, by decide +kernel, by decide +kernel⟩
theorem ok_BadGood_init {C B : Addr} (T : OexC K C) (M : MoT K mg "MeetError" B) (n0 : PySem.W.findIn K (.ref C) "state" = some none) {f : Addr} {fd : FuncData} (F : Fun K "__init__" "BadGood.__init__" s_BadGood_init f fd) : FnOk P w K mg base (L2.CX P w) 1 f fd ["self", "state"] (spX1 C "state") := by
  refine F.okX sc_BadGood_init (fun vs H Q E hh => ?_) (fun cdv A outer s H vs Q E hr hh => ⟨_, pss_cons (ps_expr (pe_moinit M (pa_cons (pv 0) (pa_cons (pv 1) pa_nil)))) (pss_one (ps_ost (pv 0) (pv 1))), ?_⟩)
  · obtain ⟨a, v0, rfl, _⟩ := hh
    rfl
  · obtain ⟨a, v0, rfl, ha, k⟩ := hh
    exact ⟨_, rfl, _, rfl, a, C, _, rfl, Nat.le_of_ble_eq_true rfl, T, ha, _, rfl, _, rfl, a, C, rfl, T, n0, .inl ⟨ha, fun d hd hda => k d hd hda⟩⟩
abbrev s_BadStep_init : Stmt := (inClass (topS 5) 0)
theorem sc_BadStep_init : FnScope ["self", "state", "letter"] ["self", "state", "letter"] (defScope s_BadStep_init) := ⟨rfl, rfl, rfl, by decide +kernel, rfl, by decide +kernel, by decide +kernel⟩
theorem ok_BadStep_init {C B : Addr} (T : OexC K C) (M : MoT K mg "MeetError" B) (n0 : PySem.W.findIn K (.ref C) "state" = some none) (n1 : PySem.W.findIn K (.ref C) "letter" = some none) {f : Addr} {fd : FuncData} (F : Fun K "__init__" "BadStep.__init__" s_BadStep_init f fd) : FnOk P w K mg base (L2.CX P w) 1 f fd ["self", "state", "letter"] (spX2 C "state" "letter") := by
  refine F.okX sc_BadStep_init (fun vs H Q E hh => ?_) (fun cdv A outer s H vs Q E hr hh => ⟨_, pss_cons (ps_expr (pe_moinit M (pa_cons (pv 0) (pa_cons (pv 1) (pa_cons (pv 2) pa_nil))))) (pss_cons (ps_ost (pv 0) (pv 1)) (pss_one (ps_ost (pv 0) (pv 2)))), ?_⟩)
  · obtain ⟨a, v0, v1, rfl, _⟩ := hh
    rfl
  · obtain ⟨a, v0, v1, rfl, ha, k⟩ := hh
    exact ⟨_, rfl, _, rfl, _, rfl, a, C, _, rfl, Nat.le_of_ble_eq_true rfl, T, ha, _, rfl, _, rfl, a, C, rfl, T, n0, .inl ⟨ha, fun d hd hda => ⟨_, rfl, _, rfl, a, C, rfl, T, n1, .inr ⟨d, _, upd_same, by rw [upd_ne hda, upd_same], Nat.le_of_ble_eq_true rfl, k d hd hda⟩⟩⟩⟩
abbrev s_NoText_init : Stmt := (inClass (topS 3) 0)
theorem sc_NoText_init : FnScope ["self", "line"] ["self", "line"] (defScope s_NoText_init) := ⟨rfl, rfl, rfl, by decide +kernel, rfl, by decide +kernel, by decide +kernel⟩
theorem ok_NoText_init {C B : Addr} (T : OexC K C) (M : MoT K mg "MeetError" B) (n0 : PySem.W.findIn K (.ref C) "line" = some none) {f : Addr} {fd : FuncData} (F : Fun K "__init__" "NoText.__init__" s_NoText_init f fd) : FnOk P w K mg base (L2.CX P w) 1 f fd ["self", "line"] (spX1 C "line") := by
  refine F.okX sc_NoText_init (fun vs H Q E hh => ?_) (fun cdv A outer s H vs Q E hr hh => ⟨_, pss_cons (ps_expr (pe_moinit M (pa_cons (pv 0) (pa_cons (pv 1) pa_nil)))) (pss_one (ps_ost (pv 0) (pv 1))), ?_⟩)
  · obtain ⟨a, v0, rfl, _⟩ := hh
    rfl
  · obtain ⟨a, v0, rfl, ha, k⟩ := hh
    exact ⟨_, rfl, _, rfl, a, C, _, rfl, Nat.le_of_ble_eq_true rfl, T, ha, _, rfl, _, rfl, a, C, rfl, T, n0, .inl ⟨ha, fun d hd hda => k d hd hda⟩⟩
abbrev s_Twice_init : Stmt := (inClass (topS 4) 0)
theorem sc_Twice_init : FnScope ["self", "name"] ["self", "name"] (defScope s_Twice_init) := ⟨rfl, rfl, rfl, by decide +kernel, rfl, by decide +kernel, by decide +kernel⟩
theorem ok_Twice_init {C B : Addr} (T : OexC K C) (M : MoT K mg "MeetError" B) (n0 : PySem.W.findIn K (.ref C) "name" = some none) {f : Addr} {fd : FuncData} (F : Fun K "__init__" "Twice.__init__" s_Twice_init f fd) : FnOk P w K mg base (L2.CX P w) 1 f fd ["self", "name"] (spX1 C "name") := by
  refine F.okX sc_Twice_init (fun vs H Q E hh => ?_) (fun cdv A outer s H vs Q E hr hh => ⟨_, pss_cons (ps_expr (pe_moinit M (pa_cons (pv 0) (pa_cons (pv 1) pa_nil)))) (pss_one (ps_ost (pv 0) (pv 1))), ?_⟩)
  · obtain ⟨a, v0, rfl, _⟩ := hh
    rfl
  · obtain ⟨a, v0, rfl, ha, k⟩ := hh
    exact ⟨_, rfl, _, rfl, a, C, _, rfl, Nat.le_of_ble_eq_true rfl, T, ha, _, rfl, _, rfl, a, C, rfl, T, n0, .inl ⟨ha, fun d hd hda => k d hd hda⟩⟩
abbrev s_cell : Stmt := topS 20
theorem sc_cell : FnScope ["_law_script", "_law_k", "_law_number"] ["_law_script", "_law_k"] (defScope s_cell) := ⟨rfl, rfl, rfl, by decide +kernel, rfl, by decide +kernel, by decide +kernel⟩
def c_cell (K : PySem.W.Frag) := Con.fn (K := K) (fun x : ((List Int) × Int) => [.val (tLK tI) x.1, .val tI x.2]) tI pre_cell f_cell
theorem ok_cell (bs : Bs mg) {f : Addr} {fd : FuncData} (F : Fun K "_law_cell" "_law_cell" s_cell f fd) : FnOk P w K mg base (L2.CX P w) 1 f fd ["_law_script", "_law_k"] (c_cell K).sp := by
  refine fn_con (c_cell K) F sc_cell (fun _ => rfl) ?_
  intro cdv Ar outer s H E F0 a φ ε hr hp
  have hu := hu_of hr
  have sc := sc_cell
  refine' SK.vc ?hh ?vc
  case hh =>
   refine' sk_seq (sk_if1 (pt_cmp' op_lt r2_B0 (pk_var (i := 1) rfl) (PV.k (pv_cb cr_lenQ bs.m_len bs.b_len u_len (PV.kq (PK.lk (pk_var (i := 0) rfl)))))) ?a12 ?b13)
   case a12 =>
    exact sk_retF (pk_ixR (T := tI) (PK.lk (pk_var (i := 0) rfl)) (pk_var (i := 1) rfl))
   case b13 =>
    refine' sk_nilX rfl ?k14
    case k14 =>
     refine' sk_set (i := 2) (by exact sc.nd) (pk_op op_add r2_I0 (pk_op op_mul r2_I (pk_var (i := 1) rfl) pk_int) pk_int) ?k15
     case k15 =>
      intro number_1
      refine' sk_st (ρ2 := [.val (tLK tI) a.1, .val tI a.2, .val tI number_1]) (cs2 := []) rfl rfl ?k16
      case k16 =>
       refine' sk_join (fun z_2 : Int => [.val (tLK tI) a.1, .val tI a.2, .val tI z_2]) (fun z_2 : Int => []) ?h17 ?k18
       case h17 =>
        intro R_3
        refine' sk_if1 (pt_cmp' op_gt r2_B0 (PV.k (pv_cb cr_lenQ bs.m_len bs.b_len u_len (PV.kq (PK.lk (pk_var (i := 0) rfl))))) pk_int) ?a19 ?b20
        case a19 =>
         refine' sk_set (i := 2) (by exact sc.nd) (pk_op op_add r2_I0 (pk_op op_mul r2_I (pk_op op_mod r2_I (pk_ixR (T := tI) (PK.lk (pk_var (i := 0) rfl)) (pk_op op_mod r2_I (pk_op op_mul r2_I (pk_var (i := 1) rfl) pk_int) (PV.k (pv_cb cr_lenQ bs.m_len bs.b_len u_len (PV.kq (PK.lk (pk_var (i := 0) rfl))))))) pk_int) pk_int) (pk_op op_mul r2_I (pk_var (i := 1) rfl) pk_int)) ?k21
         case k21 =>
          intro number_4
          refine' sk_st (ρ2 := [.val (tLK tI) a.1, .val tI a.2, .val tI number_4]) (cs2 := []) rfl rfl ?k22
          case k22 =>
           exact sk_midX (z := _) rfl (.same (.same (.same .nil))) rfl
        case b20 =>
         exact sk_midX (z := _) rfl (.same (.same (.same .nil))) rfl
       case k18 =>
        intro z_2
        exact sk_retF (pk_op op_mul r2_I (pk_op op_mod r2_I (pk_var (i := 2) rfl) pk_int) pk_int)
  case vc =>
   intro h
   simp only [true_and, and_true, yes1, yes2]
   obtain ⟨xs, k⟩ := a
   obtain ⟨hk, hφ⟩ := h
   have hk : 0 ≤ k := hk
   try dsimp only at hφ
   try dsimp only
   have l0 : (0 : Int) ≤ xs.length := Int.natCast_nonneg _
   refine ⟨fun h1 => ?_, fun h1 => ?_⟩
   · have h1 : k < xs.length := of_decide_eq_true h1
     refine ⟨⟨by omega, h1⟩, hφ _ ?_⟩
     unfold f_cell
     rw [if_pos h1]
   · have h1 : ¬ k < xs.length := of_decide_eq_false h1
     refine ⟨.inr ⟨by decide, by decide⟩, fun z hz => ⟨fun y => y = (if 0 < xs.length then pyIx xs (k * 7 % xs.length) % 2147483629 * 48271 + k * 7919 else k * 7919 + 5), ⟨fun h2 => ?_, fun h2 => ?_⟩, fun y hy => ?_⟩⟩
     · have h2 : 0 < (xs.length : Int) := of_decide_eq_true h2
       have h3 : 0 < xs.length := by omega
       refine ⟨⟨⟨⟨⟨⟨.inr ⟨by decide, by decide⟩, h2⟩, ?_⟩, by decide⟩, .inr ⟨by decide, by decide⟩⟩, .inr ⟨by decide, by decide⟩⟩, fun y hy => ?_⟩
       · have := Int.emod_nonneg (k * 7) (show (xs.length : Int) ≠ 0 by omega)
         exact ⟨by omega, Int.emod_lt_of_pos _ h2⟩
       · rw [if_pos h3]; exact hy
     · have h2 : ¬ 0 < (xs.length : Int) := of_decide_eq_false h2
       rw [if_neg (by omega)]; exact hz
     · refine ⟨⟨by decide, .inr ⟨by decide, by decide⟩⟩, hφ _ ?_⟩
       unfold f_cell
       rw [if_neg h1, hy]
abbrev s_flow : Stmt := topS 21
theorem sc_flow : FnScope ["_law_script", "_law_k", "_law_cell_here", "_law_own"] ["_law_script", "_law_k"] (defScope s_flow) := ⟨rfl, rfl, rfl, by decide +kernel, rfl, by decide +kernel, by decide +kernel⟩
def c_flow (K : PySem.W.Frag) := Con.mk1 (K := K) (fun x : ((List Int) × Int) => [.val (tLK tI) x.1, .val tI x.2]) tI pre_flow post_flow
theorem ok_flow (bs : Bs mg) {f_cell : Addr} {fd_cell : FuncData} (g_cell : Cal P w K mg base "_law_cell" 1 ["_law_script", "_law_k"] (c_cell K).sp f_cell fd_cell) {f : Addr} {fd : FuncData} (F : Fun K "_law_flow" "_law_flow" s_flow f fd) : FnOk P w K mg base (L2.CX P w) 2 f fd ["_law_script", "_law_k"] (c_flow K).sp := by
  refine fn_con (c_flow K) F sc_flow (fun _ => rfl) ?_
  intro cdv Ar outer s H E F0 a φ ε hr hp
  have hu := hu_of hr
  have sc := sc_flow
  refine' SK.vc ?hh ?vc
  case hh =>
   refine' sk_set (i := 2) (by exact sc.nd) (pk_fn g_cell.F (slC sl1) hr g_cell.m g_cell.k g_cell.b (pa_C (pk_var (i := 0) rfl) (pa_1 (pk_var (i := 1) rfl)))) ?k33
   case k33 =>
    intro cell_here_1
    refine' sk_st (ρ2 := [.val (tLK tI) a.1, .val tI a.2, .val tI cell_here_1, .un]) (cs2 := []) rfl rfl ?k34
    case k34 =>
     refine' sk_set (i := 3) (by exact sc.nd) pk_int ?k35
     case k35 =>
      intro own_2
      refine' sk_st (ρ2 := [.val (tLK tI) a.1, .val tI a.2, .val tI cell_here_1, .val tI own_2]) (cs2 := []) rfl rfl ?k36
      case k36 =>
       refine' sk_join (fun z_3 : Int => [.val (tLK tI) a.1, .val tI a.2, .val tI cell_here_1, .val tI z_3]) (fun z_3 : Int => []) ?h37 ?k38
       case h37 =>
        intro R_4
        refine' sk_if1 (pt_cmp' op_ge r2_B0 (pk_var (i := 2) rfl) (pk_op op_pow r2_I pk_int pk_int)) ?a39 ?b40
        case a39 =>
         refine' sk_set (i := 3) (by exact sc.nd) (pk_var (i := 2) rfl) ?k41
         case k41 =>
          intro own_5
          refine' sk_st (ρ2 := [.val (tLK tI) a.1, .val tI a.2, .val tI cell_here_1, .val tI own_5]) (cs2 := []) rfl rfl ?k42
          case k42 =>
           exact sk_midX (z := _) rfl (.same (.same (.same (.same .nil)))) rfl
        case b40 =>
         exact sk_midX (z := _) rfl (.same (.same (.same (.same .nil)))) rfl
       case k38 =>
        intro z_3
        exact sk_retN (NK.ne (nk_lst (pl_C (pk_var (i := 3) rfl) (pl_C pk_int (pl_C (pk_op op_add r2_I0 (pk_op op_mod r2_I (pk_var (i := 2) rfl) pk_int) (pk_op op_mul r2_I pk_int (pk_var (i := 1) rfl))) pl_0))) (Nat.le_of_ble_eq_true rfl)))
  case vc =>
   intro h
   simp only [true_and, and_true, yes1, yes2]
   obtain ⟨xs, k⟩ := a
   obtain ⟨⟨k0, k1⟩, hφ⟩ := h
   have k0 : 0 ≤ k := k0
   have k1 : k ≤ 1000000 := k1
   try dsimp only at hφ
   try dsimp only
   refine ⟨k0, fun c hc o ho => ⟨fun _ => True, ⟨⟨by decide, by decide, by decide⟩, fun _ _ _ => trivial, fun _ => trivial⟩, fun x _ => ⟨⟨by decide, .inl ⟨by decide, by decide⟩⟩, fun l r hr => hφ l r ?_⟩⟩⟩
   have m := Int.emod_nonneg c (show (2147483629 : Int) ≠ 0 by decide)
   have m2 := Int.emod_lt_of_pos c (show (0 : Int) < 2147483629 by decide)
   exact ⟨x, 0, c % 2147483629 + 40692 * k, hr, by omega, by omega⟩
abbrev s_draw : Stmt := topS 22
theorem sc_draw : FnScope ["_law_flow_here", "_law_many", "_law_digit", "_law_number"] ["_law_flow_here", "_law_many"] (defScope s_draw) := ⟨rfl, rfl, rfl, by decide +kernel, rfl, by decide +kernel, by decide +kernel⟩
def c_draw (K : PySem.W.Frag) := Con.o1 (K := K) tI (fun x : Int => [.val tI x]) tI pre_draw post_draw
theorem ok_draw (bs : Bs mg) {f : Addr} {fd : FuncData} (F : Fun K "_law_draw" "_law_draw" s_draw f fd) : FnOk P w K mg base (L2.CX P w) 1 f fd ["_law_flow_here", "_law_many"] (c_draw K).sp := by
  refine fn_con (c_draw K) F sc_draw (fun _ => rfl) ?_
  intro cdv Ar outer s H E F0 a φ ε hr hp
  have hu := hu_of hr
  have sc := sc_draw
  refine' SK.vc ?hh ?vc
  case hh =>
   refine' sk_seq (sk_if1 (pt_cmp' op_gt r2_B0 (pk_ixR (T := tI) (PV.lk (PK.own 0 (pk_var (i := 0) rfl) rfl)) pk_int) pk_int) ?a56 ?b57)
   case a56 =>
    refine' sk_set (i := 2) (by exact sc.nd) (pk_op op_mod r2_I (pk_ixR (T := tI) (PV.lk (PK.own 0 (pk_var (i := 0) rfl) rfl)) pk_int) (pk_var (i := 1) rfl)) ?k58
    case k58 =>
     intro digit_1
     refine' sk_st (ρ2 := [.val tR a.1, .val tI a.2.2, .val tI digit_1, .un]) (cs2 := [⟨a.1, cL tI a.2.1⟩]) rfl rfl ?k59
     case k59 =>
      refine' sk_setIx 0 (PK.ek (pk_op op_fdiv r2_I (pk_ixR (T := tI) (PV.lk (PK.own 0 (pk_var (i := 0) rfl) rfl)) pk_int) (pk_var (i := 1) rfl))) (fun _ => (pk_var (i := 0) rfl)) (fun _ => pk_int) (fun _ => rfl) ?k60
      case k60 =>
       intro y_2 w_3
       refine' sk_st (ρ2 := [.val tR a.1, .val tI a.2.2, .val tI digit_1, .un]) (cs2 := [⟨a.1, cL tI w_3⟩]) rfl rfl ?k61
       case k61 =>
        exact sk_retO (pk_var (i := 2) rfl) rfl
   case b57 =>
    refine' sk_nilX rfl ?k62
    case k62 =>
     refine' sk_setIx 0 (PK.ek (pk_op op_add r2_I0 (pk_ixR (T := tI) (PV.lk (PK.own 0 (pk_var (i := 0) rfl) rfl)) pk_int) pk_int)) (fun _ => (pk_var (i := 0) rfl)) (fun _ => pk_int) (fun _ => rfl) ?k63
     case k63 =>
      intro y_4 w_5
      refine' sk_st (ρ2 := [.val tR a.1, .val tI a.2.2, .un, .un]) (cs2 := [⟨a.1, cL tI w_5⟩]) rfl rfl ?k64
      case k64 =>
       refine' sk_set (i := 3) (by exact sc.nd) (pk_op op_mod r2_I (pk_op op_add r2_I0 (pk_op op_add r2_I0 (pk_op op_mul r2_I (pk_ixR (T := tI) (PV.lk (PK.own 0 (pk_var (i := 0) rfl) rfl)) pk_int) (pk_op op_add r2_I0 pk_int (pk_op op_mul r2_I pk_int (pk_ixR (T := tI) (PV.lk (PK.own 0 (pk_var (i := 0) rfl) rfl)) pk_int)))) (pk_op op_mul r2_I pk_int (pk_ixR (T := tI) (PV.lk (PK.own 0 (pk_var (i := 0) rfl) rfl)) pk_int))) pk_int) pk_int) ?k65
       case k65 =>
        intro number_6
        refine' sk_st (ρ2 := [.val tR a.1, .val tI a.2.2, .un, .val tI number_6]) (cs2 := [⟨a.1, cL tI w_5⟩]) rfl rfl ?k66
        case k66 =>
         refine' sk_set (i := 3) (by exact sc.nd) (pk_op op_mod r2_I (pk_op op_mul r2_I (pk_var (i := 3) rfl) (pk_var (i := 3) rfl)) pk_int) ?k67
         case k67 =>
          intro number_7
          refine' sk_st (ρ2 := [.val tR a.1, .val tI a.2.2, .un, .val tI number_7]) (cs2 := [⟨a.1, cL tI w_5⟩]) rfl rfl ?k68
          case k68 =>
           exact sk_retO (pk_op op_mod r2_I (pk_op op_fdiv r2_I (pk_op op_mod r2_I (pk_op op_mul r2_I (pk_op op_add r2_I0 (pk_var (i := 3) rfl) pk_int) (pk_op op_add r2_I0 (pk_var (i := 3) rfl) pk_int)) pk_int) pk_int) (pk_var (i := 1) rfl)) rfl
  case vc =>
   intro h
   simp only [true_and, and_true, yes1, yes2]
   obtain ⟨l, fl, n⟩ := a
   obtain ⟨⟨⟨x, b, c, hf, c0, c1⟩, n0, n1⟩, hφ⟩ := h
   simp only at hf n0 n1 hφ ⊢
   subst hf
   have i0 : pyIx [x, b, c] 0 = x := rfl
   have o0 : IxOk [x, b, c] 0 := ⟨by simp, by simp⟩
   have o1 : IxOk [x, b, c] 1 := ⟨by simp, by simp⟩
   have w0 : IxW [x, b, c] 0 := ⟨by simp, by simp⟩
   have w1 : IxW [x, b, c] 1 := ⟨by simp, by simp⟩
   rw [i0]
   refine ⟨o0, fun hx => ⟨⟨o0, n0⟩, fun z hz => ⟨⟨o0, ?_⟩, w0, fun z1 hz1 => hφ _ _ ⟨?_, ?_, ?_⟩⟩⟩, fun hx => ⟨o1, w1, fun z hz => ?_⟩⟩
   · exact ⟨n0, by omega⟩
   · rw [hz]; exact Int.emod_nonneg _ (by omega)
   · rw [hz]; exact Int.emod_lt_of_pos _ n0
   · exact ⟨x / n, b, c, by rw [hz1]; rfl, c0, c1⟩
   · have hz' : z = [x, b + 1, c] := by rw [hz]; rfl
     clear hz
     subst hz'
     have j1 : pyIx [x, b + 1, c] 1 = b + 1 := rfl
     have j2 : pyIx [x, b + 1, c] 2 = c := rfl
     have p1 : IxOk [x, b + 1, c] 1 := ⟨by simp, by simp⟩
     have p2 : IxOk [x, b + 1, c] 2 := ⟨by simp, by simp⟩
     rw [j1, j2]
     refine ⟨⟨⟨⟨p2, ⟨p1, .inl ⟨by decide, by decide⟩⟩, .inl ⟨by omega, by omega⟩⟩, p1, .inl ⟨by decide, by decide⟩⟩, by decide⟩, fun z1 hz1 => ?_⟩
     have m1 : 0 ≤ z1 ∧ z1 < 2147483629 := by rw [hz1]; exact ⟨Int.emod_nonneg _ (by decide), Int.emod_lt_of_pos _ (by decide)⟩
     clear hz1
     refine ⟨⟨.inl ⟨by omega, by omega⟩, by decide⟩, fun z2 hz2 => ?_⟩
     have m2 : 0 ≤ z2 ∧ z2 < 2147483587 := by rw [hz2]; exact ⟨Int.emod_nonneg _ (by decide), Int.emod_lt_of_pos _ (by decide)⟩
     clear hz2
     refine ⟨⟨⟨⟨.inl ⟨by omega, by omega⟩, by decide⟩, ⟨by decide, by decide⟩⟩, n0⟩, hφ _ _ ⟨Int.emod_nonneg _ (by omega), Int.emod_lt_of_pos _ n0, x, b + 1, c, rfl, c0, c1⟩⟩
abbrev s_names : Stmt := topS 23
theorem sc_names : FnScope ["_law_flow_here", "_law_many", "_law_some", "_law_found", "_law_k", "_law_name", "_law_word", "_law_at", "_law_first", "_law_long", "_law_j", "_law_one"] ["_law_flow_here", "_law_many"] (defScope s_names) := ⟨rfl, rfl, rfl, by decide +kernel, rfl, by decide +kernel, by decide +kernel⟩
def c_names (K : PySem.W.Frag) := Con.o1m (K := K) tI (fun x : Int => [.val tI x]) tS pre_names post_names
theorem ok_names (bs : Bs mg) {f_draw : Addr} {fd_draw : FuncData} (g_draw : Cal P w K mg base "_law_draw" 1 ["_law_flow_here", "_law_many"] (c_draw K).sp f_draw fd_draw) {f : Addr} {fd : FuncData} (F : Fun K "_law_names" "_law_names" s_names f fd) : FnOk P w K mg base (L2.CX P w) 2 f fd ["_law_flow_here", "_law_many"] (c_names K).sp := by
  refine fn_con (c_names K) F sc_names (fun _ => rfl) ?_
  intro cdv Ar outer s H E F0 a φ ε hr hp
  have hu := hu_of hr
  have sc := sc_names
  refine' SK.vc ?hh ?vc
  case hh =>
   refine' sk_set (i := 2) (by exact sc.nd) pk_str ?k138
   case k138 =>
    intro some_1
    refine' sk_st (ρ2 := [.val tR a.1, .val tI a.2.2, .val tS some_1, .un, .un, .un, .un, .un, .un, .un, .un, .un]) (cs2 := [⟨a.1, cL tI a.2.1⟩]) rfl rfl ?k139
    case k139 =>
     refine' sk_seq (sk_if1E (tk_cmp op_eq r2_eqI (ek_o1 0 g_draw.F sl1 hr g_draw.m g_draw.k g_draw.b (pk_var (i := 0) rfl) (PAK.ak (pa_1 pk_int)) (fun _ => rfl)) (fun _ => (PK.ek pk_int))) ?a140 ?b141)
     case a140 =>
      intro y_2
      refine' sk_name 0 rfl ?k142
      case k142 =>
       intro w_4
       refine' sk_st (ρ2 := [.val tR a.1, .val tI a.2.2, .val tS some_1, .un, .un, .un, .un, .un, .un, .un, .un, .un]) (cs2 := [⟨a.1, cL tI w_4⟩]) rfl rfl ?k143
       case k143 =>
        refine' sk_setN (i := 3) (T := tS) (by exact sc.nd) (NK.ne (nk_lst (T := tS) (pl_0 (T := tS)) (Nat.zero_le _))) ?k144
        case k144 =>
         intro y_5 a_6 found_7
         refine' sk_st (ρ2 := [.val tR a.1, .val tI a.2.2, .val tS some_1, .val tR a_6, .un, .un, .un, .un, .un, .un, .un, .un]) (cs2 := [⟨a.1, cL tI w_4⟩, ⟨a_6, cL tS found_7⟩]) rfl rfl ?k145
         case k145 =>
          refine' sk_for (fun z_8 : (List Int × List Str) => [.val tR a.1, .val tI a.2.2, .val tS some_1, .val tR a_6, .un, .un, .un, .un, .un, .un, .un, .un]) (fun z_8 : (List Int × List Str) => [⟨a.1, cL tI z_8.1⟩, ⟨a_6, cL tS z_8.2⟩]) (_, _) hp rfl (ik_range1 bs.m_range (pk_var (i := 1) rfl)) (gk_name (i := 4) (by exact sc.nd)) (.same (.same (.same (.same (.same (.same (.same (.same (.same (.same (.same (.same .nil)))))))))))) rfl ?b146 ?k147
          case b146 =>
           intro fl_12 hs_11 N_10 z_8 x_9
           refine' sk_st (ρ2 := [.val tR a.1, .val tI a.2.2, .val tS some_1, .val tR a_6, .val tI x_9, .un, .un, .un, .un, .un, .un, .un]) (cs2 := [⟨a.1, cL tI z_8.1⟩, ⟨a_6, cL tS z_8.2⟩]) rfl rfl ?k148
           case k148 =>
            refine' sk_setE (i := 5) (by exact sc.nd) (ek_join pk_str (EV.q (NE.l (ne_lc rfl (by exact sc.nd) ?lc2 ?lc1 ?lc3)))) ?k152
            case lc2 =>
             exact blkOk_by (own := [("_law_j", 10)]) (N := ["_law_flow_here", "_law_many", "_law_some", "_law_found", "_law_k", "_law_name", "_law_word", "_law_at", "_law_first", "_law_long", "_law_j", "_law_one"]) (sc := defScope s_names) (by decide +kernel)
            case lc1 =>
             exact lc_k (own := [("_law_j", 10)]) (T := tI) (U := tS) (G := fun ρ x => (List.set ρ 10 (.val tI x))) (vs := [10]) (cs' := (fun c_13 : List Int => [⟨a.1, cL tI c_13⟩, ⟨a_6, cL tS z_8.2⟩])) (z0 := fun y => _) (ie_range1 bs.m_range (ek_op op_add r2_I0 (PK.ek pk_int) (fun _ => (ek_o1 0 g_draw.F sl1 hr g_draw.m g_draw.k g_draw.b (pk_var (i := 0) rfl) (PAK.ak (pa_1 pk_int)) (fun _ => rfl))))) (fun _ => rfl) (by decide) (fun _ _ _ _ _ => (gk_name (i := 10) (by exact sc.nd))) (fun _ _ _ _ _ _ _ => ts_0) (fun _ _ _ _ _ _ _ _ => (ek_ixS (PK.ek (pk_var (i := 2) rfl)) (fun _ => (ek_o1 0 g_draw.F sl1 hr g_draw.m g_draw.k g_draw.b (pk_var (i := 0) rfl) (PAK.ak (pa_1 pk_int)) (fun _ => rfl)))))
            case lc3 =>
             exact fun _ => rfl
            case k152 =>
             intro y_16 name_15
             refine' sk_name 0 rfl ?k153
             case k153 =>
              intro w_17
              refine' sk_st (ρ2 := [.val tR a.1, .val tI a.2.2, .val tS some_1, .val tR a_6, .val tI x_9, .val tS name_15, .un, .un, .un, .un, .un, .un]) (cs2 := [⟨a.1, cL tI w_17⟩, ⟨a_6, cL tS z_8.2⟩]) rfl rfl ?k154
              case k154 =>
               refine' sk_st (ρ2 := [.val tR a.1, .val tI a.2.2, .val tS some_1, .val tR a_6, .val tI x_9, .val tS name_15, .un, .un, .un, .un, .un, .un]) (cs2 := [⟨a.1, cL tI w_17⟩, ⟨a_6, cL tS z_8.2⟩]) rfl rfl ?k155
               case k155 =>
                refine' sk_join (fun z_18 : Str => [.val tR a.1, .val tI a.2.2, .val tS some_1, .val tR a_6, .val tI x_9, .val tS z_18, .un, .un, .un, .un, .un, .un]) (fun z_18 : Str => [⟨a.1, cL tI w_17⟩, ⟨a_6, cL tS z_8.2⟩]) ?h156 ?k157
                case h156 =>
                 intro R_19
                 refine' sk_if1 (pt_in fS (pk_var (i := 5) rfl) (PV.q (PK.own 1 (pk_var (i := 3) rfl) rfl))) ?a158 ?b159
                 case a158 =>
                  refine' sk_setE (i := 5) (by exact sc.nd) (ek_ixR (T := tS) (EV.lk (NE.l (ne_lc rfl (by exact sc.nd) ?lc14 ?lc13 ?lc15))) (fun _ => pk_int)) ?k163
                  case lc14 =>
                   exact blkOk_by (own := [("_law_one", 11)]) (N := ["_law_flow_here", "_law_many", "_law_some", "_law_found", "_law_k", "_law_name", "_law_word", "_law_at", "_law_first", "_law_long", "_law_j", "_law_one"]) (sc := defScope s_names) (by decide +kernel)
                  case lc13 =>
                   exact lc_k (own := [("_law_one", 11)]) (T := tS) (U := tS) (G := fun ρ x => (List.set ρ 11 (.val tS x))) (vs := [11]) (cs' := (fun _ : Unit => [⟨a.1, cL tI w_17⟩, ⟨a_6, cL tS z_8.2⟩])) (z0 := fun y => ()) (s1 := fun _ _ _ => ()) (s2 := fun _ _ _ _ => ()) (IK.ie (ik_str (pk_var (i := 2) rfl))) (fun _ => rfl) (by decide) (fun _ _ _ _ _ => (gk_name (i := 11) (by exact sc.nd))) (fun _ _ _ _ _ _ _ => (ts_1 (PTK.tk (pt_nin fS (pk_var (i := 11) rfl) (PV.q (PK.own 1 (pk_var (i := 3) rfl) rfl)))))) (fun _ _ _ _ _ _ _ _ => (PK.ek (pk_var (i := 11) rfl)))
                  case lc15 =>
                   exact fun _ => rfl
                  case k163 =>
                   intro y_25 name_24
                   refine' sk_st (ρ2 := [.val tR a.1, .val tI a.2.2, .val tS some_1, .val tR a_6, .val tI x_9, .val tS name_24, .un, .un, .un, .un, .un, .un]) (cs2 := [⟨a.1, cL tI w_17⟩, ⟨a_6, cL tS z_8.2⟩]) rfl rfl ?k164
                   case k164 =>
                    exact sk_midX (z := _) rfl (.same (.same (.same (.same (.same (.same (.same (.same (.same (.same (.same (.same .nil)))))))))))) rfl
                 case b159 =>
                  exact sk_midX (z := _) rfl (.same (.same (.same (.same (.same (.same (.same (.same (.same (.same (.same (.same .nil)))))))))))) rfl
                case k157 =>
                 intro z_18
                 refine' sk_expr (ek_mL PySem.F.slot_list_append PySem.F.type_list_append mt_append ml_append 1 (pk_var (i := 3) rfl) (ak_1 (PK.ek (pk_var (i := 5) rfl))) (fun _ => rfl) ⟨_, rfl⟩) ?k165
                 case k165 =>
                  intro y_26
                  refine' sk_name 1 rfl ?k166
                  case k166 =>
                   intro w_27
                   refine' sk_st (ρ2 := [.val tR a.1, .val tI a.2.2, .val tS some_1, .val tR a_6, .val tI x_9, .val tS z_18, .un, .un, .un, .un, .un, .un]) (cs2 := [⟨a.1, cL tI w_17⟩, ⟨a_6, cL tS w_27⟩]) rfl rfl ?k167
                   case k167 =>
                    exact sk_midX (z := (_, _)) rfl (.same (.same (.same (.same (.un (.un (.same (.same (.same (.same (.same (.same .nil)))))))))))) rfl
          case k147 =>
           intro z_8
           exact sk_retM (pk_var (i := 3) rfl) rfl
     case b141 =>
      intro y_3
      refine' sk_name 0 rfl ?k168
      case k168 =>
       intro w_28
       refine' sk_st (ρ2 := [.val tR a.1, .val tI a.2.2, .val tS some_1, .un, .un, .un, .un, .un, .un, .un, .un, .un]) (cs2 := [⟨a.1, cL tI w_28⟩]) rfl rfl ?k169
       case k169 =>
        refine' sk_nilX rfl ?k170
        case k170 =>
         refine' sk_setE (i := 6) (by exact sc.nd) (ek_join pk_str (EV.q (NE.l (ne_lc rfl (by exact sc.nd) ?lc17 ?lc16 ?lc18)))) ?k174
         case lc17 =>
          exact blkOk_by (own := [("_law_j", 10)]) (N := ["_law_flow_here", "_law_many", "_law_some", "_law_found", "_law_k", "_law_name", "_law_word", "_law_at", "_law_first", "_law_long", "_law_j", "_law_one"]) (sc := defScope s_names) (by decide +kernel)
         case lc16 =>
          exact lc_k (own := [("_law_j", 10)]) (T := tI) (U := tS) (G := fun ρ x => (List.set ρ 10 (.val tI x))) (vs := [10]) (cs' := (fun c_29 : List Int => [⟨a.1, cL tI c_29⟩])) (z0 := fun y => _) (ie_range1 bs.m_range (ek_o1 0 g_draw.F sl1 hr g_draw.m g_draw.k g_draw.b (pk_var (i := 0) rfl) (PAK.ak (pa_1 pk_int)) (fun _ => rfl))) (fun _ => rfl) (by decide) (fun _ _ _ _ _ => (gk_name (i := 10) (by exact sc.nd))) (fun _ _ _ _ _ _ _ => ts_0) (fun _ _ _ _ _ _ _ _ => (ek_ixS (PK.ek (pk_var (i := 2) rfl)) (fun _ => (ek_o1 0 g_draw.F sl1 hr g_draw.m g_draw.k g_draw.b (pk_var (i := 0) rfl) (PAK.ak (pa_1 pk_int)) (fun _ => rfl)))))
         case lc18 =>
          exact fun _ => rfl
         case k174 =>
          intro y_32 word_31
          refine' sk_name 0 rfl ?k175
          case k175 =>
           intro w_33
           refine' sk_st (ρ2 := [.val tR a.1, .val tI a.2.2, .val tS some_1, .un, .un, .un, .val tS word_31, .un, .un, .un, .un, .un]) (cs2 := [⟨a.1, cL tI w_33⟩]) rfl rfl ?k176
           case k176 =>
            refine' sk_st (ρ2 := [.val tR a.1, .val tI a.2.2, .val tS some_1, .un, .un, .un, .val tS word_31, .un, .un, .un, .un, .un]) (cs2 := [⟨a.1, cL tI w_33⟩]) rfl rfl ?k177
            case k177 =>
             refine' sk_setE (i := 7) (by exact sc.nd) (ek_o1 0 g_draw.F sl1 hr g_draw.m g_draw.k g_draw.b (pk_var (i := 0) rfl) (PAK.ak (pa_1 (pk_op op_add r2_I0 (PV.k (pv_cb call_len_str bs.m_len bs.b_len u_lenS (PK.v (pk_var (i := 6) rfl)))) pk_int))) (fun _ => rfl)) ?k178
             case k178 =>
              intro y_35 at_34
              refine' sk_name 0 rfl ?k179
              case k179 =>
               intro w_36
               refine' sk_st (ρ2 := [.val tR a.1, .val tI a.2.2, .val tS some_1, .un, .un, .un, .val tS word_31, .val tI at_34, .un, .un, .un, .un]) (cs2 := [⟨a.1, cL tI w_36⟩]) rfl rfl ?k180
               case k180 =>
                refine' sk_st (ρ2 := [.val tR a.1, .val tI a.2.2, .val tS some_1, .un, .un, .un, .val tS word_31, .val tI at_34, .un, .un, .un, .un]) (cs2 := [⟨a.1, cL tI w_36⟩]) rfl rfl ?k181
                case k181 =>
                 refine' sk_setE (i := 8) (by exact sc.nd) (ek_o1 0 g_draw.F sl1 hr g_draw.m g_draw.k g_draw.b (pk_var (i := 0) rfl) (PAK.ak (pa_1 pk_int)) (fun _ => rfl)) ?k182
                 case k182 =>
                  intro y_38 first_37
                  refine' sk_name 0 rfl ?k183
                  case k183 =>
                   intro w_39
                   refine' sk_st (ρ2 := [.val tR a.1, .val tI a.2.2, .val tS some_1, .un, .un, .un, .val tS word_31, .val tI at_34, .val tI first_37, .un, .un, .un]) (cs2 := [⟨a.1, cL tI w_39⟩]) rfl rfl ?k184
                   case k184 =>
                    refine' sk_st (ρ2 := [.val tR a.1, .val tI a.2.2, .val tS some_1, .un, .un, .un, .val tS word_31, .val tI at_34, .val tI first_37, .un, .un, .un]) (cs2 := [⟨a.1, cL tI w_39⟩]) rfl rfl ?k185
                    case k185 =>
                     refine' sk_setN (i := 3) (T := tS) (by exact sc.nd) (ne_lc rfl (by exact sc.nd) ?lc20 ?lc19 ?lc21) ?k189
                     case lc20 =>
                      exact blkOk_by (own := [("_law_k", 4)]) (N := ["_law_flow_here", "_law_many", "_law_some", "_law_found", "_law_k", "_law_name", "_law_word", "_law_at", "_law_first", "_law_long", "_law_j", "_law_one"]) (sc := defScope s_names) (by decide +kernel)
                     case lc19 =>
                      exact lc_k (own := [("_law_k", 4)]) (T := tI) (U := tS) (G := fun ρ x => (List.set ρ 4 (.val tI x))) (vs := [4]) (cs' := (fun _ : Unit => [⟨a.1, cL tI w_39⟩])) (z0 := fun y => ()) (s1 := fun _ _ _ => ()) (s2 := fun _ _ _ _ => ()) (IK.ie (ik_range1 bs.m_range (pk_var (i := 1) rfl))) (fun _ => rfl) (by decide) (fun _ _ _ _ _ => (gk_name (i := 4) (by exact sc.nd))) (fun _ _ _ _ _ _ _ => ts_0) (fun _ _ _ _ _ _ _ _ => (PK.ek (pk_op op_add_str r2_addS (pk_op op_add_str r2_addS (pk_slS (pk_var (i := 6) rfl) po_0 (po_1 (pk_var (i := 7) rfl))) (pk_ixS (pk_var (i := 2) rfl) (pk_op op_mod r2_I (pk_op op_add r2_I0 (pk_var (i := 8) rfl) (pk_op op_mul r2_I pk_int (pk_var (i := 4) rfl))) pk_int))) (pk_slS (pk_var (i := 6) rfl) (po_1 (pk_var (i := 7) rfl)) po_0))))
                     case lc21 =>
                      exact fun _ => rfl
                     case k189 =>
                      intro y_42 a_43 found_44
                      refine' sk_st (ρ2 := [.val tR a.1, .val tI a.2.2, .val tS some_1, .val tR a_43, .un, .un, .val tS word_31, .val tI at_34, .val tI first_37, .un, .un, .un]) (cs2 := [⟨a.1, cL tI w_39⟩, ⟨a_43, cL tS found_44⟩]) rfl rfl ?k190
                      case k190 =>
                       refine' sk_join (fun z_45 : (List Int × List Str) => [.val tR a.1, .val tI a.2.2, .val tS some_1, .val tR a_43, .un, .un, .val tS word_31, .val tI at_34, .val tI first_37, .un, .un, .un]) (fun z_45 : (List Int × List Str) => [⟨a.1, cL tI z_45.1⟩, ⟨a_43, cL tS z_45.2⟩]) ?h191 ?k192
                       case h191 =>
                        intro R_46
                        refine' sk_if1E (tk_cmp op_eq r2_eqI (ek_o1 0 g_draw.F sl1 hr g_draw.m g_draw.k g_draw.b (pk_var (i := 0) rfl) (PAK.ak (pa_1 pk_int)) (fun _ => rfl)) (fun _ => (PK.ek pk_int))) ?a193 ?b194
                        case a193 =>
                         intro y_47
                         refine' sk_name 0 rfl ?k195
                         case k195 =>
                          intro w_49
                          refine' sk_st (ρ2 := [.val tR a.1, .val tI a.2.2, .val tS some_1, .val tR a_43, .un, .un, .val tS word_31, .val tI at_34, .val tI first_37, .un, .un, .un]) (cs2 := [⟨a.1, cL tI w_49⟩, ⟨a_43, cL tS found_44⟩]) rfl rfl ?k196
                          case k196 =>
                           refine' sk_set (i := 9) (by exact sc.nd) (pk_op op_add_str r2_addS (pk_var (i := 6) rfl) (pk_slS pk_str (po_1 (PV.k (pv_cb call_len_str bs.m_len bs.b_len u_lenS (PK.v (pk_var (i := 6) rfl))))) po_0)) ?k197
                           case k197 =>
                            intro long_50
                            refine' sk_st (ρ2 := [.val tR a.1, .val tI a.2.2, .val tS some_1, .val tR a_43, .un, .un, .val tS word_31, .val tI at_34, .val tI first_37, .val tS long_50, .un, .un]) (cs2 := [⟨a.1, cL tI w_49⟩, ⟨a_43, cL tS found_44⟩]) rfl rfl ?k198
                            case k198 =>
                             refine' sk_seq (sk_if1 (pt_nin fS (pk_var (i := 9) rfl) (PV.q (PK.own 1 (pk_var (i := 3) rfl) rfl))) ?a199 ?b200)
                             case a199 =>
                              refine' sk_setIx 1 (PK.ek (pk_var (i := 9) rfl)) (fun _ => (pk_var (i := 3) rfl)) (fun _ => pk_int) (fun _ => rfl) ?k201
                              case k201 =>
                               intro y_51 w_52
                               refine' sk_st (ρ2 := [.val tR a.1, .val tI a.2.2, .val tS some_1, .val tR a_43, .un, .un, .val tS word_31, .val tI at_34, .val tI first_37, .val tS long_50, .un, .un]) (cs2 := [⟨a.1, cL tI w_49⟩, ⟨a_43, cL tS w_52⟩]) rfl rfl ?k202
                               case k202 =>
                                refine' sk_nilX rfl ?k203
                                case k203 =>
                                 exact sk_midX (z := (_, _)) rfl (.same (.same (.same (.same (.same (.same (.same (.same (.same (.un (.same (.same .nil)))))))))))) rfl
                             case b200 =>
                              refine' sk_nilX rfl ?k204
                              case k204 =>
                               exact sk_midX (z := (_, _)) rfl (.same (.same (.same (.same (.same (.same (.same (.same (.same (.un (.same (.same .nil)))))))))))) rfl
                        case b194 =>
                         intro y_48
                         refine' sk_name 0 rfl ?k205
                         case k205 =>
                          intro w_53
                          refine' sk_st (ρ2 := [.val tR a.1, .val tI a.2.2, .val tS some_1, .val tR a_43, .un, .un, .val tS word_31, .val tI at_34, .val tI first_37, .un, .un, .un]) (cs2 := [⟨a.1, cL tI w_53⟩, ⟨a_43, cL tS found_44⟩]) rfl rfl ?k206
                          case k206 =>
                           exact sk_midX (z := (_, _)) rfl (.same (.same (.same (.same (.same (.same (.same (.same (.same (.same (.same (.same .nil)))))))))))) rfl
                       case k192 =>
                        intro z_45
                        exact sk_retM (pk_var (i := 3) rfl) rfl
  case vc =>
   intro h
   simp only [true_and, and_true, yes1, yes2]
   obtain ⟨l, fl, n⟩ := a
   obtain ⟨⟨hf, n0, n1⟩, hφ⟩ := h
   have hf : Fl fl := hf
   have n0 : 1 ≤ n := n0
   have n1 : n ≤ 8 := n1
   try dsimp only at hφ
   try dsimp only
   intro z hz
   have hz : z = abc := hz
   rw [hz]
   have al : abc.length ≤ sizeLine := by rw [abc_len, sizeLine_eq]; decide
   -- the letters of a word
   have word : ∀ (m : Int) (fl0 : List Int), 0 ≤ m → m ≤ 100 → Fl fl0 → ∀ Φ : List Str → List Int → Prop, (∀ acc w, Fl w → (acc.length : Int) = m → (∀ s ∈ acc, s.length = 1 ∧ Low s) → Φ acc w) →
     ∃ I : Nat → List Str → List Int → Prop, I 0 [] fl0 ∧ (∀ (i : Nat) (acc : List Str) (z_3 : List Int) (x : Int), (rng 0 m)[i]? = some x → I i acc z_3 →
       (True → pre_draw z_3 26 ∧ ∀ (r : Int) (w : List Int), post_draw z_3 26 r w → abc.length ≤ sizeLine ∧ IxOk (MD.signs abc) r ∧ I (i + 1) (acc ++ [pyIx (MD.signs abc) r]) w) ∧ (true = false → I (i + 1) acc z_3)) ∧
       ∀ (acc : List Str) (z_3 : List Int), I (rng 0 m).length acc z_3 → Φ acc z_3 := fun m fl0 m0 m1 hf0 Φ k => by
     refine ⟨fun i acc w => Fl w ∧ acc.length = i ∧ ∀ s ∈ acc, s.length = 1 ∧ Low s, ⟨hf0, rfl, fun s hs => (by cases hs)⟩, fun i acc w x hx ⟨i1, i2, i3⟩ => ⟨fun _ => ⟨⟨i1, by decide, by decide⟩, fun r w2 ⟨r0, r1, hw⟩ => ⟨al, ixok_abc r0 r1, hw, by rw [List.length_append, i2]; rfl, fun s hs => ?_⟩⟩, fun e => (by cases e)⟩, fun acc w ⟨i1, i2, i3⟩ => k acc w i1 (by rw [rng_length] at i2; omega) i3⟩
     rcases List.mem_append.mp hs with h | h
     · exact i3 s h
     · rw [List.mem_singleton.mp h, pyIx_abc r0 r1]
       exact ⟨len_sgn _, low_sgn (by omega)⟩
   refine ⟨⟨hf, by decide, by decide⟩, fun r w ⟨r0, r1, f1⟩ => ⟨fun _ w1 e1 _ found ef => ?_, fun _ w1 e1 => ?_⟩⟩
   · rw [e1, ef]
     refine ⟨⟨by omega, by omega⟩, fun i z => Fl z.1 ∧ z.2.length = i ∧ z.2.Nodup ∧ ∀ s ∈ z.2, Word s, ⟨f1, rfl, List.nodup_nil, fun s hs => (by cases hs)⟩, fun i z x hx ⟨i1, i2, i3, i4⟩ => ?_, fun z ⟨i1, i2, i3, i4⟩ => ?_⟩
     · obtain ⟨_, hi⟩ := rng_get hx
       refine ⟨⟨i1, by decide, by decide⟩, fun q w2 ⟨q0, q1, f2⟩ => ⟨by omega, by omega, ?_⟩⟩
       refine word (1 + q) w2 (by omega) (by omega) f2 _ fun acc w3 f3 hl hs => ?_
       obtain ⟨j1, j2⟩ := join_nil_len hs
       have hw : Word (Str.join "" acc) := ⟨by rw [j1]; omega, by rw [j1]; omega, j2⟩
       refine ⟨by rw [sum_len hs]; show acc.length + acc.length * 0 ≤ _; omega, fun nm en w4 e4 => ?_⟩
       rw [e4]
       have hwn : Word nm := by rw [en]; exact hw
       refine ⟨fun y => Word y ∧ y ∉ z.2, ⟨fun e => ⟨al, ?_⟩, fun e => ⟨hwn, of_decide_eq_false e⟩⟩, fun y ⟨y1, y2⟩ => ⟨by rw [sizeLine_eq]; omega, fun z5 e5 w5 f5 => ?_⟩⟩
       · refine ⟨fun j acc _ => acc = ((MD.signs abc).take j).filter fun d => !decide (d ∈ z.2), rfl, fun j acc _ d hd hI => ⟨fun e => ?_, fun e => ?_⟩, fun acc _ hI => ?_⟩
         · dsimp only at hI ⊢; rw [filt_yes hd e, hI]
         · dsimp only at hI ⊢; rw [filt_no hd e, hI]
         · dsimp only at hI
           rw [List.take_length] at hI
           obtain ⟨s, s1, s2⟩ := free_letter (found := z.2) (by omega)
           have hp : 0 < acc.length := List.length_pos_of_mem (a := s) (by rw [hI]; exact List.mem_filter.mpr ⟨s1, by simpa using s2⟩)
           refine ⟨⟨by omega, by omega⟩, fun y ey => ?_⟩
           have hm : y ∈ acc := by rw [ey]; exact pyIx_mem (by omega) (by omega)
           rw [hI] at hm
           obtain ⟨m1, m2⟩ := List.mem_filter.mp hm
           refine ⟨?_, by simpa using m2⟩
           rw [signs_abc] at m1
           obtain ⟨c, hc, rfl⟩ := List.mem_map.mp m1
           exact sgn_word (List.mem_range.mp hc)
       · rw [f5, e5]
         refine ⟨f3, by rw [List.length_append, i2]; rfl, List.nodup_append.mpr ⟨i3, by simp, fun u hu v hv e => ?_⟩, fun s hs => ?_⟩
         · rw [List.mem_singleton.mp hv] at e
           exact y2 (e ▸ hu)
         · rcases List.mem_append.mp hs with h | h
           · exact i4 s h
           · rw [List.mem_singleton.mp h]; exact y1
     · rw [rng_length] at i2
       exact hφ _ _ _ ⟨⟨by omega, i3, i4⟩, i1⟩
   · rw [e1]
     refine ⟨⟨f1, by decide, by decide⟩, fun q w2 ⟨q0, q1, f2⟩ => ⟨by omega, by omega, ?_⟩⟩
     refine word q w2 q0 (by omega) f2 _ fun acc w3 f3 hl hs => ?_
     obtain ⟨j1, j2⟩ := join_nil_len hs
     refine ⟨by rw [sum_len hs]; show acc.length + acc.length * 0 ≤ _; omega, fun wd ewd w4 e4 => ?_⟩
     rw [e4]
     have wl : wd.length ≤ 7 := by rw [ewd, j1]; omega
     have wlow : Low wd := by rw [ewd]; exact j2
     refine ⟨by rw [sizeLine_eq]; omega, ⟨f3, by omega, by omega⟩, fun at0 w5 ⟨a0, a1, f5⟩ at1 ea w6 e6 => ?_⟩
     rw [e6]
     refine ⟨⟨f5, by decide, by decide⟩, fun ft w7 ⟨t0, t1, f7⟩ ft1 ef w8 e8 => ?_⟩
     obtain ⟨na, rfl⟩ : ∃ na : Nat, at1 = (na : Int) := ⟨at1.toNat, by omega⟩
     have hna : na ≤ wd.length := by omega
     have t0' : 0 ≤ ft1 := by omega
     have mk : ∀ k : Int, 0 ≤ k → Word (cutS wd none (some (na : Int)) ++ pyIx (MD.signs abc) ((ft1 + 7 * k) % 26) ++ cutS wd (some (na : Int)) none) ∧ IxOk (MD.signs abc) ((ft1 + 7 * k) % 26) ∧ pyIx (MD.signs abc) ((ft1 + 7 * k) % 26) = sgn (97 + ((ft1 + 7 * k) % 26).toNat) := fun k k0 => by
       have m0 := Int.emod_nonneg (ft1 + 7 * k) (show (26 : Int) ≠ 0 by decide)
       have m1 := Int.emod_lt_of_pos (ft1 + 7 * k) (show (0 : Int) < 26 by decide)
       have e := pyIx_abc m0 m1
       refine ⟨?_, ixok_abc m0 m1, e⟩
       rw [e]
       refine ⟨?_, ?_, ins_low wlow (low_sgn (by omega)) hna⟩
       · rw [ins_len hna, len_sgn]; omega
       · rw [ins_len hna, len_sgn]; omega
     have cl : (cutS wd none (some (na : Int))).length ≤ 7 ∧ (cutS wd (some (na : Int)) none).length ≤ 7 := by
       have := str_len wd
       refine ⟨?_, ?_⟩
       · rw [str_len, cutS_to wd hna, List.length_take]; omega
       · rw [str_len, cutS_from wd hna, List.length_drop]; omega
     have wsz : wd.length ≤ sizeLine := by rw [sizeLine_eq]; omega
     refine ⟨⟨by omega, by omega⟩, fun i acc _ => acc.length = i ∧ acc.Nodup ∧ (∀ s ∈ acc, Word s) ∧ ∀ s ∈ acc, ∃ k : Nat, k < i ∧ s = cutS wd none (some (na : Int)) ++ pyIx (MD.signs abc) ((ft1 + 7 * (k : Int)) % 26) ++ cutS wd (some (na : Int)) none, ⟨rfl, List.nodup_nil, fun s hs => (by cases hs), fun s hs => (by cases hs)⟩, fun i acc _ x hx ⟨i1, i2, i3, i4⟩ => ⟨fun _ => ?_, fun e => (by cases e)⟩, fun acc _ ⟨i1, i2, i3, i4⟩ _ fd ef2 => ?_⟩
     · obtain ⟨ex, hi⟩ := rng_get hx
       have ex : x = (i : Int) := by omega
       subst ex
       obtain ⟨k1, k2, k3⟩ := mk (i : Int) (by omega)
       have l1 : (pyIx (MD.signs abc) ((ft1 + 7 * (i : Int)) % 26)).length = 1 := by rw [k3]; rfl
       refine ⟨⟨⟨wsz, ⟨⟨.inl ⟨by decide, by decide⟩, by decide⟩, al, k2⟩, by rw [sizeLine_eq]; omega⟩, wsz, by rw [app_len, sizeLine_eq]; omega⟩, by rw [List.length_append, i1]; rfl, List.nodup_append.mpr ⟨i2, by simp, fun u hu v hv e => ?_⟩, fun s hs => ?_, fun s hs => ?_⟩
       · rw [List.mem_singleton.mp hv] at e
         obtain ⟨k, hk, ek⟩ := i4 u hu
         rw [ek] at e
         have e2 := ins_inj hna e
         rw [(mk k (by omega)).2.2, k3] at e2
         have e3 := sgn_inj e2
         omega
       · rcases List.mem_append.mp hs with h | h
         · exact i3 s h
         · rw [List.mem_singleton.mp h]; exact k1
       · rcases List.mem_append.mp hs with h | h
         · obtain ⟨k, hk, ek⟩ := i4 s h
           exact ⟨k, by omega, ek⟩
         · exact ⟨i, by omega, List.mem_singleton.mp h⟩
     · rw [rng_length] at i1
       rw [ef2]
       obtain ⟨z1, z2⟩ := cutS_zs wl
       have zl : (Str.ofString "zzzzzzzz").length = 8 := by decide +kernel
       refine ⟨fun y => (y.2.length : Int) = n ∧ y.2.Nodup ∧ (∀ s ∈ y.2, Word s) ∧ Fl y.1, ⟨⟨by rw [e8]; exact f7, by decide, by decide⟩, fun q w ⟨_, _, g⟩ => ⟨fun _ w1 ew => ⟨⟨⟨wsz, by rw [zl, sizeLine_eq]; decide⟩, ?_⟩, fun lg elg => ⟨fun e => ⟨⟨by decide, by omega⟩, fun y ey => ?_⟩, fun _ => ?_⟩⟩, fun _ w1 ew => ?_⟩⟩, fun y ⟨y1, y2, y3, y4⟩ => hφ _ _ _ ⟨⟨y1, y2, y3⟩, y4⟩⟩
       · rw [sizeLine_eq]
         have : (cutS (Str.ofString "zzzzzzzz") (some (wd.length : Int)) none).length = 8 - wd.length := z1
         omega
       · rw [ew, ey]
         have nl : lg ∉ acc := by simpa using e
         refine ⟨by rw [List.length_set]; omega, nodup_set i2 nl, fun s hs => ?_, g⟩
         rcases List.mem_or_eq_of_mem_set hs with m | m
         · exact i3 s m
         · rw [m, elg]
           have z1' : (cutS (Str.ofString "zzzzzzzz") (some (wd.length : Int)) none).length = 8 - wd.length := z1
           refine ⟨by rw [app_len, z1']; omega, by rw [app_len, z1']; omega, low_app wlow z2⟩
       · rw [ew]
         exact ⟨by show (acc.length : Int) = n; omega, i2, i3, g⟩
       · rw [ew]
         exact ⟨by show (acc.length : Int) = n; omega, i2, i3, g⟩
abbrev s_Machine_init : Stmt := (inClass (topS 8) 0)
theorem sc_Machine_init : FnScope ["self", "letters", "table", "good", "told", "letter", "state", "steps", "goal"] ["self", "letters", "table", "good"] (defScope s_Machine_init) := ⟨rfl, rfl, rfl, by decide +kernel, rfl, by decide +kernel, by decide +kernel⟩
def c_Machine_init (K : PySem.W.Frag) (C_Machine : Addr) (xa : XA) := Con.inx (K := K) xa C_Machine fd_Machine (fun x : ((List Str) × (List (List Int)) × (List Int)) => [.val (tL tS) x.1, .val (tL (tL tI)) x.2.1, .val (tL tI) x.2.2]) pre_Machine_init g_Machine_init
theorem ok_Machine_init (bs : Bs mg) {xa : XA} {C_MeetError : Addr} (xs : Xs K mg xa C_MeetError) {f_BadGood : Addr} {fd_BadGood : FuncData} (xi_BadGood : XiT P w K mg base xa.BadGood 1 ["self", "state"] (spX1 xa.BadGood "state") f_BadGood fd_BadGood) {f_BadStep : Addr} {fd_BadStep : FuncData} (xi_BadStep : XiT P w K mg base xa.BadStep 1 ["self", "state", "letter"] (spX2 xa.BadStep "state" "letter") f_BadStep fd_BadStep) {f_Twice : Addr} {fd_Twice : FuncData} (xi_Twice : XiT P w K mg base xa.Twice 1 ["self", "name"] (spX1 xa.Twice "name") f_Twice fd_Twice) {C_Machine : Addr} (cl_Machine : Cl_Machine K C_Machine) {f : Addr} {fd : FuncData} (F : Fun K "__init__" "Machine.__init__" s_Machine_init f fd) : FnOk P w K mg base (L2.CX P w) 3 f fd ["self", "letters", "table", "good"] (c_Machine_init K C_Machine xa).spk := by
  refine fn_conk (c_Machine_init K C_Machine xa) F sc_Machine_init (fun _ => rfl) ?_
  intro cdv Ar outer s H E F0 a φ ε hr hp
  have hu := hu_of hr
  have sc := sc_Machine_init
  refine' SK.vc ?hh ?vc
  case hh =>
   refine' sk_setD kS tB (i := 4) (by exact sc.nd) nd_new ?k244
   case k244 =>
    intro a_1
    refine' sk_st (ρ2 := [.val tR a.1, .val (tL tS) a.2.1, .val (tL (tL tI)) a.2.2.1, .val (tL tI) a.2.2.2, .val tR a_1, .un, .un, .un, .un]) (cs2 := [⟨a.1, cI C_Machine []⟩, ⟨a_1, cD kS tB []⟩]) rfl rfl ?k245
    case k245 =>
     refine' sk_for (fun z_2 : List (Str × Bool) => [.val tR a.1, .val (tL tS) a.2.1, .val (tL (tL tI)) a.2.2.1, .val (tL tI) a.2.2.2, .val tR a_1, .un, .un, .un, .un]) (fun z_2 : List (Str × Bool) => [⟨a.1, cI C_Machine []⟩, ⟨a_1, cD kS tB z_2⟩]) _ hp rfl (ik_list (pk_var (i := 1) rfl)) (gk_name (i := 5) (by exact sc.nd)) (.same (.same (.same (.same (.same (.same (.same (.same (.same .nil))))))))) rfl ?b246 ?k247
     case b246 =>
      intro fl_6 hs_5 N_4 z_2 x_3
      refine' sk_st (ρ2 := [.val tR a.1, .val (tL tS) a.2.1, .val (tL (tL tI)) a.2.2.1, .val (tL tI) a.2.2.2, .val tR a_1, .val tS x_3, .un, .un, .un]) (cs2 := [⟨a.1, cI C_Machine []⟩, ⟨a_1, cD kS tB z_2⟩]) rfl rfl ?k248
      case k248 =>
       refine' sk_seq (sk_if1 (pt_din hu (pk_var (i := 5) rfl) (PK.ownD 1 (pk_var (i := 4) rfl) rfl)) ?a249 ?b250)
       case a249 =>
        exact sk_raise1 rfl xs.c_Twice xi_Twice.iC xi_Twice.tI xi_Twice.F xi_Twice.b hr (pk_var (i := 5) rfl) (by first | exact fun _ h => kp0 h | exact fun _ h => h)
       case b250 =>
        refine' sk_nilX rfl ?k251
        case k251 =>
         refine' sk_dput 1 hu (PK.ek pk_bl) (fun _ => (pk_var (i := 4) rfl)) (fun _ => (pk_var (i := 5) rfl)) (fun _ => rfl) ?k252
         case k252 =>
          intro y_7 w_8
          refine' sk_st (ρ2 := [.val tR a.1, .val (tL tS) a.2.1, .val (tL (tL tI)) a.2.2.1, .val (tL tI) a.2.2.2, .val tR a_1, .val tS x_3, .un, .un, .un]) (cs2 := [⟨a.1, cI C_Machine []⟩, ⟨a_1, cD kS tB w_8⟩]) rfl rfl ?k253
          case k253 =>
           exact sk_midX (z := _) rfl (.same (.same (.same (.same (.same (.un (.same (.same (.same .nil))))))))) rfl
     case k247 =>
      intro z_2
      refine' sk_for (fun _ : Unit => [.val tR a.1, .val (tL tS) a.2.1, .val (tL (tL tI)) a.2.2.1, .val (tL tI) a.2.2.2, .val tR a_1, .un, .un, .un, .un]) (fun _ : Unit => [⟨a.1, cI C_Machine []⟩, ⟨a_1, cD kS tB z_2⟩]) () hp rfl (ik_enum bs.m_enumerate (pk_var (i := 2) rfl)) (gk_tup rfl (gs_C (gk_name (i := 6) (by exact sc.nd)) (gs_1 (gk_name (i := 7) (by exact sc.nd)))) (tlC tl1)) (.same (.same (.same (.same (.same (.same (.same (.same (.same .nil))))))))) rfl ?b254 ?k255
      case b254 =>
       intro fl_13 hs_12 N_11 z_9 x_10
       refine' sk_st (ρ2 := [.val tR a.1, .val (tL tS) a.2.1, .val (tL (tL tI)) a.2.2.1, .val (tL tI) a.2.2.2, .val tR a_1, .un, .val tI x_10.1, .val (tL tI) x_10.2, .un]) (cs2 := [⟨a.1, cI C_Machine []⟩, ⟨a_1, cD kS tB z_2⟩]) rfl rfl ?k256
       case k256 =>
        refine' sk_for (fun _ : Unit => [.val tR a.1, .val (tL tS) a.2.1, .val (tL (tL tI)) a.2.2.1, .val (tL tI) a.2.2.2, .val tR a_1, .un, .val tI x_10.1, .val (tL tI) x_10.2, .un]) (fun _ : Unit => [⟨a.1, cI C_Machine []⟩, ⟨a_1, cD kS tB z_2⟩]) () hp rfl (ik_zipL bs.m_zip (pk_var (i := 1) rfl) (pk_var (i := 7) rfl)) (gk_tup rfl (gs_C (gk_name (i := 5) (by exact sc.nd)) (gs_1 (gk_name (i := 8) (by exact sc.nd)))) (tlC tl1)) (.same (.same (.same (.same (.same (.same (.same (.same (.same .nil))))))))) rfl ?b257 ?k258
        case b257 =>
         intro fl_18 hs_17 N_16 z_14 x_15
         refine' sk_st (ρ2 := [.val tR a.1, .val (tL tS) a.2.1, .val (tL (tL tI)) a.2.2.1, .val (tL tI) a.2.2.2, .val tR a_1, .val tS x_15.1, .val tI x_10.1, .val (tL tI) x_10.2, .val tI x_15.2]) (cs2 := [⟨a.1, cI C_Machine []⟩, ⟨a_1, cD kS tB z_2⟩]) rfl rfl ?k259
         case k259 =>
          refine' sk_seq (sk_if1 (PWK.pt (pw_or' (pt_cmp' op_lt r2_B0 (pk_var (i := 8) rfl) pk_int) (pw_or1' (pt_cmp' op_ge r2_B0 (pk_var (i := 8) rfl) (PV.k (pv_cb cr_lenQ bs.m_len bs.b_len u_len (PV.q (PK.l (pk_var (i := 2) rfl))))))))) ?a260 ?b261)
          case a260 =>
           exact sk_raise2 rfl xs.c_BadStep xi_BadStep.iC xi_BadStep.tI xi_BadStep.F xi_BadStep.b hr (pk_var (i := 6) rfl) (pk_var (i := 5) rfl) (by first | exact fun _ h => kp0 h | exact fun _ h => h)
          case b261 =>
           refine' sk_nilX rfl ?k262
           case k262 =>
            exact sk_midX (z := ()) rfl (.same (.same (.same (.same (.same (.un (.same (.same (.un .nil))))))))) rfl
        case k258 =>
         intro z_14
         exact sk_midX (z := ()) rfl (.same (.same (.same (.same (.same (.same (.un (.un (.same .nil))))))))) rfl
      case k255 =>
       intro z_9
       refine' sk_for (fun _ : Unit => [.val tR a.1, .val (tL tS) a.2.1, .val (tL (tL tI)) a.2.2.1, .val (tL tI) a.2.2.2, .val tR a_1, .un, .un, .un, .un]) (fun _ : Unit => [⟨a.1, cI C_Machine []⟩, ⟨a_1, cD kS tB z_2⟩]) () hp rfl (ik_list (pk_var (i := 3) rfl)) (gk_name (i := 6) (by exact sc.nd)) (.same (.same (.same (.same (.same (.same (.same (.same (.same .nil))))))))) rfl ?b263 ?k264
       case b263 =>
        intro fl_23 hs_22 N_21 z_19 x_20
        refine' sk_st (ρ2 := [.val tR a.1, .val (tL tS) a.2.1, .val (tL (tL tI)) a.2.2.1, .val (tL tI) a.2.2.2, .val tR a_1, .un, .val tI x_20, .un, .un]) (cs2 := [⟨a.1, cI C_Machine []⟩, ⟨a_1, cD kS tB z_2⟩]) rfl rfl ?k265
        case k265 =>
         refine' sk_seq (sk_if1 (PWK.pt (pw_or' (pt_cmp' op_lt r2_B0 (pk_var (i := 6) rfl) pk_int) (pw_or1' (pt_cmp' op_ge r2_B0 (pk_var (i := 6) rfl) (PV.k (pv_cb cr_lenQ bs.m_len bs.b_len u_len (PV.q (PK.l (pk_var (i := 2) rfl))))))))) ?a266 ?b267)
         case a266 =>
          exact sk_raise1 rfl xs.c_BadGood xi_BadGood.iC xi_BadGood.tI xi_BadGood.F xi_BadGood.b hr (pk_var (i := 6) rfl) (by first | exact fun _ h => kp0 h | exact fun _ h => h)
         case b267 =>
          refine' sk_nilX rfl ?k268
          case k268 =>
           exact sk_midX (z := ()) rfl (.same (.same (.same (.same (.same (.same (.un (.same (.same .nil))))))))) rfl
       case k264 =>
        intro z_19
        refine' sk_fld (T := (tUF tS)) (fs := []) 0 cl_Machine.c cl_Machine.n_letters (PK.ek (PV.k (pv_ct call_tupF bs.m_tuple bs.b_tuple u_tupF (PV.lk (PK.l (pk_var (i := 1) rfl)))))) (fun _ => (pk_var (i := 0) rfl)) (fun _ => rfl) ?k269
        case k269 =>
         intro y_24 letters_25
         refine' sk_st (ρ2 := [.val tR a.1, .val (tL tS) a.2.1, .val (tL (tL tI)) a.2.2.1, .val (tL tI) a.2.2.2, .val tR a_1, .un, .un, .un, .un]) (cs2 := [⟨a.1, cI C_Machine [("letters", .val (tUF tS) letters_25)]⟩, ⟨a_1, cD kS tB z_2⟩]) rfl rfl ?k270
         case k270 =>
          refine' sk_fld (T := (tU (tU tI))) (fs := [("letters", .val (tUF tS) letters_25)]) 0 cl_Machine.c cl_Machine.n_table (EV.k (ev_ct call_tuple_of bs.m_tuple bs.b_tuple (fun _ => u_tupL) (EV.lk (NE.l (ne_lc rfl (by exact sc.nd) ?lc23 ?lc22 ?lc24))))) (fun _ => (pk_var (i := 0) rfl)) ?lc25 ?k275
          case lc23 =>
           exact blkOk_by (own := [("steps", 7)]) (N := ["self", "letters", "table", "good", "told", "letter", "state", "steps", "goal"]) (sc := defScope s_Machine_init) (by decide +kernel)
          case lc22 =>
           exact lc_k (own := [("steps", 7)]) (T := (tL tI)) (U := (tU tI)) (G := fun ρ x => (List.set ρ 7 (.val (tL tI) x))) (vs := [7]) (cs' := (fun _ : Unit => [⟨a.1, cI C_Machine [("letters", .val (tUF tS) letters_25)]⟩, ⟨a_1, cD kS tB z_2⟩])) (z0 := fun y => ()) (s1 := fun _ _ _ => ()) (s2 := fun _ _ _ _ => ()) (IK.ie (ik_list (pk_var (i := 2) rfl))) (fun _ => rfl) (by decide) (fun _ _ _ _ _ => (gk_name (i := 7) (by exact sc.nd))) (fun _ _ _ _ _ _ _ => ts_0) (fun _ _ _ _ _ _ _ _ => (PK.ek (PV.k (pv_ct call_tuple_of bs.m_tuple bs.b_tuple u_tupL (PV.lk (PK.l (pk_var (i := 7) rfl)))))))
          case lc24 =>
           exact fun _ => rfl
          case lc25 =>
           exact fun _ => rfl
          case k275 =>
           intro y_28 table_29
           refine' sk_st (ρ2 := [.val tR a.1, .val (tL tS) a.2.1, .val (tL (tL tI)) a.2.2.1, .val (tL tI) a.2.2.2, .val tR a_1, .un, .un, .un, .un]) (cs2 := [⟨a.1, cI C_Machine [("letters", .val (tUF tS) letters_25), ("table", .val (tU (tU tI)) table_29)]⟩, ⟨a_1, cD kS tB z_2⟩]) rfl rfl ?k276
           case k276 =>
            refine' sk_fld (T := (tU tI)) (fs := [("letters", .val (tUF tS) letters_25), ("table", .val (tU (tU tI)) table_29)]) 0 cl_Machine.c cl_Machine.n_good (PK.ek (PV.k (pv_ct call_tuple_of bs.m_tuple bs.b_tuple u_tupL (PV.lk (NK.l (nk_cb (cr_sortedSet rfl) bs.m_sorted bs.b_sorted n_sortI1 (pv_ct (cr_setI rfl) bs.m_set bs.b_set u_setI (PV.lk (PK.l (pk_var (i := 3) rfl)))))))))) (fun _ => (pk_var (i := 0) rfl)) (fun _ => rfl) ?k277
            case k277 =>
             intro y_30 good_31
             refine' sk_st (ρ2 := [.val tR a.1, .val (tL tS) a.2.1, .val (tL (tL tI)) a.2.2.1, .val (tL tI) a.2.2.2, .val tR a_1, .un, .un, .un, .un]) (cs2 := [⟨a.1, cI C_Machine [("letters", .val (tUF tS) letters_25), ("table", .val (tU (tU tI)) table_29), ("good", .val (tU tI) good_31)]⟩, ⟨a_1, cD kS tB z_2⟩]) rfl rfl ?k278
             case k278 =>
              refine' sk_drop 1 ?k279
              case k279 =>
               refine' sk_st (ρ2 := [.val tR a.1, .val (tL tS) a.2.1, .val (tL (tL tI)) a.2.2.1, .val (tL tI) a.2.2.2, .val tR a_1, .un, .un, .un, .un]) (cs2 := [⟨a.1, cI C_Machine [("letters", .val (tUF tS) letters_25), ("table", .val (tU (tU tI)) table_29), ("good", .val (tU tI) good_31)]⟩]) rfl rfl ?k280
               case k280 =>
                exact sk_endX (_, _, _) rfl
  case vc =>
   intro h
   simp only [true_and, and_true, yes1, yes2]
   obtain ⟨p, ls, tab, good⟩ := a
   obtain ⟨⟨hg, h6, h20⟩, hφ, hε⟩ := h
   have hg : GoodOk tab good := hg
   have h6 : ls.length ≤ 6 := h6
   have h20 : tab.length ≤ 20 := h20
   have hgl : good.length ≤ 20 := by
     have h1 : good.length ≤ (rng 0 (tab.length : Int)).length := by
       have e : good = (rng 0 (tab.length : Int)).filter fun k => decide (k ∈ good) := hg
       rw [e]
       exact List.length_filter_le _ _
     rw [rng_len] at h1
     omega
   try dsimp only at hφ hε
   try dsimp only
   have hs := sizeLine_eq
   intro _
   refine ⟨fun i z => dupFrom [] (ls.take i) = none ∧ z.map (·.1) = ls.take i, ⟨rfl, rfl⟩, fun i z x hx ⟨i1, i2⟩ => ?_, fun z ⟨d1, d2⟩ => ?_⟩
   · have hx : ls[i]? = some x := hx
     have hi : i < ls.length := (List.getElem?_eq_some_iff.mp hx).1
     have hst := dup_step hx i1
     refine ⟨fun q => ?_, fun q => ⟨?_, fun z1 e1 => ?_⟩⟩
     · have hm : x ∈ ls.take i := by
         rw [← i2]
         refine Classical.byContradiction fun hn => ?_
         rw [dget_none hn] at q
         cases q
       refine hε (.twice x) ?_
       show (match dupFrom [] ls with | some d => Sum.inr (Rf.twice d) | none => _) = _
       rw [hst.1 hm]
     · have : z.length = (ls.take i).length := by rw [← i2, List.length_map]
       rw [List.length_take] at this
       omega
     · have hn : x ∉ ls.take i := fun hm => by
         rw [← i2] at hm
         rw [dget_isSome hm] at q
         cases q
       refine ⟨hst.2 hn, ?_⟩
       rw [e1, dput_new (by rw [i2]; exact hn), List.map_append, i2, take_step hx]
       rfl
   · have d1 : dupFrom [] ls = none := by
       have d1 : dupFrom [] (ls.take ls.length) = none := d1
       rw [List.take_length] at d1
       exact d1
     have hgm : ∀ e, stepFrom (tab.length : Int) ls 0 tab = some e → g_Machine_init (ls, tab, good) = .inr (.badStep e.1 e.2) := fun e he => by
       unfold K13.g_Machine_init
       dsimp only
       rw [d1, he]
     refine ⟨fun i _ => stepFrom (tab.length : Int) ls (i : Int) (tab.drop i) = stepFrom (tab.length : Int) ls 0 tab, rfl, fun i _ x hx hI => ?_, fun _ hI => ?_⟩
     · obtain ⟨f1, f2⟩ := enumF_get hx
       have f1 : x.1 = (i : Int) := f1
       have hst : stepFrom (tab.length : Int) ls (i : Int) (tab.drop i) = (match stepIn (tab.length : Int) (i : Int) (ls.zip x.2) with | some e => some e | none => stepFrom (tab.length : Int) ls ((i : Int) + 1) (tab.drop (i + 1))) := by
         rw [drop_get f2]
         rfl
       refine ⟨fun j _ => stepIn (tab.length : Int) (i : Int) ((ls.zip x.2).drop j) = stepIn (tab.length : Int) (i : Int) (ls.zip x.2), rfl, fun j _ y hy hJ => ⟨fun _ => trivial, fun e => ?_, fun e => ?_⟩, fun _ hJ => ?_⟩
       · dsimp only at hJ
         have hs2 : stepIn (tab.length : Int) (i : Int) ((ls.zip x.2).drop j) = some ((i : Int), y.1) := by
           rw [drop_get hy]
           show (if _ then _ else _) = _
           rw [if_pos e]
         rw [hs2] at hJ
         rw [← hJ] at hst
         have hst : stepFrom (tab.length : Int) ls (i : Int) (tab.drop i) = some ((i : Int), y.1) := hst
         have he := hgm _ (hI.symm.trans hst)
         refine hε (.badStep x.1 y.1) ?_
         rw [f1]
         exact he
       · have hs2 : stepIn (tab.length : Int) (i : Int) ((ls.zip x.2).drop j) = stepIn (tab.length : Int) (i : Int) ((ls.zip x.2).drop (j + 1)) := by
           rw [drop_get hy]
           show (if _ then _ else _) = _
           rw [if_neg (by rw [e]; exact Bool.false_ne_true)]
         show stepIn (tab.length : Int) (i : Int) ((ls.zip x.2).drop (j + 1)) = _
         rw [← hs2]
         exact hJ
       · dsimp only at hJ
         rw [List.drop_length] at hJ
         rw [← hJ] at hst
         have hst : stepFrom (tab.length : Int) ls (i : Int) (tab.drop i) = stepFrom (tab.length : Int) ls ((i : Int) + 1) (tab.drop (i + 1)) := hst
         show stepFrom (tab.length : Int) ls ((i + 1 : Nat) : Int) (tab.drop (i + 1)) = _
         rw [show ((i + 1 : Nat) : Int) = (i : Int) + 1 by omega, ← hst]
         exact hI
     · have hI : stepFrom (tab.length : Int) ls ((enumF tab).length : Int) (tab.drop (enumF tab).length) = stepFrom (tab.length : Int) ls 0 tab := hI
       rw [enumF_length, List.drop_length] at hI
       have hI : none = stepFrom (tab.length : Int) ls 0 tab := hI
       have hok : g_Machine_init (ls, tab, good) = .inl (ls, tab, good) := by
         unfold K13.g_Machine_init
         dsimp only
         rw [d1, ← hI]
       refine ⟨fun _ _ => True, trivial, fun i _ x hx _ => ?_, fun _ _ z1 e1 => ⟨fun i acc _ => acc = tab.take i, rfl, fun i acc _ x hx hI => ⟨fun _ => (by dsimp only at hI ⊢; rw [take_step hx, hI]), fun e => (by cases e)⟩, fun acc _ hI z2 e2 => ⟨⟨by show good.length < 4000; omega, by show good.length < 64; omega⟩, fun z3 e3 => hφ _ ?_⟩⟩⟩
       · have hgo : 0 ≤ x ∧ x < (tab.length : Int) := good_in hg (get_mem hx)
         refine ⟨fun _ => trivial, fun q => ?_, fun _ => trivial⟩
         rw [decide_eq_false (by omega), decide_eq_false (by omega)] at q
         cases q
       · dsimp only at hI
         rw [List.take_length] at hI
         show g_Machine_init (ls, tab, good) = .inl (z1, z2, z3)
         rw [hok, e1, e2, e3, hI, good_sort hg]
abbrev s_all_of : Stmt := topS 12
theorem sc_all_of : FnScope ["text", "signs", "sign"] ["text", "signs"] (defScope s_all_of) := ⟨rfl, rfl, rfl, by decide +kernel, rfl, by decide +kernel, by decide +kernel⟩
def c_all_of (K : PySem.W.Frag) := Con.fn (K := K) (fun x : (Str × Str) => [.val tS x.1, .val tS x.2]) tB pre_all_of f_all_of
theorem ok_all_of (bs : Bs mg) {f : Addr} {fd : FuncData} (F : Fun K "all_of" "all_of" s_all_of f fd) : FnOk P w K mg base (L2.CX P w) 1 f fd ["text", "signs"] (c_all_of K).sp := by
  refine fn_con (c_all_of K) F sc_all_of (fun _ => rfl) ?_
  intro cdv Ar outer s H E F0 a φ ε hr hp
  have hu := hu_of hr
  have sc := sc_all_of
  refine' SK.vc ?hh ?vc
  case hh =>
   refine' sk_retFE (EV.k (ev_cb (cr_all rfl) bs.m_all bs.b_all (fun _ => u_all) (EV.lk (NE.l (ne_lc rfl (by exact sc.nd) ?lc27 ?lc26 ?lc28))))) ?lc29
   case lc27 =>
    exact blkOk_by (own := [("sign", 2)]) (N := ["text", "signs", "sign"]) (sc := defScope s_all_of) (by decide +kernel)
   case lc26 =>
    exact lc_k (own := [("sign", 2)]) (T := tS) (U := tB) (G := fun ρ x => (List.set ρ 2 (.val tS x))) (vs := [2]) (cs' := (fun _ : Unit => [])) (z0 := fun y => ()) (s1 := fun _ _ _ => ()) (s2 := fun _ _ _ _ => ()) (IK.ie (ik_str (pk_var (i := 0) rfl))) (fun _ => rfl) (by decide) (fun _ _ _ _ _ => (gk_name (i := 2) (by exact sc.nd))) (fun _ _ _ _ _ _ _ => ts_0) (fun _ _ _ _ _ _ _ _ => (PK.ek (pk_inSign (pk_var (i := 2) rfl) (pk_var (i := 1) rfl))))
   case lc28 =>
    exact fun _ => rfl
   case lc29 =>
    exact fun _ => rfl
  case vc =>
   intro h
   simp only [true_and, and_true, yes1, yes2]
   obtain ⟨hl, hφ⟩ := h
   have hl : a.1.length ≤ 10000 := hl
   refine ⟨by rw [sizeLine_eq]; omega, fun i acc _ => acc = ((MD.signs a.1).take i).map fun c => decide (c ∈ MD.signs a.2), rfl, fun i acc z x hx hI => ⟨fun _ => ⟨?_, ?_⟩, fun e => (by cases e)⟩, fun acc _ hI => ?_⟩
   · obtain ⟨c, _, e⟩ := List.mem_map.mp (get_mem hx)
     exact ⟨c, e.symm⟩
   · dsimp only at hI ⊢
     rw [map_step _ hx, hI]
   · dsimp only at hI
     rw [List.take_length] at hI
     refine hφ _ ?_
     rw [hI, List.all_map]
     rfl
abbrev s_is_name : Stmt := topS 13
theorem sc_is_name : FnScope ["thing"] ["thing"] (defScope s_is_name) := ⟨rfl, rfl, rfl, by decide +kernel, rfl, by decide +kernel, by decide +kernel⟩
def c_is_name (K : PySem.W.Frag) := Con.fn (K := K) (fun x : Str => [.val tS x]) tB pre_is_name f_is_name
theorem ok_is_name (bs : Bs mg) {f_all_of : Addr} {fd_all_of : FuncData} (g_all_of : Cal P w K mg base "all_of" 1 ["text", "signs"] (c_all_of K).sp f_all_of fd_all_of) {f : Addr} {fd : FuncData} (F : Fun K "is_name" "is_name" s_is_name f fd) : FnOk P w K mg base (L2.CX P w) 2 f fd ["thing"] (c_is_name K).sp := by
  refine fn_con (c_is_name K) F sc_is_name (fun _ => rfl) ?_
  intro cdv Ar outer s H E F0 a φ ε hr hp
  have hu := hu_of hr
  have sc := sc_is_name
  refine' SK.vc ?hh ?vc
  case hh =>
   exact sk_retF (pk_and (pk_isi (r := true) ty_S (PK.v (pk_var (i := 0) rfl)) bs.m_isinstance bs.b_isinstance bs.m_str bs.b_str (by decide +kernel)) (pk_and (pk_chain op_le r2_B0 op_le r2_B0 pk_int (PV.k (pv_cb call_len_str bs.m_len bs.b_len u_lenS (PK.v (pk_var (i := 0) rfl)))) pk_int) (pk_one (pk_fn g_all_of.F (slC sl1) hr g_all_of.m g_all_of.k g_all_of.b (pa_C (pk_var (i := 0) rfl) (pa_1 (pk_globS bs.g_LETTERS)))))))
  case vc =>
   intro h
   simp only [true_and, and_true, yes1, yes2]
   obtain ⟨hl, hφ⟩ := h
   have hl : a.length ≤ 10000 := hl
   exact ⟨fun _ => ⟨⟨by rw [sizeLine_eq]; omega, fun _ => trivial⟩, fun _ => hl⟩, hφ _ rfl⟩
abbrev s_number_of : Stmt := topS 14
theorem sc_number_of : FnScope ["word", "most"] ["word", "most"] (defScope s_number_of) := ⟨rfl, rfl, rfl, by decide +kernel, rfl, by decide +kernel, by decide +kernel⟩
def c_number_of (K : PySem.W.Frag) := Con.fn (K := K) (fun x : (Str × Int) => [.val tS x.1, .val tI x.2]) (tO tI) pre_number_of f_number_of
theorem ok_number_of (bs : Bs mg) {f_all_of : Addr} {fd_all_of : FuncData} (g_all_of : Cal P w K mg base "all_of" 1 ["text", "signs"] (c_all_of K).sp f_all_of fd_all_of) {f : Addr} {fd : FuncData} (F : Fun K "number_of" "number_of" s_number_of f fd) : FnOk P w K mg base (L2.CX P w) 2 f fd ["word", "most"] (c_number_of K).sp := by
  refine fn_con (c_number_of K) F sc_number_of (fun _ => rfl) ?_
  intro cdv Ar outer s H E F0 a φ ε hr hp
  have hu := hu_of hr
  have sc := sc_number_of
  refine' SK.vc ?hh ?vc
  case hh =>
   refine' sk_seq (sk_if1 (PWK.pt (pw_or' (pt_not' (pt_chain' op_le r2_B0 op_le r2_B0 pk_int (PV.k (pv_cb call_len_str bs.m_len bs.b_len u_lenS (PK.v (pk_var (i := 0) rfl)))) (pk_var (i := 1) rfl))) (pw_or1' (pt_not' (pt_val' (pk_fn g_all_of.F (slC sl1) hr g_all_of.m g_all_of.k g_all_of.b (pa_C (pk_var (i := 0) rfl) (pa_1 (pk_globS bs.g_FIGURES_words))))))))) ?a295 ?b296)
   case a295 =>
    exact sk_retF (pk_nonO (T := tI))
   case b296 =>
    refine' sk_nilX rfl ?k297
    case k297 =>
     refine' sk_seq (sk_if1 (PWK.pt (pw_and' (pt_cmp' op_gt r2_B0 (PV.k (pv_cb call_len_str bs.m_len bs.b_len u_lenS (PK.v (pk_var (i := 0) rfl)))) pk_int) (pw_and1' (pt_cmp' op_eq r2_eqS (pk_ixS (pk_var (i := 0) rfl) pk_int) pk_str)))) ?a298 ?b299)
     case a298 =>
      exact sk_retF (pk_nonO (T := tI))
     case b299 =>
      refine' sk_nilX rfl ?k300
      case k300 =>
       exact sk_retF (PK.some (PV.k (pv_ct call_int_str bs.m_int bs.b_int u_intS (PK.v (pk_var (i := 0) rfl)))))
  case vc =>
   intro h
   simp only [true_and, and_true, yes1, yes2]
   obtain ⟨w, m⟩ := a
   obtain ⟨⟨e3, hl⟩, hφ⟩ := h
   have e3 : m = 3 := e3
   have hl : w.length ≤ 10000 := hl
   subst e3
   have hφ : φ (if isNum w then some (intS w) else none) := hφ _ rfl
   have hs := sizeLine_eq
   try dsimp only
   have key : isNum w = ((decide (1 ≤ (w.length : Int)) && decide ((w.length : Int) ≤ 3)) && K13.f_all_of (w, Str.ofString "0123456789") && !(decide (1 < (w.length : Int)) && decide (pyIx (MD.signs w) 0 = Str.ofString "0"))) := rfl
   refine ⟨⟨⟨by omega, fun _ => trivial⟩, fun _ => hl⟩, fun e => ?_, fun e => ?_⟩
   · have hn : isNum w = false := by
       rw [key]
       cases h1 : (decide (1 ≤ (w.length : Int)) && decide ((w.length : Int) ≤ 3)) with
       | false => rfl
       | true =>
         rw [h1] at e
         cases h2 : K13.f_all_of (w, Str.ofString "0123456789") with
         | false => rfl
         | true => rw [h2] at e; cases e
     rw [hn] at hφ
     exact hφ
   · have h1 : (decide (1 ≤ (w.length : Int)) && decide ((w.length : Int) ≤ 3)) = true := by
       cases h1 : (decide (1 ≤ (w.length : Int)) && decide ((w.length : Int) ≤ 3)) with
       | true => rfl
       | false => rw [h1] at e; cases e
     have h2 : K13.f_all_of (w, Str.ofString "0123456789") = true := by
       cases h2 : K13.f_all_of (w, Str.ofString "0123456789") with
       | true => rfl
       | false => rw [h1, h2] at e; cases e
     rw [h1, h2] at key
     rw [Bool.and_eq_true] at h1
     have l1 := of_decide_eq_true h1.1
     have l2 := of_decide_eq_true h1.2
     have hsl := signs_len w
     refine ⟨⟨by omega, fun _ => ⟨by omega, by omega, by omega⟩⟩, fun e1 => ?_, fun e1 => ?_⟩
     · rw [e1] at key
       rw [key] at hφ
       exact hφ
     · rw [e1] at key
       have key : isNum w = true := key
       rw [key] at hφ
       exact ⟨⟨by rw [num_text key]; rfl, by omega⟩, hφ⟩
abbrev s_steps_in : Stmt := topS 17
theorem sc_steps_in : FnScope ["line", "many", "words", "steps", "word"] ["line", "many"] (defScope s_steps_in) := ⟨rfl, rfl, rfl, by decide +kernel, rfl, by decide +kernel, by decide +kernel⟩
def c_steps_in (K : PySem.W.Frag) := Con.fn (K := K) (fun x : (Str × Int) => [.val tS x.1, .val tI x.2]) (tO (tT (tsC tS (ts1 (tL tI))))) pre_steps_in f_steps_in
theorem ok_steps_in (bs : Bs mg) {f_number_of : Addr} {fd_number_of : FuncData} (g_number_of : Cal P w K mg base "number_of" 2 ["word", "most"] (c_number_of K).sp f_number_of fd_number_of) {f : Addr} {fd : FuncData} (F : Fun K "steps_in" "steps_in" s_steps_in f fd) : FnOk P w K mg base (L2.CX P w) 3 f fd ["line", "many"] (c_steps_in K).sp := by
  refine fn_con (c_steps_in K) F sc_steps_in (fun _ => rfl) ?_
  intro cdv Ar outer s H E F0 a φ ε hr hp
  have hu := hu_of hr
  have sc := sc_steps_in
  refine' SK.vc ?hh ?vc
  case hh =>
   refine' sk_set (i := 2) (by exact sc.nd) (NK.pk (nk_split (pk_var (i := 0) rfl) pk_str)) ?k309
   case k309 =>
    intro words_1
    refine' sk_st (ρ2 := [.val tS a.1, .val tI a.2, .val (tL tS) words_1, .un, .un]) (cs2 := []) rfl rfl ?k310
    case k310 =>
     refine' sk_setLc (i := 3) rfl (by exact sc.nd) (blkOk_by (own := [("word", 4)]) (N := ["line", "many", "words", "steps", "word"]) (sc := defScope s_steps_in) (by decide +kernel)) ?lc30 ?k312
     case lc30 =>
      exact lc_k (own := [("word", 4)]) (T := tS) (U := (tO tI)) (G := fun ρ x => (List.set ρ 4 (.val tS x))) (vs := [4]) (cs' := (fun _ : Unit => [])) (z0 := fun y => ()) (s1 := fun _ _ _ => ()) (s2 := fun _ _ _ _ => ()) (IK.ie (ik_list (NK.pk (nk_slL (PV.lk (PK.l (pk_var (i := 2) rfl))) (po_1 pk_int) po_0)))) (fun _ => rfl) (by decide) (fun _ _ _ _ _ => (gk_name (i := 4) (by exact sc.nd))) (fun _ _ _ _ _ _ _ => ts_0) (fun _ _ _ _ _ _ _ _ => (PK.ek (pk_fn g_number_of.F (slC sl1) hr g_number_of.m g_number_of.k g_number_of.b (pa_C (pk_var (i := 4) rfl) (pa_1 (pk_globI bs.g_FIGURES_machinetext))))))
     case k312 =>
      intro y_4 steps_5
      refine' sk_st (ρ2 := [.val tS a.1, .val tI a.2, .val (tL tS) words_1, .val (tL (tO tI)) steps_5, .un]) (cs2 := []) rfl rfl ?k313
      case k313 =>
       refine' sk_seq (sk_if1 (PWK.pt (pw_or' (pt_nin fS (pk_ixR (T := tS) (PV.lk (PK.l (pk_var (i := 2) rfl))) pk_int) (PV.uq (PK.u (pk_tupU (pl_C pk_str (pl_C pk_str pl_0)) (Nat.le_of_ble_eq_true rfl))))) (pw_or' (pt_cmp' op_ne r2_neI (PV.k (pv_cb cr_lenQ bs.m_len bs.b_len u_len (PV.q (PK.l (pk_var (i := 3) rfl))))) (pk_var (i := 1) rfl)) (pw_or1' (pt_in fOI (pk_nonO (T := tI)) (PV.q (PK.l (pk_var (i := 3) rfl)))))))) ?a314 ?b315)
       case a314 =>
        exact sk_retF (pk_nonO (T := (tT (tsC tS (ts1 (tL tI))))))
       case b315 =>
        refine' sk_nilX rfl ?k316
        case k316 =>
         exact sk_retF (PK.some (pk_tup (pa_C (pk_ixR (T := tS) (PV.lk (PK.l (pk_var (i := 2) rfl))) pk_int) (pa_1 (PK.unOL (pk_var (i := 3) rfl)))) (fun F vs => (lenC len1) F vs _)))
  case vc =>
   intro h
   simp only [true_and, and_true, yes1, yes2]
   obtain ⟨l, many⟩ := a
   obtain ⟨⟨m0, hl⟩, hφ⟩ := h
   have m0 : 0 ≤ many := m0
   have hl : l.length ≤ 10000 := hl
   have hφ : φ (f_steps_in (l, many)) := hφ _ rfl
   have hs := sizeLine_eq
   try dsimp only
   have s1 : ((Str.ofString " ").length == 0) = false := by decide +kernel
   refine ⟨⟨s1, by omega⟩, fun z ez => ?_⟩
   have hz : z ≠ [] := by rw [ez]; exact split_ne _ _
   have hw : ∀ w ∈ z, w.length ≤ l.length := fun w hw => piece_le (by rw [← ez]; exact hw)
   have hφ : φ (if rowOk many.toNat z then some (z.headD default, z.tail.map intS) else none) := by rw [ez]; exact hφ
   obtain ⟨w, ws, e⟩ : ∃ w ws, z = w :: ws := by
     cases z with
     | nil => exact absurd rfl hz
     | cons w ws => exact ⟨w, ws, rfl⟩
   clear ez
   subst e
   have hc : cutA (w :: ws) (some 1) none = ws := cut1 _
   rw [hc]
   have hφ : φ (if rowOk many.toNat (w :: ws) then some (w, ws.map intS) else none) := hφ
   refine ⟨fun i acc _ => acc = (ws.take i).map fun x => if isNum x then some (intS x) else none, rfl, fun i acc _ x hx hI => ⟨fun _ => ⟨⟨rfl, Nat.le_trans (hw x (List.mem_cons_of_mem _ (get_mem hx))) hl⟩, ?_⟩, fun e => (by cases e)⟩, fun acc _ hI z2 e2 => ?_⟩
   · dsimp only at hI ⊢
     rw [map_step _ hx, hI]
     rfl
   · dsimp only at hI
     rw [List.take_length] at hI
     have e2 : z2 = ws.map fun x => if isNum x then some (intS x) else none := e2.trans hI
     have ix : IxOk (w :: ws) 0 := ⟨by rw [List.length_cons]; omega, by rw [List.length_cons]; omega⟩
     have hp : pyIx (w :: ws) 0 = w := pyIx_head _ _
     have d2 : decide ((z2.length : Int) = many) = decide (ws.length = many.toNat) := decide_eq_decide.mpr (by rw [e2, List.length_map]; omega)
     have d3 : decide (none ∈ z2) = !ws.all isNum := by
       rw [e2]
       exact none_mem ws
     have hr : rowOk many.toNat (w :: ws) = (decide (w ∈ [Str.ofString "good", Str.ofString "plain"]) && decide (ws.length = many.toNat) && ws.all isNum) := rfl
     rw [hp]
     have dd : ∀ i : Decidable (none ∈ z2), @decide _ i = !ws.all isNum := fun i => by
       rw [← d3]
       congr
     rw [dd, d2]
     refine ⟨⟨ix, fun _ _ => trivial⟩, fun e => ?_, fun e => ⟨⟨ix, fun x hx => ?_⟩, ?_⟩⟩
     · have hf : rowOk many.toNat (w :: ws) = false := by
         rw [hr]
         revert e
         cases decide (w ∈ [Str.ofString "good", Str.ofString "plain"]) <;> cases decide (ws.length = many.toNat) <;> cases ws.all isNum <;> intro e <;> first | rfl | cases e
       rw [hf] at hφ
       exact hφ
     all_goals
       have hf : rowOk many.toNat (w :: ws) = true ∧ ws.all isNum = true := by
         rw [hr]
         revert e
         cases decide (w ∈ [Str.ofString "good", Str.ofString "plain"]) <;> cases decide (ws.length = many.toNat) <;> cases ws.all isNum <;> intro e <;> first | exact ⟨rfl, rfl⟩ | cases e
     · rw [e2] at hx
       obtain ⟨y, hy, rfl⟩ := List.mem_map.mp hx
       rw [if_pos (List.all_eq_true.mp hf.2 y hy)]
       rfl
     · rw [hf.1] at hφ
       have e : z2.map (fun x => x.getD default) = ws.map intS := by
         rw [e2, List.map_map]
         exact List.map_congr_left fun y hy => by
           show (if isNum y then some (intS y) else none).getD default = _
           rw [if_pos (List.all_eq_true.mp hf.2 y hy)]
           rfl
       rw [e]
       exact hφ
abbrev s_read_machine : Stmt := topS 18
theorem sc_read_machine : FnScope ["text", "lines", "words", "letters", "table", "good", "at", "line", "found", "word"] ["text"] (defScope s_read_machine) := ⟨rfl, rfl, rfl, by decide +kernel, rfl, by decide +kernel, by decide +kernel⟩
def c_read_machine (K : PySem.W.Frag) (C_Machine : Addr) (xa : XA) := Con.fx (K := K) xa (fun x : Str => [.val tS x]) (ty_Machine C_Machine) pre_read_machine g_read_machine
theorem ok_read_machine (bs : Bs mg) {xa : XA} {C_MeetError : Addr} (xs : Xs K mg xa C_MeetError) {f_NoText : Addr} {fd_NoText : FuncData} (xi_NoText : XiT P w K mg base xa.NoText 1 ["self", "line"] (spX1 xa.NoText "line") f_NoText fd_NoText) {C_Machine : Addr} (cl_Machine : Cl_Machine K C_Machine) {f_Machine_init : Addr} {fd_Machine_init : FuncData} (g_Machine_init : MkC P w K mg base C_Machine "Machine" 3 ["self", "letters", "table", "good"] (c_Machine_init K C_Machine xa).spk f_Machine_init fd_Machine_init) {f_is_name : Addr} {fd_is_name : FuncData} (g_is_name : Cal P w K mg base "is_name" 2 ["thing"] (c_is_name K).sp f_is_name fd_is_name) {f_steps_in : Addr} {fd_steps_in : FuncData} (g_steps_in : Cal P w K mg base "steps_in" 3 ["line", "many"] (c_steps_in K).sp f_steps_in fd_steps_in) {f : Addr} {fd : FuncData} (F : Fun K "read_machine" "read_machine" s_read_machine f fd) : FnOk P w K mg base (L2.CX P w) 5 f fd ["text"] (c_read_machine K C_Machine xa).sp := by
  refine fn_con (c_read_machine K C_Machine xa) F sc_read_machine (fun _ => rfl) ?_
  intro cdv Ar outer s H E F0 a φ ε hr hp
  have hu := hu_of hr
  have sc := sc_read_machine
  refine' SK.vc ?hh ?vc
  case hh =>
   refine' sk_set (i := 1) (by exact sc.nd) (NK.pk (nk_split (pk_var (i := 0) rfl) pk_str)) ?k358
   case k358 =>
    intro lines_1
    refine' sk_st (ρ2 := [.val tS a, .val (tL tS) lines_1, .un, .un, .un, .un, .un, .un, .un, .un]) (cs2 := []) rfl rfl ?k359
    case k359 =>
     refine' sk_set (i := 2) (by exact sc.nd) (NK.pk (nk_split (pk_ixR (T := tS) (PV.lk (PK.l (pk_var (i := 1) rfl))) pk_int) pk_str)) ?k360
     case k360 =>
      intro words_2
      refine' sk_st (ρ2 := [.val tS a, .val (tL tS) lines_1, .val (tL tS) words_2, .un, .un, .un, .un, .un, .un, .un]) (cs2 := []) rfl rfl ?k361
      case k361 =>
       refine' sk_set (i := 3) (by exact sc.nd) (NK.pk (nk_slL (PV.lk (PK.l (pk_var (i := 2) rfl))) (po_1 pk_int) po_0)) ?k362
       case k362 =>
        intro letters_3
        refine' sk_st (ρ2 := [.val tS a, .val (tL tS) lines_1, .val (tL tS) words_2, .val (tL tS) letters_3, .un, .un, .un, .un, .un, .un]) (cs2 := []) rfl rfl ?k363
        case k363 =>
         refine' sk_seq (sk_if1E (TWK.tk (tw_or (PTK.tk (pt_cmp' op_ne r2_neS (pk_ixR (T := tS) (PV.lk (PK.l (pk_var (i := 2) rfl))) pk_int) pk_str)) (fun _ => (tw_or (PTK.tk (pt_eqV hr.units (dv_sv (dL (@dS K))) (dv_sv (dL (@dS K))) sv_stays (eqv_dec (dL (@dS K)) _ _) (PK.v (pk_var (i := 3) rfl)) (PK.v (NK.pk (nk_lst pl_0 (Nat.zero_le _)))))) (fun _ => (tw_or1 (tk_not (tk_val (EV.k (ev_cb (cr_all rfl) bs.m_all bs.b_all (fun _ => u_all) (EV.lk (NE.l (ne_lc rfl (by exact sc.nd) ?lc32 ?lc31 ?lc33))))))))))))) ?a367 ?b368)
         case lc32 =>
          exact blkOk_by (own := [("word", 9)]) (N := ["text", "lines", "words", "letters", "table", "good", "at", "line", "found", "word"]) (sc := defScope s_read_machine) (by decide +kernel)
         case lc31 =>
          exact lc_k (own := [("word", 9)]) (T := tS) (U := tB) (G := fun ρ x => (List.set ρ 9 (.val tS x))) (vs := [9]) (cs' := (fun _ : Unit => [])) (z0 := fun y => ()) (s1 := fun _ _ _ => ()) (s2 := fun _ _ _ _ => ()) (IK.ie (ik_list (pk_var (i := 3) rfl))) (fun _ => rfl) (by decide) (fun _ _ _ _ _ => (gk_name (i := 9) (by exact sc.nd))) (fun _ _ _ _ _ _ _ => ts_0) (fun _ _ _ _ _ _ _ _ => (PK.ek (pk_fn g_is_name.F sl1 (hr.mono (by decide)) g_is_name.m g_is_name.k g_is_name.b (pa_1 (pk_var (i := 9) rfl)))))
         case lc33 =>
          exact fun _ => rfl
         case a367 =>
          intro y_6
          exact sk_raise1 rfl xs.c_NoText xi_NoText.iC xi_NoText.tI xi_NoText.F xi_NoText.b (hr.mono (by decide)) pk_int (by first | exact fun _ h => kp0 h | exact fun _ h => h)
         case b368 =>
          intro y_7
          refine' sk_nilX rfl ?k369
          case k369 =>
           refine' sk_seq (sk_if1 (pt_cmp' op_eq r2_eqI (PV.k (pv_cb cr_lenQ bs.m_len bs.b_len u_len (PV.q (PK.l (pk_var (i := 1) rfl))))) pk_int) ?a370 ?b371)
           case a370 =>
            exact sk_raise1 rfl xs.c_NoText xi_NoText.iC xi_NoText.tI xi_NoText.F xi_NoText.b (hr.mono (by decide)) pk_int (by first | exact fun _ h => kp0 h | exact fun _ h => h)
           case b371 =>
            refine' sk_nilX rfl ?k372
            case k372 =>
             refine' sk_setN (i := 4) (T := (tL tI)) (by exact sc.nd) (NK.ne (nk_lst (T := (tL tI)) (pl_0 (T := (tL tI))) (Nat.zero_le _))) ?k373
             case k373 =>
              intro y_8 a_9 table_10
              refine' sk_st (ρ2 := [.val tS a, .val (tL tS) lines_1, .val (tL tS) words_2, .val (tL tS) letters_3, .val tR a_9, .un, .un, .un, .un, .un]) (cs2 := [⟨a_9, cL (tL tI) table_10⟩]) rfl rfl ?k374
              case k374 =>
               refine' sk_setN (i := 5) (T := tI) (by exact sc.nd) (NK.ne (nk_lst (T := tI) (pl_0 (T := tI)) (Nat.zero_le _))) ?k375
               case k375 =>
                intro y_11 a_12 good_13
                refine' sk_st (ρ2 := [.val tS a, .val (tL tS) lines_1, .val (tL tS) words_2, .val (tL tS) letters_3, .val tR a_9, .val tR a_12, .un, .un, .un, .un]) (cs2 := [⟨a_9, cL (tL tI) table_10⟩, ⟨a_12, cL tI good_13⟩]) rfl rfl ?k376
                case k376 =>
                 refine' sk_for (fun z_14 : (List (List Int) × List Int) => [.val tS a, .val (tL tS) lines_1, .val (tL tS) words_2, .val (tL tS) letters_3, .val tR a_9, .val tR a_12, .un, .un, .un, .un]) (fun z_14 : (List (List Int) × List Int) => [⟨a_9, cL (tL tI) z_14.1⟩, ⟨a_12, cL tI z_14.2⟩]) (_, _) hp rfl (ik_enum bs.m_enumerate (NK.pk (nk_slL (PV.lk (PK.l (pk_var (i := 1) rfl))) (po_1 pk_int) po_0))) (gk_tup rfl (gs_C (gk_name (i := 6) (by exact sc.nd)) (gs_1 (gk_name (i := 7) (by exact sc.nd)))) (tlC tl1)) (.same (.same (.same (.same (.same (.same (.same (.same (.same (.same .nil)))))))))) rfl ?b377 ?k378
                 case b377 =>
                  intro fl_18 hs_17 N_16 z_14 x_15
                  refine' sk_st (ρ2 := [.val tS a, .val (tL tS) lines_1, .val (tL tS) words_2, .val (tL tS) letters_3, .val tR a_9, .val tR a_12, .val tI x_15.1, .val tS x_15.2, .un, .un]) (cs2 := [⟨a_9, cL (tL tI) z_14.1⟩, ⟨a_12, cL tI z_14.2⟩]) rfl rfl ?k379
                  case k379 =>
                   refine' sk_set (i := 8) (by exact sc.nd) (pk_fn g_steps_in.F (slC sl1) (hr.mono (by decide)) g_steps_in.m g_steps_in.k g_steps_in.b (pa_C (pk_var (i := 7) rfl) (pa_1 (PV.k (pv_cb cr_lenQ bs.m_len bs.b_len u_len (PV.q (PK.l (pk_var (i := 3) rfl)))))))) ?k380
                   case k380 =>
                    intro found_19
                    refine' sk_st (ρ2 := [.val tS a, .val (tL tS) lines_1, .val (tL tS) words_2, .val (tL tS) letters_3, .val tR a_9, .val tR a_12, .val tI x_15.1, .val tS x_15.2, .val (tO (tT (tsC tS (ts1 (tL tI))))) found_19, .un]) (cs2 := [⟨a_9, cL (tL tI) z_14.1⟩, ⟨a_12, cL tI z_14.2⟩]) rfl rfl ?k381
                    case k381 =>
                     refine' sk_seq (sk_if1 (pt_isN nn_T (pk_var (i := 8) rfl)) ?a382 ?b383)
                     case a382 =>
                      exact sk_raise1 rfl xs.c_NoText xi_NoText.iC xi_NoText.tI xi_NoText.F xi_NoText.b (hr.mono (by decide)) (pk_op op_add r2_I0 (pk_var (i := 6) rfl) pk_int) (by first | exact fun _ h => kp0 h | exact fun _ h => h)
                     case b383 =>
                      refine' sk_nilX rfl ?k384
                      case k384 =>
                       refine' sk_expr (ek_mL PySem.F.slot_list_append PySem.F.type_list_append mt_append ml_append 0 (pk_var (i := 4) rfl) (ak_1 (PK.ek (pk_ixT (Nth.next Nth.one) (PK.unO (pk_var (i := 8) rfl))))) (fun _ => rfl) ⟨_, rfl⟩) ?k385
                       case k385 =>
                        intro y_20
                        refine' sk_name 0 rfl ?k386
                        case k386 =>
                         intro w_21
                         refine' sk_st (ρ2 := [.val tS a, .val (tL tS) lines_1, .val (tL tS) words_2, .val (tL tS) letters_3, .val tR a_9, .val tR a_12, .val tI x_15.1, .val tS x_15.2, .val (tO (tT (tsC tS (ts1 (tL tI))))) found_19, .un]) (cs2 := [⟨a_9, cL (tL tI) w_21⟩, ⟨a_12, cL tI z_14.2⟩]) rfl rfl ?k387
                         case k387 =>
                          refine' sk_seq (sk_if1 (pt_cmp' op_eq r2_eqS (pk_ixT Nth.here (PK.unO (pk_var (i := 8) rfl))) pk_str) ?a388 ?b389)
                          case a388 =>
                           refine' sk_expr (ek_mL PySem.F.slot_list_append PySem.F.type_list_append mt_append ml_append 1 (pk_var (i := 5) rfl) (ak_1 (PK.ek (pk_var (i := 6) rfl))) (fun _ => rfl) ⟨_, rfl⟩) ?k390
                           case k390 =>
                            intro y_22
                            refine' sk_name 1 rfl ?k391
                            case k391 =>
                             intro w_23
                             refine' sk_st (ρ2 := [.val tS a, .val (tL tS) lines_1, .val (tL tS) words_2, .val (tL tS) letters_3, .val tR a_9, .val tR a_12, .val tI x_15.1, .val tS x_15.2, .val (tO (tT (tsC tS (ts1 (tL tI))))) found_19, .un]) (cs2 := [⟨a_9, cL (tL tI) w_21⟩, ⟨a_12, cL tI w_23⟩]) rfl rfl ?k392
                             case k392 =>
                              refine' sk_nilX rfl ?k393
                              case k393 =>
                               exact sk_midX (z := (_, _)) rfl (.same (.same (.same (.same (.same (.same (.un (.un (.un (.same .nil)))))))))) rfl
                          case b389 =>
                           refine' sk_nilX rfl ?k394
                           case k394 =>
                            exact sk_midX (z := (_, _)) rfl (.same (.same (.same (.same (.same (.same (.un (.un (.un (.same .nil)))))))))) rfl
                 case k378 =>
                  intro z_14
                  refine' sk_freeze 0 4 rfl rfl rfl (Nat.le_of_ble_eq_true rfl) ?k395
                  case k395 =>
                   refine' sk_st (ρ2 := [.val tS a, .val (tL tS) lines_1, .val (tL tS) words_2, .val (tL tS) letters_3, .val (tL (tL tI)) z_14.1, .val tR a_12, .un, .un, .un, .un]) (cs2 := [⟨a_12, cL tI z_14.2⟩]) rfl rfl ?k396
                   case k396 =>
                    refine' sk_freeze 0 5 rfl rfl rfl (Nat.le_of_ble_eq_true rfl) ?k397
                    case k397 =>
                     refine' sk_st (ρ2 := [.val tS a, .val (tL tS) lines_1, .val (tL tS) words_2, .val (tL tS) letters_3, .val (tL (tL tI)) z_14.1, .val (tL tI) z_14.2, .un, .un, .un, .un]) (cs2 := []) rfl rfl ?k398
                     case k398 =>
                      exact sk_retXE (ek_makeX g_Machine_init hr (slC (slC sl1)) (PAK.ak (pa_C (pk_var (i := 3) rfl) (pa_C (pk_var (i := 4) rfl) (pa_1 (pk_var (i := 5) rfl))))) (fun _ => (by first | exact fun _ h => kp0 h | exact fun _ h => h))) (fun _ => rfl)
  case vc =>
   intro h
   simp only [true_and, and_true, yes1, yes2]
   obtain ⟨⟨hl, hc, h7⟩, hφ, hε⟩ := h
   have hl : a.length ≤ 8000 := hl
   have hc : cnt a ≤ 18 := hc
   have h7 : ((wordsT a).headD default).length ≤ 7 := h7
   have hs := sizeLine_eq
   have n1 : ((Str.ofString "\n").length == 0) = false := by decide +kernel
   have n2 : ((Str.ofString " ").length == 0) = false := by decide +kernel
   refine ⟨⟨n1, by omega⟩, fun z ez => ?_⟩
   have hzne : z ≠ [] := by rw [ez]; exact split_ne _ _
   have hpl : ∀ l ∈ z, l.length ≤ a.length := fun l hm => piece_le (by rw [← ez]; exact hm)
   have hzl : z.length ≤ 19 := by
     have := nl_len a
     rw [← ez] at this
     omega
   have hw : wordsT a = z.map fun r => Txt.split r (Str.ofString " ") := by rw [ez]; rfl
   obtain ⟨l0, rs, e⟩ : ∃ hd tl, z = hd :: tl := by
     cases z with
     | nil => exact absurd rfl hzne
     | cons w ws => exact ⟨w, ws, rfl⟩
   have p0 : pyIx z 0 = l0 := by rw [e]; exact pyIx_head _ _
   have p1 : cutA z (some 1) none = rs := by rw [e]; exact cut1 _
   rw [p0, p1]
   have l0m : l0 ∈ z := by rw [e]; exact List.mem_cons_self
   have hl0 := hpl l0 l0m
   refine ⟨⟨ix0 hzne, n2, by omega⟩, fun hd ehd => ?_⟩
   obtain ⟨w0, ls, e0⟩ : ∃ w ws, hd = w :: ws := by
     cases hh : hd with
     | nil => exact absurd (ehd.symm.trans hh) (split_ne _ _)
     | cons w ws => exact ⟨w, ws, rfl⟩
   have p2 : cutA hd (some 1) none = ls := by rw [e0]; exact cut1 _
   have p3 : pyIx hd 0 = w0 := by rw [e0]; exact pyIx_head _ _
   have i2 : IxOk hd 0 := ix0 (by rw [e0]; simp)
   rw [p2]
   intro z1 e1
   subst e1
   have hwt : wordsT a = (w0 :: z1) :: rs.map fun r => Txt.split r (Str.ofString " ") := by
     rw [hw, e, List.map_cons, ← e0]
     exact congrArg (· :: _) ehd.symm
   have hlet : z1.length ≤ 6 := by
     rw [hwt] at h7
     have h7 : (w0 :: z1).length ≤ 7 := h7
     rw [List.length_cons] at h7
     omega
   have hw0 : ∀ w ∈ w0 :: z1, w.length ≤ 10000 := fun w hm => by
     have := words_piece (x := a) (ws := w0 :: z1) (by rw [hwt]; exact List.mem_cons_self) hm
     omega
   generalize etl : (rs.map fun r => Txt.split r (Str.ofString " ")) = tl at hwt
   have tll : tl.length = rs.length := by rw [← etl]; exact List.length_map ..
   have hgr : g_read_machine a = if headOk (w0 :: z1) then (if tl = [] then .inr (.noText 2) else match badRow 2 z1.length tl with
       | some n => .inr (.noText n)
       | none => K13.g_Machine_init (z1, tabOf tl, goods tl)) else .inr (.noText 1) := by
     unfold K13.g_read_machine
     rw [hwt]
     rfl
   have hho : headOk (w0 :: z1) = (decide (w0 = Str.ofString "letters") && !decide (z1 = []) && z1.all K13.f_is_name) := rfl
   have t1 : headOk (w0 :: z1) = false → ε { c := xa.NoText, fs := [("line", Slot.val tI 1)] } := fun hh => hε (.noText 1) (by
     show K13.g_read_machine a = _
     rw [hgr, hh]
     rfl)
   rw [p3]
   refine ⟨i2, fun d1 => ⟨fun _ => t1 ?_, fun e => (by cases e)⟩, fun d1 => ⟨fun d2 => ⟨fun _ => t1 ?_, fun e => (by cases e)⟩, fun d2 => ⟨fun i acc _ => acc = (z1.take i).map K13.f_is_name, rfl, fun i acc _ w hw hI => ⟨fun _ => ⟨?_, by dsimp only at hI ⊢; rw [map_step _ hw, hI]⟩, fun e => (by cases e)⟩, fun acc _ hI => ⟨fun d3 => t1 ?_, fun d3 => ?_⟩⟩⟩⟩
   · rw [hho]
     have : decide (w0 = Str.ofString "letters") = false := by simpa using d1
     rw [this]
     rfl
   · rw [hho, d2, Bool.not_true, Bool.and_false]
     rfl
   · exact hw0 w (List.mem_cons_of_mem _ (get_mem hw))
   · dsimp only at hI
     rw [List.take_length] at hI
     have : acc.all id = z1.all K13.f_is_name := by rw [hI, List.all_map]; rfl
     rw [this] at d3
     have d3 : z1.all K13.f_is_name = false := by simpa using d3
     rw [hho, d3, Bool.and_false]
   dsimp only at hI
   rw [List.take_length] at hI
   have hok : headOk (w0 :: z1) = true := by
     have h1 : acc.all id = z1.all K13.f_is_name := by rw [hI, List.all_map]; rfl
     rw [h1] at d3
     have d3 : z1.all K13.f_is_name = true := by simpa using d3
     have d1 : decide (w0 = Str.ofString "letters") = true := by simpa using d1
     rw [hho, d1, d2, d3]
     rfl
   rw [hok, if_pos rfl] at hgr
   refine ⟨fun d4 => ?_, fun d4 => ?_⟩
   · have d4 := of_decide_eq_true d4
     have htl : tl = [] := by
       rw [e, List.length_cons] at d4
       exact List.length_eq_zero_iff.mp (by omega)
     refine hε (.noText 2) ?_
     show K13.g_read_machine a = _
     rw [hgr, if_pos htl]
   have d4 := of_decide_eq_false d4
   have htl : tl ≠ [] := fun h => d4 (by
     rw [h] at tll
     have tll : 0 = rs.length := tll
     rw [e, List.length_cons]
     omega)
   rw [if_neg htl] at hgr
   intro _ z3 e3 _ z4 e4
   have zrs : rs.length ≤ 18 := by
     rw [e, List.length_cons] at hzl
     omega
   refine ⟨fun i y => badRow ((i : Int) + 2) z1.length (tl.drop i) = badRow 2 z1.length tl ∧ y = (tabOf (tl.take i), ((rng 0 (tl.length : Int)).take i).filter fun k => decide ((pyIx tl k).headD default = Str.ofString "good")), ⟨rfl, by rw [e3, e4]; rfl⟩, fun i y x hx ⟨hI1, hI2⟩ => ?_, fun y ⟨hI1, hI2⟩ => ?_⟩
   · obtain ⟨f1, f2⟩ := enumF_get hx
     have f1 : x.1 = (i : Int) := f1
     have hxz : x.2 ∈ z := by rw [e]; exact List.mem_cons_of_mem _ (get_mem f2)
     have hxl := hpl _ hxz
     have hti : tl[i]? = some (Txt.split x.2 (Str.ofString " ")) := by rw [← etl, List.getElem?_map, f2]; rfl
     have hst := badRow_step (k := z1.length) (n := (i : Int) + 2) hti
     have hi : i < tl.length := (List.getElem?_eq_some_iff.mp hti).1
     refine ⟨⟨by show 0 ≤ (z1.length : Int); omega, by show x.2.length ≤ 10000; omega⟩, fun o eo => ?_⟩
     have eo : o = if rowOk z1.length (Txt.split x.2 (Str.ofString " ")) then some ((Txt.split x.2 (Str.ofString " ")).headD default, (Txt.split x.2 (Str.ofString " ")).tail.map intS) else none := by
       rw [eo]
       unfold K13.f_steps_in
       rw [show ((x.2, (z1.length : Int)) : Str × Int).2.toNat = z1.length from Int.toNat_natCast _]
     have hgp : pyIx tl (i : Int) = Txt.split x.2 (Str.ofString " ") := by
       have := pyIx_some hi
       rw [hti] at this
       exact (Option.some.inj this).symm
     have hrg : (rng 0 (tl.length : Int))[i]? = some (i : Int) := by
       have h := pyIx_some (xs := rng 0 (tl.length : Int)) (n := i) (by rw [rng_len]; exact hi)
       rw [pyIx_rng (by omega) (by omega)] at h
       exact h
     have hy1 : y.1.length ≤ 18 := by
       rw [hI2]
       show (tabOf (tl.take i)).length ≤ 18
       unfold tabOf
       rw [List.length_map, List.length_take]
       omega
     have hy2 : y.2.length ≤ 18 := by
       rw [hI2]
       refine Nat.le_trans (List.length_filter_le _ _) ?_
       rw [List.length_take, rng_len]
       omega
     cases hro : rowOk z1.length (Txt.split x.2 (Str.ofString " ")) with
     | false =>
       rw [hro] at eo hst
       have eo : o = none := eo
       rw [if_neg Bool.false_ne_true] at hst
       subst eo
       refine ⟨fun _ => hε (.noText (x.1 + 2)) ?_, fun e => (by cases e)⟩
       show K13.g_read_machine a = _
       rw [hgr, hI1.symm.trans hst, f1]
     | true =>
       rw [hro] at eo hst
       rw [if_pos rfl] at hst eo
       subst eo
       have hn1 : badRow ((i + 1 : Nat) + 2 : Int) z1.length (tl.drop (i + 1)) = badRow 2 z1.length tl := by
         rw [show ((i + 1 : Nat) + 2 : Int) = (i : Int) + 2 + 1 by omega, ← hst]
         exact hI1
       have htab : tabOf (tl.take (i + 1)) = y.1 ++ [(Txt.split x.2 (Str.ofString " ")).tail.map intS] := by
         rw [hI2]
         unfold tabOf
         rw [map_step _ hti]
       refine ⟨fun e => (by cases e), fun _ => ⟨rfl, by omega, fun z6 e6 w ew => ⟨rfl, fun d5 => ⟨by omega, fun z7 e7 w1 ew1 => ⟨hn1, ?_⟩⟩, fun d5 => ⟨hn1, ?_⟩⟩⟩⟩
       · show (w, w1) = _
         rw [htab, take_step hrg, filter_yes (p := fun k => decide ((pyIx tl k).headD default = Str.ofString "good")) _ (by rw [hgp]; exact d5), ew, e6, ew1, e7, f1]
         rw [hI2]
         rfl
       · show (w, y.2) = _
         rw [htab, take_step hrg, filter_no (p := fun k => decide ((pyIx tl k).headD default = Str.ofString "good")) _ (by rw [hgp]; exact d5), ew, e6]
         rw [hI2]
         rfl
   · rw [enumF_length, ← tll] at hI1 hI2
     rw [List.drop_length] at hI1
     have hl2 : (rng 0 (tl.length : Int)).take tl.length = rng 0 (tl.length : Int) := List.take_of_length_le (by rw [rng_len]; exact Nat.le_refl _)
     rw [List.take_length, hl2] at hI2
     rw [← hI1] at hgr
     have hgr : g_read_machine a = K13.g_Machine_init (z1, tabOf tl, goods tl) := hgr
     have hI2 : y = (tabOf tl, goods tl) := hI2
     subst hI2
     have hgood : GoodOk (tabOf tl) (goods tl) := by
       refine good_of ((rng_pw tl.length).filter _) fun g hg => ?_
       have := rng_mem (List.mem_filter.mp hg).1
       have e : (tabOf tl).length = tl.length := List.length_map ..
       rw [e]
       exact this
     refine ⟨⟨hgood, hlet, ?_⟩, fun r er => hφ r ?_, fun r er => hε r ?_⟩
     · show (tabOf tl).length ≤ 20
       have e : (tabOf tl).length = tl.length := List.length_map ..
       omega
     · show K13.g_read_machine a = _
       rw [hgr]
       exact er
     · show K13.g_read_machine a = _
       rw [hgr]
       exact er
abbrev s_machine : Stmt := topS 24
theorem sc_machine : FnScope ["_law_flow_here", "_law_many", "_law_letters", "_law_table", "_law_state", "_law_letter"] ["_law_flow_here", "_law_many", "_law_letters"] (defScope s_machine) := ⟨rfl, rfl, rfl, by decide +kernel, rfl, by decide +kernel, by decide +kernel⟩
def c_machine (K : PySem.W.Frag) := Con.o1 (K := K) tI (fun x : (Int × (List Str)) => [.val tI x.1, .val (tL tS) x.2]) (tT (tsC (tL (tL tI)) (ts1 (tL tI)))) pre_machine post_machine
theorem ok_machine (bs : Bs mg) {f_draw : Addr} {fd_draw : FuncData} (g_draw : Cal P w K mg base "_law_draw" 1 ["_law_flow_here", "_law_many"] (c_draw K).sp f_draw fd_draw) {f : Addr} {fd : FuncData} (F : Fun K "_law_machine" "_law_machine" s_machine f fd) : FnOk P w K mg base (L2.CX P w) 2 f fd ["_law_flow_here", "_law_many", "_law_letters"] (c_machine K).sp := by
  refine fn_con (c_machine K) F sc_machine (fun _ => rfl) ?_
  intro cdv Ar outer s H E F0 a φ ε hr hp
  have hu := hu_of hr
  have sc := sc_machine
  refine' SK.vc ?hh ?vc
  case hh =>
   refine' sk_setLc (i := 3) rfl (by exact sc.nd) (blkOk_by (own := [("_law_state", 4)]) (N := ["_law_flow_here", "_law_many", "_law_letters", "_law_table", "_law_state", "_law_letter"]) (sc := defScope s_machine) (by decide +kernel)) ?lc37 ?k412
   case lc37 =>
    refine' lc_k (own := [("_law_state", 4)]) (T := tI) (U := (tL tI)) (G := fun ρ x => (List.set ρ 4 (.val tI x))) (vs := [4]) (cs' := (fun c_1 : List Int => [⟨a.1, cL tI c_1⟩])) (z0 := fun y => _) (IK.ie (ik_range1 bs.m_range (pk_var (i := 1) rfl))) (fun _ => rfl) (by decide) (fun _ _ _ _ _ => (gk_name (i := 4) (by exact sc.nd))) (fun _ _ _ _ _ _ _ => ts_0) (fun _ _ _ _ _ _ _ _ => (NE.ek (ne_lc rfl (by exact sc.nd) ?lc35 ?lc34 ?lc36)))
    case lc35 =>
     exact blkIn_by (own := [("_law_letter", 5)]) (N := ["_law_flow_here", "_law_many", "_law_letters", "_law_table", "_law_state", "_law_letter"]) (sc := defScope s_machine) rfl rfl (by decide +kernel)
    case lc34 =>
     exact lc_k (own := [("_law_letter", 5)]) (T := tS) (U := tI) (G := fun ρ x => (List.set ρ 5 (.val tS x))) (vs := [5]) (cs' := (fun c_3 : List Int => [⟨a.1, cL tI c_3⟩])) (z0 := fun y => _) (IK.ie (ik_list (pk_var (i := 2) rfl))) (fun _ => rfl) (by decide) (fun _ _ _ _ _ => (gk_name (i := 5) (by exact sc.nd))) (fun _ _ _ _ _ _ _ => ts_0) (fun _ _ _ _ _ _ _ _ => (ek_o1 0 g_draw.F sl1 hr g_draw.m g_draw.k g_draw.b (pk_var (i := 0) rfl) (PAK.ak (pa_1 (pk_var (i := 1) rfl))) (fun _ => rfl)))
    case lc36 =>
     exact fun _ => rfl
   case k412 =>
    intro y_5 table_6
    refine' sk_name 0 rfl ?k416
    case k416 =>
     intro w_7
     refine' sk_st (ρ2 := [.val tR a.1, .val tI a.2.2.1, .val (tL tS) a.2.2.2, .val (tL (tL tI)) table_6, .un, .un]) (cs2 := [⟨a.1, cL tI w_7⟩]) rfl rfl ?k417
     case k417 =>
      refine' sk_st (ρ2 := [.val tR a.1, .val tI a.2.2.1, .val (tL tS) a.2.2.2, .val (tL (tL tI)) table_6, .un, .un]) (cs2 := [⟨a.1, cL tI w_7⟩]) rfl rfl ?k418
      case k418 =>
       refine' sk_retOE (ek_tup (ak_C (PK.ek (pk_var (i := 3) rfl)) (fun _ => (ak_1 (NE.ek (ne_lc rfl (by exact sc.nd) ?lc39 ?lc38 ?lc40))))) (lenC len1)) ?lc41
       case lc39 =>
        exact blkOk_by (own := [("_law_state", 4)]) (N := ["_law_flow_here", "_law_many", "_law_letters", "_law_table", "_law_state", "_law_letter"]) (sc := defScope s_machine) (by decide +kernel)
       case lc38 =>
        exact lc_k (own := [("_law_state", 4)]) (T := tI) (U := tI) (G := fun ρ x => (List.set ρ 4 (.val tI x))) (vs := [4]) (cs' := (fun c_8 : List Int => [⟨a.1, cL tI c_8⟩])) (z0 := fun y => _) (IK.ie (ik_range1 bs.m_range (pk_var (i := 1) rfl))) (fun _ => rfl) (by decide) (fun _ _ _ _ _ => (gk_name (i := 4) (by exact sc.nd))) (fun _ _ _ _ _ _ _ => (ts_1 (tk_cmp op_eq r2_eqI (ek_o1 0 g_draw.F sl1 hr g_draw.m g_draw.k g_draw.b (pk_var (i := 0) rfl) (PAK.ak (pa_1 pk_int)) (fun _ => rfl)) (fun _ => (PK.ek pk_int))))) (fun _ _ _ _ _ _ _ _ => (PK.ek (pk_var (i := 4) rfl)))
       case lc40 =>
        exact fun _ => rfl
       case lc41 =>
        exact fun _ => rfl
  case vc =>
   intro h
   simp only [true_and, and_true, yes1, yes2]
   obtain ⟨p, fl, n, ls⟩ := a
   obtain ⟨⟨hf, n0, n1, h6⟩, hφ⟩ := h
   have hf : Fl fl := hf
   have n0 : 1 ≤ n := n0
   have n1 : n ≤ 24 := n1
   try dsimp only at hφ
   try dsimp only
   refine ⟨⟨by omega, by omega⟩, fun i acc z => Fl z ∧ acc.length = i ∧ ∀ r ∈ acc, r.length = ls.length ∧ ∀ g ∈ r, 0 ≤ g ∧ g < n, ⟨hf, rfl, fun r hr => (by cases hr)⟩, fun i acc z x hx ⟨i1, i2, i3⟩ => ⟨fun _ => ⟨fun j acc z => Fl z ∧ acc.length = j ∧ ∀ g ∈ acc, 0 ≤ g ∧ g < n, ⟨i1, rfl, fun r hr => (by cases hr)⟩, fun j acc z y hy ⟨j1, j2, j3⟩ => ⟨fun _ => ⟨⟨j1, by omega, by omega⟩, fun r w ⟨r0, r1, f⟩ => ⟨f, by rw [List.length_append, j2]; rfl, fun g hg => ?_⟩⟩, fun e => (by cases e)⟩, fun acc1 z ⟨j1, j2, j3⟩ => ⟨j1, by rw [List.length_append, i2]; rfl, fun r hr => ?_⟩⟩, fun e => (by cases e)⟩, fun acc z ⟨i1, i2, i3⟩ tab etab w5 ew5 => ⟨⟨by omega, by omega⟩, fun i acc z => Fl z ∧ acc.Pairwise (· < ·) ∧ ∀ g ∈ acc, 0 ≤ g ∧ g < (i : Int), ⟨by rw [ew5]; exact i1, List.Pairwise.nil, fun g hg => (by cases hg)⟩, fun i acc z x hx ⟨k1, k2, k3⟩ => ⟨⟨k1, by omega, by omega⟩, fun r w ⟨r0, r1, f⟩ => ⟨fun _ => ?_, fun _ => ⟨f, k2, fun g hg => by have := k3 g hg; omega⟩⟩⟩, fun acc2 z2 ⟨k1, k2, k3⟩ => hφ _ _ ?_⟩⟩
   · rcases List.mem_append.mp hg with h | h
     · exact j3 g h
     · rw [List.mem_singleton.mp h]; exact ⟨r0, r1⟩
   · rcases List.mem_append.mp hr with h | h
     · exact i3 r h
     · rw [List.mem_singleton.mp h]
       exact ⟨j2, j3⟩
   · obtain ⟨ex, hxi⟩ := rng_get hx
     refine ⟨f, List.pairwise_append.mpr ⟨k2, List.pairwise_singleton _ _, fun g hg y hy => ?_⟩, fun g hg => ?_⟩
     · rw [List.mem_singleton.mp hy]
       have := k3 g hg
       omega
     · rcases List.mem_append.mp hg with h | h
       · have := k3 g h
         omega
       · rw [List.mem_singleton.mp h]
         omega
   · have htl : (tab.length : Int) = n := by
       rw [etab, i2, rng_length]
       omega
     refine ⟨k1, htl, by rw [etab]; exact i3, good_of k2 fun g hg => ?_⟩
     have := k3 g hg
     rw [rng_length] at this
     show 0 ≤ g ∧ g < (tab.length : Int)
     omega
abbrev s_text : Stmt := topS 25
theorem sc_text : FnScope ["_law_letters", "_law_table", "_law_good", "_law_rows", "_law_state", "_law_steps", "_law_goal"] ["_law_letters", "_law_table", "_law_good"] (defScope s_text) := ⟨rfl, rfl, rfl, by decide +kernel, rfl, by decide +kernel, by decide +kernel⟩
def c_text (K : PySem.W.Frag) := Con.fn (K := K) (fun x : ((List Str) × (List (List Int)) × (List Int)) => [.val (tL tS) x.1, .val (tL (tL tI)) x.2.1, .val (tL tI) x.2.2]) tS pre_text f_text
theorem ok_text (bs : Bs mg) {f : Addr} {fd : FuncData} (F : Fun K "_law_text" "_law_text" s_text f fd) : FnOk P w K mg base (L2.CX P w) 1 f fd ["_law_letters", "_law_table", "_law_good"] (c_text K).sp := by
  refine fn_con (c_text K) F sc_text (fun _ => rfl) ?_
  intro cdv Ar outer s H E F0 a φ ε hr hp
  have hu := hu_of hr
  have sc := sc_text
  refine' SK.vc ?hh ?vc
  case hh =>
   refine' sk_setN (i := 3) (T := tS) (by exact sc.nd) (NK.ne (nk_lst (pl_C (pk_op op_add_str r2_addS pk_str (pk_join pk_str (PV.q (PK.l (pk_var (i := 0) rfl))))) pl_0) (Nat.le_of_ble_eq_true rfl))) ?k437
   case k437 =>
    intro y_1 a_2 rows_3
    refine' sk_st (ρ2 := [.val (tL tS) a.1, .val (tL (tL tI)) a.2.1, .val (tL tI) a.2.2, .val tR a_2, .un, .un, .un]) (cs2 := [⟨a_2, cL tS rows_3⟩]) rfl rfl ?k438
    case k438 =>
     refine' sk_for (fun z_4 : List Str => [.val (tL tS) a.1, .val (tL (tL tI)) a.2.1, .val (tL tI) a.2.2, .val tR a_2, .un, .un, .un]) (fun z_4 : List Str => [⟨a_2, cL tS z_4⟩]) _ hp rfl (ik_enum bs.m_enumerate (pk_var (i := 1) rfl)) (gk_tup rfl (gs_C (gk_name (i := 4) (by exact sc.nd)) (gs_1 (gk_name (i := 5) (by exact sc.nd)))) (tlC tl1)) (.same (.same (.same (.same (.same (.same (.same .nil))))))) rfl ?b439 ?k440
     case b439 =>
      intro fl_8 hs_7 N_6 z_4 x_5
      refine' sk_st (ρ2 := [.val (tL tS) a.1, .val (tL (tL tI)) a.2.1, .val (tL tI) a.2.2, .val tR a_2, .val tI x_5.1, .val (tL tI) x_5.2, .un]) (cs2 := [⟨a_2, cL tS z_4⟩]) rfl rfl ?k441
      case k441 =>
       refine' sk_expr (ek_mL PySem.F.slot_list_append PySem.F.type_list_append mt_append ml_append 0 (pk_var (i := 3) rfl) (ak_1 (ek_op op_add_str r2_addS (PK.ek (pk_ixR (T := tS) (PV.lk (NK.l (nk_lst (pl_C pk_str (pl_C pk_str pl_0)) (Nat.le_of_ble_eq_true rfl)))) (PV.k (pv_ct call_int1 bs.m_int bs.b_int u_intB (PK.v (pk_in fI (pk_var (i := 4) rfl) (PV.q (PK.l (pk_var (i := 2) rfl))))))))) (fun _ => (ek_join pk_str (EV.q (NE.l (ne_lc rfl (by exact sc.nd) ?lc43 ?lc42 ?lc44))))))) ?lc45 ⟨_, rfl⟩) ?k446
       case lc43 =>
        exact blkOk_by (own := [("_law_goal", 6)]) (N := ["_law_letters", "_law_table", "_law_good", "_law_rows", "_law_state", "_law_steps", "_law_goal"]) (sc := defScope s_text) (by decide +kernel)
       case lc42 =>
        exact lc_k (own := [("_law_goal", 6)]) (T := tI) (U := tS) (G := fun ρ x => (List.set ρ 6 (.val tI x))) (vs := [6]) (cs' := (fun _ : Unit => [⟨a_2, cL tS z_4⟩])) (z0 := fun y => ()) (s1 := fun _ _ _ => ()) (s2 := fun _ _ _ _ => ()) (IK.ie (ik_list (pk_var (i := 5) rfl))) (fun _ => rfl) (by decide) (fun _ _ _ _ _ => (gk_name (i := 6) (by exact sc.nd))) (fun _ _ _ _ _ _ _ => ts_0) (fun _ _ _ _ _ _ _ _ => (PK.ek (PV.k (pv_ct call_str_int bs.m_str bs.b_str u_strI (PK.v (pk_var (i := 6) rfl))))))
       case lc44 =>
        exact fun _ => rfl
       case lc45 =>
        exact fun _ => rfl
       case k446 =>
        intro y_11
        refine' sk_name 0 rfl ?k447
        case k447 =>
         intro w_12
         refine' sk_st (ρ2 := [.val (tL tS) a.1, .val (tL (tL tI)) a.2.1, .val (tL tI) a.2.2, .val tR a_2, .val tI x_5.1, .val (tL tI) x_5.2, .un]) (cs2 := [⟨a_2, cL tS w_12⟩]) rfl rfl ?k448
         case k448 =>
          exact sk_midX (z := _) rfl (.same (.same (.same (.same (.un (.un (.same .nil))))))) rfl
     case k440 =>
      intro z_4
      refine' sk_freeze 0 3 rfl rfl rfl (Nat.le_of_ble_eq_true rfl) ?k449
      case k449 =>
       refine' sk_st (ρ2 := [.val (tL tS) a.1, .val (tL (tL tI)) a.2.1, .val (tL tI) a.2.2, .val (tL tS) z_4, .un, .un, .un]) (cs2 := []) rfl rfl ?k450
       case k450 =>
        exact sk_retF (pk_join pk_str (PV.q (PK.l (pk_var (i := 3) rfl))))
  case vc =>
   intro h
   simp only [true_and, and_true, yes1, yes2]
   obtain ⟨ls, tab, good⟩ := a
   obtain ⟨hM, hφ⟩ := h
   have hM : MaOk (ls, tab, good) := hM
   have hT : TabOk ls tab := hM.1
   have hφ : φ (textM (ls, tab, good)) := hφ _ rfl
   try dsimp only
   have hs := sizeLine_eq
   have h24 : tab.length ≤ 24 := hT.few
   have h6 : ls.length ≤ 6 := hT.l6
   have s1 : (Str.ofString " ").length = 1 := by decide +kernel
   have s2 : (Str.ofString "\n").length = 1 := by decide +kernel
   have lsum : (ls.map fun x => x.length).sum ≤ 8 * ls.length := sum_le fun w hw => (hT.w w hw).2.1
   have rowlen : ∀ (w : Str) (r : List Int), w.length ≤ 8 → r.length ≤ 6 → (∀ g ∈ r, 0 ≤ g ∧ g < 24) → (Str.join " " (w :: r.map strI)).length ≤ 100 := fun w r hw h6 hr => by
     have h1 := len_join (w :: r.map strI)
     have h2 : ((w :: r.map strI).map (·.length)).sum ≤ 8 * (w :: r.map strI).length := sum_le fun x hx => by
       rcases List.mem_cons.mp hx with e | e
       · rw [e]; exact hw
       · obtain ⟨g, hg, rfl⟩ := List.mem_map.mp e
         have := (num (hr g hg).1 (hr g hg).2).l2
         omega
     rw [List.length_cons, List.length_map] at h1 h2
     omega
   have wl : ∀ k : Int, (if decide (k ∈ good) then ("good" : Str) else "plain").length ≤ 8 := fun k => by
     rcases wordOf good k with h | h
     · rw [h]; exact goodw.1.2.1
     · rw [h]; exact goodw.2.1.2.1
   have headlen : (Str.join " " (("letters" : Str) :: ls)).length ≤ 100 := by
     have h1 := len_join (("letters" : Str) :: ls)
     have h2 : ((("letters" : Str) :: ls).map (·.length)).sum ≤ 8 * (("letters" : Str) :: ls).length := sum_le fun x hx => by
       rcases List.mem_cons.mp hx with e | e
       · rw [e]; exact goodw.2.2.2.1
       · exact (hT.w x e).2.1
     rw [List.length_cons] at h1 h2
     omega
   have llen : ∀ l ∈ linesT (ls, tab, good), l.length ≤ 100 := fun l hl => by
     rcases List.mem_cons.mp hl with e | e
     · rw [e]; exact headlen
     · obtain ⟨k, hk, rfl⟩ := List.mem_map.mp e
       have hk2 := rng_mem hk
       have hr := hT.row hk2.1 hk2.2
       exact rowlen _ _ (wl k) (Nat.le_trans (Nat.le_of_eq hr.1) h6) hr.2
   have lines : (linesT (ls, tab, good)).length = tab.length + 1 := by
     show (statesT (ls, tab, good)).length + 1 = _
     rw [states_len]
   have endlen : ((linesT (ls, tab, good)).map fun x => x.length).sum + (linesT (ls, tab, good)).length * (Str.ofString "\n").length ≤ 16777216 := by
     have h1 : ((linesT (ls, tab, good)).map fun x => x.length).sum ≤ 100 * (linesT (ls, tab, good)).length := sum_le llen
     rw [s2]
     omega
   have next : ∀ (i : Nat), i < tab.length → (linesT (ls, tab, good)).take (i + 1 + 1) = (linesT (ls, tab, good)).take (i + 1) ++ [stateT good (i : Int) (pyIx tab (i : Int))] := fun i hi => by
     show _ :: (statesT (ls, tab, good)).take (i + 1) = (_ :: (statesT (ls, tab, good)).take i) ++ _
     have hx := pyIx_some (xs := statesT (ls, tab, good)) (n := i) (by rw [states_len]; exact hi)
     rw [states_at (by omega) (by show (i : Int) < (tab.length : Int); omega)] at hx
     rw [take_step hx]
     rfl
   have jl : ∀ (x : Str) (ys : List Str), ys ≠ [] → Str.join " " (x :: ys) = x ++ Str.ofString " " ++ Str.join " " ys := fun x ys hy => by
     cases ys with
     | nil => exact absurd rfl hy
     | cons y ys => rfl
   have c1 : Str.ofString "letters " = Str.ofString "letters" ++ Str.ofString " " := by decide +kernel
   have c2 : Str.ofString "plain " = Str.ofString "plain" ++ Str.ofString " " := by decide +kernel
   have c3 : Str.ofString "good " = Str.ofString "good" ++ Str.ofString " " := by decide +kernel
   have c4 : (Str.ofString "letters ").length = 8 := by decide +kernel
   have hd : Str.ofString "letters " ++ Str.join (Str.ofString " ") ls = Str.join " " (("letters" : Str) :: ls) := by
     rw [jl _ _ hT.lne, c1]
   have jls : (Str.join (Str.ofString " ") ls).length ≤ 100 := by
     have h1 := len_join ls
     have h1 : (Str.join (Str.ofString " ") ls).length ≤ (ls.map fun x => x.length).sum + ls.length := h1
     omega
   refine ⟨⟨by rw [s1]; omega, by omega⟩, fun _ z ez => ⟨fun i z => z = (linesT (ls, tab, good)).take (i + 1), ez.trans (by rw [hd]; rfl), fun i z x hx hI => ?_, fun z hI => ?_⟩⟩
   · obtain ⟨e1, e2⟩ := enumF_get hx
     have hi : i < tab.length := (List.getElem?_eq_some_iff.mp e2).1
     have hx2 : x.2 = pyIx tab (i : Int) := by
       have := pyIx_some hi
       rw [e2] at this
       exact Option.some.inj this
     have hr := hT.row (k := (i : Int)) (by omega) (by omega)
     rw [← hx2] at hr
     have hne : x.2.map strI ≠ [] := fun e => hT.lne (List.length_eq_zero_iff.mp (by rw [← hr.1, List.map_eq_nil_iff.mp e]; rfl))
     have hw : ∀ b : Bool, IxOk [Str.ofString "plain ", Str.ofString "good "] (if b = true then 1 else 0) ∧ pyIx [Str.ofString "plain ", Str.ofString "good "] (if b = true then 1 else 0) = (if b then ("good" : Str) else "plain") ++ Str.ofString " " := fun b => by
       have hl2 : [Str.ofString "plain ", Str.ofString "good "].length = 2 := rfl
       cases b with
       | true =>
         refine ⟨⟨by show -((2 : Nat) : Int) ≤ 1; omega, by show (1 : Int) < ((2 : Nat) : Int); omega⟩, ?_⟩
         have := pyIx_some (xs := [Str.ofString "plain ", Str.ofString "good "]) (n := 1) (by decide)
         exact (Option.some.inj this).symm.trans c3
       | false =>
         refine ⟨⟨by show -((2 : Nat) : Int) ≤ 0; omega, by show (0 : Int) < ((2 : Nat) : Int); omega⟩, ?_⟩
         exact (pyIx_head _ _).trans c2
     obtain ⟨hw1, hw2⟩ := hw (decide (x.1 ∈ good))
     rw [hw2]
     refine ⟨hw1, fun j acc _ => acc = (x.2.take j).map strI, rfl, fun j acc _ g hg hJ => ⟨fun _ => ⟨?_, by dsimp only at hJ ⊢; rw [map_step _ hg, hJ]⟩, fun e => (by cases e)⟩, fun acc _ hJ => ?_⟩
     · have hn := num (hr.2 g (get_mem hg)).1 (hr.2 g (get_mem hg)).2
       exact ⟨hn.lg, hn.ok⟩
     · dsimp only at hJ
       rw [List.take_length] at hJ
       subst hJ
       have h2 : ((x.2.map strI).map (fun x => x.length)).sum ≤ 8 * (x.2.map strI).length := sum_le fun y hy => by
         obtain ⟨g, hg, rfl⟩ := List.mem_map.mp hy
         have := (num (hr.2 g hg).1 (hr.2 g hg).2).l2
         omega
       have h3 := len_join (x.2.map strI)
       have h3 : (Str.join (Str.ofString " ") (x.2.map strI)).length ≤ ((x.2.map strI).map fun x => x.length).sum + (x.2.map strI).length := h3
       rw [List.length_map] at h2 h3
       have hwl := wl x.1
       refine ⟨by rw [s1, List.length_map]; omega, ?_, by rw [hI, List.length_take]; omega, fun z4 e4 w5 e5 => ?_⟩
       · rw [app_len, s1]
         omega
       · show w5 = (linesT (ls, tab, good)).take (i + 1 + 1)
         rw [e5, e4, next i hi, hI, e1, hx2]
         rw [hx2] at hne
         unfold stateT
         rw [jl _ _ hne]
   · have hI : z = (linesT (ls, tab, good)).take ((enumF tab).length + 1) := hI
     rw [enumF_length, ← lines, List.take_length] at hI
     subst hI
     exact ⟨endlen, hφ⟩
abbrev s_signs : Stmt := topS 26
theorem sc_signs : FnScope ["_law_signs_here"] [] (defScope s_signs) := ⟨rfl, rfl, rfl, by decide +kernel, rfl, by decide +kernel, by decide +kernel⟩
def c_signs (K : PySem.W.Frag) := Con.fn (K := K) (fun x : Unit => []) tS pre_signs f_signs
theorem ok_signs (bs : Bs mg) {f : Addr} {fd : FuncData} (F : Fun K "_law_signs" "_law_signs" s_signs f fd) : FnOk P w K mg base (L2.CX P w) 1 f fd [] (c_signs K).sp := by
  refine fn_con (c_signs K) F sc_signs (fun _ => rfl) ?_
  intro cdv Ar outer s H E F0 a φ ε hr hp
  have hu := hu_of hr
  have sc := sc_signs
  refine' SK.vc ?hh ?vc
  case hh =>
   refine' sk_set (i := 0) (by exact sc.nd) pk_str ?k453
   case k453 =>
    intro signs_here_1
    refine' sk_st (ρ2 := [.val tS signs_here_1]) (cs2 := []) rfl rfl ?k454
    case k454 =>
     exact sk_retF (pk_op op_add_str r2_addS (pk_var (i := 0) rfl) pk_str)
  case vc =>
   intro h
   simp only [true_and, and_true, yes1, yes2]
   intro z ez
   subst ez
   exact ⟨by rw [sizeLine_eq]; decide +kernel, h.2 _ rfl⟩
abbrev s_moved : Stmt := topS 27
theorem sc_moved : FnScope ["_law_flow_here", "_law_some", "_law_form", "_law_at", "_law_far", "_law_found"] ["_law_flow_here", "_law_some"] (defScope s_moved) := ⟨rfl, rfl, rfl, by decide +kernel, rfl, by decide +kernel, by decide +kernel⟩
def c_moved (K : PySem.W.Frag) := Con.o1 (K := K) tI (fun x : (List Str) => [.val (tL tS) x]) (tL tS) pre_moved post_moved
theorem ok_moved (bs : Bs mg) {f_draw : Addr} {fd_draw : FuncData} (g_draw : Cal P w K mg base "_law_draw" 1 ["_law_flow_here", "_law_many"] (c_draw K).sp f_draw fd_draw) {f : Addr} {fd : FuncData} (F : Fun K "_law_moved" "_law_moved" s_moved f fd) : FnOk P w K mg base (L2.CX P w) 2 f fd ["_law_flow_here", "_law_some"] (c_moved K).sp := by
  refine fn_con (c_moved K) F sc_moved (fun _ => rfl) ?_
  intro cdv Ar outer s H E F0 a φ ε hr hp
  have hu := hu_of hr
  have sc := sc_moved
  refine' SK.vc ?hh ?vc
  case hh =>
   refine' sk_setE (i := 2) (by exact sc.nd) (ek_o1 0 g_draw.F sl1 hr g_draw.m g_draw.k g_draw.b (pk_var (i := 0) rfl) (PAK.ak (pa_1 pk_int)) (fun _ => rfl)) ?k475
   case k475 =>
    intro y_2 form_1
    refine' sk_name 0 rfl ?k476
    case k476 =>
     intro w_3
     refine' sk_st (ρ2 := [.val tR a.1, .val (tL tS) a.2.2, .val tI form_1, .un, .un, .un]) (cs2 := [⟨a.1, cL tI w_3⟩]) rfl rfl ?k477
     case k477 =>
      refine' sk_st (ρ2 := [.val tR a.1, .val (tL tS) a.2.2, .val tI form_1, .un, .un, .un]) (cs2 := [⟨a.1, cL tI w_3⟩]) rfl rfl ?k478
      case k478 =>
       refine' sk_par (i := 3) (j := 4) rfl (by exact sc.nd) (ak_C (ek_o1 0 g_draw.F sl1 hr g_draw.m g_draw.k g_draw.b (pk_var (i := 0) rfl) (PAK.ak (pa_1 (PV.k (pv_cb cr_lenQ bs.m_len bs.b_len u_len (PV.q (PK.l (pk_var (i := 1) rfl))))))) (fun _ => rfl)) (fun _ => (ak_1 (ek_o1 0 g_draw.F sl1 hr g_draw.m g_draw.k g_draw.b (pk_var (i := 0) rfl) (PAK.ak (pa_1 (PV.k (pv_cb cr_lenQ bs.m_len bs.b_len u_len (PV.q (PK.l (pk_var (i := 1) rfl))))))) (fun _ => rfl))))) ?k479
       case k479 =>
        intro y_4 z_5
        refine' sk_name 0 rfl ?k480
        case k480 =>
         intro w_6
         refine' sk_st (ρ2 := [.val tR a.1, .val (tL tS) a.2.2, .val tI form_1, .val tI z_5.1, .val tI z_5.2, .un]) (cs2 := [⟨a.1, cL tI w_6⟩]) rfl rfl ?k481
         case k481 =>
          refine' sk_st (ρ2 := [.val tR a.1, .val (tL tS) a.2.2, .val tI form_1, .val tI z_5.1, .val tI z_5.2, .un]) (cs2 := [⟨a.1, cL tI w_6⟩]) rfl rfl ?k482
          case k482 =>
           refine' sk_seq (sk_if1 (pt_cmp' op_eq r2_eqI (pk_var (i := 2) rfl) pk_int) ?a483 ?b484)
           case a483 =>
            exact sk_retO (NK.pk (nk_cat (NK.l (nk_slL (PV.lk (PK.l (pk_var (i := 1) rfl))) po_0 (po_1 (pk_var (i := 3) rfl)))) (NK.l (nk_slL (PV.lk (PK.l (pk_var (i := 1) rfl))) (po_1 (pk_op op_add r2_I0 (pk_var (i := 3) rfl) pk_int)) po_0)))) rfl
           case b484 =>
            refine' sk_nilX rfl ?k485
            case k485 =>
             refine' sk_seq (sk_if1 (pt_cmp' op_eq r2_eqI (pk_var (i := 2) rfl) pk_int) ?a486 ?b487)
             case a486 =>
              exact sk_retO (NK.pk (nk_cat (NK.l (nk_cat (NK.l (nk_slL (PV.lk (PK.l (pk_var (i := 1) rfl))) po_0 (po_1 (pk_var (i := 3) rfl)))) (NK.l (nk_slL (PV.lk (PK.l (pk_var (i := 1) rfl))) (po_1 (pk_var (i := 3) rfl)) (po_1 (pk_op op_add r2_I0 (pk_var (i := 3) rfl) pk_int)))))) (NK.l (nk_slL (PV.lk (PK.l (pk_var (i := 1) rfl))) (po_1 (pk_var (i := 3) rfl)) po_0)))) rfl
             case b487 =>
              refine' sk_nilX rfl ?k488
              case k488 =>
               refine' sk_setN (i := 5) (T := tS) (by exact sc.nd) (NK.ne (nk_ct call_list_of bs.m_list bs.b_list n_list (PV.q (PK.l (pk_var (i := 1) rfl))))) ?k489
               case k489 =>
                intro y_7 a_8 found_9
                refine' sk_st (ρ2 := [.val tR a.1, .val (tL tS) a.2.2, .val tI form_1, .val tI z_5.1, .val tI z_5.2, .val tR a_8]) (cs2 := [⟨a.1, cL tI w_6⟩, ⟨a_8, cL tS found_9⟩]) rfl rfl ?k490
                case k490 =>
                 refine' sk_setIx2 rfl 1 (pk_tup (pa_C (pk_ixR (T := tS) (PV.lk (PK.l (pk_var (i := 1) rfl))) (pk_var (i := 4) rfl)) (pa_1 (pk_ixR (T := tS) (PV.lk (PK.l (pk_var (i := 1) rfl))) (pk_var (i := 3) rfl)))) (fun F vs => (lenC len1) F vs _)) (pk_var (i := 5) rfl) (pk_var (i := 3) rfl) rfl (fun _ => (pk_var (i := 5) rfl)) (fun _ => (pk_var (i := 4) rfl)) ?k491
                 case k491 =>
                  intro w_10
                  refine' sk_st (ρ2 := [.val tR a.1, .val (tL tS) a.2.2, .val tI form_1, .val tI z_5.1, .val tI z_5.2, .val tR a_8]) (cs2 := [⟨a.1, cL tI w_6⟩, ⟨a_8, cL tS w_10⟩]) rfl rfl ?k492
                  case k492 =>
                   refine' sk_freeze 1 5 rfl rfl rfl (Nat.le_of_ble_eq_true rfl) ?k493
                   case k493 =>
                    refine' sk_st (ρ2 := [.val tR a.1, .val (tL tS) a.2.2, .val tI form_1, .val tI z_5.1, .val tI z_5.2, .val (tL tS) w_10]) (cs2 := [⟨a.1, cL tI w_6⟩]) rfl rfl ?k494
                    case k494 =>
                     exact sk_retO (pk_var (i := 5) rfl) rfl
  case vc =>
   intro h
   simp only [true_and, and_true, yes1, yes2]
   obtain ⟨p, fl, xs⟩ := a
   obtain ⟨⟨hf, hne, hl⟩, hφ⟩ := h
   have hf : Fl fl := hf
   have hne : xs ≠ [] := hne
   have hl : xs.length ≤ 10010 := hl
   have hpos : 0 < xs.length := List.length_pos_iff.mpr hne
   have hs := sizeLine_eq
   have fin : ∀ r fl2, Fl fl2 → lsum r ≤ 3 * lsum xs → r.length ≤ xs.length + 1 → (∀ s ∈ r, s ∈ xs) → φ (r, fl2) := fun r fl2 h1 h2 h3 h4 => hφ _ _ ⟨h1, h2, h3, h4⟩
   try dsimp only
   refine ⟨⟨hf, by decide, by decide⟩, fun f w ⟨f0, f1, g1⟩ z ez w1 e1 => ⟨⟨by rw [e1]; exact g1, by omega, by omega⟩, fun r w2 ⟨r0, r1, g2⟩ => ⟨⟨g2, by omega, by omega⟩, fun r3 w3 ⟨p0, p1, g3⟩ zz ezz w4 e4 => ?_⟩⟩⟩
   subst ezz
   have g4 : Fl w4 := by rw [e4]; exact g3
   dsimp only
   obtain ⟨i, rfl⟩ : ∃ i : Nat, r = (i : Int) := ⟨r.toNat, by omega⟩
   obtain ⟨j, rfl⟩ : ∃ j : Nat, r3 = (j : Int) := ⟨r3.toNat, by omega⟩
   have r1 : (i : Int) < (xs.length : Int) := r1
   have p1 : (j : Int) < (xs.length : Int) := p1
   have c1 : cutA xs none (some (i : Int)) = xs.take i := cutA_to2
   have c2 : cutA xs (some ((i : Int) + 1)) none = xs.drop (i + 1) := by rw [show (i : Int) + 1 = ((i + 1 : Nat) : Int) by omega]; exact cutA_from
   have c3 : cutA xs (some (i : Int)) none = xs.drop i := cutA_from
   have hx := pyIx_some (xs := xs) (n := i) (by omega)
   have hy := pyIx_some (xs := xs) (n := j) (by omega)
   have hmid := lsum_mid hx
   have htd := lsum_td xs i
   have htd2 := lsum_td xs (i + 1)
   refine ⟨fun _ => ⟨by rw [c1, c2]; simp only [List.length_take, List.length_drop]; omega, ?_⟩, fun _ => ⟨fun _ => ?_, fun _ => ?_⟩⟩
   · rw [c1, c2]
     refine fin _ _ g4 (by rw [lsum_app]; omega) (by simp only [List.length_append, List.length_take, List.length_drop]; omega) fun s hs => ?_
     rcases List.mem_append.mp hs with h | h
     · exact List.mem_of_mem_take h
     · exact List.mem_of_mem_drop h
   · have c4 : lsum (cutA xs (some (i : Int)) (some ((i : Int) + 1))) ≤ lsum xs ∧ (cutA xs (some (i : Int)) (some ((i : Int) + 1))).length ≤ 1 ∧ ∀ s ∈ cutA xs (some (i : Int)) (some ((i : Int) + 1)), s ∈ xs := by
       have e : cutA xs (some (i : Int)) (some ((i : Int) + 1)) = (xs.drop i).take 1 := by
         rw [show (i : Int) + 1 = ((i + 1 : Nat) : Int) by omega]
         unfold cutA
         rw [HT.sIx_nat, HT.sIx_nat, Nat.min_eq_left (by omega), Nat.min_eq_left (by omega), show i + 1 - i = 1 by omega]
       rw [e]
       refine ⟨?_, by rw [List.length_take]; omega, fun s hs => List.mem_of_mem_drop (List.mem_of_mem_take hs)⟩
       have := lsum_td (xs.drop i) 1
       omega
     rw [c1, c3]
     refine ⟨⟨by simp only [List.length_take]; omega, by simp only [List.length_append, List.length_take, List.length_drop]; omega⟩, fin _ _ g4 (by rw [lsum_app, lsum_app]; omega) (by simp only [List.length_append, List.length_take, List.length_drop]; omega) fun s hs => ?_⟩
     rcases List.mem_append.mp hs with h | h
     · rcases List.mem_append.mp h with h | h
       · exact List.mem_of_mem_take h
       · exact c4.2.2 s h
     · exact List.mem_of_mem_drop h
   · intro _ z9 e9
     subst e9
     refine ⟨⟨⟨by omega, by omega⟩, by omega, by omega⟩, ⟨by omega, by omega⟩, ⟨by omega, by omega⟩, fun z8 e8 => ?_⟩
     have ti : ((i : Int)).toNat = i := by omega
     have tj : ((j : Int)).toNat = j := by omega
     rw [ti, tj] at e8
     have l1 := lsum_set (z := z9) (k := i) (p := pyIx z9 (j : Int))
     have l2 := lsum_set (z := z9.set i (pyIx z9 (j : Int))) (k := j) (p := pyIx z9 (i : Int))
     have m1 : (pyIx z9 (i : Int)).length ≤ lsum z9 := mem_sum (get_mem hx)
     have m2 : (pyIx z9 (j : Int)).length ≤ lsum z9 := mem_sum (get_mem hy)
     refine fin _ _ g4 (by rw [e8]; omega) (by rw [e8, List.length_set, List.length_set]; omega) fun s hs => ?_
     rw [e8] at hs
     rcases List.mem_or_eq_of_mem_set hs with h | h
     · rcases List.mem_or_eq_of_mem_set h with h | h
       · exact h
       · rw [h]; exact get_mem hy
     · rw [h]; exact get_mem hx
abbrev s_spoilt : Stmt := topS 28
theorem sc_spoilt : FnScope ["_law_flow_here", "_law_text_here", "_law_form", "_law_at", "_law_signs_here", "_law_sign", "_law_rows", "_law_row", "_law_words", "_law_odd"] ["_law_flow_here", "_law_text_here"] (defScope s_spoilt) := ⟨rfl, rfl, rfl, by decide +kernel, rfl, by decide +kernel, by decide +kernel⟩
def c_spoilt (K : PySem.W.Frag) := Con.o1 (K := K) tI (fun x : Str => [.val tS x]) tS pre_spoilt post_spoilt
theorem ok_spoilt (bs : Bs mg) {f_draw : Addr} {fd_draw : FuncData} (g_draw : Cal P w K mg base "_law_draw" 1 ["_law_flow_here", "_law_many"] (c_draw K).sp f_draw fd_draw) {f_moved : Addr} {fd_moved : FuncData} (g_moved : Cal P w K mg base "_law_moved" 2 ["_law_flow_here", "_law_some"] (c_moved K).sp f_moved fd_moved) {f_signs : Addr} {fd_signs : FuncData} (g_signs : Cal P w K mg base "_law_signs" 1 [] (c_signs K).sp f_signs fd_signs) {f : Addr} {fd : FuncData} (F : Fun K "_law_spoilt" "_law_spoilt" s_spoilt f fd) : FnOk P w K mg base (L2.CX P w) 3 f fd ["_law_flow_here", "_law_text_here"] (c_spoilt K).sp := by
  refine fn_con (c_spoilt K) F sc_spoilt (fun _ => rfl) ?_
  intro cdv Ar outer s H E F0 a φ ε hr hp
  have hu := hu_of hr
  have sc := sc_spoilt
  refine' SK.vc ?hh ?vc
  case hh =>
   refine' sk_setE (i := 2) (by exact sc.nd) (ek_o1 0 g_draw.F sl1 (hr.mono (by decide)) g_draw.m g_draw.k g_draw.b (pk_var (i := 0) rfl) (PAK.ak (pa_1 pk_int)) (fun _ => rfl)) ?k560
   case k560 =>
    intro y_2 form_1
    refine' sk_name 0 rfl ?k561
    case k561 =>
     intro w_3
     refine' sk_st (ρ2 := [.val tR a.1, .val tS a.2.2, .val tI form_1, .un, .un, .un, .un, .un, .un, .un]) (cs2 := [⟨a.1, cL tI w_3⟩]) rfl rfl ?k562
     case k562 =>
      refine' sk_st (ρ2 := [.val tR a.1, .val tS a.2.2, .val tI form_1, .un, .un, .un, .un, .un, .un, .un]) (cs2 := [⟨a.1, cL tI w_3⟩]) rfl rfl ?k563
      case k563 =>
       refine' sk_setE (i := 3) (by exact sc.nd) (ek_o1 0 g_draw.F sl1 (hr.mono (by decide)) g_draw.m g_draw.k g_draw.b (pk_var (i := 0) rfl) (PAK.ak (pa_1 (pk_op op_add r2_I0 (PV.k (pv_cb call_len_str bs.m_len bs.b_len u_lenS (PK.v (pk_var (i := 1) rfl)))) pk_int))) (fun _ => rfl)) ?k564
       case k564 =>
        intro y_5 at_4
        refine' sk_name 0 rfl ?k565
        case k565 =>
         intro w_6
         refine' sk_st (ρ2 := [.val tR a.1, .val tS a.2.2, .val tI form_1, .val tI at_4, .un, .un, .un, .un, .un, .un]) (cs2 := [⟨a.1, cL tI w_6⟩]) rfl rfl ?k566
         case k566 =>
          refine' sk_st (ρ2 := [.val tR a.1, .val tS a.2.2, .val tI form_1, .val tI at_4, .un, .un, .un, .un, .un, .un]) (cs2 := [⟨a.1, cL tI w_6⟩]) rfl rfl ?k567
          case k567 =>
           refine' sk_seq (sk_if1 (pt_cmp' op_lt r2_B0 (pk_var (i := 2) rfl) pk_int) ?a568 ?b569)
           case a568 =>
            refine' sk_setE (i := 4) (by exact sc.nd) (ek_ixL (PK.ek (NK.pk (nk_lst (pl_C (pk_fn0 g_signs.F rfl (hr.mono (by decide)) g_signs.m g_signs.k g_signs.b) (pl_C pk_str pl_0)) (Nat.le_of_ble_eq_true rfl)))) (fun _ => (ek_o1 0 g_draw.F sl1 (hr.mono (by decide)) g_draw.m g_draw.k g_draw.b (pk_var (i := 0) rfl) (PAK.ak (pa_1 pk_int)) (fun _ => rfl)))) ?k570
            case k570 =>
             intro y_8 signs_here_7
             refine' sk_name 0 rfl ?k571
             case k571 =>
              intro w_9
              refine' sk_st (ρ2 := [.val tR a.1, .val tS a.2.2, .val tI form_1, .val tI at_4, .val tS signs_here_7, .un, .un, .un, .un, .un]) (cs2 := [⟨a.1, cL tI w_9⟩]) rfl rfl ?k572
              case k572 =>
               refine' sk_st (ρ2 := [.val tR a.1, .val tS a.2.2, .val tI form_1, .val tI at_4, .val tS signs_here_7, .un, .un, .un, .un, .un]) (cs2 := [⟨a.1, cL tI w_9⟩]) rfl rfl ?k573
               case k573 =>
                refine' sk_setE (i := 5) (by exact sc.nd) (ek_ixS (PK.ek (pk_var (i := 4) rfl)) (fun _ => (ek_o1 0 g_draw.F sl1 (hr.mono (by decide)) g_draw.m g_draw.k g_draw.b (pk_var (i := 0) rfl) (PAK.ak (pa_1 (PV.k (pv_cb call_len_str bs.m_len bs.b_len u_lenS (PK.v (pk_var (i := 4) rfl)))))) (fun _ => rfl)))) ?k574
                case k574 =>
                 intro y_11 sign_10
                 refine' sk_name 0 rfl ?k575
                 case k575 =>
                  intro w_12
                  refine' sk_st (ρ2 := [.val tR a.1, .val tS a.2.2, .val tI form_1, .val tI at_4, .val tS signs_here_7, .val tS sign_10, .un, .un, .un, .un]) (cs2 := [⟨a.1, cL tI w_12⟩]) rfl rfl ?k576
                  case k576 =>
                   refine' sk_st (ρ2 := [.val tR a.1, .val tS a.2.2, .val tI form_1, .val tI at_4, .val tS signs_here_7, .val tS sign_10, .un, .un, .un, .un]) (cs2 := [⟨a.1, cL tI w_12⟩]) rfl rfl ?k577
                   case k577 =>
                    exact sk_retO (pk_op op_add_str r2_addS (pk_op op_add_str r2_addS (pk_slS (pk_var (i := 1) rfl) po_0 (po_1 (pk_var (i := 3) rfl))) (pk_ixR (T := tS) (PV.lk (NK.l (nk_lst (pl_C (pk_var (i := 5) rfl) (pl_C pk_str (pl_C (pk_var (i := 5) rfl) pl_0))) (Nat.le_of_ble_eq_true rfl)))) (pk_var (i := 2) rfl))) (pk_slS (pk_var (i := 1) rfl) (po_1 (pk_op op_add r2_I0 (pk_var (i := 3) rfl) (PV.k (pv_ct call_int1 bs.m_int bs.b_int u_intB (PK.v (pk_cmp op_gt r2_B0 (pk_var (i := 2) rfl) pk_int)))))) po_0)) rfl
           case b569 =>
            refine' sk_nilX rfl ?k578
            case k578 =>
             refine' sk_setN (i := 6) (T := tS) (by exact sc.nd) (NK.ne (nk_split (pk_var (i := 1) rfl) pk_str)) ?k579
             case k579 =>
              intro y_13 a_14 rows_15
              refine' sk_st (ρ2 := [.val tR a.1, .val tS a.2.2, .val tI form_1, .val tI at_4, .un, .un, .val tR a_14, .un, .un, .un]) (cs2 := [⟨a.1, cL tI w_6⟩, ⟨a_14, cL tS rows_15⟩]) rfl rfl ?k580
              case k580 =>
               refine' sk_seq (sk_if1 (pt_cmp' op_eq r2_eqI (pk_var (i := 2) rfl) pk_int) ?a581 ?b582)
               case a581 =>
                refine' sk_freeze 1 6 rfl rfl rfl (Nat.le_of_ble_eq_true rfl) ?k583
                case k583 =>
                 refine' sk_st (ρ2 := [.val tR a.1, .val tS a.2.2, .val tI form_1, .val tI at_4, .un, .un, .val (tL tS) rows_15, .un, .un, .un]) (cs2 := [⟨a.1, cL tI w_6⟩]) rfl rfl ?k584
                 case k584 =>
                  exact sk_retOE (ek_join pk_str (EV.q (EK.l (ek_o1 0 g_moved.F sl1 hr g_moved.m g_moved.k g_moved.b (pk_var (i := 0) rfl) (PAK.ak (pa_1 (pk_var (i := 6) rfl))) (fun _ => rfl))))) (fun _ => rfl)
               case b582 =>
                refine' sk_nilX rfl ?k585
                case k585 =>
                 refine' sk_setE (i := 7) (by exact sc.nd) (ek_o1 0 g_draw.F sl1 (hr.mono (by decide)) g_draw.m g_draw.k g_draw.b (pk_var (i := 0) rfl) (PAK.ak (pa_1 (PV.k (pv_cb cr_lenQ bs.m_len bs.b_len u_len (PV.q (PK.own 1 (pk_var (i := 6) rfl) rfl)))))) (fun _ => rfl)) ?k586
                 case k586 =>
                  intro y_17 row_16
                  refine' sk_name 0 rfl ?k587
                  case k587 =>
                   intro w_18
                   refine' sk_st (ρ2 := [.val tR a.1, .val tS a.2.2, .val tI form_1, .val tI at_4, .un, .un, .val tR a_14, .val tI row_16, .un, .un]) (cs2 := [⟨a.1, cL tI w_18⟩, ⟨a_14, cL tS rows_15⟩]) rfl rfl ?k588
                   case k588 =>
                    refine' sk_st (ρ2 := [.val tR a.1, .val tS a.2.2, .val tI form_1, .val tI at_4, .un, .un, .val tR a_14, .val tI row_16, .un, .un]) (cs2 := [⟨a.1, cL tI w_18⟩, ⟨a_14, cL tS rows_15⟩]) rfl rfl ?k589
                    case k589 =>
                     refine' sk_setN (i := 8) (T := tS) (by exact sc.nd) (NK.ne (nk_split (pk_ixR (T := tS) (PV.lk (PK.own 1 (pk_var (i := 6) rfl) rfl)) (pk_var (i := 7) rfl)) pk_str)) ?k590
                     case k590 =>
                      intro y_19 a_20 words_21
                      refine' sk_st (ρ2 := [.val tR a.1, .val tS a.2.2, .val tI form_1, .val tI at_4, .un, .un, .val tR a_14, .val tI row_16, .val tR a_20, .un]) (cs2 := [⟨a.1, cL tI w_18⟩, ⟨a_14, cL tS rows_15⟩, ⟨a_20, cL tS words_21⟩]) rfl rfl ?k591
                      case k591 =>
                       refine' sk_join (fun z_22 : (List Int × List Str) => [.val tR a.1, .val tS a.2.2, .val tI form_1, .val tI at_4, .un, .un, .val tR a_14, .val tI row_16, .un, .un]) (fun z_22 : (List Int × List Str) => [⟨a.1, cL tI z_22.1⟩, ⟨a_14, cL tS z_22.2⟩]) ?h592 ?k593
                       case h592 =>
                        intro R_23
                        refine' sk_if1 (pt_cmp' op_eq r2_eqI (pk_var (i := 2) rfl) pk_int) ?a594 ?b595
                        case a594 =>
                         refine' sk_freeze 2 8 rfl rfl rfl (Nat.le_of_ble_eq_true rfl) ?k596
                         case k596 =>
                          refine' sk_st (ρ2 := [.val tR a.1, .val tS a.2.2, .val tI form_1, .val tI at_4, .un, .un, .val tR a_14, .val tI row_16, .val (tL tS) words_21, .un]) (cs2 := [⟨a.1, cL tI w_18⟩, ⟨a_14, cL tS rows_15⟩]) rfl rfl ?k597
                          case k597 =>
                           refine' sk_setIx 1 (ek_join pk_str (EV.q (EK.l (ek_o1 0 g_moved.F sl1 hr g_moved.m g_moved.k g_moved.b (pk_var (i := 0) rfl) (PAK.ak (pa_1 (pk_var (i := 8) rfl))) (fun _ => rfl))))) (fun _ => (pk_var (i := 6) rfl)) (fun _ => (pk_var (i := 7) rfl)) (fun _ => rfl) ?k598
                           case k598 =>
                            intro y_24 w_25
                            refine' sk_name 0 rfl ?k599
                            case k599 =>
                             intro w_26
                             refine' sk_st (ρ2 := [.val tR a.1, .val tS a.2.2, .val tI form_1, .val tI at_4, .un, .un, .val tR a_14, .val tI row_16, .val (tL tS) words_21, .un]) (cs2 := [⟨a.1, cL tI w_26⟩, ⟨a_14, cL tS w_25⟩]) rfl rfl ?k600
                             case k600 =>
                              refine' sk_st (ρ2 := [.val tR a.1, .val tS a.2.2, .val tI form_1, .val tI at_4, .un, .un, .val tR a_14, .val tI row_16, .val (tL tS) words_21, .un]) (cs2 := [⟨a.1, cL tI w_26⟩, ⟨a_14, cL tS w_25⟩]) rfl rfl ?k601
                              case k601 =>
                               exact sk_midX (z := (_, _)) rfl (.same (.same (.same (.same (.same (.same (.same (.same (.un (.same .nil)))))))))) rfl
                        case b595 =>
                         refine' sk_set (i := 9) ?lc62 ?lc63 ?k608 ?lc64 ?lc65 ?lc66 ?lc67
                         case lc62 =>
                          exact sc.nd
                         case lc63 =>
                          refine' NK.pk ?lc61
                          case lc61 =>
                           refine' (nk_lst ?lc60 ?lc59)
                           case lc60 =>
                            refine' pl_strs (xs := [Str.ofString "01", Str.ofString "00", Str.ofString "+1", Str.ofString "1_0", Str.ofString "-0", Str.ofString "-1", Str.ofString "999", Str.ofString "1000", Str.ofString "Good", Str.ofString "letters", Str.ofString "good", Str.ofString "", Str.ofString "abcdefghi", Str.ofString "7", Str.ofString "x"]) ?lc57 ?lc58
                            case lc57 =>
                             exact rfl
                            case lc58 =>
                             exact (by decide +kernel)
                           case lc59 =>
                            exact Nat.le_of_ble_eq_true rfl
                         case lc64 =>
                          exact rfl
                         case lc65 =>
                          exact (by first | exact Or.inl rfl | exact Or.inr rfl)
                         case lc66 =>
                          exact rfl
                         case lc67 =>
                          exact (by first | exact .inl rfl | exact .inr rfl)
                         case k608 =>
                          intro odd_27
                          refine' sk_st (ρ2 := [.val tR a.1, .val tS a.2.2, .val tI form_1, .val tI at_4, .un, .un, .val tR a_14, .val tI row_16, .val tR a_20, .val (tL tS) odd_27]) (cs2 := [⟨a.1, cL tI w_18⟩, ⟨a_14, cL tS rows_15⟩, ⟨a_20, cL tS words_21⟩]) rfl rfl ?k614
                          case k614 =>
                           refine' sk_setIxF 2 (ek_ixL (PK.ek (pk_var (i := 9) rfl)) (fun _ => (ek_o1 0 g_draw.F sl1 (hr.mono (by decide)) g_draw.m g_draw.k g_draw.b (pk_var (i := 0) rfl) (PAK.ak (pa_1 pk_int)) (fun _ => rfl)))) (fun _ => (pk_var (i := 8) rfl)) (fun _ => (ek_o1 0 g_draw.F sl1 (hr.mono (by decide)) g_draw.m g_draw.k g_draw.b (pk_var (i := 0) rfl) (PAK.ak (pa_1 (PV.k (pv_cb cr_lenQ bs.m_len bs.b_len u_len (PV.q (PK.own 2 (pk_var (i := 8) rfl) rfl)))))) (fun _ => rfl))) (fun _ _ => rfl) ?k615
                           case k615 =>
                            intro y_28 u_30 w_29
                            refine' sk_name 0 rfl ?k616
                            case k616 =>
                             intro w_31
                             refine' sk_st (ρ2 := [.val tR a.1, .val tS a.2.2, .val tI form_1, .val tI at_4, .un, .un, .val tR a_14, .val tI row_16, .val tR a_20, .val (tL tS) odd_27]) (cs2 := [⟨a.1, cL tI w_31⟩, ⟨a_14, cL tS rows_15⟩, ⟨a_20, cL tS w_29⟩]) rfl rfl ?k617
                             case k617 =>
                              refine' sk_st (ρ2 := [.val tR a.1, .val tS a.2.2, .val tI form_1, .val tI at_4, .un, .un, .val tR a_14, .val tI row_16, .val tR a_20, .val (tL tS) odd_27]) (cs2 := [⟨a.1, cL tI w_31⟩, ⟨a_14, cL tS rows_15⟩, ⟨a_20, cL tS w_29⟩]) rfl rfl ?k618
                              case k618 =>
                               refine' sk_setIx 1 (PK.ek (pk_join pk_str (PV.q (PK.own 2 (pk_var (i := 8) rfl) rfl)))) (fun _ => (pk_var (i := 6) rfl)) (fun _ => (pk_var (i := 7) rfl)) (fun _ => rfl) ?k619
                               case k619 =>
                                intro y_32 w_33
                                refine' sk_st (ρ2 := [.val tR a.1, .val tS a.2.2, .val tI form_1, .val tI at_4, .un, .un, .val tR a_14, .val tI row_16, .val tR a_20, .val (tL tS) odd_27]) (cs2 := [⟨a.1, cL tI w_31⟩, ⟨a_14, cL tS w_33⟩, ⟨a_20, cL tS w_29⟩]) rfl rfl ?k620
                                case k620 =>
                                 refine' sk_drop 2 ?k621
                                 case k621 =>
                                  refine' sk_st (ρ2 := [.val tR a.1, .val tS a.2.2, .val tI form_1, .val tI at_4, .un, .un, .val tR a_14, .val tI row_16, .val tR a_20, .val (tL tS) odd_27]) (cs2 := [⟨a.1, cL tI w_31⟩, ⟨a_14, cL tS w_33⟩]) rfl rfl ?k622
                                  case k622 =>
                                   exact sk_midX (z := (_, _)) rfl (.same (.same (.same (.same (.same (.same (.same (.same (.un (.un .nil)))))))))) rfl
                       case k593 =>
                        intro z_22
                        refine' sk_freeze 1 6 rfl rfl rfl (Nat.le_of_ble_eq_true rfl) ?k623
                        case k623 =>
                         refine' sk_st (ρ2 := [.val tR a.1, .val tS a.2.2, .val tI form_1, .val tI at_4, .un, .un, .val (tL tS) z_22.2, .val tI row_16, .un, .un]) (cs2 := [⟨a.1, cL tI z_22.1⟩]) rfl rfl ?k624
                         case k624 =>
                          exact sk_retO (pk_join pk_str (PV.q (PK.l (pk_var (i := 6) rfl)))) rfl
  case vc =>
   intro h
   simp only [true_and, and_true, yes1, yes2]
   obtain ⟨p, fl, x⟩ := a
   obtain ⟨⟨hf, hl, hc⟩, hφ⟩ := h
   have hf : Fl fl := hf
   have hl : x.length ≤ 3000 := hl
   have hc : cnt x ≤ 16 := hc
   have hs := sizeLine_eq
   have fin : ∀ r fl2, Fl fl2 → r.length ≤ 4 * x.length + 40 → cnt r ≤ cnt x + 1 → φ (r, fl2) := fun r fl2 h1 h2 h3 => hφ _ _ ⟨h1, h2, h3⟩
   have n1 : ((Str.ofString "\n").length == 0) = false := by decide +kernel
   have n2 : ((Str.ofString " ").length == 0) = false := by decide +kernel
   have l1 : (Str.ofString "\n").length = 1 := by decide +kernel
   have l2 : (Str.ofString " ").length = 1 := by decide +kernel
   try dsimp only
   refine ⟨⟨hf, by decide, by decide⟩, fun f w ⟨f0, f1, g1⟩ z ez w1 e1 => ⟨by omega, ⟨by rw [e1]; exact g1, by omega, by omega⟩, fun r w2 ⟨r0, r1, g2⟩ z1 ez1 w3 e3 => ?_⟩⟩
   have g3 : Fl w3 := by rw [e3]; exact g2
   obtain ⟨i, ei⟩ : ∃ i : Nat, z1 = (i : Int) := ⟨z1.toNat, by omega⟩
   clear ez1
   subst ei
   refine ⟨fun h3 => ?_, fun h3 => ?_⟩
   · have h3 := of_decide_eq_true h3
     refine ⟨trivial, ⟨g3, by decide, by decide⟩, fun r4 w4 ⟨q0, q1, g4⟩ => ⟨⟨by show -((2 : Nat) : Int) ≤ r4; omega, by show r4 < ((2 : Nat) : Int); omega⟩, fun sg esg w5 e5 => ?_⟩⟩
     have g5 : Fl w5 := by rw [e5]; exact g4
     have hsg : 1 ≤ sg.length ∧ sg.length ≤ 200 := by
       have hm := pyIx_mem (xs := [K13.f_signs (), Str.ofString "0123456789 \n"]) q0 (by show r4 < ((2 : Nat) : Int); omega)
       rw [← esg] at hm
       have hall : ∀ s ∈ [K13.f_signs (), Str.ofString "0123456789 \n"], 1 ≤ s.length ∧ s.length ≤ 200 := by decide +kernel
       exact hall sg hm
     have hsl := signs_len sg
     refine ⟨by omega, ⟨g5, by omega, by omega⟩, fun r6 w6 ⟨p0, p1, g6⟩ => ⟨by omega, ⟨by omega, by omega⟩, fun s es w7 e7 => ?_⟩⟩
     have g7 : Fl w7 := by rw [e7]; exact g6
     have s1 : s.length = 1 := by
       rw [es]
       exact signs_one (pyIx_mem p0 (by omega))
     have s0 : (Str.ofString "").length = 0 := by decide +kernel
     have ht : (pyIx [s, Str.ofString "", s] z).length ≤ 1 := by
       have hm := pyIx_mem (xs := [s, Str.ofString "", s]) (i := z) (by omega) (by show z < ((3 : Nat) : Int); omega)
       have hall : ∀ t ∈ [s, Str.ofString "", s], t.length ≤ 1 := fun t ht => by
         rcases List.mem_cons.mp ht with e | ht
         · rw [e]; omega
         rcases List.mem_cons.mp ht with e | ht
         · rw [e]; omega
         · rw [List.mem_singleton.mp ht]; omega
       exact hall _ hm
     have c1 := cutS_len x none (some (i : Int))
     have c2 := cutS_len x (some ((i : Int) + if decide (0 < z) = true then 1 else 0)) none
     have c3 := cnt_le (pyIx [s, Str.ofString "", s] z)
     have c4 : cnt (cutS x none (some (i : Int))) + cnt (cutS x (some ((i : Int) + if decide (0 < z) = true then 1 else 0)) none) ≤ cnt x := by
       split
       · exact cnt_two x i 1
       · exact cnt_two x i 0
     refine ⟨⟨⟨by omega, ⟨by show -((3 : Nat) : Int) ≤ z; omega, by show z < ((3 : Nat) : Int); omega⟩, by omega⟩, by omega, by simp only [app_len]; omega⟩, fin _ _ g7 (by simp only [app_len]; omega) (by simp only [cnt_app]; omega)⟩
   · refine ⟨⟨n1, by omega⟩, fun _ rows er => ?_⟩
     have hrne : rows ≠ [] := by rw [er]; exact split_ne _ _
     have hrpos : 0 < rows.length := List.length_pos_iff.mpr hrne
     have hsum : lsum rows + (rows.length - 1) = x.length := by
       have := split_sum x (Str.ofString "\n")
       rw [← er, l1, Nat.mul_one] at this
       exact this
     have hfree : ∀ s ∈ rows, (10 : Nat) ∉ s.cps.toList := fun s hs => nl_free (by rw [← er]; exact hs)
     have hn : rows.length = cnt x + 1 := by rw [er]; exact nl_len x
     have hls : ∀ zs : List Str, (zs.map fun x => x.length).sum = lsum zs := fun _ => rfl
     refine ⟨fun _ => ⟨⟨g3, hrne, by omega⟩, fun rr w4 ⟨g4, m1, m2, m3⟩ => ⟨?_, fin _ _ g4 ?_ ?_⟩⟩, fun _ => ⟨⟨g3, by omega, by omega⟩, fun r4 w4 ⟨q0, q1, g4⟩ z3 ez3 w5 e5 => ?_⟩⟩
     · rw [hls, l1]
       omega
     · have := join_nl rr
       omega
     · rw [cnt_join_nl _ fun s hs => hfree s (m3 s hs)]
       omega
     · have g5 : Fl w5 := by rw [e5]; exact g4
       obtain ⟨k, ek⟩ : ∃ k : Nat, z3 = (k : Int) := ⟨z3.toNat, by omega⟩
       subst ek
       have hk := pyIx_some (xs := rows) (n := k) (by omega)
       have hrow := get_mem hk
       have hrl : (pyIx rows (k : Int)).length ≤ lsum rows := mem_sum hrow
       refine ⟨⟨⟨by omega, by omega⟩, n2, by omega⟩, fun _ ws ews => ?_⟩
       have hwne : ws ≠ [] := by rw [ews]; exact split_ne _ _
       have hwpos : 0 < ws.length := List.length_pos_iff.mpr hwne
       have hwsum : lsum ws + (ws.length - 1) = (pyIx rows (k : Int)).length := by
         have := split_sum (pyIx rows (k : Int)) (Str.ofString " ")
         rw [← ews, l2, Nat.mul_one] at this
         exact this
       have hwfree : ∀ s ∈ ws, (10 : Nat) ∉ s.cps.toList := fun s hs => sp_split_free (by rw [← ews]; exact hs) (hfree _ hrow)
       have tk : ((k : Int)).toNat = k := by omega
       have put : ∀ t : Str, t.length ≤ 3 * (pyIx rows (k : Int)).length + 20 → (10 : Nat) ∉ t.cps.toList → lsum (rows.set k t) ≤ 3 * x.length + x.length + 20 ∧ (∀ s ∈ rows.set k t, (10 : Nat) ∉ s.cps.toList) ∧ (rows.set k t).length = rows.length ∧ lsum (rows.set k t) + (rows.length - 1) ≤ x.length + t.length := fun t ht hfr => by
         have := lsum_set (z := rows) (k := k) (p := t)
         refine ⟨by omega, fun s hs => ?_, List.length_set, by omega⟩
         rcases List.mem_or_eq_of_mem_set hs with h | h
         · exact hfree s h
         · rw [h]; exact hfr
       refine ⟨fun y => Fl y.1 ∧ y.2.length = rows.length ∧ lsum y.2 + (rows.length - 1) ≤ 4 * x.length + 30 ∧ ∀ s ∈ y.2, (10 : Nat) ∉ s.cps.toList, ⟨fun _ => ⟨⟨g5, hwne, by omega⟩, fun rr w6 ⟨g6, m1, m2, m3⟩ => ⟨?_, ⟨by omega, by omega⟩, fun zz ezz w7 e7 => ?_⟩⟩, fun _ od eod => ⟨⟨g5, by decide, by decide⟩, fun r6 w6 ⟨p0, p1, g6⟩ => ⟨⟨by rw [eod]; show -((15 : Nat) : Int) ≤ r6; omega, by rw [eod]; show r6 < ((15 : Nat) : Int); omega⟩, ⟨g6, by omega, by omega⟩, fun r7 w7 ⟨u0, u1, g7⟩ => ⟨⟨by omega, by omega⟩, fun z5 e5 w8 e8 => ?_⟩⟩⟩⟩, fun y ⟨y1, y2, y3, y4⟩ => ⟨?_, fin _ _ y1 ?_ ?_⟩⟩
       · rw [hls, l2]
         omega
       · have hj := join_spl rr
         have hfr : (10 : Nat) ∉ (Str.join (Str.ofString " ") rr).cps.toList := cnt_join_sp rr fun s hs => hwfree s (m3 s hs)
         have hp := put _ (by omega) hfr
         rw [tk] at ezz
         subst ezz
         exact ⟨by rw [e7]; exact g6, hp.2.2.1, by have := hp.2.2.2; show lsum (rows.set k _) + _ ≤ _; omega, hp.2.1⟩
       · have ho : (pyIx od r6).length ≤ 9 ∧ (10 : Nat) ∉ (pyIx od r6).cps.toList := by
           have hm := pyIx_mem (xs := od) p0 (by rw [eod]; show r6 < ((15 : Nat) : Int); omega)
           have hall : ∀ s ∈ od, s.length ≤ 9 ∧ (10 : Nat) ∉ s.cps.toList := by rw [eod]; decide +kernel
           exact hall _ hm
         have h5 : lsum z5 ≤ lsum ws + 9 := by
           rw [e5]
           have := lsum_set (z := ws) (k := r7.toNat) (p := pyIx od r6)
           omega
         have h5l : z5.length = ws.length := by rw [e5, List.length_set]
         have hj := join_spl z5
         have hfr : (10 : Nat) ∉ (Str.join (Str.ofString " ") z5).cps.toList := cnt_join_sp z5 fun s hs => by
           rw [e5] at hs
           rcases List.mem_or_eq_of_mem_set hs with h | h
           · exact hwfree s h
           · rw [h]; exact ho.2
         have hp := put _ (by omega) hfr
         refine ⟨by rw [hls, l2]; omega, ⟨by omega, by omega⟩, fun zz ezz => ?_⟩
         rw [tk] at ezz
         subst ezz
         exact ⟨by rw [e8]; exact g7, hp.2.2.1, by have := hp.2.2.2; show lsum (rows.set k _) + _ ≤ _; omega, hp.2.1⟩
       · rw [hls, l1]
         omega
       · have := join_nl y.2
         omega
       · rw [cnt_join_nl _ y4]
         omega
abbrev s_lall_of : Stmt := topS 29
theorem sc_lall_of : FnScope ["_law_word", "_law_signs_here", "_law_sign"] ["_law_word", "_law_signs_here"] (defScope s_lall_of) := ⟨rfl, rfl, rfl, by decide +kernel, rfl, by decide +kernel, by decide +kernel⟩
def c_lall_of (K : PySem.W.Frag) := Con.fn (K := K) (fun x : (Str × Str) => [.val tS x.1, .val tS x.2]) tB pre_lall_of f_lall_of
theorem ok_lall_of (bs : Bs mg) {f : Addr} {fd : FuncData} (F : Fun K "_law_all_of" "_law_all_of" s_lall_of f fd) : FnOk P w K mg base (L2.CX P w) 1 f fd ["_law_word", "_law_signs_here"] (c_lall_of K).sp := by
  refine fn_con (c_lall_of K) F sc_lall_of (fun _ => rfl) ?_
  intro cdv Ar outer s H E F0 a φ ε hr hp
  have hu := hu_of hr
  have sc := sc_lall_of
  refine' SK.vc ?hh ?vc
  case hh =>
   refine' sk_retFE (ek_eqE hr.units (dL (@dS K)) (NE.ek (ne_lc rfl (by exact sc.nd) ?lc69 ?lc68 ?lc70)) (fun _ => (PK.ek (NK.pk (nk_lst pl_0 (Nat.zero_le _)))))) ?lc71
   case lc69 =>
    exact blkOk_by (own := [("_law_sign", 2)]) (N := ["_law_word", "_law_signs_here", "_law_sign"]) (sc := defScope s_lall_of) (by decide +kernel)
   case lc68 =>
    exact lc_k (own := [("_law_sign", 2)]) (T := tS) (U := tS) (G := fun ρ x => (List.set ρ 2 (.val tS x))) (vs := [2]) (cs' := (fun _ : Unit => [])) (z0 := fun y => ()) (s1 := fun _ _ _ => ()) (s2 := fun _ _ _ _ => ()) (IK.ie (ik_str (pk_var (i := 0) rfl))) (fun _ => rfl) (by decide) (fun _ _ _ _ _ => (gk_name (i := 2) (by exact sc.nd))) (fun _ _ _ _ _ _ _ => (ts_1 (PTK.tk (pt_ninSign (pk_var (i := 2) rfl) (pk_var (i := 1) rfl))))) (fun _ _ _ _ _ _ _ _ => (PK.ek (pk_var (i := 2) rfl)))
   case lc70 =>
    exact fun _ => rfl
   case lc71 =>
    exact fun _ => rfl
  case vc =>
   intro h
   simp only [true_and, and_true, yes1, yes2]
   obtain ⟨hl, hφ⟩ := h
   have hl : a.1.length ≤ 10000 := hl
   refine ⟨by rw [sizeLine_eq]; omega, fun i acc _ => acc = ((MD.signs a.1).take i).filter fun c => !decide (c ∈ MD.signs a.2), rfl, fun i acc z x hx hI => ⟨?_, fun e => ?_, fun e => ?_⟩, fun acc _ hI => ?_⟩
   · obtain ⟨c, _, e⟩ := List.mem_map.mp (get_mem hx)
     exact ⟨c, e.symm⟩
   · dsimp only at hI ⊢
     rw [take_step hx, filter_yes (p := fun c => !decide (c ∈ MD.signs a.2)) _ e, hI]
   · dsimp only at hI ⊢
     rw [take_step hx, filter_no (p := fun c => !decide (c ∈ MD.signs a.2)) _ e, hI]
   · dsimp only at hI
     rw [List.take_length] at hI
     refine hφ _ ?_
     rw [hI]
     show decide (List.filter _ _ = []) = K13.f_all_of a
     unfold K13.f_all_of
     rw [Bool.eq_iff_iff, decide_eq_true_eq, List.filter_eq_nil_iff, List.all_eq_true]
     exact ⟨fun h c hc => by have := h c hc; simpa using this, fun h c hc => by have := h c hc; simpa using this⟩
abbrev s_lis_name : Stmt := topS 30
theorem sc_lis_name : FnScope ["_law_word"] ["_law_word"] (defScope s_lis_name) := ⟨rfl, rfl, rfl, by decide +kernel, rfl, by decide +kernel, by decide +kernel⟩
def c_lis_name (K : PySem.W.Frag) := Con.fn (K := K) (fun x : Str => [.val tS x]) tB pre_lis_name f_lis_name
theorem ok_lis_name (bs : Bs mg) {f_lall_of : Addr} {fd_lall_of : FuncData} (g_lall_of : Cal P w K mg base "_law_all_of" 1 ["_law_word", "_law_signs_here"] (c_lall_of K).sp f_lall_of fd_lall_of) {f : Addr} {fd : FuncData} (F : Fun K "_law_is_name" "_law_is_name" s_lis_name f fd) : FnOk P w K mg base (L2.CX P w) 2 f fd ["_law_word"] (c_lis_name K).sp := by
  refine fn_con (c_lis_name K) F sc_lis_name (fun _ => rfl) ?_
  intro cdv Ar outer s H E F0 a φ ε hr hp
  have hu := hu_of hr
  have sc := sc_lis_name
  refine' SK.vc ?hh ?vc
  case hh =>
   exact sk_retF (pk_and (pk_chain op_lt r2_B0 op_lt r2_B0 pk_int (PV.k (pv_cb call_len_str bs.m_len bs.b_len u_lenS (PK.v (pk_var (i := 0) rfl)))) pk_int) (pk_one (pk_fn g_lall_of.F (slC sl1) hr g_lall_of.m g_lall_of.k g_lall_of.b (pa_C (pk_var (i := 0) rfl) (pa_1 pk_str)))))
  case vc =>
   intro h
   simp only [true_and, and_true, yes1, yes2]
   obtain ⟨hl, hφ⟩ := h
   have hl : a.length ≤ 10000 := hl
   refine ⟨⟨⟨by rw [sizeLine_eq]; omega, fun _ => trivial⟩, fun _ => hl⟩, hφ _ ?_⟩
   show _ = K13.f_is_name a
   unfold K13.f_is_name
   rw [show decide (0 < (a.length : Int)) = decide (1 ≤ (a.length : Int)) from decide_eq_decide.mpr (by omega), show decide ((a.length : Int) < 9) = decide ((a.length : Int) ≤ 8) from decide_eq_decide.mpr (by omega)]
   rfl
abbrev s_is_number : Stmt := topS 31
theorem sc_is_number : FnScope ["_law_word"] ["_law_word"] (defScope s_is_number) := ⟨rfl, rfl, rfl, by decide +kernel, rfl, by decide +kernel, by decide +kernel⟩
def c_is_number (K : PySem.W.Frag) := Con.fn (K := K) (fun x : Str => [.val tS x]) tB pre_is_number f_is_number
theorem ok_is_number (bs : Bs mg) {f_lall_of : Addr} {fd_lall_of : FuncData} (g_lall_of : Cal P w K mg base "_law_all_of" 1 ["_law_word", "_law_signs_here"] (c_lall_of K).sp f_lall_of fd_lall_of) {f : Addr} {fd : FuncData} (F : Fun K "_law_is_number" "_law_is_number" s_is_number f fd) : FnOk P w K mg base (L2.CX P w) 2 f fd ["_law_word"] (c_is_number K).sp := by
  refine fn_con (c_is_number K) F sc_is_number (fun _ => rfl) ?_
  intro cdv Ar outer s H E F0 a φ ε hr hp
  have hu := hu_of hr
  have sc := sc_is_number
  refine' SK.vc ?hh ?vc
  case hh =>
   exact sk_retF (pk_and (pk_chain op_lt r2_B0 op_lt r2_B0 pk_int (PV.k (pv_cb call_len_str bs.m_len bs.b_len u_lenS (PK.v (pk_var (i := 0) rfl)))) pk_int) (pk_and (pk_fn g_lall_of.F (slC sl1) hr g_lall_of.m g_lall_of.k g_lall_of.b (pa_C (pk_var (i := 0) rfl) (pa_1 pk_str))) (pk_one (pk_or (pk_cmp op_eq r2_eqS (pk_var (i := 0) rfl) pk_str) (pk_one (pk_cmp op_ne r2_neS (pk_ixS (pk_var (i := 0) rfl) pk_int) pk_str))))))
  case vc =>
   intro h
   simp only [true_and, and_true, yes1, yes2]
   obtain ⟨hl, hφ⟩ := h
   have hl : a.length ≤ 10000 := hl
   have hs := sizeLine_eq
   have hsl := signs_len a
   refine ⟨⟨⟨by omega, fun _ => trivial⟩, fun e => ⟨hl, fun _ _ => ⟨by omega, ?_⟩⟩⟩, hφ _ ?_⟩
   · rw [Bool.and_eq_true] at e
     have := of_decide_eq_true e.1
     exact ⟨by omega, by omega⟩
   show _ = isNum a
   unfold isNum
   rw [show decide (0 < (a.length : Int)) = decide (1 ≤ (a.length : Int)) from decide_eq_decide.mpr (by omega), show decide ((a.length : Int) < 4) = decide ((a.length : Int) ≤ 3) from decide_eq_decide.mpr (by omega)]
   cases h1 : decide (1 ≤ (a.length : Int)) with
   | false => rfl
   | true =>
     have h1 := of_decide_eq_true h1
     show (_ && (K13.f_all_of (a, FIG) && _)) = _
     cases h2 : decide ((a.length : Int) ≤ 3) with
     | false => rfl
     | true =>
       cases h3 : K13.f_all_of (a, FIG) with
       | false => rfl
       | true =>
         show (decide (a = Str.ofString "0") || !decide (pyIx (MD.signs a) 0 = Str.ofString "0")) = !(decide (1 < (a.length : Int)) && decide (pyIx (MD.signs a) 0 = Str.ofString "0"))
         by_cases hz : a = Str.ofString "0"
         · have hl1 : ¬ 1 < (a.length : Int) := by
             rw [hz]
             decide +kernel
           rw [decide_eq_true hz, decide_eq_false hl1]
           rfl
         · by_cases hp : pyIx (MD.signs a) 0 = Str.ofString "0"
           · have hl1 : 1 < (a.length : Int) := by
               refine Classical.byContradiction fun hn => hz ?_
               exact one_sign (by omega) hp
             rw [decide_eq_false hz, decide_eq_true hp, decide_eq_true hl1]
             rfl
           · rw [decide_eq_false hz, decide_eq_false hp, Bool.and_false]
             rfl
abbrev s_due : Stmt := topS 32
theorem sc_due : FnScope ["_law_text_here", "_law_rows", "_law_letters", "_law_at", "_law_words", "_law_fine", "_law_letter", "_law_table", "_law_state", "_law_steps", "_law_goal", "_law_good", "_law_row", "_law_word"] ["_law_text_here"] (defScope s_due) := ⟨rfl, rfl, rfl, by decide +kernel, rfl, by decide +kernel, by decide +kernel⟩
def c_due (K : PySem.W.Frag) := Con.fn (K := K) (fun x : Str => [.val tS x]) tA pre_due f_due
theorem ok_due (bs : Bs mg) {f_lis_name : Addr} {fd_lis_name : FuncData} (g_lis_name : Cal P w K mg base "_law_is_name" 2 ["_law_word"] (c_lis_name K).sp f_lis_name fd_lis_name) {f_is_number : Addr} {fd_is_number : FuncData} (g_is_number : Cal P w K mg base "_law_is_number" 2 ["_law_word"] (c_is_number K).sp f_is_number fd_is_number) {f : Addr} {fd : FuncData} (F : Fun K "_law_due" "_law_due" s_due f fd) : FnOk P w K mg base (L2.CX P w) 3 f fd ["_law_text_here"] (c_due K).sp := by
  refine fn_con (c_due K) F sc_due (fun _ => rfl) ?_
  intro cdv Ar outer s H E F0 a φ ε hr hp
  have hu := hu_of hr
  have sc := sc_due
  refine' SK.vc ?hh ?vc
  case hh =>
   refine' sk_setE (i := 1) (by exact sc.nd) (NE.ek (ne_lc rfl (by exact sc.nd) ?lc73 ?lc72 ?lc74)) ?k710
   case lc73 =>
    exact blkOk_by (own := [("_law_row", 12)]) (N := ["_law_text_here", "_law_rows", "_law_letters", "_law_at", "_law_words", "_law_fine", "_law_letter", "_law_table", "_law_state", "_law_steps", "_law_goal", "_law_good", "_law_row", "_law_word"]) (sc := defScope s_due) (by decide +kernel)
   case lc72 =>
    exact lc_k (own := [("_law_row", 12)]) (T := tS) (U := (tL tS)) (G := fun ρ x => (List.set ρ 12 (.val tS x))) (vs := [12]) (cs' := (fun _ : Unit => [])) (z0 := fun y => ()) (s1 := fun _ _ _ => ()) (s2 := fun _ _ _ _ => ()) (IK.ie (ik_list (NK.pk (nk_split (pk_var (i := 0) rfl) pk_str)))) (fun _ => rfl) (by decide) (fun _ _ _ _ _ => (gk_name (i := 12) (by exact sc.nd))) (fun _ _ _ _ _ _ _ => ts_0) (fun _ _ _ _ _ _ _ _ => (PK.ek (NK.pk (nk_split (pk_var (i := 12) rfl) pk_str))))
   case lc74 =>
    exact fun _ => rfl
   case k710 =>
    intro y_4 rows_3
    refine' sk_st (ρ2 := [.val tS a, .val (tL (tL tS)) rows_3, .un, .un, .un, .un, .un, .un, .un, .un, .un, .un, .un, .un]) (cs2 := []) rfl rfl ?k711
    case k711 =>
     refine' sk_set (i := 2) (by exact sc.nd) (NK.pk (nk_slL (PV.lk (PK.l (pk_ixR (T := (tL tS)) (PV.lk (PK.l (pk_var (i := 1) rfl))) pk_int))) (po_1 pk_int) po_0)) ?k712
     case k712 =>
      intro letters_5
      refine' sk_st (ρ2 := [.val tS a, .val (tL (tL tS)) rows_3, .val (tL tS) letters_5, .un, .un, .un, .un, .un, .un, .un, .un, .un, .un, .un]) (cs2 := []) rfl rfl ?k713
      case k713 =>
       refine' sk_seq (sk_if1E (TWK.tk (tw_or (PTK.tk (pt_cmp' op_ne r2_neS (pk_ixR (T := tS) (PV.lk (PK.l (pk_ixR (T := (tL tS)) (PV.lk (PK.l (pk_var (i := 1) rfl))) pk_int))) pk_int) pk_str)) (fun _ => (tw_or (PTK.tk (pt_eqV hr.units (dv_sv (dL (@dS K))) (dv_sv (dL (@dS K))) sv_stays (eqv_dec (dL (@dS K)) _ _) (PK.v (pk_var (i := 2) rfl)) (PK.v (NK.pk (nk_lst pl_0 (Nat.zero_le _)))))) (fun _ => (tw_or1 (tk_not (tk_val (EV.k (ev_cb (cr_all rfl) bs.m_all bs.b_all (fun _ => u_all) (EV.lk (NE.l (ne_lc rfl (by exact sc.nd) ?lc76 ?lc75 ?lc77))))))))))))) ?a717 ?b718)
       case lc76 =>
        exact blkOk_by (own := [("_law_word", 13)]) (N := ["_law_text_here", "_law_rows", "_law_letters", "_law_at", "_law_words", "_law_fine", "_law_letter", "_law_table", "_law_state", "_law_steps", "_law_goal", "_law_good", "_law_row", "_law_word"]) (sc := defScope s_due) (by decide +kernel)
       case lc75 =>
        exact lc_k (own := [("_law_word", 13)]) (T := tS) (U := tB) (G := fun ρ x => (List.set ρ 13 (.val tS x))) (vs := [13]) (cs' := (fun _ : Unit => [])) (z0 := fun y => ()) (s1 := fun _ _ _ => ()) (s2 := fun _ _ _ _ => ()) (IK.ie (ik_list (pk_var (i := 2) rfl))) (fun _ => rfl) (by decide) (fun _ _ _ _ _ => (gk_name (i := 13) (by exact sc.nd))) (fun _ _ _ _ _ _ _ => ts_0) (fun _ _ _ _ _ _ _ _ => (PK.ek (pk_fn g_lis_name.F sl1 hr g_lis_name.m g_lis_name.k g_lis_name.b (pa_1 (pk_var (i := 13) rfl)))))
       case lc77 =>
        exact fun _ => rfl
       case a717 =>
        intro y_8
        refine' sk_retF (PK.anyD (fun q : (Str × Int) => PyData.tuple [PyData.str q.1, PyData.int q.2]) (D := ?lc78) ?lc79 ?lc80 (pk_tup (pa_C pk_str (pa_1 pk_int)) (fun F vs => (lenC len1) F vs _)))
        case lc78 =>
         exact dT (dsC (@dS K) (ds1 (@dI K)))
        case lc79 =>
         exact fun _ => rfl
        case lc80 =>
         exact Nat.le_of_ble_eq_true rfl
       case b718 =>
        intro y_9
        refine' sk_nilX rfl ?k722
        case k722 =>
         refine' sk_for (fun _ : Unit => [.val tS a, .val (tL (tL tS)) rows_3, .val (tL tS) letters_5, .un, .un, .un, .un, .un, .un, .un, .un, .un, .un, .un]) (fun _ : Unit => []) () hp rfl (ik_enum bs.m_enumerate (NK.pk (nk_slL (PV.lk (PK.l (pk_var (i := 1) rfl))) (po_1 pk_int) po_0))) (gk_tup rfl (gs_C (gk_name (i := 3) (by exact sc.nd)) (gs_1 (gk_name (i := 4) (by exact sc.nd)))) (tlC tl1)) (.same (.same (.same (.same (.same (.same (.same (.same (.same (.same (.same (.same (.same (.same .nil)))))))))))))) rfl ?b723 ?k724
         case b723 =>
          intro fl_14 hs_13 N_12 z_10 x_11
          refine' sk_st (ρ2 := [.val tS a, .val (tL (tL tS)) rows_3, .val (tL tS) letters_5, .val tI x_11.1, .val (tL tS) x_11.2, .un, .un, .un, .un, .un, .un, .un, .un, .un]) (cs2 := []) rfl rfl ?k725
          case k725 =>
           refine' sk_set (i := 5) (by exact sc.nd) (pk_and (pk_in fS (pk_ixR (T := tS) (PV.lk (PK.l (pk_var (i := 4) rfl))) pk_int) (PV.uq (PK.u (pk_tupU (pl_C pk_str (pl_C pk_str pl_0)) (Nat.le_of_ble_eq_true rfl))))) (pk_one (pk_cmp op_eq r2_eqI (PV.k (pv_cb cr_lenQ bs.m_len bs.b_len u_len (PV.q (PK.l (pk_var (i := 4) rfl))))) (pk_op op_add r2_I0 pk_int (PV.k (pv_cb cr_lenQ bs.m_len bs.b_len u_len (PV.q (PK.l (pk_var (i := 2) rfl))))))))) ?k726
           case k726 =>
            intro fine_15
            refine' sk_st (ρ2 := [.val tS a, .val (tL (tL tS)) rows_3, .val (tL tS) letters_5, .val tI x_11.1, .val (tL tS) x_11.2, .val tB fine_15, .un, .un, .un, .un, .un, .un, .un, .un]) (cs2 := []) rfl rfl ?k727
            case k727 =>
             refine' sk_seq (sk_if1E (TWK.tk (tw_or (PTK.tk (pt_not' (pt_val' (pk_var (i := 5) rfl)))) (fun _ => (tw_or1 (tk_not (tk_val (EV.k (ev_cb (cr_all rfl) bs.m_all bs.b_all (fun _ => u_all) (EV.lk (NE.l (ne_lc rfl (by exact sc.nd) ?lc82 ?lc81 ?lc83))))))))))) ?a731 ?b732)
             case lc82 =>
              exact blkOk_by (own := [("_law_word", 13)]) (N := ["_law_text_here", "_law_rows", "_law_letters", "_law_at", "_law_words", "_law_fine", "_law_letter", "_law_table", "_law_state", "_law_steps", "_law_goal", "_law_good", "_law_row", "_law_word"]) (sc := defScope s_due) (by decide +kernel)
             case lc81 =>
              exact lc_k (own := [("_law_word", 13)]) (T := tS) (U := tB) (G := fun ρ x => (List.set ρ 13 (.val tS x))) (vs := [13]) (cs' := (fun _ : Unit => [])) (z0 := fun y => ()) (s1 := fun _ _ _ => ()) (s2 := fun _ _ _ _ => ()) (IK.ie (ik_list (NK.pk (nk_slL (PV.lk (PK.l (pk_var (i := 4) rfl))) (po_1 pk_int) po_0)))) (fun _ => rfl) (by decide) (fun _ _ _ _ _ => (gk_name (i := 13) (by exact sc.nd))) (fun _ _ _ _ _ _ _ => ts_0) (fun _ _ _ _ _ _ _ _ => (PK.ek (pk_fn g_is_number.F sl1 hr g_is_number.m g_is_number.k g_is_number.b (pa_1 (pk_var (i := 13) rfl)))))
             case lc83 =>
              exact fun _ => rfl
             case a731 =>
              intro y_18
              refine' sk_retF (PK.anyD (fun q : (Str × Int) => PyData.tuple [PyData.str q.1, PyData.int q.2]) (D := ?lc84) ?lc85 ?lc86 (pk_tup (pa_C pk_str (pa_1 (pk_op op_add r2_I0 (pk_var (i := 3) rfl) pk_int))) (fun F vs => (lenC len1) F vs _)))
              case lc84 =>
               exact dT (dsC (@dS K) (ds1 (@dI K)))
              case lc85 =>
               exact fun _ => rfl
              case lc86 =>
               exact Nat.le_of_ble_eq_true rfl
             case b732 =>
              intro y_19
              refine' sk_nilX rfl ?k736
              case k736 =>
               exact sk_midX (z := ()) rfl (.same (.same (.same (.un (.un (.un (.same (.same (.same (.same (.same (.same (.same (.same .nil)))))))))))))) rfl
         case k724 =>
          intro z_10
          refine' sk_seq (sk_if1 (pt_cmp' op_eq r2_eqI (PV.k (pv_cb cr_lenQ bs.m_len bs.b_len u_len (PV.q (PK.l (pk_var (i := 1) rfl))))) pk_int) ?a737 ?b738)
          case a737 =>
           refine' sk_retF (PK.anyD (fun q : (Str × Int) => PyData.tuple [PyData.str q.1, PyData.int q.2]) (D := ?lc87) ?lc88 ?lc89 (pk_tup (pa_C pk_str (pa_1 pk_int)) (fun F vs => (lenC len1) F vs _)))
           case lc87 =>
            exact dT (dsC (@dS K) (ds1 (@dI K)))
           case lc88 =>
            exact fun _ => rfl
           case lc89 =>
            exact Nat.le_of_ble_eq_true rfl
          case b738 =>
           refine' sk_nilX rfl ?k742
           case k742 =>
            refine' sk_for (fun _ : Unit => [.val tS a, .val (tL (tL tS)) rows_3, .val (tL tS) letters_5, .un, .un, .un, .un, .un, .un, .un, .un, .un, .un, .un]) (fun _ : Unit => []) () hp rfl (ik_enum bs.m_enumerate (pk_var (i := 2) rfl)) (gk_tup rfl (gs_C (gk_name (i := 3) (by exact sc.nd)) (gs_1 (gk_name (i := 6) (by exact sc.nd)))) (tlC tl1)) (.same (.same (.same (.same (.same (.same (.same (.same (.same (.same (.same (.same (.same (.same .nil)))))))))))))) rfl ?b743 ?k744
            case b743 =>
             intro fl_24 hs_23 N_22 z_20 x_21
             refine' sk_st (ρ2 := [.val tS a, .val (tL (tL tS)) rows_3, .val (tL tS) letters_5, .val tI x_21.1, .un, .un, .val tS x_21.2, .un, .un, .un, .un, .un, .un, .un]) (cs2 := []) rfl rfl ?k745
             case k745 =>
              refine' sk_seq (sk_if1 (pt_in fS (pk_var (i := 6) rfl) (PV.q (NK.l (nk_slL (PV.lk (PK.l (pk_var (i := 2) rfl))) po_0 (po_1 (pk_var (i := 3) rfl)))))) ?a746 ?b747)
              case a746 =>
               refine' sk_retF (PK.anyD (fun q : (Str × Str) => PyData.tuple [PyData.str q.1, PyData.str q.2]) (D := ?lc90) ?lc91 ?lc92 (pk_tup (pa_C pk_str (pa_1 (pk_var (i := 6) rfl))) (fun F vs => (lenC len1) F vs _)))
               case lc90 =>
                exact dT (dsC (@dS K) (ds1 (@dS K)))
               case lc91 =>
                exact fun _ => rfl
               case lc92 =>
                exact Nat.le_of_ble_eq_true rfl
              case b747 =>
               refine' sk_nilX rfl ?k751
               case k751 =>
                exact sk_midX (z := ()) rfl (.same (.same (.same (.un (.same (.same (.un (.same (.same (.same (.same (.same (.same (.same .nil)))))))))))))) rfl
            case k744 =>
             intro z_20
             refine' sk_setLc (i := 7) rfl (by exact sc.nd) (blkOk_by (own := [("_law_words", 4)]) (N := ["_law_text_here", "_law_rows", "_law_letters", "_law_at", "_law_words", "_law_fine", "_law_letter", "_law_table", "_law_state", "_law_steps", "_law_goal", "_law_good", "_law_row", "_law_word"]) (sc := defScope s_due) (by decide +kernel)) ?lc96 ?k753
             case lc96 =>
              refine' lc_k (own := [("_law_words", 4)]) (T := (tL tS)) (U := (tL tI)) (G := fun ρ x => (List.set ρ 4 (.val (tL tS) x))) (vs := [4]) (cs' := (fun _ : Unit => [])) (z0 := fun y => ()) (s1 := fun _ _ _ => ()) (s2 := fun _ _ _ _ => ()) (IK.ie (ik_list (NK.pk (nk_slL (PV.lk (PK.l (pk_var (i := 1) rfl))) (po_1 pk_int) po_0)))) (fun _ => rfl) (by decide) (fun _ _ _ _ _ => (gk_name (i := 4) (by exact sc.nd))) (fun _ _ _ _ _ _ _ => ts_0) (fun _ _ _ _ _ _ _ _ => (NE.ek (ne_lc rfl (by exact sc.nd) ?lc94 ?lc93 ?lc95)))
              case lc94 =>
               exact blkIn_by (own := [("_law_word", 13)]) (N := ["_law_text_here", "_law_rows", "_law_letters", "_law_at", "_law_words", "_law_fine", "_law_letter", "_law_table", "_law_state", "_law_steps", "_law_goal", "_law_good", "_law_row", "_law_word"]) (sc := defScope s_due) rfl rfl (by decide +kernel)
              case lc93 =>
               exact lc_k (own := [("_law_word", 13)]) (T := tS) (U := tI) (G := fun ρ x => (List.set ρ 13 (.val tS x))) (vs := [13]) (cs' := (fun _ : Unit => [])) (z0 := fun y => ()) (s1 := fun _ _ _ => ()) (s2 := fun _ _ _ _ => ()) (IK.ie (ik_list (NK.pk (nk_slL (PV.lk (PK.l (pk_var (i := 4) rfl))) (po_1 pk_int) po_0)))) (fun _ => rfl) (by decide) (fun _ _ _ _ _ => (gk_name (i := 13) (by exact sc.nd))) (fun _ _ _ _ _ _ _ => ts_0) (fun _ _ _ _ _ _ _ _ => (PK.ek (PV.k (pv_ct call_int_str bs.m_int bs.b_int u_intS (PK.v (pk_var (i := 13) rfl))))))
              case lc95 =>
               exact fun _ => rfl
             case k753 =>
              intro y_29 table_30
              refine' sk_st (ρ2 := [.val tS a, .val (tL (tL tS)) rows_3, .val (tL tS) letters_5, .un, .un, .un, .un, .val (tL (tL tI)) table_30, .un, .un, .un, .un, .un, .un]) (cs2 := []) rfl rfl ?k757
              case k757 =>
               refine' sk_for (fun _ : Unit => [.val tS a, .val (tL (tL tS)) rows_3, .val (tL tS) letters_5, .un, .un, .un, .un, .val (tL (tL tI)) table_30, .un, .un, .un, .un, .un, .un]) (fun _ : Unit => []) () hp rfl (ik_enum bs.m_enumerate (pk_var (i := 7) rfl)) (gk_tup rfl (gs_C (gk_name (i := 8) (by exact sc.nd)) (gs_1 (gk_name (i := 9) (by exact sc.nd)))) (tlC tl1)) (.same (.same (.same (.same (.same (.same (.same (.same (.same (.same (.same (.same (.same (.same .nil)))))))))))))) rfl ?b758 ?k759
               case b758 =>
                intro fl_35 hs_34 N_33 z_31 x_32
                refine' sk_st (ρ2 := [.val tS a, .val (tL (tL tS)) rows_3, .val (tL tS) letters_5, .un, .un, .un, .un, .val (tL (tL tI)) table_30, .val tI x_32.1, .val (tL tI) x_32.2, .un, .un, .un, .un]) (cs2 := []) rfl rfl ?k760
                case k760 =>
                 refine' sk_for (fun _ : Unit => [.val tS a, .val (tL (tL tS)) rows_3, .val (tL tS) letters_5, .un, .un, .un, .un, .val (tL (tL tI)) table_30, .val tI x_32.1, .val (tL tI) x_32.2, .un, .un, .un, .un]) (fun _ : Unit => []) () hp rfl (ik_zipL bs.m_zip (pk_var (i := 2) rfl) (pk_var (i := 9) rfl)) (gk_tup rfl (gs_C (gk_name (i := 6) (by exact sc.nd)) (gs_1 (gk_name (i := 10) (by exact sc.nd)))) (tlC tl1)) (.same (.same (.same (.same (.same (.same (.same (.same (.same (.same (.same (.same (.same (.same .nil)))))))))))))) rfl ?b761 ?k762
                 case b761 =>
                  intro fl_40 hs_39 N_38 z_36 x_37
                  refine' sk_st (ρ2 := [.val tS a, .val (tL (tL tS)) rows_3, .val (tL tS) letters_5, .un, .un, .un, .val tS x_37.1, .val (tL (tL tI)) table_30, .val tI x_32.1, .val (tL tI) x_32.2, .val tI x_37.2, .un, .un, .un]) (cs2 := []) rfl rfl ?k763
                  case k763 =>
                   refine' sk_seq (sk_if1 (pt_cmp' op_ge r2_B0 (pk_var (i := 10) rfl) (PV.k (pv_cb cr_lenQ bs.m_len bs.b_len u_len (PV.q (PK.l (pk_var (i := 7) rfl)))))) ?a764 ?b765)
                   case a764 =>
                    refine' sk_retF (PK.anyD (fun q : (Str × Int × Str) => PyData.tuple [PyData.str q.1, PyData.int q.2.1, PyData.str q.2.2]) (D := ?lc97) ?lc98 ?lc99 (pk_tup (pa_C pk_str (pa_C (pk_var (i := 8) rfl) (pa_1 (pk_var (i := 6) rfl)))) (fun F vs => (lenC (lenC len1)) F vs _)))
                    case lc97 =>
                     exact dT (dsC (@dS K) (dsC (@dI K) (ds1 (@dS K))))
                    case lc98 =>
                     exact fun _ => rfl
                    case lc99 =>
                     exact Nat.le_of_ble_eq_true rfl
                   case b765 =>
                    refine' sk_nilX rfl ?k769
                    case k769 =>
                     exact sk_midX (z := ()) rfl (.same (.same (.same (.same (.same (.same (.un (.same (.same (.same (.un (.same (.same (.same .nil)))))))))))))) rfl
                 case k762 =>
                  intro z_36
                  exact sk_midX (z := ()) rfl (.same (.same (.same (.same (.same (.same (.same (.same (.un (.un (.same (.same (.same (.same .nil)))))))))))))) rfl
               case k759 =>
                intro z_31
                refine' sk_setLc (i := 11) rfl (by exact sc.nd) (blkOk_by (own := [("_law_state", 8)]) (N := ["_law_text_here", "_law_rows", "_law_letters", "_law_at", "_law_words", "_law_fine", "_law_letter", "_law_table", "_law_state", "_law_steps", "_law_goal", "_law_good", "_law_row", "_law_word"]) (sc := defScope s_due) (by decide +kernel)) ?lc100 ?k771
                case lc100 =>
                 exact lc_k (own := [("_law_state", 8)]) (T := tI) (U := tI) (G := fun ρ x => (List.set ρ 8 (.val tI x))) (vs := [8]) (cs' := (fun _ : Unit => [])) (z0 := fun y => ()) (s1 := fun _ _ _ => ()) (s2 := fun _ _ _ _ => ()) (IK.ie (ik_range1 bs.m_range (PV.k (pv_cb cr_lenQ bs.m_len bs.b_len u_len (PV.q (PK.l (pk_var (i := 7) rfl))))))) (fun _ => rfl) (by decide) (fun _ _ _ _ _ => (gk_name (i := 8) (by exact sc.nd))) (fun _ _ _ _ _ _ _ => (ts_1 (PTK.tk (pt_cmp' op_eq r2_eqS (pk_ixR (T := tS) (PV.lk (PK.l (pk_ixR (T := (tL tS)) (PV.lk (PK.l (pk_var (i := 1) rfl))) (pk_op op_add r2_I0 (pk_var (i := 8) rfl) pk_int)))) pk_int) pk_str)))) (fun _ _ _ _ _ _ _ _ => (PK.ek (pk_var (i := 8) rfl)))
                case k771 =>
                 intro y_43 good_44
                 refine' sk_st (ρ2 := [.val tS a, .val (tL (tL tS)) rows_3, .val (tL tS) letters_5, .un, .un, .un, .un, .val (tL (tL tI)) table_30, .un, .un, .un, .val (tL tI) good_44, .un, .un]) (cs2 := []) rfl rfl ?k772
                 case k772 =>
                  refine' sk_retFE (EK.anyD (fun q : (Str × (List Str) × (List (List Int)) × (List Int)) => PyData.tuple [PyData.str q.1, PyData.tuple (q.2.1.map fun q0 => PyData.str q0), PyData.tuple (q.2.2.1.map fun q0 => PyData.tuple (q0.map fun q1 => PyData.int q1)), PyData.tuple (q.2.2.2.map fun q0 => PyData.int q0)]) (D := ?lc104) ?lc105 ?lc106 ?lc107) ?lc108
                  case lc104 =>
                   exact dT (dsC (@dS K) (dsC (dU (@dS K)) (dsC (dU (dU (@dI K))) (ds1 (dU (@dI K))))))
                  case lc105 =>
                   exact fun _ => rfl
                  case lc106 =>
                   exact Nat.le_of_ble_eq_true rfl
                  case lc107 =>
                   refine' ek_tup (ak_C (PK.ek pk_str) (fun _ => (ak_C (PK.ek (PV.k (pv_ct call_tuple_of bs.m_tuple bs.b_tuple u_tupL (PV.lk (PK.l (pk_var (i := 2) rfl)))))) (fun _ => (ak_C (EV.k (ev_ct call_tuple_of bs.m_tuple bs.b_tuple (fun _ => u_tupL) (EV.lk (NE.l (ne_lc rfl (by exact sc.nd) ?lc102 ?lc101 ?lc103))))) (fun _ => (ak_1 (PK.ek (PV.k (pv_ct call_tuple_of bs.m_tuple bs.b_tuple u_tupL (PV.lk (PK.l (pk_var (i := 11) rfl))))))))))))) (lenC (lenC (lenC len1)))
                   case lc102 =>
                    exact blkOk_by (own := [("_law_steps", 9)]) (N := ["_law_text_here", "_law_rows", "_law_letters", "_law_at", "_law_words", "_law_fine", "_law_letter", "_law_table", "_law_state", "_law_steps", "_law_goal", "_law_good", "_law_row", "_law_word"]) (sc := defScope s_due) (by decide +kernel)
                   case lc101 =>
                    exact lc_k (own := [("_law_steps", 9)]) (T := (tL tI)) (U := (tU tI)) (G := fun ρ x => (List.set ρ 9 (.val (tL tI) x))) (vs := [9]) (cs' := (fun _ : Unit => [])) (z0 := fun y => ()) (s1 := fun _ _ _ => ()) (s2 := fun _ _ _ _ => ()) (IK.ie (ik_list (pk_var (i := 7) rfl))) (fun _ => rfl) (by decide) (fun _ _ _ _ _ => (gk_name (i := 9) (by exact sc.nd))) (fun _ _ _ _ _ _ _ => ts_0) (fun _ _ _ _ _ _ _ _ => (PK.ek (PV.k (pv_ct call_tuple_of bs.m_tuple bs.b_tuple u_tupL (PV.lk (PK.l (pk_var (i := 9) rfl)))))))
                   case lc103 =>
                    exact fun _ => rfl
                  case lc108 =>
                   exact fun _ => rfl
  case vc =>
   intro h
   simp only [true_and, and_true, yes1, yes2]
   obtain ⟨⟨hl, hc, h7⟩, hφ⟩ := h
   have hl : a.length ≤ 8000 := hl
   have hs := sizeLine_eq
   have n1 : ((Str.ofString "\n").length == 0) = false := by decide +kernel
   have n2 : ((Str.ofString " ").length == 0) = false := by decide +kernel
   refine ⟨⟨n1, by omega⟩, fun i acc _ => acc = ((Txt.split a (Str.ofString "\n")).take i).map fun r => Txt.split r (Str.ofString " "), rfl, fun i acc _ x hx hI => ⟨fun _ => ⟨⟨n2, ?_⟩, ?_⟩, fun e => (by cases e)⟩, fun acc _ hI z ez => ?_⟩
   · have := piece_le (get_mem hx)
     omega
   · dsimp only at hI ⊢
     rw [map_step _ hx, hI]
   dsimp only at hI
   rw [List.take_length] at hI
   have ez : z = wordsT a := ez.trans hI
   have hzne : z ≠ [] := by rw [ez]; exact wordsT_ne a
   have hpne : ∀ ws ∈ z, ws ≠ [] := fun ws hw => words_ne (by rw [← ez]; exact hw)
   have hlen : ∀ ws ∈ z, ∀ w ∈ ws, w.length ≤ 10000 := fun ws hw w hm => by
     have := words_piece (x := a) (by rw [← ez]; exact hw) hm
     omega
   have hwl : ∀ ws ∈ z, ws.length ≤ 10000 := fun ws hw => by
     have := words_len (x := a) (by rw [← ez]; exact hw)
     omega
   have hzl : z.length ≤ 10000 := by
     have := PyProof.Rows.split_le a (Str.ofString "\n")
     have e : z.length = (Txt.split a (Str.ofString "\n")).length := by rw [ez]; exact List.length_map ..
     omega
   obtain ⟨hd, tl, e⟩ : ∃ hd tl, z = hd :: tl := by
     cases z with
     | nil => exact absurd rfl hzne
     | cons w ws => exact ⟨w, ws, rfl⟩
   have hdm : hd ∈ z := by rw [e]; exact List.mem_cons_self
   obtain ⟨w0, ls, e0⟩ : ∃ w ws, hd = w :: ws := by
     cases hd with
     | nil => exact absurd rfl (hpne _ hdm)
     | cons w ws => exact ⟨w, ws, rfl⟩
   have p0 : pyIx z 0 = w0 :: ls := by rw [e, e0]; exact pyIx_head _ _
   have p1 : cutA z (some 1) none = tl := by rw [e]; exact cut1 _
   have p2 : cutA (w0 :: ls) (some 1) none = ls := cut1 _
   have p3 : pyIx (w0 :: ls) 0 = w0 := pyIx_head _ _
   have hgr : g_read_machine a = if headOk (w0 :: ls) then (if tl = [] then .inr (.noText 2) else match badRow 2 ls.length tl with
       | some n => .inr (.noText n)
       | none => g_Machine_init (ls, tabOf tl, goods tl)) else .inr (.noText 1) := by
     unfold K13.g_read_machine
     rw [← ez, e, e0]
     rfl
   have hho : headOk (w0 :: ls) = (decide (w0 = Str.ofString "letters") && !decide (ls = []) && ls.all K13.f_is_name) := rfl
   have t1 : headOk (w0 :: ls) = false → φ (PyData.tuple [PyData.str (Str.ofString "text"), PyData.int 1]) := fun hh => hφ _ (by
     show _ = K13.f_told a
     unfold K13.f_told
     rw [hgr, hh]
     rfl)
   rw [p0, p1, p2]
   refine ⟨ix0 hzne, fun z1 e1 => ?_⟩
   subst e1
   have i2 : IxOk (w0 :: z1) 0 := ix0 (by simp)
   rw [p3]
   refine ⟨⟨ix0 hzne, i2⟩, fun d1 => ⟨fun _ => t1 ?_, fun e => (by cases e)⟩, fun d1 => ⟨fun d2 => ⟨fun _ => t1 ?_, fun e => (by cases e)⟩, fun d2 => ⟨fun i acc _ => acc = (z1.take i).map K13.f_is_name, rfl, fun i acc _ w hw hI => ⟨fun _ => ⟨?_, by dsimp only at hI ⊢; rw [map_step _ hw, hI]; rfl⟩, fun e => (by cases e)⟩, fun acc _ hI => ⟨fun d3 => t1 ?_, fun d3 => ?_⟩⟩⟩⟩
   · rw [hho]
     have : decide (w0 = Str.ofString "letters") = false := by simpa using d1
     rw [this]
     rfl
   · rw [hho, d2, Bool.not_true, Bool.and_false]
     rfl
   · exact hlen _ hdm w (by rw [e0]; exact List.mem_cons_of_mem _ (get_mem hw))
   · dsimp only at hI
     rw [List.take_length] at hI
     have : acc.all id = z1.all K13.f_is_name := by rw [hI, List.all_map]; rfl
     rw [this] at d3
     have d3 : z1.all K13.f_is_name = false := by simpa using d3
     rw [hho, d3, Bool.and_false]
   dsimp only at hI
   rw [List.take_length] at hI
   have hok : headOk (w0 :: z1) = true := by
     have h1 : acc.all id = z1.all K13.f_is_name := by rw [hI, List.all_map]; rfl
     rw [h1] at d3
     have d3 : z1.all K13.f_is_name = true := by simpa using d3
     have d1 : decide (w0 = Str.ofString "letters") = true := by simpa using d1
     rw [hho, d1, d2, d3]
     rfl
   rw [hok, if_pos rfl] at hgr
   have hIx : ∀ ws ∈ tl, ws ∈ z := fun ws hw => by rw [e]; exact List.mem_cons_of_mem _ hw
   refine ⟨fun i _ => badRow ((i : Int) + 2) z1.length (tl.drop i) = badRow 2 z1.length tl, rfl, fun i _ x hx hI2 => ?_, fun _ hI2 => ⟨fun d4 => ?_, fun d4 => ?_⟩⟩
   · obtain ⟨f1, f2⟩ := enumF_get hx
     have f1 : x.1 = (i : Int) := f1
     have hxm := get_mem f2
     have hne := hpne _ (hIx _ hxm)
     obtain ⟨w, vs, ex⟩ : ∃ w ws, x.2 = w :: ws := by
       cases hh : x.2 with
       | nil => exact absurd hh hne
       | cons w ws => exact ⟨w, ws, rfl⟩
     have hst := badRow_step (k := z1.length) (n := (i : Int) + 2) f2
     have hr : rowOk z1.length x.2 = (decide (w ∈ [Str.ofString "good", Str.ofString "plain"]) && decide (vs.length = z1.length) && vs.all isNum) := by rw [ex]; rfl
     have tx : rowOk z1.length x.2 = false → φ (PyData.tuple [PyData.str (Str.ofString "text"), PyData.int (x.1 + 2)]) := fun hf => hφ _ (by
       rw [hf, if_neg Bool.false_ne_true] at hst
       have hb : badRow 2 z1.length tl = some ((i : Int) + 2) := hI2.symm.trans hst
       have htl : tl ≠ [] := fun e => by rw [e] at hxm; cases hxm
       show _ = K13.f_told a
       unfold K13.f_told
       rw [hgr, if_neg htl, hb, f1])
     have nxt : rowOk z1.length x.2 = true → badRow ((i + 1 : Nat) + 2 : Int) z1.length (tl.drop (i + 1)) = badRow 2 z1.length tl := fun ht => by
       rw [ht, if_pos rfl] at hst
       rw [show ((i + 1 : Nat) + 2 : Int) = (i : Int) + 2 + 1 by omega, ← hst]
       exact hI2
     refine ⟨⟨ix0 hne, fun _ => trivial⟩, fun z2 ez2 => ?_⟩
     have ez2 : z2 = (decide (w ∈ [Str.ofString "good", Str.ofString "plain"]) && decide (vs.length = z1.length)) := by
       rw [ez2, ex, pyIx_head]
       congr 1
       exact decide_eq_decide.mpr (by rw [List.length_cons]; omega)
     rw [← ez2] at hr
     refine ⟨fun d5 => ⟨fun _ => tx ?_, fun e => (by cases e)⟩, fun d5 => ?_⟩
     · have : z2 = false := by simpa using d5
       rw [hr, this]
       rfl
     · have d5 : z2 = true := by simpa using d5
       rw [d5, Bool.true_and] at hr
       have hc2 : cutA x.2 (some 1) none = vs := by rw [ex]; exact cut1 _
       rw [hc2]
       refine ⟨fun j acc _ => acc = (vs.take j).map isNum, rfl, fun j acc _ v hv hJ => ⟨fun _ => ⟨?_, by dsimp only at hJ ⊢; rw [map_step _ hv, hJ]; rfl⟩, fun e => (by cases e)⟩, fun acc _ hJ => ?_⟩
       · exact hlen _ (hIx _ hxm) v (by rw [ex]; exact List.mem_cons_of_mem _ (get_mem hv))
       · dsimp only at hJ
         rw [List.take_length] at hJ
         have h1 : acc.all id = vs.all isNum := by rw [hJ, List.all_map]; rfl
         rw [h1, ← hr]
         exact ⟨fun d6 => tx (by simpa using d6), fun d6 => nxt (by simpa using d6)⟩
   · have d4 := of_decide_eq_true d4
     have htl : tl = [] := by
       rw [e, List.length_cons] at d4
       exact List.length_eq_zero_iff.mp (by omega)
     refine hφ _ ?_
     show _ = K13.f_told a
     unfold K13.f_told
     rw [hgr, if_pos htl]
   have d4 := of_decide_eq_false d4
   have htl : tl ≠ [] := fun h => d4 (by rw [e, h]; rfl)
   rw [if_neg htl] at hgr
   have hbn : badRow 2 z1.length tl = none := by
     have hI2 : badRow (((enumF tl).length : Int) + 2) z1.length (tl.drop (enumF tl).length) = badRow 2 z1.length tl := hI2
     rw [enumF_length, List.drop_length] at hI2
     exact hI2.symm
   rw [hbn] at hgr
   have hgr : g_read_machine a = g_Machine_init (z1, tabOf tl, goods tl) := hgr
   have hro : ∀ ws ∈ tl, ws.tail.length = z1.length ∧ ∀ w ∈ ws.tail, isNum w = true := fun ws hw => rowOk_parts (badRow_none hbn ws hw)
   refine ⟨fun i _ => dupFrom [] (z1.take i) = none, rfl, fun i _ x hx hI3 => ?_, fun _ hI3 => ?_⟩
   · obtain ⟨f1, f2⟩ := enumF_get hx
     have f1 : x.1 = (i : Int) := f1
     have hst := dup_step f2 hI3
     have hcu : cutA z1 none (some x.1) = z1.take i := by rw [f1]; exact cutA_to2
     rw [hcu]
     refine ⟨fun d5 => hφ _ ?_, fun d5 => hst.2 (of_decide_eq_false d5)⟩
     show _ = K13.f_told a
     unfold K13.f_told
     rw [hgr]
     unfold K13.g_Machine_init
     dsimp only
     rw [hst.1 (of_decide_eq_true d5)]
   have hdn : dupFrom [] z1 = none := by
     have hI3 : dupFrom [] (z1.take (enumF z1).length) = none := hI3
     rw [enumF_length, List.take_length] at hI3
     exact hI3
   refine ⟨fun i acc _ => acc = (tl.take i).map fun ws => ws.tail.map intS, rfl, fun i acc _ x hx hI4 => ⟨fun _ => ?_, fun e => (by cases e)⟩, fun acc _ hI4 tab etab => ?_⟩
   · have hxm := get_mem hx
     have hc2 : cutA x (some 1) none = x.tail := cut1 _
     rw [hc2]
     refine ⟨fun j acc _ => acc = (x.tail.take j).map intS, rfl, fun j acc _ v hv hJ => ⟨fun _ => ⟨⟨?_, ?_⟩, by dsimp only at hJ ⊢; rw [map_step _ hv, hJ]⟩, fun e => (by cases e)⟩, fun acc _ hJ => ?_⟩
     · rw [num_text ((hro x hxm).2 v (get_mem hv))]
       rfl
     · have := (isNum_parts ((hro x hxm).2 v (get_mem hv))).2.1
       omega
     · dsimp only at hJ hI4 ⊢
       rw [List.take_length] at hJ
       rw [map_step _ hx, hI4, hJ]
   dsimp only at hI4
   rw [List.take_length] at hI4
   have etab : tab = tabOf tl := etab.trans hI4
   have tabl : tab.length = tl.length := by rw [etab]; exact List.length_map ..
   rw [← etab] at hgr
   have hnn : ∀ r ∈ tab, ∀ g ∈ r, 0 ≤ g := fun r hr g hg => by
     rw [etab] at hr
     obtain ⟨ws, hws, rfl⟩ := List.mem_map.mp hr
     obtain ⟨w, hw, rfl⟩ := List.mem_map.mp hg
     exact (num_small ((hro ws hws).2 w hw)).1
   have hgs : ∀ e, stepFrom (tab.length : Int) z1 0 tab = some e → K13.f_told a = PyData.tuple [PyData.str (Str.ofString "step"), PyData.int e.1, PyData.str e.2] := fun e he => by
     unfold K13.f_told
     rw [hgr]
     unfold K13.g_Machine_init
     dsimp only
     rw [hdn, he]
   refine ⟨fun i _ => stepFrom (tab.length : Int) z1 (i : Int) (tab.drop i) = stepFrom (tab.length : Int) z1 0 tab, rfl, fun i _ x hx hI5 => ?_, fun _ hI5 => ?_⟩
   · obtain ⟨f1, f2⟩ := enumF_get hx
     have f1 : x.1 = (i : Int) := f1
     have hst := step_here (n := (tab.length : Int)) (ls := z1) f2
     have hgo : ∀ y ∈ z1.zip x.2, 0 ≤ y.2 := fun y hy => hnn _ (get_mem f2) _ (List.of_mem_zip hy).2
     refine ⟨fun j _ => stepIn (tab.length : Int) (i : Int) ((z1.zip x.2).drop j) = stepIn (tab.length : Int) (i : Int) (z1.zip x.2), rfl, fun j _ y hy hJ => ⟨fun d5 => ?_, fun d5 => ?_⟩, fun _ hJ => ?_⟩
     · dsimp only at hJ
       have hs2 : stepIn (tab.length : Int) (i : Int) ((z1.zip x.2).drop j) = some ((i : Int), y.1) := by
         rw [drop_get hy]
         show (if _ then _ else _) = _
         rw [d5, Bool.or_true, if_pos rfl]
       rw [hs2] at hJ
       rw [← hJ] at hst
       have hst : stepFrom (tab.length : Int) z1 (i : Int) (tab.drop i) = some ((i : Int), y.1) := hst
       refine hφ _ ?_
       rw [f1]
       exact (hgs _ (hI5.symm.trans hst)).symm
     · have hs2 : stepIn (tab.length : Int) (i : Int) ((z1.zip x.2).drop j) = stepIn (tab.length : Int) (i : Int) ((z1.zip x.2).drop (j + 1)) := by
         rw [drop_get hy]
         show (if _ then _ else _) = _
         have := hgo y (get_mem hy)
         rw [d5, decide_eq_false (by omega), if_neg (by simp)]
       show stepIn (tab.length : Int) (i : Int) ((z1.zip x.2).drop (j + 1)) = _
       rw [← hs2]
       exact hJ
     · dsimp only at hJ
       rw [List.drop_length] at hJ
       rw [← hJ] at hst
       have hst : stepFrom (tab.length : Int) z1 (i : Int) (tab.drop i) = stepFrom (tab.length : Int) z1 ((i : Int) + 1) (tab.drop (i + 1)) := hst
       show stepFrom (tab.length : Int) z1 ((i + 1 : Nat) : Int) (tab.drop (i + 1)) = _
       rw [show ((i + 1 : Nat) : Int) = (i : Int) + 1 by omega, ← hst]
       exact hI5
   have hsn : stepFrom (tab.length : Int) z1 0 tab = none := by
     have hI5 : stepFrom (tab.length : Int) z1 ((enumF tab).length : Int) (tab.drop (enumF tab).length) = stepFrom (tab.length : Int) z1 0 tab := hI5
     rw [enumF_length, List.drop_length] at hI5
     exact hI5.symm
   have zl : z.length = tl.length + 1 := by rw [e]; rfl
   refine ⟨⟨by omega, by omega⟩, fun i acc _ => acc = ((rng 0 (tab.length : Int)).take i).filter fun k => decide ((pyIx tl k).headD default = Str.ofString "good"), rfl, fun i acc _ k hk hI6 => ?_, fun acc _ hI6 gd egd => ?_⟩
   · obtain ⟨ek, hi⟩ := rng_get hk
     have hi : i < tl.length := by omega
     have ek : k = (i : Int) := by omega
     have hz : pyIx z (k + 1) = pyIx tl k := by
       have h1 := pyIx_some (xs := z) (n := i + 1) (by omega)
       have h2 := pyIx_some (xs := tl) (n := i) hi
       rw [e, List.getElem?_cons_succ, h2] at h1
       rw [ek, show (i : Int) + 1 = ((i + 1 : Nat) : Int) by omega, e]
       exact (Option.some.inj h1).symm
     have hm : pyIx tl k ∈ tl := by rw [ek]; exact get_mem (pyIx_some hi)
     have hne := hpne _ (hIx _ hm)
     have hh : pyIx (pyIx tl k) 0 = (pyIx tl k).headD default := by
       cases hq : pyIx tl k with
       | nil => exact absurd hq hne
       | cons w ws => exact pyIx_head _ _
     rw [hz, hh]
     refine ⟨⟨⟨by omega, by omega⟩, ix0 hne⟩, fun d5 => ?_, fun d5 => ?_⟩
     · dsimp only at hI6 ⊢
       rw [take_step hk, filter_yes (p := fun k => decide ((pyIx tl k).headD default = Str.ofString "good")) _ d5, hI6]
     · dsimp only at hI6 ⊢
       rw [take_step hk, filter_no (p := fun k => decide ((pyIx tl k).headD default = Str.ofString "good")) _ d5, hI6]
   dsimp only at hI6
   rw [List.take_length] at hI6
   have egd : gd = goods tl := by
     rw [egd, hI6, tabl]
     rfl
   refine ⟨fun i acc _ => acc = tab.take i, rfl, fun i acc _ x hx hI => ⟨fun _ => (by dsimp only at hI ⊢; rw [take_step hx, hI]), fun e => (by cases e)⟩, fun acc _ hI7 => hφ _ ?_⟩
   dsimp only at hI7
   rw [List.take_length] at hI7
   show _ = K13.f_told a
   unfold K13.f_told
   rw [hgr]
   unfold K13.g_Machine_init
   dsimp only
   rw [hdn, hsn, hI7, egd]
abbrev s_told : Stmt := topS 33
theorem sc_told : FnScope ["_law_text_here", "_law_machine_here", "e", "_law_found"] ["_law_text_here"] (defScope s_told) := ⟨rfl, rfl, rfl, by decide +kernel, rfl, by decide +kernel, by decide +kernel⟩
def c_told (K : PySem.W.Frag) := Con.fn (K := K) (fun x : Str => [.val tS x]) tA pre_told f_told
theorem ok_told (bs : Bs mg) {xa : XA} {C_MeetError : Addr} (xs : Xs K mg xa C_MeetError) {C_Machine : Addr} (cl_Machine : Cl_Machine K C_Machine) {f_read_machine : Addr} {fd_read_machine : FuncData} (g_read_machine : Cal P w K mg base "read_machine" 5 ["text"] (c_read_machine K C_Machine xa).sp f_read_machine fd_read_machine) {f : Addr} {fd : FuncData} (F : Fun K "_law_told" "_law_told" s_told f fd) : FnOk P w K mg base (L2.CX P w) 6 f fd ["_law_text_here"] (c_told K).sp := by
  refine fn_con (c_told K) F sc_told (fun _ => rfl) ?_
  intro cdv Ar outer s H E F0 a φ ε hr hp
  have hu := hu_of hr
  have sc := sc_told
  refine' SK.vc ?hh ?vc
  case hh =>
   refine' sk_join (fun z_1 : PyData => [.val tS a, .un, .un, .val tA z_1]) (fun z_1 : PyData => []) ?h827 ?k828
   case h827 =>
    intro R_2
    refine' sk1_tryA xa (by exact sc.nd) (hd_as (i := 2) ⟨rfl, by decide, .inl xs.g_NoText⟩ rfl rfl (hd_as (i := 2) ⟨rfl, by decide, .inl xs.g_Twice⟩ rfl rfl (hd_as (i := 2) ⟨rfl, by decide, .inl xs.g_BadStep⟩ rfl rfl (hd_as (i := 2) ⟨rfl, by decide, .inl xs.g_BadGood⟩ rfl rfl (hd_no ⟨rfl, by decide, .inl xs.g_MeetError⟩ hd_nil))))) ?c_12829 ?c_22830 ?c_33831 ?c_43832 (fun _ => cl_never) (fun _ => cl_never) cl_never (fun _ _ => cl_never) (fun _ => cl_never) (fun _ => cl_never) cl_never cl_never ?b833
    case c_12829 =>
     intro line_3
     refine' cl_as xs.x_NoText_NoText ?k834
     case k834 =>
      intro a_4 oe_5 pn_6 cls_7 d_8 hz_9 hf_10
      refine' sk_st (ρ2 := [.val tS a, .un, .val (tEx xa a_4 cls_7 d_8) (.noText line_3), .un]) (cs2 := []) rfl rfl ?k835
      case k835 =>
       refine' sk_set (i := 3) (by exact sc.nd) (PK.anyD (fun q : (Str × Int) => PyData.tuple [PyData.str q.1, PyData.int q.2]) (D := ?lc124) ?lc125 ?lc126 (pk_tup (pa_C pk_str (pa_1 (pk_exF (T := tI) (x := line_3) (r := (.noText line_3)) (xa := xa) (X := cxOf (L2.CX P w) P w K mg base ["_law_text_here", "_law_machine_here", "e", "_law_found"] "_law_told" (defScope s_told) f cdv Ar outer s H E) (a := a_4) (pn := pn_6) xs.c_NoText.is xs.n_NoText_line hz_9 hf_10 (pk_var (i := 2) rfl)))) (fun F vs => (lenC len1) F vs _))) ?k839
       case lc124 =>
        exact dT (dsC (@dS K) (ds1 (@dI K)))
       case lc125 =>
        exact fun _ => rfl
       case lc126 =>
        exact Nat.le_of_ble_eq_true rfl
       case k839 =>
        intro found_11
        refine' sk_st (ρ2 := [.val tS a, .un, .val (tEx xa a_4 cls_7 d_8) (.noText line_3), .val tA found_11]) (cs2 := []) rfl rfl ?k840
        case k840 =>
         exact sk_midSX (z := _) 2 rfl (.same (.same (.same (.same .nil)))) rfl
    case c_22830 =>
     intro name_13
     refine' cl_miss xs.x_Twice_NoText ?k841
     case k841 =>
      refine' cl_as xs.x_Twice_Twice ?k842
      case k842 =>
       intro a_14 oe_15 pn_16 cls_17 d_18 hz_19 hf_20
       refine' sk_st (ρ2 := [.val tS a, .un, .val (tEx xa a_14 cls_17 d_18) (.twice name_13), .un]) (cs2 := []) rfl rfl ?k843
       case k843 =>
        refine' sk_set (i := 3) (by exact sc.nd) (PK.anyD (fun q : (Str × Str) => PyData.tuple [PyData.str q.1, PyData.str q.2]) (D := ?lc127) ?lc128 ?lc129 (pk_tup (pa_C pk_str (pa_1 (pk_exF (T := tS) (x := name_13) (r := (.twice name_13)) (xa := xa) (X := cxOf (L2.CX P w) P w K mg base ["_law_text_here", "_law_machine_here", "e", "_law_found"] "_law_told" (defScope s_told) f cdv Ar outer s H E) (a := a_14) (pn := pn_16) xs.c_Twice.is xs.n_Twice_name hz_19 hf_20 (pk_var (i := 2) rfl)))) (fun F vs => (lenC len1) F vs _))) ?k847
        case lc127 =>
         exact dT (dsC (@dS K) (ds1 (@dS K)))
        case lc128 =>
         exact fun _ => rfl
        case lc129 =>
         exact Nat.le_of_ble_eq_true rfl
        case k847 =>
         intro found_21
         refine' sk_st (ρ2 := [.val tS a, .un, .val (tEx xa a_14 cls_17 d_18) (.twice name_13), .val tA found_21]) (cs2 := []) rfl rfl ?k848
         case k848 =>
          exact sk_midSX (z := _) 2 rfl (.same (.same (.same (.same .nil)))) rfl
    case c_33831 =>
     intro state_23 letter_24
     refine' cl_miss xs.x_BadStep_NoText ?k849
     case k849 =>
      refine' cl_miss xs.x_BadStep_Twice ?k850
      case k850 =>
       refine' cl_as xs.x_BadStep_BadStep ?k851
       case k851 =>
        intro a_25 oe_26 pn_27 cls_28 d_29 hz_30 hf_31
        refine' sk_st (ρ2 := [.val tS a, .un, .val (tEx xa a_25 cls_28 d_29) (.badStep state_23 letter_24), .un]) (cs2 := []) rfl rfl ?k852
        case k852 =>
         refine' sk_set (i := 3) (by exact sc.nd) (PK.anyD (fun q : (Str × Int × Str) => PyData.tuple [PyData.str q.1, PyData.int q.2.1, PyData.str q.2.2]) (D := ?lc130) ?lc131 ?lc132 (pk_tup (pa_C pk_str (pa_C (pk_exF (T := tI) (x := state_23) (r := (.badStep state_23 letter_24)) (xa := xa) (X := cxOf (L2.CX P w) P w K mg base ["_law_text_here", "_law_machine_here", "e", "_law_found"] "_law_told" (defScope s_told) f cdv Ar outer s H E) (a := a_25) (pn := pn_27) xs.c_BadStep.is xs.n_BadStep_state hz_30 hf_31 (pk_var (i := 2) rfl)) (pa_1 (pk_exF (T := tS) (x := letter_24) (r := (.badStep state_23 letter_24)) (xa := xa) (X := cxOf (L2.CX P w) P w K mg base ["_law_text_here", "_law_machine_here", "e", "_law_found"] "_law_told" (defScope s_told) f cdv Ar outer s H E) (a := a_25) (pn := pn_27) xs.c_BadStep.is xs.n_BadStep_letter hz_30 hf_31 (pk_var (i := 2) rfl))))) (fun F vs => (lenC (lenC len1)) F vs _))) ?k856
         case lc130 =>
          exact dT (dsC (@dS K) (dsC (@dI K) (ds1 (@dS K))))
         case lc131 =>
          exact fun _ => rfl
         case lc132 =>
          exact Nat.le_of_ble_eq_true rfl
         case k856 =>
          intro found_32
          refine' sk_st (ρ2 := [.val tS a, .un, .val (tEx xa a_25 cls_28 d_29) (.badStep state_23 letter_24), .val tA found_32]) (cs2 := []) rfl rfl ?k857
          case k857 =>
           exact sk_midSX (z := _) 2 rfl (.same (.same (.same (.same .nil)))) rfl
    case c_43832 =>
     intro state_34
     refine' cl_miss xs.x_BadGood_NoText ?k858
     case k858 =>
      refine' cl_miss xs.x_BadGood_Twice ?k859
      case k859 =>
       refine' cl_miss xs.x_BadGood_BadStep ?k860
       case k860 =>
        refine' cl_as xs.x_BadGood_BadGood ?k861
        case k861 =>
         intro a_35 oe_36 pn_37 cls_38 d_39 hz_40 hf_41
         refine' sk_st (ρ2 := [.val tS a, .un, .val (tEx xa a_35 cls_38 d_39) (.badGood state_34), .un]) (cs2 := []) rfl rfl ?k862
         case k862 =>
          refine' sk_set (i := 3) (by exact sc.nd) (PK.anyD (fun q : (Str × Int) => PyData.tuple [PyData.str q.1, PyData.int q.2]) (D := ?lc133) ?lc134 ?lc135 (pk_tup (pa_C pk_str (pa_1 (pk_exF (T := tI) (x := state_34) (r := (.badGood state_34)) (xa := xa) (X := cxOf (L2.CX P w) P w K mg base ["_law_text_here", "_law_machine_here", "e", "_law_found"] "_law_told" (defScope s_told) f cdv Ar outer s H E) (a := a_35) (pn := pn_37) xs.c_BadGood.is xs.n_BadGood_state hz_40 hf_41 (pk_var (i := 2) rfl)))) (fun F vs => (lenC len1) F vs _))) ?k866
          case lc133 =>
           exact dT (dsC (@dS K) (ds1 (@dI K)))
          case lc134 =>
           exact fun _ => rfl
          case lc135 =>
           exact Nat.le_of_ble_eq_true rfl
          case k866 =>
           intro found_42
           refine' sk_st (ρ2 := [.val tS a, .un, .val (tEx xa a_35 cls_38 d_39) (.badGood state_34), .val tA found_42]) (cs2 := []) rfl rfl ?k867
           case k867 =>
            exact sk_midSX (z := _) 2 rfl (.same (.same (.same (.same .nil)))) rfl
    case b833 =>
     intro pn_44 xe_45 po_46
     refine' tb_set (i := 1) (by exact sc.nd) (ek_fxT g_read_machine.F sl1 hr g_read_machine.m g_read_machine.k g_read_machine.b (PAK.ak (pa_1 (pk_var (i := 0) rfl))) (fun _ => (by first | exact fun _ h => kp0 h | exact fun _ h => h)) (fun r h => ⟨r, rfl, h⟩)) ?k868
     case k868 =>
      intro y_47 machine_here_48
      refine' sk_st (ρ2 := [.val tS a, .val (ty_Machine C_Machine) machine_here_48, .un, .un]) (cs2 := []) rfl rfl ?k869
      case k869 =>
       refine' sk_retF (PK.anyD (fun q : (Str × (List Str) × (List (List Int)) × (List Int)) => PyData.tuple [PyData.str q.1, PyData.tuple (q.2.1.map fun q0 => PyData.str q0), PyData.tuple (q.2.2.1.map fun q0 => PyData.tuple (q0.map fun q1 => PyData.int q1)), PyData.tuple (q.2.2.2.map fun q0 => PyData.int q0)]) (D := ?lc136) ?lc137 ?lc138 (pk_tup (pa_C pk_str (pa_C (PK.uf (pk_fld cl_Machine.c cl_Machine.n_letters (PK.ins (pk_var (i := 1) rfl)))) (pa_C (pk_fld cl_Machine.c cl_Machine.n_table (PK.ins (pk_var (i := 1) rfl))) (pa_1 (pk_fld cl_Machine.c cl_Machine.n_good (PK.ins (pk_var (i := 1) rfl))))))) (fun F vs => (lenC (lenC (lenC len1))) F vs _)))
       case lc136 =>
        exact dT (dsC (@dS K) (dsC (dU (@dS K)) (dsC (dU (dU (@dI K))) (ds1 (dU (@dI K))))))
       case lc137 =>
        exact fun _ => rfl
       case lc138 =>
        exact Nat.le_of_ble_eq_true rfl
   case k828 =>
    intro z_1
    exact sk_retF (pk_var (i := 3) rfl)
  case vc =>
   intro h
   simp only [true_and, and_true, yes1, yes2]
   obtain ⟨hT, hφ⟩ := h
   have hφ : φ (f_told a) := hφ _ rfl
   refine ⟨fun z => z = f_told a, ⟨hT, fun r er z ez => ?_, fun r er => ?_⟩, fun z ez => by rw [ez]; exact hφ⟩
   · subst ez
     unfold K13.f_told at hφ
     rw [er] at hφ
     exact hφ
   · rcases read_refs er with ⟨n, rfl⟩ | ⟨d, rfl⟩ | ⟨s, l, rfl⟩
     all_goals
       intro z ez
       unfold K13.f_told
       rw [er]
       exact ez
abbrev s_law : Stmt := topS 34
theorem sc_law : FnScope ["_law_script", "_law_k", "_law_flow_here", "_law_spoils", "_law_letters", "_law_table", "_law_good", "_law_text_here", "_law_turn", "_law_due_here"] ["_law_script"] (defScope s_law) := ⟨rfl, rfl, rfl, by decide +kernel, rfl, by decide +kernel, by decide +kernel⟩
def c_law (K : PySem.W.Frag) := Con.fn (K := K) (fun x : (List Int) => [.val (tLK tI) x]) tB pre_law f_law
theorem ok_law (bs : Bs mg) {f_draw : Addr} {fd_draw : FuncData} (g_draw : Cal P w K mg base "_law_draw" 1 ["_law_flow_here", "_law_many"] (c_draw K).sp f_draw fd_draw) {f_due : Addr} {fd_due : FuncData} (g_due : Cal P w K mg base "_law_due" 3 ["_law_text_here"] (c_due K).sp f_due fd_due) {f_flow : Addr} {fd_flow : FuncData} (g_flow : Cal P w K mg base "_law_flow" 2 ["_law_script", "_law_k"] (c_flow K).sp f_flow fd_flow) {f_machine : Addr} {fd_machine : FuncData} (g_machine : Cal P w K mg base "_law_machine" 2 ["_law_flow_here", "_law_many", "_law_letters"] (c_machine K).sp f_machine fd_machine) {f_names : Addr} {fd_names : FuncData} (g_names : Cal P w K mg base "_law_names" 2 ["_law_flow_here", "_law_many"] (c_names K).sp f_names fd_names) {f_spoilt : Addr} {fd_spoilt : FuncData} (g_spoilt : Cal P w K mg base "_law_spoilt" 3 ["_law_flow_here", "_law_text_here"] (c_spoilt K).sp f_spoilt fd_spoilt) {f_text : Addr} {fd_text : FuncData} (g_text : Cal P w K mg base "_law_text" 1 ["_law_letters", "_law_table", "_law_good"] (c_text K).sp f_text fd_text) {f_told : Addr} {fd_told : FuncData} (g_told : Cal P w K mg base "_law_told" 6 ["_law_text_here"] (c_told K).sp f_told fd_told) {f : Addr} {fd : FuncData} (F : Fun K "law" "law" s_law f fd) : FnG P w K mg base 7 f fd ["_law_script"] (c_law K).sp := by
  refine fn_conG (c_law K) F sc_law (fun _ => rfl) ?_
  intro cdv Ar outer s H E F0 a φ ε hgd hr hp
  have hu := hu_of hr
  have sc := sc_law
  refine' SK.vc ?hh ?vc
  case hh =>
   refine' sk_for (fun _ : Unit => [.val (tLK tI) a, .un, .un, .un, .un, .un, .un, .un, .un, .un]) (fun _ : Unit => []) () hp rfl (ik_range1 bs.m_range (pk_cb (call_max2 rfl) bs.m_max bs.b_max rc_max2 (pa_C pk_int (pa_1 (pk_cb (call_min2 rfl) bs.m_min bs.b_min rc_min2 (pa_C pk_int (pa_1 (PV.k (pv_cb cr_lenQ bs.m_len bs.b_len u_len (PV.kq (PK.lk (pk_var (i := 0) rfl)))))))))))) (gk_name (i := 1) (by exact sc.nd)) (.same (.same (.same (.same (.same (.same (.same (.same (.same (.same .nil)))))))))) rfl ?b916 ?k917
   case b916 =>
    intro fl_5 hs_4 N_3 z_1 x_2
    refine' sk_st (ρ2 := [.val (tLK tI) a, .val tI x_2, .un, .un, .un, .un, .un, .un, .un, .un]) (cs2 := []) rfl rfl ?k918
    case k918 =>
     refine' sk_setMk (i := 2) (by exact sc.nd) (ek_mk1 g_flow.F (slC sl1) (hr.mono (by decide)) g_flow.m g_flow.k g_flow.b (PAK.ak (pa_C (pk_var (i := 0) rfl) (pa_1 (pk_var (i := 1) rfl))))) ?k919
     case k919 =>
      intro y_6 l_7 flow_here_8
      refine' sk_st (ρ2 := [.val (tLK tI) a, .val tI x_2, .val tR l_7, .un, .un, .un, .un, .un, .un, .un]) (cs2 := [⟨l_7, cL tI flow_here_8⟩]) rfl rfl ?k920
      case k920 =>
       refine' sk_setE (i := 3) (by exact sc.nd) (ek_o1 0 g_draw.F sl1 (hr.mono (by decide)) g_draw.m g_draw.k g_draw.b (pk_var (i := 2) rfl) (PAK.ak (pa_1 pk_int)) (fun _ => rfl)) ?k921
       case k921 =>
        intro y_10 spoils_9
        refine' sk_name 0 rfl ?k922
        case k922 =>
         intro w_11
         refine' sk_st (ρ2 := [.val (tLK tI) a, .val tI x_2, .val tR l_7, .val tI spoils_9, .un, .un, .un, .un, .un, .un]) (cs2 := [⟨l_7, cL tI w_11⟩]) rfl rfl ?k923
         case k923 =>
          refine' sk_st (ρ2 := [.val (tLK tI) a, .val tI x_2, .val tR l_7, .val tI spoils_9, .un, .un, .un, .un, .un, .un]) (cs2 := [⟨l_7, cL tI w_11⟩]) rfl rfl ?k924
          case k924 =>
           refine' sk_setMk (i := 4) (by exact sc.nd) (ek_o1m 0 g_names.F sl1 (hr.mono (by decide)) g_names.m g_names.k g_names.b (pk_var (i := 2) rfl) (ak_1 (ek_op op_add r2_I0 (PK.ek pk_int) (fun _ => (ek_o1 0 g_draw.F sl1 (hr.mono (by decide)) g_draw.m g_draw.k g_draw.b (pk_var (i := 2) rfl) (PAK.ak (pa_1 pk_int)) (fun _ => rfl))))) (fun _ => rfl)) ?k925
           case k925 =>
            intro y_12 l_13 letters_14
            refine' sk_name 0 rfl ?k926
            case k926 =>
             intro w_15
             refine' sk_st (ρ2 := [.val (tLK tI) a, .val tI x_2, .val tR l_7, .val tI spoils_9, .val tR l_13, .un, .un, .un, .un, .un]) (cs2 := [⟨l_7, cL tI w_15⟩, ⟨l_13, cL tS letters_14⟩]) rfl rfl ?k927
             case k927 =>
              refine' sk_st (ρ2 := [.val (tLK tI) a, .val tI x_2, .val tR l_7, .val tI spoils_9, .val tR l_13, .un, .un, .un, .un, .un]) (cs2 := [⟨l_7, cL tI w_15⟩, ⟨l_13, cL tS letters_14⟩]) rfl rfl ?k928
              case k928 =>
               refine' sk_freeze 1 4 rfl rfl rfl (Nat.le_of_ble_eq_true rfl) ?k929
               case k929 =>
                refine' sk_st (ρ2 := [.val (tLK tI) a, .val tI x_2, .val tR l_7, .val tI spoils_9, .val (tL tS) letters_14, .un, .un, .un, .un, .un]) (cs2 := [⟨l_7, cL tI w_15⟩]) rfl rfl ?k930
                case k930 =>
                 refine' sk_setG (gk_tup rfl (gs_C (gk_name (i := 5) (by exact sc.nd)) (gs_1 (gk_name (i := 6) (by exact sc.nd)))) (tlC tl1)) (ek_o1 0 g_machine.F (slC sl1) (hr.mono (by decide)) g_machine.m g_machine.k g_machine.b (pk_var (i := 2) rfl) (ak_C (ek_op op_add r2_I0 (PK.ek pk_int) (fun _ => (ek_o1 0 g_draw.F sl1 (hr.mono (by decide)) g_draw.m g_draw.k g_draw.b (pk_var (i := 2) rfl) (PAK.ak (pa_1 pk_int)) (fun _ => rfl)))) (fun _ => (ak_1 (PK.ek (pk_var (i := 4) rfl))))) (fun _ => rfl)) ?k931
                 case k931 =>
                  intro y_16 z_17
                  refine' sk_name 0 rfl ?k932
                  case k932 =>
                   intro w_18
                   refine' sk_st (ρ2 := [.val (tLK tI) a, .val tI x_2, .val tR l_7, .val tI spoils_9, .val (tL tS) letters_14, .val (tL (tL tI)) z_17.1, .val (tL tI) z_17.2, .un, .un, .un]) (cs2 := [⟨l_7, cL tI w_18⟩]) rfl rfl ?k933
                   case k933 =>
                    refine' sk_st (ρ2 := [.val (tLK tI) a, .val tI x_2, .val tR l_7, .val tI spoils_9, .val (tL tS) letters_14, .val (tL (tL tI)) z_17.1, .val (tL tI) z_17.2, .un, .un, .un]) (cs2 := [⟨l_7, cL tI w_18⟩]) rfl rfl ?k934
                    case k934 =>
                     refine' sk_set (i := 7) (by exact sc.nd) (pk_fn g_text.F (slC (slC sl1)) (hr.mono (by decide)) g_text.m g_text.k g_text.b (pa_C (pk_var (i := 4) rfl) (pa_C (pk_var (i := 5) rfl) (pa_1 (pk_var (i := 6) rfl))))) ?k935
                     case k935 =>
                      intro text_here_19
                      refine' sk_st (ρ2 := [.val (tLK tI) a, .val tI x_2, .val tR l_7, .val tI spoils_9, .val (tL tS) letters_14, .val (tL (tL tI)) z_17.1, .val (tL tI) z_17.2, .val tS text_here_19, .un, .un]) (cs2 := [⟨l_7, cL tI w_18⟩]) rfl rfl ?k936
                      case k936 =>
                       refine' sk_for (fun z_20 : (Str × List Int) => [.val (tLK tI) a, .val tI x_2, .val tR l_7, .val tI spoils_9, .val (tL tS) letters_14, .val (tL (tL tI)) z_17.1, .val (tL tI) z_17.2, .val tS z_20.1, .un, .un]) (fun z_20 : (Str × List Int) => [⟨l_7, cL tI z_20.2⟩]) (_, _) hp rfl (ik_range1 bs.m_range (pk_var (i := 3) rfl)) (gk_name (i := 8) (by exact sc.nd)) (.same (.same (.same (.same (.same (.same (.same (.same (.same (.same .nil)))))))))) rfl ?b937 ?k938
                       case b937 =>
                        intro fl_24 hs_23 N_22 z_20 x_21
                        refine' sk_st (ρ2 := [.val (tLK tI) a, .val tI x_2, .val tR l_7, .val tI spoils_9, .val (tL tS) letters_14, .val (tL (tL tI)) z_17.1, .val (tL tI) z_17.2, .val tS z_20.1, .val tI x_21, .un]) (cs2 := [⟨l_7, cL tI z_20.2⟩]) rfl rfl ?k939
                        case k939 =>
                         refine' sk_setE (i := 7) (by exact sc.nd) (ek_o1 0 g_spoilt.F sl1 (hr.mono (by decide)) g_spoilt.m g_spoilt.k g_spoilt.b (pk_var (i := 2) rfl) (PAK.ak (pa_1 (pk_var (i := 7) rfl))) (fun _ => rfl)) ?k940
                         case k940 =>
                          intro y_26 text_here_25
                          refine' sk_name 0 rfl ?k941
                          case k941 =>
                           intro w_27
                           refine' sk_st (ρ2 := [.val (tLK tI) a, .val tI x_2, .val tR l_7, .val tI spoils_9, .val (tL tS) letters_14, .val (tL (tL tI)) z_17.1, .val (tL tI) z_17.2, .val tS text_here_25, .val tI x_21, .un]) (cs2 := [⟨l_7, cL tI w_27⟩]) rfl rfl ?k942
                           case k942 =>
                            refine' sk_st (ρ2 := [.val (tLK tI) a, .val tI x_2, .val tR l_7, .val tI spoils_9, .val (tL tS) letters_14, .val (tL (tL tI)) z_17.1, .val (tL tI) z_17.2, .val tS text_here_25, .val tI x_21, .un]) (cs2 := [⟨l_7, cL tI w_27⟩]) rfl rfl ?k943
                            case k943 =>
                             exact sk_midX (z := (_, _)) rfl (.same (.same (.same (.same (.same (.same (.same (.same (.un (.same .nil)))))))))) rfl
                       case k938 =>
                        intro z_20
                        refine' sk_join (fun z_28 : Str => [.val (tLK tI) a, .val tI x_2, .val tR l_7, .val tI spoils_9, .val (tL tS) letters_14, .val (tL (tL tI)) z_17.1, .val (tL tI) z_17.2, .val tS z_28, .un, .un]) (fun z_28 : Str => [⟨l_7, cL tI z_20.2⟩]) ?h944 ?k945
                        case h944 =>
                         intro R_29
                         refine' sk_if1 (pt_cmp' op_gt r2_B0 (PV.k (pv_cb cr_lenQ bs.m_len bs.b_len u_len (PV.q (NK.l (nk_split (pk_ixR (T := tS) (PV.lk (NK.l (nk_split (pk_var (i := 7) rfl) pk_str))) pk_int) pk_str))))) pk_int) ?a946 ?b947
                         case a946 =>
                          refine' sk_set (i := 7) (by exact sc.nd) (pk_fn g_text.F (slC (slC sl1)) (hr.mono (by decide)) g_text.m g_text.k g_text.b (pa_C (pk_var (i := 4) rfl) (pa_C (pk_var (i := 5) rfl) (pa_1 (pk_var (i := 6) rfl))))) ?k948
                          case k948 =>
                           intro text_here_30
                           refine' sk_st (ρ2 := [.val (tLK tI) a, .val tI x_2, .val tR l_7, .val tI spoils_9, .val (tL tS) letters_14, .val (tL (tL tI)) z_17.1, .val (tL tI) z_17.2, .val tS text_here_30, .un, .un]) (cs2 := [⟨l_7, cL tI z_20.2⟩]) rfl rfl ?k949
                           case k949 =>
                            exact sk_midX (z := _) rfl (.same (.same (.same (.same (.same (.same (.same (.same (.same (.same .nil)))))))))) rfl
                         case b947 =>
                          exact sk_midX (z := _) rfl (.same (.same (.same (.same (.same (.same (.same (.same (.same (.same .nil)))))))))) rfl
                        case k945 =>
                         intro z_28
                         refine' sk_set (i := 9) (by exact sc.nd) (PV.k (pv_cb (cr_repr hgd hr) bs.m_repr bs.b_repr u_reprA (PK.v (pk_fn g_due.F sl1 (hr.mono (by decide)) g_due.m g_due.k g_due.b (pa_1 (pk_var (i := 7) rfl)))))) ?k950
                         case k950 =>
                          intro due_here_31
                          refine' sk_st (ρ2 := [.val (tLK tI) a, .val tI x_2, .val tR l_7, .val tI spoils_9, .val (tL tS) letters_14, .val (tL (tL tI)) z_17.1, .val (tL tI) z_17.2, .val tS z_28, .un, .val tSx due_here_31]) (cs2 := [⟨l_7, cL tI z_20.2⟩]) rfl rfl ?k951
                          case k951 =>
                           refine' sk_seq (sk_if1 (PWK.pt (pw_or' (pt_cmp' op_ne r2_neR (PV.k (pv_cb (cr_repr hgd hr) bs.m_repr bs.b_repr u_reprA (PK.v (pk_fn g_told.F sl1 hr g_told.m g_told.k g_told.b (pa_1 (pk_var (i := 7) rfl)))))) (pk_var (i := 9) rfl)) (pw_or1' (pt_cmp' op_ne r2_neR (PV.k (pv_cb (cr_repr hgd hr) bs.m_repr bs.b_repr u_reprA (PK.v (pk_fn g_told.F sl1 hr g_told.m g_told.k g_told.b (pa_1 (pk_var (i := 7) rfl)))))) (pk_var (i := 9) rfl))))) ?a952 ?b953)
                           case a952 =>
                            refine' sk_drop 0 ?k954
                            case k954 =>
                             refine' sk_st (ρ2 := [.val (tLK tI) a, .val tI x_2, .val tR l_7, .val tI spoils_9, .val (tL tS) letters_14, .val (tL (tL tI)) z_17.1, .val (tL tI) z_17.2, .val tS z_28, .un, .val tSx due_here_31]) (cs2 := []) rfl rfl ?k955
                             case k955 =>
                              exact sk_retF pk_bl
                           case b953 =>
                            refine' sk_nilX rfl ?k956
                            case k956 =>
                             refine' sk_drop 0 ?k957
                             case k957 =>
                              refine' sk_st (ρ2 := [.val (tLK tI) a, .val tI x_2, .val tR l_7, .val tI spoils_9, .val (tL tS) letters_14, .val (tL (tL tI)) z_17.1, .val (tL tI) z_17.2, .val tS z_28, .un, .val tSx due_here_31]) (cs2 := []) rfl rfl ?k958
                              case k958 =>
                               exact sk_midX (z := ()) rfl (.same (.un (.un (.un (.un (.un (.un (.un (.same (.un .nil)))))))))) rfl
   case k917 =>
    intro z_1
    exact sk_retF pk_bl
  case vc =>
   intro h
   simp only [true_and, and_true, yes1, yes2]
   obtain ⟨hl, hφ⟩ := h
   have hl : a.length ≤ 63 := hl
   have hφ : φ true := hφ _ rfl
   have hs := sizeLine_eq
   have n1 : ((Str.ofString "\n").length == 0) = false := by decide +kernel
   have n2 : ((Str.ofString " ").length == 0) = false := by decide +kernel
   have nb : (if (if (a.length : Int) < 4 then (a.length : Int) else 4) > 1 then (if (a.length : Int) < 4 then (a.length : Int) else 4) else 1) ≤ 4 := by split <;> (try split) <;> omega
   have nb0 : -2 ^ 62 ≤ (if (if (a.length : Int) < 4 then (a.length : Int) else 4) > 1 then (if (a.length : Int) < 4 then (a.length : Int) else 4) else 1) := by split <;> (try split) <;> omega
   refine ⟨⟨nb0, by omega⟩, fun _ _ => True, trivial, fun i _ x hx _ => ?_, fun _ _ => hφ⟩
   obtain ⟨ex, hi⟩ := rng_get hx
   refine ⟨⟨by show 0 ≤ x; omega, by show x ≤ 1000000; omega⟩, fun _ c f1 => ⟨⟨f1, by decide, by decide⟩, fun sp w ⟨r0, r1, f2⟩ z ez w1 e1 => ?_⟩⟩
   have f3 : Fl w1 := by rw [e1]; exact f2
   refine ⟨⟨f3, by decide, by decide⟩, fun r w2 ⟨q0, q1, f4⟩ => ⟨⟨f4, by omega, by omega⟩, fun _ ls w3 ⟨hN, f5⟩ w4 e4 => ?_⟩⟩
   have f6 : Fl w4 := by rw [e4]; exact f5
   obtain ⟨hN1, hN2, hN3⟩ := hN
   refine ⟨⟨f6, by decide, by decide⟩, fun rm w5 ⟨p0, p1, f7⟩ => ⟨⟨f7, by omega, by omega, by show ls.length ≤ 6; omega⟩, fun m w6 ⟨f8, m1, m2, m3⟩ m' em w7 e7 => ?_⟩⟩
   have f9 : Fl w7 := by rw [e7]; exact f8
   have m1 : (m.1.length : Int) = 1 + rm := m1
   subst em
   have hM : MaOk (ls, m'.1, m'.2) := by
     refine ⟨⟨fun e => ?_, by show m'.1.length ≤ 24; omega, fun e => ?_, by show ls.length ≤ 6; omega, hN2, hN3, fun r hr => (m2 r hr).1, fun r hr g hg => ?_⟩, m3⟩
     · have e : m'.1 = [] := e
       rw [e] at m1
       have m1 : ((0 : Nat) : Int) = 1 + rm := m1
       omega
     · have e : ls = [] := e
       rw [e] at hN1
       have hN1 : ((0 : Nat) : Int) = 1 + r := hN1
       omega
     · have := (m2 r hr).2 g hg
       show 0 ≤ g ∧ g < (m'.1.length : Int)
       rw [m1]
       exact this
   have hsm := text_small hM (by show m'.1.length ≤ 8; omega) (by show ls.length ≤ 4; omega)
   refine ⟨hM, fun t et => ⟨⟨by omega, by omega⟩, fun i y => Fl y.2 ∧ y.1.length ≤ (if i = 0 then 450 else if i = 1 then 1840 else 7400) ∧ cnt y.1 ≤ 8 + i, ⟨f9, by rw [et]; exact hsm.1, by rw [et]; exact hsm.2.1⟩, fun i y x hx ⟨i1, i2, i3⟩ => ?_, fun y ⟨i1, i2, i3⟩ => ?_⟩⟩
   · obtain ⟨_, hi2⟩ := rng_get hx
     have hi2 : i < 2 := by omega
     have hb : y.1.length ≤ 1840 := by
       refine Nat.le_trans i2 ?_
       split
       · decide
       · split <;> omega
     refine ⟨⟨i1, by show y.1.length ≤ 3000; omega, by show cnt y.1 ≤ 16; omega⟩, fun r w8 ⟨g1, g2, g3⟩ zz ezz w9 e9 => ⟨by rw [e9]; exact g1, ?_, ?_⟩⟩
     · show zz.length ≤ _
       rw [ezz, if_neg (Nat.succ_ne_zero i)]
       rcases Nat.lt_or_ge i 1 with h | h
       · have hi0 : i = 0 := by omega
         rw [hi0] at i2
         have i2 : y.1.length ≤ 450 := i2
         rw [if_pos (by omega)]
         omega
       · rw [if_neg (by omega)]
         omega
     · show cnt zz ≤ _
       rw [ezz]
       omega
   · have hyl : y.1.length ≤ 7400 := by
       refine Nat.le_trans i2 ?_
       split
       · decide
       · split <;> decide
     have hyc : cnt y.1 ≤ 10 := by
       rw [rng_length] at i3
       omega
     have hsne := split_ne y.1 (Str.ofString "\n")
     have hpl : (pyIx (Txt.split y.1 (Str.ofString "\n")) 0).length ≤ y.1.length := piece_le (pyIx_mem (by decide) (by have := List.length_pos_iff.mpr hsne; omega))
     refine ⟨fun t => TB t, ⟨⟨⟨⟨n1, by omega⟩, ix0 hsne⟩, n2, by omega⟩, fun _ => ⟨hM, fun t2 et2 => ?_⟩, fun d => ⟨by show y.1.length ≤ 8000; omega, by show cnt y.1 ≤ 18; omega, ?_⟩⟩, fun t2 hT => ?_⟩
     · rw [et2]
       exact ⟨Nat.le_trans hsm.1 (by decide), Nat.le_trans hsm.2.1 (by decide), hsm.2.2⟩
     · have d := of_decide_eq_false d
       have e : (wordsT y.1).headD default = Txt.split (pyIx (Txt.split y.1 (Str.ofString "\n")) 0) (Str.ofString " ") := by
         unfold wordsT
         have hq : ∀ zs : List Str, zs ≠ [] → (zs.map fun r => Txt.split r " ").headD default = Txt.split (pyIx zs 0) (Str.ofString " ") := fun zs hz => by
           cases zs with
           | nil => exact absurd rfl hz
           | cons z zs => rw [pyIx_head]; rfl
         exact hq _ hsne
       rw [e]
       omega
     · have hf := (told_fits hT).fits
       refine ⟨⟨hT, hf⟩, fun z4 e4 => ⟨⟨⟨hT, hf⟩, fun _ => ⟨hT, hf⟩⟩, fun e => ?_, fun _ => trivial⟩⟩
       have e5 : (K13.f_told t2).shown = z4 := e4.symm
       rw [decide_eq_true e5] at e
       cases e
end
end K13
namespace K13
open PySem PySem.Spec PyProof.Rows L2 MD KP
theorem law_sp {K : PySem.W.Frag} {H : Hp} {a : Addr} {ns : List Int} (hl : ns.length ≤ 63) (hS : SqL K H a (ns.map V.int)) : (c_law K).sp [.ref a] H (fun v _ => v = .bl true) fun _ _ _ => False :=
  ⟨ns, H, .cons ⟨.ref a, rfl, a, ns.map V.int, rfl, hS, rl_of_ints, by rw [List.length_map, sizeLine_eq]; omega⟩ .nil, Same.refl H, fun c hc => (by cases hc), List.nodup_nil, hl, fun r er v F' H' _ hv => by
    subst er
    exact hv⟩
theorem all_mk {l : PySem.W.OpenLaw} {w : World} {K : PySem.W.Frag} {h : Heap} {mg : Str → Option Value} {fa C_Machine f_cell f_flow f_draw f_names f_Machine_init f_all_of f_is_name f_number_of f_steps_in f_read_machine f_machine f_text f_signs f_moved f_spoilt f_lall_of f_lis_name f_is_number f_due f_told f_law C_BadGood C_BadStep C_MeetError C_NoText C_Twice f_BadGood f_BadStep f_NoText f_Twice : Addr} (X : K.In h) (G : h.Ns mainGlobals mg) (hfa : mg "law" = some (.ref fa))
    {oc0 kV0 dc0 pm0 cd0 ct0 : Value} {od0 an0 : Option Addr} {sl0 : Array (Option Value)}
    {oc1 kV1 dc1 pm1 cd1 ct1 : Value} {od1 an1 : Option Addr} {sl1 : Array (Option Value)}
    {oc2 kV2 dc2 pm2 cd2 ct2 : Value} {od2 an2 : Option Addr} {sl2 : Array (Option Value)}
    {oc3 kV3 dc3 pm3 cd3 ct3 : Value} {od3 an3 : Option Addr} {sl3 : Array (Option Value)}
    {oc4 kV4 dc4 pm4 cd4 ct4 : Value} {od4 an4 : Option Addr} {sl4 : Array (Option Value)}
    {oc5 kV5 dc5 pm5 cd5 ct5 : Value} {od5 an5 : Option Addr} {sl5 : Array (Option Value)}
    {oc6 kV6 dc6 pm6 cd6 ct6 : Value} {od6 an6 : Option Addr} {sl6 : Array (Option Value)}
    {oc7 kV7 dc7 pm7 cd7 ct7 : Value} {od7 an7 : Option Addr} {sl7 : Array (Option Value)}
    {oc8 kV8 dc8 pm8 cd8 ct8 : Value} {od8 an8 : Option Addr} {sl8 : Array (Option Value)}
    {oc9 kV9 dc9 pm9 cd9 ct9 : Value} {od9 an9 : Option Addr} {sl9 : Array (Option Value)}
    {oc10 kV10 dc10 pm10 cd10 ct10 : Value} {od10 an10 : Option Addr} {sl10 : Array (Option Value)}
    {oc11 kV11 dc11 pm11 cd11 ct11 : Value} {od11 an11 : Option Addr} {sl11 : Array (Option Value)}
    {oc12 kV12 dc12 pm12 cd12 ct12 : Value} {od12 an12 : Option Addr} {sl12 : Array (Option Value)}
    {oc13 kV13 dc13 pm13 cd13 ct13 : Value} {od13 an13 : Option Addr} {sl13 : Array (Option Value)}
    {oc14 kV14 dc14 pm14 cd14 ct14 : Value} {od14 an14 : Option Addr} {sl14 : Array (Option Value)}
    {oc15 kV15 dc15 pm15 cd15 ct15 : Value} {od15 an15 : Option Addr} {sl15 : Array (Option Value)}
    {oc16 kV16 dc16 pm16 cd16 ct16 : Value} {od16 an16 : Option Addr} {sl16 : Array (Option Value)}
    {oc17 kV17 dc17 pm17 cd17 ct17 : Value} {od17 an17 : Option Addr} {sl17 : Array (Option Value)}
    {oc18 kV18 dc18 pm18 cd18 ct18 : Value} {od18 an18 : Option Addr} {sl18 : Array (Option Value)}
    {oc19 kV19 dc19 pm19 cd19 ct19 : Value} {od19 an19 : Option Addr} {sl19 : Array (Option Value)}
    {oc20 kV20 dc20 pm20 cd20 ct20 : Value} {od20 an20 : Option Addr} {sl20 : Array (Option Value)}
    {t_LETTERS : Tok}
    {t_FIGURES_words : Tok}
    {t_FIGURES_machinetext : Tok}
    {nmX0 qX0 : Str} {NX0 : Addr} {bsX0 : List Value} {snX0 : List Str} {subX0 : List Value} {abX0 : Bool} {colX0 : Option Bool} {ddX0 : Option Addr} {m0X0 m1X0 m2X0 m3X0 m5X0 : Option Value}
    {nmX1 qX1 : Str} {NX1 : Addr} {bsX1 : List Value} {snX1 : List Str} {subX1 : List Value} {abX1 : Bool} {colX1 : Option Bool} {ddX1 : Option Addr} {m0X1 m1X1 m2X1 m3X1 m5X1 : Option Value}
    {nmX2 qX2 : Str} {NX2 : Addr} {bsX2 : List Value} {snX2 : List Str} {subX2 : List Value} {abX2 : Bool} {colX2 : Option Bool} {ddX2 : Option Addr} {m0X2 m1X2 m2X2 m3X2 m5X2 : Option Value}
    {nmX3 qX3 : Str} {NX3 : Addr} {bsX3 : List Value} {snX3 : List Str} {subX3 : List Value} {abX3 : Bool} {colX3 : Option Bool} {ddX3 : Option Addr} {m0X3 m1X3 m2X3 m3X3 m5X3 : Option Value}
    {ocI0 kVI0 dcI0 pmI0 cdI0 ctI0 : Value} {odI0 anI0 : Option Addr} {slI0 : Array (Option Value)}
    {ocI1 kVI1 dcI1 pmI1 cdI1 ctI1 : Value} {odI1 anI1 : Option Addr} {slI1 : Array (Option Value)}
    {ocI2 kVI2 dcI2 pmI2 cdI2 ctI2 : Value} {odI2 anI2 : Option Addr} {slI2 : Array (Option Value)}
    {ocI3 kVI3 dcI3 pmI3 cdI3 ctI3 : Value} {odI3 anI3 : Option Addr} {slI3 : Array (Option Value)}
    (aC_Machine : PySem.W.nsIn K mainGlobals "Machine" = some (some (.ref C_Machine)))
    (a0 : PySem.W.nsIn K mainGlobals "_law_cell" = some (some (.ref f_cell)))
    (l0 : K.lookup f_cell = some ⟨oc0, od0, .func (PySem.W.fnOf "_law_cell" "_law_cell" (defArgs s_cell) (defBody s_cell) (defScope s_cell) .none kV0 dc0 pm0 an0 cd0 ct0), sl0⟩)
    (c0 : PySem.W.codeIn K cd0 "_law_cell" = true)
    (k0 : PySem.W.keepIn K (.ref f_cell) = true)
    (a1 : PySem.W.nsIn K mainGlobals "_law_flow" = some (some (.ref f_flow)))
    (l1 : K.lookup f_flow = some ⟨oc1, od1, .func (PySem.W.fnOf "_law_flow" "_law_flow" (defArgs s_flow) (defBody s_flow) (defScope s_flow) .none kV1 dc1 pm1 an1 cd1 ct1), sl1⟩)
    (c1 : PySem.W.codeIn K cd1 "_law_flow" = true)
    (k1 : PySem.W.keepIn K (.ref f_flow) = true)
    (a2 : PySem.W.nsIn K mainGlobals "_law_draw" = some (some (.ref f_draw)))
    (l2 : K.lookup f_draw = some ⟨oc2, od2, .func (PySem.W.fnOf "_law_draw" "_law_draw" (defArgs s_draw) (defBody s_draw) (defScope s_draw) .none kV2 dc2 pm2 an2 cd2 ct2), sl2⟩)
    (c2 : PySem.W.codeIn K cd2 "_law_draw" = true)
    (k2 : PySem.W.keepIn K (.ref f_draw) = true)
    (a3 : PySem.W.nsIn K mainGlobals "_law_names" = some (some (.ref f_names)))
    (l3 : K.lookup f_names = some ⟨oc3, od3, .func (PySem.W.fnOf "_law_names" "_law_names" (defArgs s_names) (defBody s_names) (defScope s_names) .none kV3 dc3 pm3 an3 cd3 ct3), sl3⟩)
    (c3 : PySem.W.codeIn K cd3 "_law_names" = true)
    (k3 : PySem.W.keepIn K (.ref f_names) = true)
    (a4 : PySem.W.findIn K (.ref C_Machine) "__init__" = some (some (.ref f_Machine_init)))
    (i4 : PySem.W.isFn K (.ref f_Machine_init) = true)
    (l4 : K.lookup f_Machine_init = some ⟨oc4, od4, .func (PySem.W.fnOf "__init__" "Machine.__init__" (defArgs s_Machine_init) (defBody s_Machine_init) (defScope s_Machine_init) .none kV4 dc4 pm4 an4 cd4 ct4), sl4⟩)
    (c4 : PySem.W.codeIn K cd4 "Machine.__init__" = true)
    (k4 : PySem.W.keepIn K (.ref f_Machine_init) = true)
    (a5 : PySem.W.nsIn K mainGlobals "all_of" = some (some (.ref f_all_of)))
    (l5 : K.lookup f_all_of = some ⟨oc5, od5, .func (PySem.W.fnOf "all_of" "all_of" (defArgs s_all_of) (defBody s_all_of) (defScope s_all_of) .none kV5 dc5 pm5 an5 cd5 ct5), sl5⟩)
    (c5 : PySem.W.codeIn K cd5 "all_of" = true)
    (k5 : PySem.W.keepIn K (.ref f_all_of) = true)
    (a6 : PySem.W.nsIn K mainGlobals "is_name" = some (some (.ref f_is_name)))
    (l6 : K.lookup f_is_name = some ⟨oc6, od6, .func (PySem.W.fnOf "is_name" "is_name" (defArgs s_is_name) (defBody s_is_name) (defScope s_is_name) .none kV6 dc6 pm6 an6 cd6 ct6), sl6⟩)
    (c6 : PySem.W.codeIn K cd6 "is_name" = true)
    (k6 : PySem.W.keepIn K (.ref f_is_name) = true)
    (a7 : PySem.W.nsIn K mainGlobals "number_of" = some (some (.ref f_number_of)))
    (l7 : K.lookup f_number_of = some ⟨oc7, od7, .func (PySem.W.fnOf "number_of" "number_of" (defArgs s_number_of) (defBody s_number_of) (defScope s_number_of) .none kV7 dc7 pm7 an7 cd7 ct7), sl7⟩)
    (c7 : PySem.W.codeIn K cd7 "number_of" = true)
    (k7 : PySem.W.keepIn K (.ref f_number_of) = true)
    (a8 : PySem.W.nsIn K mainGlobals "steps_in" = some (some (.ref f_steps_in)))
    (l8 : K.lookup f_steps_in = some ⟨oc8, od8, .func (PySem.W.fnOf "steps_in" "steps_in" (defArgs s_steps_in) (defBody s_steps_in) (defScope s_steps_in) .none kV8 dc8 pm8 an8 cd8 ct8), sl8⟩)
    (c8 : PySem.W.codeIn K cd8 "steps_in" = true)
    (k8 : PySem.W.keepIn K (.ref f_steps_in) = true)
    (a9 : PySem.W.nsIn K mainGlobals "read_machine" = some (some (.ref f_read_machine)))
    (l9 : K.lookup f_read_machine = some ⟨oc9, od9, .func (PySem.W.fnOf "read_machine" "read_machine" (defArgs s_read_machine) (defBody s_read_machine) (defScope s_read_machine) .none kV9 dc9 pm9 an9 cd9 ct9), sl9⟩)
    (c9 : PySem.W.codeIn K cd9 "read_machine" = true)
    (k9 : PySem.W.keepIn K (.ref f_read_machine) = true)
    (a10 : PySem.W.nsIn K mainGlobals "_law_machine" = some (some (.ref f_machine)))
    (l10 : K.lookup f_machine = some ⟨oc10, od10, .func (PySem.W.fnOf "_law_machine" "_law_machine" (defArgs s_machine) (defBody s_machine) (defScope s_machine) .none kV10 dc10 pm10 an10 cd10 ct10), sl10⟩)
    (c10 : PySem.W.codeIn K cd10 "_law_machine" = true)
    (k10 : PySem.W.keepIn K (.ref f_machine) = true)
    (a11 : PySem.W.nsIn K mainGlobals "_law_text" = some (some (.ref f_text)))
    (l11 : K.lookup f_text = some ⟨oc11, od11, .func (PySem.W.fnOf "_law_text" "_law_text" (defArgs s_text) (defBody s_text) (defScope s_text) .none kV11 dc11 pm11 an11 cd11 ct11), sl11⟩)
    (c11 : PySem.W.codeIn K cd11 "_law_text" = true)
    (k11 : PySem.W.keepIn K (.ref f_text) = true)
    (a12 : PySem.W.nsIn K mainGlobals "_law_signs" = some (some (.ref f_signs)))
    (l12 : K.lookup f_signs = some ⟨oc12, od12, .func (PySem.W.fnOf "_law_signs" "_law_signs" (defArgs s_signs) (defBody s_signs) (defScope s_signs) .none kV12 dc12 pm12 an12 cd12 ct12), sl12⟩)
    (c12 : PySem.W.codeIn K cd12 "_law_signs" = true)
    (k12 : PySem.W.keepIn K (.ref f_signs) = true)
    (a13 : PySem.W.nsIn K mainGlobals "_law_moved" = some (some (.ref f_moved)))
    (l13 : K.lookup f_moved = some ⟨oc13, od13, .func (PySem.W.fnOf "_law_moved" "_law_moved" (defArgs s_moved) (defBody s_moved) (defScope s_moved) .none kV13 dc13 pm13 an13 cd13 ct13), sl13⟩)
    (c13 : PySem.W.codeIn K cd13 "_law_moved" = true)
    (k13 : PySem.W.keepIn K (.ref f_moved) = true)
    (a14 : PySem.W.nsIn K mainGlobals "_law_spoilt" = some (some (.ref f_spoilt)))
    (l14 : K.lookup f_spoilt = some ⟨oc14, od14, .func (PySem.W.fnOf "_law_spoilt" "_law_spoilt" (defArgs s_spoilt) (defBody s_spoilt) (defScope s_spoilt) .none kV14 dc14 pm14 an14 cd14 ct14), sl14⟩)
    (c14 : PySem.W.codeIn K cd14 "_law_spoilt" = true)
    (k14 : PySem.W.keepIn K (.ref f_spoilt) = true)
    (a15 : PySem.W.nsIn K mainGlobals "_law_all_of" = some (some (.ref f_lall_of)))
    (l15 : K.lookup f_lall_of = some ⟨oc15, od15, .func (PySem.W.fnOf "_law_all_of" "_law_all_of" (defArgs s_lall_of) (defBody s_lall_of) (defScope s_lall_of) .none kV15 dc15 pm15 an15 cd15 ct15), sl15⟩)
    (c15 : PySem.W.codeIn K cd15 "_law_all_of" = true)
    (k15 : PySem.W.keepIn K (.ref f_lall_of) = true)
    (a16 : PySem.W.nsIn K mainGlobals "_law_is_name" = some (some (.ref f_lis_name)))
    (l16 : K.lookup f_lis_name = some ⟨oc16, od16, .func (PySem.W.fnOf "_law_is_name" "_law_is_name" (defArgs s_lis_name) (defBody s_lis_name) (defScope s_lis_name) .none kV16 dc16 pm16 an16 cd16 ct16), sl16⟩)
    (c16 : PySem.W.codeIn K cd16 "_law_is_name" = true)
    (k16 : PySem.W.keepIn K (.ref f_lis_name) = true)
    (a17 : PySem.W.nsIn K mainGlobals "_law_is_number" = some (some (.ref f_is_number)))
    (l17 : K.lookup f_is_number = some ⟨oc17, od17, .func (PySem.W.fnOf "_law_is_number" "_law_is_number" (defArgs s_is_number) (defBody s_is_number) (defScope s_is_number) .none kV17 dc17 pm17 an17 cd17 ct17), sl17⟩)
    (c17 : PySem.W.codeIn K cd17 "_law_is_number" = true)
    (k17 : PySem.W.keepIn K (.ref f_is_number) = true)
    (a18 : PySem.W.nsIn K mainGlobals "_law_due" = some (some (.ref f_due)))
    (l18 : K.lookup f_due = some ⟨oc18, od18, .func (PySem.W.fnOf "_law_due" "_law_due" (defArgs s_due) (defBody s_due) (defScope s_due) .none kV18 dc18 pm18 an18 cd18 ct18), sl18⟩)
    (c18 : PySem.W.codeIn K cd18 "_law_due" = true)
    (k18 : PySem.W.keepIn K (.ref f_due) = true)
    (a19 : PySem.W.nsIn K mainGlobals "_law_told" = some (some (.ref f_told)))
    (l19 : K.lookup f_told = some ⟨oc19, od19, .func (PySem.W.fnOf "_law_told" "_law_told" (defArgs s_told) (defBody s_told) (defScope s_told) .none kV19 dc19 pm19 an19 cd19 ct19), sl19⟩)
    (c19 : PySem.W.codeIn K cd19 "_law_told" = true)
    (k19 : PySem.W.keepIn K (.ref f_told) = true)
    (a20 : PySem.W.nsIn K mainGlobals "law" = some (some (.ref f_law)))
    (l20 : K.lookup f_law = some ⟨oc20, od20, .func (PySem.W.fnOf "law" "law" (defArgs s_law) (defBody s_law) (defScope s_law) .none kV20 dc20 pm20 an20 cd20 ct20), sl20⟩)
    (c20 : PySem.W.codeIn K cd20 "law" = true)
    (k20 : PySem.W.keepIn K (.ref f_law) = true)
    (pg_Machine : PySem.W.plainGet K C_Machine Str.empty = true)
    (hd_Machine : PySem.W.hasDictIn K C_Machine = true)
    (po_Machine : PySem.W.plainOver K C_Machine = true)
    (sa_Machine : PySem.W.findIn K (.ref C_Machine) "__setattr__" = some (some (.builtin "object.__setattr__")))
    (mk_Machine : PySem.W.makesIn K C_Machine = true)
    (kc_Machine : PySem.W.keepIn K (.ref C_Machine) = true)
    (n_Machine_letters : PySem.W.findIn K (.ref C_Machine) "letters" = some none)
    (n_Machine_table : PySem.W.findIn K (.ref C_Machine) "table" = some none)
    (n_Machine_good : PySem.W.findIn K (.ref C_Machine) "good" = some none)
    (gl_LETTERS : PySem.W.nsIn K mainGlobals "LETTERS" = some (some (.str (Str.ofString "abcdefghijklmnopqrstuvwxyz") t_LETTERS)))
    (gl_FIGURES_words : PySem.W.nsIn K mainGlobals "FIGURES_words" = some (some (.str (Str.ofString "0123456789") t_FIGURES_words)))
    (gl_FIGURES_machinetext : PySem.W.nsIn K mainGlobals "FIGURES_machinetext" = some (some (.int (3) t_FIGURES_machinetext)))
    (z_len : PySem.W.nsIn K mainGlobals "len" = some none)
    (z_range : PySem.W.nsIn K mainGlobals "range" = some none)
    (z_sorted : PySem.W.nsIn K mainGlobals "sorted" = some none)
    (z_set : PySem.W.nsIn K mainGlobals "set" = some none)
    (z_tuple : PySem.W.nsIn K mainGlobals "tuple" = some none)
    (z_list : PySem.W.nsIn K mainGlobals "list" = some none)
    (z_isinstance : PySem.W.nsIn K mainGlobals "isinstance" = some none)
    (z_all : PySem.W.nsIn K mainGlobals "all" = some none)
    (z_int : PySem.W.nsIn K mainGlobals "int" = some none)
    (z_max : PySem.W.nsIn K mainGlobals "max" = some none)
    (z_min : PySem.W.nsIn K mainGlobals "min" = some none)
    (z_str : PySem.W.nsIn K mainGlobals "str" = some none)
    (z_enumerate : PySem.W.nsIn K mainGlobals "enumerate" = some none)
    (z_bool : PySem.W.nsIn K mainGlobals "bool" = some none)
    (z_zip : PySem.W.nsIn K mainGlobals "zip" = some none)
    (z_repr : PySem.W.nsIn K mainGlobals "repr" = some none)
    (aX_BadGood : PySem.W.nsIn K mainGlobals "BadGood" = some (some (.ref C_BadGood)))
    (sb_BadGood : PySem.W.subIn K (.ref C_BadGood) (.type "BaseException") = some true)
    (hx_BadGood : PySem.W.hasDictIn K C_BadGood = true)
    (tx_BadGood : PySem.W.typeIn K (.ref C_BadGood) = some (.type "type"))
    (ss_BadGood : PySem.W.subIn K (.ref C_BadGood) (.ref C_BadGood) = some true)
    (aX_BadStep : PySem.W.nsIn K mainGlobals "BadStep" = some (some (.ref C_BadStep)))
    (sb_BadStep : PySem.W.subIn K (.ref C_BadStep) (.type "BaseException") = some true)
    (hx_BadStep : PySem.W.hasDictIn K C_BadStep = true)
    (tx_BadStep : PySem.W.typeIn K (.ref C_BadStep) = some (.type "type"))
    (ss_BadStep : PySem.W.subIn K (.ref C_BadStep) (.ref C_BadStep) = some true)
    (aX_MeetError : PySem.W.nsIn K mainGlobals "MeetError" = some (some (.ref C_MeetError)))
    (sb_MeetError : PySem.W.subIn K (.ref C_MeetError) (.type "BaseException") = some true)
    (hx_MeetError : PySem.W.hasDictIn K C_MeetError = true)
    (tx_MeetError : PySem.W.typeIn K (.ref C_MeetError) = some (.type "type"))
    (ss_MeetError : PySem.W.subIn K (.ref C_MeetError) (.ref C_MeetError) = some true)
    (aX_NoText : PySem.W.nsIn K mainGlobals "NoText" = some (some (.ref C_NoText)))
    (sb_NoText : PySem.W.subIn K (.ref C_NoText) (.type "BaseException") = some true)
    (hx_NoText : PySem.W.hasDictIn K C_NoText = true)
    (tx_NoText : PySem.W.typeIn K (.ref C_NoText) = some (.type "type"))
    (ss_NoText : PySem.W.subIn K (.ref C_NoText) (.ref C_NoText) = some true)
    (aX_Twice : PySem.W.nsIn K mainGlobals "Twice" = some (some (.ref C_Twice)))
    (sb_Twice : PySem.W.subIn K (.ref C_Twice) (.type "BaseException") = some true)
    (hx_Twice : PySem.W.hasDictIn K C_Twice = true)
    (tx_Twice : PySem.W.typeIn K (.ref C_Twice) = some (.type "type"))
    (ss_Twice : PySem.W.subIn K (.ref C_Twice) (.ref C_Twice) = some true)
    (xL_BadGood : K.lookup C_BadGood = some (excClassObj nmX0 qX0 C_BadGood NX0 bsX0 [.ref C_MeetError, .type "ValueError", .type "Exception", .type "BaseException", .type "object"] true snX0 subX0 abX0 colX0 ddX0 m0X0 m1X0 m2X0 m3X0 m5X0 "ValueError.__new__"))
    (sx_BadGood : PySem.W.findIn K (.ref C_BadGood) "__setattr__" = some (some (.builtin "object.__setattr__")))
    (kx_BadGood : PySem.W.keepIn K (.ref C_BadGood) = true)
    (gx_BadGood : PySem.W.findIn K (.ref C_BadGood) "__getattribute__" = some (some (.builtin "BaseException.__getattribute__")))
    (gg_BadGood : PySem.W.findIn K (.ref C_BadGood) "__getattr__" = some none)
    (gc_BadGood : PySem.W.findIn K (.ref C_BadGood) "__class__" = some (some (.builtin "object.__class__")))
    (mo_BadGood : PySem.W.mroIn K C_BadGood (.type "object") = some true)
    (xL_BadStep : K.lookup C_BadStep = some (excClassObj nmX1 qX1 C_BadStep NX1 bsX1 [.ref C_MeetError, .type "ValueError", .type "Exception", .type "BaseException", .type "object"] true snX1 subX1 abX1 colX1 ddX1 m0X1 m1X1 m2X1 m3X1 m5X1 "ValueError.__new__"))
    (sx_BadStep : PySem.W.findIn K (.ref C_BadStep) "__setattr__" = some (some (.builtin "object.__setattr__")))
    (kx_BadStep : PySem.W.keepIn K (.ref C_BadStep) = true)
    (gx_BadStep : PySem.W.findIn K (.ref C_BadStep) "__getattribute__" = some (some (.builtin "BaseException.__getattribute__")))
    (gg_BadStep : PySem.W.findIn K (.ref C_BadStep) "__getattr__" = some none)
    (gc_BadStep : PySem.W.findIn K (.ref C_BadStep) "__class__" = some (some (.builtin "object.__class__")))
    (mo_BadStep : PySem.W.mroIn K C_BadStep (.type "object") = some true)
    (xL_NoText : K.lookup C_NoText = some (excClassObj nmX2 qX2 C_NoText NX2 bsX2 [.ref C_MeetError, .type "ValueError", .type "Exception", .type "BaseException", .type "object"] true snX2 subX2 abX2 colX2 ddX2 m0X2 m1X2 m2X2 m3X2 m5X2 "ValueError.__new__"))
    (sx_NoText : PySem.W.findIn K (.ref C_NoText) "__setattr__" = some (some (.builtin "object.__setattr__")))
    (kx_NoText : PySem.W.keepIn K (.ref C_NoText) = true)
    (gx_NoText : PySem.W.findIn K (.ref C_NoText) "__getattribute__" = some (some (.builtin "BaseException.__getattribute__")))
    (gg_NoText : PySem.W.findIn K (.ref C_NoText) "__getattr__" = some none)
    (gc_NoText : PySem.W.findIn K (.ref C_NoText) "__class__" = some (some (.builtin "object.__class__")))
    (mo_NoText : PySem.W.mroIn K C_NoText (.type "object") = some true)
    (xL_Twice : K.lookup C_Twice = some (excClassObj nmX3 qX3 C_Twice NX3 bsX3 [.ref C_MeetError, .type "ValueError", .type "Exception", .type "BaseException", .type "object"] true snX3 subX3 abX3 colX3 ddX3 m0X3 m1X3 m2X3 m3X3 m5X3 "ValueError.__new__"))
    (sx_Twice : PySem.W.findIn K (.ref C_Twice) "__setattr__" = some (some (.builtin "object.__setattr__")))
    (kx_Twice : PySem.W.keepIn K (.ref C_Twice) = true)
    (gx_Twice : PySem.W.findIn K (.ref C_Twice) "__getattribute__" = some (some (.builtin "BaseException.__getattribute__")))
    (gg_Twice : PySem.W.findIn K (.ref C_Twice) "__getattr__" = some none)
    (gc_Twice : PySem.W.findIn K (.ref C_Twice) "__class__" = some (some (.builtin "object.__class__")))
    (mo_Twice : PySem.W.mroIn K C_Twice (.type "object") = some true)
    (oc1 : PySem.W.specialIn K (.builtin "object.__class__") "__get__" = some (some (.builtin "getset_descriptor.__get__")))
    (oc2 : PySem.W.takesIn K (.builtin "object.__class__") = some true)
    (n_BadGood_state : PySem.W.findIn K (.ref C_BadGood) "state" = some none)
    (n_BadStep_letter : PySem.W.findIn K (.ref C_BadStep) "letter" = some none)
    (n_BadStep_state : PySem.W.findIn K (.ref C_BadStep) "state" = some none)
    (n_NoText_line : PySem.W.findIn K (.ref C_NoText) "line" = some none)
    (n_Twice_name : PySem.W.findIn K (.ref C_Twice) "name" = some none)
    (sp_BadGood_BadStep : PySem.W.subIn K (.ref C_BadGood) (.ref C_BadStep) = some false)
    (sp_BadGood_NoText : PySem.W.subIn K (.ref C_BadGood) (.ref C_NoText) = some false)
    (sp_BadGood_Twice : PySem.W.subIn K (.ref C_BadGood) (.ref C_Twice) = some false)
    (sp_BadStep_NoText : PySem.W.subIn K (.ref C_BadStep) (.ref C_NoText) = some false)
    (sp_BadStep_Twice : PySem.W.subIn K (.ref C_BadStep) (.ref C_Twice) = some false)
    (sp_Twice_NoText : PySem.W.subIn K (.ref C_Twice) (.ref C_NoText) = some false)
    (iX_BadGood : PySem.W.findIn K (.ref C_BadGood) "__init__" = some (some (.ref f_BadGood)))
    (tI_BadGood : PySem.W.typeIn K (.ref f_BadGood) = some (.type "function"))
    (lI_BadGood : K.lookup f_BadGood = some ⟨ocI0, odI0, .func (PySem.W.fnOf "__init__" "BadGood.__init__" (defArgs s_BadGood_init) (defBody s_BadGood_init) (defScope s_BadGood_init) .none kVI0 dcI0 pmI0 anI0 cdI0 ctI0), slI0⟩)
    (cI_BadGood : PySem.W.codeIn K cdI0 "BadGood.__init__" = true)
    (kI_BadGood : PySem.W.keepIn K (.ref f_BadGood) = true)
    (iX_BadStep : PySem.W.findIn K (.ref C_BadStep) "__init__" = some (some (.ref f_BadStep)))
    (tI_BadStep : PySem.W.typeIn K (.ref f_BadStep) = some (.type "function"))
    (lI_BadStep : K.lookup f_BadStep = some ⟨ocI1, odI1, .func (PySem.W.fnOf "__init__" "BadStep.__init__" (defArgs s_BadStep_init) (defBody s_BadStep_init) (defScope s_BadStep_init) .none kVI1 dcI1 pmI1 anI1 cdI1 ctI1), slI1⟩)
    (cI_BadStep : PySem.W.codeIn K cdI1 "BadStep.__init__" = true)
    (kI_BadStep : PySem.W.keepIn K (.ref f_BadStep) = true)
    (iX_NoText : PySem.W.findIn K (.ref C_NoText) "__init__" = some (some (.ref f_NoText)))
    (tI_NoText : PySem.W.typeIn K (.ref f_NoText) = some (.type "function"))
    (lI_NoText : K.lookup f_NoText = some ⟨ocI2, odI2, .func (PySem.W.fnOf "__init__" "NoText.__init__" (defArgs s_NoText_init) (defBody s_NoText_init) (defScope s_NoText_init) .none kVI2 dcI2 pmI2 anI2 cdI2 ctI2), slI2⟩)
    (cI_NoText : PySem.W.codeIn K cdI2 "NoText.__init__" = true)
    (kI_NoText : PySem.W.keepIn K (.ref f_NoText) = true)
    (iX_Twice : PySem.W.findIn K (.ref C_Twice) "__init__" = some (some (.ref f_Twice)))
    (tI_Twice : PySem.W.typeIn K (.ref f_Twice) = some (.type "function"))
    (lI_Twice : K.lookup f_Twice = some ⟨ocI3, odI3, .func (PySem.W.fnOf "__init__" "Twice.__init__" (defArgs s_Twice_init) (defBody s_Twice_init) (defScope s_Twice_init) .none kVI3 dcI3 pmI3 anI3 cdI3 ctI3), slI3⟩)
    (cI_Twice : PySem.W.codeIn K cdI3 "Twice.__init__" = true)
    (kI_Twice : PySem.W.keepIn K (.ref f_Twice) = true)
    (mo1 : PySem.W.specialIn K (.ref C_MeetError) "__getattribute__" = some (some (.builtin "type.__getattribute__")))
    (mo2 : PySem.W.readsIn K C_MeetError (.type "type") = true)
    (mo3 : PySem.W.findCls K (.ref C_MeetError) (.type "type") "__init__" = some (.val (.builtin "ValueError.__init__")))
    : ∃ fd : FuncData, (∀ (s : Shared) (v : Value), BindsTo s fd ⟨[v], []⟩ [("_law_script", v)]) ∧ ∀ base : Heap, K.In base → base.Ns mainGlobals mg → FnG l.prog w K mg base 7 fa fd ["_law_script"] (c_law K).sp := by
  have e := hfa.symm.trans (PySem.W.mg_of X G a20)
  cases e
  have F0 := fun_mk (st := s_cell) l0 c0 k0
  have b0 := F0.binds (ps := ["_law_script", "_law_k"]) fun _ _ _ _ _ _ us hl => match us, hl with | [_, _], _ => rfl
  have F1 := fun_mk (st := s_flow) l1 c1 k1
  have b1 := F1.binds (ps := ["_law_script", "_law_k"]) fun _ _ _ _ _ _ us hl => match us, hl with | [_, _], _ => rfl
  have F2 := fun_mk (st := s_draw) l2 c2 k2
  have b2 := F2.binds (ps := ["_law_flow_here", "_law_many"]) fun _ _ _ _ _ _ us hl => match us, hl with | [_, _], _ => rfl
  have F3 := fun_mk (st := s_names) l3 c3 k3
  have b3 := F3.binds (ps := ["_law_flow_here", "_law_many"]) fun _ _ _ _ _ _ us hl => match us, hl with | [_, _], _ => rfl
  have F4 := fun_mk (st := s_Machine_init) l4 c4 k4
  have b4 := F4.binds (ps := ["self", "letters", "table", "good"]) fun _ _ _ _ _ _ us hl => match us, hl with | [_, _, _, _], _ => rfl
  have F5 := fun_mk (st := s_all_of) l5 c5 k5
  have b5 := F5.binds (ps := ["text", "signs"]) fun _ _ _ _ _ _ us hl => match us, hl with | [_, _], _ => rfl
  have F6 := fun_mk (st := s_is_name) l6 c6 k6
  have b6 := F6.binds (ps := ["thing"]) fun _ _ _ _ _ _ us hl => match us, hl with | [_], _ => rfl
  have F7 := fun_mk (st := s_number_of) l7 c7 k7
  have b7 := F7.binds (ps := ["word", "most"]) fun _ _ _ _ _ _ us hl => match us, hl with | [_, _], _ => rfl
  have F8 := fun_mk (st := s_steps_in) l8 c8 k8
  have b8 := F8.binds (ps := ["line", "many"]) fun _ _ _ _ _ _ us hl => match us, hl with | [_, _], _ => rfl
  have F9 := fun_mk (st := s_read_machine) l9 c9 k9
  have b9 := F9.binds (ps := ["text"]) fun _ _ _ _ _ _ us hl => match us, hl with | [_], _ => rfl
  have F10 := fun_mk (st := s_machine) l10 c10 k10
  have b10 := F10.binds (ps := ["_law_flow_here", "_law_many", "_law_letters"]) fun _ _ _ _ _ _ us hl => match us, hl with | [_, _, _], _ => rfl
  have F11 := fun_mk (st := s_text) l11 c11 k11
  have b11 := F11.binds (ps := ["_law_letters", "_law_table", "_law_good"]) fun _ _ _ _ _ _ us hl => match us, hl with | [_, _, _], _ => rfl
  have F12 := fun_mk (st := s_signs) l12 c12 k12
  have b12 := F12.binds (ps := []) fun _ _ _ _ _ _ us hl => match us, hl with | [], _ => rfl
  have F13 := fun_mk (st := s_moved) l13 c13 k13
  have b13 := F13.binds (ps := ["_law_flow_here", "_law_some"]) fun _ _ _ _ _ _ us hl => match us, hl with | [_, _], _ => rfl
  have F14 := fun_mk (st := s_spoilt) l14 c14 k14
  have b14 := F14.binds (ps := ["_law_flow_here", "_law_text_here"]) fun _ _ _ _ _ _ us hl => match us, hl with | [_, _], _ => rfl
  have F15 := fun_mk (st := s_lall_of) l15 c15 k15
  have b15 := F15.binds (ps := ["_law_word", "_law_signs_here"]) fun _ _ _ _ _ _ us hl => match us, hl with | [_, _], _ => rfl
  have F16 := fun_mk (st := s_lis_name) l16 c16 k16
  have b16 := F16.binds (ps := ["_law_word"]) fun _ _ _ _ _ _ us hl => match us, hl with | [_], _ => rfl
  have F17 := fun_mk (st := s_is_number) l17 c17 k17
  have b17 := F17.binds (ps := ["_law_word"]) fun _ _ _ _ _ _ us hl => match us, hl with | [_], _ => rfl
  have F18 := fun_mk (st := s_due) l18 c18 k18
  have b18 := F18.binds (ps := ["_law_text_here"]) fun _ _ _ _ _ _ us hl => match us, hl with | [_], _ => rfl
  have F19 := fun_mk (st := s_told) l19 c19 k19
  have b19 := F19.binds (ps := ["_law_text_here"]) fun _ _ _ _ _ _ us hl => match us, hl with | [_], _ => rfl
  have F20 := fun_mk (st := s_law) l20 c20 k20
  have b20 := F20.binds (ps := ["_law_script"]) fun _ _ _ _ _ _ us hl => match us, hl with | [_], _ => rfl
  have bs : Bs mg := ⟨PySem.W.mg_none_of X G z_len, by decide +kernel, PySem.W.mg_none_of X G z_range, by decide +kernel, PySem.W.mg_none_of X G z_sorted, by decide +kernel, PySem.W.mg_none_of X G z_set, by decide +kernel, PySem.W.mg_none_of X G z_tuple, by decide +kernel, PySem.W.mg_none_of X G z_list, by decide +kernel, PySem.W.mg_none_of X G z_isinstance, by decide +kernel, PySem.W.mg_none_of X G z_all, by decide +kernel, PySem.W.mg_none_of X G z_int, by decide +kernel, PySem.W.mg_none_of X G z_max, by decide +kernel, PySem.W.mg_none_of X G z_min, by decide +kernel, PySem.W.mg_none_of X G z_str, by decide +kernel, PySem.W.mg_none_of X G z_enumerate, by decide +kernel, PySem.W.mg_none_of X G z_bool, by decide +kernel, PySem.W.mg_none_of X G z_zip, by decide +kernel, PySem.W.mg_none_of X G z_repr, by decide +kernel, ⟨t_LETTERS, PySem.W.mg_of X G gl_LETTERS⟩, ⟨t_FIGURES_words, PySem.W.mg_of X G gl_FIGURES_words⟩, ⟨t_FIGURES_machinetext, PySem.W.mg_of X G gl_FIGURES_machinetext⟩⟩
  have cl_Machine : Cl_Machine K C_Machine := ⟨⟨pg_Machine, hd_Machine, po_Machine, sa_Machine⟩, n_Machine_letters, n_Machine_table, n_Machine_good⟩
  have ox_BadGood : OexC K C_BadGood := { cls := ⟨_, _, _, _, _, _, _, _, _, _, _, _, _, _, _, xL_BadGood, rfl⟩, sa := sx_BadGood, exC := sb_BadGood, tyC := tx_BadGood, kC := kx_BadGood }
  have is_BadGood : ExcC K C_BadGood := { hg := gx_BadGood, hk := gg_BadGood, hs := sb_BadGood, hd := hx_BadGood, ha := gc_BadGood, hn := oc1, ht := oc2, hm := mo_BadGood }
  have ox_BadStep : OexC K C_BadStep := { cls := ⟨_, _, _, _, _, _, _, _, _, _, _, _, _, _, _, xL_BadStep, rfl⟩, sa := sx_BadStep, exC := sb_BadStep, tyC := tx_BadStep, kC := kx_BadStep }
  have is_BadStep : ExcC K C_BadStep := { hg := gx_BadStep, hk := gg_BadStep, hs := sb_BadStep, hd := hx_BadStep, ha := gc_BadStep, hn := oc1, ht := oc2, hm := mo_BadStep }
  have ox_NoText : OexC K C_NoText := { cls := ⟨_, _, _, _, _, _, _, _, _, _, _, _, _, _, _, xL_NoText, rfl⟩, sa := sx_NoText, exC := sb_NoText, tyC := tx_NoText, kC := kx_NoText }
  have is_NoText : ExcC K C_NoText := { hg := gx_NoText, hk := gg_NoText, hs := sb_NoText, hd := hx_NoText, ha := gc_NoText, hn := oc1, ht := oc2, hm := mo_NoText }
  have ox_Twice : OexC K C_Twice := { cls := ⟨_, _, _, _, _, _, _, _, _, _, _, _, _, _, _, xL_Twice, rfl⟩, sa := sx_Twice, exC := sb_Twice, tyC := tx_Twice, kC := kx_Twice }
  have is_Twice : ExcC K C_Twice := { hg := gx_Twice, hk := gg_Twice, hs := sb_Twice, hd := hx_Twice, ha := gc_Twice, hn := oc1, ht := oc2, hm := mo_Twice }
  have xs : Xs K mg ({ BadGood := C_BadGood, BadStep := C_BadStep, NoText := C_NoText, Twice := C_Twice } : XA) C_MeetError := ⟨⟨PySem.W.mg_of X G aX_Twice, ox_Twice, is_Twice⟩, ⟨PySem.W.mg_of X G aX_BadStep, ox_BadStep, is_BadStep⟩, ⟨PySem.W.mg_of X G aX_BadGood, ox_BadGood, is_BadGood⟩, ⟨PySem.W.mg_of X G aX_NoText, ox_NoText, is_NoText⟩, PySem.W.mg_of X G aX_MeetError, PySem.W.mg_of X G aX_BadGood, PySem.W.mg_of X G aX_BadStep, PySem.W.mg_of X G aX_Twice, PySem.W.mg_of X G aX_NoText, n_NoText_line, PySem.W.exm_ref sb_NoText hx_NoText tx_NoText ss_NoText, n_Twice_name, PySem.W.exm_ref sb_Twice hx_Twice tx_Twice ss_Twice, PySem.W.exm_ref sb_NoText hx_NoText tx_NoText sp_Twice_NoText, n_BadStep_state, n_BadStep_letter, PySem.W.exm_ref sb_BadStep hx_BadStep tx_BadStep ss_BadStep, PySem.W.exm_ref sb_Twice hx_Twice tx_Twice sp_BadStep_Twice, PySem.W.exm_ref sb_NoText hx_NoText tx_NoText sp_BadStep_NoText, n_BadGood_state, PySem.W.exm_ref sb_BadGood hx_BadGood tx_BadGood ss_BadGood, PySem.W.exm_ref sb_BadStep hx_BadStep tx_BadStep sp_BadGood_BadStep, PySem.W.exm_ref sb_Twice hx_Twice tx_Twice sp_BadGood_Twice, PySem.W.exm_ref sb_NoText hx_NoText tx_NoText sp_BadGood_NoText⟩
  have FI_BadGood := fun_mk (st := s_BadGood_init) lI_BadGood cI_BadGood kI_BadGood
  have bI_BadGood := FI_BadGood.binds (ps := ["self", "state"]) fun _ _ _ _ _ _ us hl => match us, hl with | [_, _], _ => rfl
  have FI_BadStep := fun_mk (st := s_BadStep_init) lI_BadStep cI_BadStep kI_BadStep
  have bI_BadStep := FI_BadStep.binds (ps := ["self", "state", "letter"]) fun _ _ _ _ _ _ us hl => match us, hl with | [_, _, _], _ => rfl
  have FI_NoText := fun_mk (st := s_NoText_init) lI_NoText cI_NoText kI_NoText
  have bI_NoText := FI_NoText.binds (ps := ["self", "line"]) fun _ _ _ _ _ _ us hl => match us, hl with | [_, _], _ => rfl
  have FI_Twice := fun_mk (st := s_Twice_init) lI_Twice cI_Twice kI_Twice
  have bI_Twice := FI_Twice.binds (ps := ["self", "name"]) fun _ _ _ _ _ _ us hl => match us, hl with | [_, _], _ => rfl
  refine ⟨PySem.W.fnOf "law" "law" (defArgs s_law) (defBody s_law) (defScope s_law) .none kV20 dc20 pm20 an20 cd20 ct20, fun s v => .of_eq rfl, fun base _ _ => ?_⟩
  have mot : MoT K mg "MeetError" C_MeetError := ⟨PySem.W.mg_of X G aX_MeetError, mo1, mo2, mo3⟩
  have xi_BadGood : XiT l.prog w K mg base C_BadGood 1 ["self", "state"] (spX1 C_BadGood "state") f_BadGood _ := ⟨iX_BadGood, tI_BadGood, ok_BadGood_init ox_BadGood mot n_BadGood_state FI_BadGood, bI_BadGood⟩
  have xi_BadStep : XiT l.prog w K mg base C_BadStep 1 ["self", "state", "letter"] (spX2 C_BadStep "state" "letter") f_BadStep _ := ⟨iX_BadStep, tI_BadStep, ok_BadStep_init ox_BadStep mot n_BadStep_state n_BadStep_letter FI_BadStep, bI_BadStep⟩
  have xi_NoText : XiT l.prog w K mg base C_NoText 1 ["self", "line"] (spX1 C_NoText "line") f_NoText _ := ⟨iX_NoText, tI_NoText, ok_NoText_init ox_NoText mot n_NoText_line FI_NoText, bI_NoText⟩
  have xi_Twice : XiT l.prog w K mg base C_Twice 1 ["self", "name"] (spX1 C_Twice "name") f_Twice _ := ⟨iX_Twice, tI_Twice, ok_Twice_init ox_Twice mot n_Twice_name FI_Twice, bI_Twice⟩
  have g_cell : Cal l.prog w K mg base "_law_cell" 1 ["_law_script", "_law_k"] (c_cell K).sp f_cell _ := ⟨ok_cell bs F0, PySem.W.mg_of X G a0, k0, b0⟩
  have g_flow : Cal l.prog w K mg base "_law_flow" 2 ["_law_script", "_law_k"] (c_flow K).sp f_flow _ := ⟨ok_flow bs g_cell F1, PySem.W.mg_of X G a1, k1, b1⟩
  have g_draw : Cal l.prog w K mg base "_law_draw" 1 ["_law_flow_here", "_law_many"] (c_draw K).sp f_draw _ := ⟨ok_draw bs F2, PySem.W.mg_of X G a2, k2, b2⟩
  have g_names : Cal l.prog w K mg base "_law_names" 2 ["_law_flow_here", "_law_many"] (c_names K).sp f_names _ := ⟨ok_names bs g_draw F3, PySem.W.mg_of X G a3, k3, b3⟩
  have g_Machine_init : MkC l.prog w K mg base C_Machine "Machine" 3 ["self", "letters", "table", "good"] (c_Machine_init K C_Machine ({ BadGood := C_BadGood, BadStep := C_BadStep, NoText := C_NoText, Twice := C_Twice } : XA)).spk f_Machine_init _ := ⟨ok_Machine_init bs (xa := ({ BadGood := C_BadGood, BadStep := C_BadStep, NoText := C_NoText, Twice := C_Twice } : XA)) xs xi_BadGood xi_BadStep xi_Twice cl_Machine F4, PySem.W.mg_of X G aC_Machine, ⟨mk_Machine, a4, i4, kc_Machine⟩, b4⟩
  have g_all_of : Cal l.prog w K mg base "all_of" 1 ["text", "signs"] (c_all_of K).sp f_all_of _ := ⟨ok_all_of bs F5, PySem.W.mg_of X G a5, k5, b5⟩
  have g_is_name : Cal l.prog w K mg base "is_name" 2 ["thing"] (c_is_name K).sp f_is_name _ := ⟨ok_is_name bs g_all_of F6, PySem.W.mg_of X G a6, k6, b6⟩
  have g_number_of : Cal l.prog w K mg base "number_of" 2 ["word", "most"] (c_number_of K).sp f_number_of _ := ⟨ok_number_of bs g_all_of F7, PySem.W.mg_of X G a7, k7, b7⟩
  have g_steps_in : Cal l.prog w K mg base "steps_in" 3 ["line", "many"] (c_steps_in K).sp f_steps_in _ := ⟨ok_steps_in bs g_number_of F8, PySem.W.mg_of X G a8, k8, b8⟩
  have g_read_machine : Cal l.prog w K mg base "read_machine" 5 ["text"] (c_read_machine K C_Machine ({ BadGood := C_BadGood, BadStep := C_BadStep, NoText := C_NoText, Twice := C_Twice } : XA)).sp f_read_machine _ := ⟨ok_read_machine bs (xa := ({ BadGood := C_BadGood, BadStep := C_BadStep, NoText := C_NoText, Twice := C_Twice } : XA)) xs xi_NoText cl_Machine g_Machine_init g_is_name g_steps_in F9, PySem.W.mg_of X G a9, k9, b9⟩
  have g_machine : Cal l.prog w K mg base "_law_machine" 2 ["_law_flow_here", "_law_many", "_law_letters"] (c_machine K).sp f_machine _ := ⟨ok_machine bs g_draw F10, PySem.W.mg_of X G a10, k10, b10⟩
  have g_text : Cal l.prog w K mg base "_law_text" 1 ["_law_letters", "_law_table", "_law_good"] (c_text K).sp f_text _ := ⟨ok_text bs F11, PySem.W.mg_of X G a11, k11, b11⟩
  have g_signs : Cal l.prog w K mg base "_law_signs" 1 [] (c_signs K).sp f_signs _ := ⟨ok_signs bs F12, PySem.W.mg_of X G a12, k12, b12⟩
  have g_moved : Cal l.prog w K mg base "_law_moved" 2 ["_law_flow_here", "_law_some"] (c_moved K).sp f_moved _ := ⟨ok_moved bs g_draw F13, PySem.W.mg_of X G a13, k13, b13⟩
  have g_spoilt : Cal l.prog w K mg base "_law_spoilt" 3 ["_law_flow_here", "_law_text_here"] (c_spoilt K).sp f_spoilt _ := ⟨ok_spoilt bs g_draw g_moved g_signs F14, PySem.W.mg_of X G a14, k14, b14⟩
  have g_lall_of : Cal l.prog w K mg base "_law_all_of" 1 ["_law_word", "_law_signs_here"] (c_lall_of K).sp f_lall_of _ := ⟨ok_lall_of bs F15, PySem.W.mg_of X G a15, k15, b15⟩
  have g_lis_name : Cal l.prog w K mg base "_law_is_name" 2 ["_law_word"] (c_lis_name K).sp f_lis_name _ := ⟨ok_lis_name bs g_lall_of F16, PySem.W.mg_of X G a16, k16, b16⟩
  have g_is_number : Cal l.prog w K mg base "_law_is_number" 2 ["_law_word"] (c_is_number K).sp f_is_number _ := ⟨ok_is_number bs g_lall_of F17, PySem.W.mg_of X G a17, k17, b17⟩
  have g_due : Cal l.prog w K mg base "_law_due" 3 ["_law_text_here"] (c_due K).sp f_due _ := ⟨ok_due bs g_lis_name g_is_number F18, PySem.W.mg_of X G a18, k18, b18⟩
  have g_told : Cal l.prog w K mg base "_law_told" 6 ["_law_text_here"] (c_told K).sp f_told _ := ⟨ok_told bs (xa := ({ BadGood := C_BadGood, BadStep := C_BadStep, NoText := C_NoText, Twice := C_Twice } : XA)) xs cl_Machine g_read_machine F19, PySem.W.mg_of X G a19, k19, b19⟩
  exact ok_law bs g_draw g_due g_flow g_machine g_names g_spoilt g_text g_told F20
theorem walk {l : PySem.W.OpenLaw} {q : Program} {loose : List Str} {XP : (Str → Option Value) → Heap → Prop} {YP : World → Heap → Prop} {d : DefRec} {K : Params → PySem.W.Frag} (hn : l.most = some 63) (hdf : d.params.defaults = [])
    (hY : ∀ (w : World) (h : Heap), YP w h → (K w.params).In h)
    (F : ∀ (w : World) (mg : Str → Option Value) (fa : Addr) (h : Heap), (K w.params).In h → h.Ns mainGlobals mg → mg d.name = some (.ref fa) →
      ∃ fd : FuncData, (∀ (s : Shared) (u : Value), BindsTo s fd ⟨[u], []⟩ [("_law_script", u)]) ∧ ∀ base : Heap, (K w.params).In base → base.Ns mainGlobals mg → FnG l.prog w (K w.params) mg base 7 fa fd ["_law_script"] (c_law (K w.params)).sp) :
    PySem.W.WalkO q loose XP YP l.row.toRowW d [] (fun f vs => PySem.call f vs) :=
  MD.walk_ofG (n := 63) (k := 7) (x := "_law_script") (sp := fun w => (c_law (K w.params)).sp) hn (by decide) hdf ⟨rfl, by decide, by decide⟩ hY F
    (fun w H a ns hl _ hS => law_sp hl hS) (fun w H s e s' z => by obtain ⟨_, _, _, _, _, _, _, _, _, _, _, _, h⟩ := z; exact h)
end K13
open PySem PySem.W PyProof.Rows in
set_option maxRecDepth 100000 in
set_option maxHeartbeats 0 in
theorem PySem.Challenge.cw_meetdesks_k13_texts_of_no_machine_holds : PySem.Challenge.rw_meetdesks_k13_texts_of_no_machine.Holds := by
  w_on; o_law; k_head; (case hw => w_witness2)
  k_fill
  refine K13.walk (l := PySem.Challenge.rw_meetdesks_k13_texts_of_no_machine) rfl rfl (fun w h Y => PySem.W.kIn_of Y) ?F
  case F =>
    intro w mg fa h KX G hmg
    refine' K13.all_mk KX G hmg ?aC_Machine ?a0 ?l0 ?c0 ?k0 ?a1 ?l1 ?c1 ?k1 ?a2 ?l2 ?c2 ?k2 ?a3 ?l3 ?c3 ?k3 ?a4 ?i4 ?l4 ?c4 ?k4 ?a5 ?l5 ?c5 ?k5 ?a6 ?l6 ?c6 ?k6 ?a7 ?l7 ?c7 ?k7 ?a8 ?l8 ?c8 ?k8 ?a9 ?l9 ?c9 ?k9 ?a10 ?l10 ?c10 ?k10 ?a11 ?l11 ?c11 ?k11 ?a12 ?l12 ?c12 ?k12 ?a13 ?l13 ?c13 ?k13 ?a14 ?l14 ?c14 ?k14 ?a15 ?l15 ?c15 ?k15 ?a16 ?l16 ?c16 ?k16 ?a17 ?l17 ?c17 ?k17 ?a18 ?l18 ?c18 ?k18 ?a19 ?l19 ?c19 ?k19 ?a20 ?l20 ?c20 ?k20 ?pg_Machine ?hd_Machine ?po_Machine ?sa_Machine ?mk_Machine ?kc_Machine ?n_Machine_letters ?n_Machine_table ?n_Machine_good ?gl_LETTERS ?gl_FIGURES_words ?gl_FIGURES_machinetext ?z_len ?z_range ?z_sorted ?z_set ?z_tuple ?z_list ?z_isinstance ?z_all ?z_int ?z_max ?z_min ?z_str ?z_enumerate ?z_bool ?z_zip ?z_repr ?aX_BadGood ?sb_BadGood ?hx_BadGood ?tx_BadGood ?ss_BadGood ?aX_BadStep ?sb_BadStep ?hx_BadStep ?tx_BadStep ?ss_BadStep ?aX_MeetError ?sb_MeetError ?hx_MeetError ?tx_MeetError ?ss_MeetError ?aX_NoText ?sb_NoText ?hx_NoText ?tx_NoText ?ss_NoText ?aX_Twice ?sb_Twice ?hx_Twice ?tx_Twice ?ss_Twice ?xL_BadGood ?sx_BadGood ?kx_BadGood ?gx_BadGood ?gg_BadGood ?gc_BadGood ?mo_BadGood ?xL_BadStep ?sx_BadStep ?kx_BadStep ?gx_BadStep ?gg_BadStep ?gc_BadStep ?mo_BadStep ?xL_NoText ?sx_NoText ?kx_NoText ?gx_NoText ?gg_NoText ?gc_NoText ?mo_NoText ?xL_Twice ?sx_Twice ?kx_Twice ?gx_Twice ?gg_Twice ?gc_Twice ?mo_Twice ?oc1 ?oc2 ?n_BadGood_state ?n_BadStep_letter ?n_BadStep_state ?n_NoText_line ?n_Twice_name ?sp_BadGood_BadStep ?sp_BadGood_NoText ?sp_BadGood_Twice ?sp_BadStep_NoText ?sp_BadStep_Twice ?sp_Twice_NoText ?iX_BadGood ?tI_BadGood ?lI_BadGood ?cI_BadGood ?kI_BadGood ?iX_BadStep ?tI_BadStep ?lI_BadStep ?cI_BadStep ?kI_BadStep ?iX_NoText ?tI_NoText ?lI_NoText ?cI_NoText ?kI_NoText ?iX_Twice ?tI_Twice ?lI_Twice ?cI_Twice ?kI_Twice ?mo1 ?mo2 ?mo3
    (case aC_Machine => k_is)
    (case a0 => k_is)
    (case l0 => k_is)
    (case c0 => k_is)
    (case k0 => k_is)
    (case a1 => k_is)
    (case l1 => k_is)
    (case c1 => k_is)
    (case k1 => k_is)
    (case a2 => k_is)
    (case l2 => k_is)
    (case c2 => k_is)
    (case k2 => k_is)
    (case a3 => k_is)
    (case l3 => k_is)
    (case c3 => k_is)
    (case k3 => k_is)
    (case a4 => k_is)
    (case i4 => k_is)
    (case l4 => k_is)
    (case c4 => k_is)
    (case k4 => k_is)
    (case a5 => k_is)
    (case l5 => k_is)
    (case c5 => k_is)
    (case k5 => k_is)
    (case a6 => k_is)
    (case l6 => k_is)
    (case c6 => k_is)
    (case k6 => k_is)
    (case a7 => k_is)
    (case l7 => k_is)
    (case c7 => k_is)
    (case k7 => k_is)
    (case a8 => k_is)
    (case l8 => k_is)
    (case c8 => k_is)
    (case k8 => k_is)
    (case a9 => k_is)
    (case l9 => k_is)
    (case c9 => k_is)
    (case k9 => k_is)
    (case a10 => k_is)
    (case l10 => k_is)
    (case c10 => k_is)
    (case k10 => k_is)
    (case a11 => k_is)
    (case l11 => k_is)
    (case c11 => k_is)
    (case k11 => k_is)
    (case a12 => k_is)
    (case l12 => k_is)
    (case c12 => k_is)
    (case k12 => k_is)
    (case a13 => k_is)
    (case l13 => k_is)
    (case c13 => k_is)
    (case k13 => k_is)
    (case a14 => k_is)
    (case l14 => k_is)
    (case c14 => k_is)
    (case k14 => k_is)
    (case a15 => k_is)
    (case l15 => k_is)
    (case c15 => k_is)
    (case k15 => k_is)
    (case a16 => k_is)
    (case l16 => k_is)
    (case c16 => k_is)
    (case k16 => k_is)
    (case a17 => k_is)
    (case l17 => k_is)
    (case c17 => k_is)
    (case k17 => k_is)
    (case a18 => k_is)
    (case l18 => k_is)
    (case c18 => k_is)
    (case k18 => k_is)
    (case a19 => k_is)
    (case l19 => k_is)
    (case c19 => k_is)
    (case k19 => k_is)
    (case a20 => k_is)
    (case l20 => k_is)
    (case c20 => k_is)
    (case k20 => k_is)
    (case pg_Machine => k_is)
    (case hd_Machine => k_is)
    (case po_Machine => k_is)
    (case sa_Machine => k_is)
    (case mk_Machine => k_is)
    (case kc_Machine => k_is)
    (case n_Machine_letters => k_is)
    (case n_Machine_table => k_is)
    (case n_Machine_good => k_is)
    (case gl_LETTERS => k_is)
    (case gl_FIGURES_words => k_is)
    (case gl_FIGURES_machinetext => k_is)
    (case z_len => k_is)
    (case z_range => k_is)
    (case z_sorted => k_is)
    (case z_set => k_is)
    (case z_tuple => k_is)
    (case z_list => k_is)
    (case z_isinstance => k_is)
    (case z_all => k_is)
    (case z_int => k_is)
    (case z_max => k_is)
    (case z_min => k_is)
    (case z_str => k_is)
    (case z_enumerate => k_is)
    (case z_bool => k_is)
    (case z_zip => k_is)
    (case z_repr => k_is)
    (case aX_BadGood => k_is)
    (case sb_BadGood => k_is)
    (case hx_BadGood => k_is)
    (case tx_BadGood => k_is)
    (case ss_BadGood => k_is)
    (case aX_BadStep => k_is)
    (case sb_BadStep => k_is)
    (case hx_BadStep => k_is)
    (case tx_BadStep => k_is)
    (case ss_BadStep => k_is)
    (case aX_MeetError => k_is)
    (case sb_MeetError => k_is)
    (case hx_MeetError => k_is)
    (case tx_MeetError => k_is)
    (case ss_MeetError => k_is)
    (case aX_NoText => k_is)
    (case sb_NoText => k_is)
    (case hx_NoText => k_is)
    (case tx_NoText => k_is)
    (case ss_NoText => k_is)
    (case aX_Twice => k_is)
    (case sb_Twice => k_is)
    (case hx_Twice => k_is)
    (case tx_Twice => k_is)
    (case ss_Twice => k_is)
    (case xL_BadGood => k_is)
    (case sx_BadGood => k_is)
    (case kx_BadGood => k_is)
    (case gx_BadGood => k_is)
    (case gg_BadGood => k_is)
    (case gc_BadGood => k_is)
    (case mo_BadGood => k_is)
    (case xL_BadStep => k_is)
    (case sx_BadStep => k_is)
    (case kx_BadStep => k_is)
    (case gx_BadStep => k_is)
    (case gg_BadStep => k_is)
    (case gc_BadStep => k_is)
    (case mo_BadStep => k_is)
    (case xL_NoText => k_is)
    (case sx_NoText => k_is)
    (case kx_NoText => k_is)
    (case gx_NoText => k_is)
    (case gg_NoText => k_is)
    (case gc_NoText => k_is)
    (case mo_NoText => k_is)
    (case xL_Twice => k_is)
    (case sx_Twice => k_is)
    (case kx_Twice => k_is)
    (case gx_Twice => k_is)
    (case gg_Twice => k_is)
    (case gc_Twice => k_is)
    (case mo_Twice => k_is)
    (case oc1 => k_is)
    (case oc2 => k_is)
    (case n_BadGood_state => k_is)
    (case n_BadStep_letter => k_is)
    (case n_BadStep_state => k_is)
    (case n_NoText_line => k_is)
    (case n_Twice_name => k_is)
    (case sp_BadGood_BadStep => k_is)
    (case sp_BadGood_NoText => k_is)
    (case sp_BadGood_Twice => k_is)
    (case sp_BadStep_NoText => k_is)
    (case sp_BadStep_Twice => k_is)
    (case sp_Twice_NoText => k_is)
    (case iX_BadGood => k_is)
    (case tI_BadGood => k_is)
    (case lI_BadGood => k_is)
    (case cI_BadGood => k_is)
    (case kI_BadGood => k_is)
    (case iX_BadStep => k_is)
    (case tI_BadStep => k_is)
    (case lI_BadStep => k_is)
    (case cI_BadStep => k_is)
    (case kI_BadStep => k_is)
    (case iX_NoText => k_is)
    (case tI_NoText => k_is)
    (case lI_NoText => k_is)
    (case cI_NoText => k_is)
    (case kI_NoText => k_is)
    (case iX_Twice => k_is)
    (case tI_Twice => k_is)
    (case lI_Twice => k_is)
    (case cI_Twice => k_is)
    (case kI_Twice => k_is)
    (case mo1 => k_is)
    (case mo2 => k_is)
    (case mo3 => k_is)
