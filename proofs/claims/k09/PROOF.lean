import PyProof.Rows.All
import Wide.All
import OpenK.AllK
import Wide.FinOn
import HandS.ForMost
import HandS.Exc
import HandS.ForSpec
import HandS.Zip
import HandS.Strs
import HandS.SetFor
import HandS.SortInts
import HandS.IsInst
import HandS.WordsDict
import HandS.TupAny
import KE.GoesEnum
import HandS.Text
import HandS.ExcInit
import HandS.ExcIs
import KE.KExcIs
import HandS.TryMany
import HandS.Style
import HandS.HotCalls
import HandS.TupLe
import PyProof.FitsReplace
import HandS.Ends
import PyProof.ReprRoads
import HandS.Conv
import HandS.More
import HandS.SortKw
import KE.DataMinMax
import HandS.NoneIn
import KE.GoesRaise
import HandS.DictEq
import HandS.DictTup
import KE.KDictCopyH
import HandS.EndTab
import HandS.HeadHook4
import KE.DataMinKey
import OpenK.KWalk
import KE.KNestM
import PyProof.Rows.StrInSeq3
import KE.GoesMore
import KE.KDictDisplayH
import KE.KDictZip
import PySem.Challenge.RW_meetdesks_k09_whole_the_first_row_that_p
set_option Elab.async false
set_option linter.all false
set_option maxRecDepth 100000
set_option maxHeartbeats 4000000
/-! MD: typed judgements over the hand layer: what is frozen is plain data, what is owned is a cell; a def's walk gives a condition in plain Lean. -/
namespace MD
open PySem PySem.Spec PyProof.Rows L2
/-! ### the weakest readings -/
section
variable (X : Cx)
def WE (e : Expr) : TE := fun σ H Q => ∀ pins s, Inv X pins σ H s → wpAny (model X.prog X.w) X.A (eval e X.env) (EP X pins σ Q) X.xe s
def WT (e : Expr) : TT := fun σ H Q => ∀ pins s, Inv X pins σ H s → wpAny (model X.prog X.w) X.A (isTrue e X.env (eval e X.env)) (TP X pins σ Q) X.xe s
def WW (e : Expr) : TT := fun σ H Q => ∀ (wh : Sem Value) pins s, Inv X pins σ H s → wpAny (model X.prog X.w) X.A (isTrue e X.env wh) (TP X pins σ Q) X.xe s
def WA (es : List Expr) : TA := fun σ H Q => ∀ (pos : Pos) pins s, Inv X pins σ H s → wpAny (model X.prog X.w) X.A (spliced (backTo pos (starEach es X.env))) (AP X pins σ Q) X.xe s
def WS (st : Stmt) : TS := fun D σ H => ∀ pins s, Inv X pins σ H s → wpAny (model X.prog X.w) X.A (exec st X.env) (SP X pins D) X.xe s
def WB (st : List Stmt) : TS := fun D σ H => ∀ pins s, Inv X pins σ H s → wpAny (model X.prog X.w) X.A (execs st X.env) (SP X pins D) X.xe s
def WG (tg : Expr) : TG := fun v σ H Q => ∀ pins s u, Inv X pins σ H s → RelV v u → wpAny (model X.prog X.w) X.A (assign tg X.env u) (fun _ s' => ∃ σ' H', Inv X pins σ' H' s' ∧ Q σ' H') X.xe s
def WGs (tgs : List Expr) : TGs := fun vs σ H Q => ∀ pins s us, Inv X pins σ H s → Vals vs us →
    wpAny (model X.prog X.w) X.A (assignInOrder ((assignEach tgs X.env).map (·.2)) us) (fun _ s' => ∃ σ' H', Inv X pins σ' H' s' ∧ Q σ' H') X.xe s
def WI (tg iter : Expr) : TI := fun σ H R => ∀ pins s, Inv X pins σ H s → wpAny (model X.prog X.w) X.A (eval iter X.env) (fun v s1 => wpAny (model X.prog X.w) X.A (pyIter v) (PIE X pins σ tg R) X.xe s1) X.xe s
def WTs (ifs : List Expr) : TT := fun σ H Q => ∀ pins s, Inv X pins σ H s →
    wpAny (model X.prog X.w) X.A (forIn ifs true fun c r => if r = true then do let ok ← isTrue c X.env (eval c X.env); pure (ForInStep.yield ok) else pure (ForInStep.yield r)) (TP X pins σ Q) X.xe s
end
section
variable {X : Cx}
theorem pe_w {e : Expr} : PE X e (WE X e) := ⟨fun pins s _ _ _ I h => h pins s I⟩
theorem pt_w {e : Expr} : PT X e (WT X e) := ⟨fun pins s _ _ _ I h => h pins s I⟩
theorem pw_w {e : Expr} : PW X e (WW X e) := ⟨fun wh pins s _ _ _ I h => h wh pins s I⟩
theorem pa_w {es : List Expr} : PA X es (WA X es) := ⟨fun pos pins s _ _ _ I h => h pos pins s I⟩
theorem ps_w {st : Stmt} : PS X st (WS X st) := ⟨fun pins s _ _ _ I h => h pins s I⟩
theorem pss_w {st : List Stmt} : PSs X st (WB X st) := ⟨fun pins s _ _ _ I h => h pins s I⟩
theorem pg_w {tg : Expr} : PG X tg (WG X tg) := ⟨fun pins s _ _ _ u _ I r h => h pins s u I r⟩
theorem pgs_w {tgs : List Expr} : PGs X tgs (WGs X tgs) := ⟨fun pins s _ _ _ us _ I r h => h pins s us I r⟩
theorem pi_w {tg iter : Expr} : PI X tg iter (WI X tg iter) := ⟨fun pins s _ _ _ I h => h pins s I⟩
theorem we {e : Expr} {t : TE} (h : PE X e t) {σ H Q} (q : t σ H Q) : WE X e σ H Q := fun pins s I => h.run pins s σ H Q I q
theorem wt {e : Expr} {t : TT} (h : PT X e t) {σ H Q} (q : t σ H Q) : WT X e σ H Q := fun pins s I => h.run pins s σ H Q I q
theorem ww {e : Expr} {t : TT} (h : PW X e t) {σ H Q} (q : t σ H Q) : WW X e σ H Q := fun wh pins s I => h.run wh pins s σ H Q I q
theorem wa {es : List Expr} {t : TA} (h : PA X es t) {σ H Q} (q : t σ H Q) : WA X es σ H Q := fun pos pins s I => h.run pos pins s σ H Q I q
theorem ws {st : Stmt} {t : TS} (h : PS X st t) {D σ H} (q : t D σ H) : WS X st D σ H := fun pins s I => h.run pins s σ H D I q
theorem wb {st : List Stmt} {t : TS} (h : PSs X st t) {D σ H} (q : t D σ H) : WB X st D σ H := fun pins s I => h.run pins s σ H D I q
theorem wg {tg : Expr} {t : TG} (h : PG X tg t) {v σ H Q} (q : t v σ H Q) : WG X tg v σ H Q := fun pins s u I r => h.run pins s σ H v u Q I r q
theorem wgs {tgs : List Expr} {t : TGs} (h : PGs X tgs t) {vs σ H Q} (q : t vs σ H Q) : WGs X tgs vs σ H Q := fun pins s us I r => h.run pins s σ H vs us Q I r q
theorem wi {tg iter : Expr} {t : TI} (h : PI X tg iter t) {σ H R} (q : t σ H R) : WI X tg iter σ H R := fun pins s I => h.run pins s σ H R I q
theorem wts {ifs : List Expr} {t : TT} (h : PTs X ifs t) {σ H Q} (q : t σ H Q) : WTs X ifs σ H Q := fun pins s I => h.run pins s σ H Q I q
end
/-! ### types -/
structure Ty (K : PySem.W.Frag) (α : Type) where
  rep : Hp → V → α → Prop
  mono : ∀ {F F' : Hp} {v : V} {x : α}, Same F F' → rep F v x → rep F' v x
/-- several values in a row -/
structure Tys (K : PySem.W.Frag) (α : Type) where
  rep : Hp → List V → α → Prop
  mono : ∀ {F F' : Hp} {v : List V} {x : α}, Same F F' → rep F v x → rep F' v x
theorem same_rd {H H' : Hp} {a : Addr} {u : HO} (e : Same H H') (h : Rd H a u) : Rd H' a u := by
  rcases h with h | ⟨o, h⟩
  · exact .inl (e a _ h)
  · exact .inr ⟨o, e a _ h⟩
theorem paired_mono {α β : Type} {f g : α → β → Prop} (h : ∀ a b, f a b → g a b) : ∀ {xs : List α} {ys : List β}, Paired f xs ys → Paired g xs ys
  | _, _, .nil => .nil
  | _, _, .cons r t => .cons (h _ _ r) (paired_mono h t)
section
variable {K : PySem.W.Frag} {α β γ : Type}
def tI : Ty K Int := ⟨fun _ v x => v = .int x, fun _ h => h⟩
def tB : Ty K Bool := ⟨fun _ v x => v = .bl x, fun _ h => h⟩
def tS : Ty K Str := ⟨fun _ v x => v = .str x ∧ PySem.PyData.strOk x = true, fun _ h => h⟩
def tN : Ty K Unit := ⟨fun _ v _ => v = .non, fun _ h => h⟩
def tR : Ty K Addr := ⟨fun _ v x => v = .ref x, fun _ h => h⟩
def tO (T : Ty K α) : Ty K (Option α) := ⟨fun F v x => match x with | none => v = .non | some y => T.rep F v y, fun {F F' v x} e h => by
  cases x with
  | none => exact h
  | some y => exact T.mono e h⟩
def Rl (T : Ty K α) (F : Hp) : List V → List α → Prop := Paired (T.rep F)
theorem Rl.mono {T : Ty K α} {F F' : Hp} {vs : List V} {xs : List α} (e : Same F F') (h : Rl T F vs xs) : Rl T F' vs xs := paired_mono (fun _ _ r => T.mono e r) h
def tL (T : Ty K α) : Ty K (List α) := ⟨fun F v xs => ∃ a vs, v = .ref a ∧ F a = some (.lst vs) ∧ Rl T F vs xs ∧ vs.length ≤ sizeLine, fun e ⟨a, vs, h1, h2, h3, h4⟩ => ⟨a, vs, h1, e _ _ h2, h3.mono e, h4⟩⟩
/-- a list that may be the module's own, or the script -/
def tLK (T : Ty K α) : Ty K (List α) := ⟨fun F v xs => ∃ a vs, v = .ref a ∧ SqL K F a vs ∧ Rl T F vs xs ∧ vs.length ≤ sizeLine, fun e ⟨a, vs, h1, h2, h3, h4⟩ => ⟨a, vs, h1, e.seq h2, h3.mono e, h4⟩⟩
def tU (T : Ty K α) : Ty K (List α) := ⟨fun F v xs => ∃ a vs, v = .ref a ∧ Rd F a (.tup vs) ∧ Rl T F vs xs ∧ vs.length ≤ sizeLine, fun e ⟨a, vs, h1, h2, h3, h4⟩ => ⟨a, vs, h1, same_rd e h2, h3.mono e, h4⟩⟩
def ts0 : Tys K Unit := ⟨fun _ vs _ => vs = [], fun _ h => h⟩
def ts1 (T : Ty K α) : Tys K α := ⟨fun F vs x => ∃ v, vs = [v] ∧ T.rep F v x, fun e ⟨v, h, r⟩ => ⟨v, h, T.mono e r⟩⟩
def tsC (T : Ty K α) (Ts : Tys K β) : Tys K (α × β) := ⟨fun F vs x => ∃ v r, vs = v :: r ∧ T.rep F v x.1 ∧ Ts.rep F r x.2, fun e ⟨v, r, h, a, b⟩ => ⟨v, r, h, T.mono e a, Ts.mono e b⟩⟩
/-- a tuple of written places -/
def tT (Ts : Tys K α) : Ty K α := ⟨fun F v x => ∃ a vs, v = .ref a ∧ F a = some (.tup vs) ∧ Ts.rep F vs x, fun e ⟨a, vs, h1, h2, h3⟩ => ⟨a, vs, h1, e _ _ h2, Ts.mono e h3⟩⟩
def tP (T : Ty K α) (U : Ty K β) : Ty K (α × β) := tT (tsC T (ts1 U))
end
/-! ### slots, cells -/
inductive Slot (K : PySem.W.Frag) : Type 1 where
  | un
  | val {α : Type} (T : Ty K α) (x : α)
def Slot.ok {K : PySem.W.Frag} (F : Hp) : Slot K → Option V → Prop
  | .un, _ => True
  | .val T x, o => ∃ v, o = some v ∧ T.rep F v x
theorem Slot.ok.mono {K : PySem.W.Frag} {F F' : Hp} (e : Same F F') : ∀ {s : Slot K} {o : Option V}, Slot.ok F s o → Slot.ok F' s o
  | .un, _, _ => trivial
  | .val T _, _, ⟨v, h, r⟩ => ⟨v, h, T.mono e r⟩
/-- what lies in a cell -/
structure CK (K : PySem.W.Frag) where
  rep : Hp → HO → Prop
  mono : ∀ {F F' : Hp} {o : HO}, Same F F' → rep F o → rep F' o
structure Cell (K : PySem.W.Frag) where
  a : Addr
  ck : CK K
def cL {K : PySem.W.Frag} {α : Type} (T : Ty K α) (xs : List α) : CK K := ⟨fun F o => ∃ vs, o = .lst vs ∧ Rl T F vs xs ∧ vs.length ≤ sizeLine, fun e ⟨vs, h, r, z⟩ => ⟨vs, h, r.mono e, z⟩⟩
/-- paired lists over any universe -/
inductive Prd {α : Type 1} {β : Type} (R : α → β → Prop) : List α → List β → Prop
  | nil : Prd R [] []
  | cons {a : α} {b : β} {as : List α} {bs : List β} : R a b → Prd R as bs → Prd R (a :: as) (b :: bs)
section
variable {α : Type 1} {β : Type} {R S : α → β → Prop}
theorem Prd.mono (h : ∀ a b, R a b → S a b) : ∀ {xs : List α} {ys : List β}, Prd R xs ys → Prd S xs ys
  | _, _, .nil => .nil
  | _, _, .cons r t => .cons (h _ _ r) (Prd.mono h t)
theorem Prd.get : ∀ {xs : List α} {ys : List β} {i : Nat} {x : α}, Prd R xs ys → xs[i]? = some x → ∃ y, ys[i]? = some y ∧ R x y
  | _, _, _, _, .nil, e => by simp at e
  | _, _, 0, _, .cons r _, e => by simp at e; subst e; exact ⟨_, rfl, r⟩
  | _, _, i + 1, x, .cons _ t, e => by
    obtain ⟨u, h1, h2⟩ := Prd.get (i := i) (x := x) t (by simpa using e)
    exact ⟨u, by simpa using h1, h2⟩
theorem Prd.set {x : α} {u : β} (r : R x u) : ∀ {xs : List α} {ys : List β} (i : Nat), Prd R xs ys → Prd R (xs.set i x) (ys.set i u)
  | _, _, _, .nil => .nil
  | _, _, 0, .cons _ t => .cons r t
  | _, _, i + 1, .cons q t => .cons q (Prd.set r i t)
theorem Prd.length : ∀ {xs : List α} {ys : List β}, Prd R xs ys → xs.length = ys.length
  | _, _, .nil => rfl
  | _, _, .cons _ t => by rw [List.length_cons, List.length_cons, t.length]
end
/-- a growth: F grows by new things, H keeps all -/
structure Grow (F H F' H' : Hp) : Prop where
  ff : Same F F'
  fh : Same F' H'
  hh : Same H H'
  fr : ∀ b, F b = none → F' b ≠ none → H b = none
section
variable {F F' H H' : Hp}
theorem Grow.refl (h : Same F H) : Grow F H F H := ⟨Same.refl F, h, Same.refl H, fun b h1 h2 => absurd h1 h2⟩
theorem Grow.trans {F1 H1 F2 H2 : Hp} (a : Grow F H F1 H1) (b : Grow F1 H1 F2 H2) : Grow F H F2 H2 where
  ff := a.ff.trans b.ff
  fh := b.fh
  hh := a.hh.trans b.hh
  fr := fun x h1 h2 => by
    by_cases h : F1 x = none
    · exact a.hh.free (b.fr x h h2)
    · exact a.fr x h1 h
/-- a new frozen thing -/
theorem grow_new (h : Same F H) {p : Addr} (hp : H p = none) (o : HO) : Grow F H (upd F p o) (upd H p o) where
  ff := fun b u e => by
    have : b ≠ p := fun z => by subst z; rw [h _ _ e] at hp; cases hp
    rw [upd_ne this]; exact e
  fh := fun b u e => by
    by_cases z : b = p
    · subst z; rw [upd_same] at e ⊢; exact e
    · rw [upd_ne z] at e ⊢; exact h _ _ e
  hh := fun b u e => by
    have : b ≠ p := fun z => by subst z; rw [e] at hp; cases hp
    rw [upd_ne this]; exact e
  fr := fun b n1 n2 => by
    by_cases z : b = p
    · subst z; exact hp
    · rw [upd_ne z] at n2; exact absurd n1 n2
end
/-- the weaker state that reading asks -/
structure Okw {K : PySem.W.Frag} (ρ : List (Slot K)) (cs : List (Cell K)) (F : Hp) (σ : L2.St) (H : Hp) : Prop where
  env : Prd (Slot.ok F) ρ σ
  same : Same F H
  cell : ∀ c ∈ cs, ∃ o, H c.a = some o ∧ c.ck.rep F o
section
variable {K : PySem.W.Frag} {ρ : List (Slot K)} {cs : List (Cell K)} {F F' H H' : Hp} {σ : L2.St}
theorem Okw.grow (o : Okw ρ cs F σ H) (g : Grow F H F' H') : Okw ρ cs F' σ H' :=
  ⟨o.env.mono fun _ _ r => r.mono g.ff, g.fh, fun c hc => let ⟨u, e, r⟩ := o.cell c hc; ⟨u, g.hh _ _ e, c.ck.mono g.ff r⟩⟩
theorem Okw.slot {α : Type} {T : Ty K α} {x : α} {i : Nat} (o : Okw ρ cs F σ H) (h : ρ[i]? = some (.val T x)) : ∃ v, σ[i]? = some (some v) ∧ T.rep F v x := by
  obtain ⟨u, h1, v, h2, r⟩ := o.env.get h
  subst h2
  exact ⟨v, h1, r⟩
end
/-! ### the judgements -/
section
/-- e gives x, if P; nothing that stands is changed -/
def PK (X : Cx) (e : Expr) (ρ : List (Slot X.K)) (cs : List (Cell X.K)) {α : Type} (T : Ty X.K α) (x : α) (P : Prop) : Prop :=
  ∀ F σ H, Okw ρ cs F σ H → P → ∀ Q : VK, (∀ v F' H', Grow F H F' H' → T.rep F' v x → Q v H') → WE X e σ H Q
def PAK (X : Cx) (es : List Expr) (ρ : List (Slot X.K)) (cs : List (Cell X.K)) {α : Type} (T : Tys X.K α) (x : α) (P : Prop) : Prop :=
  ∀ F σ H, Okw ρ cs F σ H → P → ∀ Q : List V → Hp → Prop, (∀ v F' H', Grow F H F' H' → T.rep F' v x → Q v H') → WA X es σ H Q
def PTK (X : Cx) (e : Expr) (ρ : List (Slot X.K)) (cs : List (Cell X.K)) (b : Bool) (P : Prop) : Prop :=
  ∀ F σ H, Okw ρ cs F σ H → P → ∀ Q : Bool → Hp → Prop, (∀ F' H', Grow F H F' H' → Q b H') → WT X e σ H Q
def PWK (X : Cx) (e : Expr) (ρ : List (Slot X.K)) (cs : List (Cell X.K)) (b : Bool) (P : Prop) : Prop :=
  ∀ F σ H, Okw ρ cs F σ H → P → ∀ Q : Bool → Hp → Prop, (∀ F' H', Grow F H F' H' → Q b H') → WW X e σ H Q
/-- an exception: its class, its fields -/
structure Exn (K : PySem.W.Frag) : Type 1 where
  c : Addr
  fs : List (Str × Slot K)
inductive FldOk {K : PySem.W.Frag} (F : Hp) : List (Str × Slot K) → List (Str × V) → Prop
  | nil : FldOk F [] []
  | cons {n : Str} {s : Slot K} {v : V} {as bs} : Slot.ok F s (some v) → FldOk F as bs → FldOk F ((n, s) :: as) ((n, v) :: bs)
def ExnRep {K : PySem.W.Frag} (F : Hp) (ex : Exn K) (cls : Value) (d : Option Addr) : Prop :=
  cls = .ref ex.c ∧ ((ex.fs = [] ∧ d = none) ∨ ∃ dd fs, d = some dd ∧ F dd = some (.xd fs) ∧ FldOk F ex.fs fs)
/-- what is wished of exceptions: ε of it, the cells kp as they were -/
structure Ec (K : PySem.W.Frag) : Type 1 where
  kp : List (Cell K)
  ε : Exn K → Prop
/-- the state that an expression asks -/
structure Okc {K : PySem.W.Frag} (ρ : List (Slot K)) (cs : List (Cell K)) (F : Hp) (σ : L2.St) (H : Hp) : Prop where
  env : Prd (Slot.ok F) ρ σ
  same : Same F H
  cell : ∀ c ∈ cs, F c.a = none ∧ ∃ o, H c.a = some o ∧ c.ck.rep F o
  nd : (cs.map Cell.a).Nodup
/-- from a state to another one: the cells cs alone have changed, and are cs' now, with new ones -/
structure Mv {K : PySem.W.Frag} (cs : List (Cell K)) (F H : Hp) (cs' : List (Cell K)) (F' H' : Hp) : Prop where
  ff : Same F F'
  fh : Same F' H'
  fr : ∀ b, F b = none → F' b ≠ none → H b = none
  kp : ∀ b o, H b = some o → (∀ c ∈ cs, c.a ≠ b) → H' b = some o
  cell : ∀ c ∈ cs', F' c.a = none ∧ ∃ o, H' c.a = some o ∧ c.ck.rep F' o
  nd : (cs'.map Cell.a).Nodup
  nw : ∀ c ∈ cs', (∃ c0 ∈ cs, c0.a = c.a) ∨ H c.a = none
  st : ∀ c ∈ cs, H' c.a ≠ none
section
variable {K : PySem.W.Frag} {ρ : List (Slot K)} {cs cs1 cs2 : List (Cell K)} {F F' F1 F2 H H' H1 H2 : Hp} {σ : L2.St}
theorem Okc.w (o : Okc ρ cs F σ H) : Okw ρ cs F σ H := ⟨o.env, o.same, fun c hc => (o.cell c hc).2⟩
theorem Okc.slot {α : Type} {T : Ty K α} {x : α} {i : Nat} (o : Okc ρ cs F σ H) (h : ρ[i]? = some (.val T x)) : ∃ v, σ[i]? = some (some v) ∧ T.rep F v x := o.w.slot h
theorem Okc.mv (o : Okc ρ cs F σ H) (m : Mv cs F H cs' F' H') : Okc ρ cs' F' σ H' := ⟨o.env.mono fun _ _ r => r.mono m.ff, m.fh, m.cell, m.nd⟩
theorem Okc.grow (o : Okc ρ cs F σ H) (g : Grow F H F' H') : Mv cs F H cs F' H' where
  ff := g.ff
  fh := g.fh
  fr := g.fr
  kp := fun b u e _ => g.hh b u e
  cell := fun c hc => by
    obtain ⟨n, u, e, r⟩ := o.cell c hc
    refine ⟨?_, u, g.hh _ _ e, c.ck.mono g.ff r⟩
    cases q : F' c.a with
    | none => rfl
    | some w =>
      have := g.fr c.a n (by rw [q]; simp)
      rw [e] at this; cases this
  nd := o.nd
  nw := fun c hc => .inl ⟨c, hc, rfl⟩
  st := fun c hc n => by
    obtain ⟨_, u, e, _⟩ := o.cell c hc
    rw [g.hh _ _ e] at n; cases n
theorem Okc.refl (o : Okc ρ cs F σ H) : Mv cs F H cs F H := o.grow (Grow.refl o.same)
theorem Mv.trans (a : Mv cs F H cs1 F1 H1) (b : Mv cs1 F1 H1 cs2 F2 H2) : Mv cs F H cs2 F2 H2 where
  ff := a.ff.trans b.ff
  fh := b.fh
  fr := fun x h1 h2 => by
    by_cases h : F1 x = none
    · have n1 := b.fr x h h2
      cases q : H x with
      | none => rfl
      | some o =>
        by_cases m : ∃ c ∈ cs, c.a = x
        · obtain ⟨c, hc, rfl⟩ := m
          exact absurd n1 (a.st c hc)
        · rw [a.kp x o q fun c hc e => m ⟨c, hc, e⟩] at n1; cases n1
    · exact a.fr x h1 h
  kp := fun x o e n => by
    have e1 := a.kp x o e n
    refine b.kp x o e1 fun c hc z => ?_
    rcases a.nw c hc with ⟨c0, h0, e0⟩ | h0
    · exact n c0 h0 (e0.trans z)
    · rw [z, e] at h0; cases h0
  cell := b.cell
  nd := b.nd
  nw := fun c hc => by
    rcases b.nw c hc with ⟨c0, h0, e0⟩ | h0
    · rcases a.nw c0 h0 with ⟨c1, h1, e1⟩ | h1
      · exact .inl ⟨c1, h1, e1.trans e0⟩
      · rw [e0] at h1; exact .inr h1
    · refine .inr ?_
      cases q : H c.a with
      | none => rfl
      | some o =>
        by_cases m : ∃ c1 ∈ cs, c1.a = c.a
        · obtain ⟨c1, hc1, e⟩ := m
          have := a.st c1 hc1
          rw [e] at this
          exact absurd h0 this
        · rw [a.kp c.a o q fun c1 hc1 e => m ⟨c1, hc1, e⟩] at h0; cases h0
  st := fun c hc n => by
    by_cases m : ∃ c1 ∈ cs1, c1.a = c.a
    · obtain ⟨c1, h1, e⟩ := m
      have := b.st c1 h1
      rw [e] at this
      exact this n
    · cases q : H1 c.a with
      | none => exact a.st c hc q
      | some o => rw [b.kp c.a o q fun c1 h1 e => m ⟨c1, h1, e⟩] at n; cases n
end
/-- where a def began -/
structure Hb (K : PySem.W.Frag) where
  F0 : Hp
  H0 : Hp
  cin : List (Cell K)
/-- the state of a def's body: names by slots, cells, and how it came from the beginning -/
structure Ok {K : PySem.W.Frag} (B : Hb K) (fl : Hp) (ρ : List (Slot K)) (cs : List (Cell K)) (F : Hp) (σ : L2.St) (H : Hp) : Prop where
  env : Prd (Slot.ok F) ρ σ
  mv : Mv B.cin B.F0 B.H0 cs F H
  flo : Same fl F
section
variable {K : PySem.W.Frag} {B : Hb K} {ρ : List (Slot K)} {cs cs1 cs2 : List (Cell K)} {F F' F1 F2 H H' H1 H2 : Hp} {σ : L2.St}
theorem Ok.c {fl : Hp} (o : Ok B fl ρ cs F σ H) : Okc ρ cs F σ H := ⟨o.env, o.mv.fh, o.mv.cell, o.mv.nd⟩
theorem Ok.to {fl : Hp} (o : Ok B fl ρ cs F σ H) (m : Mv cs F H cs1 F1 H1) : Ok B fl ρ cs1 F1 σ H1 := ⟨o.env.mono fun _ _ r => r.mono m.ff, o.mv.trans m, o.flo.trans m.ff⟩
theorem Ok.set {fl : Hp} {α : Type} {T : Ty K α} {x : α} {v : V} (i : Nat) (o : Ok B fl ρ cs F σ H) (r : T.rep F v x) : Ok B fl (ρ.set i (.val T x)) cs F (σ.set i (some v)) H := ⟨o.env.set (R := Slot.ok F) (x := .val T x) (u := some v) ⟨v, rfl, r⟩ i, o.mv, o.flo⟩
theorem Ok.low {fl fl' : Hp} (o : Ok B fl' ρ cs F σ H) (h : Same fl fl') : Ok B fl ρ cs F σ H := ⟨o.env, o.mv, h.trans o.flo⟩
theorem Okc.set {α : Type} {T : Ty K α} {x : α} {v : V} (i : Nat) (o : Okc ρ cs F σ H) (r : T.rep F v x) : Okc (ρ.set i (.val T x)) cs F (σ.set i (some v)) H := ⟨o.env.set (R := Slot.ok F) (x := .val T x) (u := some v) ⟨v, rfl, r⟩ i, o.same, o.cell, o.nd⟩
end
/-- what an expression's exceptions meet -/
def Xh (X : Cx) (Y : Ec X.K) (cs : List (Cell X.K)) (F : Hp) (σ : L2.St) (H : Hp) : Prop :=
  ∃ W, Takes X W ∧ ∀ ex cls d cs2 F' H', Mv cs F H cs2 F' H' → (∀ c ∈ Y.kp, c ∈ cs2) → ExnRep F' ex cls d → Y.ε ex → W cls d σ H'
theorem Xh.mv {X : Cx} {Y : Ec X.K} {cs cs1 : List (Cell X.K)} {F F1 H H1 : Hp} {σ : L2.St} (x : Xh X Y cs F σ H) (m : Mv cs F H cs1 F1 H1) : Xh X Y cs1 F1 σ H1 := by
  obtain ⟨W, tk, h⟩ := x
  exact ⟨W, tk, fun ex cls d cs2 F' H' m2 kp r e => h ex cls d cs2 F' H' (m.trans m2) kp r e⟩
/-- e gives vl y of the type T, y being what the condition M hands on; the cells behind it are cs' y -/
def EK (X : Cx) (Y : Ec X.K) (e : Expr) (ρ : List (Slot X.K)) (cs : List (Cell X.K)) {μ α : Type} (T : Ty X.K α) (vl : μ → α) (cs' : μ → List (Cell X.K)) (M : (μ → Prop) → Prop) : Prop :=
  ∀ F σ H, Okc ρ cs F σ H → Xh X Y cs F σ H → ∀ φ : μ → Prop, M φ → ∀ Q : VK, (∀ y v F' H', Mv cs F H (cs' y) F' H' → T.rep F' v (vl y) → φ y → Q v H') → WE X e σ H Q
def AK (X : Cx) (Y : Ec X.K) (es : List Expr) (ρ : List (Slot X.K)) (cs : List (Cell X.K)) {μ α : Type} (T : Tys X.K α) (vl : μ → α) (cs' : μ → List (Cell X.K)) (M : (μ → Prop) → Prop) : Prop :=
  ∀ F σ H, Okc ρ cs F σ H → Xh X Y cs F σ H → ∀ φ : μ → Prop, M φ → ∀ Q : List V → Hp → Prop, (∀ y v F' H', Mv cs F H (cs' y) F' H' → T.rep F' v (vl y) → φ y → Q v H') → WA X es σ H Q
def TK (X : Cx) (Y : Ec X.K) (e : Expr) (ρ : List (Slot X.K)) (cs : List (Cell X.K)) {μ : Type} (vl : μ → Bool) (cs' : μ → List (Cell X.K)) (M : (μ → Prop) → Prop) : Prop :=
  ∀ F σ H, Okc ρ cs F σ H → Xh X Y cs F σ H → ∀ φ : μ → Prop, M φ → ∀ Q : Bool → Hp → Prop, (∀ y F' H', Mv cs F H (cs' y) F' H' → φ y → Q (vl y) H') → WT X e σ H Q
/-- a block, from a state of that form, if φ -/
def SK (X : Cx) (B : Hb X.K) (Y : Ec X.K) (fl : Hp) (st : List Stmt) (ρ : List (Slot X.K)) (cs : List (Cell X.K)) (D : Ends) (φ : Prop) : Prop :=
  ∀ F σ H, Ok B fl ρ cs F σ H → φ → ∀ W, Takes X W → (∀ ex cls d cs2 F' H' σ', Mv B.cin B.F0 B.H0 cs2 F' H' → (∀ c ∈ Y.kp, c ∈ cs2) → ExnRep F' ex cls d → Y.ε ex → W cls d σ' H') → WB X st D σ H
end
end MD
namespace MD
open PySem PySem.Spec PyProof.Rows L2
section
variable {X : Cx} {Y : Ec X.K} {ρ : List (Slot X.K)} {cs : List (Cell X.K)} {α β γ : Type} {pos : Pos}
/-! ### names, constants -/
theorem pk_var {i : Nat} {nm : Str} {T : Ty X.K α} {x : α} (hρ : ρ[i]? = some (.val T x)) (hN : X.N[i]? = some nm := by rfl) (hv : Vis X.env.scope nm := by first | exact Or.inl rfl | exact Or.inr (Or.inl rfl) | exact Or.inr (Or.inr rfl))
    (hd : (nm == ("__debug__" : Str)) = false := by decide) (hcd : (nm == ("__classdict__" : Str)) = false := by decide) : PK X (.Name nm pos) ρ cs T x True := fun F σ H ok _ Q k => by
  obtain ⟨v, e, r⟩ := ok.slot hρ
  exact we (pe_var hN hv hd hcd) ⟨v, e, k v F H (Grow.refl ok.same) r⟩
theorem pk_int {i : Int} {j} : PK X (.Constant (.int i) j pos) ρ cs tI i True := fun F σ H ok _ Q k => we pe_int (k _ F H (Grow.refl ok.same) rfl)
theorem pk_bl {b : Bool} {j} : PK X (.Constant (.bool b) j pos) ρ cs tB b True := fun F σ H ok _ Q k => we pe_bl (k _ F H (Grow.refl ok.same) rfl)
theorem pk_str {s : Str} {j} (hs : PySem.PyData.strOk s = true := by decide +kernel) : PK X (.Constant (.str s) j pos) ρ cs tS s True := fun F σ H ok _ Q k => we pe_str (k _ F H (Grow.refl ok.same) ⟨rfl, hs⟩)
theorem pk_nonO {T : Ty X.K α} {j} : PK X (.Constant .none j pos) ρ cs (tO T) none True := fun F σ H ok _ Q k => we pe_non (k _ F H (Grow.refl ok.same) rfl)
/-! ### between the judgements -/
theorem PK.to {e : Expr} {T : Ty X.K α} {x x' : α} {P P' : Prop} (h : PK X e ρ cs T x P) (hx : x = x') (hp : P' → P) : PK X e ρ cs T x' P' := by
  subst hx
  exact fun F σ H ok p Q k => h F σ H ok (hp p) Q k
theorem PK.some {e : Expr} {T : Ty X.K α} {x : α} {P : Prop} (h : PK X e ρ cs T x P) : PK X e ρ cs (tO T) (some x) P := fun F σ H ok p Q k => h F σ H ok p Q k
theorem PK.ek {e : Expr} {T : Ty X.K α} {x : α} {P : Prop} (h : PK X e ρ cs T x P) : EK X Y e ρ cs T (fun _ : Unit => x) (fun _ => cs) (fun φ => P ∧ φ ()) := fun F σ H ok _ φ m Q k =>
  h F σ H ok.w m.1 Q fun v F' H' g r => k () v F' H' (ok.grow g) r m.2
theorem PAK.ak {es : List Expr} {T : Tys X.K α} {x : α} {P : Prop} (h : PAK X es ρ cs T x P) : AK X Y es ρ cs T (fun _ : Unit => x) (fun _ => cs) (fun φ => P ∧ φ ()) := fun F σ H ok _ φ m Q k =>
  h F σ H ok.w m.1 Q fun v F' H' g r => k () v F' H' (ok.grow g) r m.2
theorem PTK.tk {e : Expr} {b : Bool} {P : Prop} (h : PTK X e ρ cs b P) : TK X Y e ρ cs (fun _ : Unit => b) (fun _ => cs) (fun φ => P ∧ φ ()) := fun F σ H ok _ φ m Q k =>
  h F σ H ok.w m.1 Q fun F' H' g => k () F' H' (ok.grow g) m.2
/-! ### operators -/
def R2K {K : PySem.W.Frag} (r : R2) (T1 : Ty K α) (T2 : Ty K β) (T3 : Ty K γ) (C : α → β → Prop) (f : α → β → γ) : Prop :=
  ∀ F H v w x y, Same F H → T1.rep F v x → T2.rep F w y → C x y → ∀ Q : VK, (∀ z F' H', Grow F H F' H' → T3.rep F' z (f x y) → Q z H') → r v w H Q
def yes2 : α → β → Prop := fun _ _ => True
section
variable {K : PySem.W.Frag}
theorem r2_I {C : Int → Int → Prop} {g : Int → Int → Int} : R2K (K := K) (rI C fun i j => .int (g i j)) tI tI tI C g := fun F H v w x y s h1 h2 c Q k => ⟨x, y, h1, h2, c, k _ F H (Grow.refl s) rfl⟩
theorem r2_I0 {g : Int → Int → Int} : R2K (K := K) (rI0 fun i j => .int (g i j)) tI tI tI yes2 g := fun F H v w x y s h1 h2 c Q k => ⟨x, y, h1, h2, k _ F H (Grow.refl s) rfl⟩
theorem r2_B0 {g : Int → Int → Bool} : R2K (K := K) (rI0 fun i j => .bl (g i j)) tI tI tB yes2 g := fun F H v w x y s h1 h2 c Q k => ⟨x, y, h1, h2, k _ F H (Grow.refl s) rfl⟩
theorem r2_eqI : R2K (K := K) rEq tI tI tB yes2 (fun i j => decide (i = j)) := fun F H v w x y s h1 h2 c Q k => by
  cases h1; cases h2
  refine ⟨rfl, k _ F H (Grow.refl s) ?_⟩
  show V.bl _ = V.bl _
  rw [dec_int, Bool.beq_eq_decide_eq]
theorem dec_strD {i j : Str} : decide (V.str i = V.str j) = decide (i = j) := by
  by_cases h : i = j
  · subst h; simp
  · rw [decide_eq_false h, decide_eq_false fun q => h (V.str.inj q)]
theorem dec_blD {i j : Bool} : decide (V.bl i = V.bl j) = decide (i = j) := by
  by_cases h : i = j
  · subst h; simp
  · rw [decide_eq_false h, decide_eq_false fun q => h (V.bl.inj q)]
theorem r2_neB : R2K (K := K) rNe tB tB tB yes2 (fun i j => !decide (i = j)) := fun F H v w x y s h1 h2 c Q k => by
  cases h1; cases h2
  refine ⟨rfl, k _ F H (Grow.refl s) ?_⟩
  show V.bl _ = V.bl _
  rw [dec_blD]
theorem strOk_app {a b : Str} (ha : PySem.PyData.strOk a = true) (hb : PySem.PyData.strOk b = true) : PySem.PyData.strOk (a ++ b) = true := by
  unfold PySem.PyData.strOk at *
  show (a.cps ++ b.cps).all _ = true
  rw [Array.all_append, ha, hb]
  rfl
theorem r2_addS : R2K (K := K) (fun x y H Q => ∃ i j, x = .str i ∧ y = .str j ∧ i.length + j.length ≤ sizeLine ∧ Q (.str (i ++ j)) H) tS tS tS (fun i j => i.length + j.length ≤ sizeLine) (· ++ ·) :=
  fun F H v w x y s h1 h2 c Q k => ⟨x, y, h1.1, h2.1, c, k _ F H (Grow.refl s) ⟨rfl, strOk_app h1.2 h2.2⟩⟩
end
theorem pk_op {op : Operator} {a b : Expr} {r : R2} {T1 : Ty X.K α} {T2 : Ty X.K β} {T3 : Ty X.K γ} {C : α → β → Prop} {f : α → β → γ} {x : α} {y : β} {P1 P2 : Prop} (ho : OpR X (binaryOp op) r) (hr : R2K r T1 T2 T3 C f)
    (ha : PK X a ρ cs T1 x P1) (hb : PK X b ρ cs T2 y P2) : PK X (.BinOp a op b pos) ρ cs T3 (f x y) (P1 ∧ P2 ∧ C x y) := fun F σ H ok p Q k => by
  refine we (pe_op ho pe_w pe_w) ?_
  refine ha F σ H ok p.1 _ fun v F1 H1 g1 r1 => ?_
  refine hb F1 σ H1 (ok.grow g1) p.2.1 _ fun w F2 H2 g2 r2 => ?_
  exact hr F2 H2 v w x y g2.fh (T1.mono g2.ff r1) r2 p.2.2 Q fun z F3 H3 g3 r3 => k z F3 H3 ((g1.trans g2).trans g3) r3
theorem pk_cmp {op : CmpOp} {a b : Expr} {r : R2} {T1 : Ty X.K α} {T2 : Ty X.K β} {T3 : Ty X.K γ} {C : α → β → Prop} {f : α → β → γ} {x : α} {y : β} {P1 P2 : Prop} (ho : OpR X (compareOp op) r) (hr : R2K r T1 T2 T3 C f)
    (ha : PK X a ρ cs T1 x P1) (hb : PK X b ρ cs T2 y P2) (hm : behindInMarks op b = false := by first | exact nomark _ | rfl) : PK X (.Compare a [op] [b] pos) ρ cs T3 (f x y) (P1 ∧ P2 ∧ C x y) := fun F σ H ok p Q k => by
  refine we (pe_cmpR ho pe_w pe_w hm) ?_
  refine ha F σ H ok p.1 _ fun v F1 H1 g1 r1 => ?_
  refine hb F1 σ H1 (ok.grow g1) p.2.1 _ fun w F2 H2 g2 r2 => ?_
  exact hr F2 H2 v w x y g2.fh (T1.mono g2.ff r1) r2 p.2.2 Q fun z F3 H3 g3 r3 => k z F3 H3 ((g1.trans g2).trans g3) r3
theorem pt_cmp' {op : CmpOp} {a b : Expr} {r : R2} {T1 : Ty X.K α} {T2 : Ty X.K β} {C : α → β → Prop} {f : α → β → Bool} {x : α} {y : β} {P1 P2 : Prop} (ho : OpR X (compareOp op) r) (hr : R2K r T1 T2 tB C f)
    (ha : PK X a ρ cs T1 x P1) (hb : PK X b ρ cs T2 y P2) (hm : behindInMarks op b = false := by first | exact nomark _ | rfl) : PTK X (.Compare a [op] [b] pos) ρ cs (f x y) (P1 ∧ P2 ∧ C x y) := fun F σ H ok p Q k => by
  refine wt (pt_cmpR ho pe_w pe_w hm) ?_
  refine ha F σ H ok p.1 _ fun v F1 H1 g1 r1 => ?_
  refine hb F1 σ H1 (ok.grow g1) p.2.1 _ fun w F2 H2 g2 r2 => ?_
  exact hr F2 H2 v w x y g2.fh (T1.mono g2.ff r1) r2 p.2.2 _ fun z F3 H3 g3 r3 => ⟨_, r3, k F3 H3 ((g1.trans g2).trans g3)⟩
theorem pk_neg {a : Expr} {x : Int} {P : Prop} (ha : PK X a ρ cs tI x P) : PK X (.UnaryOp .USub a pos) ρ cs tI (-x) P := fun F σ H ok p Q k => by
  refine we (pe_un un_neg pe_w) ?_
  exact ha F σ H ok p _ fun v F1 H1 g1 r1 => ⟨x, r1, k _ F1 H1 g1 rfl⟩
/-! ### tests -/
theorem pt_val' {e : Expr} {b : Bool} {P : Prop} (h : PK X e ρ cs tB b P) (he : ∀ whole, isTrue e X.env whole = (do let v ← whole; standAt e.pos; holding [v] (truthy v)) := by intro _; rfl) : PTK X e ρ cs b P := fun F σ H ok p Q k => by
  refine wt (pt_val pe_w he) ?_
  exact h F σ H ok p _ fun v F1 H1 g1 r1 => ⟨b, r1, k F1 H1 g1⟩
theorem pw_and1' {a : Expr} {b : Bool} {P : Prop} (h : PTK X a ρ cs b P) : PWK X (.BoolOp .And [a] pos) ρ cs b P := fun F σ H ok p Q k => ww (pw_and1 pt_w) (h F σ H ok p Q k)
theorem pw_or1' {a : Expr} {b : Bool} {P : Prop} (h : PTK X a ρ cs b P) : PWK X (.BoolOp .Or [a] pos) ρ cs b P := fun F σ H ok p Q k => ww (pw_or1 pt_w) (h F σ H ok p Q k)
theorem pw_and' {a b : Expr} {rest : List Expr} {x y : Bool} {P1 P2 : Prop} (ha : PTK X a ρ cs x P1) (hb : PWK X (.BoolOp .And (b :: rest) pos) ρ cs y P2) : PWK X (.BoolOp .And (a :: b :: rest) pos) ρ cs (x && y) (P1 ∧ (x = true → P2)) := fun F σ H ok p Q k => by
  refine ww (pw_and pt_w pw_w) ?_
  refine ha F σ H ok p.1 _ fun F1 H1 g1 => ?_
  cases x with
  | true => exact (if_pos rfl).mpr (hb F1 σ H1 (ok.grow g1) (p.2 rfl) Q fun F2 H2 g2 => k F2 H2 (g1.trans g2))
  | false => exact (if_neg Bool.false_ne_true).mpr (k F1 H1 g1)
theorem pw_or' {a b : Expr} {rest : List Expr} {x y : Bool} {P1 P2 : Prop} (ha : PTK X a ρ cs x P1) (hb : PWK X (.BoolOp .Or (b :: rest) pos) ρ cs y P2) : PWK X (.BoolOp .Or (a :: b :: rest) pos) ρ cs (x || y) (P1 ∧ (x = false → P2)) := fun F σ H ok p Q k => by
  refine ww (pw_or pt_w pw_w) ?_
  refine ha F σ H ok p.1 _ fun F1 H1 g1 => ?_
  cases x with
  | false => exact (if_neg Bool.false_ne_true).mpr (hb F1 σ H1 (ok.grow g1) (p.2 rfl) Q fun F2 H2 g2 => k F2 H2 (g1.trans g2))
  | true => exact (if_pos rfl).mpr (k F1 H1 g1)
theorem PWK.pt {e : Expr} {b : Bool} {P : Prop} (h : PWK X e ρ cs b P) : PTK X e ρ cs b P := fun F σ H ok p Q k => wt pw_w.pt (h F σ H ok p Q k)
/-! ### as values -/
/-! ### argument lists, displays -/
theorem pa_1 {e : Expr} {T : Ty X.K α} {x : α} {P : Prop} (h : PK X e ρ cs T x P) (hs : starEach (e :: []) X.env = (false, eval e X.env) :: starEach [] X.env := by rfl) : PAK X [e] ρ cs (ts1 T) x P := fun F σ H ok p Q k => by
  refine wa (pa_cons pe_w pa_nil hs) ?_
  exact h F σ H ok p _ fun v F1 H1 g1 r1 => k [v] F1 H1 g1 ⟨v, rfl, r1⟩
theorem pa_C {e : Expr} {es : List Expr} {T : Ty X.K α} {Ts : Tys X.K β} {x : α} {y : β} {P1 P2 : Prop} (h : PK X e ρ cs T x P1) (hr : PAK X es ρ cs Ts y P2) (hs : starEach (e :: es) X.env = (false, eval e X.env) :: starEach es X.env := by rfl) :
    PAK X (e :: es) ρ cs (tsC T Ts) (x, y) (P1 ∧ P2) := fun F σ H ok p Q k => by
  refine wa (pa_cons pe_w pa_w hs) ?_
  refine h F σ H ok p.1 _ fun v F1 H1 g1 r1 => ?_
  exact hr F1 σ H1 (ok.grow g1) p.2 _ fun w F2 H2 g2 r2 => k (v :: w) F2 H2 (g1.trans g2) ⟨v, w, rfl, T.mono g2.ff r1, r2⟩
/-- of one type, as a list -/
def tsL {K : PySem.W.Frag} (T : Ty K α) : Tys K (List α) := ⟨fun F vs xs => Rl T F vs xs, fun e h => h.mono e⟩
theorem pl_0 {T : Ty X.K α} : PAK X [] ρ cs (tsL T) [] True := fun F σ H ok _ Q k => wa pa_nil (k [] F H (Grow.refl ok.same) .nil)
theorem pl_C {e : Expr} {es : List Expr} {T : Ty X.K α} {x : α} {y : List α} {P1 P2 : Prop} (h : PK X e ρ cs T x P1) (hr : PAK X es ρ cs (tsL T) y P2) (hs : starEach (e :: es) X.env = (false, eval e X.env) :: starEach es X.env := by rfl) :
    PAK X (e :: es) ρ cs (tsL T) (x :: y) (P1 ∧ P2) := fun F σ H ok p Q k => by
  refine wa (pa_cons pe_w pa_w hs) ?_
  refine h F σ H ok p.1 _ fun v F1 H1 g1 r1 => ?_
  exact hr F1 σ H1 (ok.grow g1) p.2 _ fun w F2 H2 g2 r2 => k (v :: w) F2 H2 (g1.trans g2) (.cons (T.mono g2.ff r1) r2)
theorem Rl.length {K : PySem.W.Frag} {T : Ty K α} {F : Hp} {vs : List V} {xs : List α} (h : Rl T F vs xs) : vs.length = xs.length := Paired.length h
theorem pk_tup {es : List Expr} {x1} {Ts : Tys X.K α} {x : α} {P : Prop} (h : PAK X es ρ cs Ts x P) (hl : ∀ F vs, Ts.rep F vs x → vs.length ≤ 1000) : PK X (.Tuple es x1 pos) ρ cs (tT Ts) x P := fun F σ H ok p Q k => by
  refine we (pe_tup pa_w) ?_
  refine h F σ H ok p _ fun vs F1 H1 g1 r1 => ⟨Nat.le_trans (hl F1 vs r1) (by decide), fun q hq => ?_⟩
  have g2 := grow_new g1.fh hq (.tup vs)
  exact k _ _ _ (g1.trans g2) ⟨q, vs, rfl, upd_same, Ts.mono g2.ff r1⟩
theorem pk_tupU {es : List Expr} {x1} {T : Ty X.K α} {x : List α} {P : Prop} (h : PAK X es ρ cs (tsL T) x P) (hl : x.length ≤ 1000) : PK X (.Tuple es x1 pos) ρ cs (tU T) x P := fun F σ H ok p Q k => by
  refine we (pe_tup pa_w) ?_
  refine h F σ H ok p _ fun vs F1 H1 g1 r1 => ?_
  have hz : vs.length ≤ sizeLine := Nat.le_trans (by rw [Rl.length r1]; exact hl) (by decide)
  refine ⟨hz, fun q hq => ?_⟩
  have g2 := grow_new g1.fh hq (.tup vs)
  exact k _ _ _ (g1.trans g2) ⟨q, vs, rfl, .inl upd_same, Rl.mono g2.ff r1, hz⟩
theorem len1 {K : PySem.W.Frag} {T : Ty K α} {n : Nat} : ∀ F vs (x : α), (ts1 T).rep F vs x → vs.length ≤ n + 1 := fun F vs x ⟨v, e, _⟩ => by subst e; exact Nat.succ_le_succ (Nat.zero_le n)
theorem lenC {K : PySem.W.Frag} {T : Ty K α} {Ts : Tys K β} {n : Nat} (h : ∀ F vs (x : β), Ts.rep F vs x → vs.length ≤ n) : ∀ F vs (x : α × β), (tsC T Ts).rep F vs x → vs.length ≤ n + 1 := fun F vs x ⟨v, r, e, _, q⟩ => by subst e; exact Nat.succ_le_succ (h F r x.2 q)
/-! ### built-in functions -/
def RCK {K : PySem.W.Frag} (r : List V → Hp → VK → Prop) (Ts : Tys K α) (T3 : Ty K γ) (C : α → Prop) (f : α → γ) : Prop :=
  ∀ F H vs x, Same F H → Ts.rep F vs x → C x → ∀ Q : VK, (∀ z F' H', Grow F H F' H' → T3.rep F' z (f x) → Q z H') → r vs H Q
def yes1 : α → Prop := fun _ => True
theorem pk_cb {nm : Str} {p : Pos} {e : Expr} {es : List Expr} {id : String} {r : List V → Hp → VK → Prop} {Ts : Tys X.K α} {T3 : Ty X.K γ} {C : α → Prop} {f : α → γ} {x : α} {P : Prop} (hc : CallR X (.builtin id) r) (hm : X.mg nm = none) (hv : bootBuiltins nm = some (.builtin id)) (hr : RCK r Ts T3 C f)
    (ha : PAK X (e :: es) ρ cs Ts x P) (hg : Gl X nm := by rfl) (hn : nm ≠ "__name__" := by decide) (hdb : (nm == ("__debug__" : Str)) = false := by decide)
    (he : starEach (e :: es) X.env = (false, eval e X.env) :: starEach es X.env := by rfl) (hpl : (backTo pos (starEach es X.env)).any (·.1) = false := by rfl) : PK X (.Call (.Name nm p) (e :: es) [] pos) ρ cs T3 (f x) (P ∧ C x) := fun F σ H ok q Q k => by
  refine we (pe_callB hc hg hm hv pa_w hn hdb he hpl) ?_
  refine ha F σ H ok q.1 _ fun vs F1 H1 g1 r1 => ?_
  exact hr F1 H1 vs x g1.fh r1 q.2 Q fun z F2 H2 g2 r2 => k z F2 H2 (g1.trans g2) r2
section
variable {K : PySem.W.Frag}
def rLenQ (K : PySem.W.Frag) : List V → Hp → VK → Prop := fun xs H Q => ∃ p ys, xs = [.ref p] ∧ (SqL K H p ys ∨ SqT K H p ys) ∧ Q (.int ys.length) H
end
theorem cr_lenQ : CallR X (.builtin "len") (rLenQ X.K) := call_len_seq
/-! ### items -/
def pyIx [Inhabited α] (xs : List α) (i : Int) : α := (atI xs i).getD default
def IxOk (xs : List α) (i : Int) : Prop := -(xs.length : Int) ≤ i ∧ i < xs.length
theorem rl_atI {K : PySem.W.Frag} [Inhabited α] {T : Ty K α} {F : Hp} {vs : List V} {xs : List α} {i : Int} (h : Rl T F vs xs) (hi : IxOk xs i) : ∃ v, atI vs i = some v ∧ T.rep F v (pyIx xs i) := by
  have hl := Rl.length h
  unfold pyIx atI
  rw [hl]
  obtain ⟨h1, h2⟩ := hi
  have get : ∀ {ws : List V} {ys : List α} {j : Nat}, Rl T F ws ys → j < ys.length → ∃ v, ws[j]? = some v ∧ T.rep F v ((ys[j]?).getD default) := by
    intro ws ys j hh
    induction hh generalizing j with
    | nil => intro hj; exact absurd hj (Nat.not_lt_zero _)
    | cons r t ih =>
      intro hj
      cases j with
      | zero => exact ⟨_, rfl, r⟩
      | succ j =>
        obtain ⟨v, e, q⟩ := ih (Nat.lt_of_succ_lt_succ hj)
        exact ⟨v, by simpa using e, by simpa using q⟩
  by_cases h0 : 0 ≤ i
  · have e : ixN xs.length i = some i.toNat := by unfold ixN; rw [if_pos h0, if_pos h2]
    rw [e]
    exact get h (by omega)
  · have e : ixN xs.length i = some (i + xs.length).toNat := by unfold ixN; rw [if_neg h0, if_pos h1]
    rw [e]
    exact get h (by omega)
theorem pk_ixU [Inhabited α] {a b : Expr} {T : Ty X.K α} {xs : List α} {i : Int} {P1 P2 : Prop} (ha : PK X a ρ cs (tU T) xs P1) (hb : PK X b ρ cs tI i P2) (hs : PlainIx b := by exact fun _ _ => rfl) : PK X (.Subscript a b pos) ρ cs T (pyIx xs i) (P1 ∧ P2 ∧ IxOk xs i) := fun F σ H ok p Q k => by
  refine we (pe_ix ix_tup pe_w pe_w hs) ?_
  refine ha F σ H ok p.1 _ fun v F1 H1 g1 ⟨q, vs, e1, hq, r, z⟩ => ?_
  refine hb F1 σ H1 (ok.grow g1) p.2.1 _ fun w F2 H2 g2 r2 => ?_
  obtain ⟨u, hu, ru⟩ := rl_atI (Rl.mono g2.ff r) p.2.2
  exact ⟨q, vs, i, u, e1, r2, .inl (same_rd (g2.ff.trans g2.fh) hq), hu, k u F2 H2 (g1.trans g2) ru⟩
end
end MD
namespace MD
open PySem PySem.Spec PyProof.Rows L2
/-! ### contracts -/
structure Con (K : PySem.W.Frag) (A R γ : Type) where
  ins : A → List (Slot K)
  cin : A → List (Cell K)
  wp : A → (R → Prop) → (Exn K → Prop) → Prop
  T : Ty K γ
  rv : R → γ
  cout : A → R → List (Cell K)
  mono : ∀ a φ φ' ε ε', (∀ r, φ r → φ' r) → (∀ e, ε e → ε' e) → wp a φ ε → wp a φ' ε'
def Con.sp {K : PySem.W.Frag} {A R γ : Type} (C : Con K A R γ) : Sp := fun vs H Q E => ∃ (a : A) (F : Hp), Prd (fun s v => Slot.ok F s (some v)) (C.ins a) vs ∧ Same F H ∧
  (∀ c ∈ C.cin a, F c.a = none ∧ ∃ o, H c.a = some o ∧ c.ck.rep F o) ∧ ((C.cin a).map Cell.a).Nodup ∧
  C.wp a (fun r => ∀ v F' H', Mv (C.cin a) F H (C.cout a r) F' H' → C.T.rep F' v (C.rv r) → Q v H') (fun ex => ∀ cls d F' H', Mv (C.cin a) F H (C.cin a) F' H' → ExnRep F' ex cls d → E cls d H')
/-- a function of frozen data: where pre holds it is f -/
def Con.fn {K : PySem.W.Frag} {A γ : Type} (ins : A → List (Slot K)) (T : Ty K γ) (pre : A → Prop) (f : A → γ) : Con K A γ γ where
  ins := ins
  cin := fun _ => []
  wp := fun a φ _ => pre a ∧ ∀ r, r = f a → φ r
  T := T
  rv := fun r => r
  cout := fun _ _ => []
  mono := fun _ _ _ _ _ h _ w => ⟨w.1, fun r e => h r (w.2 r e)⟩
section
variable {P : Program} {w : World} {K : PySem.W.Frag} {mg : Str → Option Value} {base : Heap} {A R γ : Type}
theorem Prd.start {F : Hp} {n : Nat} : ∀ {ss : List (Slot K)} {vs : List V}, Prd (fun s v => Slot.ok F s (some v)) ss vs → Prd (Slot.ok F) (ss ++ List.replicate n .un) (vs.map some ++ List.replicate n none)
  | _, _, .cons r t => .cons r (Prd.start t)
  | _, _, .nil => by
    show Prd _ (List.replicate n Slot.un) (List.replicate n none)
    induction n with
    | zero => exact .nil
    | succ n ih => exact .cons trivial ih
/-- what a return is to reach -/
def retD (C : Con K A R γ) (a : A) (B : Hb K) (φ : R → Prop) : Ends where
  nx := fun _ H' => ∃ r F', Mv B.cin B.F0 B.H0 (C.cout a r) F' H' ∧ C.T.rep F' .non (C.rv r) ∧ φ r
  rt := fun v H' => ∃ r F', Mv B.cin B.F0 B.H0 (C.cout a r) F' H' ∧ C.T.rep F' v (C.rv r) ∧ φ r
theorem PSs.ends {X : Cx} {st : List Stmt} {D D' : Ends} {σ : L2.St} {H : Hp} (hn : ∀ σ H, D.nx σ H → D'.nx σ H) (hr : ∀ v H, D.rt v H → D'.rt v H) (hb : ∀ σ H, D.bk σ H → D'.bk σ H) (hc : ∀ σ H, D.ct σ H → D'.ct σ H) (h : WB X st D σ H) : WB X st D' σ H :=
  fun pins s I => thn (h pins s I) fun f s' q => by
    cases f with
    | next => obtain ⟨σ', H', I', q⟩ := q; exact ⟨σ', H', I', hn _ _ q⟩
    | brk => obtain ⟨σ', H', I', q⟩ := q; exact ⟨σ', H', I', hb _ _ q⟩
    | cont => obtain ⟨σ', H', I', q⟩ := q; exact ⟨σ', H', I', hc _ _ q⟩
    | ret u => obtain ⟨v, σ', H', I', r, q⟩ := q; exact ⟨v, σ', H', I', r, hr _ _ q⟩
/-- a def keeps its contract, by its body -/
theorem fn_con {x qual : Str} {st : Stmt} {f : Addr} {fd : FuncData} {N ps : List Str} {k : Nat} (C : Con K A R γ) (F : Fun K x qual st f fd) (S : FnScope N ps (defScope st)) (hl : ∀ a, (C.ins a).length = ps.length)
    (body : ∀ (cdv : Value) (Ar : Around) (outer : List Env) (s : Shared) (H : Hp) (E : XK) (F0 : Hp) (a : A) (φ : R → Prop) (ε : Exn K → Prop), Room k (Ar.deeper (envOfC qual (defScope st) s.heap.objs.size f cdv)) →
      PassesOwn (model P w) (Ar.deeper (envOfC qual (defScope st) s.heap.objs.size f cdv)) (envOfC qual (defScope st) s.heap.objs.size f cdv) (cxOf (L2.CX P w) P w K mg base N qual (defScope st) f cdv Ar outer s H E).xe →
      SK (cxOf (L2.CX P w) P w K mg base N qual (defScope st) f cdv Ar outer s H E) ⟨F0, H, C.cin a⟩ ⟨C.cin a, ε⟩ F0 (defBody st) (C.ins a ++ List.replicate (N.length - ps.length) .un) (C.cin a) (retD C a ⟨F0, H, C.cin a⟩ φ) (C.wp a φ ε)) :
    FnOk P w K mg base (L2.CX P w) (k + 1) f fd ps C.sp := by
  refine F.okX S (fun vs H Q E ⟨a, F, h, _⟩ => by rw [← h.length]; exact hl a) (fun cdv Ar outer s H vs Q E hr h => ?_)
  obtain ⟨a, F0, hv, hs, hc, hn, hw⟩ := h
  refine ⟨_, pss_w, ?_⟩
  have e : vs.length = ps.length := by rw [← hv.length]; exact hl a
  have Bo : Mv (C.cin a) F0 H (C.cin a) F0 H := ⟨Same.refl _, hs, fun b h1 h2 => absurd h1 h2, fun b o e _ => e, hc, hn, fun c hc => .inl ⟨c, hc, rfl⟩, fun c hcm z => by
    obtain ⟨_, o, e, _⟩ := hc c hcm
    rw [e] at z; cases z⟩
  have hb := body cdv Ar outer s H E F0 a _ _ hr (passes_of rfl) F0 (L2.start N vs) H ⟨by
    unfold L2.start
    rw [e]
    exact hv.start, Bo, Same.refl _⟩ hw (fun cls d _ H => E cls d H) (takes_of rfl rfl rfl rfl) (fun ex cls d cs2 F' H' σ' mv kp r ep => ep cls d F' H' ⟨mv.ff, mv.fh, mv.fr, mv.kp, fun c hc => mv.cell c (kp c hc), hn, fun c hc => .inl ⟨c, hc, rfl⟩, mv.st⟩ r)
  refine PSs.ends ?_ ?_ ?_ ?_ hb
  · intro _ H' ⟨r, F', m, t, q⟩
    exact q .non F' H' m t
  · intro v H' ⟨r, F', m, t, q⟩
    exact q v F' H' m t
  · exact fun _ _ z => z
  · exact fun _ _ z => z
/-- the condition -/
theorem SK.vc {X : Cx} {B : Hb X.K} {Y : Ec X.K} {st : List Stmt} {ρ : List (Slot X.K)} {cs : List (Cell X.K)} {D : Ends} {φ ψ : Prop} {fl : Hp} (h : SK X B Y fl st ρ cs D φ) (v : ψ → φ) : SK X B Y fl st ρ cs D ψ := fun F σ H ok p => h F σ H ok (v p)
end
/-! ### calls -/
section
variable {X : Cx} {Y : Ec X.K} {ρ : List (Slot X.K)} {cs : List (Cell X.K)} {A R α γ μ : Type} {pos : Pos}
/-- a pure function's call -/
theorem pk_call {k : Nat} {f : Addr} {fd : FuncData} {ps : List Str} {nm : Str} {p : Pos} {e : Expr} {es : List Expr} {ins : A → List (Slot X.K)} {T : Ty X.K γ} {pre : A → Prop} {g : A → γ} {β : Type} {Ts : Tys X.K β} {x : β} {Pa : Prop} (a : A)
    (F : FnOk X.prog X.w X.K X.mg X.base (L2.CX X.prog X.w) k f fd ps (Con.fn ins T pre g).sp) (hr : Room k X.A) (hm : X.mg nm = some (.ref f)) (hk : PySem.W.keepIn X.K (.ref f) = true) (hb : Binds X.K fd ps [])
    (ha : PAK X (e :: es) ρ cs Ts x Pa) (hi : ∀ F vs, Ts.rep F vs x → Prd (fun s v => Slot.ok F s (some v)) (ins a) vs) (hg : Gl X nm := by rfl)
    (hdb : (nm == ("__debug__" : Str)) = false := by decide) (he : starEach (e :: es) X.env = (false, eval e X.env) :: starEach es X.env := by rfl) (hpl : (backTo pos (starEach es X.env)).any (·.1) = false := by rfl) :
    PK X (.Call (.Name nm p) (e :: es) [] pos) ρ cs T (g a) (Pa ∧ pre a) := fun F0 σ H ok q Q kk => by
  refine we (pe_call F hr hg hm hk hb .nil (E := E0) (passL) pa_w hdb he hpl) ?_
  refine ha F0 σ H ok q.1 _ fun vs F1 H1 g1 r1 => ?_
  refine ⟨a, F1, by rw [List.append_nil]; exact hi F1 vs r1, g1.fh, fun c hc => absurd hc (by simp [Con.fn]), by simp [Con.fn], q.2, fun r er v F2 H2 m rr => ?_⟩
  subst er
  exact kk v F2 H2 (g1.trans ⟨m.ff, m.fh, fun b o e => m.kp b o e fun c hc => absurd hc (by simp [Con.fn]), m.fr⟩) rr
end
end MD
namespace MD
open PySem PySem.Spec PyProof.Rows L2
/-! ### statements -/
section
variable {X : Cx} {fl : Hp} {B : Hb X.K} {Y : Ec X.K} {ρ : List (Slot X.K)} {cs : List (Cell X.K)} {α β γ μ : Type} {pos : Pos} {rest : List Stmt} {D : Ends} {e : Expr}
/-- the exceptions' wish within -/
theorem xh_of {F H : Hp} {σ : L2.St} {W : WX} (ok : Ok B fl ρ cs F σ H) (tk : Takes X W) (hx : ∀ ex cls d cs2 F' H' σ', Mv B.cin B.F0 B.H0 cs2 F' H' → (∀ c ∈ Y.kp, c ∈ cs2) → ExnRep F' ex cls d → Y.ε ex → W cls d σ' H') : Xh X Y cs F σ H :=
  ⟨W, tk, fun ex cls d cs2 F' H' m kp r ep => hx ex cls d cs2 F' H' σ (ok.mv.trans m) kp r ep⟩
theorem sk_set {i : Nat} {nm : Str} {pos' : Pos} {T : Ty X.K α} {x : α} {P : Prop} {φ : α → Prop} (hN : X.N.Nodup) (he : PK X e ρ cs T x P) (k : ∀ z, SK X B Y fl rest (ρ.set i (.val T z)) cs D (φ z)) (hi : X.N[i]? = some nm := by rfl) (hx : Loc X.env.scope nm := by first | exact Or.inl rfl | exact Or.inr rfl)
    (hs : swapsWith e (some (.Name nm pos')) pos.line X.env = pure false := by rfl) (hf : X.fn nm = true ∨ X.env.scope.names.lookup nm = some .local := by first | exact .inl rfl | exact .inr rfl) :
    SK X B Y fl (.Assign [.Name nm pos'] e pos :: rest) ρ cs D (P ∧ ∀ z, z = x → φ z) := fun F σ H ok p W tk hx' => by
  refine wb (pss_cons (ps_set hN hi hx pe_w hs hf) pss_w) ?_
  refine he F σ H ok.c.w p.1 _ fun v F' H' g r => ?_
  have ok1 := ok.to (ok.c.grow g)
  exact k x F' _ H' (ok1.set i r) (p.2 x rfl) W tk hx'
theorem sk_setE {i : Nat} {nm : Str} {pos' : Pos} {T : Ty X.K α} {vl : μ → α} {cs' : μ → List (Cell X.K)} {M : (μ → Prop) → Prop} {φ : μ → α → Prop} (hN : X.N.Nodup) (he : EK X Y e ρ cs T vl cs' M) (k : ∀ y z, SK X B Y fl rest (ρ.set i (.val T z)) (cs' y) D (φ y z)) (hi : X.N[i]? = some nm := by rfl)
    (hx : Loc X.env.scope nm := by first | exact Or.inl rfl | exact Or.inr rfl)
    (hs : swapsWith e (some (.Name nm pos')) pos.line X.env = pure false := by rfl) (hf : X.fn nm = true ∨ X.env.scope.names.lookup nm = some .local := by first | exact .inl rfl | exact .inr rfl) :
    SK X B Y fl (.Assign [.Name nm pos'] e pos :: rest) ρ cs D (M fun y => ∀ z, z = vl y → φ y z) := fun F σ H ok p W tk hx' => by
  refine wb (pss_cons (ps_set hN hi hx pe_w hs hf) pss_w) ?_
  refine he F σ H ok.c (xh_of ok tk hx') _ p _ fun y v F' H' m r q => ?_
  exact k y (vl y) F' _ H' ((ok.to m).set i r) (q _ rfl) W tk hx'
theorem sk_expr {T : Ty X.K α} {vl : μ → α} {cs' : μ → List (Cell X.K)} {M : (μ → Prop) → Prop} {φ : μ → Prop} (he : EK X Y e ρ cs T vl cs' M) (k : ∀ y, SK X B Y fl rest ρ (cs' y) D (φ y)) (hs : swapsWith e none pos.line X.env = pure false := by rfl) :
    SK X B Y fl (.Expr e pos :: rest) ρ cs D (M φ) := fun F σ H ok p W tk hx' => by
  refine wb (pss_cons (ps_expr pe_w hs) pss_w) ?_
  refine he F σ H ok.c (xh_of ok tk hx') _ p _ fun y v F' H' m r q => ?_
  exact k y F' _ H' (ok.to m) q W tk hx'
/-- one statement -/
def SK1 (X : Cx) (B : Hb X.K) (Y : Ec X.K) (fl : Hp) (st : Stmt) (ρ : List (Slot X.K)) (cs : List (Cell X.K)) (D : Ends) (φ : Prop) : Prop :=
  ∀ F σ H, Ok B fl ρ cs F σ H → φ → ∀ W, Takes X W → (∀ ex cls d cs2 F' H' σ', Mv B.cin B.F0 B.H0 cs2 F' H' → (∀ c ∈ Y.kp, c ∈ cs2) → ExnRep F' ex cls d → Y.ε ex → W cls d σ' H') → WS X st D σ H
/-- the rest behind each end -/
theorem sk_seq {st : Stmt} {φ : Prop} (h : SK1 X B Y fl st ρ cs { D with nx := WB X rest D } φ) : SK X B Y fl (st :: rest) ρ cs D φ := fun F σ H ok p W tk hx' => wb (pss_cons ps_w pss_w) (h F σ H ok p W tk hx')
theorem sk_if1 {c : Expr} {a b : List Stmt} {bv : Bool} {P φ1 φ2 : Prop} (hc : PTK X c ρ cs bv P) (ha : SK X B Y fl a ρ cs D φ1) (hb : SK X B Y fl b ρ cs D φ2) :
    SK1 X B Y fl (.If c a b pos) ρ cs D (P ∧ (bv = true → φ1) ∧ (bv = false → φ2)) := fun F σ H ok p W tk hx' => by
  refine ws (ps_if pt_w pss_w pss_w) ?_
  refine hc F σ H ok.c.w p.1 _ fun F' H' g => ?_
  have ok1 := ok.to (ok.c.grow g)
  cases bv with
  | true => exact (if_pos rfl).mpr (ha F' σ H' ok1 (p.2.1 rfl) W tk hx')
  | false => exact (if_neg Bool.false_ne_true).mpr (hb F' σ H' ok1 (p.2.2 rfl) W tk hx')
theorem sk_if1E {c : Expr} {a b : List Stmt} {vl : μ → Bool} {cs' : μ → List (Cell X.K)} {M : (μ → Prop) → Prop} {φ1 φ2 : μ → Prop} (hc : TK X Y c ρ cs vl cs' M) (ha : ∀ y, SK X B Y fl a ρ (cs' y) D (φ1 y)) (hb : ∀ y, SK X B Y fl b ρ (cs' y) D (φ2 y)) :
    SK1 X B Y fl (.If c a b pos) ρ cs D (M fun y => (vl y = true → φ1 y) ∧ (vl y = false → φ2 y)) := fun F σ H ok p W tk hx' => by
  refine ws (ps_if pt_w pss_w pss_w) ?_
  refine hc F σ H ok.c (xh_of ok tk hx') _ p _ fun y F' H' m q => ?_
  have ok1 := ok.to m
  cases hv : vl y with
  | true => exact (if_pos rfl).mpr (ha y F' σ H' ok1 (q.1 hv) W tk hx')
  | false => exact (if_neg Bool.false_ne_true).mpr (hb y F' σ H' ok1 (q.2 hv) W tk hx')
/-- one state may stand for another -/
inductive Le {K : PySem.W.Frag} : List (Slot K) → List (Slot K) → Prop
  | nil : Le [] []
  | same {s : Slot K} {a b : List (Slot K)} : Le a b → Le (s :: a) (s :: b)
  | un {s : Slot K} {a b : List (Slot K)} : Le a b → Le (s :: a) (.un :: b)
theorem Le.refl {K : PySem.W.Frag} : ∀ a : List (Slot K), Le a a
  | [] => .nil
  | _ :: a => .same (Le.refl a)
theorem Le.env {K : PySem.W.Frag} {F : Hp} : ∀ {a b : List (Slot K)} {σ : L2.St}, Le a b → Prd (Slot.ok F) a σ → Prd (Slot.ok F) b σ
  | _, _, _, .nil, .nil => .nil
  | _, _, _, .same t, .cons r q => .cons r (Le.env t q)
  | _, _, _, .un t, .cons _ q => .cons trivial (Le.env t q)
/-- a state of that form, of which R holds -/
def Mid {K : PySem.W.Frag} (B : Hb K) (fl : Hp) (ρ' : β → List (Slot K)) (cs' : β → List (Cell K)) (R : β → Prop) : L2.St → Hp → Prop := fun σ H => ∃ z F, Ok B fl (ρ' z) (cs' z) F σ H ∧ R z
/-- a statement whose ends meet in one form -/
theorem sk_join {st : Stmt} (ρ' : β → List (Slot X.K)) (cs' : β → List (Cell X.K)) {ψ : (β → Prop) → Prop} {φ : β → Prop} (h : ∀ R, SK1 X B Y fl st ρ cs { D with nx := Mid B fl ρ' cs' R } (ψ R)) (k : ∀ z, SK X B Y fl rest (ρ' z) (cs' z) D (φ z)) :
    SK X B Y fl (st :: rest) ρ cs D (∃ R, ψ R ∧ ∀ z, R z → φ z) := fun F σ H ok p W tk hx' => by
  obtain ⟨R, p1, p2⟩ := p
  have q := h R F σ H ok p1 W tk hx'
  refine fun pins s I => ?_
  refine wpAny_execs_cons (thn (q pins s I) fun f s1 q3 => ?_)
  cases f with
  | next =>
    obtain ⟨σ', H', I', z, F', ok', r⟩ := q3
    exact k z F' σ' H' ok' (p2 z r) W tk hx' pins s1 I'
  | ret v => exact q3
  | brk => exact q3
  | cont => exact q3
/-- return -/
theorem sk_ret {A R : Type} {C : Con X.K A R γ} {a : A} {ψ : R → Prop} {n b' c' : L2.St → Hp → Prop} {x : γ} {P : Prop} {r : List Stmt} (q : R) (he : PK X e ρ cs C.T x P) (hv : C.rv q = x) (hc : C.cout a q = cs) :
    SK X B Y fl (.Return (some e) pos :: r) ρ cs { retD C a B ψ with nx := n, bk := b', ct := c' } (P ∧ ψ q) := fun F σ H ok p W tk hx' => by
  refine wb (pss_cons (ps_ret pe_w) pss_w) ?_
  refine he F σ H ok.c.w p.1 _ fun v F' H' g t => ?_
  have ok1 := ok.to (ok.c.grow g)
  subst hv
  exact ⟨q, F', by rw [hc]; exact ok1.mv, t, p.2⟩
theorem sk_retE {A R : Type} {C : Con X.K A R γ} {a : A} {ψ : R → Prop} {n b' c' : L2.St → Hp → Prop} {vl : μ → γ} {cs' : μ → List (Cell X.K)} {M : (μ → Prop) → Prop} {r : List Stmt} (q : μ → R) (he : EK X Y e ρ cs C.T vl cs' M) (hv : ∀ y, C.rv (q y) = vl y) (hc : ∀ y, C.cout a (q y) = cs' y) :
    SK X B Y fl (.Return (some e) pos :: r) ρ cs { retD C a B ψ with nx := n, bk := b', ct := c' } (M fun y => ψ (q y)) := fun F σ H ok p W tk hx' => by
  refine wb (pss_cons (ps_ret pe_w) pss_w) ?_
  refine he F σ H ok.c (xh_of ok tk hx') _ p _ fun y v F' H' m t h => ?_
  have ok1 := ok.to m
  refine ⟨q y, F', by rw [hc]; exact ok1.mv, ?_, h⟩
  rw [hv]
  exact t
/-! ### owned lists -/
theorem mv_upd {F H : Hp} {j : Nat} {l : Addr} {k0 k : CK X.K} {o : HO} (ok : Okc ρ cs F σ H) (hc : cs[j]? = some ⟨l, k0⟩) (hr : k.rep F o) : Mv cs F H (cs.set j ⟨l, k⟩) F (upd H l o) := by
  have hj : j < cs.length := (List.getElem?_eq_some_iff.mp hc).1
  have hm : ⟨l, k0⟩ ∈ cs := List.mem_of_getElem? hc
  have hFl := (ok.cell _ hm).1
  have map_eq : (cs.set j ⟨l, k⟩).map Cell.a = cs.map Cell.a := by
    rw [List.map_set]
    apply List.ext_getElem?
    intro n
    by_cases hn : j = n
    · subst hn
      rw [List.getElem?_set_self (by simpa using hj), List.getElem?_map, hc]
      rfl
    · rw [List.getElem?_set_ne hn]
  have others : ∀ (n : Nat) (c : Cell X.K), n ≠ j → cs[n]? = some c → c.a ≠ l := fun n c hn e z => by
    have nd := ok.nd
    have e1 : (cs.map Cell.a)[n]? = some l := by rw [List.getElem?_map, e]; exact congrArg some z
    have e2 : (cs.map Cell.a)[j]? = some l := by rw [List.getElem?_map, hc]; rfl
    obtain ⟨h1, q1⟩ := List.getElem?_eq_some_iff.mp e1
    obtain ⟨h2, q2⟩ := List.getElem?_eq_some_iff.mp e2
    exact hn ((List.getElem_inj nd).mp (q1.trans q2.symm))
  refine ⟨Same.refl F, fun b u e => ?_, fun b h1 h2 => absurd h1 h2, fun b u e n => ?_, fun c hcm => ?_, by rw [map_eq]; exact ok.nd, fun c hcm => ?_, fun c hcm z => ?_⟩
  · have : b ≠ l := fun z => by rw [z, hFl] at e; cases e
    rw [upd_ne this]; exact ok.same _ _ e
  · have : b ≠ l := fun z => n _ hm z.symm
    rw [upd_ne this]; exact e
  · obtain ⟨n, e⟩ := List.getElem?_of_mem hcm
    by_cases hn : n = j
    · subst hn
      rw [List.getElem?_set_self hj] at e
      cases e
      exact ⟨hFl, o, upd_same, hr⟩
    · rw [List.getElem?_set_ne (Ne.symm hn)] at e
      obtain ⟨n1, u, e1, r1⟩ := ok.cell c (List.mem_of_getElem? e)
      exact ⟨n1, u, by rw [upd_ne (others n c hn e)]; exact e1, r1⟩
  · obtain ⟨n, e⟩ := List.getElem?_of_mem hcm
    by_cases hn : n = j
    · subst hn
      rw [List.getElem?_set_self hj] at e
      cases e
      exact .inl ⟨_, hm, rfl⟩
    · rw [List.getElem?_set_ne (Ne.symm hn)] at e
      exact .inl ⟨c, List.mem_of_getElem? e, rfl⟩
  · by_cases hl : c.a = l
    · rw [hl, upd_same] at z; cases z
    · rw [upd_ne hl] at z
      obtain ⟨_, u, e1, _⟩ := ok.cell c hcm
      rw [e1] at z; cases z
theorem Rl.set {K : PySem.W.Frag} {T : Ty K α} {F : Hp} {v : V} {x : α} : ∀ {vs : List V} {xs : List α} {i : Nat}, Rl T F vs xs → T.rep F v x → Rl T F (vs.set i v) (xs.set i x)
  | _, _, _, .nil, _ => .nil
  | _, _, 0, .cons _ t, h => .cons h t
  | _, _, i + 1, .cons r t, h => .cons r (Rl.set (i := i) t h)
theorem Rl.append {K : PySem.W.Frag} {T : Ty K α} {F : Hp} : ∀ {vs ws : List V} {xs ys : List α}, Rl T F vs xs → Rl T F ws ys → Rl T F (vs ++ ws) (xs ++ ys)
  | _, _, _, _, .nil, h => h
  | _, _, _, _, .cons r t, h => .cons r (Rl.append t h)
def IxW (xs : List α) (i : Int) : Prop := 0 ≤ i ∧ i < xs.length
/-- l[i] = e, l an owned list, i a place -/
theorem sk_setIx {o ie : Expr} {T : Ty X.K α} {vl : μ → α} {cs' : μ → List (Cell X.K)} {M : (μ → Prop) → Prop} {l : Addr} {xs : μ → List α} {i : μ → Int} {P1 P2 : μ → Prop} {φ : μ → List α → Prop} {p1 : Pos} (j : Nat) (he : EK X Y e ρ cs T vl cs' M) (ho : ∀ y, PK X o ρ (cs' y) tR l (P1 y))
    (hi : ∀ y, PK X ie ρ (cs' y) tI (i y) (P2 y)) (hc : ∀ y, (cs' y)[j]? = some ⟨l, cL T (xs y)⟩) (k : ∀ y z, SK X B Y fl rest ρ ((cs' y).set j ⟨l, cL T z⟩) D (φ y z))
    (ha : ∀ v, assign (.Subscript o ie p1) X.env v = (do
      let ov ← holding [v] (eval o X.env)
      let iv ← holding [v, ov] (eval ie X.env)
      standAt p1
      holding [v, ov, iv] (setItem ov iv v)
      release [v, ov, iv] []) := by intro _; rfl) (hs : swapsWithSole [.Subscript o ie p1] e pos.line X.env = pure false := by rfl) (hw : swappedStores [.Subscript o ie p1] e X.env = pure none := by rfl)
    (h1 : (assignEach [.Subscript o ie p1] X.env).map (·.2) = [assign (.Subscript o ie p1) X.env] := by rfl) :
    SK X B Y fl (.Assign [.Subscript o ie p1] e pos :: rest) ρ cs D (M fun y => P1 y ∧ P2 y ∧ IxW (xs y) (i y) ∧ ∀ z, z = (xs y).set (i y).toNat (vl y) → φ y z) := fun F σ H ok p W tk hx' => by
  refine wb (pss_cons (ps_asg pe_w (pg_sub pe_w pe_w set_list ha) hs hw h1) pss_w) ?_
  refine he F σ H ok.c (xh_of ok tk hx') _ p _ fun y v F1 H1 m t q => ?_
  have ok1 := ok.to m
  refine ho y F1 σ H1 ok1.c.w q.1 _ fun v2 F2 H2 g2 r2 => ?_
  have ok2 := ok1.to (ok1.c.grow g2)
  refine hi y F2 σ H2 ok2.c.w q.2.1 _ fun v3 F3 H3 g3 r3 => ?_
  have ok3 := ok2.to (ok2.c.grow g3)
  obtain ⟨_, ob, hob, vs, e1, rl, z⟩ := ok3.c.cell _ (List.mem_of_getElem? (hc y))
  subst e1
  have hix : ixN vs.length (i y) = some (i y).toNat := by
    unfold ixN
    rw [if_pos q.2.2.1.1, if_pos (by rw [Rl.length rl]; exact q.2.2.1.2)]
  refine ⟨l, vs, i y, (i y).toNat, r2, r3, hob, hix, ?_⟩
  exact k y _ F3 σ _ (ok3.to (mv_upd (k := cL T ((xs y).set (i y).toNat (vl y))) ok3.c (hc y) ⟨_, rfl, Rl.set rl (T.mono (g2.ff.trans g3.ff) t), by rw [List.length_set]; exact z⟩)) (q.2.2.2 _ rfl) W tk hx'
/-- a method of an owned list: what it asks, what it leaves, what it gives -/
def MLK {K : PySem.W.Frag} (r : V → List V → Hp → VK → Prop) (T : Ty K α) (Ts : Tys K β) (U : Ty K γ) (C : List α → β → Prop) (f : List α → β → List α) (g : List α → β → γ) : Prop :=
  ∀ F H l vs ws x y, Same F H → H l = some (.lst vs) → Rl T F vs x → vs.length ≤ sizeLine → Ts.rep F ws y → C x y → ∀ Q : VK, (∀ v vs', Rl T F vs' (f x y) → vs'.length ≤ sizeLine → U.rep F v (g x y) → Q v (upd H l (.lst vs'))) → r (.ref l) ws H Q
theorem ek_mL {o : Expr} {es : List Expr} {name : Str} {id : String} {r : V → List V → Hp → VK → Prop} {T : Ty X.K α} {Ts : Tys X.K β} {U : Ty X.K γ} {C : List α → β → Prop} {f : List α → β → List α} {g : List α → β → γ} {vl : μ → β} {cs' : μ → List (Cell X.K)} {M : (μ → Prop) → Prop} {l : Addr} {xs : μ → List α} {P1 : Prop} {apos cpos : Pos}
    (slot : PySem.Slot "list" name id) (hty : typeOf (.builtin id) = pure (.type "method_descriptor")) (hm : MtR X id r) (hr : MLK r T Ts U C f g) (j : Nat) (ho : PK X o ρ cs tR l P1) (he : AK X Y (e :: es) ρ cs Ts vl cs' M)
    (hc : ∀ y, (cs' y)[j]? = some ⟨l, cL T (xs y)⟩) (hc0 : ∃ x0, cs[j]? = some ⟨l, cL T x0⟩)
    (hbase : attributeBase o name X.env (eval o X.env) = eval o X.env := by rfl)
    (hfew : ((backTo cpos (starEach (e :: es) X.env)).all (fun x => !x.1) && (backToKw cpos (keywordEach [] X.env)).all (fun x => x.1.isSome)
      && decide ((e :: es).length + ([] : List Keyword).length + (if ([] : List Keyword).isEmpty then 0 else 1) < 30)) = true := by rfl)
    (hline : (apos.endLine == cpos.line) = true := by rfl) (hs : starEach (e :: es) X.env = (false, eval e X.env) :: starEach es X.env := by rfl) (hplain : (backTo cpos (starEach es X.env)).any (·.1) = false := by rfl) :
    EK X Y (.Call (.Attribute o name apos) (e :: es) [] cpos) ρ cs U (fun y : μ × List α => g (xs y.1) (vl y.1)) (fun y => (cs' y.1).set j ⟨l, cL T y.2⟩) (fun φ => P1 ∧ M fun y => C (xs y) (vl y) ∧ ∀ z, z = f (xs y) (vl y) → φ (y, z)) := fun F σ H ok xh φ p Q k => by
  refine we (pe_bm PySem.F.plainAttrs_list slot hty hm pe_w pa_w hbase hfew hline hs hplain) ?_
  refine ho F σ H ok.w p.1 _ fun v0 F0 H0 g0 r0 => ?_
  have m0 := ok.grow g0
  have ok0 := ok.mv m0
  obtain ⟨x0, hc0⟩ := hc0
  obtain ⟨_, ob0, hob0, vs0, e0, _, _⟩ := ok0.cell _ (List.mem_of_getElem? hc0)
  subst e0
  cases r0
  refine ⟨.inl ⟨rfl, _, SqL.of hob0⟩, ?_⟩
  refine he F0 σ H0 ok0 (xh.mv m0) _ p.2 _ fun y ws F1 H1 m t q => ?_
  have ok1 := ok0.mv m
  obtain ⟨_, ob, hob, vs, e1, rl, z⟩ := ok1.cell _ (List.mem_of_getElem? (hc y))
  subst e1
  refine hr F1 H1 l vs ws (xs y) (vl y) m.fh hob rl z t q.1 Q fun v vs' rl' z' u => ?_
  exact k (y, f (xs y) (vl y)) v F1 _ ((m0.trans m).trans (mv_upd (k := cL T (f (xs y) (vl y))) ok1 (hc y) ⟨_, rfl, rl', z'⟩)) u (q.2 _ rfl)
theorem ml_append {K : PySem.W.Frag} {T : Ty K α} : MLK rAppend T (ts1 T) tN (fun xs _ => xs.length < sizeLine) (fun xs x => xs ++ [x]) (fun _ _ => ()) := fun F H l vs ws x y s h rl z ⟨w, e, t⟩ c Q k => by
  subst e
  exact ⟨l, vs, w, rfl, rfl, h, by rw [Rl.length rl]; exact c, k _ _ (Rl.append rl (.cons t .nil)) (by rw [List.length_append, List.length_singleton, Rl.length rl]; exact c) rfl⟩
end
end MD
namespace MD
open PySem PySem.Spec PyProof.Rows L2
section
variable {X : Cx} {fl : Hp} {B : Hb X.K} {Y : Ec X.K} {ρ : List (Slot X.K)} {cs : List (Cell X.K)} {α β γ μ : Type} {pos : Pos} {rest : List Stmt} {D : Ends} {e : Expr}
/-! ### targets -/
/-- a value x of type T goes to a target: G, what the names hold behind it; vs, the places that it may change -/
def GK (X : Cx) (tg : Expr) (T : Ty X.K α) (G : List (Slot X.K) → α → List (Slot X.K)) (vs : List Nat) : Prop :=
  ∀ F σ H v x ρ, Prd (Slot.ok F) ρ σ → Same F H → T.rep F v x → ∀ Q : L2.St → Hp → Prop, (∀ σ', Prd (Slot.ok F) (G ρ x) σ' → (∀ ws : List Nat, (∀ j ∈ vs, j ∈ ws) → wipe σ' ws = wipe σ ws) → Q σ' H) → WG X tg v σ H Q
def GsK (X : Cx) (tgs : List Expr) (T : Tys X.K α) (G : List (Slot X.K) → α → List (Slot X.K)) (vs : List Nat) : Prop :=
  ∀ F σ H us x ρ, Prd (Slot.ok F) ρ σ → Same F H → T.rep F us x → ∀ Q : L2.St → Hp → Prop, (∀ σ', Prd (Slot.ok F) (G ρ x) σ' → (∀ ws : List Nat, (∀ j ∈ vs, j ∈ ws) → wipe σ' ws = wipe σ ws) → Q σ' H) → WGs X tgs us σ H Q
theorem set_none_comm {σ : L2.St} {o : Option V} (i j : Nat) : (σ.set i o).set j none = if i = j then σ.set j none else (σ.set j none).set i o := by
  by_cases h : i = j
  · subst h; rw [if_pos rfl, List.set_set]
  · rw [if_neg h, List.set_comm _ _ h]
theorem wipe_set {o : Option V} {i : Nat} : ∀ (ws : List Nat) (σ : L2.St), i ∈ ws → wipe (σ.set i o) ws = wipe σ ws
  | [], _, h => absurd h (by simp)
  | j :: ws, σ, h => by
    have key : ∀ (ws : List Nat) (σ : L2.St), wipe (σ.set i o) ws = if i ∈ ws then wipe σ ws else (wipe σ ws).set i o := by
      intro ws
      induction ws with
      | nil => intro σ; simp [wipe]
      | cons j ws ih =>
        intro σ
        show (wipe (σ.set i o) ws).set j none = if i ∈ j :: ws then (wipe σ ws).set j none else ((wipe σ ws).set j none).set i o
        rw [ih σ]
        by_cases hm : i ∈ ws
        · rw [if_pos hm, if_pos (List.mem_cons_of_mem _ hm)]
        · rw [if_neg hm, set_none_comm]
          by_cases hij : i = j
          · rw [if_pos hij, if_pos (by rw [hij]; exact List.mem_cons_self)]
          · rw [if_neg hij, if_neg (by simp only [List.mem_cons, not_or]; exact ⟨hij, hm⟩)]
    rw [key, if_pos h]
theorem gk_name {T : Ty X.K α} {i : Nat} {nm : Str} (hN : X.N.Nodup) (hi : X.N[i]? = some nm := by rfl) (hx : Loc X.env.scope nm := by first | exact Or.inl rfl | exact Or.inr rfl) (hf : X.fn nm = true ∨ X.env.scope.names.lookup nm = some .local := by first | exact .inl rfl | exact .inr rfl) :
    GK X (.Name nm pos) T (fun ρ x => ρ.set i (.val T x)) [i] := fun F σ H v x ρ hρ hs r Q k => by
  refine wg (pg_name hN hi hx hf) ?_
  exact k _ (hρ.set (R := Slot.ok F) (x := .val T x) (u := some v) ⟨v, rfl, r⟩ i) fun ws hw => wipe_set ws σ (hw i (by simp))
theorem gs_C {t : Expr} {ts : List Expr} {T : Ty X.K α} {Ts : Tys X.K β} {G1 : List (Slot X.K) → α → List (Slot X.K)} {G2 : List (Slot X.K) → β → List (Slot X.K)} {v1 v2 : List Nat} (h1 : GK X t T G1 v1) (h2 : GsK X ts Ts G2 v2)
    (hs : (assignEach (t :: ts) X.env).map (·.2) = assign t X.env :: (assignEach ts X.env).map (·.2) := by rfl) : GsK X (t :: ts) (tsC T Ts) (fun ρ x => G2 (G1 ρ x.1) x.2) (v1 ++ v2) := fun F σ H us x ρ hρ hs' ⟨v, r, e, ra, rb⟩ Q k => by
  subst e
  refine wgs (pgs_cons pg_w pgs_w hs) ⟨v, r, rfl, ?_⟩
  refine h1 F σ H v x.1 ρ hρ hs' ra _ fun σ1 hρ1 w1 => ?_
  exact h2 F σ1 H r x.2 _ hρ1 hs' rb Q fun σ2 hρ2 w2 => k σ2 hρ2 fun ws hw => (w2 ws fun j hj => hw j (List.mem_append_right _ hj)).trans (w1 ws fun j hj => hw j (List.mem_append_left _ hj))
theorem gs_1 {t : Expr} {T : Ty X.K α} {G1 : List (Slot X.K) → α → List (Slot X.K)} {v1 : List Nat} (h1 : GK X t T G1 v1)
    (hs : (assignEach (t :: []) X.env).map (·.2) = assign t X.env :: (assignEach [] X.env).map (·.2) := by rfl) : GsK X [t] (ts1 T) G1 v1 := fun F σ H us x ρ hρ hs' ⟨v, e, ra⟩ Q k => by
  subst e
  refine wgs (pgs_cons pg_w pgs_nil hs) ⟨v, [], rfl, ?_⟩
  exact h1 F σ H v x ρ hρ hs' ra _ fun σ1 hρ1 w1 => ⟨rfl, k σ1 hρ1 w1⟩
theorem gk_tup {tgs : List Expr} {k0 : Nat} {Ts : Tys X.K α} {G : List (Slot X.K) → α → List (Slot X.K)} {vs : List Nat} {n : Nat} (hc : X.calm = true) (h : GsK X tgs Ts G vs) (hl : ∀ F us x, Ts.rep F us x → us.length = n)
    (hn : (assignEach tgs X.env).length = n := by rfl) (hst : (assignEach tgs X.env).findIdx? (·.1) = none := by rfl) : GK X (.Tuple tgs k0 pos) (tT Ts) G vs := fun F σ H v x ρ hρ hs ⟨a, us, e, hq, r⟩ Q k => by
  subst e
  refine wg (pg_tup hc pgs_w hn hst) ?_
  exact ⟨a, us, rfl, SqT.of (hs _ _ hq), hl F us x r, h F σ H us x ρ hρ hs r Q k⟩
theorem tl1 {K : PySem.W.Frag} {T : Ty K α} : ∀ F us (x : α), (ts1 T).rep F us x → us.length = 1 := fun F us x ⟨v, e, _⟩ => by subst e; rfl
theorem tlC {K : PySem.W.Frag} {T : Ty K α} {Ts : Tys K β} {n : Nat} (h : ∀ F us (x : β), Ts.rep F us x → us.length = n) : ∀ F us (x : α × β), (tsC T Ts).rep F us x → us.length = n + 1 := fun F us x ⟨v, r, e, _, q⟩ => by subst e; rw [List.length_cons, h F r x.2 q]
/-! ### what is walked -/
def ItOk {K : PySem.W.Frag} (T : Ty K α) (J : It) (F : Hp) (xs : List α) : Prop := ∀ (i : Nat) F1 H1, Same F F1 → Same F1 H1 →
  (∀ x, xs[i]? = some x → J.go i H1 ∧ ∀ v H2, J.yld i H1 v H2 → ∃ F2, Grow F1 H1 F2 H2 ∧ T.rep F2 v x) ∧ (xs.length ≤ i → J.stop i H1)
def IK (X : Cx) (tg iter : Expr) (ρ : List (Slot X.K)) (cs : List (Cell X.K)) (T : Ty X.K α) (xs : List α) (P : Prop) : Prop :=
  ∀ F σ H, Okw ρ cs F σ H → P → ∀ R : It → Hp → Prop, (∀ J F' H', Grow F H F' H' → ItOk T J F' xs → xs.length ≤ sizeLine → R J H') → WI X tg iter σ H R
theorem rl_get {K : PySem.W.Frag} {T : Ty K α} {F : Hp} : ∀ {vs : List V} {xs : List α} {i : Nat} {x : α}, Rl T F vs xs → xs[i]? = some x → ∃ v, vs[i]? = some v ∧ T.rep F v x
  | _, _, _, _, .nil, e => by simp at e
  | _, _, 0, _, .cons r _, e => by simp at e; subst e; exact ⟨_, rfl, r⟩
  | _, _, i + 1, x, .cons _ t, e => by
    obtain ⟨u, h1, h2⟩ := rl_get (i := i) (x := x) t (by simpa using e)
    exact ⟨u, by simpa using h1, h2⟩
theorem itl_ok {K : PySem.W.Frag} {T : Ty K α} {F : Hp} {a : Addr} {vs : List V} {xs : List α} (h : SqL K F a vs) (r : Rl T F vs xs) : ItOk T (Itl K a) F xs := fun i F1 H1 e1 e2 => by
  have hq := (e1.trans e2).seq h
  refine ⟨fun x hx => ?_, fun hi => ⟨vs, hq, by rw [Rl.length r]; exact hi⟩⟩
  obtain ⟨v, hv, rv⟩ := rl_get r hx
  refine ⟨⟨vs, v, hq, hv⟩, fun v' H2 ⟨e, y⟩ => ?_⟩
  subst e
  have := (y vs hq).symm.trans hv
  cases this
  exact ⟨F1, Grow.refl e2, T.mono e1 rv⟩
theorem ik_list {tg : Expr} {T : Ty X.K α} {xs : List α} {P : Prop} (h : PK X e ρ cs (tL T) xs P) : IK X tg e ρ cs T xs P := fun F σ H ok p R k => by
  refine wi (pi_list pe_w) ?_
  refine h F σ H ok p _ fun v F1 H1 g ⟨a, vs, e1, hq, r, z⟩ => ?_
  exact ⟨a, e1, ⟨vs, SqL.of (g.fh _ _ hq)⟩, k _ F1 H1 g (itl_ok (SqL.of hq) r) (by rw [← Rl.length r]; exact z)⟩
/-- range(a), range(a, b) as lists -/
def rng (a b : Int) : List Int := (List.range (b - a).toNat).map fun (i : Nat) => a + (i : Int)
theorem rng_get {a b : Int} {i : Nat} {x : Int} (h : (rng a b)[i]? = some x) : x = a + i ∧ i < (b - a).toNat := by
  unfold rng at h
  rw [List.getElem?_map] at h
  by_cases hi : i < (b - a).toNat
  · rw [List.getElem?_range hi] at h
    exact ⟨(Option.some.inj h).symm, hi⟩
  · rw [List.getElem?_eq_none (by rw [List.length_range]; omega)] at h
    cases h
theorem rng_length {a b : Int} : (rng a b).length = (b - a).toNat := by unfold rng; rw [List.length_map, List.length_range]
theorem itr_ok {K : PySem.W.Frag} {F : Hp} {a b : Int} : ItOk (tI (K := K)) (Itr a (b - a).toNat) F (rng a b) := fun i F1 H1 e1 e2 => by
  refine ⟨fun x hx => ?_, fun hi => by rw [rng_length] at hi; exact hi⟩
  obtain ⟨e, hi⟩ := rng_get hx
  refine ⟨hi, fun v H2 ⟨eh, ev⟩ => ?_⟩
  subst eh
  exact ⟨F1, Grow.refl e2, by rw [ev, e]; rfl⟩
theorem ik_range1 {tg a : Expr} {x : Int} {P : Prop} {p : Pos} (hm : X.mg "range" = none) (h : PK X a ρ cs tI x P) (hg : Gl X "range" := by rfl) (hs : starEach [a] X.env = [(false, eval a X.env)] := by rfl) :
    IK X tg (.Call (.Name "range" p) [a] [] pos) ρ cs tI (rng 0 x) (P ∧ -(2 ^ 62) ≤ x ∧ x ≤ 16777216) := fun F σ H ok q R k => by
  refine wi (pi_range1 hg hm (pa_cons pe_w pa_nil hs) hs) ?_
  refine h F σ H ok q.1 _ fun v F1 H1 g r => ⟨x, by cases r; rfl, q.2.1, by have := q.2.2; omega, k _ F1 H1 g ?_ (by rw [rng_length, sizeLine_eq]; have := q.2.2; omega)⟩
  have := itr_ok (K := X.K) (F := F1) (a := 0) (b := x)
  rw [show (x - 0).toNat = x.toNat by rw [Int.sub_zero]] at this
  exact this
theorem ik_range2 {tg a b : Expr} {x y : Int} {P1 P2 : Prop} {p : Pos} (hm : X.mg "range" = none) (h : PK X a ρ cs tI x P1) (h' : PK X b ρ cs tI y P2) (hg : Gl X "range" := by rfl) (hs : starEach [a, b] X.env = [(false, eval a X.env), (false, eval b X.env)] := by rfl) (hs2 : starEach [b] X.env = [(false, eval b X.env)] := by rfl) :
    IK X tg (.Call (.Name "range" p) [a, b] [] pos) ρ cs tI (rng x y) (P1 ∧ P2 ∧ -16777216 ≤ x ∧ x ≤ 16777216 ∧ -(2 ^ 62) ≤ y ∧ y ≤ 16777216 ∧ y - x ≤ 16777216) := fun F σ H ok q R k => by
  refine wi (pi_range2 hg hm (pa_cons pe_w (pa_cons pe_w pa_nil hs2) (by rw [hs, hs2])) hs hs2) ?_
  refine h F σ H ok q.1 _ fun v F1 H1 g r => ?_
  refine h' F1 σ H1 (ok.grow g) q.2.1 _ fun v2 F2 H2 g2 r2 => ⟨x, y, by cases r; cases r2; rfl, (by have := q.2.2; omega), k _ F2 H2 (g.trans g2) itr_ok (by rw [rng_length, sizeLine_eq]; have := q.2.2; omega)⟩
/-- the signs of a text -/
def signs (s : Str) : List Str := s.cps.toList.map fun c => ⟨#[c]⟩
theorem strOk_sign {x : Str} {c : Nat} (h : PySem.PyData.strOk x = true) (hc : c ∈ x.cps.toList) : PySem.PyData.strOk ⟨#[c]⟩ = true := by
  unfold PySem.PyData.strOk at *
  rw [← Array.all_toList] at *
  have := List.all_eq_true.mp h c hc
  simpa using this
theorem ik_str {tg : Expr} {x : Str} {P : Prop} (h : PK X e ρ cs tS x P) : IK X tg e ρ cs tS (signs x) (P ∧ x.length ≤ sizeLine) := fun F σ H ok p R k => by
  refine wi (pi_str pe_w) ?_
  refine h F σ H ok p.1 _ fun v F1 H1 g r => ⟨x, r.1, k _ F1 H1 g (fun i F2 H2 e1 e2 => ?_) (by unfold signs; rw [List.length_map, Array.length_toList]; exact p.2)⟩
  refine ⟨fun y hy => ?_, fun hi => by unfold signs at hi; rw [List.length_map, Array.length_toList] at hi; exact hi⟩
  unfold signs at hy
  rw [List.getElem?_map] at hy
  cases q : x.cps.toList[i]? with
  | none => rw [q] at hy; cases hy
  | some c =>
    rw [q] at hy
    have hc : x.cps[i]? = some c := by simpa using q
    refine ⟨(Array.getElem?_eq_some_iff.mp hc).1, fun v2 H3 ⟨eh, c', e', ev⟩ => ?_⟩
    subst eh
    rw [hc] at e'
    cases e'
    refine ⟨F2, Grow.refl e2, ?_⟩
    have ey : (⟨#[c]⟩ : Str) = y := Option.some.inj hy
    rw [← ey]
    exact ⟨ev, strOk_sign r.2 (List.mem_of_getElem? q)⟩
/-- with its number -/
def enumF (xs : List α) : List (Int × α) := (List.range xs.length).zip xs |>.map fun p => ((p.1 : Int), p.2)
theorem enumF_get {xs : List α} {i : Nat} {y : Int × α} (h : (enumF xs)[i]? = some y) : y.1 = i ∧ xs[i]? = some y.2 := by
  unfold enumF at h
  rw [List.getElem?_map] at h
  cases q : ((List.range xs.length).zip xs)[i]? with
  | none => rw [q] at h; cases h
  | some p =>
    rw [q] at h
    have e := Option.some.inj h
    rw [List.getElem?_zip_eq_some] at q
    obtain ⟨h1, h2⟩ := q
    have hi : i < xs.length := (List.getElem?_eq_some_iff.mp h2).1
    rw [List.getElem?_range hi] at h1
    have e1 := Option.some.inj h1
    subst e
    exact ⟨by show ((p.1 : Nat) : Int) = i; rw [← e1], h2⟩
theorem enumF_length {xs : List α} : (enumF xs).length = xs.length := by
  unfold enumF
  rw [List.length_map, List.length_zip, List.length_range, Nat.min_self]
theorem grow_tup2 {K : PySem.W.Frag} {T1 : Ty K α} {T2 : Ty K β} {F H : Hp} {p : Addr} {v w : V} {x : α} {y : β} (h : Same F H) (hp : H p = none) (r1 : T1.rep F v x) (r2 : T2.rep F w y) : Grow F H (upd F p (.tup [v, w])) (upd H p (.tup [v, w])) ∧ (tP T1 T2).rep (upd F p (.tup [v, w])) (.ref p) (x, y) :=
  let g := grow_new h hp (.tup [v, w])
  ⟨g, p, _, rfl, upd_same, v, _, rfl, T1.mono g.ff r1, w, rfl, T2.mono g.ff r2⟩
theorem ik_enum {a : Expr} {T : Ty X.K α} {xs : List α} {P : Prop} {p tpos : Pos} {elts : List Expr} {kk : Nat} (hm : X.mg "enumerate" = none) (h : PK X a ρ cs (tL T) xs P) (hg : Gl X "enumerate" := by rfl) (hs : starEach [a] X.env = [(false, eval a X.env)] := by rfl) :
    IK X (.Tuple elts kk tpos) (.Call (.Name "enumerate" p) [a] [] pos) ρ cs (tP tI T) (enumF xs) P := fun F σ H ok q R k => by
  refine wi (pi_enum hg hm (pa_cons pe_w pa_nil hs) hs) ?_
  refine h F σ H ok q _ fun v F1 H1 g ⟨a, vs, e1, hq, r, z⟩ => ⟨a, vs, by rw [e1], SqL.of (g.fh _ _ hq), k _ F1 H1 g (fun i F2 H2 e1 e2 => ?_) (by rw [enumF_length, ← Rl.length r]; exact z)⟩
  have hq2 := SqL.of (K := X.K) ((e1.trans e2) _ _ hq)
  refine ⟨fun y hy => ?_, fun hi => ⟨vs, hq2, by rw [Rl.length r]; rw [enumF_length] at hi; exact hi⟩⟩
  obtain ⟨hy1, hy2⟩ := enumF_get hy
  obtain ⟨v, hv, rv⟩ := rl_get r hy2
  refine ⟨⟨vs, v, hq2, hv⟩, fun v' H3 ⟨t, x', ev, hn, eh, hx⟩ => ?_⟩
  have := (hx vs hq2).symm.trans hv
  cases this
  subst ev; subst eh
  obtain ⟨g2, r2⟩ := grow_tup2 (T1 := tI (K := X.K)) (T2 := T) (x := y.1) (y := y.2) (v := .int (i : Nat)) e2 hn (by rw [hy1]; rfl) (T.mono e1 rv)
  exact ⟨_, g2, r2⟩
theorem zip_get {xs : List α} {ys : List β} {i : Nat} {z : α × β} (h : (xs.zip ys)[i]? = some z) : xs[i]? = some z.1 ∧ ys[i]? = some z.2 := List.getElem?_zip_eq_some.mp h
theorem ik_zipL {a b : Expr} {T : Ty X.K α} {U : Ty X.K β} {xs : List α} {ys : List β} {P1 P2 : Prop} {p tpos : Pos} {elts : List Expr} {kk : Nat} (hm : X.mg "zip" = none) (h1 : PK X a ρ cs (tL T) xs P1) (h2 : PK X b ρ cs (tL U) ys P2) (hg : Gl X "zip" := by rfl)
    (hs : starEach [a, b] X.env = (false, eval a X.env) :: starEach [b] X.env := by rfl) (hs2 : starEach [b] X.env = (false, eval b X.env) :: starEach [] X.env := by rfl) (hpl : (backTo pos (starEach [b] X.env)).any (·.1) = false := by rfl) :
    IK X (.Tuple elts kk tpos) (.Call (.Name "zip" p) [a, b] [] pos) ρ cs (tP T U) (xs.zip ys) (P1 ∧ P2) := fun F σ H ok q R k => by
  refine wi (pi_zip hg hm (pa_cons pe_w (pa_cons pe_w pa_nil hs2) hs) hs hpl) ?_
  refine h1 F σ H ok q.1 _ fun v F1 H1 g1 ⟨a1, vs, e1, hq1, r1, z1⟩ => ?_
  refine h2 F1 σ H1 (ok.grow g1) q.2 _ fun w F2 H2 g2 ⟨a2, ws, e2, hq2, r2, z2⟩ => ⟨a1, a2, vs, ws, by rw [e1, e2], SqL.of ((g2.ff.trans g2.fh) _ _ hq1), SqL.of (g2.fh _ _ hq2), k _ F2 H2 (g1.trans g2) (fun i F3 H3 e3 e4 => ?_) (by rw [List.length_zip]; have := Rl.length r1; omega)⟩
  have q1 := SqL.of (K := X.K) (((g2.ff.trans e3).trans e4) _ _ hq1)
  have q2 := SqL.of (K := X.K) ((e3.trans e4) _ _ hq2)
  refine ⟨fun z hz => ?_, fun hi => ⟨vs, ws, q1, q2, by rw [Rl.length r1, Rl.length r2]; rw [List.length_zip] at hi; omega⟩⟩
  obtain ⟨hx, hy⟩ := zip_get hz
  obtain ⟨v1, hv1, rv1⟩ := rl_get r1 hx
  obtain ⟨w1, hw1, rw1⟩ := rl_get r2 hy
  refine ⟨⟨vs, ws, v1, w1, q1, q2, hv1, hw1⟩, fun v' H4 ⟨t, x', y', ev, hn, eh, hx', hy'⟩ => ?_⟩
  have t1 := (hx' vs q1).symm.trans hv1
  have t2 := (hy' ws q2).symm.trans hw1
  cases t1; cases t2
  subst ev; subst eh
  obtain ⟨g3, r3⟩ := grow_tup2 (T1 := T) (T2 := U) (x := z.1) (y := z.2) e4 hn (T.mono (g2.ff.trans e3) rv1) (U.mono e3 rw1)
  exact ⟨_, g3, r3⟩
/-! ### loops -/
/-- for tg in iter: body; z: what a turn changes -/
theorem sk_for {tg iter : Expr} {body : List Stmt} {T : Ty X.K α} {xs : List α} {P : Prop} {G : List (Slot X.K) → α → List (Slot X.K)} {vs : List Nat} (ρ' : β → List (Slot X.K)) (cs' : β → List (Cell X.K)) (z0 : β) {φb : (β → Prop) → β → α → Prop} {φr : β → Prop}
    (hp : PassesOwn (model X.prog X.w) X.A X.env X.xe) (hc : X.calm = true) (hi : IK X tg iter ρ cs T xs P) (hg : GK X tg T G vs) (hle : Le ρ (ρ' z0)) (hcs : cs = cs' z0)
    (hb : ∀ (fl' : Hp), Same fl fl' → ∀ (N : β → Prop) z x, SK X B Y fl' body (G (ρ' z) x) (cs' z) { D with nx := Mid B fl' ρ' cs' N, ct := Mid B fl' ρ' cs' N, bk := WB X rest D } (φb N z x))
    (hr : ∀ z, SK X B Y fl rest (ρ' z) (cs' z) D (φr z)) (hfo : ∀ x, foldedSetIterable iter X.env x = pure x := by intro _; rfl) :
    SK X B Y fl (.For tg iter body [] pos :: rest) ρ cs D (P ∧ ∃ I : Nat → β → Prop, I 0 z0 ∧ (∀ i z x, xs[i]? = some x → I i z → φb (I (i + 1)) z x) ∧ ∀ z, I xs.length z → φr z) := fun F σ H ok p W tk hx' => by
  subst hcs
  obtain ⟨pP, I, i0, iS, iE⟩ := p
  refine wb (pss_cons (ps_for hp hc pi_w pg_w pss_w hfo) pss_w) ?_
  refine hi F σ H ok.c.w pP _ fun J F1 H1 g it _ => ?_
  have ok1 := ok.to (ok.c.grow g)
  refine ⟨fun i m σ H => m = xs.length - i ∧ i ≤ xs.length ∧ ∃ z F2, Ok B F1 (ρ' z) (cs' z) F2 σ H ∧ I i z, ⟨xs.length, by simp, Nat.zero_le _, z0, F1, ⟨hle.env ok1.env, ok1.mv, Same.refl _⟩, i0⟩, ?_⟩
  rintro i m σ2 H2 ⟨rfl, hil, z, F2, ok2, hI⟩
  obtain ⟨go, stop⟩ := it i F2 H2 ok2.flo ok2.mv.fh
  by_cases hlt : i < xs.length
  · obtain ⟨hgo, hy⟩ := go xs[i] (List.getElem?_eq_getElem hlt)
    refine .inr ⟨hgo, Mid B F1 ρ' cs' (I (i + 1)), fun σ' H' ⟨z', F3, ok3, h3⟩ => ⟨xs.length - (i + 1), by omega, rfl, hlt, z', F3, ok3, h3⟩, fun v H3 hv => ?_⟩
    obtain ⟨F3, g3, rv⟩ := hy v H3 hv
    have ok3 := ok2.to (ok2.c.grow g3)
    refine hg F3 σ2 H3 v xs[i] (ρ' z) ok3.env ok3.mv.fh rv _ fun σ4 hρ4 _ => ?_
    exact hb F1 ok1.flo (I (i + 1)) z xs[i] F3 σ4 H3 ⟨hρ4, ok3.mv, ok3.flo⟩ (iS i z xs[i] (List.getElem?_eq_getElem hlt) hI) W tk hx'
  · exact .inl ⟨stop (by omega), hr z F2 σ2 H2 (ok2.low ok1.flo) (iE z (by rw [show xs.length = i by omega]; exact hI)) W tk hx'⟩
/-- while c: body -/
theorem sk_while {c : Expr} {body : List Stmt} (ρ' : β → List (Slot X.K)) (cs' : β → List (Cell X.K)) (z0 : β) {bv : β → Bool} {Pc : β → Prop} {φb : (β → Prop) → β → Prop} {φr : β → Prop}
    (hp : PassesOwn (model X.prog X.w) X.A X.env X.xe) (hle : Le ρ (ρ' z0)) (hcs : cs = cs' z0) (hc : ∀ z, PTK X c (ρ' z) (cs' z) (bv z) (Pc z))
    (hb : ∀ (fl' : Hp), Same fl fl' → ∀ (N : β → Prop) z, SK X B Y fl' body (ρ' z) (cs' z) { D with nx := Mid B fl' ρ' cs' N, ct := Mid B fl' ρ' cs' N, bk := WB X rest D } (φb N z))
    (hr : ∀ z, SK X B Y fl rest (ρ' z) (cs' z) D (φr z)) :
    SK X B Y fl (.While c body [] pos :: rest) ρ cs D (∃ I : Nat → β → Prop, (∃ n, I n z0) ∧ ∀ n z, I n z → Pc z ∧ (bv z = true → φb (fun z' => ∃ m, m < n ∧ I m z') z) ∧ (bv z = false → φr z)) := fun F σ H ok p W tk hx' => by
  subst hcs
  obtain ⟨I, ⟨n0, i0⟩, iS⟩ := p
  refine wb (pss_cons (ps_while hp pt_w pss_w) pss_w) ?_
  refine ⟨fun m σ H => ∃ z F2, Ok B fl (ρ' z) (cs' z) F2 σ H ∧ I m z, ⟨n0, z0, F, ⟨hle.env ok.env, ok.mv, ok.flo⟩, i0⟩, ?_⟩
  rintro m σ2 H2 ⟨z, F2, ok2, hI⟩
  obtain ⟨h1, h2, h3⟩ := iS m z hI
  refine hc z F2 σ2 H2 ok2.c.w h1 _ fun F3 H3 g => ?_
  have ok3 := ok2.to (ok2.c.grow g)
  cases hv : bv z with
  | true =>
    refine (if_pos rfl).mpr ⟨Mid B fl ρ' cs' (fun z' => ∃ k, k < m ∧ I k z'), fun σ' H' ⟨z', F4, ok4, k, hk, h4⟩ => ⟨k, hk, z', F4, ok4, h4⟩, ?_⟩
    exact hb fl (Same.refl _) _ z F3 σ2 H3 ok3 (h2 hv) W tk hx'
  | false => exact (if_neg Bool.false_ne_true).mpr (hr z F3 σ2 H3 ok3 (h3 hv) W tk hx')
end
end MD
namespace MD
open PySem PySem.Spec PyProof.Rows L2
section
variable {X : Cx} {fl : Hp} {B : Hb X.K} {Y : Ec X.K} {ρ : List (Slot X.K)} {cs : List (Cell X.K)} {α β γ μ ν : Type} {pos : Pos} {rest : List Stmt} {D : Ends} {e : Expr}
/-! ### new lists -/
/-- e makes a new list of xs -/
def NK (X : Cx) (e : Expr) (ρ : List (Slot X.K)) (cs : List (Cell X.K)) (T : Ty X.K α) (xs : List α) (P : Prop) : Prop :=
  ∀ F σ H, Okw ρ cs F σ H → P → ∀ Q : VK, (∀ a vs F' H', Grow F H F' H' → H a = none → F' a = none → H' a = some (.lst vs) → Rl T F' vs xs → vs.length ≤ sizeLine → Q (.ref a) H') → WE X e σ H Q
def NE (X : Cx) (Y : Ec X.K) (e : Expr) (ρ : List (Slot X.K)) (cs : List (Cell X.K)) {μ α : Type} (T : Ty X.K α) (vl : μ → List α) (cs' : μ → List (Cell X.K)) (M : (μ → Prop) → Prop) : Prop :=
  ∀ F σ H, Okc ρ cs F σ H → Xh X Y cs F σ H → ∀ φ : μ → Prop, M φ → ∀ Q : VK, (∀ y a vs F' H', Mv cs F H (cs' y) F' H' → H a = none → F' a = none → H' a = some (.lst vs) → (∀ c ∈ cs' y, c.a ≠ a) → Rl T F' vs (vl y) → vs.length ≤ sizeLine → φ y → Q (.ref a) H') → WE X e σ H Q
theorem frz_grow {F H F' H' : Hp} {a : Addr} {o : HO} (g : Grow F H F' H') (hH : H a = none) (hF : F' a = none) (ho : H' a = some o) : Grow F H (upd F' a o) H' where
  ff := fun b u e => by
    have : b ≠ a := fun z => by rw [z] at e; rw [g.ff _ _ e] at hF; cases hF
    rw [upd_ne this]; exact g.ff _ _ e
  fh := fun b u e => by
    by_cases z : b = a
    · subst z; rw [upd_same] at e; cases e; exact ho
    · rw [upd_ne z] at e; exact g.fh _ _ e
  hh := g.hh
  fr := fun b h1 h2 => by
    by_cases z : b = a
    · subst z; exact hH
    · rw [upd_ne z] at h2; exact g.fr b h1 h2
theorem same_upd {F : Hp} {a : Addr} {o : HO} (h : F a = none) : Same F (upd F a o) := fun b u e => by
  have : b ≠ a := fun z => by rw [z, h] at e; cases e
  rw [upd_ne this]; exact e
theorem NK.pk {T : Ty X.K α} {xs : List α} {P : Prop} (h : NK X e ρ cs T xs P) : PK X e ρ cs (tL T) xs P := fun F σ H ok p Q k =>
  h F σ H ok p Q fun a vs F' H' g hH hF ho r z => k _ _ _ (frz_grow g hH hF ho) ⟨a, vs, rfl, upd_same, r.mono (same_upd hF), z⟩
theorem NK.ne {T : Ty X.K α} {xs : List α} {P : Prop} (h : NK X e ρ cs T xs P) : NE X Y e ρ cs T (fun _ : Unit => xs) (fun _ => cs) (fun φ => P ∧ φ ()) := fun F σ H ok xh φ p Q k =>
  h F σ H ok.w p.1 Q fun a vs F' H' g hH hF ho r z => k () a vs F' H' (ok.grow g) hH hF ho (fun c hc e => by
    obtain ⟨_, o, e1, _⟩ := ok.cell c hc
    rw [e, hH] at e1; cases e1) r z p.2
theorem frz_mv {cs cs' : List (Cell X.K)} {F H F' H' : Hp} {a : Addr} {o : HO} (m : Mv cs F H cs' F' H') (hH : H a = none) (hF : F' a = none) (ho : H' a = some o) (hn : ∀ c ∈ cs', c.a ≠ a) : Mv cs F H cs' (upd F' a o) H' where
  ff := m.ff.trans (same_upd hF)
  fh := fun b u e => by
    by_cases z : b = a
    · subst z; rw [upd_same] at e; cases e; exact ho
    · rw [upd_ne z] at e; exact m.fh _ _ e
  fr := fun b h1 h2 => by
    by_cases z : b = a
    · subst z; exact hH
    · rw [upd_ne z] at h2; exact m.fr b h1 h2
  kp := m.kp
  cell := fun c hc => by
    obtain ⟨n, u, e, r⟩ := m.cell c hc
    exact ⟨by rw [upd_ne (hn c hc)]; exact n, u, e, c.ck.mono (same_upd hF) r⟩
  nd := m.nd
  nw := m.nw
  st := m.st
theorem NE.ek {T : Ty X.K α} {vl : μ → List α} {cs' : μ → List (Cell X.K)} {M : (μ → Prop) → Prop} (h : NE X Y e ρ cs T vl cs' M) : EK X Y e ρ cs (tL T) vl cs' M := fun F σ H ok xh φ p Q k =>
  h F σ H ok xh φ p Q fun y a vs F' H' m hH hF ho hn r z q => k y _ _ _ (frz_mv m hH hF ho hn) ⟨a, vs, rfl, upd_same, r.mono (same_upd hF), z⟩ q
/-- as a cell, the last one -/
theorem new_mv {T : Ty X.K α} {xs : List α} {cs cs' : List (Cell X.K)} {F H F' H' : Hp} {a : Addr} {vs : List V} (m : Mv cs F H cs' F' H') (hH : H a = none) (hF : F' a = none) (ho : H' a = some (.lst vs)) (hn : ∀ c ∈ cs', c.a ≠ a) (r : Rl T F' vs xs) (z : vs.length ≤ sizeLine) :
    Mv cs F H (cs' ++ [⟨a, cL T xs⟩]) F' H' where
  ff := m.ff
  fh := m.fh
  fr := m.fr
  kp := m.kp
  cell := fun c hc => by
    rcases List.mem_append.mp hc with hc | hc
    · exact m.cell c hc
    · obtain rfl := List.mem_singleton.mp hc
      exact ⟨hF, _, ho, vs, rfl, r, z⟩
  nd := by
    rw [List.map_append]
    refine List.nodup_append.mpr ⟨m.nd, by simp, fun x hx y hy => ?_⟩
    obtain ⟨c, hc, rfl⟩ := List.mem_map.mp hx
    have : y = a := by simpa using hy
    rw [this]; exact hn c hc
  nw := fun c hc => by
    rcases List.mem_append.mp hc with hc | hc
    · exact m.nw c hc
    · obtain rfl := List.mem_singleton.mp hc
      exact .inr hH
  st := m.st
theorem NE.own {T : Ty X.K α} {vl : μ → List α} {cs' : μ → List (Cell X.K)} {M : (μ → Prop) → Prop} (h : NE X Y e ρ cs T vl cs' M) :
    EK X Y e ρ cs tR (fun y : μ × Addr × List α => y.2.1) (fun y => cs' y.1 ++ [⟨y.2.1, cL T y.2.2⟩]) (fun φ => M fun y => ∀ a z, z = vl y → φ (y, a, z)) := fun F σ H ok xh φ p Q k =>
  h F σ H ok xh _ p Q fun y a vs F' H' m hH hF ho hn r z q => k (y, a, vl y) _ _ _ (new_mv m hH hF ho hn r z) rfl (q a _ rfl)
/-- a display -/
theorem nk_lst {es : List Expr} {T : Ty X.K α} {x : List α} {P : Prop} (h : PAK X es ρ cs (tsL T) x P) (hl : x.length ≤ 1000 := by decide) : NK X (.List es pos) ρ cs T x P := fun F σ H ok p Q k => by
  refine we (pe_lst pa_w) ?_
  refine h F σ H ok p _ fun vs F1 H1 g1 r1 => ?_
  have hz : vs.length ≤ sizeLine := Nat.le_trans (by rw [Rl.length r1]; exact hl) (by decide)
  refine ⟨hz, fun q hq => ?_⟩
  have hF : F1 q = none := by
    cases e : F1 q with
    | none => rfl
    | some u => rw [g1.fh _ _ e] at hq; cases hq
  refine k q vs F1 _ ⟨g1.ff, fun b u e => ?_, fun b u e => ?_, g1.fr⟩ (g1.hh.free hq) hF upd_same r1 hz
  · have : b ≠ q := fun z => by rw [z, hF] at e; cases e
    rw [upd_ne this]; exact g1.fh _ _ e
  · have : b ≠ q := fun z => by rw [z, g1.hh.free hq] at e; cases e
    rw [upd_ne this]; exact g1.hh _ _ e
/-- a call that hands back a new list -/
theorem grow_upd {F H F1 H1 : Hp} {q : Addr} {o : HO} (g1 : Grow F H F1 H1) (hq : H1 q = none) : Grow F H F1 (upd H1 q o) ∧ F1 q = none := by
  have hF : F1 q = none := by
    cases e : F1 q with
    | none => rfl
    | some u => rw [g1.fh _ _ e] at hq; cases hq
  refine ⟨⟨g1.ff, fun b u e => ?_, fun b u e => ?_, g1.fr⟩, hF⟩
  · have : b ≠ q := fun z => by rw [z, hF] at e; cases e
    rw [upd_ne this]; exact g1.fh _ _ e
  · have : b ≠ q := fun z => by rw [z, g1.hh.free hq] at e; cases e
    rw [upd_ne this]; exact g1.hh _ _ e
/-! ### what is walked, with effects ahead -/
def IE (X : Cx) (Y : Ec X.K) (tg iter : Expr) (ρ : List (Slot X.K)) (cs : List (Cell X.K)) {μ α : Type} (T : Ty X.K α) (xs : μ → List α) (cs' : μ → List (Cell X.K)) (M : (μ → Prop) → Prop) : Prop :=
  ∀ F σ H, Okc ρ cs F σ H → Xh X Y cs F σ H → ∀ φ : μ → Prop, M φ → ∀ R : It → Hp → Prop, (∀ y J F' H', Mv cs F H (cs' y) F' H' → ItOk T J F' (xs y) → (xs y).length ≤ sizeLine → φ y → R J H') → WI X tg iter σ H R
theorem IK.ie {tg iter : Expr} {T : Ty X.K α} {xs : List α} {P : Prop} (h : IK X tg iter ρ cs T xs P) : IE X Y tg iter ρ cs T (fun _ : Unit => xs) (fun _ => cs) (fun φ => P ∧ φ ()) := fun F σ H ok xh φ p R k =>
  h F σ H ok.w p.1 R fun J F' H' g it z => k () J F' H' (ok.grow g) it z p.2
theorem ie_range1 {tg a : Expr} {vl : μ → Int} {cs' : μ → List (Cell X.K)} {M : (μ → Prop) → Prop} {p : Pos} (hm : X.mg "range" = none) (h : EK X Y a ρ cs tI vl cs' M) (hg : Gl X "range" := by rfl) (hs : starEach [a] X.env = [(false, eval a X.env)] := by rfl) :
    IE X Y tg (.Call (.Name "range" p) [a] [] pos) ρ cs tI (fun y => rng 0 (vl y)) cs' (fun φ => M fun y => -(2 ^ 62) ≤ vl y ∧ vl y ≤ 16777216 ∧ φ y) := fun F σ H ok xh φ q R k => by
  refine wi (pi_range1 hg hm (pa_cons pe_w pa_nil hs) hs) ?_
  refine h F σ H ok xh _ q _ fun y v F1 H1 m r q2 => ⟨vl y, by cases r; rfl, q2.1, by have := q2.2.1; omega, k y _ F1 H1 m ?_ (by rw [rng_length, sizeLine_eq]; have := q2.2.1; omega) q2.2.2⟩
  have := itr_ok (K := X.K) (F := F1) (a := 0) (b := vl y)
  rw [show (vl y - 0).toNat = (vl y).toNat by rw [Int.sub_zero]] at this
  exact this
/-! ### comprehensions -/
def TsK (X : Cx) (Y : Ec X.K) (ifs : List Expr) (ρ : List (Slot X.K)) (cs : List (Cell X.K)) {μ : Type} (vl : μ → Bool) (cs' : μ → List (Cell X.K)) (M : (μ → Prop) → Prop) : Prop :=
  ∀ F σ H, Okc ρ cs F σ H → Xh X Y cs F σ H → ∀ φ : μ → Prop, M φ → ∀ Q : Bool → Hp → Prop, (∀ y F' H', Mv cs F H (cs' y) F' H' → φ y → Q (vl y) H') → WTs X ifs σ H Q
theorem ts_0 : TsK X Y [] ρ cs (fun _ : Unit => true) (fun _ => cs) (fun φ => φ ()) := fun F σ H ok xh φ p Q k => wts pts_nil (k () F H ok.refl p)
theorem ts_1 {c : Expr} {vl : μ → Bool} {cs' : μ → List (Cell X.K)} {M : (μ → Prop) → Prop} (h : TK X Y c ρ cs vl cs' M) : TsK X Y [c] ρ cs vl cs' M := fun F σ H ok xh φ p Q k => wts (pts_one pt_w) (h F σ H ok xh φ p Q k)
def wipeS (ρ : List (Slot X.K)) : List Nat → List (Slot X.K)
  | [] => ρ
  | v :: vs => (wipeS ρ vs).set v .un
theorem wipe_prd {F : Hp} {σ : L2.St} (h : Prd (Slot.ok F) ρ σ) : ∀ vs : List Nat, Prd (Slot.ok F) (wipeS ρ vs) (wipe σ vs)
  | [] => h
  | v :: vs => (wipe_prd h vs).set (R := Slot.ok F) (x := .un) (u := none) trivial v
/-- no exception -/
abbrev Y0 (K : PySem.W.Frag) : Ec K := ⟨[], fun _ => False⟩
theorem xh0 {F H : Hp} {σ : L2.St} : Xh X (Y0 X.K) cs F σ H := ⟨fun _ _ _ _ => False, takes0, fun _ _ _ _ _ _ _ _ _ e => e.elim⟩
/-- the reading of a comprehension, its parts by their weakest readings -/
def gBlk (X : Cx) (tg : Expr) (scope : Scope) : TG := fun v σ H Q => ∀ (s : Shared) (H0 : Hp) (C : Addr) (cl : List (Str × Addr)) (fp : List Addr), WG (X.blk s H0 scope (compEnvC scope cl C X.env) fp) tg v σ H Q
def ttBlk (X : Cx) (ifs : List Expr) (scope : Scope) : TT := fun σ H Q => ∀ (s : Shared) (H0 : Hp) (C : Addr) (cl : List (Str × Addr)) (fp : List Addr), WTs (X.blk s H0 scope (compEnvC scope cl C X.env) fp) ifs σ H Q
def teBlk (X : Cx) (elt : Expr) (scope : Scope) : TE := fun σ H Q => ∀ (s : Shared) (H0 : Hp) (C : Addr) (cl : List (Str × Addr)) (fp : List Addr), WE (X.blk s H0 scope (compEnvC scope cl C X.env) fp) elt σ H Q
theorem pg_blk {tg : Expr} {scope : Scope} (s : Shared) (H : Hp) (C : Addr) (cl : List (Str × Addr)) (fp : List Addr) : PG (X.blk s H scope (compEnvC scope cl C X.env) fp) tg (gBlk X tg scope) := ⟨fun pins s' σ H1 v u Q I r h => h s H C cl fp pins s' u I r⟩
theorem pts_blk {ifs : List Expr} {scope : Scope} (s : Shared) (H : Hp) (C : Addr) (cl : List (Str × Addr)) (fp : List Addr) : PTs (X.blk s H scope (compEnvC scope cl C X.env) fp) ifs (ttBlk X ifs scope) := ⟨fun pins s' σ H1 Q I h => h s H C cl fp pins s' I⟩
theorem pe_blk {elt : Expr} {scope : Scope} (s : Shared) (H : Hp) (C : Addr) (cl : List (Str × Addr)) (fp : List Addr) : PE (X.blk s H scope (compEnvC scope cl C X.env) fp) elt (teBlk X elt scope) := ⟨fun pins s' σ H1 Q I h => h s H C cl fp pins s' I⟩
def tLcW (X : Cx) (elt tg iter : Expr) (ifs : List Expr) (scope : Scope) (own : List (Str × Nat)) : TE := tLc (WI X tg iter) (gBlk X tg scope) (ttBlk X ifs scope) (teBlk X elt scope) (own.map (·.2))
/-- a comprehension that makes a new list -/
def LcK (X : Cx) (Y : Ec X.K) (elt tg iter : Expr) (ifs : List Expr) (scope : Scope) (own : List (Str × Nat)) (ρ : List (Slot X.K)) (cs : List (Cell X.K)) {μ α : Type} (T : Ty X.K α) (vl : μ → List α) (cs' : μ → List (Cell X.K)) (M : (μ → Prop) → Prop) : Prop :=
  ∀ F σ H, Okc ρ cs F σ H → Xh X Y cs F σ H → ∀ φ : μ → Prop, M φ → ∀ Q : VK, (∀ y a vs F' H', Mv cs F H (cs' y) F' H' → H a = none → F' a = none → H' a = some (.lst vs) → (∀ c ∈ cs' y, c.a ≠ a) → Rl T F' vs (vl y) → vs.length ≤ sizeLine → φ y → Q (.ref a) H') → tLcW X elt tg iter ifs scope own σ H Q
theorem lc_k {elt tg iter : Expr} {ifs : List Expr} {scope : Scope} {own : List (Str × Nat)} {T : Ty X.K α} {U : Ty X.K γ} {xs : μ → List α} {cs1 : μ → List (Cell X.K)} {Mi : (μ → Prop) → Prop} {G : List (Slot X.K) → α → List (Slot X.K)} {vs : List Nat}
    {τ : β → α → Type} {υ : (z : β) → (x : α) → τ z x → Type} {cs' : β → List (Cell X.K)} {z0 : μ → β} {bt : (z : β) → (x : α) → τ z x → Bool} {s1 : (z : β) → (x : α) → τ z x → β} {Mt : (z : β) → (x : α) → (τ z x → Prop) → Prop}
    {vl : (z : β) → (x : α) → (y : τ z x) → υ z x y → γ} {s2 : (z : β) → (x : α) → (y : τ z x) → υ z x y → β} {Me : (z : β) → (x : α) → (y : τ z x) → (υ z x y → Prop) → Prop}
    (hi : IE X Y tg iter ρ cs T xs cs1 Mi) (hz : ∀ y, cs1 y = cs' (z0 y)) (hvs : ∀ j ∈ vs, j ∈ own.map (·.2))
    (hg : ∀ (s : Shared) (H : Hp) (C : Addr) (cl : List (Str × Addr)) (fp : List Addr), GK (X.blk s H scope (compEnvC scope cl C X.env) fp) tg T G vs)
    (ht : ∀ (s : Shared) (H : Hp) (C : Addr) (cl : List (Str × Addr)) (fp : List Addr) (z : β) (x : α), TsK (X.blk s H scope (compEnvC scope cl C X.env) fp) (Y0 X.K) ifs (G (wipeS ρ (own.map (·.2))) x) (cs' z) (bt z x) (fun y => cs' (s1 z x y)) (Mt z x))
    (he : ∀ (s : Shared) (H : Hp) (C : Addr) (cl : List (Str × Addr)) (fp : List Addr) (z : β) (x : α) (y : τ z x), EK (X.blk s H scope (compEnvC scope cl C X.env) fp) (Y0 X.K) elt (G (wipeS ρ (own.map (·.2))) x) (cs' (s1 z x y)) U (vl z x y) (fun u => cs' (s2 z x y u)) (Me z x y)) :
    LcK X Y elt tg iter ifs scope own ρ cs U (fun y : List γ × β => y.1) (fun y => cs' y.2) (fun φ => Mi fun w => ∃ I : Nat → List γ → β → Prop, I 0 [] (z0 w) ∧
      (∀ i acc z x, (xs w)[i]? = some x → I i acc z → Mt z x fun y => (bt z x y = true → Me z x y fun u => I (i + 1) (acc ++ [vl z x y u]) (s2 z x y u)) ∧ (bt z x y = false → I (i + 1) acc (s1 z x y))) ∧ ∀ acc z, I (xs w).length acc z → φ (acc, z)) := fun F σ H ok0 xh φ p Q k => by
  refine hi F σ H ok0 xh _ p _ fun w J F1 H1 m1 it hsz q => ?_
  obtain ⟨I, i0, iS, iE⟩ := q
  refine fun D hD => ⟨fun i m H2 => m = (xs w).length - i ∧ i ≤ (xs w).length ∧ ∃ z acc F2 us, Mv cs F H (cs' z) F2 H2 ∧ Same F1 F2 ∧ F2 D = none ∧ H2 D = some (.lst us) ∧ (∀ c ∈ cs' z, c.a ≠ D) ∧ Rl U F2 us acc ∧ us.length ≤ i ∧ I i acc z, ⟨(xs w).length, by simp, Nat.zero_le _, ?_⟩, ?_⟩
  · have hF : F1 D = none := by
      cases e : F1 D with
      | none => rfl
      | some u => rw [m1.fh _ _ e] at hD; cases hD
    have nD : ∀ c ∈ cs' (z0 w), c.a ≠ D := fun c hcm e => by
      rw [← hz] at hcm
      obtain ⟨_, o, e1, _⟩ := m1.cell c hcm
      rw [e, hD] at e1; cases e1
    refine ⟨z0 w, [], F1, [], ?_, Same.refl _, hF, upd_same, nD, .nil, Nat.zero_le _, i0⟩
    rw [← hz] at nD ⊢
    exact ⟨m1.ff, (fun b u e => by
        have : b ≠ D := fun z => by rw [z, hF] at e; cases e
        rw [upd_ne this]; exact m1.fh _ _ e), m1.fr, (fun b u e n => by
        have h1 := m1.kp b u e n
        have : b ≠ D := fun z => by rw [z, hD] at h1; cases h1
        rw [upd_ne this]; exact h1), (fun c hcm => by
        obtain ⟨n, o, e1, r⟩ := m1.cell c hcm
        exact ⟨n, o, by rw [upd_ne (nD c hcm)]; exact e1, r⟩), m1.nd, m1.nw, (fun c hcm e => by
        by_cases h : c.a = D
        · rw [h, upd_same] at e; cases e
        · rw [upd_ne h] at e; exact m1.st c hcm e)⟩
  · rintro i m H2 ⟨rfl, hil, z, acc, F2, us, m2, e12, hF2, hH2, nD, rl, hul, hI⟩
    have hHD : H D = none := by
      cases e : H D with
      | none => rfl
      | some u =>
        by_cases hx : ∃ c ∈ cs, c.a = D
        · obtain ⟨c, hcm, rfl⟩ := hx
          exact absurd hD (m1.st c hcm)
        · rw [m1.kp D u e fun c hcm e => hx ⟨c, hcm, e⟩] at hD; cases hD
    obtain ⟨go, stop⟩ := it i F2 H2 e12 m2.fh
    by_cases hlt : i < (xs w).length
    · obtain ⟨hgo, hy⟩ := go (xs w)[i] (List.getElem?_eq_getElem hlt)
      refine .inr ⟨hgo, fun H3 => ∃ z acc F3 us, Mv cs F H (cs' z) F3 H3 ∧ Same F1 F3 ∧ F3 D = none ∧ H3 D = some (.lst us) ∧ (∀ c ∈ cs' z, c.a ≠ D) ∧ Rl U F3 us acc ∧ us.length ≤ i + 1 ∧ I (i + 1) acc z, fun H3 h => ⟨(xs w).length - (i + 1), by omega, rfl, hlt, h⟩, fun v H3 hv => ?_⟩
      obtain ⟨F3, g3, rv⟩ := hy v H3 hv
      have ok2 : Okc ρ (cs' z) F2 σ H2 := ok0.mv m2
      have m23 := ok2.grow g3
      have ok3 := ok2.mv m23
      have step := iS i acc z (xs w)[i] (List.getElem?_eq_getElem hlt) hI
      -- D stands through whatever the cells do
      have keepD : ∀ {ca cb : List (Cell X.K)} {Fa Ha Fb Hb : Hp}, Mv ca Fa Ha cb Fb Hb → Fa D = none → Ha D = some (.lst us) → (∀ c ∈ ca, c.a ≠ D) → Fb D = none ∧ Hb D = some (.lst us) ∧ ∀ c ∈ cb, c.a ≠ D := fun {ca cb Fa Ha Fb Hb} mm h1 h2 h3 => by
        refine ⟨?_, mm.kp D _ h2 h3, fun c hcm e => ?_⟩
        · cases e : Fb D with
          | none => rfl
          | some u =>
            have := mm.fr D h1 (by rw [e]; simp)
            rw [h2] at this; cases this
        · rcases mm.nw c hcm with ⟨c0, h0, e0⟩ | h0
          · exact h3 c0 h0 (e0.trans e)
          · rw [e, h2] at h0; cases h0
      have d3 := keepD m23 hF2 hH2 nD
      intro s0 H0 C cl fp
      refine hg s0 H0 C cl fp F3 _ H3 v (xs w)[i] _ (wipe_prd ok3.env (own.map (·.2))) ok3.same rv _ ?_
      intro σ4 hρ4 hw4
      refine ⟨?_, ?_⟩
      · rw [hw4 _ hvs]
        have idem : ∀ (l l' : List Nat) (σ : L2.St), (∀ j ∈ l, j ∈ l') → wipe (wipe σ l) l' = wipe σ l' := by
          intro l
          induction l with
          | nil => intro l' σ _; rfl
          | cons j l ih =>
            intro l' σ h
            show wipe ((wipe σ l).set j none) l' = _
            rw [wipe_set l' _ (h j (by simp))]
            exact ih l' σ fun x hx => h x (List.mem_cons_of_mem _ hx)
        exact idem _ _ σ fun _ h => h
      have ok4 : Okc (G (wipeS ρ (own.map (·.2))) (xs w)[i]) (cs' z) F3 σ4 H3 := ⟨hρ4, ok3.same, ok3.cell, ok3.nd⟩
      intro s0 H0 C cl fp
      refine ht s0 H0 C cl fp z (xs w)[i] F3 σ4 H3 ok4 xh0 _ step _ fun y F5 H5 m5 q5 => ?_
      have d5 := keepD m5 d3.1 d3.2.1 d3.2.2
      have m05 := (m2.trans m23).trans m5
      cases hb : bt z (xs w)[i] y with
      | false =>
        exact (if_neg Bool.false_ne_true).mpr ⟨_, acc, F5, us, m05, (e12.trans g3.ff).trans m5.ff, d5.1, d5.2.1, d5.2.2, rl.mono (g3.ff.trans m5.ff), by omega, q5.2 hb⟩
      | true =>
        refine (if_pos rfl).mpr ?_
        intro s0 H0 C cl fp
        refine he s0 H0 C cl fp z (xs w)[i] y F5 σ4 H5 (ok4.mv m5) xh0 _ (q5.1 hb) _ fun u v6 F6 H6 m6 r6 q6 => ?_
        have d6 := keepD m6 d5.1 d5.2.1 d5.2.2
        refine ⟨us, d6.2.1, Nat.lt_of_le_of_lt hul (Nat.lt_of_lt_of_le hlt hsz), _, acc ++ [vl z (xs w)[i] y u], F6, us ++ [v6], ?_, ((e12.trans g3.ff).trans m5.ff).trans m6.ff, d6.1, upd_same, d6.2.2, Rl.append (rl.mono ((g3.ff.trans m5.ff).trans m6.ff)) (.cons r6 .nil), by rw [List.length_append, List.length_singleton]; omega, q6⟩
        have mm := m05.trans m6
        exact ⟨mm.ff, (fun b u e => by
            have : b ≠ D := fun z => by rw [z, d6.1] at e; cases e
            rw [upd_ne this]; exact mm.fh _ _ e), mm.fr, (fun b u e n => by
            have : b ≠ D := fun z => by rw [z, hHD] at e; cases e
            rw [upd_ne this]; exact mm.kp b u e n), (fun c hcm => by
            obtain ⟨n, o, e1, r⟩ := mm.cell c hcm
            exact ⟨n, o, by rw [upd_ne (d6.2.2 c hcm)]; exact e1, r⟩), mm.nd, mm.nw, (fun c hcm e => by
            by_cases h : c.a = D
            · rw [h, upd_same] at e; cases e
            · rw [upd_ne h] at e; exact mm.st c hcm e)⟩
    · refine .inl ⟨stop (by omega), ?_⟩
      have hl : i = (xs w).length := by omega
      exact k (acc, z) D us F2 H2 m2 hHD hF2 hH2 nD rl (by omega) (iE acc z (by rw [← hl]; exact hI))
/-- .. as a value -/
theorem ne_lc {elt tg iter : Expr} {ifs : List Expr} {scope : Scope} {own : List (Str × Nat)} {T : Ty X.K α} {vl : μ → List α} {cs' : μ → List (Cell X.K)} {M : (μ → Prop) → Prop} (hc : X.calm = true) (hN : X.N.Nodup) (ok : BlkOk X.N X.env.scope scope own) (h : LcK X Y elt tg iter ifs scope own ρ cs T vl cs' M)
    (hfo : ∀ x, foldedSetIterable iter X.env x = pure x := by intro _; rfl) : NE X Y (.ListComp elt [⟨tg, iter, ifs, 0⟩] scope pos) ρ cs T vl cs' M := fun F σ H ok0 xh φ p Q k =>
  we (pe_lc hc hN pi_w ok pg_blk pts_blk pe_blk hfo) (h F σ H ok0 xh φ p Q k)
/-- y = [..], frozen -/
theorem sk_setLc {i : Nat} {nm : Str} {py : Pos} {elt tg iter : Expr} {ifs : List Expr} {scope : Scope} {own : List (Str × Nat)} {T : Ty X.K α} {vl : μ → List α} {cs' : μ → List (Cell X.K)} {M : (μ → Prop) → Prop} {spos : Pos} {φ : μ → List α → Prop} (hc : X.calm = true) (hN : X.N.Nodup) (ok : BlkOk X.N X.env.scope scope own) (h : LcK X Y elt tg iter ifs scope own ρ cs T vl cs' M)
    (k : ∀ y z, SK X B Y fl rest (ρ.set i (.val (tL T) z)) (cs' y) D (φ y z)) (hy : X.N[i]? = some nm := by rfl) (hyl : X.env.scope.names.lookup nm = some .local := by rfl)
    (hsw : swapsWith (.ListComp elt [⟨tg, iter, ifs, 0⟩] scope pos) (some (.Name nm py)) spos.line X.env = pure true := by exact sw_true rfl rfl rfl (by decide +kernel))
    (hfo : ∀ x, foldedSetIterable iter X.env x = pure x := by intro _; rfl) :
    SK X B Y fl (.Assign [.Name nm py] (.ListComp elt [⟨tg, iter, ifs, 0⟩] scope pos) spos :: rest) ρ cs D (M fun y => ∀ z, z = vl y → φ y z) := fun F σ H ok0 p W tk hx' => by
  refine wb (pss_cons (ps_setLc hc hN hy hyl hsw pi_w ok pg_blk pts_blk pe_blk hfo) pss_w) ?_
  refine h F σ H ok0.c (xh_of ok0 tk hx') _ p _ fun y a vs F' H' m hH hF ho hn r z q => ?_
  have m2 := frz_mv m hH hF ho hn
  have ok1 := ok0.to m2
  exact k y (vl y) _ _ H' (ok1.set i ⟨a, vs, rfl, upd_same, r.mono (same_upd hF), z⟩) (q _ rfl) W tk hx'
/-! ### statements with cells -/
/-- x = a new owned list -/
theorem sk_setN {i : Nat} {nm : Str} {pos' : Pos} {T : Ty X.K α} {vl : μ → List α} {cs' : μ → List (Cell X.K)} {M : (μ → Prop) → Prop} {φ : μ → Addr → List α → Prop} (hN : X.N.Nodup) (he : NE X Y e ρ cs T vl cs' M) (k : ∀ y a z, SK X B Y fl rest (ρ.set i (.val tR a)) (cs' y ++ [⟨a, cL T z⟩]) D (φ y a z)) (hi : X.N[i]? = some nm := by rfl)
    (hx : Loc X.env.scope nm := by first | exact Or.inl rfl | exact Or.inr rfl)
    (hs : swapsWith e (some (.Name nm pos')) pos.line X.env = pure false := by rfl) (hf : X.fn nm = true ∨ X.env.scope.names.lookup nm = some .local := by first | exact .inl rfl | exact .inr rfl) :
    SK X B Y fl (.Assign [.Name nm pos'] e pos :: rest) ρ cs D (M fun y => ∀ a z, z = vl y → φ y a z) := fun F σ H ok p W tk hx' => by
  refine wb (pss_cons (ps_set hN hi hx pe_w hs hf) pss_w) ?_
  refine he F σ H ok.c (xh_of ok tk hx') _ p _ fun y a vs F' H' m hH hF ho hn r z q => ?_
  have ok1 := ok.to (new_mv m hH hF ho hn r z)
  exact k y a (vl y) F' _ H' (ok1.set (T := tR) i rfl) (q a _ rfl) W tk hx'
/-- a cell's content gets a name -/
theorem sk_name {st : List Stmt} {T : Ty X.K α} {l : Addr} {x : List α} {φ : List α → Prop} (j : Nat) (hc : cs[j]? = some ⟨l, cL T x⟩) (k : ∀ w, SK X B Y fl st ρ (cs.set j ⟨l, cL T w⟩) D (φ w)) : SK X B Y fl st ρ cs D (∀ w, w = x → φ w) := fun F σ H ok p W tk hx' => by
  have e : cs.set j ⟨l, cL T x⟩ = cs := by
    apply List.ext_getElem?
    intro n
    by_cases hn : j = n
    · subst hn
      rw [List.getElem?_set_self (List.getElem?_eq_some_iff.mp hc).1, hc]
    · rw [List.getElem?_set_ne hn]
  have q := k x
  rw [e] at q
  exact q F σ H ok (p x rfl) W tk hx'
/-- the cell at j is written no more: frozen; it was made here -/
theorem sk_freeze {st : List Stmt} {T : Ty X.K α} {l : Addr} {x : List α} {φ : Prop} (j i : Nat) (hc : cs[j]? = some ⟨l, cL T x⟩) (hρ : ρ[i]? = some (.val tR l)) (hB : (cs.map Cell.a).take B.cin.length = B.cin.map Cell.a) (hj : B.cin.length ≤ j) (k : SK X B Y fl st (ρ.set i (.val (tL T) x)) (cs.eraseIdx j) D φ) : SK X B Y fl st ρ cs D φ := fun F σ H ok p W tk hx' => by
  have hm : ⟨l, cL T x⟩ ∈ cs := List.mem_of_getElem? hc
  obtain ⟨hF, o, ho, vs, e, r, z⟩ := ok.mv.cell _ hm
  subst e
  have hlt : j < cs.length := (List.getElem?_eq_some_iff.mp hc).1
  have inj : ∀ (n : Nat) (d : Cell X.K), cs[n]? = some d → d.a = l → n = j := fun n d e z => by
    have e1 : (cs.map Cell.a)[n]? = some l := by rw [List.getElem?_map, e]; exact congrArg some z
    have e2 : (cs.map Cell.a)[j]? = some l := by rw [List.getElem?_map, hc]; rfl
    obtain ⟨h1, q1⟩ := List.getElem?_eq_some_iff.mp e1
    obtain ⟨h2, q2⟩ := List.getElem?_eq_some_iff.mp e2
    exact (List.getElem_inj ok.mv.nd).mp (q1.trans q2.symm)
  have notin : ∀ c ∈ B.cin, c.a ≠ l := fun c hcm e => by
    have h1 : c.a ∈ (cs.map Cell.a).take B.cin.length := by rw [hB]; exact List.mem_map.mpr ⟨c, hcm, rfl⟩
    obtain ⟨n, hn⟩ := List.getElem?_of_mem h1
    have hnl : n < B.cin.length := by
      have := (List.getElem?_eq_some_iff.mp hn).1
      rw [List.length_take] at this
      omega
    rw [List.getElem?_take_of_lt hnl, List.getElem?_map] at hn
    cases q : cs[n]? with
    | none => rw [q] at hn; cases hn
    | some d =>
      rw [q] at hn
      have : n = j := inj n d q ((Option.some.inj hn).trans e)
      omega
  have fresh : B.H0 l = none := by
    rcases ok.mv.nw _ hm with ⟨c0, h0, e0⟩ | h0
    · exact absurd e0 (notin c0 h0)
    · exact h0
  have sF : Same F (upd F l (.lst vs)) := same_upd hF
  have rest_ne : ∀ c ∈ cs.eraseIdx j, c ∈ cs ∧ c.a ≠ l := fun c hcm => by
    refine ⟨List.mem_of_mem_eraseIdx hcm, fun e => ?_⟩
    obtain ⟨n, hn⟩ := List.getElem?_of_mem hcm
    rw [List.getElem?_eraseIdx] at hn
    split at hn
    · have := inj n c hn e; omega
    · have := inj (n + 1) c hn e; omega
  have ok2 : Ok B fl (ρ.set i (.val (tL T) x)) (cs.eraseIdx j) (upd F l (.lst vs)) σ H := by
    obtain ⟨u, hu, hs⟩ := ok.env.get hρ
    obtain ⟨v, ev, rv⟩ := hs
    subst ev
    have hv : v = .ref l := rv
    subst hv
    have e1 : σ.set i (some (.ref l)) = σ := by
      apply List.ext_getElem?
      intro n
      by_cases hn : i = n
      · subst hn
        rw [List.getElem?_set_self (List.getElem?_eq_some_iff.mp hu).1, hu]
      · rw [List.getElem?_set_ne hn]
    have env2 : Prd (Slot.ok (upd F l (.lst vs))) (ρ.set i (.val (tL T) x)) (σ.set i (some (.ref l))) :=
      (ok.env.mono fun _ _ r => r.mono sF).set (R := Slot.ok (upd F l (.lst vs))) (x := .val (tL T) x) (u := some (.ref l)) ⟨_, rfl, l, vs, rfl, upd_same, r.mono sF, z⟩ i
    rw [e1] at env2
    refine ⟨env2, ⟨ok.mv.ff.trans sF, fun b u e => ?_, fun b h1 h2 => ?_, ok.mv.kp, fun c hcm => ?_, ?_, fun c hcm => ok.mv.nw c (rest_ne c hcm).1, ok.mv.st⟩, ok.flo.trans sF⟩
    · by_cases h : b = l
      · subst h; rw [upd_same] at e; cases e; exact ho
      · rw [upd_ne h] at e; exact ok.mv.fh _ _ e
    · by_cases h : b = l
      · subst h; exact fresh
      · rw [upd_ne h] at h2; exact ok.mv.fr b h1 h2
    · obtain ⟨hcm, hne⟩ := rest_ne c hcm
      obtain ⟨n, o, e, r⟩ := ok.mv.cell c hcm
      exact ⟨by rw [upd_ne hne]; exact n, o, e, c.ck.mono sF r⟩
    · exact ok.mv.nd.sublist ((List.eraseIdx_sublist _ _).map _)
  exact k _ σ H ok2 p W tk hx'
/-- return, the value as it is -/
theorem sk_retF {A γ : Type} {ins : A → List (Slot X.K)} {T : Ty X.K γ} {pre : A → Prop} {f : A → γ} {a : A} {ψ : γ → Prop} {n b' c' : L2.St → Hp → Prop} {x : γ} {P : Prop} {r : List Stmt} (he : PK X e ρ [] T x P) :
    SK X B Y fl (.Return (some e) pos :: r) ρ [] { retD (Con.fn ins T pre f) a B ψ with nx := n, bk := b', ct := c' } (P ∧ ψ x) := sk_ret (C := Con.fn ins T pre f) x he rfl rfl
end
end MD
namespace MD
open PySem PySem.Spec PyProof.Rows L2
section
variable {X : Cx} {fl : Hp} {B : Hb X.K} {Y : Ec X.K} {ρ : List (Slot X.K)} {cs : List (Cell X.K)} {A R α β γ μ ν : Type} {pos : Pos} {rest : List Stmt} {D : Ends} {e : Expr}
/-! ### contracts with one owned list -/
/-- from the callee's cells to the caller's: the cell at j goes, the further ones come behind -/
theorem mv_one {F H F' H' : Hp} {j : Nat} {c c' : Cell X.K} {more : List (Cell X.K)} (ok : Okc ρ cs F σ H) (hc : cs[j]? = some c) (ha : c'.a = c.a) (m : Mv [c] F H (c' :: more) F' H') : Mv cs F H (cs.set j c' ++ more) F' H' := by
  have hj : j < cs.length := (List.getElem?_eq_some_iff.mp hc).1
  have hm : c ∈ cs := List.mem_of_getElem? hc
  have map_eq : (cs.set j c').map Cell.a = cs.map Cell.a := by
    rw [List.map_set]
    apply List.ext_getElem?
    intro n
    by_cases hn : j = n
    · subst hn
      rw [List.getElem?_set_self (by simpa using hj), List.getElem?_map, hc, ha]
      rfl
    · rw [List.getElem?_set_ne hn]
  have others : ∀ (n : Nat) (d : Cell X.K), n ≠ j → cs[n]? = some d → d.a ≠ c.a := fun n d hn e z => by
    have e1 : (cs.map Cell.a)[n]? = some c.a := by rw [List.getElem?_map, e]; exact congrArg some z
    have e2 : (cs.map Cell.a)[j]? = some c.a := by rw [List.getElem?_map, hc]; rfl
    obtain ⟨h1, q1⟩ := List.getElem?_eq_some_iff.mp e1
    obtain ⟨h2, q2⟩ := List.getElem?_eq_some_iff.mp e2
    exact hn ((List.getElem_inj ok.nd).mp (q1.trans q2.symm))
  have newa : ∀ d ∈ more, H d.a = none := fun d hd => by
    rcases m.nw d (List.mem_cons_of_mem _ hd) with ⟨c0, h0, e0⟩ | h0
    · obtain rfl := List.mem_singleton.mp h0
      have nd := m.nd
      rw [List.map_cons, List.nodup_cons] at nd
      exact absurd (List.mem_map.mpr ⟨d, hd, e0.symm.trans ha.symm⟩) nd.1
    · exact h0
  -- the cells that were not handed
  have old : ∀ d ∈ cs, d.a ≠ c.a → F' d.a = none ∧ ∃ o, H' d.a = some o ∧ d.ck.rep F' o := fun d hd hne => by
    obtain ⟨n, o, e, r⟩ := ok.cell d hd
    refine ⟨?_, o, m.kp d.a o e (fun c0 h0 z => ?_), d.ck.mono m.ff r⟩
    · cases q : F' d.a with
      | none => rfl
      | some u =>
        have := m.fr d.a n (by rw [q]; simp)
        rw [e] at this; cases this
    · obtain rfl := List.mem_singleton.mp h0
      exact hne z.symm
  refine ⟨m.ff, m.fh, m.fr, fun b o e n => m.kp b o e fun c0 h0 => ?_, fun d hd => ?_, ?_, fun d hd => ?_, fun d hd => ?_⟩
  · obtain rfl := List.mem_singleton.mp h0
    exact n _ hm
  · rcases List.mem_append.mp hd with hd | hd
    · obtain ⟨n, e⟩ := List.getElem?_of_mem hd
      by_cases hn : n = j
      · subst hn
        rw [List.getElem?_set_self hj] at e
        cases e
        exact m.cell _ List.mem_cons_self
      · rw [List.getElem?_set_ne (Ne.symm hn)] at e
        exact old d (List.mem_of_getElem? e) (others n d hn e)
    · exact m.cell d (List.mem_cons_of_mem _ hd)
  · rw [List.map_append, map_eq]
    have nd := m.nd
    rw [List.map_cons, List.nodup_cons] at nd
    refine List.nodup_append.mpr ⟨ok.nd, nd.2, fun x hx y hy e => ?_⟩
    obtain ⟨d, hd, rfl⟩ := List.mem_map.mp hx
    obtain ⟨d', hd', rfl⟩ := List.mem_map.mp hy
    obtain ⟨_, o, e1, _⟩ := ok.cell d hd
    rw [e, newa d' hd'] at e1; cases e1
  · rcases List.mem_append.mp hd with hd | hd
    · obtain ⟨n, e⟩ := List.getElem?_of_mem hd
      by_cases hn : n = j
      · subst hn
        rw [List.getElem?_set_self hj] at e
        cases e
        exact .inl ⟨c, hm, ha.symm⟩
      · rw [List.getElem?_set_ne (Ne.symm hn)] at e
        exact .inl ⟨d, List.mem_of_getElem? e, rfl⟩
    · exact .inr (newa d hd)
  · by_cases hne : d.a = c.a
    · rw [hne]; exact m.st c (by simp)
    · intro z
      obtain ⟨_, o, e, _⟩ := old d hd hne
      rw [e] at z; cases z
theorem mv_zero {F H F' H' : Hp} {σ : L2.St} {more : List (Cell X.K)} (ok : Okc ρ cs F σ H) (m : Mv [] F H more F' H') : Mv cs F H (cs ++ more) F' H' := by
  have newa : ∀ d ∈ more, H d.a = none := fun d hd => by
    rcases m.nw d hd with ⟨c0, h0, _⟩ | h0
    · cases h0
    · exact h0
  have old : ∀ d ∈ cs, F' d.a = none ∧ ∃ o, H' d.a = some o ∧ d.ck.rep F' o := fun d hd => by
    obtain ⟨n, o, e, r⟩ := ok.cell d hd
    refine ⟨?_, o, m.kp d.a o e (fun c0 h0 => (by cases h0)), d.ck.mono m.ff r⟩
    cases q : F' d.a with
    | none => rfl
    | some u =>
      have := m.fr d.a n (by rw [q]; simp)
      rw [e] at this; cases this
  refine ⟨m.ff, m.fh, m.fr, fun b o e n => m.kp b o e (fun c0 h0 => (by cases h0)), fun d hd => ?_, ?_, fun d hd => ?_, fun d hd z => ?_⟩
  · rcases List.mem_append.mp hd with hd | hd
    · exact old d hd
    · exact m.cell d hd
  · rw [List.map_append]
    refine List.nodup_append.mpr ⟨ok.nd, m.nd, fun x hx y hy e => ?_⟩
    obtain ⟨d, hd, rfl⟩ := List.mem_map.mp hx
    obtain ⟨d', hd', rfl⟩ := List.mem_map.mp hy
    obtain ⟨_, o, e1, _⟩ := ok.cell d hd
    rw [e, newa d' hd'] at e1; cases e1
  · rcases List.mem_append.mp hd with hd | hd
    · exact .inl ⟨d, hd, rfl⟩
    · exact .inr (newa d hd)
  · obtain ⟨_, o, e, _⟩ := old d hd
    rw [e] at z; cases z
/-! ### effects in arguments and operands -/
theorem ak_1 {T : Ty X.K α} {vl : μ → α} {cs' : μ → List (Cell X.K)} {M : (μ → Prop) → Prop} (h : EK X Y e ρ cs T vl cs' M) (hs : starEach (e :: []) X.env = (false, eval e X.env) :: starEach [] X.env := by rfl) : AK X Y [e] ρ cs (ts1 T) vl cs' M := fun F σ H ok xh φ p Q k => by
  refine wa (pa_cons pe_w pa_nil hs) ?_
  exact h F σ H ok xh φ p _ fun y v F1 H1 m r q => k y [v] F1 H1 m ⟨v, rfl, r⟩ q
theorem ak_C {es : List Expr} {T : Ty X.K α} {Ts : Tys X.K β} {vl : μ → α} {cs1 : μ → List (Cell X.K)} {M : (μ → Prop) → Prop} {vl2 : μ → ν → β} {cs2 : μ → ν → List (Cell X.K)} {M2 : μ → (ν → Prop) → Prop} (h : EK X Y e ρ cs T vl cs1 M) (hr : ∀ y, AK X Y es ρ (cs1 y) Ts (vl2 y) (cs2 y) (M2 y))
    (hs : starEach (e :: es) X.env = (false, eval e X.env) :: starEach es X.env := by rfl) : AK X Y (e :: es) ρ cs (tsC T Ts) (fun y : μ × ν => (vl y.1, vl2 y.1 y.2)) (fun y => cs2 y.1 y.2) (fun φ => M fun y => M2 y fun u => φ (y, u)) := fun F σ H ok xh φ p Q k => by
  refine wa (pa_cons pe_w pa_w hs) ?_
  refine h F σ H ok xh _ p _ fun y v F1 H1 m r q => ?_
  refine hr y F1 σ H1 (ok.mv m) (xh.mv m) _ q _ fun u w F2 H2 m2 r2 q2 => ?_
  exact k (y, u) (v :: w) F2 H2 (m.trans m2) ⟨v, w, rfl, T.mono m2.ff r, r2⟩ q2
/-- a list of one type -/
theorem al_0 {T : Ty X.K α} : AK X Y [] ρ cs (tsL T) (fun _ : Unit => []) (fun _ => cs) (fun φ => φ ()) := fun F σ H ok xh φ p Q k => wa pa_nil (k () [] F H ok.refl .nil p)
theorem al_C {es : List Expr} {T : Ty X.K α} {vl : μ → α} {cs1 : μ → List (Cell X.K)} {M : (μ → Prop) → Prop} {vl2 : μ → ν → List α} {cs2 : μ → ν → List (Cell X.K)} {M2 : μ → (ν → Prop) → Prop} (h : EK X Y e ρ cs T vl cs1 M) (hr : ∀ y, AK X Y es ρ (cs1 y) (tsL T) (vl2 y) (cs2 y) (M2 y))
    (hs : starEach (e :: es) X.env = (false, eval e X.env) :: starEach es X.env := by rfl) : AK X Y (e :: es) ρ cs (tsL T) (fun y : μ × ν => vl y.1 :: vl2 y.1 y.2) (fun y => cs2 y.1 y.2) (fun φ => M fun y => M2 y fun u => φ (y, u)) := fun F σ H ok xh φ p Q k => by
  refine wa (pa_cons pe_w pa_w hs) ?_
  refine h F σ H ok xh _ p _ fun y v F1 H1 m r q => ?_
  refine hr y F1 σ H1 (ok.mv m) (xh.mv m) _ q _ fun u w F2 H2 m2 r2 q2 => ?_
  exact k (y, u) (v :: w) F2 H2 (m.trans m2) (.cons (T.mono m2.ff r) r2) q2
theorem ek_op {op : Operator} {a b : Expr} {r : R2} {T1 : Ty X.K α} {T2 : Ty X.K β} {T3 : Ty X.K γ} {C : α → β → Prop} {f : α → β → γ} {vl : μ → α} {cs1 : μ → List (Cell X.K)} {M : (μ → Prop) → Prop} {vl2 : μ → ν → β} {cs2 : μ → ν → List (Cell X.K)} {M2 : μ → (ν → Prop) → Prop} (ho : OpR X (binaryOp op) r) (hr : R2K r T1 T2 T3 C f)
    (ha : EK X Y a ρ cs T1 vl cs1 M) (hb : ∀ y, EK X Y b ρ (cs1 y) T2 (vl2 y) (cs2 y) (M2 y)) : EK X Y (.BinOp a op b pos) ρ cs T3 (fun y : μ × ν => f (vl y.1) (vl2 y.1 y.2)) (fun y => cs2 y.1 y.2) (fun φ => M fun y => M2 y fun u => C (vl y) (vl2 y u) ∧ φ (y, u)) := fun F σ H ok xh φ p Q k => by
  refine we (pe_op ho pe_w pe_w) ?_
  refine ha F σ H ok xh _ p _ fun y v F1 H1 m1 r1 q1 => ?_
  have ok1 := ok.mv m1
  refine hb y F1 σ H1 ok1 (xh.mv m1) _ q1 _ fun u w F2 H2 m2 r2 q2 => ?_
  exact hr F2 H2 v w _ _ m2.fh (T1.mono m2.ff r1) r2 q2.1 Q fun z F3 H3 g3 r3 => k (y, u) z F3 H3 ((m1.trans m2).trans ((ok1.mv m2).grow g3)) r3 q2.2
theorem tk_cmp {op : CmpOp} {a b : Expr} {r : R2} {T1 : Ty X.K α} {T2 : Ty X.K β} {C : α → β → Prop} {f : α → β → Bool} {vl : μ → α} {cs1 : μ → List (Cell X.K)} {M : (μ → Prop) → Prop} {vl2 : μ → ν → β} {cs2 : μ → ν → List (Cell X.K)} {M2 : μ → (ν → Prop) → Prop} (ho : OpR X (compareOp op) r) (hr : R2K r T1 T2 tB C f)
    (ha : EK X Y a ρ cs T1 vl cs1 M) (hb : ∀ y, EK X Y b ρ (cs1 y) T2 (vl2 y) (cs2 y) (M2 y)) (hm : behindInMarks op b = false := by first | exact nomark _ | rfl) : TK X Y (.Compare a [op] [b] pos) ρ cs (fun y : μ × ν => f (vl y.1) (vl2 y.1 y.2)) (fun y => cs2 y.1 y.2) (fun φ => M fun y => M2 y fun u => C (vl y) (vl2 y u) ∧ φ (y, u)) := fun F σ H ok xh φ p Q k => by
  refine wt (pt_cmpR ho pe_w pe_w hm) ?_
  refine ha F σ H ok xh _ p _ fun y v F1 H1 m1 r1 q1 => ?_
  have ok1 := ok.mv m1
  refine hb y F1 σ H1 ok1 (xh.mv m1) _ q1 _ fun u w F2 H2 m2 r2 q2 => ?_
  exact hr F2 H2 v w _ _ m2.fh (T1.mono m2.ff r1) r2 q2.1 _ fun z F3 H3 g3 r3 => ⟨_, r3, k (y, u) F3 H3 ((m1.trans m2).trans ((ok1.mv m2).grow g3)) q2.2⟩
theorem ek_ixL [Inhabited α] {a b : Expr} {T : Ty X.K α} {vl : μ → List α} {cs1 : μ → List (Cell X.K)} {M : (μ → Prop) → Prop} {vl2 : μ → ν → Int} {cs2 : μ → ν → List (Cell X.K)} {M2 : μ → (ν → Prop) → Prop} (ha : EK X Y a ρ cs (tL T) vl cs1 M) (hb : ∀ y, EK X Y b ρ (cs1 y) tI (vl2 y) (cs2 y) (M2 y)) (hs : PlainIx b := by exact fun _ _ => rfl) :
    EK X Y (.Subscript a b pos) ρ cs T (fun y : μ × ν => pyIx (vl y.1) (vl2 y.1 y.2)) (fun y => cs2 y.1 y.2) (fun φ => M fun y => M2 y fun u => IxOk (vl y) (vl2 y u) ∧ φ (y, u)) := fun F σ H ok xh φ p Q k => by
  refine we (pe_ix ix_list pe_w pe_w hs) ?_
  refine ha F σ H ok xh _ p _ fun y v F1 H1 m1 ⟨q, vs, e1, hq, r, z⟩ q1 => ?_
  refine hb y F1 σ H1 (ok.mv m1) (xh.mv m1) _ q1 _ fun u w F2 H2 m2 r2 q2 => ?_
  obtain ⟨x, hx, rx⟩ := rl_atI (Rl.mono m2.ff r) q2.1
  exact ⟨q, vs, _, x, e1, r2, SqL.of ((m2.ff.trans m2.fh) _ _ hq), hx, k (y, u) x F2 H2 (m1.trans m2) rx q2.2⟩
theorem ek_lst {es : List Expr} {T : Ty X.K α} {vl : μ → List α} {cs' : μ → List (Cell X.K)} {M : (μ → Prop) → Prop} (h : AK X Y es ρ cs (tsL T) vl cs' M) (hl : ∀ y, (vl y).length ≤ 1000) : NE X Y (.List es pos) ρ cs T vl cs' M := fun F σ H ok xh φ p Q k => by
  refine we (pe_lst pa_w) ?_
  refine h F σ H ok xh _ p _ fun y vs F1 H1 m r q => ?_
  have hz : vs.length ≤ sizeLine := Nat.le_trans (by rw [Rl.length r]; exact hl y) (by decide)
  refine ⟨hz, fun a ha => ?_⟩
  have g := grow_upd (o := .lst vs) (Grow.refl m.fh) ha
  have ok1 := ok.mv m
  have hH : H a = none := by
    cases e : H a with
    | none => rfl
    | some u =>
      by_cases hx : ∃ c ∈ cs, c.a = a
      · obtain ⟨c, hcm, rfl⟩ := hx
        exact absurd ha (m.st c hcm)
      · rw [m.kp a u e fun c hcm e => hx ⟨c, hcm, e⟩] at ha; cases ha
  refine k y a vs F1 _ (m.trans (ok1.grow g.1)) hH g.2 upd_same (fun c hc e => ?_) r hz q
  obtain ⟨_, o, e1, _⟩ := ok1.cell c hc
  rw [e, ha] at e1; cases e1
end
end MD
/-! MDs: sets of texts made of a list, and sorted. -/
namespace MD
open PySem PySem.Spec PyProof.Rows L2
/-- the text of an entry -/
def txtOf (e : Int × Value) : Str := match e.2 with | .str k _ => k | _ => Str.empty
def TxtE (P : Program) (w : World) (e : Int × Value) : Prop := ∃ k tk, e.2 = Value.str k tk ∧ e.1 = (strKind P w).hash k
/-- at a lies a set of just the texts L -/
def SetX (P : Program) (w : World) (h : Heap) (a : Addr) (L : List Str) : Prop :=
  ∃ o es ep t, h.get? a = some o ∧ o.ExactSet ∧ o.data = .set es ep t ∧ (∀ e ∈ es.toList, TxtE P w e) ∧ es.toList.map txtOf = L ∧ L.Nodup ∧
    es.size < scanBound ∧ t.fits es.size = true ∧ Ris t.place.toList ∧ (w.params.followText "set-order" = true ∨ t.led = true)
section
variable {P : Program} {w : World} {h h' : Heap} {a : Addr} {L : List Str}
theorem SetX.keep (R : SetX P w h a L) (k : ∀ o, h.get? a = some o → h'.get? a = some o) : SetX P w h' a L :=
  let ⟨o, es, ep, t, ho, r⟩ := R; ⟨o, es, ep, t, k o ho, r⟩
theorem SetX.len (R : SetX P w h a L) : ∃ o es ep t, h.get? a = some o ∧ o.data = .set es ep t ∧ es.size = L.length := by
  obtain ⟨o, es, ep, t, ho, _, hd, _, hL, _⟩ := R
  exact ⟨o, es, ep, t, ho, hd, by rw [← hL, List.length_map, Array.length_toList]⟩
end
end MD
namespace MD
open PySem PySem.Spec PyProof.Rows L2
/-! ### views: what is seen of a value at a moment -/
abbrev Vw := Hp → Hp → V → Prop
section
variable {K : PySem.W.Frag} {α β γ : Type}
def sv (T : Ty K α) (x : α) : Vw := fun F _ v => T.rep F v x
/-- a list that stands, frozen or owned -/
def rL (T : Ty K α) (xs : List α) : Vw := fun F H v => ∃ a vs, v = .ref a ∧ H a = some (.lst vs) ∧ Rl T F vs xs ∧ vs.length ≤ sizeLine
/-- .. or known -/
def rK (T : Ty K α) (xs : List α) : Vw := fun F H v => ∃ a vs, v = .ref a ∧ SqL K H a vs ∧ Rl T F vs xs ∧ vs.length ≤ sizeLine
def rU (T : Ty K α) (xs : List α) : Vw := fun F H v => ∃ a vs, v = .ref a ∧ Rd H a (.tup vs) ∧ Rl T F vs xs ∧ vs.length ≤ sizeLine
def rQ (T : Ty K α) (xs : List α) : Vw := fun F H v => ∃ a vs, v = .ref a ∧ (SqL K H a vs ∨ SqT K H a vs) ∧ Rl T F vs xs ∧ vs.length ≤ sizeLine
/-- it stays while things grow -/
def Stays (S : Vw) : Prop := ∀ F H F' H' v, Grow F H F' H' → S F H v → S F' H' v
theorem sv_stays {T : Ty K α} {x : α} : Stays (sv T x) := fun F H F' H' v g h => T.mono g.ff h
end
section
variable {X : Cx} {fl : Hp} {B : Hb X.K} {Y : Ec X.K} {ρ : List (Slot X.K)} {cs : List (Cell X.K)} {A R α β γ μ ν : Type} {pos : Pos} {rest : List Stmt} {D : Ends} {e : Expr}
def PV (X : Cx) (e : Expr) (ρ : List (Slot X.K)) (cs : List (Cell X.K)) (S : Vw) (P : Prop) : Prop :=
  ∀ F σ H, Okw ρ cs F σ H → P → ∀ Q : VK, (∀ v F' H', Grow F H F' H' → S F' H' v → Q v H') → WE X e σ H Q
def EV (X : Cx) (Y : Ec X.K) (e : Expr) (ρ : List (Slot X.K)) (cs : List (Cell X.K)) {μ : Type} (S : μ → Vw) (cs' : μ → List (Cell X.K)) (M : (μ → Prop) → Prop) : Prop :=
  ∀ F σ H, Okc ρ cs F σ H → Xh X Y cs F σ H → ∀ φ : μ → Prop, M φ → ∀ Q : VK, (∀ y v F' H', Mv cs F H (cs' y) F' H' → S y F' H' v → φ y → Q v H') → WE X e σ H Q
theorem PK.v {T : Ty X.K α} {x : α} {P : Prop} (h : PK X e ρ cs T x P) : PV X e ρ cs (sv T x) P := h
theorem PV.k {T : Ty X.K α} {x : α} {P : Prop} (h : PV X e ρ cs (sv T x) P) : PK X e ρ cs T x P := h
theorem EK.v {T : Ty X.K α} {vl : μ → α} {cs' : μ → List (Cell X.K)} {M : (μ → Prop) → Prop} (h : EK X Y e ρ cs T vl cs' M) : EV X Y e ρ cs (fun y => sv T (vl y)) cs' M := h
theorem EV.k {T : Ty X.K α} {vl : μ → α} {cs' : μ → List (Cell X.K)} {M : (μ → Prop) → Prop} (h : EV X Y e ρ cs (fun y => sv T (vl y)) cs' M) : EK X Y e ρ cs T vl cs' M := h
theorem PV.to {S S' : Vw} {P C : Prop} (h : PV X e ρ cs S P) (k : ∀ F H v, Same F H → S F H v → S' F H v) : PV X e ρ cs S' P := fun F σ H ok p Q q => h F σ H ok p Q fun v F' H' g s => q v F' H' g (k F' H' v g.fh s)
theorem EV.to {S S' : μ → Vw} {cs' : μ → List (Cell X.K)} {M : (μ → Prop) → Prop} (h : EV X Y e ρ cs S cs' M) (k : ∀ y F H v, Same F H → S y F H v → S' y F H v) : EV X Y e ρ cs S' cs' M := fun F σ H ok xh φ p Q q => h F σ H ok xh φ p Q fun y v F' H' m s => q y v F' H' m (k y F' H' v m.fh s)
/-! lists, frozen and owned -/
theorem PK.l {T : Ty X.K α} {xs : List α} {P : Prop} (h : PK X e ρ cs (tL T) xs P) : PV X e ρ cs (rL T xs) P := fun F σ H ok p Q q => h F σ H ok p Q fun v F' H' g ⟨a, vs, h1, h2, h3, h4⟩ => q v F' H' g ⟨a, vs, h1, g.fh _ _ h2, h3, h4⟩
theorem PK.lk {T : Ty X.K α} {xs : List α} {P : Prop} (h : PK X e ρ cs (tLK T) xs P) : PV X e ρ cs (rK T xs) P := fun F σ H ok p Q q => h F σ H ok p Q fun v F' H' g ⟨a, vs, h1, h2, h3, h4⟩ => q v F' H' g ⟨a, vs, h1, g.fh.seq h2, h3, h4⟩
theorem PK.u {T : Ty X.K α} {xs : List α} {P : Prop} (h : PK X e ρ cs (tU T) xs P) : PV X e ρ cs (rU T xs) P := fun F σ H ok p Q q => h F σ H ok p Q fun v F' H' g ⟨a, vs, h1, h2, h3, h4⟩ => q v F' H' g ⟨a, vs, h1, same_rd g.fh h2, h3, h4⟩
theorem PK.own {T : Ty X.K α} {l : Addr} {xs : List α} {P : Prop} (j : Nat) (h : PK X e ρ cs tR l P) (hc : cs[j]? = Option.some ⟨l, cL T xs⟩) : PV X e ρ cs (rL T xs) P := fun F σ H ok p Q q => h F σ H ok p Q fun v F' H' g h1 => by
  obtain ⟨o, ho, vs, e, r, z⟩ := (ok.grow g).cell _ (List.mem_of_getElem? hc)
  subst e
  exact q v F' H' g ⟨l, vs, h1, ho, r, z⟩
theorem EK.l {T : Ty X.K α} {vl : μ → List α} {cs' : μ → List (Cell X.K)} {M : (μ → Prop) → Prop} (h : EK X Y e ρ cs (tL T) vl cs' M) : EV X Y e ρ cs (fun y => rL T (vl y)) cs' M := fun F σ H ok xh φ p Q q => h F σ H ok xh φ p Q fun y v F' H' m ⟨a, vs, h1, h2, h3, h4⟩ => q y v F' H' m ⟨a, vs, h1, m.fh _ _ h2, h3, h4⟩
theorem NE.l {T : Ty X.K α} {vl : μ → List α} {cs' : μ → List (Cell X.K)} {M : (μ → Prop) → Prop} (h : NE X Y e ρ cs T vl cs' M) : EV X Y e ρ cs (fun y => rL T (vl y)) cs' M := h.ek.l
theorem NK.l {T : Ty X.K α} {xs : List α} {P : Prop} (h : NK X e ρ cs T xs P) : PV X e ρ cs (rL T xs) P := h.pk.l
theorem PV.lk {T : Ty X.K α} {xs : List α} {P : Prop} (h : PV X e ρ cs (rL T xs) P) : PV X e ρ cs (rK T xs) P := PV.to (C := True) h fun F H v _ ⟨a, vs, h1, h2, h3, h4⟩ => ⟨a, vs, h1, SqL.of h2, h3, h4⟩
theorem PV.q {T : Ty X.K α} {xs : List α} {P : Prop} (h : PV X e ρ cs (rL T xs) P) : PV X e ρ cs (rQ T xs) P := PV.to (C := True) h fun F H v _ ⟨a, vs, h1, h2, h3, h4⟩ => ⟨a, vs, h1, .inl (SqL.of h2), h3, h4⟩
theorem PV.kq {T : Ty X.K α} {xs : List α} {P : Prop} (h : PV X e ρ cs (rK T xs) P) : PV X e ρ cs (rQ T xs) P := PV.to (C := True) h fun F H v _ ⟨a, vs, h1, h2, h3, h4⟩ => ⟨a, vs, h1, .inl h2, h3, h4⟩
theorem PV.uq {T : Ty X.K α} {xs : List α} {P : Prop} (h : PV X e ρ cs (rU T xs) P) : PV X e ρ cs (rQ T xs) P := PV.to (C := True) h fun F H v _ ⟨a, vs, h1, h2, h3, h4⟩ => ⟨a, vs, h1, .inr (.inl h2), h3, h4⟩
theorem EV.lk {T : Ty X.K α} {vl : μ → List α} {cs' : μ → List (Cell X.K)} {M : (μ → Prop) → Prop} (h : EV X Y e ρ cs (fun y => rL T (vl y)) cs' M) : EV X Y e ρ cs (fun y => rK T (vl y)) cs' M := h.to fun y F H v _ ⟨a, vs, h1, h2, h3, h4⟩ => ⟨a, vs, h1, SqL.of h2, h3, h4⟩
theorem EV.q {T : Ty X.K α} {vl : μ → List α} {cs' : μ → List (Cell X.K)} {M : (μ → Prop) → Prop} (h : EV X Y e ρ cs (fun y => rL T (vl y)) cs' M) : EV X Y e ρ cs (fun y => rQ T (vl y)) cs' M := h.to fun y F H v _ ⟨a, vs, h1, h2, h3, h4⟩ => ⟨a, vs, h1, .inl (SqL.of h2), h3, h4⟩
/-! ### a built-in function of one thing -/
/-- from a view to a view -/
def U1 (r : List V → Hp → VK → Prop) (S : Vw) (C : Prop) (S' : Vw) : Prop := ∀ F H v, Same F H → S F H v → C → ∀ Q : VK, (∀ z F' H', Grow F H F' H' → S' F' H' z → Q z H') → r [v] H Q
/-- .. to a new list -/
def UN {K : PySem.W.Frag} (r : List V → Hp → VK → Prop) (S : Vw) (C : Prop) (T : Ty K α) (xs : List α) : Prop := ∀ F H v, Same F H → S F H v → C → ∀ Q : VK, (∀ a vs, H a = none → Rl T F vs xs → vs.length ≤ sizeLine → Q (.ref a) (upd H a (.lst vs))) → r [v] H Q
section
variable {nm : Str} {p : Pos} {id : String} {r : List V → Hp → VK → Prop} {S S' : Vw} {P C : Prop} {Se Se' : μ → Vw} {Ce : μ → Prop} {cs' : μ → List (Cell X.K)} {M : (μ → Prop) → Prop}
theorem pv_cb (hc : CallR X (.builtin id) r) (hm : X.mg nm = none) (hv : bootBuiltins nm = some (.builtin id)) (hr : U1 r S C S') (h : PV X e ρ cs S P) (hg : Gl X nm := by rfl) (hn : nm ≠ "__name__" := by decide) (hdb : (nm == ("__debug__" : Str)) = false := by decide)
    (he : starEach (e :: []) X.env = (false, eval e X.env) :: starEach [] X.env := by rfl) (hpl : (backTo pos (starEach [] X.env)).any (·.1) = false := by rfl) : PV X (.Call (.Name nm p) [e] [] pos) ρ cs S' (P ∧ C) := fun F σ H ok q Q k => by
  refine we (pe_callB hc hg hm hv (pa_cons pe_w pa_nil he) hn hdb he hpl) ?_
  refine h F σ H ok q.1 _ fun v F1 H1 g1 s => ?_
  exact hr F1 H1 v g1.fh s q.2 Q fun z F2 H2 g2 s2 => k z F2 H2 (g1.trans g2) s2
theorem pv_ct (hc : CallR X (.type id) r) (hm : X.mg nm = none) (hv : bootBuiltins nm = some (.type id)) (hr : U1 r S C S') (h : PV X e ρ cs S P) (hg : Gl X nm := by rfl) (hn : nm ≠ "__name__" := by decide) (hdb : (nm == ("__debug__" : Str)) = false := by decide)
    (he : starEach (e :: []) X.env = (false, eval e X.env) :: starEach [] X.env := by rfl) (hpl : (backTo pos (starEach [] X.env)).any (·.1) = false := by rfl) : PV X (.Call (.Name nm p) [e] [] pos) ρ cs S' (P ∧ C) := fun F σ H ok q Q k => by
  refine we (pe_callTy hc hg hm hv (pa_cons pe_w pa_nil he) hn hdb he hpl) ?_
  refine h F σ H ok q.1 _ fun v F1 H1 g1 s => ?_
  exact hr F1 H1 v g1.fh s q.2 Q fun z F2 H2 g2 s2 => k z F2 H2 (g1.trans g2) s2
theorem ev_ct (hc : CallR X (.type id) r) (hm : X.mg nm = none) (hv : bootBuiltins nm = some (.type id)) (hr : ∀ y, U1 r (Se y) (Ce y) (Se' y)) (h : EV X Y e ρ cs Se cs' M) (hg : Gl X nm := by rfl) (hn : nm ≠ "__name__" := by decide) (hdb : (nm == ("__debug__" : Str)) = false := by decide)
    (he : starEach (e :: []) X.env = (false, eval e X.env) :: starEach [] X.env := by rfl) (hpl : (backTo pos (starEach [] X.env)).any (·.1) = false := by rfl) : EV X Y (.Call (.Name nm p) [e] [] pos) ρ cs Se' cs' (fun φ => M fun y => Ce y ∧ φ y) := fun F σ H ok xh φ q Q k => by
  refine we (pe_callTy hc hg hm hv (pa_cons pe_w pa_nil he) hn hdb he hpl) ?_
  refine h F σ H ok xh _ q _ fun y v F1 H1 m1 s q1 => ?_
  exact hr y F1 H1 v m1.fh s q1.1 Q fun z F2 H2 g2 s2 => k y z F2 H2 (m1.trans ((ok.mv m1).grow g2)) s2 q1.2
theorem new_ne {cs cs1 : List (Cell X.K)} {F H F1 H1 : Hp} {σ : L2.St} {a : Addr} {vs : List V} (ok : Okc ρ cs F σ H) (m : Mv cs F H cs1 F1 H1) (ha : H1 a = none) : Mv cs F H cs1 F1 (upd H1 a (.lst vs)) ∧ H a = none ∧ F1 a = none ∧ ∀ c ∈ cs1, c.a ≠ a := by
  have g := grow_upd (o := .lst vs) (Grow.refl m.fh) ha
  have ok1 := ok.mv m
  refine ⟨m.trans (ok1.grow g.1), ?_, g.2, fun c hc e => ?_⟩
  · cases e : H a with
    | none => rfl
    | some u =>
      by_cases hx : ∃ c ∈ cs, c.a = a
      · obtain ⟨c, hcm, rfl⟩ := hx
        exact absurd ha (m.st c hcm)
      · rw [m.kp a u e fun c hcm e => hx ⟨c, hcm, e⟩] at ha; cases ha
  · obtain ⟨_, o, e1, _⟩ := ok1.cell c hc
    rw [e, ha] at e1; cases e1
variable {T : Ty X.K α} {xs : List α} {vl : μ → List α}
theorem nk_cb (hc : CallR X (.builtin id) r) (hm : X.mg nm = none) (hv : bootBuiltins nm = some (.builtin id)) (hr : UN r S C T xs) (h : PV X e ρ cs S P) (hg : Gl X nm := by rfl) (hn : nm ≠ "__name__" := by decide) (hdb : (nm == ("__debug__" : Str)) = false := by decide)
    (he : starEach (e :: []) X.env = (false, eval e X.env) :: starEach [] X.env := by rfl) (hpl : (backTo pos (starEach [] X.env)).any (·.1) = false := by rfl) : NK X (.Call (.Name nm p) [e] [] pos) ρ cs T xs (P ∧ C) := fun F σ H ok q Q k => by
  refine we (pe_callB hc hg hm hv (pa_cons pe_w pa_nil he) hn hdb he hpl) ?_
  refine h F σ H ok q.1 _ fun v F1 H1 g1 s => ?_
  refine hr F1 H1 v g1.fh s q.2 Q fun a vs hn r z => ?_
  obtain ⟨g2, hF⟩ := grow_upd (o := .lst vs) g1 hn
  exact k a vs F1 _ g2 (g1.hh.free hn) hF upd_same r z
theorem nk_ct (hc : CallR X (.type id) r) (hm : X.mg nm = none) (hv : bootBuiltins nm = some (.type id)) (hr : UN r S C T xs) (h : PV X e ρ cs S P) (hg : Gl X nm := by rfl) (hn : nm ≠ "__name__" := by decide) (hdb : (nm == ("__debug__" : Str)) = false := by decide)
    (he : starEach (e :: []) X.env = (false, eval e X.env) :: starEach [] X.env := by rfl) (hpl : (backTo pos (starEach [] X.env)).any (·.1) = false := by rfl) : NK X (.Call (.Name nm p) [e] [] pos) ρ cs T xs (P ∧ C) := fun F σ H ok q Q k => by
  refine we (pe_callTy hc hg hm hv (pa_cons pe_w pa_nil he) hn hdb he hpl) ?_
  refine h F σ H ok q.1 _ fun v F1 H1 g1 s => ?_
  refine hr F1 H1 v g1.fh s q.2 Q fun a vs hn r z => ?_
  obtain ⟨g2, hF⟩ := grow_upd (o := .lst vs) g1 hn
  exact k a vs F1 _ g2 (g1.hh.free hn) hF upd_same r z
end
end
/-! ### the order of texts -/
def leS (a b : Str) : Bool := !decide (b.cps.toList < a.cps.toList)
theorem str_ext {a b : Str} (h : a.cps.toList = b.cps.toList) : a = b := by
  cases a; cases b
  simp at h
  rw [h]
def sortS (xs : List Str) : List Str := xs.mergeSort leS
theorem sortS_perm (xs : List Str) : (sortS xs).Perm xs := List.mergeSort_perm xs leS
theorem sortS_mem {xs : List Str} {x : Str} : x ∈ sortS xs ↔ x ∈ xs := (sortS_perm xs).mem_iff
end MD
namespace MD
open PySem PySem.Spec PyProof.Rows L2
section
variable {K : PySem.W.Frag} {α β γ : Type}
theorem strOk_iff {x : Str} : PySem.PyData.strOk x = true ↔ ∀ c ∈ x.cps.toList, c < 0x110000 := by
  unfold PySem.PyData.strOk
  rw [← Array.all_toList, List.all_eq_true]
  simp
theorem strOk_join {sep : Str} {ys : List Str} (h : PySem.PyData.strOk sep = true) (hy : ∀ y ∈ ys, PySem.PyData.strOk y = true) : PySem.PyData.strOk (Str.join sep ys) = true := by
  rw [strOk_iff] at *
  intro c hc
  rcases (mem_join sep c ys).mp hc with ⟨t, ht, h1⟩ | ⟨_, h1⟩
  · exact strOk_iff.mp (hy t ht) c h1
  · exact h c h1
theorem strOk_cut {z : Str} {lo hi : Option Int} (h : PySem.PyData.strOk z = true) : PySem.PyData.strOk (cutS z lo hi) = true := by
  rw [strOk_iff] at *
  intro c hc
  exact h c (List.mem_of_mem_drop (List.mem_of_mem_take (by simpa [cutS] using hc)))
theorem rl_strs {F : Hp} {vs : List V} {xs : List Str} (h : Rl (tS (K := K)) F vs xs) : vs = xs.map V.str ∧ ∀ x ∈ xs, PySem.PyData.strOk x = true := by
  induction h with
  | nil => exact ⟨rfl, fun x hx => (by cases hx)⟩
  | cons r _ ih => exact ⟨by rw [List.map_cons, r.1, ih.1], fun x hx => (List.mem_cons.mp hx).elim (fun e => by rw [e]; exact r.2) (ih.2 x)⟩
theorem rl_ints {F : Hp} {vs : List V} {xs : List Int} (h : Rl (tI (K := K)) F vs xs) : vs = xs.map V.int := by
  induction h with
  | nil => rfl
  | cons r _ ih => rw [List.map_cons, ih]; congr
theorem rl_of_ints {F : Hp} : ∀ {xs : List Int}, Rl (tI (K := K)) F (xs.map V.int) xs
  | [] => .nil
  | x :: xs => .cons rfl rl_of_ints
/-! ### built-in functions of one thing -/
theorem u_len {T : Ty K α} {xs : List α} : U1 (rLenQ K) (rQ T xs) True (sv (tI (K := K)) (xs.length : Int)) := fun F H v s ⟨a, vs, e, h, r, z⟩ _ Q k => by
  subst e
  exact ⟨a, vs, rfl, h, by rw [Rl.length r]; exact k _ F H (Grow.refl s) rfl⟩
theorem u_lenS {x : Str} : U1 (fun xs H Q => ∃ z, xs = [.str z] ∧ z.length ≤ sizeLine ∧ Q (.int z.length) H) (sv (tS (K := K)) x) (x.length ≤ sizeLine) (sv (tI (K := K)) (x.length : Int)) := fun F H v s h c Q k => ⟨x, by rw [h.1], c, k _ F H (Grow.refl s) rfl⟩
/-- the texts of xs, each once, sorted -/
def setS (xs : List Str) : List Str := sortS xs.eraseDups
theorem nodup_eraseDups [BEq α] [LawfulBEq α] : ∀ (xs : List α), xs.eraseDups.Nodup
  | [] => by simp
  | x :: xs => by
    rw [List.eraseDups_cons]
    refine List.nodup_cons.mpr ⟨fun h => ?_, nodup_eraseDups _⟩
    have := List.mem_eraseDups.mp h
    simp at this
  termination_by xs => xs.length
  decreasing_by
    have := List.length_filter_le (fun b => !b == x) xs
    simp only [List.length_cons]
    omega
theorem u_tupL {T : Ty K α} {xs : List α} : U1 (fun vs H Q => ∃ p ys, vs = [.ref p] ∧ ((SqL K H p ys ∧ ∀ l, H l = none → Q (.ref l) (upd H l (.tup ys))) ∨ (SqT K H p ys ∧ Q (.ref p) H))) (rK T xs) True (sv (tU T) xs) := fun F H v s ⟨a, vs, e, h, r, z⟩ _ Q k => by
  subst e
  refine ⟨a, vs, rfl, .inl ⟨h, fun l hl => ?_⟩⟩
  have g := grow_new s hl (.tup vs)
  exact k _ _ _ g ⟨l, vs, rfl, .inl upd_same, r.mono g.ff, z⟩
theorem n_list {T : Ty K α} {xs : List α} : UN (fun vs H Q => ∃ p ys, vs = [.ref p] ∧ (SqL K H p ys ∨ SqT K H p ys) ∧ ∀ l, H l = none → Q (.ref l) (upd H l (.lst ys))) (rQ T xs) True T xs := fun F H v s ⟨a, vs, e, h, r, z⟩ _ Q k => by
  subst e
  exact ⟨a, vs, rfl, h, fun l hl => k l vs hl r z⟩
theorem u_intB {b : Bool} : U1 (fun xs H Q => (∃ i, xs = [.int i] ∧ Q (.int i) H) ∨ ∃ k, xs = [.bl k] ∧ Q (.int (if k then 1 else 0)) H) (sv (tB (K := K)) b) True (sv (tI (K := K)) (if b then 1 else 0)) := fun F H v s h _ Q k => by
  cases h
  exact .inr ⟨b, rfl, k _ F H (Grow.refl s) rfl⟩
/-! ### flat things in a row -/
structure FT [DecidableEq α] (T : Ty K α) : Prop where
  flat : ∀ F v x, T.rep F v x → flatV v = true
  eqv : ∀ F v w x y, T.rep F v x → T.rep F w y → eqV v w = decide (x = y)
theorem fI : FT (tI (K := K)) := ⟨fun F v x h => by cases h; rfl, fun F v w x y h1 h2 => by
  cases h1; cases h2
  show (x == y) = _
  exact Bool.beq_eq_decide_eq _ _⟩
theorem fS : FT (tS (K := K)) := ⟨fun F v x h => by obtain ⟨e, _⟩ := h; subst e; rfl, fun F v w x y h1 h2 => by
  obtain ⟨e1, _⟩ := h1; obtain ⟨e2, _⟩ := h2
  subst e1; subst e2
  show (x == y) = _
  exact Bool.beq_eq_decide_eq _ _⟩
theorem ft_all [DecidableEq α] {T : Ty K α} (f : FT T) {F : Hp} {vs : List V} {xs : List α} (r : Rl T F vs xs) : vs.all flatV = true := by
  induction r with
  | nil => rfl
  | cons r _ ih => rw [List.all_cons, f.flat _ _ _ r, ih] <;> rfl
theorem ft_in [DecidableEq α] {T : Ty K α} (f : FT T) {F : Hp} {v : V} {x : α} {vs : List V} {xs : List α} (h : T.rep F v x) (r : Rl T F vs xs) : inV v vs = decide (x ∈ xs) := by
  unfold inV
  induction r with
  | nil => simp
  | cons r _ ih =>
    rw [List.any_cons, ih, f.eqv _ _ _ _ _ r h, ← Bool.decide_or]
    exact decide_eq_decide.mpr (by rw [List.mem_cons, eq_comm])
end
section
variable {X : Cx} {fl : Hp} {B : Hb X.K} {Y : Ec X.K} {ρ : List (Slot X.K)} {cs : List (Cell X.K)} {A R α β γ μ ν : Type} {pos : Pos} {rest : List Stmt} {D : Ends} {e : Expr}
theorem pk_in [DecidableEq α] {a b : Expr} {T : Ty X.K α} {x : α} {xs : List α} {P1 P2 : Prop} (f : FT T) (ha : PK X a ρ cs T x P1) (hb : PV X b ρ cs (rQ T xs) P2) (hm : behindInMarks .In b = false := by rfl) : PK X (.Compare a [.In] [b] pos) ρ cs tB (decide (x ∈ xs)) (P1 ∧ P2) := fun F σ H ok p Q k => by
  refine we (pe_cmpR op_in_seq pe_w pe_w hm) ?_
  refine ha F σ H ok p.1 _ fun v F1 H1 g1 r1 => ?_
  refine hb F1 σ H1 (ok.grow g1) p.2 _ fun w F2 H2 g2 ⟨q, vs, e, h, r, z⟩ => ?_
  refine ⟨q, vs, e, h, f.flat _ _ _ r1, ft_all f r, ?_⟩
  rw [ft_in f (T.mono g2.ff r1) r]
  exact k _ F2 H2 (g1.trans g2) rfl
theorem pt_in [DecidableEq α] {a b : Expr} {T : Ty X.K α} {x : α} {xs : List α} {P1 P2 : Prop} (f : FT T) (ha : PK X a ρ cs T x P1) (hb : PV X b ρ cs (rQ T xs) P2) (hm : behindInMarks .In b = false := by rfl) : PTK X (.Compare a [.In] [b] pos) ρ cs (decide (x ∈ xs)) (P1 ∧ P2) := fun F σ H ok p Q k => by
  refine wt (pt_cmpR op_in_seq pe_w pe_w hm) ?_
  refine ha F σ H ok p.1 _ fun v F1 H1 g1 r1 => ?_
  refine hb F1 σ H1 (ok.grow g1) p.2 _ fun w F2 H2 g2 ⟨q, vs, e, h, r, z⟩ => ?_
  refine ⟨q, vs, e, h, f.flat _ _ _ r1, ft_all f r, ?_⟩
  rw [ft_in f (T.mono g2.ff r1) r]
  exact ⟨_, rfl, k F2 H2 (g1.trans g2)⟩
theorem pt_nin [DecidableEq α] {a b : Expr} {T : Ty X.K α} {x : α} {xs : List α} {P1 P2 : Prop} (f : FT T) (ha : PK X a ρ cs T x P1) (hb : PV X b ρ cs (rQ T xs) P2) (hm : behindInMarks .NotIn b = false := by rfl) : PTK X (.Compare a [.NotIn] [b] pos) ρ cs (!decide (x ∈ xs)) (P1 ∧ P2) := fun F σ H ok p Q k => by
  refine wt (pt_cmpR op_notIn_seq pe_w pe_w hm) ?_
  refine ha F σ H ok p.1 _ fun v F1 H1 g1 r1 => ?_
  refine hb F1 σ H1 (ok.grow g1) p.2 _ fun w F2 H2 g2 ⟨q, vs, e, h, r, z⟩ => ?_
  refine ⟨q, vs, e, h, f.flat _ _ _ r1, ft_all f r, ?_⟩
  show ∃ k, V.bl (!inV v vs) = .bl k ∧ Q k H2
  rw [ft_in f (T.mono g2.ff r1) r]
  exact ⟨_, rfl, k F2 H2 (g1.trans g2)⟩
/-! ### items of what stands -/
theorem pk_ixR [Inhabited α] {a b : Expr} {T : Ty X.K α} {xs : List α} {i : Int} {P1 P2 : Prop} (ha : PV X a ρ cs (rK T xs) P1) (hb : PK X b ρ cs tI i P2) (hs : PlainIx b := by exact fun _ _ => rfl) : PK X (.Subscript a b pos) ρ cs T (pyIx xs i) (P1 ∧ P2 ∧ IxOk xs i) := fun F σ H ok p Q k => by
  refine we (pe_ix ix_list pe_w pe_w hs) ?_
  refine ha F σ H ok p.1 _ fun v F1 H1 g1 ⟨q, vs, e1, hq, r, z⟩ => ?_
  refine hb F1 σ H1 (ok.grow g1) p.2.1 _ fun w F2 H2 g2 r2 => ?_
  obtain ⟨u, hu, ru⟩ := rl_atI (Rl.mono g2.ff r) p.2.2
  exact ⟨q, vs, i, u, e1, r2, g2.hh.seq hq, hu, k u F2 H2 (g1.trans g2) ru⟩
theorem atI_signs {z : Str} {i : Int} (hi : IxOk (signs z) i) : ∃ c, atI z.cps.toList i = some c ∧ c ∈ z.cps.toList ∧ pyIx (signs z) i = ⟨#[c]⟩ := by
  have hl : (signs z).length = z.cps.toList.length := by unfold signs; rw [List.length_map]
  unfold IxOk at hi
  rw [hl] at hi
  unfold pyIx atI
  rw [hl]
  have get : ∀ j : Nat, j < z.cps.toList.length → ∃ c, z.cps.toList[j]? = some c ∧ c ∈ z.cps.toList ∧ ((signs z)[j]?).getD default = ⟨#[c]⟩ := fun j hj => by
    refine ⟨z.cps.toList[j], List.getElem?_eq_getElem hj, List.getElem_mem hj, ?_⟩
    unfold signs
    rw [List.getElem?_map, List.getElem?_eq_getElem hj]
    rfl
  by_cases h0 : 0 ≤ i
  · have e : ixN z.cps.toList.length i = some i.toNat := by unfold ixN; rw [if_pos h0, if_pos hi.2]
    rw [e]
    exact get _ (by omega)
  · have e : ixN z.cps.toList.length i = some (i + z.cps.toList.length).toNat := by unfold ixN; rw [if_neg h0, if_pos hi.1]
    rw [e]
    exact get _ (by omega)
/-- a sign of a text -/
theorem pk_ixS {a b : Expr} {z : Str} {i : Int} {P1 P2 : Prop} (ha : PK X a ρ cs tS z P1) (hb : PK X b ρ cs tI i P2) (hs : PlainIx b := by exact fun _ _ => rfl) : PK X (.Subscript a b pos) ρ cs tS (pyIx (signs z) i) (P1 ∧ P2 ∧ z.length ≤ sizeLine ∧ IxOk (signs z) i) := fun F σ H ok p Q k => by
  refine we (pe_ix ix_str pe_w pe_w hs) ?_
  refine ha F σ H ok p.1 _ fun v F1 H1 g1 r1 => ?_
  refine hb F1 σ H1 (ok.grow g1) p.2.1 _ fun w F2 H2 g2 r2 => ?_
  obtain ⟨c, h1, h2, h3⟩ := atI_signs p.2.2.2
  exact ⟨z, i, c, r1.1, r2, p.2.2.1, h1, k _ F2 H2 (g1.trans g2) ⟨by rw [h3], by rw [h3]; exact strOk_sign r1.2 h2⟩⟩
theorem ek_ixS {a b : Expr} {vl : μ → Str} {cs1 : μ → List (Cell X.K)} {M : (μ → Prop) → Prop} {vl2 : μ → ν → Int} {cs2 : μ → ν → List (Cell X.K)} {M2 : μ → (ν → Prop) → Prop} (ha : EK X Y a ρ cs tS vl cs1 M) (hb : ∀ y, EK X Y b ρ (cs1 y) tI (vl2 y) (cs2 y) (M2 y)) (hs : PlainIx b := by exact fun _ _ => rfl) :
    EK X Y (.Subscript a b pos) ρ cs tS (fun y : μ × ν => pyIx (signs (vl y.1)) (vl2 y.1 y.2)) (fun y => cs2 y.1 y.2) (fun φ => M fun y => M2 y fun u => (vl y).length ≤ sizeLine ∧ IxOk (signs (vl y)) (vl2 y u) ∧ φ (y, u)) := fun F σ H ok xh φ p Q k => by
  refine we (pe_ix ix_str pe_w pe_w hs) ?_
  refine ha F σ H ok xh _ p _ fun y v F1 H1 m1 r1 q1 => ?_
  refine hb y F1 σ H1 (ok.mv m1) (xh.mv m1) _ q1 _ fun u w F2 H2 m2 r2 q2 => ?_
  obtain ⟨c, h1, h2, h3⟩ := atI_signs q2.2.1
  exact ⟨_, _, c, r1.1, r2, q2.1, h1, k (y, u) _ F2 H2 (m1.trans m2) ⟨by show V.str _ = V.str (pyIx (signs (vl y)) (vl2 y u)); rw [h3], by show PySem.PyData.strOk (pyIx (signs (vl y)) (vl2 y u)) = true; rw [h3]; exact strOk_sign r1.2 h2⟩ q2.2.2⟩
/-- the n-th of a tuple of written places -/
inductive Nth {K : PySem.W.Frag} : {α β : Type} → Nat → Tys K α → Ty K β → (α → β) → Prop
  | one {α : Type} {T : Ty K α} : Nth 0 (ts1 T) T fun x => x
  | here {α β : Type} {T : Ty K α} {Ts : Tys K β} : Nth 0 (tsC T Ts) T fun x => x.1
  | next {α β γ : Type} {n : Nat} {T : Ty K α} {Ts : Tys K β} {U : Ty K γ} {f : β → γ} : Nth n Ts U f → Nth (n + 1) (tsC T Ts) U fun x => f x.2
theorem Nth.get {K : PySem.W.Frag} {α β : Type} {n : Nat} {Ts : Tys K α} {U : Ty K β} {f : α → β} (h : Nth n Ts U f) : ∀ {F : Hp} {vs : List V} {x : α}, Ts.rep F vs x → ∃ v, vs[n]? = some v ∧ U.rep F v (f x) := by
  induction h with
  | one => intro F vs x ⟨v, e, r⟩; subst e; exact ⟨v, rfl, r⟩
  | here => intro F vs x ⟨v, r, e, h, _⟩; subst e; exact ⟨v, rfl, h⟩
  | next _ ih =>
    intro F vs x ⟨v, r, e, _, h⟩
    subst e
    obtain ⟨u, e1, q⟩ := ih h
    exact ⟨u, by simpa using e1, q⟩
theorem atI_nth {vs : List V} {n : Nat} {v : V} (h : vs[n]? = some v) : atI vs (n : Int) = some v := by
  have hn : n < vs.length := (List.getElem?_eq_some_iff.mp h).1
  unfold atI ixN
  rw [if_pos (Int.natCast_nonneg n), if_pos (by exact_mod_cast hn)]
  simpa using h
theorem pk_ixT {a : Expr} {Ts : Tys X.K α} {U : Ty X.K β} {f : α → β} {x : α} {P1 : Prop} {n : Nat} {j} {p2 : Pos} (hn : Nth n Ts U f) (ha : PK X a ρ cs (tT Ts) x P1) (hs : PlainIx (.Constant (.int n) j p2) := by exact fun _ _ => rfl) : PK X (.Subscript a (.Constant (.int n) j p2) pos) ρ cs U (f x) P1 := fun F σ H ok p Q k => by
  refine we (pe_ix ix_tup pe_w pe_int hs) ?_
  refine ha F σ H ok p _ fun v F1 H1 g1 ⟨q, vs, e1, hq, r⟩ => ?_
  obtain ⟨u, hu, ru⟩ := hn.get r
  exact ⟨q, vs, n, u, e1, rfl, SqT.of (g1.fh _ _ hq), atI_nth hu, k u F1 H1 g1 ru⟩
/-! ### join -/
theorem rq_strs {F H : Hp} {v : V} {ys : List Str} (h : rQ (tS (K := X.K)) ys F H v) : ∃ p, v = .ref p ∧ (SqL X.K H p (ys.map V.str) ∨ SqT X.K H p (ys.map V.str)) ∧ ∀ y ∈ ys, PySem.PyData.strOk y = true := by
  obtain ⟨p, vs, e, h, r, z⟩ := h
  obtain ⟨e1, ok⟩ := rl_strs r
  subst e1
  exact ⟨p, e, h, ok⟩
theorem ek_join {o a : Expr} {sep : Str} {vl : μ → List Str} {cs1 : μ → List (Cell X.K)} {M : (μ → Prop) → Prop} {P1 : Prop} {apos : Pos} (ho : PK X o ρ cs tS sep P1) (ha : EV X Y a ρ cs (fun y => rQ (tS (K := X.K)) (vl y)) cs1 M) (hs : starEach [a] X.env = [(false, eval a X.env)] := by rfl) (hbase : attributeBase o "join" X.env (eval o X.env) = eval o X.env := by rfl) (hline : (apos.endLine == pos.line) = true := by rfl) :
    EK X Y (.Call (.Attribute o "join" apos) [a] [] pos) ρ cs tS (fun y => Str.join sep (vl y)) cs1 (fun φ => P1 ∧ M fun y => ((vl y).map (·.length)).sum + (vl y).length * sep.length ≤ 16777216 ∧ φ y) := fun F σ H ok xh φ p Q k => by
  refine we (pe_join pe_w pe_w hs hbase hline) ?_
  refine ho F σ H ok.w p.1 _ fun v F1 H1 g1 r1 => ⟨⟨sep, r1.1⟩, ?_⟩
  have m0 := ok.grow g1
  refine ha F1 σ H1 (ok.mv m0) (xh.mv m0) _ p.2 _ fun y w F2 H2 m2 s q2 => ?_
  obtain ⟨q, e, h, oky⟩ := rq_strs s
  refine ⟨sep, q, vl y, r1.1, by rw [e], h, q2.1, ?_⟩
  exact k y _ F2 H2 (m0.trans m2) ⟨congrArg V.str (PySem.StrLaws.glued_eq_join sep (vl y)), strOk_join r1.2 oky⟩ q2.2
end
end MD
namespace MD
open PySem PySem.Spec PyProof.Rows L2
section
variable {K : PySem.W.Frag} {α β γ : Type}
/-! ### methods of owned lists -/
theorem Rl.erase {T : Ty K α} {F : Hp} : ∀ {vs : List V} {xs : List α} (i : Nat), Rl T F vs xs → Rl T F (vs.eraseIdx i) (xs.eraseIdx i)
  | _, _, _, .nil => .nil
  | _, _, 0, .cons _ t => t
  | _, _, i + 1, .cons r t => .cons r (Rl.erase i t)
theorem Rl.drop {T : Ty K α} {F : Hp} : ∀ {vs : List V} {xs : List α} (i : Nat), Rl T F vs xs → Rl T F (vs.drop i) (xs.drop i)
  | _, _, 0, h => h
  | _, _, _ + 1, .nil => .nil
  | _, _, i + 1, .cons _ t => Rl.drop i t
theorem Rl.take {T : Ty K α} {F : Hp} : ∀ {vs : List V} {xs : List α} (i : Nat), Rl T F vs xs → Rl T F (vs.take i) (xs.take i)
  | _, _, 0, _ => .nil
  | _, _, _ + 1, .nil => .nil
  | _, _, i + 1, .cons r t => .cons r (Rl.take i t)
theorem ml_extend {T : Ty K α} : MLK rExtend T (ts1 (tL T)) (tN (K := K)) (fun xs ys => xs.length + ys.length ≤ sizeLine) (fun xs ys => xs ++ ys) (fun _ _ => ()) := fun F H l vs ws x y s h rl z ⟨w, e, b, us, e2, hb, ru, zu⟩ c Q k => by
  subst e; subst e2
  have h1 := Rl.length rl
  have h2 := Rl.length ru
  exact ⟨l, b, vs, us, rfl, rfl, h, s _ _ hb, by omega, k _ _ (Rl.append rl ru) (by rw [List.length_append]; omega) rfl⟩
/-! ### plain data -/
structure DT (T : Ty K α) where
  d : α → PyData
  n : Nat
  dp : ∀ F H v x, Same F H → T.rep F v x → Dp K H v (d x)
  lay : ∀ F v x, T.rep F v x → (d x).canLay0 = true
  dep : ∀ x, (d x).depth ≤ n
  eqv : ∀ x y, PyData.eqv (d x) (d y) = true ↔ x = y
structure DTs (T : Tys K α) where
  d : α → List PyData
  n : Nat
  dp : ∀ F H v x, Same F H → T.rep F v x → DpAll K H v (d x)
  lay : ∀ F v x, T.rep F v x → PyData.canLayAll0 (d x) = true
  dep : ∀ x, PyData.depthAll (d x) ≤ n
  eqv : ∀ x y, PyData.eqvAll (d x) (d y) = true ↔ x = y
def dI : DT (tI (K := K)) := ⟨.int, 0, fun F H v x s h => by cases h; exact .int x, fun F v x h => by simp [PyData.canLay0], fun x => by simp [PyData.depth], fun x y => by simp [PyData.eqv]⟩
def dS : DT (tS (K := K)) := ⟨.str, 0, fun F H v x s h => by obtain ⟨e, _⟩ := h; subst e; exact .str x, fun F v x h => by simp only [PyData.canLay0]; exact h.2, fun x => by simp [PyData.depth], fun x y => by simp [PyData.eqv]⟩
theorem dp_all {T : Ty K α} (D : DT T) {F H : Hp} (s : Same F H) : ∀ {vs : List V} {xs : List α}, Rl T F vs xs → DpAll K H vs (xs.map D.d)
  | _, _, .nil => .nil
  | _, _, .cons r t => .cons (D.dp F H _ _ s r) (dp_all D s t)
theorem lay_all {T : Ty K α} (D : DT T) {F : Hp} : ∀ {vs : List V} {xs : List α}, Rl T F vs xs → PyData.canLayAll0 (xs.map D.d) = true
  | _, _, .nil => by simp [PyData.canLayAll0]
  | _, _, .cons r t => by simp only [List.map_cons, PyData.canLayAll0, D.lay _ _ _ r, lay_all D t, Bool.and_self]
theorem dep_all {T : Ty K α} (D : DT T) : ∀ xs : List α, PyData.depthAll (xs.map D.d) ≤ D.n
  | [] => by simp [PyData.depthAll]
  | x :: xs => by simp only [List.map_cons, PyData.depthAll]; exact Nat.max_le.mpr ⟨D.dep x, dep_all D xs⟩
theorem eqv_all {T : Ty K α} (D : DT T) : ∀ xs ys : List α, PyData.eqvAll (xs.map D.d) (ys.map D.d) = true ↔ xs = ys
  | [], [] => by simp [PyData.eqvAll]
  | [], y :: ys => by simp [PyData.eqvAll]
  | x :: xs, [] => by simp [PyData.eqvAll]
  | x :: xs, y :: ys => by simp only [List.map_cons, PyData.eqvAll, Bool.and_eq_true, D.eqv, eqv_all D xs ys, List.cons.injEq]
def dL {T : Ty K α} (D : DT T) : DT (tL T) := ⟨fun xs => .list (xs.map D.d), D.n + 1, fun F H v x s ⟨a, vs, e, h, r, z⟩ => by subst e; exact .lst (SqL.of (s _ _ h)) (dp_all D s r), fun F v x ⟨a, vs, e, h, r, z⟩ => by simp only [PyData.canLay0]; exact lay_all D r,
  fun x => by simp only [PyData.depth]; exact Nat.succ_le_succ (dep_all D x), fun x y => by simp only [PyData.eqv]; exact eqv_all D x y⟩
def dU {T : Ty K α} (D : DT T) : DT (tU T) := ⟨fun xs => .tuple (xs.map D.d), D.n + 1, fun F H v x s ⟨a, vs, e, h, r, z⟩ => by subst e; exact .tup (.inl (same_rd s h)) (dp_all D s r), fun F v x ⟨a, vs, e, h, r, z⟩ => by simp only [PyData.canLay0]; exact lay_all D r,
  fun x => by simp only [PyData.depth]; exact Nat.succ_le_succ (dep_all D x), fun x y => by simp only [PyData.eqv]; exact eqv_all D x y⟩
def ds1 {T : Ty K α} (D : DT T) : DTs (ts1 T) := ⟨fun x => [D.d x], D.n, fun F H v x s ⟨u, e, r⟩ => by subst e; exact .cons (D.dp F H _ _ s r) .nil, fun F v x ⟨u, e, r⟩ => by simp only [PyData.canLayAll0, D.lay _ _ _ r, Bool.and_self],
  fun x => by simp only [PyData.depthAll]; exact Nat.max_le.mpr ⟨D.dep x, Nat.zero_le _⟩, fun x y => by simp only [PyData.eqvAll, Bool.and_true, D.eqv]⟩
def dsC {T : Ty K α} {Ts : Tys K β} (D : DT T) (Ds : DTs Ts) : DTs (tsC T Ts) := ⟨fun x => D.d x.1 :: Ds.d x.2, max D.n Ds.n, fun F H v x s ⟨u, r, e, h1, h2⟩ => by subst e; exact .cons (D.dp F H _ _ s h1) (Ds.dp F H _ _ s h2),
  fun F v x ⟨u, r, e, h1, h2⟩ => by simp only [PyData.canLayAll0, D.lay _ _ _ h1, Ds.lay _ _ _ h2, Bool.and_self], fun x => by simp only [PyData.depthAll]; have := D.dep x.1; have := Ds.dep x.2; omega,
  fun x y => by simp only [PyData.eqvAll, Bool.and_eq_true, D.eqv, Ds.eqv]; exact Prod.ext_iff.symm⟩
def dT {Ts : Tys K α} (D : DTs Ts) : DT (tT Ts) := ⟨fun x => .tuple (D.d x), D.n + 1, fun F H v x s ⟨a, vs, e, h, r⟩ => by subst e; exact .tup (SqT.of (s _ _ h)) (D.dp F H _ _ s r), fun F v x ⟨a, vs, e, h, r⟩ => by simp only [PyData.canLay0]; exact D.lay _ _ _ r,
  fun x => by simp only [PyData.depth]; exact Nat.succ_le_succ (D.dep x), fun x y => by simp only [PyData.eqv]; exact D.eqv x y⟩
/-- a view of plain data -/
def DV (K : PySem.W.Frag) (S : Vw) (d : PyData) : Prop := ∀ F H v, Same F H → S F H v → Dp K H v d ∧ SeqAt.shaped d = true
theorem shaped_of {d : PyData} {n : Nat} (h : d.canLay0 = true) (h2 : d.depth ≤ n) (hn : n ≤ 64) : SeqAt.shaped d = true := by
  unfold SeqAt.shaped
  rw [h, Bool.true_and, decide_eq_true_eq]
  omega
theorem dv_sv {T : Ty K α} (D : DT T) {x : α} (hn : D.n ≤ 64 := by exact Nat.le_of_ble_eq_true rfl) : DV K (sv T x) (D.d x) := fun F H v s h => ⟨D.dp F H v x s h, shaped_of (D.lay _ _ _ h) (D.dep x) hn⟩
theorem eqv_dec [DecidableEq α] {T : Ty K α} (D : DT T) (x y : α) : PyData.eqv (D.d x) (D.d y) = decide (x = y) := by
  rw [Bool.eq_iff_iff, D.eqv, decide_eq_true_eq]
/-! ### what is of which type -/
end
section
variable {X : Cx} {fl : Hp} {B : Hb X.K} {Y : Ec X.K} {ρ : List (Slot X.K)} {cs : List (Cell X.K)} {A R α β γ μ ν : Type} {pos : Pos} {rest : List Stmt} {D : Ends} {e : Expr}
theorem pt_neV {a b : Expr} {S1 S2 : Vw} {d1 d2 : PyData} {r : Bool} {P1 P2 : Prop} (hu : X.A.units + 64 < cLine) (h1 : DV X.K S1 d1) (h2 : DV X.K S2 d2) (st : Stays S1) (he : PyData.eqv d1 d2 = r) (ha : PV X a ρ cs S1 P1) (hb : PV X b ρ cs S2 P2) (hm : behindInMarks .NotEq b = false := by first | exact nomark _ | rfl) :
    PTK X (.Compare a [.NotEq] [b] pos) ρ cs (!r) (P1 ∧ P2) := fun F σ H ok p Q k => by
  refine wt (pt_cmpR (op_neD hu) pe_w pe_w hm) ?_
  refine ha F σ H ok p.1 _ fun v F1 H1 g1 s1 => ?_
  refine hb F1 σ H1 (ok.grow g1) p.2 _ fun w F2 H2 g2 s2 => ?_
  have q1 := h1 F2 H2 v g2.fh (st _ _ _ _ _ g2 s1)
  have q2 := h2 F2 H2 w g2.fh s2
  exact ⟨d1, d2, q1.1, q2.1, q1.2, q2.2, _, rfl, by rw [he]; exact k F2 H2 (g1.trans g2)⟩
/-! ### slices -/
def WO (X : Cx) (e : Option Expr) : TO := fun σ H Q => ∀ pins s, Inv X pins σ H s → wpAny (model X.prog X.w) X.A (evalPart e X.env) (fun u s' => ∃ o H', Inv X pins σ H' s' ∧ IsPart u o ∧ Q o H') X.xe s
theorem po_w {e : Option Expr} : PO X e (WO X e) := ⟨fun pins s σ H Q I h => h pins s I⟩
def PKo (X : Cx) (e : Option Expr) (ρ : List (Slot X.K)) (cs : List (Cell X.K)) (o : Option Int) (P : Prop) : Prop :=
  ∀ F σ H, Okw ρ cs F σ H → P → ∀ Q : Option Int → Hp → Prop, (∀ F' H', Grow F H F' H' → Q o H') → WO X e σ H Q
theorem po_0 : PKo X none ρ cs none True := fun F σ H ok _ Q k => fun pins s I => po_none.run pins s σ H Q I (k F H (Grow.refl ok.same))
theorem po_1 {e : Expr} {i : Int} {P : Prop} (h : PK X e ρ cs tI i P) : PKo X (some e) ρ cs (some i) P := fun F σ H ok p Q k => fun pins s I => (po_some pe_w).run pins s σ H Q I (h F σ H ok p _ fun v F' H' g r => ⟨i, r, k F' H' g⟩)
theorem pk_slS {a : Expr} {lo hi : Option Expr} {z : Str} {l h : Option Int} {P P1 P2 : Prop} {p2 : Pos} (ha : PK X a ρ cs tS z P) (hl : PKo X lo ρ cs l P1) (hh : PKo X hi ρ cs h P2) : PK X (.Subscript a (.Slice lo hi none p2) pos) ρ cs tS (cutS z l h) (P ∧ P1 ∧ P2 ∧ z.length ≤ sizeLine) := fun F σ H ok q Q k => by
  refine we (pe_slice sl_str pe_w po_w po_w) ?_
  refine ha F σ H ok q.1 _ fun v F1 H1 g1 r1 => ?_
  refine hl F1 σ H1 (ok.grow g1) q.2.1 _ fun F2 H2 g2 => ?_
  refine hh F2 σ H2 (ok.grow (g1.trans g2)) q.2.2.1 _ fun F3 H3 g3 => ?_
  exact ⟨z, r1.1, q.2.2.2, k _ F3 H3 ((g1.trans g2).trans g3) ⟨rfl, strOk_cut r1.2⟩⟩
/-! ### one behind another -/
theorem nk_cat {a b : Expr} {T : Ty X.K α} {xs ys : List α} {P1 P2 : Prop} (ha : PV X a ρ cs (rL T xs) P1) (hb : PV X b ρ cs (rL T ys) P2) : NK X (.BinOp a .Add b pos) ρ cs T (xs ++ ys) (P1 ∧ P2 ∧ xs.length + ys.length ≤ sizeLine) := fun F σ H ok q Q k => by
  refine we (pe_op op_cat pe_w pe_w) ?_
  refine ha F σ H ok q.1 _ fun v F1 H1 g1 ⟨l, vs, e, h, r, z⟩ => ?_
  refine hb F1 σ H1 (ok.grow g1) q.2.1 _ fun w F2 H2 g2 ⟨m, ws, e2, h2, r2, z2⟩ => ?_
  have hl : vs.length + ws.length ≤ sizeLine := by rw [Rl.length r, Rl.length r2]; exact q.2.2
  refine ⟨l, m, vs, ws, e, e2, g2.hh _ _ h, h2, hl, fun p hp => ?_⟩
  have g := g1.trans g2
  obtain ⟨g4, hF⟩ := grow_upd (o := .lst (vs ++ ws)) g hp
  exact k p _ F2 _ g4 (g.hh.free hp) hF upd_same (Rl.append (r.mono g2.ff) r2) (by rw [List.length_append]; exact hl)
theorem pk_catU {a b : Expr} {T : Ty X.K α} {xs ys : List α} {P1 P2 : Prop} (ha : PK X a ρ cs (tU T) xs P1) (hb : PK X b ρ cs (tU T) ys P2) : PK X (.BinOp a .Add b pos) ρ cs (tU T) (xs ++ ys) (P1 ∧ P2 ∧ xs.length + ys.length ≤ sizeLine) := fun F σ H ok q Q k => by
  refine we (pe_op op_catA pe_w pe_w) ?_
  refine ha F σ H ok q.1 _ fun v F1 H1 g1 ⟨l, vs, e, h, r, z⟩ => ?_
  refine hb F1 σ H1 (ok.grow g1) q.2.1 _ fun w F2 H2 g2 ⟨m, ws, e2, h2, r2, z2⟩ => ?_
  have hl : vs.length + ws.length ≤ sizeLine := by rw [Rl.length r, Rl.length r2]; exact q.2.2
  have g := g1.trans g2
  have r' := r.mono g2.ff
  refine ⟨l, m, vs, ws, e, e2, (.inl (same_rd g2.fh (same_rd g2.ff h))), (.inl (same_rd g2.fh h2)), hl, fun e0 => ?_, fun _ e0 => ?_, fun _ _ p hp => ?_⟩
  · subst e0
    cases r'
    exact k _ F2 H2 g ⟨m, ws, rfl, h2, r2, z2⟩
  · subst e0
    cases r2
    exact k _ F2 H2 g ⟨l, vs, rfl, same_rd g2.ff h, by rw [List.append_nil]; exact r', z⟩
  · have g4 := grow_new g2.fh hp (.tup (vs ++ ws))
    exact k _ _ _ (g.trans g4) ⟨p, _, rfl, .inl upd_same, (Rl.append r' r2).mono g4.ff, by rw [List.length_append]; exact hl⟩
theorem rc_max2 {K : PySem.W.Frag} : RCK (K := K) (fun xs H Q => ∃ i j, xs = [.int i, .int j] ∧ Q (.int (if j > i then j else i)) H) (tsC tI (ts1 tI)) tI yes1 (fun x => if x.2 > x.1 then x.2 else x.1) := fun F H vs x s ⟨v, r, e, h1, u, e2, h2⟩ c Q k => by
  subst e; subst e2; cases h1; cases h2
  exact ⟨_, _, rfl, k _ F H (Grow.refl s) rfl⟩
end
end MD
namespace MD
open PySem PySem.Spec PyProof.Rows L2
section
variable {K : PySem.W.Frag} {κ α β γ : Type}
/-! ### dicts with flat keys -/
structure KT (T : Ty K κ) where
  kf : κ → Key
  inj : ∀ x y, kf x = kf y → x = y
  val : ∀ F v x, T.rep F v x → v = kV (kf x)
def kS : KT (tS (K := K)) := ⟨Sum.inr, fun x y h => Sum.inr.inj h, fun F v x h => h.1⟩
def Ent {TK : Ty K κ} (k : KT TK) (T : Ty K α) (F : Hp) (e : Key × V) (p : κ × α) : Prop := e.1 = k.kf p.1 ∧ TK.rep F (kV e.1) p.1 ∧ T.rep F e.2 p.2
def Re {TK : Ty K κ} (k : KT TK) (T : Ty K α) (F : Hp) : List (Key × V) → List (κ × α) → Prop := Paired (Ent k T F)
theorem Re.mono {TK : Ty K κ} {k : KT TK} {T : Ty K α} {F F' : Hp} {es kvs} (e : Same F F') (h : Re k T F es kvs) : Re k T F' es kvs := paired_mono (fun _ _ r => ⟨r.1, TK.mono e r.2.1, T.mono e r.2.2⟩) h
def cD {TK : Ty K κ} (k : KT TK) (T : Ty K α) (kvs : List (κ × α)) : CK K := ⟨fun F o => ∃ es, o = .dK es ∧ Re k T F es kvs ∧ es.length ≤ sizeLine, fun e ⟨es, h, r, z⟩ => ⟨es, h, r.mono e, z⟩⟩
def tD {TK : Ty K κ} (k : KT TK) (T : Ty K α) : Ty K (List (κ × α)) := ⟨fun F v kvs => ∃ a es o, v = .ref a ∧ F a = some (.frz o (.dK es)) ∧ Re k T F es kvs ∧ es.length ≤ sizeLine, fun e ⟨a, es, o, h1, h2, r, z⟩ => ⟨a, es, o, h1, e _ _ h2, r.mono e, z⟩⟩
def rD {TK : Ty K κ} (k : KT TK) (T : Ty K α) (kvs : List (κ × α)) : Vw := fun F H v => ∃ a es, v = .ref a ∧ Rd H a (.dK es) ∧ Re k T F es kvs ∧ es.length ≤ sizeLine
def dget [DecidableEq κ] (kvs : List (κ × α)) (x : κ) : Option α := (kvs.find? fun p => decide (p.1 = x)).map (·.2)
def dput [DecidableEq κ] (kvs : List (κ × α)) (x : κ) (y : α) : List (κ × α) := if (kvs.any fun p => decide (p.1 = x)) = true then kvs.map (fun p => if p.1 = x then (p.1, y) else p) else kvs ++ [(x, y)]
section
variable [DecidableEq κ] {TK : Ty K κ} {k : KT TK} {T : Ty K α} {F : Hp}
theorem kf_dec (k : KT TK) (x y : κ) : decide (k.kf x = k.kf y) = decide (x = y) := decide_eq_decide.mpr ⟨k.inj x y, fun e => by rw [e]⟩
theorem re_val {es : List (Key × V)} {kvs : List (κ × α)} (h : Re k T F es kvs) (x : κ) : (valV es (k.kf x) = none ∧ dget kvs x = none) ∨ ∃ v y, valV es (k.kf x) = some v ∧ dget kvs x = some y ∧ T.rep F v y := by
  induction h with
  | nil => exact .inl ⟨rfl, rfl⟩
  | @cons e p es' kvs' r _ ih =>
    by_cases q : p.1 = x
    · refine .inr ⟨e.2, p.2, ?_, ?_, r.2.2⟩
      · exact valV_pos (by rw [r.1, q])
      · unfold dget; rw [List.find?_cons_of_pos (by simpa using q)]; rfl
    · have e1 : valV (e :: es') (k.kf x) = valV es' (k.kf x) := valV_neg fun z => q (k.inj _ _ (r.1.symm.trans z))
      have e2 : dget (p :: kvs') x = dget kvs' x := by unfold dget; rw [List.find?_cons_of_neg (by simpa using q)]
      rw [e1, e2]
      exact ih
theorem re_any {es : List (Key × V)} {kvs : List (κ × α)} (h : Re k T F es kvs) (x : κ) : (es.any fun kv => decide (kv.1 = k.kf x)) = kvs.any fun p => decide (p.1 = x) := by
  induction h with
  | nil => rfl
  | cons r _ ih => rw [List.any_cons, List.any_cons, ih, r.1, kf_dec]
theorem re_map {es : List (Key × V)} {kvs : List (κ × α)} (h : Re k T F es kvs) {x : κ} {v : V} {y : α} (r : T.rep F v y) : Re k T F (es.map fun kv => if kv.1 = k.kf x then (kv.1, v) else kv) (kvs.map fun p => if p.1 = x then (p.1, y) else p) := by
  induction h with
  | nil => exact .nil
  | @cons e p es' kvs' q _ ih =>
    refine .cons ?_ ih
    by_cases hx : p.1 = x
    · have h1 : e.1 = k.kf x := by rw [q.1, hx]
      show Ent k T F (if e.1 = k.kf x then (e.1, v) else e) (if p.1 = x then (p.1, y) else p)
      rw [if_pos h1, if_pos hx]
      exact ⟨q.1, q.2.1, r⟩
    · have h1 : ¬ e.1 = k.kf x := fun z => hx (k.inj _ _ (q.1.symm.trans z))
      show Ent k T F (if e.1 = k.kf x then (e.1, v) else e) (if p.1 = x then (p.1, y) else p)
      rw [if_neg h1, if_neg hx]
      exact q
theorem re_app {es es' : List (Key × V)} {kvs kvs' : List (κ × α)} (h : Re k T F es kvs) (h' : Re k T F es' kvs') : Re k T F (es ++ es') (kvs ++ kvs') := by
  induction h with
  | nil => exact h'
  | cons r _ ih => exact .cons r ih
theorem re_put {es : List (Key × V)} {kvs : List (κ × α)} (h : Re k T F es kvs) {x : κ} {v : V} {y : α} (hx : TK.rep F (kV (k.kf x)) x) (r : T.rep F v y) : Re k T F (putK es (k.kf x) v) (dput kvs x y) := by
  unfold putK dput
  rw [re_any h x]
  split
  · exact re_map h r
  · exact re_app h (.cons ⟨rfl, hx, r⟩ .nil)
end
theorem Re.length {TK : Ty K κ} {k : KT TK} {T : Ty K α} {F : Hp} {es : List (Key × V)} {kvs : List (κ × α)} (h : Re k T F es kvs) : es.length = kvs.length := Paired.length h
theorem putK_len {kvs : List (Key × V)} {x : Key} {v : V} : (putK kvs x v).length ≤ kvs.length + 1 := by
  unfold putK
  split
  · rw [List.length_map]; exact Nat.le_succ _
  · rw [List.length_append]; exact Nat.le_refl _
/-! ### instances -/
def putS (f : Str) (s : Slot K) : List (Str × Slot K) → List (Str × Slot K)
  | [] => [(f, s)]
  | (g, x) :: r => bif g == f then (g, s) :: r else (g, x) :: putS f s r
theorem FldOk.mono {F F' : Hp} (e : Same F F') : ∀ {fs : List (Str × Slot K)} {vs : List (Str × V)}, FldOk F fs vs → FldOk F' fs vs
  | _, _, .nil => .nil
  | _, _, .cons r t => .cons (r.mono e) (FldOk.mono e t)
theorem FldOk.put {F : Hp} {f : Str} {s : Slot K} {v : V} (h : Slot.ok F s (some v)) : ∀ {fs : List (Str × Slot K)} {vs : List (Str × V)}, FldOk F fs vs → FldOk F (putS f s fs) (putF f v vs)
  | _, _, .nil => .cons h .nil
  | _, _, .cons (n := n) r t => by
    unfold putS putF
    by_cases e : n = f
    · subst e
      rw [if_pos rfl, beq_self_eq_true, cond_true]
      exact .cons h t
    · rw [if_neg e, beq_eq_false_iff_ne.mpr e, cond_false]
      exact .cons r (FldOk.put h t)
theorem FldOk.len {F : Hp} : ∀ {fs : List (Str × Slot K)} {vs : List (Str × V)}, FldOk F fs vs → vs.length = fs.length
  | _, _, .nil => rfl
  | _, _, .cons _ t => by rw [List.length_cons, List.length_cons, t.len]
theorem FldOk.look {F : Hp} {f : Str} : ∀ {fs : List (Str × Slot K)} {vs : List (Str × V)}, FldOk F fs vs → (fs.lookup f = none ∧ vs.lookup f = none) ∨ ∃ s v, fs.lookup f = some s ∧ vs.lookup f = some v ∧ Slot.ok F s (some v)
  | _, _, .nil => .inl ⟨rfl, rfl⟩
  | _, _, .cons (n := n) (s := s) (v := v) r t => by
    by_cases h : f = n
    · subst h
      exact .inr ⟨s, v, List.lookup_cons_self, List.lookup_cons_self, r⟩
    · have hb : (f == n) = false := beq_eq_false_iff_ne.mpr h
      rcases FldOk.look (f := f) t with ⟨h1, h2⟩ | ⟨s', v', h1, h2, q⟩
      · exact .inl ⟨by rw [List.lookup_cons, hb]; exact h1, by rw [List.lookup_cons, hb]; exact h2⟩
      · exact .inr ⟨s', v', by rw [List.lookup_cons, hb]; exact h1, by rw [List.lookup_cons, hb]; exact h2, q⟩
def cI (C : Addr) (fs : List (Str × Slot K)) : CK K := ⟨fun F o => ∃ dx vs, o = .ins C dx vs ∧ FldOk F fs vs, fun e ⟨dx, vs, h, r⟩ => ⟨dx, vs, h, r.mono e⟩⟩
def tIn (C : Addr) (fd : α → List (Str × Slot K)) : Ty K α := ⟨fun F v x => ∃ a dx vs, v = .ref a ∧ F a = some (.ins C dx vs) ∧ FldOk F (fd x) vs, fun e ⟨a, dx, vs, h1, h2, r⟩ => ⟨a, dx, vs, h1, e _ _ h2, r.mono e⟩⟩
/-- an instance that stands -/
def rI' (C : Addr) (fs : List (Str × Slot K)) : Vw := fun F H v => ∃ a dx vs, v = .ref a ∧ H a = some (.ins C dx vs) ∧ FldOk F fs vs
end
section
variable {X : Cx} {fl : Hp} {B : Hb X.K} {Y : Ec X.K} {ρ : List (Slot X.K)} {cs : List (Cell X.K)} {A R κ α β γ μ ν : Type} {pos : Pos} {rest : List Stmt} {D : Ends} {e : Expr}
theorem PK.ins {C : Addr} {fd : α → List (Str × Slot X.K)} {x : α} {P : Prop} (h : PK X e ρ cs (tIn C fd) x P) : PV X e ρ cs (rI' C (fd x)) P := fun F σ H ok p Q q => h F σ H ok p Q fun v F' H' g ⟨a, dx, vs, h1, h2, r⟩ => q v F' H' g ⟨a, dx, vs, h1, g.fh _ _ h2, r⟩
theorem PK.dict {TK : Ty X.K κ} {k : KT TK} {T : Ty X.K α} {kvs : List (κ × α)} {P : Prop} (h : PK X e ρ cs (tD k T) kvs P) : PV X e ρ cs (rD k T kvs) P := fun F σ H ok p Q q => h F σ H ok p Q fun v F' H' g ⟨a, es, o, h1, h2, r, z⟩ => q v F' H' g ⟨a, es, h1, .inr ⟨o, g.fh _ _ h2⟩, r, z⟩
theorem PK.ownD {TK : Ty X.K κ} {k : KT TK} {T : Ty X.K α} {kvs : List (κ × α)} {l : Addr} {P : Prop} (j : Nat) (h : PK X e ρ cs tR l P) (hc : cs[j]? = Option.some ⟨l, cD k T kvs⟩) : PV X e ρ cs (rD k T kvs) P := fun F σ H ok p Q q => h F σ H ok p Q fun v F' H' g h1 => by
  obtain ⟨o, ho, es, e, r, z⟩ := (ok.grow g).cell _ (List.mem_of_getElem? hc)
  subst e
  exact q v F' H' g ⟨l, es, h1, .inl ho, r, z⟩
/-- o.f -/
theorem pk_fld {o : Expr} {f : Str} {C : Addr} {fs : List (Str × Slot X.K)} {T : Ty X.K α} {x : α} {P : Prop} (c : Cls X.K C) (n : NoAttr X.K C f) (h : PV X o ρ cs (rI' C fs) P) (hf : fs.lookup f = some (.val T x) := by rfl) (hb : attributeBase o f X.env (eval o X.env) = eval o X.env := by rfl) : PK X (.Attribute o f pos) ρ cs T x P := fun F σ H ok p Q k => by
  refine we (pe_fld pe_w hb) ?_
  refine h F σ H ok p _ fun v F1 H1 g ⟨a, dx, vs, e, ha, r⟩ => ?_
  rcases r.look (f := f) with ⟨h1, _⟩ | ⟨s, u, h1, h2, q⟩
  · rw [hf] at h1; cases h1
  · rw [hf] at h1
    cases h1
    obtain ⟨u', e1, q⟩ := q
    cases e1
    exact ⟨a, C, dx, vs, u, e, ha, c, n, h2, k u F1 H1 g q⟩
/-- o.f = e, o an owned instance -/
theorem sk_fld {o : Expr} {f : Str} {p1 : Pos} {C x : Addr} {fs : List (Str × Slot X.K)} {T : Ty X.K α} {vl : μ → α} {cs' : μ → List (Cell X.K)} {M : (μ → Prop) → Prop} {φ : μ → α → Prop} (j : Nat) (c : Cls X.K C) (n : NoAttr X.K C f) (he : EK X Y e ρ cs T vl cs' M) (ho : ∀ y, PK X o ρ (cs' y) tR x True) (hc : ∀ y, (cs' y)[j]? = some ⟨x, cI C fs⟩)
    (k : ∀ y z, SK X B Y fl rest ρ ((cs' y).set j ⟨x, cI C (putS f (.val T z) fs)⟩) D (φ y z)) (hl : fs.length < 1000 := by exact Nat.le_of_ble_eq_true rfl) (hs : swapsWith e (some (.Attribute o f p1)) pos.line X.env = pure false := by rfl) :
    SK X B Y fl (.Assign [.Attribute o f p1] e pos :: rest) ρ cs D (M fun y => ∀ z, z = vl y → φ y z) := fun F σ H ok p W tk hx' => by
  refine wb (pss_cons (ps_fld pe_w pe_w hs) pss_w) ?_
  refine he F σ H ok.c (xh_of ok tk hx') _ p _ fun y v F1 H1 m r q => ?_
  have ok1 := ok.to m
  refine ho y F1 σ H1 ok1.c.w trivial _ fun w F2 H2 g r2 => ?_
  have ok2 := ok1.to (ok1.c.grow g)
  obtain ⟨_, ob, hob, dx, vs, e1, rf⟩ := ok2.c.cell _ (List.mem_of_getElem? (hc y))
  subst e1
  refine ⟨x, C, dx, vs, r2, hob, c, n, by rw [rf.len]; exact hl, ?_⟩
  exact k y (vl y) F2 σ _ (ok2.to (mv_upd (k := cI C (putS f (.val T (vl y)) fs)) ok2.c (hc y) (show ∃ dx' vs', HO.ins C dx (putF f v vs) = .ins C dx' vs' ∧ FldOk F2 (putS f (.val T (vl y)) fs) vs' from ⟨dx, _, rfl, rf.put (f := f) (s := .val T (vl y)) ⟨v, rfl, T.mono g.ff r⟩⟩))) (q _ rfl) W tk hx'
/-- a new dict, the last cell -/
def ND (X : Cx) (e : Expr) : Prop := ∀ σ H (Q : VK), (∀ a, H a = none → Q (.ref a) (upd H a (.dK []))) → WE X e σ H Q
theorem nd_new : ND X (.Dict [] [] pos) := fun σ H Q k => we pe_dnewK fun a ha => k a ha
theorem newD_mv {TK : Ty X.K κ} (k : KT TK) (T : Ty X.K α) {F H : Hp} {σ : L2.St} {a : Addr} (ok : Okc ρ cs F σ H) (ha : H a = none) : Mv cs F H (cs ++ [⟨a, cD k T []⟩]) F (upd H a (.dK [])) := by
  have g := grow_upd (o := .dK []) (Grow.refl ok.same) ha
  have m := ok.grow g.1
  refine ⟨m.ff, m.fh, m.fr, m.kp, fun c hc => ?_, ?_, fun c hc => ?_, m.st⟩
  · rcases List.mem_append.mp hc with hc | hc
    · exact m.cell c hc
    · obtain rfl := List.mem_singleton.mp hc
      exact ⟨g.2, _, upd_same, [], rfl, .nil, Nat.zero_le _⟩
  · rw [List.map_append]
    refine List.nodup_append.mpr ⟨m.nd, by simp, fun x hx y hy => ?_⟩
    obtain ⟨c, hc, rfl⟩ := List.mem_map.mp hx
    have : y = a := by simpa using hy
    rw [this]
    intro e
    obtain ⟨_, o, e1, _⟩ := ok.cell c hc
    rw [e, ha] at e1; cases e1
  · rcases List.mem_append.mp hc with hc | hc
    · exact m.nw c hc
    · obtain rfl := List.mem_singleton.mp hc
      exact .inr ha
theorem sk_setD {TK : Ty X.K κ} (kt : KT TK) (T : Ty X.K α) {i : Nat} {nm : Str} {pos' : Pos} {φ : Addr → Prop} (hN : X.N.Nodup) (he : ND X e) (k : ∀ a, SK X B Y fl rest (ρ.set i (.val tR a)) (cs ++ [⟨a, cD kt T []⟩]) D (φ a)) (hi : X.N[i]? = some nm := by rfl)
    (hx : Loc X.env.scope nm := by first | exact Or.inl rfl | exact Or.inr rfl) (hs : swapsWith e (some (.Name nm pos')) pos.line X.env = pure false := by rfl) (hf : X.fn nm = true ∨ X.env.scope.names.lookup nm = some .local := by first | exact .inl rfl | exact .inr rfl) :
    SK X B Y fl (.Assign [.Name nm pos'] e pos :: rest) ρ cs D (∀ a, φ a) := fun F σ H ok p W tk hx' => by
  refine wb (pss_cons (ps_set hN hi hx pe_w hs hf) pss_w) ?_
  refine he σ H _ fun a ha => ?_
  exact k a F _ _ ((ok.to (newD_mv kt T ok.c ha)).set (T := tR) i rfl) (p a) W tk hx'
/-! ### reading dicts -/
section
variable [DecidableEq κ] {TK : Ty X.K κ} {kt : KT TK} {T : Ty X.K α} {kvs : List (κ × α)} {x : κ} {P1 P2 : Prop} {d i : Expr}
theorem re_some {F : Hp} {es : List (Key × V)} (r : Re kt T F es kvs) : (valV es (kt.kf x)).isSome = (dget kvs x).isSome := by
  rcases re_val r x with ⟨h1, h2⟩ | ⟨u, y, h1, h2, q⟩ <;> rw [h1, h2] <;> rfl
theorem pt_din (hu : X.A.units + 1 < cLine) (hi : PK X i ρ cs TK x P2) (hd : PV X d ρ cs (rD kt T kvs) P1) (hm : behindInMarks .In d = false := by rfl) : PTK X (.Compare i [.In] [d] pos) ρ cs (dget kvs x).isSome (P2 ∧ P1) := fun F σ H ok p Q k => by
  refine wt (pt_cmp (pc_din hu pe_w pe_w) hm) ?_
  refine hi F σ H ok p.1 _ fun w F1 H1 g1 r1 => ?_
  refine hd F1 σ H1 (ok.grow g1) p.2 _ fun v F2 H2 g2 ⟨a, es, e, ha, r, z⟩ => ?_
  have ew := kt.val _ _ _ r1
  subst ew
  exact ⟨a, _, e, .inl ⟨es, kt.kf x, ha, rfl, rfl⟩, _, rfl, by rw [re_some r]; exact k F2 H2 (g1.trans g2)⟩
/-- d[i] = e, d an owned dict -/
theorem sk_dput {p1 : Pos} {l : Addr} {vl : μ → α} {cs' : μ → List (Cell X.K)} {M : (μ → Prop) → Prop} {kw : μ → List (κ × α)} {P3 P4 : μ → Prop} {φ : μ → List (κ × α) → Prop} (j : Nat) (hu : X.A.units + 1 < cLine) (he : EK X Y e ρ cs T vl cs' M) (hd : ∀ y, PK X d ρ (cs' y) tR l (P3 y)) (hi : ∀ y, PK X i ρ (cs' y) TK x (P4 y)) (hc : ∀ y, (cs' y)[j]? = some ⟨l, cD kt T (kw y)⟩)
    (k : ∀ y z, SK X B Y fl rest ρ ((cs' y).set j ⟨l, cD kt T z⟩) D (φ y z)) (hs : swapsWith e (some (.Subscript d i p1)) pos.line X.env = pure false := by rfl) :
    SK X B Y fl (.Assign [.Subscript d i p1] e pos :: rest) ρ cs D (M fun y => P3 y ∧ P4 y ∧ (kw y).length < sizeLine ∧ ∀ z, z = dput (kw y) x (vl y) → φ y z) := fun F σ H ok p W tk hx' => by
  refine wb (pss_cons (ps_dput hu pe_w pe_w pe_w hs) pss_w) ?_
  refine he F σ H ok.c (xh_of ok tk hx') _ p _ fun y v F1 H1 m r q => ?_
  have ok1 := ok.to m
  refine hd y F1 σ H1 ok1.c.w q.1 _ fun w F2 H2 g2 r2 => ?_
  have ok2 := ok1.to (ok1.c.grow g2)
  refine hi y F2 σ H2 ok2.c.w q.2.1 _ fun u F3 H3 g3 r3 => ?_
  have ok3 := ok2.to (ok2.c.grow g3)
  have eu := kt.val _ _ _ r3
  subst eu
  obtain ⟨_, ob, hob, es, e1, re, z⟩ := ok3.c.cell _ (List.mem_of_getElem? (hc y))
  subst e1
  have hl : es.length < sizeLine := by rw [re.length]; exact q.2.2.1
  refine ⟨l, _, r2, .inl ⟨es, kt.kf x, hob, rfl, hl, rfl⟩, ?_⟩
  exact k y _ F3 σ _ (ok3.to (mv_upd (k := cD kt T (dput (kw y) x (vl y))) ok3.c (hc y) ⟨_, rfl, re_put re r3 (T.mono (g2.ff.trans g3.ff) r), Nat.le_trans putK_len hl⟩)) (q.2.2.2 _ rfl) W tk hx'
end
end
end MD
namespace MD
open PySem PySem.Spec PyProof.Rows L2
section
variable {X : Cx} {fl : Hp} {B : Hb X.K} {Y : Ec X.K} {ρ : List (Slot X.K)} {cs : List (Cell X.K)} {A R κ α β γ δ μ ν : Type} {pos : Pos} {rest : List Stmt} {D : Ends} {e : Expr}
/-! ### freezing -/
/-- the cells were not handed in -/
structure Own (B : Hb X.K) (cs : List (Cell X.K)) (j : Nat) : Prop where
  b : (cs.map Cell.a).take B.cin.length = B.cin.map Cell.a
  j : B.cin.length ≤ j
theorem cell_inj {F H : Hp} {j : Nat} {l : Addr} {ck : CK X.K} {σ : L2.St} (ok : Ok B fl ρ cs F σ H) (hc : cs[j]? = some ⟨l, ck⟩) (n : Nat) (d : Cell X.K) (e : cs[n]? = some d) (z : d.a = l) : n = j := by
  have e1 : (cs.map Cell.a)[n]? = some l := by rw [List.getElem?_map, e]; exact congrArg some z
  have e2 : (cs.map Cell.a)[j]? = some l := by rw [List.getElem?_map, hc]; rfl
  obtain ⟨h1, q1⟩ := List.getElem?_eq_some_iff.mp e1
  obtain ⟨h2, q2⟩ := List.getElem?_eq_some_iff.mp e2
  exact (List.getElem_inj ok.mv.nd).mp (q1.trans q2.symm)
theorem frz_core {F H H' : Hp} {j : Nat} {l : Addr} {ck : CK X.K} {o' : HO} {σ : L2.St} (ok : Ok B fl ρ cs F σ H) (hc : cs[j]? = some ⟨l, ck⟩) (w : Own B cs j) (hl : H' l = some o') (hne : ∀ b, b ≠ l → H' b = H b) : Ok B fl ρ (cs.eraseIdx j) (upd F l o') σ H' := by
  have hm : ⟨l, ck⟩ ∈ cs := List.mem_of_getElem? hc
  obtain ⟨hF, o, ho, _⟩ := ok.mv.cell _ hm
  have notin : ∀ c ∈ B.cin, c.a ≠ l := fun c hcm e => by
    have h1 : c.a ∈ (cs.map Cell.a).take B.cin.length := by rw [w.b]; exact List.mem_map.mpr ⟨c, hcm, rfl⟩
    obtain ⟨n, hn⟩ := List.getElem?_of_mem h1
    have hnl : n < B.cin.length := by
      have := (List.getElem?_eq_some_iff.mp hn).1
      rw [List.length_take] at this
      omega
    rw [List.getElem?_take_of_lt hnl, List.getElem?_map] at hn
    cases q : cs[n]? with
    | none => rw [q] at hn; cases hn
    | some d =>
      rw [q] at hn
      have : n = j := cell_inj ok hc n d q ((Option.some.inj hn).trans e)
      have := w.j
      omega
  have fresh : B.H0 l = none := by
    rcases ok.mv.nw _ hm with ⟨c0, h0, e0⟩ | h0
    · exact absurd e0 (notin c0 h0)
    · exact h0
  have sF : Same F (upd F l o') := same_upd hF
  have rest_ne : ∀ c ∈ cs.eraseIdx j, c ∈ cs ∧ c.a ≠ l := fun c hcm => by
    refine ⟨List.mem_of_mem_eraseIdx hcm, fun e => ?_⟩
    obtain ⟨n, hn⟩ := List.getElem?_of_mem hcm
    rw [List.getElem?_eraseIdx] at hn
    split at hn
    · have := cell_inj ok hc n c hn e; omega
    · have := cell_inj ok hc (n + 1) c hn e; omega
  refine ⟨ok.env.mono fun _ _ r => r.mono sF, ⟨ok.mv.ff.trans sF, fun b u e => ?_, fun b h1 h2 => ?_, fun b u e n => ?_, fun c hcm => ?_, ok.mv.nd.sublist ((List.eraseIdx_sublist _ _).map _), fun c hcm => ok.mv.nw c (rest_ne c hcm).1, fun c hcm z => ?_⟩, ok.flo.trans sF⟩
  · by_cases h : b = l
    · subst h; rw [upd_same] at e; cases e; exact hl
    · rw [upd_ne h] at e; rw [hne b h]; exact ok.mv.fh _ _ e
  · by_cases h : b = l
    · subst h; exact fresh
    · rw [upd_ne h] at h2; exact ok.mv.fr b h1 h2
  · have h : b ≠ l := fun z => by rw [z, fresh] at e; cases e
    rw [hne b h]; exact ok.mv.kp b u e n
  · obtain ⟨hcm, hn⟩ := rest_ne c hcm
    obtain ⟨n, o2, e2, r⟩ := ok.mv.cell c hcm
    exact ⟨by rw [upd_ne hn]; exact n, o2, by rw [hne _ hn]; exact e2, c.ck.mono sF r⟩
  · rw [hne _ (notin c hcm)] at z; exact ok.mv.st c hcm z
theorem set_self {α : Type} {l : List α} {i : Nat} {x : α} (h : l[i]? = some x) : l.set i x = l := by
  apply List.ext_getElem?
  intro n
  by_cases hn : i = n
  · subst hn
    rw [List.getElem?_set_self (List.getElem?_eq_some_iff.mp h).1, h]
  · rw [List.getElem?_set_ne hn]
theorem slot_retype {F H : Hp} {σ : L2.St} {i : Nat} {l : Addr} {T : Ty X.K α} {x : α} (ok : Ok B fl ρ cs F σ H) (hρ : ρ[i]? = some (.val tR l)) (r : T.rep F (.ref l) x) : Ok B fl (ρ.set i (.val T x)) cs F σ H := by
  obtain ⟨u, hu, v, ev, rv⟩ := ok.env.get hρ
  subst ev
  have hv : v = .ref l := rv
  subst hv
  have env2 : Prd (Slot.ok F) (ρ.set i (.val T x)) (σ.set i (some (.ref l))) := ok.env.set (R := Slot.ok F) (x := .val T x) (u := some (.ref l)) ⟨_, rfl, r⟩ i
  rw [set_self hu] at env2
  exact ⟨env2, ok.mv, ok.flo⟩
theorem FldOk.set {K : PySem.W.Frag} {F : Hp} {f : Str} {s s2 : Slot K} : ∀ {fs : List (Str × Slot K)} {vs : List (Str × V)} {m : Nat}, FldOk F fs vs → fs[m]? = some (f, s) → (∀ v, Slot.ok F s (some v) → Slot.ok F s2 (some v)) → FldOk F (fs.set m (f, s2)) vs
  | _, _, _, .nil, h, _ => by simp at h
  | _, _, 0, .cons r t, h, k => by simp at h; obtain ⟨rfl, rfl⟩ := h; exact .cons (k _ r) t
  | _, _, m + 1, .cons r t, h, k => .cons r (FldOk.set (m := m) t (by simpa using h) k)
/-! ### walks over dicts -/
/-! ### making, methods -/
/-- the contract of an __init__ that makes a frozen instance of frozen data -/
def Con.ini {K : PySem.W.Frag} {A γ : Type} (Cl : Addr) (fd : γ → List (Str × Slot K)) (ins : A → List (Slot K)) (pre : A → Prop) (f : A → γ) (exc : A → Exn K → Prop) : Con K (Addr × A) γ Unit where
  ins := fun a => .val tR a.1 :: ins a.2
  cin := fun a => [⟨a.1, cI Cl []⟩]
  wp := fun a φ ε => (pre a.2 ∧ ∀ r, r = f a.2 → φ r) ∨ ∃ ex, exc a.2 ex ∧ ε ex
  T := tN
  rv := fun _ => ()
  cout := fun a r => [⟨a.1, cI Cl (fd r)⟩]
  mono := fun _ _ _ _ _ h h' w => w.imp (fun w => ⟨w.1, fun r e => h r (w.2 r e)⟩) fun ⟨ex, h1, h2⟩ => ⟨ex, h1, h' ex h2⟩
/-- C(e, ..), raising nothing: a frozen instance -/
theorem ek_make {k : Nat} {Cl f : Addr} {fd : FuncData} {ps : List Str} {nm : Str} {p : Pos} {es : List Expr} {fdd : γ → List (Str × Slot X.K)} {ins : A → List (Slot X.K)} {pre : A → Prop} {g : A → γ} {exc : A → Exn X.K → Prop} {Ts : Tys X.K β} {vl : μ → β} {cs1 : μ → List (Cell X.K)} {M : (μ → Prop) → Prop} (a : μ → A)
    (Mk' : Mk X.K Cl f) (F : FnOk X.prog X.w X.K X.mg X.base (L2.CX X.prog X.w) k f fd ps (Con.ini Cl fdd ins pre g exc).sp) (hr : Room (k + 1) X.A) (hm : X.mg nm = some (.ref Cl)) (hb : Binds X.K fd ps [])
    (ha : AK X Y (e :: es) ρ cs Ts vl cs1 M) (hi : ∀ y F vs, Ts.rep F vs (vl y) → Prd (fun s v => Slot.ok F s (some v)) (ins (a y)) vs) (hg : Gl X nm := by rfl)
    (hdb : (nm == ("__debug__" : Str)) = false := by decide) (he : starEach (e :: es) X.env = (false, eval e X.env) :: starEach es X.env := by rfl) (hpl : (backTo pos (starEach es X.env)).any (·.1) = false := by rfl) :
    EK X Y (.Call (.Name nm p) (e :: es) [] pos) ρ cs (tIn Cl fdd) (fun y : μ × γ => y.2) (fun y => cs1 y.1) (fun φ => M fun y => pre (a y) ∧ ∀ r, r = g (a y) → φ (y, r)) := fun F0 σ H ok xh φ q Q kk => by
  refine we (pe_make Mk' F hr hg hm hb .nil (E := E0) (passL) pa_w hdb he hpl) ?_
  refine ha F0 σ H ok xh _ q _ fun y vs F1 H1 m1 r1 q1 => fun x dx hx hdx ne => ?_
  have ok1 := ok.mv m1
  have hFx : F1 x = none := by
    cases e : F1 x with
    | none => rfl
    | some u => rw [m1.fh _ _ e] at hx; cases hx
  have hFd : F1 dx = none := by
    cases e : F1 dx with
    | none => rfl
    | some u => rw [m1.fh _ _ e] at hdx; cases hdx
  have hS : Same F1 (upd (upd H1 dx (.own x)) x (.ins Cl dx [])) := fun b u e => by
    rw [upd_ne (fun z => by rw [z, hFx] at e; cases e), upd_ne (fun z => by rw [z, hFd] at e; cases e)]
    exact m1.fh _ _ e
  refine ⟨(x, a y), F1, ?_, hS, fun c hc => ?_, by simp [Con.ini], .inl ⟨q1.1, fun r er v F2 H2 m2 rr => ?_⟩⟩
  · rw [List.append_nil]
    exact .cons ⟨.ref x, rfl, rfl⟩ (hi y F1 vs r1)
  · have : c = ⟨x, cI Cl []⟩ := by simpa [Con.ini] using hc
    subst this
    exact ⟨hFx, _, upd_same, dx, [], rfl, .nil⟩
  · obtain ⟨hF2, o, ho, dx2, fs2, e2, rf⟩ := m2.cell ⟨x, cI Cl (fdd r)⟩ (by simp [Con.ini])
    subst e2
    have hv : v = .non := rr
    refine ⟨hv, ?_⟩
    have keep : ∀ b u, H1 b = some u → H2 b = some u := fun b u e => by
      have n1 : b ≠ x := fun z => by rw [z, hx] at e; cases e
      have n2 : b ≠ dx := fun z => by rw [z, hdx] at e; cases e
      refine m2.kp b u (by rw [upd_ne n1, upd_ne n2]; exact e) fun c hc => ?_
      have : c = ⟨x, cI Cl []⟩ := by simpa [Con.ini] using hc
      subst this
      exact fun z => n1 z.symm
    have g1 : Grow F1 H1 (upd F2 x (.ins Cl dx2 fs2)) H2 := by
      refine ⟨m2.ff.trans (same_upd hF2), fun b u e => ?_, keep, fun b h1 h2 => ?_⟩
      · by_cases hb : b = x
        · subst hb; rw [upd_same] at e; cases e; exact ho
        · rw [upd_ne hb] at e; exact m2.fh _ _ e
      · by_cases hb : b = x
        · rw [hb]; exact hx
        · rw [upd_ne hb] at h2
          have := m2.fr b h1 h2
          rw [upd_ne hb] at this
          by_cases hb2 : b = dx
          · rw [hb2]; exact hdx
          · rw [upd_ne hb2] at this; exact this
    exact kk (y, r) _ _ H2 (m1.trans (ok1.grow g1)) ⟨x, dx2, fs2, rfl, upd_same, rf.mono (same_upd hF2)⟩ (q1.2 r er)
/-! ### ends -/
/-- a way that is never gone -/
theorem sk_never {st : List Stmt} : SK X B Y fl st ρ cs D False := fun F σ H ok p => p.elim
/-- the end of a def without a return -/
theorem sk_end {A R : Type} {C : Con X.K A R Unit} {a : A} {ψ : R → Prop} {b' c' : L2.St → Hp → Prop} (q : R) (hT : ∀ F, C.T.rep F .non (C.rv q)) (hc : C.cout a q = cs) : SK X B Y fl [] ρ cs { retD C a B ψ with bk := b', ct := c' } (ψ q) := fun F σ H ok p W tk hx' =>
  wb pss_nil ⟨q, F, by rw [hc]; exact ok.mv, hT F, p⟩
end
end MD
namespace MD
open PySem PySem.Spec PyProof.Rows L2
/-! ### calls by shape -/
/-- the arguments' types as slots -/
def Sl {K : PySem.W.Frag} {α : Type} (Ts : Tys K α) (ins : α → List (Slot K)) : Prop := ∀ F vs x, Ts.rep F vs x → Prd (fun s v => Slot.ok F s (some v)) (ins x) vs
section
variable {K : PySem.W.Frag} {α β γ δ : Type}
theorem sl0 : Sl (ts0 (K := K)) fun _ => [] := fun F vs x h => by
  have h : vs = [] := h
  subst h
  exact .nil
theorem sl1 {T : Ty K α} : Sl (ts1 T) fun x => [.val T x] := fun F vs x ⟨v, e, r⟩ => by subst e; exact .cons ⟨v, rfl, r⟩ .nil
theorem slC {T : Ty K α} {Ts : Tys K β} {ins : β → List (Slot K)} (h : Sl Ts ins) : Sl (tsC T Ts) fun x => .val T x.1 :: ins x.2 := fun F vs x ⟨v, r, e, h1, h2⟩ => by subst e; exact .cons ⟨v, rfl, h1⟩ (h F r x.2 h2)
/-- one owned list, then frozen things -/
def Con.o1 (T0 : Ty K δ) (ins : α → List (Slot K)) (T : Ty K γ) (pre : List δ → α → Prop) (post : List δ → α → γ → List δ → Prop) : Con K (Addr × List δ × α) (γ × List δ) γ where
  ins := fun a => .val tR a.1 :: ins a.2.2
  cin := fun a => [⟨a.1, cL T0 a.2.1⟩]
  wp := fun a φ _ => pre a.2.1 a.2.2 ∧ ∀ r c, post a.2.1 a.2.2 r c → φ (r, c)
  T := T
  rv := fun r => r.1
  cout := fun a r => [⟨a.1, cL T0 r.2⟩]
  mono := fun _ _ _ _ _ h _ w => ⟨w.1, fun r c e => h (r, c) (w.2 r c e)⟩
/-- frozen things, a new owned list -/
def Con.mk1 (ins : α → List (Slot K)) (T0 : Ty K δ) (pre : α → Prop) (post : α → List δ → Prop) : Con K α (Addr × List δ) Addr where
  ins := ins
  cin := fun _ => []
  wp := fun a φ _ => pre a ∧ ∀ l c, post a c → φ (l, c)
  T := tR
  rv := fun r => r.1
  cout := fun _ r => [⟨r.1, cL T0 r.2⟩]
  mono := fun _ _ _ _ _ h _ w => ⟨w.1, fun l c e => h (l, c) (w.2 l c e)⟩
end
section
variable {X : Cx} {fl : Hp} {B : Hb X.K} {Y : Ec X.K} {ρ : List (Slot X.K)} {cs : List (Cell X.K)} {A R α β γ δ μ ν : Type} {pos : Pos} {rest : List Stmt} {D : Ends} {e : Expr}
theorem pk_fn {k : Nat} {f : Addr} {fd : FuncData} {ps : List Str} {nm : Str} {p : Pos} {es : List Expr} {ins : α → List (Slot X.K)} {T : Ty X.K γ} {pre : α → Prop} {g : α → γ} {Ts : Tys X.K α} {x : α} {Pa : Prop}
    (F : FnOk X.prog X.w X.K X.mg X.base (L2.CX X.prog X.w) k f fd ps (Con.fn ins T pre g).sp) (hs : Sl Ts ins) (hr : Room k X.A) (hm : X.mg nm = some (.ref f)) (hk : PySem.W.keepIn X.K (.ref f) = true) (hb : Binds X.K fd ps [])
    (ha : PAK X (e :: es) ρ cs Ts x Pa) (hg : Gl X nm := by rfl) (hdb : (nm == ("__debug__" : Str)) = false := by decide) (he : starEach (e :: es) X.env = (false, eval e X.env) :: starEach es X.env := by rfl) (hpl : (backTo pos (starEach es X.env)).any (·.1) = false := by rfl) :
    PK X (.Call (.Name nm p) (e :: es) [] pos) ρ cs T (g x) (Pa ∧ pre x) := pk_call x F hr hm hk hb ha (fun F vs h => hs F vs x h) hg hdb he hpl
/-- f(l, ..), l an owned list at j -/
theorem ek_o1 {k : Nat} {f : Addr} {fd : FuncData} {ps : List Str} {nm : Str} {p : Pos} {es : List Expr} {T0 : Ty X.K δ} {ins : α → List (Slot X.K)} {T : Ty X.K γ} {pre : List δ → α → Prop} {post : List δ → α → γ → List δ → Prop} {Ts : Tys X.K α} {vl : μ → α} {cs1 : μ → List (Cell X.K)} {M : (μ → Prop) → Prop} {l : Addr} {c : μ → List δ} (j : Nat)
    (F : FnOk X.prog X.w X.K X.mg X.base (L2.CX X.prog X.w) k f fd ps (Con.o1 T0 ins T pre post).sp) (hs : Sl Ts ins) (hr : Room k X.A) (hm : X.mg nm = some (.ref f)) (hk : PySem.W.keepIn X.K (.ref f) = true) (hb : Binds X.K fd ps [])
    (hl : PK X e ρ cs tR l True) (ha : AK X Y es ρ cs Ts vl cs1 M) (hc : ∀ y, (cs1 y)[j]? = some ⟨l, cL T0 (c y)⟩) (hg : Gl X nm := by rfl) (hdb : (nm == ("__debug__" : Str)) = false := by decide) (he : starEach (e :: es) X.env = (false, eval e X.env) :: starEach es X.env := by rfl) (hpl : (backTo pos (starEach es X.env)).any (·.1) = false := by rfl) :
    EK X Y (.Call (.Name nm p) (e :: es) [] pos) ρ cs T (fun y : μ × γ × List δ => y.2.1) (fun y => (cs1 y.1).set j ⟨l, cL T0 y.2.2⟩) (fun φ => M fun y => pre (c y) (vl y) ∧ ∀ r w, post (c y) (vl y) r w → φ (y, r, w)) := fun F0 σ H ok xh φ q Q kk => by
  refine we (pe_call F hr hg hm hk hb .nil (E := E0) (passL) (pa_cons pe_w pa_w he) hdb he hpl) ?_
  refine hl F0 σ H ok.w trivial _ fun v F1 H1 g1 ev => ?_
  have m0 := ok.grow g1
  refine ha F1 σ H1 (ok.mv m0) (xh.mv m0) _ q _ fun y vs F2 H2 m2 r2 q2 => ?_
  have ok2 := (ok.mv m0).mv m2
  have hv : v = .ref l := ev
  subst hv
  refine ⟨(l, c y, vl y), F2, ?_, m2.fh, fun c0 h0 => ?_, by simp [Con.o1], q2.1, fun r w hp v F3 H3 m3 rr => ?_⟩
  · rw [List.append_nil]
    exact .cons ⟨_, rfl, rfl⟩ (hs F2 vs (vl y) r2)
  · have : c0 = ⟨l, cL T0 (c y)⟩ := by simpa [Con.o1] using h0
    subst this
    exact ok2.cell _ (List.mem_of_getElem? (hc y))
  · have m4 := mv_one (c' := ⟨l, cL T0 w⟩) (more := []) ok2 (hc y) rfl m3
    rw [List.append_nil] at m4
    exact kk (y, r, w) v F3 H3 ((m0.trans m2).trans m4) rr (q2.2 r w hp)
/-- x = f(..), a new owned list -/
theorem ek_mk1 {k : Nat} {f : Addr} {fd : FuncData} {ps : List Str} {nm : Str} {p : Pos} {es : List Expr} {T0 : Ty X.K δ} {ins : α → List (Slot X.K)} {pre : α → Prop} {post : α → List δ → Prop} {Ts : Tys X.K α} {vl : μ → α} {cs1 : μ → List (Cell X.K)} {M : (μ → Prop) → Prop}
    (F : FnOk X.prog X.w X.K X.mg X.base (L2.CX X.prog X.w) k f fd ps (Con.mk1 ins T0 pre post).sp) (hs : Sl Ts ins) (hr : Room k X.A) (hm : X.mg nm = some (.ref f)) (hk : PySem.W.keepIn X.K (.ref f) = true) (hb : Binds X.K fd ps [])
    (ha : AK X Y (e :: es) ρ cs Ts vl cs1 M) (hg : Gl X nm := by rfl) (hdb : (nm == ("__debug__" : Str)) = false := by decide) (he : starEach (e :: es) X.env = (false, eval e X.env) :: starEach es X.env := by rfl) (hpl : (backTo pos (starEach es X.env)).any (·.1) = false := by rfl) :
    EK X Y (.Call (.Name nm p) (e :: es) [] pos) ρ cs tR (fun y : μ × Addr × List δ => y.2.1) (fun y => cs1 y.1 ++ [⟨y.2.1, cL T0 y.2.2⟩]) (fun φ => M fun y => pre (vl y) ∧ ∀ l c, post (vl y) c → φ (y, l, c)) := fun F0 σ H ok xh φ q Q kk => by
  refine we (pe_call F hr hg hm hk hb .nil (E := E0) (passL) pa_w hdb he hpl) ?_
  refine ha F0 σ H ok xh _ q _ fun y vs F1 H1 m1 r1 q1 => ?_
  have ok1 := ok.mv m1
  refine ⟨vl y, F1, by rw [List.append_nil]; exact hs F1 vs (vl y) r1, m1.fh, fun c hc => absurd hc (by simp [Con.mk1]), by simp [Con.mk1], q1.1, fun l c hp v F2 H2 m rr => ?_⟩
  exact kk (y, l, c) v F2 H2 (m1.trans (mv_zero ok1 m)) rr (q1.2 l c hp)
theorem sk_setMk {i : Nat} {nm : Str} {pos' : Pos} {T0 : Ty X.K δ} {cs1 : μ → List (Cell X.K)} {M : (μ × Addr × List δ → Prop) → Prop} {φ : μ → Addr → List δ → Prop} (hN : X.N.Nodup) (he : EK X Y e ρ cs tR (fun y : μ × Addr × List δ => y.2.1) (fun y => cs1 y.1 ++ [⟨y.2.1, cL T0 y.2.2⟩]) M)
    (k : ∀ y l c, SK X B Y fl rest (ρ.set i (.val tR l)) (cs1 y ++ [⟨l, cL T0 c⟩]) D (φ y l c)) (hi : X.N[i]? = some nm := by rfl) (hx : Loc X.env.scope nm := by first | exact Or.inl rfl | exact Or.inr rfl)
    (hs : swapsWith e (some (.Name nm pos')) pos.line X.env = pure false := by rfl) (hf : X.fn nm = true ∨ X.env.scope.names.lookup nm = some .local := by first | exact .inl rfl | exact .inr rfl) :
    SK X B Y fl (.Assign [.Name nm pos'] e pos :: rest) ρ cs D (M fun y => φ y.1 y.2.1 y.2.2) := fun F σ H ok p W tk hx' => by
  refine wb (pss_cons (ps_set hN hi hx pe_w hs hf) pss_w) ?_
  refine he F σ H ok.c (xh_of ok tk hx') _ p _ fun y v F' H' m r q => ?_
  exact k y.1 y.2.1 y.2.2 F' _ H' ((ok.to m).set (T := tR) i r) q W tk hx'
/-! ### returns by shape -/
theorem sk_retO {T0 : Ty X.K δ} {ins : α → List (Slot X.K)} {T : Ty X.K γ} {pre : List δ → α → Prop} {post : List δ → α → γ → List δ → Prop} {a : Addr × List δ × α} {ψ : γ × List δ → Prop} {n b' c' : L2.St → Hp → Prop} {x : γ} {w : List δ} {P : Prop} {r : List Stmt} (he : PK X e ρ cs T x P) (hc : cs = [⟨a.1, cL T0 w⟩]) :
    SK X B Y fl (.Return (some e) pos :: r) ρ cs { retD (Con.o1 T0 ins T pre post) a B ψ with nx := n, bk := b', ct := c' } (P ∧ ψ (x, w)) := sk_ret (C := Con.o1 T0 ins T pre post) (x, w) he rfl hc.symm
theorem sk_retOE {T0 : Ty X.K δ} {ins : α → List (Slot X.K)} {T : Ty X.K γ} {pre : List δ → α → Prop} {post : List δ → α → γ → List δ → Prop} {a : Addr × List δ × α} {ψ : γ × List δ → Prop} {n b' c' : L2.St → Hp → Prop} {vl : μ → γ} {cs' : μ → List (Cell X.K)} {M : (μ → Prop) → Prop} {w : μ → List δ} {r : List Stmt} (he : EK X Y e ρ cs T vl cs' M) (hc : ∀ y, cs' y = [⟨a.1, cL T0 (w y)⟩]) :
    SK X B Y fl (.Return (some e) pos :: r) ρ cs { retD (Con.o1 T0 ins T pre post) a B ψ with nx := n, bk := b', ct := c' } (M fun y => ψ (vl y, w y)) := sk_retE (C := Con.o1 T0 ins T pre post) (fun y => (vl y, w y)) he (fun _ => rfl) fun y => (hc y).symm
/-- return [..], a new owned list -/
theorem sk_retN {ins : α → List (Slot X.K)} {T0 : Ty X.K δ} {pre : α → Prop} {post : α → List δ → Prop} {a : α} {ψ : Addr × List δ → Prop} {n b' c' : L2.St → Hp → Prop} {vl : μ → List δ} {M : (μ → Prop) → Prop} {r : List Stmt} (he : NE X Y e ρ [] T0 vl (fun _ => []) M) :
    SK X B Y fl (.Return (some e) pos :: r) ρ [] { retD (Con.mk1 ins T0 pre post) a B ψ with nx := n, bk := b', ct := c' } (M fun y => ∀ l c, c = vl y → ψ (l, c)) := sk_retE (C := Con.mk1 ins T0 pre post) (fun y : μ × Addr × List δ => (y.2.1, y.2.2)) he.own (fun _ => rfl) fun y => rfl
end
end MD
/-! MDt: enumerate(a tuple). -/
namespace MD
open PySem PySem.Spec PyProof.Rows L2
end MD
namespace MD
open PySem PySem.Spec PyProof.Rows L2
section
variable {X : Cx} {fl : Hp} {B : Hb X.K} {Y : Ec X.K} {ρ : List (Slot X.K)} {cs : List (Cell X.K)} {A R α β γ δ μ ν : Type} {pos : Pos} {rest : List Stmt} {D : Ends} {e : Expr}
theorem ek_tup {es : List Expr} {x1} {Ts : Tys X.K α} {vl : μ → α} {cs' : μ → List (Cell X.K)} {M : (μ → Prop) → Prop} (h : AK X Y es ρ cs Ts vl cs' M) (hl : ∀ F vs x, Ts.rep F vs x → vs.length ≤ 1000) : EK X Y (.Tuple es x1 pos) ρ cs (tT Ts) vl cs' M := fun F σ H ok xh φ p Q k => by
  refine we (pe_tup pa_w) ?_
  refine h F σ H ok xh φ p _ fun y vs F1 H1 m r q => ⟨Nat.le_trans (hl F1 vs _ r) (by decide), fun a ha => ?_⟩
  have g2 := grow_new m.fh ha (.tup vs)
  exact k y _ _ _ (m.trans ((ok.mv m).grow g2)) ⟨a, vs, rfl, upd_same, Ts.mono g2.ff r⟩ q
theorem sk_drop {st : List Stmt} {φ : Prop} (j : Nat) (k : SK X B Y fl st ρ (cs.eraseIdx j) D φ) : SK X B Y fl st ρ cs D φ := fun F σ H ok p W tk hx' =>
  k F σ H ⟨ok.env, ⟨ok.mv.ff, ok.mv.fh, ok.mv.fr, ok.mv.kp, fun c hc => ok.mv.cell c (List.mem_of_mem_eraseIdx hc), ok.mv.nd.sublist ((List.eraseIdx_sublist _ _).map _), fun c hc => ok.mv.nw c (List.mem_of_mem_eraseIdx hc), ok.mv.st⟩, ok.flo⟩ p W tk hx'
/-! ### what is known of a callee, of a class -/
structure Cal (P : Program) (w : World) (K : PySem.W.Frag) (mg : Str → Option Value) (base : Heap) (nm : Str) (k : Nat) (ps : List Str) (sp : Sp) (f : Addr) (fd : FuncData) : Prop where
  F : FnOk P w K mg base (L2.CX P w) k f fd ps sp
  m : mg nm = some (.ref f)
  k : PySem.W.keepIn K (.ref f) = true
  b : Binds K fd ps []
structure MkC (P : Program) (w : World) (K : PySem.W.Frag) (mg : Str → Option Value) (base : Heap) (C : Addr) (nm : Str) (k : Nat) (ps : List Str) (sp : Sp) (f : Addr) (fd : FuncData) : Prop where
  F : FnOk P w K mg base (L2.CX P w) k f fd ps sp
  m : mg nm = some (.ref C)
  mm : Mk K C f
  b : Binds K fd ps []
theorem ek_makeS {k : Nat} {Cl f : Addr} {fd : FuncData} {ps : List Str} {nm : Str} {p : Pos} {es : List Expr} {fdd : γ → List (Str × Slot X.K)} {ins : α → List (Slot X.K)} {pre : α → Prop} {g : α → γ} {exc : α → Exn X.K → Prop} {Ts : Tys X.K α} {vl : μ → α} {cs1 : μ → List (Cell X.K)} {M : (μ → Prop) → Prop}
    (c : MkC X.prog X.w X.K X.mg X.base Cl nm k ps (Con.ini Cl fdd ins pre g exc).sp f fd) (hr : Room (k + 1) X.A) (hs : Sl Ts ins) (ha : AK X Y (e :: es) ρ cs Ts vl cs1 M) (hg : Gl X nm := by rfl)
    (hdb : (nm == ("__debug__" : Str)) = false := by decide) (he : starEach (e :: es) X.env = (false, eval e X.env) :: starEach es X.env := by rfl) (hpl : (backTo pos (starEach es X.env)).any (·.1) = false := by rfl) :
    EK X Y (.Call (.Name nm p) (e :: es) [] pos) ρ cs (tIn Cl fdd) (fun y : μ × γ => y.2) (fun y => cs1 y.1) (fun φ => M fun y => pre (vl y) ∧ ∀ r, r = g (vl y) → φ (y, r)) :=
  ek_make vl c.mm c.F hr c.m c.b ha (fun y F vs h => hs F vs (vl y) h) hg hdb he hpl
/-- __init__'s end -/
theorem sk_endI {γ : Type} {Cl : Addr} {fd : γ → List (Str × Slot X.K)} {ins : A → List (Slot X.K)} {pre : A → Prop} {f : A → γ} {exc : A → Exn X.K → Prop} {a : Addr × A} {ψ : γ → Prop} {b' c' : L2.St → Hp → Prop} (q : γ) (hc : [⟨a.1, cI Cl (fd q)⟩] = cs) :
    SK X B Y fl [] ρ cs { retD (Con.ini Cl fd ins pre f exc) a B ψ with bk := b', ct := c' } (ψ q) := sk_end (C := Con.ini Cl fd ins pre f exc) q (fun _ => rfl) hc
theorem sk_st {st : List Stmt} {φ : Prop} {ρ2 : List (Slot X.K)} {cs2 : List (Cell X.K)} (h1 : ρ = ρ2) (h2 : cs = cs2) (k : SK X B Y fl st ρ2 cs2 D φ) : SK X B Y fl st ρ cs D φ := by subst h1; subst h2; exact k
theorem ek_ixR [Inhabited α] {a b : Expr} {T : Ty X.K α} {vl : μ → List α} {cs1 : μ → List (Cell X.K)} {M : (μ → Prop) → Prop} {i : Int} {P2 : Prop} (ha : EV X Y a ρ cs (fun y => rK T (vl y)) cs1 M) (hb : ∀ y, PK X b ρ (cs1 y) tI i P2) (hs : PlainIx b := by exact fun _ _ => rfl) :
    EK X Y (.Subscript a b pos) ρ cs T (fun y => pyIx (vl y) i) cs1 (fun φ => M fun y => P2 ∧ IxOk (vl y) i ∧ φ y) := fun F σ H ok xh φ p Q k => by
  refine we (pe_ix ix_list pe_w pe_w hs) ?_
  refine ha F σ H ok xh _ p _ fun y v F1 H1 m1 ⟨q, vs, e1, hq, r, z⟩ q1 => ?_
  refine hb y F1 σ H1 (ok.mv m1).w q1.1 _ fun w F2 H2 g2 r2 => ?_
  obtain ⟨u, hu, ru⟩ := rl_atI (Rl.mono g2.ff r) q1.2.1
  exact ⟨q, vs, i, u, e1, r2, g2.hh.seq hq, hu, k y u F2 H2 (m1.trans ((ok.mv m1).grow g2)) ru q1.2.2⟩
theorem sk_midX {ρ' : β → List (Slot X.K)} {cs' : β → List (Cell X.K)} {R : β → Prop} {z : β} (hn : D.nx = Mid B fl ρ' cs' R) (h : Le ρ (ρ' z)) (hc : cs = cs' z) : SK X B Y fl [] ρ cs D (R z) := fun F σ H ok p W tk hx' => by
  subst hc
  refine wb pss_nil ?_
  show D.nx σ H
  rw [hn]
  exact ⟨z, F, ⟨h.env ok.env, ok.mv, ok.flo⟩, p⟩
theorem sk_nilX {φ : Prop} {D' : Ends} (hn : D.nx = WB X rest D') (k : SK X B Y fl rest ρ cs D' φ) : SK X B Y fl [] ρ cs D φ := fun F σ H ok p W tk hx' => by
  refine wb pss_nil ?_
  show D.nx σ H
  rw [hn]
  exact k F σ H ok p W tk hx'
theorem sk_brkX {φ : Prop} {fl' : Hp} {D' : Ends} {r : List Stmt} (hb : D.bk = WB X rest D') (h : Same fl fl') (k : SK X B Y fl rest ρ cs D' φ) : SK X B Y fl' (.Break pos :: r) ρ cs D φ := fun F σ H ok p W tk hx' => by
  refine wb (pss_cons ps_break pss_w) ?_
  show D.bk σ H
  rw [hb]
  exact k F σ H (ok.low h) p W tk hx'
/-! ### chains of tests with effects -/
end
end MD
namespace MD
open PySem PySem.Spec PyProof.Rows L2
end MD
namespace MD
open PySem PySem.Spec PyProof.Rows L2
section
variable {X : Cx} {fl : Hp} {B : Hb X.K} {Y : Ec X.K} {ρ : List (Slot X.K)} {cs : List (Cell X.K)} {A R α β γ δ μ ν : Type} {pos : Pos} {rest : List Stmt} {D : Ends} {e : Expr} {es : List Expr} {t : TA}
def tUF {K : PySem.W.Frag} (T : Ty K α) : Ty K (List α) := ⟨fun F v xs => ∃ a vs o, v = .ref a ∧ F a = some (.frz o (.tup vs)) ∧ o.dict = none ∧ Rl T F vs xs ∧ vs.length ≤ sizeLine, fun e ⟨a, vs, o, h1, h2, hd, h3, h4⟩ => ⟨a, vs, o, h1, e _ _ h2, hd, h3.mono e, h4⟩⟩
theorem PK.uf {T : Ty X.K α} {xs : List α} {P : Prop} (h : PK X e ρ cs (tUF T) xs P) : PK X e ρ cs (tU T) xs P := fun F σ H ok p Q k => h F σ H ok p Q fun v F' H' g ⟨a, vs, o, h1, h2, hd, h3, h4⟩ => k v F' H' g ⟨a, vs, h1, .inr ⟨o, h2⟩, h3, h4⟩
end
end MD
namespace MD
open PySem PySem.Spec PyProof.Rows L2
section
variable {X : Cx} {fl : Hp} {B : Hb X.K} {Y : Ec X.K} {ρ : List (Slot X.K)} {cs : List (Cell X.K)} {A R α β γ δ μ ν : Type} {pos : Pos} {rest : List Stmt} {D : Ends} {e : Expr}
/-! ### chains of two comparisons -/
/-! ### a sign in a text -/
/-! ### texts of a module -/
/-! ### split -/
theorem mem_join {sep : Str} : ∀ {ps : List Str} {p : Str} {c : Nat}, p ∈ ps → c ∈ p.cps.toList → c ∈ (Str.join sep ps).cps.toList
  | [], _, _, h, _ => by cases h
  | [x], p, c, h, hc => by
    have : p = x := by simpa using h
    subst this
    exact hc
  | x :: y :: r, p, c, h, hc => by
    have e : Str.join sep (x :: y :: r) = x ++ sep ++ Str.join sep (y :: r) := rfl
    have e2 : (x ++ sep ++ Str.join sep (y :: r)).cps.toList = x.cps.toList ++ sep.cps.toList ++ (Str.join sep (y :: r)).cps.toList := by
      show ((x.cps ++ sep.cps) ++ (Str.join sep (y :: r)).cps).toList = _
      rw [Array.toList_append, Array.toList_append]
    rw [e, e2]
    rcases List.mem_cons.mp h with h | h
    · subst h
      exact List.mem_append.mpr (.inl (List.mem_append.mpr (.inl hc)))
    · exact List.mem_append.mpr (.inr (mem_join h hc))
/-! ### for over what is made with effects -/
/-! ### equality behind effects -/
end
end MD
namespace MD
open PySem PySem.Spec PyProof.Rows L2
/-! ### refusals -/
inductive Rf where
  | noText (n : Int) | twice (s : Str) | badStep (i : Int) (s : Str) | badGood (i : Int) | noLetter (s : Str) | noDesk (s : Str)
  | otherLetters | notices (a b : List Str) | tooMany (n : Int) | noName (s : Str) | noKind | noRow
/-- where the classes stand -/
structure XA where
  NoText : Addr := 0
  Twice : Addr := 0
  BadStep : Addr := 0
  BadGood : Addr := 0
  NoLetter : Addr := 0
  NoDesk : Addr := 0
  OtherLetters : Addr := 0
  Notices : Addr := 0
  TooMany : Addr := 0
  NoName : Addr := 0
  NoKind : Addr := 0
  NoRow : Addr := 0
def exn {K : PySem.W.Frag} (xa : XA) : Rf → Exn K
  | .noText n => ⟨xa.NoText, [("line", .val tI n)]⟩
  | .twice s => ⟨xa.Twice, [("name", .val tS s)]⟩
  | .badStep i s => ⟨xa.BadStep, [("letter", .val tS s), ("state", .val tI i)]⟩
  | .badGood i => ⟨xa.BadGood, [("state", .val tI i)]⟩
  | .noLetter s => ⟨xa.NoLetter, [("letter", .val tS s)]⟩
  | .noDesk s => ⟨xa.NoDesk, [("desk", .val tS s)]⟩
  | .otherLetters => ⟨xa.OtherLetters, []⟩
  | .notices a b => ⟨xa.Notices, [("other", .val (tL tS) b), ("one", .val (tL tS) a)]⟩
  | .tooMany n => ⟨xa.TooMany, [("most", .val tI n)]⟩
  | .noName s => ⟨xa.NoName, [("name", .val tS s)]⟩
  | .noKind => ⟨xa.NoKind, []⟩
  | .noRow => ⟨xa.NoRow, []⟩
/-! ### the promises of __init__ -/
end MD
namespace MD
open PySem PySem.Spec PyProof.Rows L2
/-! ### making and methods that may raise, at the slots as they are -/
/-! ### contracts of what may raise -/
theorem Mv.none {K : PySem.W.Frag} {cs cs1 : List (Cell K)} {F H F' H' : Hp} (m : Mv cs F H cs1 F' H') : Mv cs F H [] F' H' :=
  ⟨m.ff, m.fh, m.fr, m.kp, fun c h => (nomatch h), List.nodup_nil, fun c h => (nomatch h), m.st⟩
/-! ### calls of what may raise -/
end MD
namespace MD
open PySem PySem.Spec PyProof.Rows L2
/-! ### except clauses, each with a name or with none -/
/-! ### try, typed -/
theorem Mv.sub {K : PySem.W.Frag} {c0 cs cs2 : List (Cell K)} {F H F' H' : Hp} (m : Mv c0 F H cs2 F' H') (h : ∀ c ∈ cs, c ∈ cs2) (nd : (cs.map Cell.a).Nodup) : Mv c0 F H cs F' H' :=
  ⟨m.ff, m.fh, m.fr, m.kp, fun c hc => m.cell c (h c hc), nd, fun c hc => m.nw c (h c hc), m.st⟩
end MD
namespace MD
open PySem PySem.Spec PyProof.Rows L2
section
variable {X : Cx} {fl : Hp} {B : Hb X.K} {Y : Ec X.K} {ρ : List (Slot X.K)} {cs : List (Cell X.K)} {A R α β γ δ μ ν : Type} {pos : Pos} {rest : List Stmt} {D : Ends} {e : Expr}
/-! ### any plain data -/
def tA {K : PySem.W.Frag} : Ty K PyData := ⟨fun F v d => (∀ H, Same F H → Dp K H v d) ∧ SeqAt.shaped d = true, fun e h => ⟨fun H s => h.1 H (e.trans s), h.2⟩⟩
theorem PK.any {T : Ty X.K α} {x : α} {P : Prop} (D : DT T) (h : PK X e ρ cs T x P) (hn : D.n ≤ 64 := by exact Nat.le_of_ble_eq_true rfl) : PK X e ρ cs tA (D.d x) P := fun F σ H ok p Q k =>
  h F σ H ok p Q fun v F' H' g r => k v F' H' g ⟨fun H2 s => D.dp F' H2 v x s r, shaped_of (D.lay _ _ _ r) (D.dep x) hn⟩
theorem EK.any {T : Ty X.K α} {vl : μ → α} {cs' : μ → List (Cell X.K)} {M : (μ → Prop) → Prop} (D : DT T) (h : EK X Y e ρ cs T vl cs' M) (hn : D.n ≤ 64 := by exact Nat.le_of_ble_eq_true rfl) : EK X Y e ρ cs tA (fun y => D.d (vl y)) cs' M := fun F σ H ok xh φ p Q k =>
  h F σ H ok xh φ p Q fun y v F' H' m r q => k y v F' H' m ⟨fun H2 s => D.dp F' H2 v (vl y) s r, shaped_of (D.lay _ _ _ r) (D.dep _) hn⟩ q
/-! ### None -/
/-- what is never None -/
def NoN {K : PySem.W.Frag} (T : Ty K α) : Prop := ∀ F v x, T.rep F v x → v ≠ .non
theorem nn_L {K : PySem.W.Frag} {T : Ty K α} : NoN (tL T) := fun F v x ⟨a, vs, h, _⟩ e => by rw [h] at e; cases e
theorem o_none {K : PySem.W.Frag} {T : Ty K α} (n : NoN T) {F : Hp} {v : V} {x : Option α} (h : (tO T).rep F v x) : decide (v = .non) = x.isNone := by
  cases x with
  | none => exact decide_eq_true h
  | some y => exact decide_eq_false (n F v y h)
theorem pt_notN {a : Expr} {T : Ty X.K α} {x : Option α} {P : Prop} {j} {p2 : Pos} (n : NoN T) (ha : PK X a ρ cs (tO T) x P) (hm : behindInMarks .IsNot (.Constant .none j p2) = false := by first | exact nomark _ | rfl) : PTK X (.Compare a [.IsNot] [.Constant .none j p2] pos) ρ cs (!x.isNone) P := fun F σ H ok p Q k => by
  refine wt (pt_cmpR op_notN pe_w pe_non hm) ?_
  exact ha F σ H ok p _ fun v F1 H1 g1 r1 => ⟨rfl, _, rfl, by rw [o_none n r1]; exact k F1 H1 g1⟩
/-! ### tuples with effects -/
/-! ### isinstance in a suite -/
/-! ### all ways of a refusal -/
theorem kp0 {K : PySem.W.Frag} {c : Cell K} {Pr : Prop} (h : c ∈ ([] : List (Cell K))) : Pr := nomatch h
/-- a, b = e and its like -/
theorem sk_setG {tg : Expr} {T : Ty X.K α} {G : List (Slot X.K) → α → List (Slot X.K)} {vs : List Nat} {vl : μ → α} {cs' : μ → List (Cell X.K)} {M : (μ → Prop) → Prop} {φ : μ → α → Prop} (hg : GK X tg T G vs) (he : EK X Y e ρ cs T vl cs' M) (k : ∀ y z, SK X B Y fl rest (G ρ z) (cs' y) D (φ y z))
    (hs : swapsWithSole [tg] e pos.line X.env = pure false := by rfl) (hw : swappedStores [tg] e X.env = pure none := by rfl) (h1 : (assignEach [tg] X.env).map (·.2) = [assign tg X.env] := by rfl) :
    SK X B Y fl (.Assign [tg] e pos :: rest) ρ cs D (M fun y => ∀ z, z = vl y → φ y z) := fun F σ H ok p W tk hx' => by
  refine wb (pss_cons (ps_asg pe_w pg_w hs hw h1) pss_w) ?_
  refine he F σ H ok.c (xh_of ok tk hx') _ p _ fun y v F1 H1 m t q => ?_
  have ok1 := ok.to m
  refine hg F1 σ H1 v (vl y) ρ ok1.env ok1.mv.fh t _ fun σ2 hρ2 _ => ?_
  exact k y (vl y) F1 σ2 H1 ⟨hρ2, ok1.mv, ok1.flo⟩ (q _ rfl) W tk hx'
/-! ### a for over what effects made, in two rules -/
/-! ### the same, where the refusals are caught: no fragment in the condition -/
/-! ### the answers that the written part does not give at once -/
end
end MD
namespace KP
open PySem PySem.Spec PyProof.Rows L2 MD
/-! ### words -/
def abc : Str := "abcdefghijklmnopqrstuvwxyz"
def Low (s : Str) : Prop := ∀ c ∈ s.cps.toList, 97 ≤ c ∧ c ≤ 122
def Word (s : Str) : Prop := 1 ≤ s.length ∧ s.length ≤ 8 ∧ Low s
def sgn (c : Nat) : Str := ⟨#[c]⟩
theorem abc_cps : abc.cps.toList = List.map (fun i => 97 + i) (List.range 26) := by decide +kernel
theorem abc_len : abc.length = 26 := by decide +kernel
theorem str_len (s : Str) : s.length = s.cps.toList.length := by
  show s.cps.size = _
  rw [Array.length_toList]
theorem signs_abc : MD.signs abc = List.map (fun i => sgn (97 + i)) (List.range 26) := by
  unfold MD.signs
  rw [abc_cps, List.map_map]
  rfl
theorem app_cps (a b : Str) : (a ++ b).cps.toList = a.cps.toList ++ b.cps.toList := by
  show (a.cps ++ b.cps).toList = _
  rw [Array.toList_append]
theorem app_len (a b : Str) : (a ++ b).length = a.length + b.length := by rw [str_len, str_len, str_len, app_cps, List.length_append]
theorem low_app {a b : Str} (ha : Low a) (hb : Low b) : Low (a ++ b) := fun c hc => by
  rw [app_cps] at hc
  exact (List.mem_append.mp hc).elim (ha c) (hb c)
theorem pyIx_abc {r : Int} (h0 : 0 ≤ r) (h1 : r < 26) : pyIx (MD.signs abc) r = sgn (97 + r.toNat) := by
  unfold pyIx atI
  have hl : (MD.signs abc).length = 26 := by rw [signs_abc, List.length_map, List.length_range]
  have e : ixN (MD.signs abc).length r = some r.toNat := by
    unfold ixN
    rw [if_pos h0, hl, if_pos (by omega)]
  rw [e]
  show ((MD.signs abc)[r.toNat]?).getD default = _
  rw [signs_abc, List.getElem?_map, List.getElem?_range (by omega)]
  rfl
theorem ixok_abc {r : Int} (h0 : 0 ≤ r) (h1 : r < 26) : IxOk (MD.signs abc) r := by
  have hl : (MD.signs abc).length = 26 := by rw [signs_abc, List.length_map, List.length_range]
  exact ⟨by rw [hl]; omega, by rw [hl]; omega⟩
theorem sgn_word {r : Nat} (h : r < 26) : Word (sgn (97 + r)) := ⟨Nat.le_refl _, by show 1 ≤ 8; decide, fun c hc => by
  have : c = 97 + r := by simpa [sgn] using hc
  omega⟩
/-- joined single letters -/
theorem join_letters : ∀ ls : List Str, (∀ s ∈ ls, s.length = 1 ∧ Low s) → (Str.join ⟨#[]⟩ ls).length = ls.length ∧ Low (Str.join ⟨#[]⟩ ls)
  | [], _ => ⟨rfl, fun c hc => by cases hc⟩
  | s :: ls, h => by
    obtain ⟨i1, i2⟩ := join_letters ls fun x hx => h x (List.mem_cons_of_mem _ hx)
    obtain ⟨h1, h2⟩ := h s List.mem_cons_self
    rw [join_nil_cons]
    exact ⟨by rw [app_len, h1, i1, List.length_cons]; omega, low_app h2 i2⟩
/-- fewer than 26 words leave a letter free -/
theorem nodup_sub_len {α : Type} [DecidableEq α] : ∀ {xs ys : List α}, xs.Nodup → (∀ x ∈ xs, x ∈ ys) → xs.length ≤ ys.length
  | [], _, _, _ => Nat.zero_le _
  | x :: xs, ys, h, hs => by
    obtain ⟨h1, h2⟩ := List.nodup_cons.mp h
    have hx : x ∈ ys := hs x List.mem_cons_self
    have := nodup_sub_len (xs := xs) (ys := ys.erase x) h2 fun y hy => (List.mem_erase_of_ne (show y ≠ x from fun e => h1 (by rw [← e]; exact hy))).mpr (hs y (List.mem_cons_of_mem _ hy))
    rw [List.length_erase_of_mem hx] at this
    have := List.length_pos_of_mem hx
    rw [List.length_cons]
    omega
theorem sgn_inj {a b : Nat} (h : sgn a = sgn b) : a = b := by
  have := congrArg (fun s : Str => s.cps.toList) h
  simpa [sgn] using this
theorem signs_nodup : (MD.signs abc).Nodup := by
  rw [signs_abc]
  exact List.Pairwise.map (R := fun a b => a ≠ b) _ (fun a b h e => h (by have := sgn_inj e; omega)) List.nodup_range
theorem free_letter {found : List Str} (h : found.length < 26) : ∃ s ∈ MD.signs abc, s ∉ found := by
  refine Classical.byContradiction fun hn => ?_
  have : ∀ s ∈ MD.signs abc, s ∈ found := fun s hs => Classical.byContradiction fun hf => hn ⟨s, hs, hf⟩
  have h2 := nodup_sub_len signs_nodup this
  rw [signs_abc, List.length_map, List.length_range] at h2
  omega
/-! ### pieces of texts and lists -/
theorem cutS_to (z : Str) {n : Nat} (h : n ≤ z.length) : (cutS z none (some (n : Int))).cps.toList = z.cps.toList.take n := by
  unfold cutS
  rw [HT.sIx_none, HT.sIx_nat, Nat.min_eq_left h]
  simp
theorem cutS_from (z : Str) {n : Nat} (h : n ≤ z.length) : (cutS z (some (n : Int)) none).cps.toList = z.cps.toList.drop n := by
  unfold cutS
  rw [HT.sIx_none, HT.sIx_nat, Nat.min_eq_left h]
  simp only [List.drop_zero, List.toList_toArray]
  exact List.take_of_length_le (by rw [List.length_drop, str_len]; omega)
theorem take_step {α : Type} {xs : List α} {i : Nat} {x : α} (h : xs[i]? = some x) : xs.take (i + 1) = xs.take i ++ [x] := by
  rw [List.take_add_one, h]
  rfl
theorem get_mem {α : Type} {xs : List α} {i : Nat} {x : α} (h : xs[i]? = some x) : x ∈ xs := List.mem_of_getElem? h
theorem pyIx_nat {α : Type} [Inhabited α] {xs : List α} {i : Int} (h0 : 0 ≤ i) (h1 : i < xs.length) : ∃ x, pyIx xs i = x ∧ xs[i.toNat]? = some x := by
  unfold pyIx atI
  have e : ixN xs.length i = some i.toNat := by unfold ixN; rw [if_pos h0, if_pos h1]
  rw [e]
  have hl : i.toNat < xs.length := by omega
  exact ⟨xs[i.toNat], by show (xs[i.toNat]?).getD default = _; rw [List.getElem?_eq_getElem hl]; rfl, List.getElem?_eq_getElem hl⟩
theorem pyIx_mem {α : Type} [Inhabited α] {xs : List α} {i : Int} (h0 : 0 ≤ i) (h1 : i < xs.length) : pyIx xs i ∈ xs := by
  obtain ⟨x, e, h⟩ := pyIx_nat h0 h1
  rw [e]; exact get_mem h
/-! ### sharings' rows -/
abbrev SRow := Str × List Str
def desksF (rows : List SRow) : List Str := (rows.map (·.2)).flatten
def desksOf (rows : List SRow) : List Str := setS (desksF rows)
theorem desksF_mem {rows : List SRow} {d : Str} : d ∈ desksF rows ↔ ∃ r ∈ rows, d ∈ r.2 := by
  unfold desksF
  rw [List.mem_flatten]
  constructor
  · rintro ⟨l, hl, hd⟩
    obtain ⟨r, hr, rfl⟩ := List.mem_map.mp hl
    exact ⟨r, hr, hd⟩
  · rintro ⟨r, hr, hd⟩
    exact ⟨r.2, List.mem_map.mpr ⟨r, hr, rfl⟩, hd⟩
theorem setS_mem {xs : List Str} {x : Str} : x ∈ setS xs ↔ x ∈ xs := by unfold setS; rw [sortS_mem, List.mem_eraseDups]
theorem setS_nodup (xs : List Str) : (setS xs).Nodup := (sortS_perm _).nodup_iff.mpr (nodup_eraseDups xs)
theorem desksOf_mem {rows : List SRow} {d : Str} : d ∈ desksOf rows ↔ ∃ r ∈ rows, d ∈ r.2 := by unfold desksOf; rw [setS_mem, desksF_mem]
def Names (n : Int) (r : List Str) : Prop := (r.length : Int) = n ∧ r.Nodup ∧ ∀ s ∈ r, Word s
structure RowsOk (rows : List SRow) : Prop where
  ne : rows ≠ []
  len : rows.length ≤ 6
  nd : (rows.map (·.1)).Nodup
  wl : ∀ r ∈ rows, Word r.1
  dne : ∀ r ∈ rows, r.2 ≠ []
  dnd : ∀ r ∈ rows, r.2.Nodup
  dw : ∀ r ∈ rows, ∀ d ∈ r.2, Word d
  all : (desksOf rows).length ≤ 4
theorem RowsOk.of {rows acc : List SRow} (h : RowsOk rows) (hf : (acc.map (·.1)).Perm (rows.map (·.1))) (hr : ∀ r ∈ acc, r.2 ≠ [] ∧ r.2.Nodup ∧ ∀ d ∈ r.2, Word d) {ds : List Str} (hl : ds.length ≤ 4) (hd : ∀ r ∈ acc, ∀ d ∈ r.2, d ∈ ds) : RowsOk acc where
  ne := fun e => by
    subst e
    have := hf.length_eq
    simp at this
    exact h.ne (List.length_eq_zero_iff.mp this.symm)
  len := by
    have := hf.length_eq
    rw [List.length_map, List.length_map] at this
    rw [this]; exact h.len
  nd := hf.nodup_iff.mpr h.nd
  wl := fun r hr => by
    have : r.1 ∈ rows.map (·.1) := hf.mem_iff.mp (List.mem_map.mpr ⟨r, hr, rfl⟩)
    obtain ⟨r0, h0, e⟩ := List.mem_map.mp this
    rw [← e]; exact h.wl r0 h0
  dne := fun r h => (hr r h).1
  dnd := fun r h => (hr r h).2.1
  dw := fun r h => (hr r h).2.2
  all := Nat.le_trans (nodup_sub_len (setS_nodup _) fun d hdd => by
    obtain ⟨r, h1, h2⟩ := desksOf_mem.mp hdd
    exact hd r h1 d h2) hl
/-! ### dicts of rows -/
theorem dput_new {α : Type} {kvs : List (Str × α)} {x : Str} {y : α} (h : x ∉ kvs.map (·.1)) : dput kvs x y = kvs ++ [(x, y)] := by
  unfold dput
  rw [if_neg]
  intro e
  obtain ⟨p, hp, q⟩ := List.any_eq_true.mp e
  exact h (List.mem_map.mpr ⟨p, hp, by simpa using q⟩)
theorem dget_none {α : Type} {kvs : List (Str × α)} {x : Str} (h : x ∉ kvs.map (·.1)) : dget kvs x = none := by
  unfold dget
  rw [List.find?_eq_none.mpr fun p hp => by
    have : ¬ p.1 = x := fun e => h (List.mem_map.mpr ⟨p, hp, e⟩)
    simpa using this]
  rfl
/-! ### steps of comprehensions -/
section
variable {α β γ : Type}
theorem map_step {xs : List α} {i : Nat} {x : α} (g : α → γ) (h : xs[i]? = some x) : (xs.take (i + 1)).map g = (xs.take i).map g ++ [g x] := by
  rw [take_step h, List.map_append]
  rfl
theorem filt_yes {xs : List α} {i : Nat} {x : α} {p : α → Bool} (h : xs[i]? = some x) (hp : p x = true) : (xs.take (i + 1)).filter p = (xs.take i).filter p ++ [x] := by
  rw [take_step h, List.filter_append, List.filter_cons_of_pos hp]
  rfl
theorem filt_no {xs : List α} {i : Nat} {x : α} {p : α → Bool} (h : xs[i]? = some x) (hp : p x = false) : (xs.take (i + 1)).filter p = (xs.take i).filter p := by
  rw [take_step h, List.filter_append, List.filter_cons_of_neg (by simp [hp]), List.filter_nil, List.append_nil]
theorem nodup_mapOn {f : α → β} : ∀ {xs : List α}, (∀ x ∈ xs, ∀ y ∈ xs, f x = f y → x = y) → xs.Nodup → (xs.map f).Nodup
  | [], _, _ => List.nodup_nil
  | x :: xs, hf, h => by
    obtain ⟨h1, h2⟩ := List.nodup_cons.mp h
    rw [List.map_cons]
    refine List.nodup_cons.mpr ⟨fun m => ?_, nodup_mapOn (fun a ha b hb => hf a (List.mem_cons_of_mem _ ha) b (List.mem_cons_of_mem _ hb)) h2⟩
    obtain ⟨y, hy, e⟩ := List.mem_map.mp m
    have := hf y (List.mem_cons_of_mem _ hy) x List.mem_cons_self e
    exact h1 (this ▸ hy)
theorem nodup_take {xs : List α} {i : Nat} {x : α} (hn : xs.Nodup) (h : xs[i]? = some x) : x ∉ xs.take i := by
  have h2 : (xs.take (i + 1)).Nodup := hn.sublist (List.take_sublist _ _)
  rw [take_step h] at h2
  intro hm
  exact (List.nodup_append.mp h2).2.2 x hm x (List.mem_singleton.mpr rfl) rfl
end
/-! ### words made -/
theorem join_nil_len {ls : List Str} (h : ∀ s ∈ ls, s.length = 1 ∧ Low s) : (Str.join "" ls).length = ls.length ∧ Low (Str.join "" ls) := join_letters ls h
theorem sum_len {ls : List Str} (h : ∀ s ∈ ls, s.length = 1 ∧ Low s) : (ls.map (fun x => x.length)).sum = ls.length := by
  induction ls with
  | nil => rfl
  | cons x ls ih =>
    rw [List.map_cons, List.sum_cons, ih fun s hs => h s (List.mem_cons_of_mem _ hs), (h x List.mem_cons_self).1, List.length_cons]
    omega
theorem ins_low {w s : Str} {n : Nat} (hw : Low w) (hs : Low s) (h : n ≤ w.length) : Low (cutS w none (some (n : Int)) ++ s ++ cutS w (some (n : Int)) none) := by
  refine low_app (low_app (fun c hc => ?_) hs) (fun c hc => ?_)
  · rw [cutS_to w h] at hc; exact hw c (List.mem_of_mem_take hc)
  · rw [cutS_from w h] at hc; exact hw c (List.mem_of_mem_drop hc)
theorem ins_len {w s : Str} {n : Nat} (h : n ≤ w.length) : (cutS w none (some (n : Int)) ++ s ++ cutS w (some (n : Int)) none).length = w.length + s.length := by
  rw [str_len, app_cps, app_cps, cutS_to w h, cutS_from w h, List.length_append, List.length_append, List.length_take, List.length_drop, str_len s]
  have : w.length = w.cps.toList.length := str_len w
  omega
theorem ins_inj {w s t : Str} {n : Nat} (h : n ≤ w.length) (e : cutS w none (some (n : Int)) ++ s ++ cutS w (some (n : Int)) none = cutS w none (some (n : Int)) ++ t ++ cutS w (some (n : Int)) none) : s = t := by
  have e2 := congrArg (fun z : Str => z.cps.toList) e
  simp only [app_cps] at e2
  exact str_ext (List.append_cancel_left (List.append_cancel_right e2))
theorem len_sgn (c : Nat) : (sgn c).length = 1 := rfl
theorem low_sgn {r : Nat} (h : r < 26) : Low (sgn (97 + r)) := (sgn_word h).2.2
theorem zs_low : Low "zzzzzzzz" := by
  intro c hc
  have : ∀ c ∈ (Str.ofString "zzzzzzzz").cps.toList, 97 ≤ c ∧ c ≤ 122 := by decide +kernel
  exact this c hc
theorem cutS_zs {n : Nat} (h : n ≤ 7) : (cutS "zzzzzzzz" (some (n : Int)) none).length = 8 - n ∧ Low (cutS "zzzzzzzz" (some (n : Int)) none) := by
  have hz : (Str.ofString "zzzzzzzz").length = 8 := by decide +kernel
  have e := cutS_from "zzzzzzzz" (n := n) (by show n ≤ (Str.ofString "zzzzzzzz").length; omega)
  refine ⟨?_, fun c hc => ?_⟩
  · rw [str_len, e, List.length_drop, ← str_len]
    show (Str.ofString "zzzzzzzz").length - n = _
    rw [hz]
  · rw [e] at hc
    exact zs_low c (List.mem_of_mem_drop hc)
theorem nodup_set {α : Type} : ∀ {xs : List α} {x : α} {i : Nat}, xs.Nodup → x ∉ xs → (xs.set i x).Nodup
  | [], _, _, h, _ => h
  | a :: xs, x, 0, h, hx => by
    obtain ⟨h1, h2⟩ := List.nodup_cons.mp h
    rw [List.set_cons_zero]
    exact List.nodup_cons.mpr ⟨fun m => hx (List.mem_cons_of_mem _ m), h2⟩
  | a :: xs, x, i + 1, h, hx => by
    obtain ⟨h1, h2⟩ := List.nodup_cons.mp h
    rw [List.set_cons_succ]
    refine List.nodup_cons.mpr ⟨fun m => ?_, nodup_set h2 fun m => hx (List.mem_cons_of_mem _ m)⟩
    rcases List.mem_or_eq_of_mem_set m with m | e
    · exact h1 m
    · exact hx (by rw [← e]; exact List.mem_cons_self)
/-! ### what each def asks and gives -/
def Fl (fl : List Int) : Prop := ∃ a b c : Int, fl = [a, b, c] ∧ 0 ≤ c ∧ c < 1099511627776
def pre_draw (fl : List Int) (n : Int) : Prop := Fl fl ∧ 0 < n ∧ n ≤ 1000000
def post_draw (fl : List Int) (n r : Int) (fl2 : List Int) : Prop := 0 ≤ r ∧ r < n ∧ Fl fl2
def pre_cell (x : List Int × Int) : Prop := 0 ≤ x.2
def f_cell (x : List Int × Int) : Int := if x.2 < x.1.length then pyIx x.1 x.2 else (if 0 < x.1.length then pyIx x.1 (x.2 * 7 % x.1.length) % 2147483629 * 48271 + x.2 * 7919 else x.2 * 7919 + 5) % 2147483647 * 31
def pre_flow (x : List Int × Int) : Prop := 0 ≤ x.2 ∧ x.2 ≤ 1000000
def post_flow (x : List Int × Int) (r : List Int) : Prop := Fl r
def pre_names (fl : List Int) (n : Int) : Prop := Fl fl ∧ 1 ≤ n ∧ n ≤ 8
def post_names (fl : List Int) (n : Int) (r : List Str) (fl2 : List Int) : Prop := Names n r ∧ Fl fl2
end KP
namespace MD
open PySem PySem.Spec PyProof.Rows L2
/-! ### a def of one thing, the caught exception, called in a suite: nothing flies out of it -/
section
variable {X : Cx} {Y : Ec X.K} {ρ : List (Slot X.K)} {cs : List (Cell X.K)} {α μ : Type} {pos : Pos} {e : Expr}
theorem ne_catP {a b : Expr} {T : Ty X.K α} {xs : List α} {P1 : Prop} {vl : μ → List α} {cs1 : μ → List (Cell X.K)} {M : (μ → Prop) → Prop} (ha : PK X a ρ cs (tL T) xs P1) (hb : EV X Y b ρ cs (fun y => rL T (vl y)) cs1 M) :
    NE X Y (.BinOp a .Add b pos) ρ cs T (fun y => xs ++ vl y) cs1 (fun φ => P1 ∧ M fun y => xs.length + (vl y).length ≤ sizeLine ∧ φ y) := fun F σ H ok xh φ q Q k => by
  refine we (pe_op op_cat pe_w pe_w) ?_
  refine ha F σ H ok.w q.1 _ fun v F1 H1 g1 ⟨l, vs, e, h, r, z⟩ => ?_
  have m0 := ok.grow g1
  refine hb F1 σ H1 (ok.mv m0) (xh.mv m0) _ q.2 _ fun y w F2 H2 m2 ⟨m, ws, e2, h2, r2, z2⟩ q2 => ?_
  have hl : vs.length + ws.length ≤ sizeLine := by rw [Rl.length r, Rl.length r2]; exact q2.1
  refine ⟨l, m, vs, ws, e, e2, m2.fh _ _ (m2.ff _ _ h), h2, hl, fun p hp => ?_⟩
  obtain ⟨m3, h3, h4, h5⟩ := new_ne (vs := vs ++ ws) ok (m0.trans m2) hp
  exact k y p _ F2 _ m3 h3 h4 upd_same h5 (Rl.append (r.mono m2.ff) r2) (by rw [List.length_append]; exact hl) q2.2
end
end MD
namespace MD
open PySem PySem.Spec PyProof.Rows L2
/-! ### dict(a list of pairs) -/
section
variable {K : PySem.W.Frag} {κ α : Type} [DecidableEq κ] {TK : Ty K κ} {kt : KT TK} {T : Ty K α} {F : Hp}
def dOf (rows : List (κ × α)) : List (κ × α) := rows.foldl (fun acc p => dput acc p.1 p.2) []
end
/-! ### is, of truths; what is never come to -/
/-! ### a slice of an owned list put otherwise -/
theorem rc_min2 {K : PySem.W.Frag} : RCK (K := K) (fun xs H Q => ∃ i j, xs = [.int i, .int j] ∧ Q (.int (if j < i then j else i)) H) (tsC tI (ts1 tI)) tI yes1 (fun x => if x.2 < x.1 then x.2 else x.1) := fun F H vs x s ⟨v, r, e, h1, u, e2, h2⟩ c Q k => by
  subst e; subst e2; cases h1; cases h2
  exact ⟨_, _, rfl, k _ F H (Grow.refl s) rfl⟩
/-! ### equality where no cell changes -/
end MD
namespace MD
open PySem PySem.Spec PyProof.Rows L2
open PySem.Builtin PySem.Builtin.Str
/-! ### signs of pieces -/
/-! ### str.partition -/
/-! ### str.replace of written texts, a token out -/
/-! ### lists one behind another, pieces of lists, and; with effects -/
end MD
namespace MD
open PySem PySem.Spec PyProof.Rows L2
end MD
namespace MD
open PySem PySem.Spec PyProof.Rows L2
/-! ### a def within which repr may be asked: around it nothing is being shown -/
structure FnG (P : Program) (w : World) (K : PySem.W.Frag) (mg : Str → Option Value) (base : Heap) (k : Nat) (f : Addr) (fd : FuncData) (ps : List Str) (sp : Sp) : Prop where
  len : ∀ vs H Q E, sp vs H Q E → vs.length = ps.length
  run : ∀ (A : Around) (ou : List Env) (s : Shared) (H : Hp) (as : Args) (us : List Value) (vs : List V) (Q : VK) (E : XK), Room k A → A.guards = some [] → Env0 P w K mg base A ou s H → BindsTo s fd as (ps.zip us) → Vals vs us → sp vs H Q E →
    codeAny (model P w) A (.call (.ref f) as) (CR (L2.CX P w) ou P w H s Q E) s
section
variable {P : Program} {w : World} {K : PySem.W.Frag} {mg : Str → Option Value} {base : Heap} {A R γ : Type}
theorem fn_conG {y qual : Str} {st : Stmt} {f : Addr} {fd : FuncData} {N ps : List Str} {k : Nat} (C : Con K A R γ) (F : Fun K y qual st f fd) (S : FnScope N ps (defScope st)) (hl : ∀ a, (C.ins a).length = ps.length)
    (body : ∀ (cdv : Value) (Ar : Around) (outer : List Env) (s : Shared) (H : Hp) (E : XK) (F0 : Hp) (a : A) (φ : R → Prop) (ε : Exn K → Prop), (Ar.deeper (envOfC qual (defScope st) s.heap.objs.size f cdv)).guards = some [] → Room k (Ar.deeper (envOfC qual (defScope st) s.heap.objs.size f cdv)) →
      PassesOwn (model P w) (Ar.deeper (envOfC qual (defScope st) s.heap.objs.size f cdv)) (envOfC qual (defScope st) s.heap.objs.size f cdv) (cxOf (L2.CX P w) P w K mg base N qual (defScope st) f cdv Ar outer s H E).xe →
      SK (cxOf (L2.CX P w) P w K mg base N qual (defScope st) f cdv Ar outer s H E) ⟨F0, H, C.cin a⟩ ⟨C.cin a, ε⟩ F0 (defBody st) (C.ins a ++ List.replicate (N.length - ps.length) .un) (C.cin a) (retD C a ⟨F0, H, C.cin a⟩ φ) (C.wp a φ ε)) :
    FnG P w K mg base (k + 1) f fd ps C.sp := by
  obtain ⟨oc, od, kV, doc, pm, an, cdv, ct, osl, rfl, lk, hcd⟩ := F.ex
  have hlen : ∀ vs H Q E, C.sp vs H Q E → vs.length = ps.length := fun vs H Q E ⟨a, F, h, _⟩ => by rw [← h.length]; exact hl a
  refine ⟨hlen, fun A outer s H args us vs Q E hr hgd e0 hb r hsp => ?_⟩
  have e := hlen _ _ _ _ hsp
  obtain ⟨a, F0, hv, hs, hc, hn, hw⟩ := hsp
  have inK : K.In s.heap := e0.mod.kin.keeps fun b o e => (e0.bs b o e).1
  have noL : s.heap.NoLimit := e0.mod.nolimit.keeps fun b o e => (e0.bs b o e).1
  have kinds : ∀ y ∈ ps.zip us, (defScope st).names.lookup y.1 = some .local ∨ ((defScope st).names.lookup y.1 = some .cell ∧ ((cellsFrom (s.heap.objs.size + 1) (defScope st).names []).lookup y.1).isSome = true) := fun ⟨n, v⟩ hy =>
    (S.par n (List.of_mem_zip hy).1).elim .inl fun q => .inr ⟨q, PySem.W.cellsFrom_some _ _ _ (.inl q)⟩
  refine codeAny_call_function hr.depth (inK _ _ lk) rfl S.co S.gen rfl (PySem.W.codeRec_of inK hcd) (hb _ _ _ _ ?_)
  refine wpAny_newFunctionEnv_cells S.kind kinds fun env he s1 y1 => ?_
  subst he
  refine ⟨noL.keeps y1.toInCall.keep, codeAny_func ?_⟩
  have I : Inv (cxOf (L2.CX P w) P w K mg base N qual (defScope st) f cdv A outer s H E) [] (L2.start N vs) H s1 := inv_start S hr.hd e0 e r y1
  have Bo : Mv (C.cin a) F0 H (C.cin a) F0 H := ⟨Same.refl _, hs, fun b h1 h2 => absurd h1 h2, fun b o e _ => e, hc, hn, fun c hc => .inl ⟨c, hc, rfl⟩, fun c hcm z => by
    obtain ⟨_, o, e, _⟩ := hc c hcm
    rw [e] at z; cases z⟩
  have run := body cdv A outer s H E F0 a _ _ hgd (hr.deeper _) (passes_of rfl) F0 (L2.start N vs) H ⟨by
    unfold L2.start
    rw [e]
    exact hv.start, Bo, Same.refl _⟩ hw (fun cls d _ H => E cls d H) (takes_of rfl rfl rfl rfl) (fun ex cls d cs2 F' H' σ' mv kp r ep => ep cls d F' H' ⟨mv.ff, mv.fh, mv.fr, mv.kp, fun c hc => mv.cell c (kp c hc), hn, fun c hc => .inl ⟨c, hc, rfl⟩, mv.st⟩ r) [] s1 I
  refine wpAny_mono run (fun fl s' hs => ?_) fun e s' hs => hs
  have done : ∀ {σ' : L2.St} {H' : Hp} {v : V} {u : Value}, Inv (cxOf (L2.CX P w) P w K mg base N qual (defScope st) f cdv A outer s H E) [] σ' H' s' → RelV v u → Q v H' → CE outer P w H s Q u s' :=
    fun {_ H' v _} J rv q => ⟨v, H', J.os, J.bare, J.base, J.hok, rv, q⟩
  cases fl with
  | ret u =>
    obtain ⟨v, σ', H', J, rv, z, F', m, t, q⟩ := hs
    exact done J rv (q v F' H' m t)
  | next =>
    obtain ⟨σ', H', J, z, F', m, t, q⟩ := hs
    exact done (v := V.non) (u := Value.none) J rfl (q .non F' H' m t)
  | brk =>
    obtain ⟨_, _, _, q⟩ := hs
    exact False.elim q
  | cont =>
    obtain ⟨_, _, _, q⟩ := hs
    exact False.elim q
end
/-! ### its call -/
/-! ### repr -/
/-- a text, of whatever signs -/
def tSx {K : PySem.W.Frag} : Ty K Str := ⟨fun _ v x => v = .str x, fun _ h => h⟩
section
variable {X : Cx}
theorem cr_repr {k : Nat} (hgd : X.A.guards = some []) (hr : Room k X.A) : CallR X (.builtin "repr") (fun xs H Q => ∃ a d, xs = [.ref a] ∧ Dp X.K H (.ref a) d ∧ d.showable = true ∧ d.hasDict = false ∧ d.depth ≤ 64 ∧ d.shown.length ≤ sizeLine ∧ Q (.str d.shown) H) := by
  intro pins s σ H xs us Q I rs ⟨a, d, e, hd, h1, h2, h3, h4, hq⟩
  subst e
  cases rs with
  | cons r1 rs =>
    cases rs
    obtain rfl : _ = Value.ref a := r1
    obtain ⟨as, hrd⟩ := Dp.reads I d (.ref a) (.ref a) hd rfl
    have hu := hr.un
    exact repr_of_reads' hrd h1 (fun e => by rw [h2] at e; cases e) hgd (by omega) (fun b o e => e) (fun h' u tk hk => ⟨.str d.shown, H, I.kept hk, ⟨u, rfl⟩, hq⟩) h4
end
theorem u_repr {K : PySem.W.Frag} {α : Type} {T : Ty K α} (D : DT T) (hb : ∀ F v x, T.rep F v x → ∃ a, v = .ref a) (hn : D.n ≤ 64) {x : α} : U1 (fun xs H Q => ∃ a d, xs = [.ref a] ∧ Dp K H (.ref a) d ∧ d.showable = true ∧ d.hasDict = false ∧ d.depth ≤ 64 ∧ d.shown.length ≤ sizeLine ∧ Q (.str d.shown) H) (sv T x)
    ((D.d x).showable = true ∧ (D.d x).hasDict = false ∧ (D.d x).shown.length ≤ sizeLine) (sv (tSx (K := K)) (D.d x).shown) := fun F H v s h c Q k => by
  have ⟨a, ea⟩ := hb F v x h
  subst ea
  exact ⟨a, D.d x, rfl, D.dp F H _ x s h, c.1, c.2.1, Nat.le_trans (D.dep x) hn, c.2.2, k _ F H (Grow.refl s) rfl⟩
theorem tT_ref {K : PySem.W.Frag} {α : Type} {Ts : Tys K α} : ∀ F v x, (tT Ts).rep F v x → ∃ a, v = .ref a := fun F v x ⟨a, _, e, _⟩ => ⟨a, e⟩
theorem r2_neR {K : PySem.W.Frag} : R2K (K := K) rNe tSx tSx tB yes2 (fun i j => !decide (i = j)) := fun F H v w x y s h1 h2 c Q k => by
  cases h1; cases h2
  refine ⟨rfl, k _ F H (Grow.refl s) ?_⟩
  show V.bl _ = V.bl _
  rw [dec_strD]
/-! ### the law's end -/
section
variable {P : Program} {w : World} {K : PySem.W.Frag} {mg mb : Str → Option Value} {k : Nat} {fa a : Addr} {fd : FuncData} {x : Str} {sp : Sp} {s1 : Shared} {vs : List Value} {ns : List Int}
theorem law_callG (inK : K.In s1.heap) (gn : s1.heap.Ns mainGlobals mg) (bn : s1.heap.Ns builtinsNs mb) (bb : ∀ x : Str, x ≠ "__name__" → mb x = bootBuiltins x) (nl : s1.heap.NoLimit) (ge : s1.gens = #[])
    (ha : s1.heap.get? a = some { cls := .type "list", data := .seq vs.toArray }) (hi : IntsAre vs ns) (hl : ns.length ≤ sizeLine) (hr : Room k callerA)
    (F : ∀ base : Heap, K.In base → base.Ns mainGlobals mg → FnG P w K mg base k fa fd [x] sp) (hbind : ∀ (s : Shared) (u : Value), BindsTo s fd ⟨[u], []⟩ [(x, u)])
    (hsp : ∀ H : Hp, Only H → SqL K H a (ns.map V.int) → sp [.ref a] H (fun v _ => v = .bl true) fun _ _ _ => False)
    (hCX : ∀ H e s', L2.CX P w [] H s1 (fun _ _ _ => False) e s' → False) :
    codeAny (model P w) callerA (.call (.ref fa) ⟨[.ref a], []⟩) (fun r s' => r = .ok (.ret (.bool true)) ∧ OldK s1.heap s'.heap ∧ s'.os = s1.os ∧ AllBare s'.gens) s1 := by
  have vi := vals_ints hi
  have vl := hi.length
  have go : ∀ H : Hp, Only H → SqL K H a (ns.map V.int) → HOk P w H s1.heap → (∀ b, H b ≠ none → b = a) → (H a ≠ none → K.lookup a = none) →
      codeAny (model P w) callerA (.call (.ref fa) ⟨[.ref a], []⟩) (fun r s' => r = .ok (.ret (.bool true)) ∧ OldK s1.heap s'.heap ∧ s'.os = s1.os ∧ AllBare s'.gens) s1 := by
    intro H only seq ok one low
    have put : ∀ {b : Addr} {o : Obj}, s1.heap.get? b = some o → H b = none → (hidT s1.heap H).get? b = some o := fun e n => hidT_get e n
    have freeD : ∀ {b : Addr} {o : Obj} {es : Array DictEntry} {n : Nat}, s1.heap.get? b = some o → o.data = .dict es n → H b = none := fun {b o es n} e d => Classical.byContradiction fun q => by
      have eb := one b q
      subst eb
      rw [ha] at e
      cases e
      have d2 : Data.seq vs.toArray _ = Data.dict es n := d
      cases d2
    have nss : ∀ {b : Addr} {m : Str → Option Value}, s1.heap.Ns b m → (hidT s1.heap H).Ns b m := fun ⟨o, es, n, e, d, r⟩ => ⟨o, es, n, put e (freeD e d), d, r⟩
    have inH : K.In (hidT s1.heap H) := fun b o e => put (inK b o e) (Classical.byContradiction fun q => by
      have eb := one b q
      subst eb
      rw [low q] at e
      cases e)
    have md : Mod K mg (hidT s1.heap H) := ⟨inH, nss gn, ⟨mb, nss bn, bb⟩, nl.elim fun mc h => ⟨mc, nss h.1, h.2⟩⟩
    have env : Env0 P w K mg (hidT s1.heap H) callerA [] s1 H := ⟨rfl, md, fun b o e => of_hidT e, Nat.le_of_eq (hidT_size _ _), trivial, fun b hb => absurd (show b ∈ ([] : List Addr) from hb) (by simp), ok, .of_eq ge⟩
    have run := (F _ inH (nss gn)).run callerA [] s1 H ⟨[.ref a], []⟩ [.ref a] [.ref a] _ _ hr rfl env (hbind s1 (.ref a)) (.cons rfl .nil) (hsp H only seq)
    refine codeAny_mono run fun r s2 h => ?_
    cases r with
    | error e => exact (hCX H e s2 h).elim
    | ok fl =>
      cases fl with
      | next => exact False.elim h
      | brk => exact False.elim h
      | cont => exact False.elim h
      | ret u =>
        obtain ⟨v, H2, os, bare, un, ok2, rv, q⟩ := h
        have q : v = .bl true := q
        subst q
        obtain rfl : u = Value.bool true := rv
        refine ⟨rfl, OldK.of_keep fun b o e => ?_, os, bare⟩
        cases hb : H b with
        | none => exact un.keep b o e hb (by intro z; exact absurd (show b ∈ ([] : List Addr) from z) (by simp)) (by simp)
        | some t =>
          rcases only b with z | ⟨ob, xs, z⟩
          · rw [hb] at z
            cases z
          · obtain ⟨g1, _⟩ := ok b _ z
            obtain ⟨g2, _⟩ := ok2 b _ (un.frzs b ob _ z)
            rw [e] at g1
            cases g1
            exact g2
  have sz : (ns.map V.int).length ≤ sizeLine := by rw [List.length_map]; exact hl
  cases hk : K.lookup a with
  | some o =>
    have e := inK a o hk
    rw [ha] at e
    cases e
    exact go (fun _ => none) (fun _ => .inl rfl) (.inr ⟨_, vs.toArray, _, hk, rfl, rfl, rfl, by rw [List.size_toArray, vl]; exact hl, by simpa using vi⟩) (fun b u z => nomatch z) (fun b z => absurd rfl z) fun z => absurd rfl z
  | none =>
    let one : HO := .frz { cls := .type "list", data := .seq vs.toArray } (.lst (ns.map V.int))
    have at1 : ∀ {b : Addr}, b = a → (fun b => if b = a then some one else none : Hp) b = some one := fun h => if_pos h
    have at0 : ∀ {b : Addr}, b ≠ a → (fun b => if b = a then some one else none : Hp) b = none := fun h => if_neg h
    refine go (fun b => if b = a then some one else none) (fun b => ?_) (.inl (.inr ⟨{ cls := .type "list", data := .seq vs.toArray }, at1 rfl⟩)) (fun b u z => ?_) (fun b z => Classical.byContradiction fun h => z (at0 h)) fun _ => hk
    · by_cases h : b = a
      · exact .inr ⟨_, _, at1 h⟩
      · exact .inl (at0 h)
    · by_cases h : b = a
      · subst h
        have z := (at1 rfl).symm.trans z
        cases z
        exact ⟨ha, sz, vs, _, vi, ha⟩
      · exact nomatch (at0 h).symm.trans z
end
theorem walk_ofG {l : PySem.W.OpenLaw} {n k : Nat} {q : Program} {loose : List Str} {XP : (Str → Option Value) → Heap → Prop} {YP : World → Heap → Prop} {d : DefRec} {K : Params → PySem.W.Frag} {sp : World → Sp} {x : Str}
    (hn : l.most = some n) (n2 : n ≤ sizeLine) (hdf : d.params.defaults = []) (hr : Room k callerA) (hY : ∀ (w : World) (h : Heap), YP w h → (K w.params).In h)
    (F : ∀ (w : World) (mg : Str → Option Value) (fa : Addr) (h : Heap), (K w.params).In h → h.Ns mainGlobals mg → mg d.name = some (.ref fa) →
      ∃ fd : FuncData, (∀ (s : Shared) (u : Value), BindsTo s fd ⟨[u], []⟩ [(x, u)]) ∧ ∀ base : Heap, (K w.params).In base → base.Ns mainGlobals mg → FnG l.prog w (K w.params) mg base k fa fd [x] (sp w))
    (hsp : ∀ (w : World) (H : Hp) (a : Addr) (ns : List Int), ns.length ≤ n → Only H → SqL (K w.params) H a (ns.map V.int) → sp w [.ref a] H (fun v _ => v = .bl true) fun _ _ _ => False)
    (hCX : ∀ (w : World) (H : Hp) (s : Shared) (e : Value) (s' : Shared), L2.CX l.prog w [] H s (fun _ _ _ => False) e s' → False) : PySem.W.WalkO q loose XP YP l.row.toRowW d [] (fun f vs => PySem.call f vs) :=
  Att.attach_call hn hdf fun w s0 s1 mg mb fa o pm cd doc a vs ns G Y ho hd hcd hmg hobj hints hlen hg =>
    have inK := hY w _ Y
    have ⟨_, hb, hF⟩ := F w mg fa _ inK G.T.g hmg
    law_callG inK G.T.g G.T.b G.T.builtins G.T.nolimit hg hobj hints (Nat.le_trans hlen n2) hr hF hb (fun H hO hS => hsp w H a ns hlen hO hS) fun H e s' => hCX w H s1 e s'
end MD
namespace MD
open PySem PySem.Spec PyProof.Rows L2
/-! ### tuple(a list), locked -/
section
variable {X : Cx}
theorem call_tupF : CallR X (.type "tuple") (fun xs H Q => ∃ p ys, xs = [.ref p] ∧ SqL X.K H p ys ∧ ∀ l o, H l = none → o.dict = none → Q (.ref l) (upd H l (.frz o (.tup ys)))) := by
  intro pins s σ H xs us Q I r ⟨p, ys, e, hq, q⟩
  subst e
  cases r with
  | cons r1 rs =>
    cases rs
    obtain rfl : _ = Value.ref p := r1
    obtain ⟨its, rv, pl, hz⟩ := I.list hq
    have hlen := rv.length
    refine call_tuple_list pl.isList (fun h' kp => ?_) (by simp only [List.size_toArray]; omega)
    have I1 : Inv X pins σ H { s with heap := h' } := I.kept (t' := s.toks) kp
    let ob : Obj := { cls := .type "tuple", data := .seq its.toArray }
    have hg : (h'.push ob).get? h'.objs.size = some ob := Heap.get?_push_size _ rfl
    exact ⟨.ref h'.objs.size, _, I1.laid (t' := s.toks) (o := .frz ob (.tup ys)) (fun b u e => Heap.get?_push_of_some _ e) (Nat.le_refl _) ⟨hg, hz, its, rv, ⟨_, hg, rfl, _, rfl⟩⟩, rfl, q _ ob (I1.hok.fresh (Nat.le_refl _)) rfl⟩
theorem u_tupF {K : PySem.W.Frag} {α : Type} {T : Ty K α} {xs : List α} : U1 (fun vs H Q => ∃ p ys, vs = [.ref p] ∧ SqL K H p ys ∧ ∀ l o, H l = none → o.dict = none → Q (.ref l) (upd H l (.frz o (.tup ys)))) (rK T xs) True (sv (tUF T) xs) := fun F H v s ⟨a, vs, e, h, r, z⟩ _ Q k => by
  subst e
  refine ⟨a, vs, rfl, h, fun l o hl hd => ?_⟩
  have g := grow_new s hl (.frz o (.tup vs))
  exact k _ _ _ g ⟨l, vs, o, rfl, upd_same, hd, r.mono g.ff, z⟩
end
section
variable {X : Cx} {Y : Ec X.K} {ρ : List (Slot X.K)} {cs : List (Cell X.K)} {A α β γ δ μ ν : Type} {pos : Pos} {e : Expr} {es : List Expr}
/-! ### l.index(y), a text that is there -/
/-! ### list(range(..)) -/
theorem rl_rg {F : Hp} (a b : Int) : Rl (tI (K := X.K)) F (rgV a b) (rng a b) := by
  unfold rgV rng
  generalize List.range (b - a).toNat = l
  induction l with
  | nil => exact .nil
  | cons i l ih => exact .cons rfl ih
theorem nk_listRg1 {a : Expr} {x : Int} {P : Prop} {p p2 q : Pos} (hc : X.calm = true) (hm : X.mg "list" = none) (hmr : X.mg "range" = none) (h : PK X a ρ cs tI x P) (hg : Gl X "list" := by rfl) (hgr : Gl X "range" := by rfl) (hs : starEach [a] X.env = (false, eval a X.env) :: starEach [] X.env := by rfl)
    (hs2 : starEach [.Call (.Name "range" p2) [a] [] q] X.env = (false, eval (.Call (.Name "range" p2) [a] [] q) X.env) :: starEach [] X.env := by rfl) :
    NK X (.Call (.Name "list" p) [.Call (.Name "range" p2) [a] [] q] [] pos) ρ cs tI (rng 0 x) (P ∧ -(2 ^ 62) ≤ x ∧ x ≤ 16777216) := fun F σ H ok c Q k => by
  refine we (pe_listRg hc hg hm (prg_1 hgr hmr pe_w hs) hs2) ?_
  refine h F σ H ok c.1 _ fun v F1 H1 g1 r1 => ⟨x, r1, ⟨by decide, by decide, c.2.1, by have := c.2.2; omega, by have := c.2.2; omega⟩, fun l hl => ?_⟩
  obtain ⟨g4, hF⟩ := grow_upd (o := .lst (rgV 0 x)) g1 hl
  exact k l _ F1 _ g4 (g1.hh.free hl) hF upd_same (rl_rg 0 x) (by rw [rgV_length, sizeLine_eq]; have := c.2.2; omega)
/-! ### nothing, of whatever type -/
/-! ### f(frozen, owned) -/
/-! ### f(what is made, ..) -/
/-! ### comparisons and `and`, as values, with effects -/
theorem ek_cmp {op : CmpOp} {a b : Expr} {r : R2} {T1 : Ty X.K α} {T2 : Ty X.K β} {C : α → β → Prop} {f : α → β → Bool} {vl : μ → α} {cs1 : μ → List (Cell X.K)} {M : (μ → Prop) → Prop} {vl2 : μ → ν → β} {cs2 : μ → ν → List (Cell X.K)} {M2 : μ → (ν → Prop) → Prop} (ho : OpR X (compareOp op) r) (hr : R2K r T1 T2 tB C f)
    (ha : EK X Y a ρ cs T1 vl cs1 M) (hb : ∀ y, EK X Y b ρ (cs1 y) T2 (vl2 y) (cs2 y) (M2 y)) (hm : behindInMarks op b = false := by first | exact nomark _ | rfl) : EK X Y (.Compare a [op] [b] pos) ρ cs tB (fun y : μ × ν => f (vl y.1) (vl2 y.1 y.2)) (fun y => cs2 y.1 y.2) (fun φ => M fun y => M2 y fun u => C (vl y) (vl2 y u) ∧ φ (y, u)) := fun F σ H ok xh φ p Q k => by
  refine we (pe_cmpR ho pe_w pe_w hm) ?_
  refine ha F σ H ok xh _ p _ fun y v F1 H1 m1 r1 q1 => ?_
  have ok1 := ok.mv m1
  refine hb y F1 σ H1 ok1 (xh.mv m1) _ q1 _ fun u w F2 H2 m2 r2 q2 => ?_
  exact hr F2 H2 v w _ _ m2.fh (T1.mono m2.ff r1) r2 q2.1 _ fun z F3 H3 g3 r3 => k (y, u) z F3 H3 ((m1.trans m2).trans ((ok1.mv m2).grow g3)) r3 q2.2
end
end MD
namespace MD
open PySem PySem.Spec PyProof.Rows L2
/-! ### a comprehension within one -/
def relS (scope sc : Scope) : Scope := { scope with names := scope.names.map fun (n, k) => if (k == .free && sc.kind == .function && sc.names.lookup n == some .cell) then (n, .cell) else (n, k) }
theorem blkIn_by {X : Cx} {s : Shared} {H : Hp} {scope1 : Scope} {cl : List (Str × Addr)} {C : Addr} {fp : List Addr} {N : List Str} {sc scope2 : Scope} {own : List (Str × Nat)} (hN : X.N = N) (hs : X.env.scope = sc) (h : blkC N (relS scope1 sc) scope2 own = true) :
    BlkOk (X.blk s H scope1 (compEnvC scope1 cl C X.env) fp).N (X.blk s H scope1 (compEnvC scope1 cl C X.env) fp).env.scope scope2 own := by
  subst hN
  subst hs
  exact blkOk_by h
end MD
/-! MDah: sets of ints made of a list, and sorted. -/
namespace MD
open PySem PySem.Spec PyProof.Rows L2
theorem ints_at : ∀ {us : List Value} {xs : List Int}, IntsAre us xs → ∀ (i : Nat) (v : Value), us[i]? = some v → ∃ x t, xs[i]? = some x ∧ v = .int x t
  | _, _, .nil, _, _, h => by simp at h
  | _, _, .cons _ _ r, 0, v, h => by
    have h : _ = v := Option.some.inj h
    exact ⟨_, _, rfl, h.symm⟩
  | _, _, .cons _ _ r, i + 1, v, h => ints_at r i v h
section
variable {P : Program} {w : World} {A : Around} {E : Value → Shared → Prop} {s : Shared} {a : Addr}
theorem setI_loop {I : Addr} {fp wr : List Addr} {G : Array GenState → Array GenState → Prop} {n : Nat} {Pv : Nat → Value → Prop} {St : Nat → Shared → Prop} {R : Result → Shared → Prop} (W : WalksS P w A.in1 I fp wr G n Pv St) (S : Addr) (hSf : S ∉ fp) (xs : List Int) (hn : xs.length = n) (hfew : n + 1 < scanBound)
    (hval : ∀ i v, Pv i v → ∃ x t, xs[i]? = some x ∧ v = .int x t) : ∀ (k i : Nat) (s : Shared), n - i = k → i ≤ n → St i s → (∃ L m, SetR w s.heap S L m ∧ (∀ x, L x = true ↔ x ∈ xs.take i) ∧ m ≤ i) →
      (∀ s' L m, Moved (S :: wr) G s s' → SetR w s'.heap S L m → (∀ x, L x = true ↔ x ∈ xs) → m ≤ n → R (.ok (.ret .none)) s') → codeAny (model P w) A (.builtin "set.update.loop" ⟨[.ref S, .ref I], []⟩) R s := by
  have hSw : S ∉ wr := fun h => hSf (W.sub _ h)
  intro k
  induction k with
  | zero =>
    intro i s hk hi hst ⟨L, m, hS, hm, hl⟩ hR
    obtain rfl : i = n := by omega
    refine codeAny_builtin PyProof.Rows.F.entry_set_update_loop ?_
    rw [Around.under_plainId PyProof.Rows.F.plain_set_update_loop _]
    show wpAny _ A.in1 (pyNext (.ref I) >>= _) _ _ s
    refine wpAny_bind (W.done s _ _ hst fun s' mv => ?_)
    exact wpAny_pure (hR s' L m (mv.mono fun b hb => List.mem_cons_of_mem _ hb) (hS.at fun o e => mv.heap S o hSw e) (fun x => by rw [hm x, ← hn, List.take_length]) hl)
  | succ k ih =>
    intro i s hk hi hst ⟨L, m, hS, hm, hl⟩ hR
    have hlt : i < n := by omega
    refine codeAny_builtin PyProof.Rows.F.entry_set_update_loop ?_
    rw [Around.under_plainId PyProof.Rows.F.plain_set_update_loop _]
    show wpAny _ A.in1 (pyNext (.ref I) >>= _) _ _ s
    refine wpAny_bind (W.item i s _ _ hlt hst fun v s' hP hst' mv => ?_)
    obtain ⟨x, t, hx, rfl⟩ := hval i v hP
    have hS' : SetR w s'.heap S L m := hS.at fun o e => mv.heap S o hSw e
    show wpAny _ A.in1 (holding [Value.int x t] (setAdd S (.int x t)) >>= _) _ _ s'
    refine wpAny_bind (wpAny_holding ?_)
    unfold setAdd
    refine wpAny_holding (wpAny_bind ((intKind P w).pyHash (intKind_is P w x t) ?_))
    refine setR_add_hashed (s := { s' with toks := s'.toks + 1 }) hS' (by omega) fun h' sb hS2 => ?_
    refine wpAny_pure ⟨plainId_quiet PyProof.Rows.F.plain_set_update_loop _, ih (i + 1) _ (by omega) hlt (W.frame _ s' _ _ hst' (Nat.le_succ _) fun b hb o e => ?_) ⟨_, _, hS2, fun y => ?_, by split <;> omega⟩ fun s'' L2 m2 mv2 hS3 hm3 hl3 => ?_⟩
    · rw [sb.2 b fun z => hSf (by rw [← z]; exact hb)]; exact e
    · rw [Bool.or_eq_true, hm y, List.take_succ, hx, List.mem_append, decide_eq_true_eq]
      constructor
      · rintro (z | z)
        · exact .inl z
        · exact .inr (by rw [z]; exact List.mem_singleton.mpr rfl)
      · rintro (z | z)
        · exact .inl z
        · exact .inr (List.mem_singleton.mp z)
    · refine hR s'' L2 m2 (Moved.trans W.gtrans ((mv.mono fun b hb => List.mem_cons_of_mem _ hb).then_heap (Nat.le_succ _) fun b o hb e => ?_) mv2) hS3 hm3 hl3
      rw [sb.2 b fun z => hb (by rw [z]; exact List.mem_cons_self)]; exact e
theorem setI_call {l : Addr} {items : Array Value} {xs : List Int} {Q : Value → Shared → Prop} (hh : A.handled = none) (hl : s.heap.IsList l items) (hi : IntsAre items.toList xs) (few : xs.length + 1 < scanBound)
    (h : ∀ (h' : Heap) (tk : Nat) L m, SetR w h' s.heap.objs.size L m → (∀ x, L x = true ↔ x ∈ xs) → m ≤ xs.length → (∀ b o, s.heap.get? b = some o → h'.get? b = some o) → Q (.ref s.heap.objs.size) { s with heap := h', toks := tk }) :
    wpAny (model P w) A (call (.type "set") [.ref l]) Q E s := by
  obtain ⟨c, tl, hmro⟩ := PySem.F.called_set.mro
  have hmade := PySem.F.called_set.made; have hsub := PySem.F.called_set.sub
  refine wpAny_call (codeAny_of_tree ?_)
  show wpAny _ _ (callAny (.type "set") _) _ _ _
  refine wpAny_pure ⟨Code.quiet_builtin _ (by decide +kernel), codeAny_builtin PySem.F.entry_type_call ?_⟩
  rw [Around.under_plain (weight_type_call_type "set" [.ref l] []) rfl]
  have h1 := PySem.F.called_set.notType; have h2 := PySem.F.called_set.canCreate
  have hct := PySem.F.typeCall_set_1 (.ref l)
  repeat (any_goals (first | assumption | wp_step))

  let fr : Obj := { cls := .type "set", dict := none, data := .set #[] 0 (.fresh 0 0 (!w.params.followText "set-order")) }
  refine codeAny_mono (code_set_led1 (.ref l) (E := E) (Q₁ := fun obj s₁ => obj = .ref s.heap.objs.size ∧ s₁ = { s with heap := s.heap.push fr }) ⟨rfl, rfl⟩) fun r s₁ hr => ?_
  cases r with
  | error e => exact hr
  | ok flw =>
    cases flw with
    | ret obj =>
      obtain ⟨rfl, rfl⟩ := hr
      have hS : (s.heap.push fr).get? s.heap.objs.size = some fr := Heap.get?_push_size _ rfl
      have hT : Shared.TypeIs { s with heap := s.heap.push fr } (.ref s.heap.objs.size) "set" := ⟨_, hS, rfl⟩
      have hli := PySem.F.called_set.init.lookup; have hbi := PySem.F.called_set.init.bind (.ref s.heap.objs.size)
      repeat (any_goals (first | assumption | wp_step))

      refine codeAny_mono (codeAny_call_builtin (R := wants (fun r s₂ => r = .none ∧ ∃ h' tk L m, s₂ = { s with heap := h', toks := tk } ∧ SetR w h' s.heap.objs.size L m ∧ (∀ x, L x = true ↔ x ∈ xs) ∧ m ≤ xs.length ∧ (∀ b o, s.heap.get? b = some o → h'.get? b = some o)) E) PySem.F.called_set.init.plain PySem.F.entry_set_init (check_set_init_1 hT ?_)) fun r₂ s₂ hr₂ => ?_
      · obtain ⟨ol, hol, hcl, nl, hdl⟩ := hl
        obtain ⟨ocls, odict, odata, oslots⟩ := ol
        simp only at hcl hdl
        subst hcl; subst hdl
        have hol' : (s.heap.push fr).get? l = some { cls := .type "list", dict := odict, data := .seq items nl, slots := oslots } := Heap.get?_push_of_some _ hol
        have hsls := PySem.F.sub_list_set; have hslf := PySem.F.sub_list_frozenset
        have hne : (Value.type "list" == Value.type "dict") = false := by decide
        have hl1 : (s.heap.push fr).IsList l items := ⟨_, hol', rfl, nl, rfl⟩
        unfold Builtin.«set.__init__» noKeywords Builtin.Frozenset.updateFrom
        generalize hPI : pyIter = PI
        wp_walk
        subst hPI

        refine wpAny_pyIter_list hl1 (wpAny_bind (wpAny_runValue ?_))
        have hlS : l < s.heap.objs.size := Heap.lt_size hol
        have hh3 : A.in1.in1.in1.handled = none := by simp [hh]
        have hz1 : (s.heap.push fr).objs.size = s.heap.objs.size + 1 := Heap.size_push ..
        have hneI : l ≠ (s.heap.push fr).objs.size := by rw [hz1]; exact Nat.ne_of_lt (Nat.lt_succ_of_lt hlS)
        have hSf : s.heap.objs.size ∉ [(s.heap.push fr).objs.size, l] := by
          rw [hz1]; simp only [List.mem_cons, List.mem_singleton, List.not_mem_nil, or_false, not_or]
          exact ⟨Nat.ne_of_lt (Nat.lt_succ_self _), Nat.ne_of_gt hlS⟩
        have hsz : xs.length = items.size := by rw [← IntsAre.length hi, Array.length_toList]
        have hval : ∀ (i : Nat) (v : Value), items[i]? = some v → ∃ x t, xs[i]? = some x ∧ v = .int x t := fun i v hv => ints_at hi i v (by rw [Array.getElem?_toList]; exact hv)
        refine setI_loop ((Walks.list hh3 _ l hneI items).toS) s.heap.objs.size hSf xs hsz (by omega) hval (items.size - 0) 0 _ (by omega) (Nat.zero_le _) ⟨⟨_, Heap.get?_push_size _ rfl, rfl, rfl⟩, (hl1.push _)⟩ ⟨fun _ => false, 0, (setR_fresh w).at (fun o e => Heap.get?_push_of_some _ e), fun x => by simp, Nat.le_refl _⟩ ?_
        intro s' L m mv hS' hm' hl'
        obtain ⟨h', g', d', tk', os'⟩ := s'
        obtain rfl : g' = s.gens := mv.gens
        obtain rfl : d' = s.drawn := mv.drawn
        obtain rfl : os' = s.os := mv.os
        show wpAny _ _ _ _ _ _
        refine wpAny_pure ?_
        show wpAny _ _ (ret Value.none) _ _ _
        refine wpAny_pure ⟨rfl, h', tk', L, m, rfl, hS', hm', by omega, fun b o e => mv.heap b o ?_ (Heap.get?_push_of_some _ (Heap.get?_push_of_some _ e))⟩
        have hb := Heap.lt_size e
        simp only [List.mem_cons, List.mem_singleton, List.not_mem_nil, or_false, not_or]
        exact ⟨Nat.ne_of_lt hb, by rw [hz1]; exact Nat.ne_of_lt (Nat.lt_succ_of_lt hb)⟩

      · cases r₂ with
        | error e => exact hr₂
        | ok fl₂ =>
          cases fl₂ with
          | ret r =>
            obtain ⟨rfl, h', tk, L, m, rfl, hS', hm', hl', hk'⟩ := hr₂
            repeat (any_goals (first | assumption | wp_step))
            exact h _ _ _ _ hS' hm' hl' hk'
          | _ => exact hr₂.elim
    | _ => exact hr.elim
end
section
variable {X : Cx}
def rSetI (K : PySem.W.Frag) (w : World) : List V → Hp → VK → Prop := fun vs H Q => ∃ (l : Addr) (xs : List Int), vs = [V.ref l] ∧ SqL K H l (xs.map V.int) ∧ xs.length < 4000 ∧ ∀ S m p, (∀ x, S x = true ↔ x ∈ xs) → m ≤ xs.length → H p = none → Q (.ref p) (upd H p (SetO w p S m))
theorem cr_setI (hc : X.calm = true) : CallR X (.type "set") (rSetI X.K X.w) := by
  intro pins s σ H vs us Q I r h
  obtain ⟨l, xs, rfl, hs, few, q⟩ := h
  obtain ⟨its, rv, hl, _⟩ := I.list hs
  rw [Vals.ref1 r]
  refine setI_call (I.ok.hd hc) hl.isList (by simpa using ints_of_vals rv) (by unfold scanBound; omega) fun h' tk S m R hm hlen kp => ?_
  exact ⟨.ref _, _, I.laid (t' := tk) (o := SetO X.w s.heap.objs.size S m) kp (Nat.le_refl _) (setO_new R), rfl, q S m _ hm hlen (I.hok.fresh (Nat.le_refl _))⟩
end
/-- the ints of a list, each once, rising -/
def sortI1 (xs : List Int) : List Int := (xs.eraseDups).mergeSort (fun a b => decide (a ≤ b))
theorem sortI1_mem {xs : List Int} {x : Int} : x ∈ sortI1 xs ↔ x ∈ xs := by unfold sortI1; rw [List.mem_mergeSort, List.mem_eraseDups]
theorem sortI1_pw (xs : List Int) : (sortI1 xs).Pairwise (· < ·) := by
  have h1 : (sortI1 xs).Pairwise (· ≤ ·) := by
    have := List.pairwise_mergeSort (le := fun a b : Int => decide (a ≤ b)) (fun a b c h1 h2 => decide_eq_true (Int.le_trans (of_decide_eq_true h1) (of_decide_eq_true h2))) (fun a b => by simp; omega) xs.eraseDups
    exact this.imp fun h => of_decide_eq_true h
  have h2 : (sortI1 xs).Nodup := (List.mergeSort_perm _ _).nodup_iff.mpr (nodup_eraseDups xs)
  exact lt_of_le_nodup _ h1 h2
theorem pw_ext : ∀ {xs ys : List Int}, xs.Pairwise (· < ·) → ys.Pairwise (· < ·) → (∀ x, x ∈ xs ↔ x ∈ ys) → xs = ys
  | [], [], _, _, _ => rfl
  | [], y :: ys, _, _, h => nomatch (h y).mpr List.mem_cons_self
  | x :: xs, [], _, _, h => nomatch (h x).mp List.mem_cons_self
  | x :: xs, y :: ys, h1, h2, h => by
    obtain ⟨a1, a2⟩ := List.pairwise_cons.mp h1
    obtain ⟨b1, b2⟩ := List.pairwise_cons.mp h2
    have e : x = y := by
      have p := (h x).mp List.mem_cons_self
      have q := (h y).mpr List.mem_cons_self
      rcases List.mem_cons.mp p with p | p
      · exact p
      · rcases List.mem_cons.mp q with q | q
        · exact q.symm
        · have := b1 x p
          have := a1 y q
          omega
    subst e
    congr 1
    refine pw_ext a2 b2 fun z => ⟨fun hz => ?_, fun hz => ?_⟩
    · rcases List.mem_cons.mp ((h z).mp (List.mem_cons_of_mem _ hz)) with q | q
      · have := a1 z hz
        omega
      · exact q
    · rcases List.mem_cons.mp ((h z).mpr (List.mem_cons_of_mem _ hz)) with q | q
      · have := b1 z hz
        omega
      · exact q
theorem sortI1_of {xs ys : List Int} (h : ys.Pairwise (· < ·)) (e : ∀ x, x ∈ ys ↔ x ∈ xs) : ys = sortI1 xs := pw_ext h (sortI1_pw xs) fun x => by rw [e, sortI1_mem]
section
variable {K : PySem.W.Frag}
/-- a set of the ints of xs -/
def rI (w : World) (xs : List Int) : Vw := fun _ H v => ∃ p S m, v = .ref p ∧ H p = some (SetO w p S m) ∧ (∀ x, S x = true ↔ x ∈ xs) ∧ m ≤ xs.length
theorem u_setI {w : World} {xs : List Int} : U1 (rSetI K w) (rK (tI (K := K)) xs) (xs.length < 4000) (rI w xs) := fun F H v s ⟨a, vs, e, h, r, z⟩ c Q k => by
  subst e
  obtain rfl := rl_ints r
  refine ⟨a, xs, rfl, h, c, fun S m p hm hl hp => ?_⟩
  have g := grow_upd (o := SetO w p S m) (Grow.refl s) hp
  exact k _ F _ g.1 ⟨p, S, m, rfl, upd_same, hm, hl⟩
theorem n_sortI1 {w : World} {xs : List Int} : UN (rSortedSet w) (rI w xs) (xs.length < 64) (tI (K := K)) (sortI1 xs) := fun F H v s ⟨a, S, m, e, h, hm, hl⟩ c Q k => by
  subst e
  refine ⟨a, S, m, rfl, h, by omega, fun ns p pw hmem hlen hp => ?_⟩
  have e : ns = sortI1 xs := sortI1_of pw fun x => by rw [hmem, hm]
  rw [e]
  refine k p _ hp rl_of_ints ?_
  rw [← e, List.length_map, hlen, sizeLine_eq]; omega
end
end MD
namespace MD
open PySem PySem.Spec PyProof.Rows L2
/-! ### a def whose value is told by a promise -/
section
variable {X : Cx} {Y : Ec X.K} {ρ : List (Slot X.K)} {cs : List (Cell X.K)} {α γ μ : Type} {pos : Pos} {e : Expr}
def Con.fp {K : PySem.W.Frag} (ins : α → List (Slot K)) (T : Ty K γ) (pre : α → Prop) (post : α → γ → Prop) : Con K α γ γ where
  ins := ins
  cin := fun _ => []
  wp := fun a φ _ => pre a ∧ ∀ r, post a r → φ r
  T := T
  rv := fun r => r
  cout := fun _ _ => []
  mono := fun _ _ _ _ _ h _ w => ⟨w.1, fun r c => h r (w.2 r c)⟩
theorem ek_fp {k : Nat} {f : Addr} {fd : FuncData} {ps : List Str} {nm : Str} {p : Pos} {es : List Expr} {ins : α → List (Slot X.K)} {T : Ty X.K γ} {pre : α → Prop} {post : α → γ → Prop} {Ts : Tys X.K α} {vl : μ → α} {cs1 : μ → List (Cell X.K)} {M : (μ → Prop) → Prop}
    (F : FnOk X.prog X.w X.K X.mg X.base (L2.CX X.prog X.w) k f fd ps (Con.fp ins T pre post).sp) (hs : Sl Ts ins) (hr : Room k X.A) (hm : X.mg nm = some (.ref f)) (hk : PySem.W.keepIn X.K (.ref f) = true) (hb : Binds X.K fd ps [])
    (ha : AK X Y (e :: es) ρ cs Ts vl cs1 M) (hg : Gl X nm := by rfl) (hdb : (nm == ("__debug__" : Str)) = false := by decide) (he : starEach (e :: es) X.env = (false, eval e X.env) :: starEach es X.env := by rfl) (hpl : (backTo pos (starEach es X.env)).any (·.1) = false := by rfl) :
    EK X Y (.Call (.Name nm p) (e :: es) [] pos) ρ cs T (fun y : μ × γ => y.2) (fun y => cs1 y.1) (fun φ => M fun y => pre (vl y) ∧ ∀ r, post (vl y) r → φ (y, r)) := fun F0 σ H ok xh φ q Q kk => by
  refine we (pe_call F hr hg hm hk hb .nil (E := E0) (passL) pa_w hdb he hpl) ?_
  refine ha F0 σ H ok xh _ q _ fun y vs F1 H1 m1 r1 q1 => ?_
  have ok1 := ok.mv m1
  refine ⟨vl y, F1, by rw [List.append_nil]; exact hs F1 vs (vl y) r1, m1.fh, fun c hc => absurd hc (by simp [Con.fp]), by simp [Con.fp], q1.1, fun r er v F2 H2 m rr => ?_⟩
  exact kk (y, r) v F2 H2 (m1.trans (ok1.grow ⟨m.ff, m.fh, fun b o e => m.kp b o e fun c hc => absurd hc (by simp [Con.fp]), m.fr⟩)) rr (q1.2 r er)
section
variable {fl : Hp} {B : Hb X.K} {rest : List Stmt} {D : Ends}
theorem sk_retP {ins : α → List (Slot X.K)} {T : Ty X.K γ} {pre : α → Prop} {post : α → γ → Prop} {a : α} {ψ : γ → Prop} {n b' c' : L2.St → Hp → Prop} {x : γ} {P : Prop} {r : List Stmt} (he : PK X e ρ [] T x P) :
    SK X B Y fl (.Return (some e) pos :: r) ρ [] { retD (Con.fp ins T pre post) a B ψ with nx := n, bk := b', ct := c' } (P ∧ ψ x) := sk_ret (C := Con.fp ins T pre post) x he rfl rfl
end
end
end MD
namespace MD
open PySem PySem.Spec PyProof.Rows L2
end MD
namespace MD
open PySem PySem.Spec PyProof.Rows L2
section
variable {X : Cx} {fl : Hp} {B : Hb X.K} {Y : Ec X.K} {ρ : List (Slot X.K)} {cs : List (Cell X.K)} {α μ : Type} {pos : Pos} {rest : List Stmt} {D : Ends} {e : Expr}
/-- a, b = x, y: plain local names -/
theorem sk_par {β : Type} {i j : Nat} {x y : Str} {a b : Expr} {px py pt : Pos} {kt k2 : Nat} {pt2 : Pos} {T1 : Ty X.K α} {T2 : Ty X.K β} {vl : μ → α × β} {cs' : μ → List (Cell X.K)} {M : (μ → Prop) → Prop} {φ : μ → α × β → Prop} (hc : X.calm = true) (hN : X.N.Nodup)
    (he : AK X Y [a, b] ρ cs (tsC T1 (ts1 T2)) vl cs' M) (k : ∀ y z, SK X B Y fl rest ((ρ.set i (.val T1 z.1)).set j (.val T2 z.2)) (cs' y) D (φ y z)) (hi : X.N[i]? = some x := by rfl) (hj : X.N[j]? = some y := by rfl) (hij : i ≠ j := by decide)
    (hx : X.env.scope.names.lookup x = some .local := by rfl) (hy : X.env.scope.names.lookup y = some .local := by rfl)
    (hw : swappedStores [.Tuple [.Name x px, .Name y py] kt pt] (.Tuple [a, b] k2 pt2) X.env = pure (some [x, y]) := by rfl)
    (hs : swapsWithSole [.Tuple [.Name x px, .Name y py] kt pt] (.Tuple [a, b] k2 pt2) pos.line X.env = pure false := by rfl) :
    SK X B Y fl (.Assign [.Tuple [.Name x px, .Name y py] kt pt] (.Tuple [a, b] k2 pt2) pos :: rest) ρ cs D (M fun y => ∀ z, z = vl y → φ y z) := fun F σ H ok p W tk hx' => by
  refine wb (pss_cons (ps_par hc hN hi hj hij hx hy pa_w hw hs) pss_w) ?_
  refine he F σ H ok.c (xh_of ok tk hx') _ p _ fun y vs F1 H1 m r q => ?_
  have ok1 := ok.to m
  obtain ⟨u1, r1, er, ra, u2, er2, rb⟩ := r
  subst er2
  subst er
  refine ⟨u1, u2, rfl, ?_⟩
  have h1 := ok1.env.set (R := Slot.ok F1) (x := .val T1 (vl y).1) (u := some u1) ⟨u1, rfl, ra⟩ i
  have h2 := h1.set (R := Slot.ok F1) (x := .val T2 (vl y).2) (u := some u2) ⟨u2, rfl, rb⟩ j
  exact k y (vl y) F1 _ H1 ⟨h2, ok1.mv, ok1.flo⟩ (q _ rfl) W tk hx'
end
end MD
namespace MD
open PySem PySem.Spec PyProof.Rows L2
end MD
namespace MD
open PySem PySem.Spec PyProof.Rows L2
/-! ### max(xs, default=d) of ints -/
section
variable {X : Cx} {fl : Hp} {B : Hb X.K} {Y : Ec X.K} {ρ : List (Slot X.K)} {cs : List (Cell X.K)} {A R α β γ δ μ ν : Type} {pos : Pos} {rest : List Stmt} {D : Ends} {e : Expr}
/-! ### what is read only: owned lists as frozen ones, for an expression whose value is flat -/
/-! ### a new owned list, or a refusal -/
def Con.nx {K : PySem.W.Frag} {A δ : Type} (xa : XA) (ins : A → List (Slot K)) (T0 : Ty K δ) (pre : A → Prop) (g : A → List δ ⊕ Rf) : Con K A (Addr × List δ) Addr where
  ins := ins
  cin := fun _ => []
  wp := fun a φ ε => pre a ∧ (∀ c, g a = .inl c → ∀ l, φ (l, c)) ∧ ∀ e, g a = .inr e → ε (exn xa e)
  T := tR
  rv := fun r => r.1
  cout := fun _ r => [⟨r.1, cL T0 r.2⟩]
  mono := fun _ _ _ _ _ h h' w => ⟨w.1, fun c e l => h (l, c) (w.2.1 c e l), fun e q => h' _ (w.2.2 e q)⟩
theorem mv_new {F H F' H' F2 H2 : Hp} {cs1 : List (Cell X.K)} {l : Addr} {k : CK X.K} (m1 : Mv cs F H cs1 F' H') (ok1 : Okc ρ cs1 F' σ H') (m : Mv [] F' H' [⟨l, k⟩] F2 H2) : Mv cs F H cs1 F2 H2 ∧ H l = none ∧ F2 l = none ∧ (∀ c ∈ cs1, c.a ≠ l) ∧ ∃ o, H2 l = some o ∧ k.rep F2 o := by
  have up := m1.trans (ok1.grow ⟨m.ff, m.fh, fun b o e => m.kp b o e fun c hc => (nomatch hc), m.fr⟩)
  have h1 : H' l = none := by
    rcases m.nw _ (List.mem_singleton.mpr rfl) with ⟨c, hc, _⟩ | h
    · cases hc
    · exact h
  obtain ⟨hf, o, ho, hr⟩ := m.cell _ (List.mem_singleton.mpr rfl)
  refine ⟨up, ?_, hf, fun c hc e => ?_, o, ho, hr⟩
  · cases q : H l with
    | none => rfl
    | some u =>
      by_cases z : ∃ c ∈ cs, c.a = l
      · obtain ⟨c, hc, rfl⟩ := z
        exact absurd h1 (m1.st c hc)
      · rw [m1.kp l u q fun c hc e => z ⟨c, hc, e⟩] at h1
        cases h1
  · obtain ⟨_, o2, h2, _⟩ := ok1.cell c hc
    rw [e, h1] at h2
    cases h2
end
end MD
namespace MD
open PySem PySem.Spec PyProof.Rows L2
section
variable {X : Cx} {fl : Hp} {B : Hb X.K} {Y : Ec X.K} {ρ : List (Slot X.K)} {cs : List (Cell X.K)} {κ α μ : Type} [DecidableEq κ] {pos : Pos} {rest : List Stmt} {D : Ends} {e : Expr}
/-! ### {k: v} -/
theorem okw_put {F H : Hp} {σ : L2.St} {p : Addr} {o : HO} (ok : Okw ρ cs F σ H) (hp : H p = none) : Okw ρ cs F σ (upd H p o) ∧ F p = none := by
  have hne : ∀ b u, H b = some u → b ≠ p := fun b u e z => by rw [z, hp] at e; cases e
  refine ⟨⟨ok.env, fun b u e => by rw [upd_ne (hne b u (ok.same _ _ e))]; exact ok.same _ _ e, fun c hc => ?_⟩, ok.same.free hp⟩
  obtain ⟨u, h1, h2⟩ := ok.cell c hc
  exact ⟨u, by rw [upd_ne (hne _ _ h1)]; exact h1, h2⟩
/-! ### d.update(d2) -/
def dMore (kvs more : List (κ × α)) : List (κ × α) := more.foldl (fun acc p => dput acc p.1 p.2) kvs
end
end MD
namespace MD
open PySem PySem.Spec PyProof.Rows L2
end MD
namespace MD
open PySem PySem.Spec PyProof.Rows L2
section
variable {X : Cx} {fl : Hp} {B : Hb X.K} {Y : Ec X.K} {ρ : List (Slot X.K)} {cs : List (Cell X.K)} {A R S α β γ δ μ ν : Type} {pos : Pos} {rest : List Stmt} {D : Ends} {e : Expr}
/-! ### calls with several owned things; what is given back may be some of them -/
def Con.os {K : PySem.W.Frag} {A R S : Type} (ins : A → List (Slot K)) (cin : A → List (Cell K)) (T : Ty K R) (pre : A → Prop) (post : A → S → Prop) (rvf : S → R) (cout : A → S → List (Cell K)) : Con K A S R where
  ins := ins
  cin := cin
  wp := fun a φ _ => pre a ∧ ∀ s, post a s → φ s
  T := T
  rv := rvf
  cout := cout
  mono := fun _ _ _ _ _ h _ w => ⟨w.1, fun s e => h s (w.2 s e)⟩
/-! ### an owned list, its place told with effects -/
end
end MD
namespace MD
open PySem PySem.Spec PyProof.Rows L2
end MD
namespace MD
open PySem PySem.Spec PyProof.Rows L2
/-! ### an owned list lent as a frozen one to a call that leaves owned things -/
end MD
namespace MD
end MD
namespace MD
open PySem PySem.Spec PyProof.Rows L2
/-! ### a list of written places; a def as a value; owned lists lent, all at once -/
/-! ### all owned lists lent -/
end MD
namespace MD
open PySem PySem.Spec PyProof.Rows L2
end MD
namespace MD
open PySem PySem.Spec PyProof.Rows L2
end MD
namespace MD
open PySem PySem.Spec PyProof.Rows L2
end MD
namespace MD
open PySem PySem.Spec PyProof.Rows L2
end MD
namespace MD
open PySem PySem.Spec PyProof.Rows L2
/-! ### a comprehension whose element may raise -/
end MD
namespace MD
open PySem PySem.Spec PyProof.Rows L2
end MD
namespace MD
open PySem PySem.Spec PyProof.Rows L2
end MD
namespace MD
open PySem PySem.Spec PyProof.Rows L2
end MD
namespace MD
open PySem PySem.Spec PyProof.Rows L2
end MD
namespace MD
open PySem PySem.Spec PyProof.Rows L2
end MD
/-! ### == of dicts with tuple keys -/
namespace MD
open PySem PySem.W PySem.Calls PyProof.Rows PyProof.V PySem.Spec
end MD
namespace MD
open PySem PySem.Spec PyProof.Rows L2
end MD
namespace MD
open PySem PySem.Spec PyProof.Rows L2
section
variable {K : PySem.W.Frag} {κ α β γ : Type}
/-! ### dicts whose keys are tuples of whole numbers and texts -/
structure KTt (T : Ty K κ) where
  kf : κ → List Key
  inj : ∀ x y, kf x = kf y → x = y
  val : ∀ F v x, T.rep F v x → ∃ b, v = .ref b ∧ F b = some (.tup ((kf x).map kV))
def kII : KTt (tT (tsC (tI (K := K)) (ts1 tI))) := ⟨fun x => [.inl x.1, .inl x.2], fun x y h => by
  simp only [List.cons.injEq, Sum.inl.injEq, and_true] at h
  exact Prod.ext h.1 h.2, fun F v x ⟨a, vs, e, h, v1, r1, e1, t1, v2, e2, t2⟩ => ⟨a, e, by
    subst e1 e2
    rw [h]
    have t1 : v1 = .int x.1 := t1
    have t2 : v2 = .int x.2 := t2
    rw [t1, t2]
    rfl⟩⟩
def EntT {TK : Ty K κ} (k : KTt TK) (T : Ty K α) (F : Hp) (e : List Key × V) (p : κ × α) : Prop := e.1 = k.kf p.1 ∧ T.rep F e.2 p.2
def ReT {TK : Ty K κ} (k : KTt TK) (T : Ty K α) (F : Hp) : List (List Key × V) → List (κ × α) → Prop := Paired (EntT k T F)
theorem ReT.mono {TK : Ty K κ} {k : KTt TK} {T : Ty K α} {F F' : Hp} {es kvs} (e : Same F F') (h : ReT k T F es kvs) : ReT k T F' es kvs := paired_mono (fun _ _ r => ⟨r.1, T.mono e r.2⟩) h
theorem ReT.length {TK : Ty K κ} {k : KTt TK} {T : Ty K α} {F : Hp} {es : List (List Key × V)} {kvs : List (κ × α)} (h : ReT k T F es kvs) : es.length = kvs.length := Paired.length h
def cDt {TK : Ty K κ} (k : KTt TK) (T : Ty K α) (kvs : List (κ × α)) : CK K := ⟨fun F o => ∃ es, o = .dT es ∧ ReT k T F es kvs ∧ es.length ≤ sizeLine, fun e ⟨es, h, r, z⟩ => ⟨es, h, r.mono e, z⟩⟩
def tDt {TK : Ty K κ} (k : KTt TK) (T : Ty K α) : Ty K (List (κ × α)) := ⟨fun F v kvs => ∃ a es, v = .ref a ∧ F a = some (.dT es) ∧ ReT k T F es kvs ∧ es.length ≤ sizeLine, fun e ⟨a, es, h1, h2, r, z⟩ => ⟨a, es, h1, e _ _ h2, r.mono e, z⟩⟩
def rDt {TK : Ty K κ} (k : KTt TK) (T : Ty K α) (kvs : List (κ × α)) : Vw := fun F H v => ∃ a es, v = .ref a ∧ H a = some (.dT es) ∧ ReT k T F es kvs ∧ es.length ≤ sizeLine
section
variable [DecidableEq κ] {TK : Ty K κ} {k : KTt TK} {T : Ty K α} {F : Hp}
theorem kfT_dec (k : KTt TK) (x y : κ) : decide (k.kf x = k.kf y) = decide (x = y) := decide_eq_decide.mpr ⟨k.inj x y, fun e => by rw [e]⟩
theorem reT_val {es : List (List Key × V)} {kvs : List (κ × α)} (h : ReT k T F es kvs) (x : κ) : (valV es (k.kf x) = none ∧ dget kvs x = none) ∨ ∃ v y, valV es (k.kf x) = some v ∧ dget kvs x = some y ∧ T.rep F v y := by
  induction h with
  | nil => exact .inl ⟨rfl, rfl⟩
  | @cons e p es' kvs' r _ ih =>
    by_cases q : p.1 = x
    · refine .inr ⟨e.2, p.2, ?_, ?_, r.2⟩
      · exact valV_pos (by rw [r.1, q])
      · unfold dget; rw [List.find?_cons_of_pos (by simpa using q)]; rfl
    · have e1 : valV (e :: es') (k.kf x) = valV es' (k.kf x) := valV_neg fun z => q (k.inj _ _ (r.1.symm.trans z))
      have e2 : dget (p :: kvs') x = dget kvs' x := by unfold dget; rw [List.find?_cons_of_neg (by simpa using q)]
      rw [e1, e2]
      exact ih
theorem reT_any {es : List (List Key × V)} {kvs : List (κ × α)} (h : ReT k T F es kvs) (x : κ) : (es.any fun kv => decide (kv.1 = k.kf x)) = kvs.any fun p => decide (p.1 = x) := by
  induction h with
  | nil => rfl
  | cons r _ ih => rw [List.any_cons, List.any_cons, ih, r.1, kfT_dec]
theorem reT_map {es : List (List Key × V)} {kvs : List (κ × α)} (h : ReT k T F es kvs) {x : κ} {v : V} {y : α} (r : T.rep F v y) : ReT k T F (es.map fun kv => if kv.1 = k.kf x then (kv.1, v) else kv) (kvs.map fun p => if p.1 = x then (p.1, y) else p) := by
  induction h with
  | nil => exact .nil
  | @cons e p es' kvs' q _ ih =>
    refine .cons ?_ ih
    by_cases hx : p.1 = x
    · have h1 : e.1 = k.kf x := by rw [q.1, hx]
      show EntT k T F (if e.1 = k.kf x then (e.1, v) else e) (if p.1 = x then (p.1, y) else p)
      rw [if_pos h1, if_pos hx]
      exact ⟨q.1, r⟩
    · have h1 : ¬ e.1 = k.kf x := fun z => hx (k.inj _ _ (q.1.symm.trans z))
      show EntT k T F (if e.1 = k.kf x then (e.1, v) else e) (if p.1 = x then (p.1, y) else p)
      rw [if_neg h1, if_neg hx]
      exact q
theorem reT_app {es es' : List (List Key × V)} {kvs kvs' : List (κ × α)} (h : ReT k T F es kvs) (h' : ReT k T F es' kvs') : ReT k T F (es ++ es') (kvs ++ kvs') := by
  induction h with
  | nil => exact h'
  | cons r _ ih => exact .cons r ih
theorem reT_put {es : List (List Key × V)} {kvs : List (κ × α)} (h : ReT k T F es kvs) {x : κ} {v : V} {y : α} (r : T.rep F v y) : ReT k T F (putK es (k.kf x) v) (dput kvs x y) := by
  unfold putK dput
  rw [reT_any h x]
  split
  · exact reT_map h r
  · exact reT_app h (.cons ⟨rfl, r⟩ .nil)
end
theorem putT_len {kvs : List (List Key × V)} {x : List Key} {v : V} : (putK kvs x v).length ≤ kvs.length + 1 := by
  unfold putK
  split
  · rw [List.length_map]; exact Nat.le_succ _
  · rw [List.length_append]; exact Nat.le_refl _
end
section
variable {X : Cx} {fl : Hp} {B : Hb X.K} {Y : Ec X.K} {ρ : List (Slot X.K)} {cs : List (Cell X.K)} {A R κ α β γ δ μ ν : Type} {pos : Pos} {rest : List Stmt} {D : Ends} {e : Expr}
theorem PK.dictT {TK : Ty X.K κ} {k : KTt TK} {T : Ty X.K α} {kvs : List (κ × α)} {P : Prop} (h : PK X e ρ cs (tDt k T) kvs P) : PV X e ρ cs (rDt k T kvs) P := fun F σ H ok p Q q => h F σ H ok p Q fun v F' H' g ⟨a, es, h1, h2, r, z⟩ => q v F' H' g ⟨a, es, h1, g.fh _ _ h2, r, z⟩
theorem PK.ownDt {TK : Ty X.K κ} {k : KTt TK} {T : Ty X.K α} {kvs : List (κ × α)} {l : Addr} {P : Prop} (j : Nat) (h : PK X e ρ cs tR l P) (hc : cs[j]? = Option.some ⟨l, cDt k T kvs⟩) : PV X e ρ cs (rDt k T kvs) P := fun F σ H ok p Q q => h F σ H ok p Q fun v F' H' g h1 => by
  obtain ⟨o, ho, es, e, r, z⟩ := (ok.grow g).cell _ (List.mem_of_getElem? hc)
  subst e
  exact q v F' H' g ⟨l, es, h1, ho, r, z⟩
/-- d[i] = e, d an owned dict -/
theorem sk_dputT [DecidableEq κ] {TK : Ty X.K κ} {kt : KTt TK} {T : Ty X.K α} {x : κ} {d i : Expr} {p1 : Pos} {l : Addr} {vl : μ → α} {cs' : μ → List (Cell X.K)} {M : (μ → Prop) → Prop} {kw : μ → List (κ × α)} {P3 P4 : μ → Prop} {φ : μ → List (κ × α) → Prop} (j : Nat) (hu : X.A.units + 1 < cLine) (he : EK X Y e ρ cs T vl cs' M) (hd : ∀ y, PK X d ρ (cs' y) tR l (P3 y)) (hi : ∀ y, PK X i ρ (cs' y) TK x (P4 y)) (hc : ∀ y, (cs' y)[j]? = some ⟨l, cDt kt T (kw y)⟩)
    (k : ∀ y z, SK X B Y fl rest ρ ((cs' y).set j ⟨l, cDt kt T z⟩) D (φ y z)) (hs : swapsWith e (some (.Subscript d i p1)) pos.line X.env = pure false := by rfl) :
    SK X B Y fl (.Assign [.Subscript d i p1] e pos :: rest) ρ cs D (M fun y => P3 y ∧ P4 y ∧ (kw y).length < sizeLine ∧ ∀ z, z = dput (kw y) x (vl y) → φ y z) := fun F σ H ok p W tk hx' => by
  refine wb (pss_cons (ps_dput hu pe_w pe_w pe_w hs) pss_w) ?_
  refine he F σ H ok.c (xh_of ok tk hx') _ p _ fun y v F1 H1 m r q => ?_
  have ok1 := ok.to m
  refine hd y F1 σ H1 ok1.c.w q.1 _ fun w F2 H2 g2 r2 => ?_
  have ok2 := ok1.to (ok1.c.grow g2)
  refine hi y F2 σ H2 ok2.c.w q.2.1 _ fun u F3 H3 g3 r3 => ?_
  have ok3 := ok2.to (ok2.c.grow g3)
  obtain ⟨b, eb, hb⟩ := kt.val _ _ _ r3
  subst eb
  obtain ⟨_, ob, hob, es, e1, re, z⟩ := ok3.c.cell _ (List.mem_of_getElem? (hc y))
  subst e1
  have hl : es.length < sizeLine := by rw [re.length]; exact q.2.2.1
  refine ⟨l, _, r2, .inr ⟨es, kt.kf x, b, hob, rfl, ok3.c.same _ _ hb, hl, rfl⟩, ?_⟩
  exact k y _ F3 σ _ (ok3.to (mv_upd (k := cDt kt T (dput (kw y) x (vl y))) ok3.c (hc y) ⟨_, rfl, reT_put re (T.mono (g2.ff.trans g3.ff) r), Nat.le_trans putT_len hl⟩)) (q.2.2.2 _ rfl) W tk hx'
/-- a dict that is written no more, in a name's slot -/
theorem sk_freezeDt {st : List Stmt} {TK : Ty X.K κ} {kt : KTt TK} {T : Ty X.K α} {l : Addr} {kvs : List (κ × α)} {φ : Prop} (j i : Nat) (hc : cs[j]? = some ⟨l, cDt kt T kvs⟩) (hρ : ρ[i]? = some (.val tR l)) (w : Own B cs j) (k : SK X B Y fl st (ρ.set i (.val (tDt kt T) kvs)) (cs.eraseIdx j) D φ) : SK X B Y fl st ρ cs D φ := fun F σ H ok p W tk hx' => by
  obtain ⟨hF, o, ho, es, e, r, z⟩ := ok.mv.cell _ (List.mem_of_getElem? hc)
  subst e
  have ok1 := frz_core (o' := .dT es) ok hc w ho fun b hb => rfl
  have ok2 := slot_retype (T := tDt kt T) (x := kvs) ok1 hρ ⟨l, es, rfl, upd_same, r.mono (same_upd hF), z⟩
  exact k _ σ _ ok2 p W tk hx'
/-! ### a new owned dict, or a refusal -/
def DE (X : Cx) (Y : Ec X.K) (e : Expr) (ρ : List (Slot X.K)) (cs : List (Cell X.K)) {μ κ α : Type} {TK : Ty X.K κ} (kt : KTt TK) (T : Ty X.K α) (vl : μ → List (κ × α)) (cs' : μ → List (Cell X.K)) (M : (μ → Prop) → Prop) : Prop :=
  ∀ F σ H, Okc ρ cs F σ H → Xh X Y cs F σ H → ∀ φ : μ → Prop, M φ → ∀ Q : VK, (∀ y a es F' H', Mv cs F H (cs' y) F' H' → H a = none → F' a = none → H' a = some (.dT es) → (∀ c ∈ cs' y, c.a ≠ a) → ReT kt T F' es (vl y) → es.length ≤ sizeLine → φ y → Q (.ref a) H') → WE X e σ H Q
theorem DE.ek {TK : Ty X.K κ} {kt : KTt TK} {T : Ty X.K α} {vl : μ → List (κ × α)} {cs' : μ → List (Cell X.K)} {M : (μ → Prop) → Prop} (h : DE X Y e ρ cs kt T vl cs' M) : EK X Y e ρ cs (tDt kt T) vl cs' M := fun F σ H ok xh φ p Q k =>
  h F σ H ok xh φ p Q fun y a es F' H' m hH hF ho hn r z q => k y _ _ _ (frz_mv m hH hF ho hn) ⟨a, es, rfl, upd_same, r.mono (same_upd hF), z⟩ q
theorem newDt_mv2 {TK : Ty X.K κ} {kt : KTt TK} {T : Ty X.K α} {xs : List (κ × α)} {cs cs' : List (Cell X.K)} {F H F' H' : Hp} {a : Addr} {es : List (List Key × V)} (m : Mv cs F H cs' F' H') (hH : H a = none) (hF : F' a = none) (ho : H' a = some (.dT es)) (hn : ∀ c ∈ cs', c.a ≠ a) (r : ReT kt T F' es xs) (z : es.length ≤ sizeLine) :
    Mv cs F H (cs' ++ [⟨a, cDt kt T xs⟩]) F' H' where
  ff := m.ff
  fh := m.fh
  fr := m.fr
  kp := m.kp
  cell := fun c hc => by
    rcases List.mem_append.mp hc with hc | hc
    · exact m.cell c hc
    · obtain rfl := List.mem_singleton.mp hc
      exact ⟨hF, _, ho, es, rfl, r, z⟩
  nd := by
    rw [List.map_append]
    refine List.nodup_append.mpr ⟨m.nd, by simp, fun x hx y hy => ?_⟩
    obtain ⟨c, hc, rfl⟩ := List.mem_map.mp hx
    have : y = a := by simpa using hy
    rw [this]; exact hn c hc
  nw := fun c hc => by
    rcases List.mem_append.mp hc with hc | hc
    · exact m.nw c hc
    · obtain rfl := List.mem_singleton.mp hc
      exact .inr hH
  st := m.st
theorem sk_setDN {TK : Ty X.K κ} {kt : KTt TK} {i : Nat} {nm : Str} {pos' : Pos} {T : Ty X.K α} {vl : μ → List (κ × α)} {cs' : μ → List (Cell X.K)} {M : (μ → Prop) → Prop} {φ : μ → Addr → List (κ × α) → Prop} (hN : X.N.Nodup) (he : DE X Y e ρ cs kt T vl cs' M) (k : ∀ y a z, SK X B Y fl rest (ρ.set i (.val tR a)) (cs' y ++ [⟨a, cDt kt T z⟩]) D (φ y a z)) (hi : X.N[i]? = some nm := by rfl)
    (hx : Loc X.env.scope nm := by first | exact Or.inl rfl | exact Or.inr rfl)
    (hs : swapsWith e (some (.Name nm pos')) pos.line X.env = pure false := by rfl) (hf : X.fn nm = true ∨ X.env.scope.names.lookup nm = some .local := by first | exact .inl rfl | exact .inr rfl) :
    SK X B Y fl (.Assign [.Name nm pos'] e pos :: rest) ρ cs D (M fun y => ∀ a z, z = vl y → φ y a z) := fun F σ H ok p W tk hx' => by
  refine wb (pss_cons (ps_set hN hi hx pe_w hs hf) pss_w) ?_
  refine he F σ H ok.c (xh_of ok tk hx') _ p _ fun y a vs F' H' m hH hF ho hn r z q => ?_
  have ok1 := ok.to (newDt_mv2 m hH hF ho hn r z)
  exact k y a (vl y) F' _ H' (ok1.set (T := tR) i rfl) (q a _ rfl) W tk hx'
def Con.nd {K : PySem.W.Frag} {A κ δ : Type} {TK : Ty K κ} (kt : KTt TK) (xa : XA) (ins : A → List (Slot K)) (T0 : Ty K δ) (pre : A → Prop) (g : A → List (κ × δ) ⊕ Rf) : Con K A (Addr × List (κ × δ)) Addr where
  ins := ins
  cin := fun _ => []
  wp := fun a φ ε => pre a ∧ (∀ c, g a = .inl c → ∀ l, φ (l, c)) ∧ ∀ e, g a = .inr e → ε (exn xa e)
  T := tR
  rv := fun r => r.1
  cout := fun _ r => [⟨r.1, cDt kt T0 r.2⟩]
  mono := fun _ _ _ _ _ h h' w => ⟨w.1, fun c e l => h (l, c) (w.2.1 c e l), fun e q => h' _ (w.2.2 e q)⟩
/-! ### comparisons, isinstance -/
end
end MD
namespace MD
open PySem PySem.Spec PyProof.Rows L2
section
variable {X : Cx} {fl : Hp} {B : Hb X.K} {Y : Ec X.K} {ρ : List (Slot X.K)} {cs : List (Cell X.K)} {A R κ α β γ δ μ ν : Type} {pos : Pos} {rest : List Stmt} {D : Ends} {e : Expr}
/-! ### reading dicts with tuple keys -/
section
variable [DecidableEq κ] {TK : Ty X.K κ} {kt : KTt TK} {T : Ty X.K α} {kvs : List (κ × α)} {x : κ} {P1 P2 : Prop} {d i : Expr}
theorem pk_dgetT [Inhabited α] (hu : X.A.units + 1 < cLine) (hd : PV X d ρ cs (rDt kt T kvs) P1) (hi : PK X i ρ cs TK x P2) (hs : NoSl i := by exact fun _ _ => rfl) : PK X (.Subscript d i pos) ρ cs T ((dget kvs x).getD default) (P1 ∧ P2 ∧ (dget kvs x).isSome = true) := fun F σ H ok p Q k => by
  refine we (pe_dget hu pe_w pe_w hs) ?_
  refine hd F σ H ok p.1 _ fun v F1 H1 g1 ⟨a, es, e, ha, r, z⟩ => ?_
  refine hi F1 σ H1 (ok.grow g1) p.2.1 _ fun w F2 H2 g2 r2 => ?_
  obtain ⟨b, eb, hb⟩ := kt.val _ _ _ r2
  subst eb
  rcases reT_val (r.mono g2.ff) x with ⟨_, h2⟩ | ⟨u, y, h1, h2, q⟩
  · have := p.2.2; rw [h2] at this; cases this
  · exact ⟨a, u, e, .inr ⟨es, kt.kf x, b, .inl (g2.hh _ _ ha), rfl, g2.fh _ _ hb, h1.symm⟩, k u F2 H2 (g1.trans g2) (by rw [h2]; exact q)⟩
theorem reT_some {F : Hp} {es : List (List Key × V)} (r : ReT kt T F es kvs) : (valV es (kt.kf x)).isSome = (dget kvs x).isSome := by
  rcases reT_val r x with ⟨h1, h2⟩ | ⟨u, y, h1, h2, q⟩ <;> rw [h1, h2] <;> rfl
theorem pt_dinT (hu : X.A.units + 1 < cLine) (hi : PK X i ρ cs TK x P2) (hd : PV X d ρ cs (rDt kt T kvs) P1) (hm : behindInMarks .In d = false := by rfl) : PTK X (.Compare i [.In] [d] pos) ρ cs (dget kvs x).isSome (P2 ∧ P1) := fun F σ H ok p Q k => by
  refine wt (pt_cmp (pc_din hu pe_w pe_w) hm) ?_
  refine hi F σ H ok p.1 _ fun w F1 H1 g1 r1 => ?_
  refine hd F1 σ H1 (ok.grow g1) p.2 _ fun v F2 H2 g2 ⟨a, es, e, ha, r, z⟩ => ?_
  obtain ⟨b, eb, hb⟩ := kt.val _ _ _ r1
  subst eb
  exact ⟨a, _, e, .inr ⟨es, kt.kf x, b, .inl ha, rfl, g2.hh _ _ (g1.fh _ _ hb), rfl⟩, _, rfl, by rw [reT_some r]; exact k F2 H2 (g1.trans g2)⟩
theorem pt_dninT (hu : X.A.units + 1 < cLine) (hi : PK X i ρ cs TK x P2) (hd : PV X d ρ cs (rDt kt T kvs) P1) (hm : behindInMarks .NotIn d = false := by rfl) : PTK X (.Compare i [.NotIn] [d] pos) ρ cs (!(dget kvs x).isSome) (P2 ∧ P1) := fun F σ H ok p Q k => by
  refine wt (pt_cmp (pc_dnotin hu pe_w pe_w) hm) ?_
  refine hi F σ H ok p.1 _ fun w F1 H1 g1 r1 => ?_
  refine hd F1 σ H1 (ok.grow g1) p.2 _ fun v F2 H2 g2 ⟨a, es, e, ha, r, z⟩ => ?_
  obtain ⟨b, eb, hb⟩ := kt.val _ _ _ r1
  subst eb
  exact ⟨a, _, e, .inr ⟨es, kt.kf x, b, .inl ha, rfl, g2.hh _ _ (g1.fh _ _ hb), rfl⟩, _, rfl, by rw [reT_some r]; exact k F2 H2 (g1.trans g2)⟩
/-! ### tests -/
end
end
end MD
namespace MD
open PySem PySem.Spec PyProof.Rows L2
section
variable {X : Cx} {fl : Hp} {B : Hb X.K} {Y : Ec X.K} {ρ : List (Slot X.K)} {cs : List (Cell X.K)} {A R κ α β γ δ μ ν : Type} {pos : Pos} {rest : List Stmt} {D : Ends} {e : Expr}
/-- what a value left owned may be left -/
theorem EK.drop {T : Ty X.K α} {vl : μ → α} {cs' : μ → List (Cell X.K)} {M : (μ → Prop) → Prop} (h : EK X Y e ρ cs T vl cs' M) : EK X Y e ρ cs T vl (fun _ => []) M := fun F σ H ok xh φ p Q k => h F σ H ok xh φ p Q fun y v F' H' m r q => k y v F' H' m.none r q
/-! ### dict(d), dict(rows), sorted(d) -/
/-! ### a walk over an owned dict that the body leaves alone -/
/-! ### range(a, b, -1) -/
def rngD (a b : Int) : List Int := (List.range (a - b).toNat).map fun (i : Nat) => a - (i : Int)
theorem rngD_get {a b : Int} {i : Nat} {x : Int} (h : (rngD a b)[i]? = some x) : x = a - i ∧ i < (a - b).toNat := by
  unfold rngD at h
  rw [List.getElem?_map] at h
  by_cases hi : i < (a - b).toNat
  · rw [List.getElem?_range hi] at h
    exact ⟨(Option.some.inj h).symm, hi⟩
  · rw [List.getElem?_eq_none (by rw [List.length_range]; omega)] at h
    cases h
theorem rngD_length {a b : Int} : (rngD a b).length = (a - b).toNat := by unfold rngD; rw [List.length_map, List.length_range]
theorem ik_range3d {tg a b c : Expr} {x y : Int} {P1 P2 P3 : Prop} {p : Pos} (hm : X.mg "range" = none) (h : PK X a ρ cs tI x P1) (h' : PK X b ρ cs tI y P2) (h3 : PK X c ρ cs tI (-1) P3) (hg : Gl X "range" := by rfl) (hs : starEach [a, b, c] X.env = (false, eval a X.env) :: starEach [b, c] X.env := by rfl)
    (hs2 : starEach [b, c] X.env = (false, eval b X.env) :: starEach [c] X.env := by rfl) (hs3 : starEach [c] X.env = (false, eval c X.env) :: starEach [] X.env := by rfl) (hpl : (backTo pos (starEach [b, c] X.env)).any (·.1) = false := by rfl) :
    IK X tg (.Call (.Name "range" p) [a, b, c] [] pos) ρ cs tI (rngD x y) (P1 ∧ P2 ∧ P3 ∧ -16777216 ≤ x ∧ x ≤ 16777216 ∧ -16777216 ≤ y ∧ y ≤ 16777216 ∧ x - y ≤ 16777216) := fun F σ H ok q R k => by
  refine wi (pi_range3 hg hm (pa_cons pe_w (pa_cons pe_w (pa_cons pe_w pa_nil hs3) hs2) hs) hs hpl) ?_
  refine h F σ H ok q.1 _ fun v F1 H1 g r => ?_
  refine h' F1 σ H1 (ok.grow g) q.2.1 _ fun v2 F2 H2 g2 r2 => ?_
  refine h3 F2 σ H2 (ok.grow (g.trans g2)) q.2.2.1 _ fun v3 F3 H3 g3 r3 => ?_
  have r : v = .int x := r
  have r2 : v2 = .int y := r2
  have r3 : v3 = .int (-1) := r3
  subst r r2 r3
  have hq := q.2.2.2
  refine ⟨x, y, -1, (x - y).toNat, rfl, RgC.neg (by omega) (by omega) (by omega) (by omega), k _ F3 H3 ((g.trans g2).trans g3) (fun i F4 H4 e1 e2 => ?_) (by rw [rngD_length, sizeLine_eq]; omega)⟩
  refine ⟨fun z hz => ?_, fun hi => by rw [rngD_length] at hi; exact hi⟩
  obtain ⟨ez, hi⟩ := rngD_get hz
  refine ⟨hi, fun v' H5 ⟨eh, ev⟩ => ?_⟩
  subst eh
  refine ⟨F4, Grow.refl e2, ?_⟩
  show v' = .int z
  rw [ev, ez]
  exact congrArg V.int (by omega)
end
end MD
namespace MD
open PySem PySem.Spec PyProof.Rows L2
open LamX (TabB CodeO lamEnv lamCx)
/-! ### a def's table of code objects, as a cell -/
def TabOf (F : Hp) (ps : Array Value) (q : Str) : Prop := TriplesOk ps.toList ∧ ∀ (pos : Pos) (cv : Value), codeAmong pos ps.toList = some cv → ∃ c, cv = .ref c ∧ F c = some (CodeO c q)
theorem TabOf.mono {F F' : Hp} {ps : Array Value} {q : Str} (e : Same F F') (t : TabOf F ps q) : TabOf F' ps q := ⟨t.1, fun pos cv hc => let ⟨c, e1, e2⟩ := t.2 pos cv hc; ⟨c, e1, e _ _ e2⟩⟩
/-! ### a lambda of one parameter -/
end MD
namespace MD
open PySem PySem.Spec PyProof.Rows L2
open LamX (TabB CodeO lamEnv lamCx)
/-! ### min(xs, key=lambda x: ..) of whole numbers -/
section
variable {X : Cx} {Y : Ec X.K} {ρ : List (Slot X.K)} {cs cs1 : List (Cell X.K)} {F F1 F2 H H1 H2 : Hp} {α β μ ν : Type} {pos : Pos}
/-- what is new may be written -/
theorem mv_lk {l : Addr} {u : HO} (m : Mv cs F H cs1 F1 H1) (h1 : H l = none) (h2 : F1 l = none) (h3 : ∀ c ∈ cs1, c.a ≠ l) : Mv cs F H cs1 F1 (upd H1 l u) where
  ff := m.ff
  fh := fun b o e => by rw [upd_ne (fun z => by rw [z, h2] at e; cases e)]; exact m.fh b o e
  fr := m.fr
  kp := fun b o e n => by rw [upd_ne (fun z => by rw [z, h1] at e; cases e)]; exact m.kp b o e n
  cell := fun c hc => by
    obtain ⟨n, o, e, r⟩ := m.cell c hc
    exact ⟨n, o, by rw [upd_ne (h3 c hc)]; exact e, r⟩
  nd := m.nd
  nw := m.nw
  st := fun c hc z => by
    by_cases hb : c.a = l
    · rw [hb, upd_same] at z; cases z
    · rw [upd_ne hb] at z; exact m.st c hc z
end
end MD
namespace MD
open PySem PySem.Spec PyProof.Rows L2
open LamX (TabB CodeO lamEnv lamCx)
/-! ### an owned list lent as a frozen one to what may raise -/
/-! ### a def whose code object is known -/
end MD
namespace MD
open PySem PySem.Spec PyProof.Rows L2
open LamX (TabB CodeO lamEnv lamCx)
/-! ### the end of a law whose run makes lambdas -/
end MD
namespace MD
open PySem PySem.Spec PyProof.Rows L2
/-! ### == and != of a value with effects and a view -/
end MD
namespace MD
open PySem PySem.Spec PyProof.Rows L2
/-! ### a new list, or None -/
section
variable {X : Cx} {fl : Hp} {B : Hb X.K} {Y : Ec X.K} {ρ : List (Slot X.K)} {cs : List (Cell X.K)} {A R α β γ δ μ ν : Type} {pos : Pos} {rest : List Stmt} {D : Ends} {e : Expr}
def NOE (X : Cx) (Y : Ec X.K) (e : Expr) (ρ : List (Slot X.K)) (cs : List (Cell X.K)) {μ α : Type} (T : Ty X.K α) (vl : μ → Option (List α)) (cs' : μ → List (Cell X.K)) (M : (μ → Prop) → Prop) : Prop :=
  ∀ F σ H, Okc ρ cs F σ H → Xh X Y cs F σ H → ∀ φ : μ → Prop, M φ → ∀ Q : VK, (∀ y F' H', Mv cs F H (cs' y) F' H' → vl y = none → φ y → Q .non H') →
    (∀ y xs a vs F' H', Mv cs F H (cs' y) F' H' → H a = none → F' a = none → H' a = some (.lst vs) → (∀ c ∈ cs' y, c.a ≠ a) → Rl T F' vs xs → vs.length ≤ sizeLine → vl y = some xs → φ y → Q (.ref a) H') → WE X e σ H Q
theorem NOE.ek {T : Ty X.K α} {vl : μ → Option (List α)} {cs' : μ → List (Cell X.K)} {M : (μ → Prop) → Prop} (h : NOE X Y e ρ cs T vl cs' M) : EK X Y e ρ cs (tO (tL T)) vl cs' M := fun F σ H ok xh φ p Q k =>
  h F σ H ok xh φ p Q (fun y F' H' m en q => k y .non F' H' m (by rw [en]; rfl) q) fun y xs a vs F' H' m hH hF ho hn r z es q => k y _ _ _ (frz_mv m hH hF ho hn) (by rw [es]; exact ⟨a, vs, rfl, upd_same, r.mono (same_upd hF), z⟩) q
def Con.no {K : PySem.W.Frag} {A δ : Type} (xa : XA) (ins : A → List (Slot K)) (T0 : Ty K δ) (pre : A → Prop) (g : A → Option (List δ) ⊕ Rf) : Con K A (Option (Addr × List δ)) (Option Addr) where
  ins := ins
  cin := fun _ => []
  wp := fun a φ ε => pre a ∧ (g a = .inl none → φ none) ∧ (∀ c, g a = .inl (some c) → ∀ l, φ (some (l, c))) ∧ ∀ e, g a = .inr e → ε (exn xa e)
  T := tO tR
  rv := fun r => r.map (·.1)
  cout := fun _ r => match r with
    | none => []
    | some r => [⟨r.1, cL T0 r.2⟩]
  mono := fun _ _ _ _ _ h h' w => ⟨w.1, fun e => h none (w.2.1 e), fun c e l => h (some (l, c)) (w.2.2.1 c e l), fun e q => h' _ (w.2.2.2 e q)⟩
theorem noe_call {xa : XA} {k : Nat} {f : Addr} {fd : FuncData} {ps : List Str} {nm : Str} {p : Pos} {es : List Expr} {ins : α → List (Slot X.K)} {T0 : Ty X.K δ} {pre : α → Prop} {g : α → Option (List δ) ⊕ Rf} {Ts : Tys X.K α} {vl : μ → α} {cs1 : μ → List (Cell X.K)} {M : (μ → Prop) → Prop} {ε1 : Rf → Prop}
    (F : FnOk X.prog X.w X.K X.mg X.base (L2.CX X.prog X.w) k f fd ps (Con.no xa ins T0 pre g).sp) (hs : Sl Ts ins) (hr : Room k X.A) (hm : X.mg nm = some (.ref f)) (hk : PySem.W.keepIn X.K (.ref f) = true) (hb : Binds X.K fd ps [])
    (ha : AK X Y (e :: es) ρ cs Ts vl cs1 M) (hy : ∀ y, ∀ c ∈ Y.kp, c ∈ cs1 y) (hE : ∀ r, ε1 r → Y.ε (exn xa r)) (hg : Gl X nm := by rfl) (hdb : (nm == ("__debug__" : Str)) = false := by decide) (he : starEach (e :: es) X.env = (false, eval e X.env) :: starEach es X.env := by rfl) (hpl : (backTo pos (starEach es X.env)).any (·.1) = false := by rfl) :
    NOE X Y (.Call (.Name nm p) (e :: es) [] pos) ρ cs T0 (fun y : μ × Option (List δ) => y.2) (fun y => cs1 y.1) (fun φ => M fun y => pre (vl y) ∧ (∀ r, g (vl y) = .inl r → φ (y, r)) ∧ ∀ r, g (vl y) = .inr r → ε1 r) := fun F0 σ H ok xh φ q Q kn kk => by
  obtain ⟨W, tk, hW⟩ := id xh
  refine we (pe_callS F hr hg hm hk hb (E := L2.WE W) (fun σ => passAt tk σ) pa_w hdb he hpl) ?_
  refine ha F0 σ H ok xh _ q _ fun y vs F1 H1 m1 r1 q1 => ?_
  have ok1 := ok.mv m1
  have up : ∀ {F2 H2 : Hp}, Mv (K := X.K) [] F1 H1 [] F2 H2 → Mv cs F0 H (cs1 y) F2 H2 := fun m => m1.trans (ok1.grow ⟨m.ff, m.fh, fun b o e => m.kp b o e fun c hc => (nomatch hc), m.fr⟩)
  refine ⟨vl y, F1, hs F1 vs (vl y) r1, m1.fh, fun c hc => absurd hc (by simp [Con.no]), by simp [Con.no], q1.1, fun er v F2 H2 m rr => ?_, fun c er l v F2 H2 m rr => ?_, fun r er cls d F2 H2 m rep => ?_⟩
  · have rr : v = .non := rr
    subst rr
    exact kn (y, none) F2 H2 (up m) rfl (q1.2.1 none er)
  · have rr : v = .ref l := rr
    subst rr
    obtain ⟨n1, n2, n3, n4, o, ho, us, e1, rl, z⟩ := mv_new m1 ok1 m
    subst e1
    exact kk (y, some c) c l us F2 H2 n1 n2 n3 ho n4 rl z rfl (q1.2.1 (some c) er)
  · exact hW _ cls d (cs1 y) F2 H2 (up m) (hy y) rep (hE r (q1.2.2 r er))
/-- x = None, or a new owned list: two ways on -/
theorem sk_setNO {i : Nat} {nm : Str} {pos' : Pos} {T : Ty X.K α} {vl : μ → Option (List α)} {cs' : μ → List (Cell X.K)} {M : (μ → Prop) → Prop} {φ1 : μ → Prop} {φ2 : μ → Addr → List α → Prop} (hN : X.N.Nodup) (he : NOE X Y e ρ cs T vl cs' M) (k1 : ∀ y, SK X B Y fl rest (ρ.set i (.val (tO (tL T)) none)) (cs' y) D (φ1 y))
    (k : ∀ y a z, SK X B Y fl rest (ρ.set i (.val tR a)) (cs' y ++ [⟨a, cL T z⟩]) D (φ2 y a z)) (hi : X.N[i]? = some nm := by rfl)
    (hx : Loc X.env.scope nm := by first | exact Or.inl rfl | exact Or.inr rfl)
    (hs : swapsWith e (some (.Name nm pos')) pos.line X.env = pure false := by rfl) (hf : X.fn nm = true ∨ X.env.scope.names.lookup nm = some .local := by first | exact .inl rfl | exact .inr rfl) :
    SK X B Y fl (.Assign [.Name nm pos'] e pos :: rest) ρ cs D (M fun y => (vl y = none → φ1 y) ∧ ∀ z, vl y = some z → ∀ a, φ2 y a z) := fun F σ H ok p W tk hx' => by
  refine wb (pss_cons (ps_set hN hi hx pe_w hs hf) pss_w) ?_
  refine he F σ H ok.c (xh_of ok tk hx') _ p _ (fun y F' H' m en q => ?_) fun y xs a vs F' H' m hH hF ho hn r z es q => ?_
  · exact k1 y F' _ H' ((ok.to m).set (T := tO (tL T)) (x := none) (v := .non) i rfl) (q.1 en) W tk hx'
  · have ok1 := ok.to (new_mv m hH hF ho hn r z)
    exact k y a xs F' _ H' (ok1.set (T := tR) i rfl) (q.2 xs es a) W tk hx'
theorem sk_retNoN {xa : XA} {ins : A → List (Slot X.K)} {T0 : Ty X.K δ} {pre : A → Prop} {g : A → Option (List δ) ⊕ Rf} {a : A} {ψ : Option (Addr × List δ) → Prop} {n b' c' : L2.St → Hp → Prop} {r : List Stmt} {P0 : Prop} (he : PK X e ρ cs (tO tR) none P0) (hc : cs = []) :
    SK X B Y fl (.Return (some e) pos :: r) ρ cs { retD (Con.no xa ins T0 pre g) a B ψ with nx := n, bk := b', ct := c' } (P0 ∧ ψ none) := sk_ret (C := Con.no xa ins T0 pre g) none he rfl hc.symm
end
section
variable {K : PySem.W.Frag} {α : Type}
def dOL {T : Ty K α} (D : DT T) : DT (tO (tL T)) := ⟨fun x => x.elim .none fun xs => .list (xs.map D.d), D.n + 1, fun F H v x s h => by
    cases x with
    | none => cases h; exact .non
    | some xs => exact (dL D).dp F H v xs s h, fun F v x h => by
    cases x with
    | none => simp [PyData.canLay0]
    | some xs => exact (dL D).lay F v xs h, fun x => by
    cases x with
    | none => simp [PyData.depth]
    | some xs => exact (dL D).dep xs, fun x y => by
    cases x with
    | none =>
      cases y with
      | none => simp [PyData.eqv]
      | some ys => simp [PyData.eqv]
    | some xs =>
      cases y with
      | none => simp [PyData.eqv]
      | some ys =>
        rw [Option.some.injEq]
        exact (dL D).eqv xs ys⟩
end
/-! ### as a value: x is None -/
/-! ### l.count(x), texts -/
end MD
namespace MD
open PySem PySem.Spec PyProof.Rows L2
/-! ### zip of three lists, or of three tuples -/
def SqK (k : Bool) (K : PySem.W.Frag) (H : Hp) (a : Addr) (xs : List V) : Prop := if k = true then SqL K H a xs else SqT K H a xs
def ItK (k : Bool) (h : Heap) (it a : Addr) (i : Nat) : Prop := if k = true then h.IsListIter it a i else h.IsTupleIter it a i
def CoK (k : Bool) (h : Heap) (a : Addr) (its : Array Value) : Prop := if k = true then h.IsList a its else h.IsTuple a its
section
variable {prog : Program} {w : World}
theorem drawsK (k : Bool) {A : Around} (hh : A.handled = none) (it l : Addr) (hne : l ≠ it) (items : Array Value) :
    Draws prog w A it [it, l] items.size (fun i v => items[i]? = some v) (fun i h => ItK k h it l i ∧ CoK k h l items) := by
  cases k with
  | true => exact Draws.list hh it l hne items
  | false => exact Draws.tuple hh it l hne items
theorem ItK.obj {k : Bool} {h : Heap} {it a : Addr} {i : Nat} (st : ItK k h it a i) : ∃ o, h.get? it = some o ∧ ∀ v, o.data ≠ .cell v := by
  cases k with
  | true =>
    obtain ⟨o, e, _, d⟩ := (st : h.IsListIter it a i)
    exact ⟨o, e, fun v q => by rw [d] at q; cases q⟩
  | false =>
    obtain ⟨o, e, _, d⟩ := (st : h.IsTupleIter it a i)
    exact ⟨o, e, fun v q => by rw [d] at q; cases q⟩
theorem ItK.at {k : Bool} {h h' : Heap} {it a : Addr} {i : Nat} (st : ItK k h it a i) (f : ∀ o, h.get? it = some o → h'.get? it = some o) : ItK k h' it a i := by
  cases k with
  | true => exact Heap.IsListIter.at (st : h.IsListIter it a i) f
  | false => exact Heap.IsTupleIter.at (st : h.IsTupleIter it a i) f
theorem CoK.lt {k : Bool} {h : Heap} {a : Addr} {its : Array Value} (st : CoK k h a its) : a < h.objs.size := by
  cases k with
  | true =>
    obtain ⟨o, e, _⟩ := (st : h.IsList a its)
    exact Heap.lt_size e
  | false =>
    obtain ⟨o, e, _⟩ := (st : h.IsTuple a its)
    exact Heap.lt_size e
theorem beginsK (k : Bool) (a : Addr) (items : Array Value) : ∃ o, Begins (.ref a) o (fun h => CoK k h a items) ∧ ∀ (h : Heap) (it : Addr), h.get? it = some o → ItK k h it a 0 := by
  cases k with
  | true => exact ⟨_, begins_list a items, fun h it e => ⟨_, e, rfl, rfl⟩⟩
  | false => exact ⟨_, begins_tuple a items, fun h it e => ⟨_, e, rfl, rfl⟩⟩
end
section
variable {X : Cx} {pins : List (Addr × Obj)} {σ : L2.St} {H : Hp} {s : Shared}
theorem inv_sqK {k : Bool} {a : Addr} {xs : List V} (I : Inv X pins σ H s) (h : SqK k X.K H a xs) : ∃ its : List Value, Vals xs its ∧ CoK k s.heap a its.toArray ∧ xs.length ≤ sizeLine := by
  cases k with
  | true =>
    obtain ⟨its, r, p, z⟩ := I.list (h : SqL X.K H a xs)
    exact ⟨its, r, p.isList, z⟩
  | false =>
    obtain ⟨its, r, p, z⟩ := I.tuple (h : SqT X.K H a xs)
    exact ⟨its, r, p, z⟩
theorem inv_injK {k : Bool} {a : Addr} {xs ys : List V} (I : Inv X pins σ H s) (h : SqK k X.K H a xs) (h' : SqK k X.K H a ys) : xs = ys := by
  cases k with
  | true => exact I.list_inj h h'
  | false => exact I.tuple_inj h h'
end
def Itz3 (k : Bool) (K : PySem.W.Frag) (a b c : Addr) (n : Nat) : It :=
  ⟨fun i H => i < n ∧ ∃ (xs ys zs : List V) (x y z : V), SqK k K H a xs ∧ SqK k K H b ys ∧ SqK k K H c zs ∧ xs[i]? = some x ∧ ys[i]? = some y ∧ zs[i]? = some z,
    fun i H v H' => ∃ T x y z, v = .ref T ∧ H T = none ∧ H' = upd H T (.tup [x, y, z]) ∧ (∀ xs, SqK k K H a xs → xs[i]? = some x) ∧ (∀ ys, SqK k K H b ys → ys[i]? = some y) ∧ ∀ zs, SqK k K H c zs → zs[i]? = some z,
    fun i H => ∃ xs ys zs : List V, SqK k K H a xs ∧ SqK k K H b ys ∧ SqK k K H c zs ∧ n = min (min xs.length ys.length) zs.length ∧ n ≤ i⟩
abbrev Tn3 (k : Bool) (z TI TO i1 i2 i3 a b c : Addr) (i : Nat) (h : Heap) : Prop :=
  IsZip h z TI TO .none ∧ IsTupOf3 h TI (.ref i1) (.ref i2) (.ref i3) ∧ (∃ a1 a2 a3, IsTupOf3 h TO a1 a2 a3) ∧ ItK k h i1 a i ∧ ItK k h i2 b i ∧ ItK k h i3 c i
theorem tn3_obj {k : Bool} {z TI TO i1 i2 i3 a b c : Addr} {i : Nat} {h : Heap} (st : Tn3 k z TI TO i1 i2 i3 a b c i h) : ∀ d ∈ [z, TI, TO, i1, i2, i3], ∃ o, h.get? d = some o ∧ ∀ v, o.data ≠ .cell v := fun d hd => by
  obtain ⟨hz, hTI, ⟨x, y, u, hTO⟩, h1, h2, h3⟩ := st
  have e' : d = z ∨ d = TI ∨ d = TO ∨ d = i1 ∨ d = i2 ∨ d = i3 := by simpa using hd
  rcases e' with q | q | q | q | q | q
  · rw [q]; exact ⟨_, hz, fun v q => nomatch q⟩
  · rw [q]; exact ⟨_, hTI, fun v q => nomatch q⟩
  · rw [q]; exact ⟨_, hTO, fun v q => nomatch q⟩
  · rw [q]; exact h1.obj
  · rw [q]; exact h2.obj
  · rw [q]; exact h3.obj
theorem turn_zip3 {P : Program} {w : World} {K : PySem.W.Frag} {elts : List Expr} {kk : Nat} {tpos : Pos} (k : Bool) (n : Nat) {a b c z TI TO i1 i2 i3 : Addr} (S : ZipSep3 z TI TO i1 i2 i3 [i1, a] [i2, b] [i3, c]) (n1 : a ≠ i1) (n2 : b ≠ i2) (n3 : c ≠ i3) :
    Turn P w K (.Tuple elts kk tpos) (Itz3 k K a b c n) [z, TI, TO, i1, i2, i3] z (fun i h => Tn3 k z TI TO i1 i2 i3 a b c i h ∧ i ≤ n) where
  mem := by simp
  obj := fun i h st d hd => tn3_obj st.1 d hd
  keep := fun i h h' st kp => by
    obtain ⟨⟨hz, hTI, ⟨x, y, u, hTO⟩, h1, h2, h3⟩, hn⟩ := st
    refine ⟨?_, hn⟩
    exact ⟨kp z (by simp) _ hz, kp TI (by simp) _ hTI, ⟨x, y, u, kp TO (by simp) _ hTO⟩, h1.at fun o q => kp i1 (by simp) o q, h2.at fun o q => kp i2 (by simp) o q, h3.at fun o q => kp i3 (by simp) o q⟩
  item := by
    intro X hP hw hK hc i pins s σ H E I hf st hg
    subst hP hw hK
    obtain ⟨st0, _⟩ := st
    obtain ⟨hz, hTI, hTO, h1, h2, h3⟩ := id st0
    obtain ⟨hlt, xs, ys, zs, x, y, u, hqx, hqy, hqz, hx, hy, hu⟩ := hg
    obtain ⟨l1, rv1, p1, _⟩ := inv_sqK I hqx
    obtain ⟨l2, rv2, p2, _⟩ := inv_sqK I hqy
    obtain ⟨l3, rv3, p3, _⟩ := inv_sqK I hqz
    obtain ⟨v1, hv1, r1⟩ := rv1.get hx
    obtain ⟨v2, hv2, r2⟩ := rv2.get hy
    obtain ⟨v3, hv3, r3⟩ := rv3.get hu
    have hh : X.A.in1.handled = none := I.ok.hd hc
    have W := WalksT.zipD3 (prog := X.prog) (w := X.w) (A := X.A) S (drawsK k hh i1 a n1 l1.toArray) (drawsK k hh i2 b n2 l2.toArray) (drawsK k hh i3 c n3 l3.toArray)
    have b1 : i < l1.length := (List.getElem?_eq_some_iff.mp hv1).1
    have b2 : i < l2.length := (List.getElem?_eq_some_iff.mp hv2).1
    have b3 : i < l3.length := (List.getElem?_eq_some_iff.mp hv3).1
    refine W.item i s _ _ (by simp only [List.size_toArray]; omega) ⟨hz, hTI, hTO, ⟨h1, p1⟩, ⟨h2, p2⟩, h3, p3⟩ fun T vals h' tk ⟨w1, w2, w3, q1, q2, q3, ev⟩ hn hT mid hk => ⟨_, rfl, ?_⟩
    have e1 : w1 = v1 := by
      have q1 : l1.toArray[i]? = some w1 := q1
      rw [List.getElem?_toArray, hv1] at q1
      exact (Option.some.inj q1).symm
    have e2 : w2 = v2 := by
      have q2 : l2.toArray[i]? = some w2 := q2
      rw [List.getElem?_toArray, hv2] at q2
      exact (Option.some.inj q2).symm
    have e3 : w3 = v3 := by
      have q3 : l3.toArray[i]? = some w3 := q3
      rw [List.getElem?_toArray, hv3] at q3
      exact (Option.some.inj q3).symm
    subst e1 e2 e3 ev
    have ap := W.apart i T h' mid
    refine W.go elts kk tpos i T { s with heap := h', toks := tk } _ _ mid fun h'' st'' hk'' => ?_
    obtain ⟨hz2, hTI2, hTO2, ⟨g1, _⟩, ⟨g2, _⟩, g3, _⟩ := st''
    have hT2 : h''.IsTuple T #[w1, w2, w3] := hT.at fun o q => hk'' T o ap q
    have new : ObjOk X.prog X.w (upd H T (.tup [x, y, u])) h'' T (.tup [x, y, u]) :=
      ⟨by show 3 ≤ sizeLine; decide, [w1, w2, w3], .cons r1 (.cons r2 (.cons r3 .nil)), hT2⟩
    have I1 : Inv X pins σ (upd H T (.tup [x, y, u])) { s with heap := h'', toks := tk } :=
      I.turnedNew (t' := tk) (ch := [z, TI, TO, i1, i2, i3]) (fun d o hb q => by
        have nb : d ∉ [z, TO, i1, i2, i3] := fun m => hb (by
          have e' : d = z ∨ d = TO ∨ d = i1 ∨ d = i2 ∨ d = i3 := by simpa using m
          rcases e' with e | e | e | e | e <;> simp [e])
        exact hk'' d o nb (hk d o nb q)) hf hn new
    refine ⟨.ref T, _, I1, rfl, ⟨T, x, y, u, rfl, I.hok.fresh hn, rfl, fun l hl => by rw [inv_injK I hl hqx]; exact hx, fun l hl => by rw [inv_injK I hl hqy]; exact hy, fun l hl => by rw [inv_injK I hl hqz]; exact hu⟩, ⟨⟨hz2, hTI2, hTO2, g1, g2, g3⟩, hlt⟩, fun d hd => ?_⟩
    obtain ⟨o, ho, _⟩ := tn3_obj st0 d hd
    rw [upd_ne (Nat.ne_of_lt (Nat.lt_of_lt_of_le (Heap.lt_size ho) hn))]
    exact (hf d hd).1
  done := by
    intro X hP hw hK hc i pins s σ H E I hf st hg
    subst hP hw hK
    obtain ⟨⟨hz, hTI, hTO, h1, h2, h3⟩, hle⟩ := st
    obtain ⟨xs, ys, zs, hqx, hqy, hqz, hend, hge⟩ := hg
    obtain ⟨l1, rv1, p1, _⟩ := inv_sqK I hqx
    obtain ⟨l2, rv2, p2, _⟩ := inv_sqK I hqy
    obtain ⟨l3, rv3, p3, _⟩ := inv_sqK I hqz
    have hh : X.A.in1.handled = none := I.ok.hd hc
    have W := WalksT.zipD3 (prog := X.prog) (w := X.w) (A := X.A) S (drawsK k hh i1 a n1 l1.toArray) (drawsK k hh i2 b n2 l2.toArray) (drawsK k hh i3 c n3 l3.toArray)
    have g1 := rv1.length
    have g2 := rv2.length
    have g3 := rv3.length
    have hi : min (min l1.toArray.size l2.toArray.size) l3.toArray.size = i := by simp only [List.size_toArray]; omega
    refine W.done s _ _ (by rw [hi]; exact ⟨hz, hTI, hTO, ⟨h1, p1⟩, ⟨h2, p2⟩, h3, p3⟩) fun h' tk hk => ⟨rfl, I.turnedL (t' := tk) (ch := [z, TI, TO, i1, i2, i3]) (fun d o hb q => hk d o (fun m => hb (by
      have e' : d = z ∨ d = TO ∨ d = i1 ∨ d = i2 ∨ d = i3 := by simpa using m
      rcases e' with e | e | e | e | e <;> simp [e])) q) hf⟩
  self := fun A i s Q E st h => wpAny_pyIter_zip st.1.1 h
theorem pi_zip3 (k : Bool) {X : Cx} {e e2 e3 : Expr} {ta : TA} {p pos tpos : Pos} {elts : List Expr} {kk : Nat} (hg : Gl X "zip") (hm : X.mg "zip" = none) (ha : PA X [e, e2, e3] ta)
    (hs : starEach [e, e2, e3] X.env = (false, eval e X.env) :: starEach [e2, e3] X.env := by rfl) (hpl : (backTo pos (starEach [e2, e3] X.env)).any (·.1) = false := by rfl) :
    PI X (.Tuple elts kk tpos) (.Call (.Name "zip" p) [e, e2, e3] [] pos) (fun σ H R => ta σ H fun vs H1 => ∃ a b c xs ys zs, vs = [.ref a, .ref b, .ref c] ∧ SqK k X.K H1 a xs ∧ SqK k X.K H1 b ys ∧ SqK k X.K H1 c zs ∧ R (Itz3 k X.K a b c (min (min xs.length ys.length) zs.length)) H1) := by
  refine ⟨fun pins s σ H R I h => ?_⟩
  refine Call_ (ld_blt I hg hm PyProof.Rows.boot_zip (PyProof.Rows.callWith_type1 (thn (ha.run pos pins s σ H _ I h) fun us s1 ⟨vs, H1, I1, r1, q1⟩ => ?_) hs hpl))
  obtain ⟨a, b, c, xs, ys, zs, ex, hqx, hqy, hqz, q⟩ := q1
  subst ex
  cases r1 with
  | cons r rr =>
    cases rr with
    | cons r' rr =>
      cases rr with
      | cons r'' rr =>
        cases rr
        cases r
        cases r'
        cases r''
        obtain ⟨l1, rv1, p1, _⟩ := inv_sqK I1 hqx
        obtain ⟨l2, rv2, p2, _⟩ := inv_sqK I1 hqy
        obtain ⟨l3, rv3, p3, _⟩ := inv_sqK I1 hqz
        have la := p1.lt
        have lb := p2.lt
        have lc := p3.lt
        obtain ⟨o1, B1, t1⟩ := beginsK k a l1.toArray
        obtain ⟨o2, B2, t2⟩ := beginsK k b l2.toArray
        obtain ⟨o3, B3, t3⟩ := beginsK k c l3.toArray
        refine zip_begins3 B1 B2 B3 p1 p2 p3 fun h' hz hTI hTO h1 h2 h3 hsz hk => wpAny_pyIter_zip hz ?_
        have I2 : Inv X pins σ H1 { s1 with heap := h' } := I1.kept (t' := s1.toks) hk
        have hS : ZipSep3 (s1.heap.objs.size + 5) (s1.heap.objs.size + 3) (s1.heap.objs.size + 4) s1.heap.objs.size (s1.heap.objs.size + 1) (s1.heap.objs.size + 2) [s1.heap.objs.size, a] [s1.heap.objs.size + 1, b] [s1.heap.objs.size + 2, c] :=
          zip_sep3 (fun d hd => by rw [List.mem_singleton.mp hd]; exact la) (fun d hd => by rw [List.mem_singleton.mp hd]; exact lb) (fun d hd => by rw [List.mem_singleton.mp hd]; exact lc)
        have na : (a : Nat) ≠ s1.heap.objs.size := Nat.ne_of_lt la
        have nb : (b : Nat) ≠ s1.heap.objs.size + 1 := Nat.ne_of_lt (Nat.lt_succ_of_lt lb)
        have nc : (c : Nat) ≠ s1.heap.objs.size + 2 := Nat.ne_of_lt (Nat.lt_succ_of_lt (Nat.lt_succ_of_lt lc))
        refine ⟨s1.heap.objs.size + 5, [s1.heap.objs.size + 5, s1.heap.objs.size + 3, s1.heap.objs.size + 4, s1.heap.objs.size, s1.heap.objs.size + 1, s1.heap.objs.size + 2], _, _, H1, rfl, I2, turn_zip3 k (min (min xs.length ys.length) zs.length) hS na nb nc, ⟨⟨hz, hTI, ⟨_, _, _, hTO⟩, t1 _ _ h1, t2 _ _ h2, t3 _ _ h3⟩, Nat.zero_le _⟩, fun d hd => ?_, q⟩
        have e' : d = s1.heap.objs.size + 5 ∨ d = s1.heap.objs.size + 3 ∨ d = s1.heap.objs.size + 4 ∨ d = s1.heap.objs.size ∨ d = s1.heap.objs.size + 1 ∨ d = s1.heap.objs.size + 2 := by simpa using hd
        have hle : s1.heap.objs.size ≤ d := by
          rcases e' with z | z | z | z | z | z
          · rw [z]; exact Nat.le_add_right _ _
          · rw [z]; exact Nat.le_add_right _ _
          · rw [z]; exact Nat.le_add_right _ _
          · rw [z]; exact Nat.le_refl _
          · rw [z]; exact Nat.le_add_right _ _
          · rw [z]; exact Nat.le_add_right _ _
        exact I1.fpOk hle (I1.hok.fresh hle)
theorem zip_get3 {α β γ : Type} {xs : List α} {ys : List β} {zs : List γ} {i : Nat} {z : α × β × γ} (h : (xs.zip (ys.zip zs))[i]? = some z) : xs[i]? = some z.1 ∧ ys[i]? = some z.2.1 ∧ zs[i]? = some z.2.2 := by
  obtain ⟨h1, h2⟩ := zip_get h
  obtain ⟨h3, h4⟩ := zip_get h2
  exact ⟨h1, h3, h4⟩
section
variable {K : PySem.W.Frag} {α β γ : Type}
theorem grow_tup3 {T1 : Ty K α} {T2 : Ty K β} {T3 : Ty K γ} {F H : Hp} {p : Addr} {v w u : V} {x : α} {y : β} {z : γ} (h : Same F H) (hp : H p = none) (r1 : T1.rep F v x) (r2 : T2.rep F w y) (r3 : T3.rep F u z) :
    Grow F H (upd F p (.tup [v, w, u])) (upd H p (.tup [v, w, u])) ∧ (tT (tsC T1 (tsC T2 (ts1 T3)))).rep (upd F p (.tup [v, w, u])) (.ref p) (x, y, z) :=
  let g := grow_new h hp (.tup [v, w, u])
  ⟨g, p, _, rfl, upd_same, v, _, rfl, T1.mono g.ff r1, w, _, rfl, T2.mono g.ff r2, u, rfl, T3.mono g.ff r3⟩
end
section
variable {X : Cx} {ρ : List (Slot X.K)} {cs : List (Cell X.K)} {α β γ : Type} {pos : Pos}
theorem ik_zip3 (k : Bool) {a b c : Expr} {T : Ty X.K α} {U : Ty X.K β} {V3 : Ty X.K γ} {S1 : Ty X.K (List α)} {S2 : Ty X.K (List β)} {S3 : Ty X.K (List γ)} {xs : List α} {ys : List β} {zs : List γ} {P1 P2 P3 : Prop} {p tpos : Pos} {elts : List Expr} {kk : Nat} (hm : X.mg "zip" = none)
    (sq1 : ∀ F v x, S1.rep F v x → ∃ a vs, v = .ref a ∧ (∀ H, Same F H → SqK k X.K H a vs) ∧ Rl T F vs x ∧ vs.length ≤ sizeLine) (sq2 : ∀ F v x, S2.rep F v x → ∃ a vs, v = .ref a ∧ (∀ H, Same F H → SqK k X.K H a vs) ∧ Rl U F vs x ∧ vs.length ≤ sizeLine)
    (sq3 : ∀ F v x, S3.rep F v x → ∃ a vs, v = .ref a ∧ (∀ H, Same F H → SqK k X.K H a vs) ∧ Rl V3 F vs x ∧ vs.length ≤ sizeLine)
    (h1 : PK X a ρ cs S1 xs P1) (h2 : PK X b ρ cs S2 ys P2) (h3 : PK X c ρ cs S3 zs P3) (hg : Gl X "zip" := by rfl)
    (hs : starEach [a, b, c] X.env = (false, eval a X.env) :: starEach [b, c] X.env := by rfl) (hs2 : starEach [b, c] X.env = (false, eval b X.env) :: starEach [c] X.env := by rfl) (hs3 : starEach [c] X.env = (false, eval c X.env) :: starEach [] X.env := by rfl)
    (hpl : (backTo pos (starEach [b, c] X.env)).any (·.1) = false := by rfl) :
    IK X (.Tuple elts kk tpos) (.Call (.Name "zip" p) [a, b, c] [] pos) ρ cs (tT (tsC T (tsC U (ts1 V3)))) (xs.zip (ys.zip zs)) (P1 ∧ P2 ∧ P3) := fun F σ H ok q R kr => by
  refine wi (pi_zip3 k hg hm (pa_cons pe_w (pa_cons pe_w (pa_cons pe_w pa_nil hs3) hs2) hs) hs hpl) ?_
  refine h1 F σ H ok q.1 _ fun v F1 H1 g1 r1 => ?_
  refine h2 F1 σ H1 (ok.grow g1) q.2.1 _ fun w F2 H2 g2 r2 => ?_
  refine h3 F2 σ H2 ((ok.grow g1).grow g2) q.2.2 _ fun u F3 H3 g3 r3 => ?_
  obtain ⟨a1, vs, e1, q1, rl1, z1⟩ := sq1 _ _ _ (S1.mono (g2.ff.trans g3.ff) r1)
  obtain ⟨a2, ws, e2, q2, rl2, z2⟩ := sq2 _ _ _ (S2.mono g3.ff r2)
  obtain ⟨a3, us, e3, q3, rl3, z3⟩ := sq3 _ _ _ r3
  have fh := g3.fh
  have ml : min (min vs.length ws.length) us.length = (xs.zip (ys.zip zs)).length := by
    rw [List.length_zip, List.length_zip, Rl.length rl1, Rl.length rl2, Rl.length rl3]
    omega
  refine ⟨a1, a2, a3, vs, ws, us, by rw [e1, e2, e3], q1 _ fh, q2 _ fh, q3 _ fh, kr _ F3 H3 (g1.trans (g2.trans g3)) (fun i F4 H4 e4 e5 => ?_) (by rw [← ml]; omega)⟩
  have s1 := q1 _ (e4.trans e5)
  have s2 := q2 _ (e4.trans e5)
  have s3 := q3 _ (e4.trans e5)
  refine ⟨fun z hz => ?_, fun hi => ⟨vs, ws, us, s1, s2, s3, rfl, by rw [ml]; exact hi⟩⟩
  obtain ⟨hx, hy, hu⟩ := zip_get3 hz
  obtain ⟨v1, hv1, rv1⟩ := rl_get rl1 hx
  obtain ⟨w1, hw1, rw1⟩ := rl_get rl2 hy
  obtain ⟨u1, hu1, ru1⟩ := rl_get rl3 hu
  refine ⟨⟨by rw [ml]; exact (List.getElem?_eq_some_iff.mp hz).1, vs, ws, us, v1, w1, u1, s1, s2, s3, hv1, hw1, hu1⟩, fun v' H5 ⟨t, x', y', z', ev, hn, eh, hx', hy', hu'⟩ => ?_⟩
  have t1 := (hx' vs s1).symm.trans hv1
  have t2 := (hy' ws s2).symm.trans hw1
  have t3 := (hu' us s3).symm.trans hu1
  cases t1; cases t2; cases t3
  subst ev; subst eh
  obtain ⟨g6, r6⟩ := grow_tup3 (T1 := T) (T2 := U) (T3 := V3) (x := z.1) (y := z.2.1) (z := z.2.2) e5 hn (T.mono e4 rv1) (U.mono e4 rw1) (V3.mono e4 ru1)
  exact ⟨_, g6, r6⟩
theorem sq_L {T : Ty X.K α} : ∀ F v x, (tL T).rep F v x → ∃ a vs, v = .ref a ∧ (∀ H, Same F H → SqK true X.K H a vs) ∧ Rl T F vs x ∧ vs.length ≤ sizeLine := fun F v x ⟨a, vs, e, hq, r, z⟩ => ⟨a, vs, e, fun H s => SqL.of (s _ _ hq), r, z⟩
theorem sq_U {T : Ty X.K α} : ∀ F v x, (tU T).rep F v x → ∃ a vs, v = .ref a ∧ (∀ H, Same F H → SqK false X.K H a vs) ∧ Rl T F vs x ∧ vs.length ≤ sizeLine := fun F v x ⟨a, vs, e, hq, r, z⟩ => ⟨a, vs, e, fun H s => .inl (same_rd s hq), r, z⟩
end
end MD
/-! machines by their tables: runs, words, what parts two states; how long a least such word may be -/
namespace KM
open PySem MD KP
abbrev Tab := List (List Int)
def stp (tab : Tab) (s : Int) (j : Nat) : Int := pyIx (pyIx tab s) (j : Int)
def runT (tab : Tab) (s : Int) (w : List Nat) : Int := w.foldl (stp tab) s
/-- a word of letters' places -/
def Wd (m : Nat) (w : List Nat) : Prop := ∀ j ∈ w, j < m
def InR (tab : Tab) (s : Int) : Prop := 0 ≤ s ∧ s < (tab.length : Int)
/-- every row has m goals, all states -/
structure TOk (m : Nat) (tab : Tab) : Prop where
  len : ∀ r ∈ tab, r.length = m
  goal : ∀ r ∈ tab, ∀ g ∈ r, InR tab g
theorem stp_in {m : Nat} {tab : Tab} (h : TOk m tab) {s : Int} (hs : InR tab s) {j : Nat} (hj : j < m) : InR tab (stp tab s j) := by
  have hr : pyIx tab s ∈ tab := pyIx_mem hs.1 hs.2
  refine h.goal _ hr _ (pyIx_mem (by omega) ?_)
  rw [h.len _ hr]
  omega
theorem run_in {m : Nat} {tab : Tab} (h : TOk m tab) : ∀ {w : List Nat} {s : Int}, InR tab s → Wd m w → InR tab (runT tab s w)
  | [], _, hs, _ => hs
  | j :: w, s, hs, hw => run_in h (w := w) (stp_in h hs (hw j List.mem_cons_self)) fun k hk => hw k (List.mem_cons_of_mem _ hk)
theorem run_app (tab : Tab) (s : Int) (u w : List Nat) : runT tab s (u ++ w) = runT tab (runT tab s u) w := List.foldl_append
/-- whether a word parts two states -/
def parts (tab : Tab) (good : List Int) (p : Int × Int) (w : List Nat) : Prop := ¬ (runT tab p.1 w ∈ good ↔ runT tab p.2 w ∈ good)
def stp2 (tab : Tab) (p : Int × Int) (j : Nat) : Int × Int := (stp tab p.1 j, stp tab p.2 j)
def run2 (tab : Tab) (p : Int × Int) (w : List Nat) : Int × Int := (runT tab p.1 w, runT tab p.2 w)
theorem run2_app (tab : Tab) (p : Int × Int) (u : List Nat) (j : Nat) : run2 tab p (u ++ [j]) = stp2 tab (run2 tab p u) j := by
  unfold run2
  rw [run_app, run_app]
  rfl
theorem parts_cons {tab : Tab} {good : List Int} {p : Int × Int} {j : Nat} {w : List Nat} : parts tab good p (j :: w) ↔ parts tab good (stp2 tab p j) w := Iff.rfl
theorem parts_app {tab : Tab} {good : List Int} {p : Int × Int} {u w : List Nat} : parts tab good p (u ++ w) ↔ parts tab good (run2 tab p u) w := by
  unfold parts run2
  rw [run_app, run_app]
/-- alike by all words of up to k letters -/
def Ek (m : Nat) (tab : Tab) (good : List Int) (k : Nat) (s t : Int) : Prop := ∀ w, Wd m w → w.length ≤ k → ¬ parts tab good (s, t) w
section
variable {m : Nat} {tab : Tab} {good : List Int}
theorem Ek.refl (k : Nat) (s : Int) : Ek m tab good k s s := fun w _ _ h => h Iff.rfl
theorem parts_symm {s t : Int} {w : List Nat} (h : parts tab good (s, t) w) : parts tab good (t, s) w := fun q => h q.symm
theorem Ek.symm {k : Nat} {s t : Int} (h : Ek m tab good k s t) : Ek m tab good k t s := fun w hw hl q => h w hw hl (parts_symm q)
theorem Ek.trans {k : Nat} {s t u : Int} (h : Ek m tab good k s t) (h' : Ek m tab good k t u) : Ek m tab good k s u := fun w hw hl q => by
  have a := Classical.not_not.mp (h w hw hl)
  have b := Classical.not_not.mp (h' w hw hl)
  exact q (a.trans b)
theorem Ek.le {k l : Nat} {s t : Int} (h : Ek m tab good l s t) (hkl : k ≤ l) : Ek m tab good k s t := fun w hw hl => h w hw (Nat.le_trans hl hkl)
theorem Ek.succ {k : Nat} {s t : Int} : Ek m tab good (k + 1) s t ↔ Ek m tab good 0 s t ∧ ∀ j, j < m → Ek m tab good k (stp tab s j) (stp tab t j) := by
  constructor
  · refine fun h => ⟨h.le (Nat.zero_le _), fun j hj w hw hl q => h (j :: w) (fun x hx => ?_) (Nat.succ_le_succ hl) ((parts_cons (p := (s, t))).mpr q)⟩
    rcases List.mem_cons.mp hx with e | e
    · rw [e]; exact hj
    · exact hw x e
  · rintro ⟨h0, h1⟩ w hw hl
    cases w with
    | nil => exact h0 [] hw (Nat.le_refl 0)
    | cons j w => exact fun q => h1 j (hw j List.mem_cons_self) w (fun x hx => hw x (List.mem_cons_of_mem _ hx)) (Nat.le_of_succ_le_succ hl) ((parts_cons (p := (s, t))).mp q)
/-- where one more letter tells nothing more, no more letters do -/
theorem Ek.stays (h : TOk m tab) {k : Nat} (hk : ∀ s t, InR tab s → InR tab t → Ek m tab good k s t → Ek m tab good (k + 1) s t) : ∀ d s t, InR tab s → InR tab t → Ek m tab good k s t → Ek m tab good (k + d) s t
  | 0, _, _, _, _, e => e
  | d + 1, s, t, hs, ht, e => by
    obtain ⟨e0, e1⟩ := Ek.succ.mp (hk s t hs ht e)
    exact Ek.succ.mpr ⟨e0, fun j hj => Ek.stays h hk d _ _ (stp_in h hs hj) (stp_in h ht hj) (e1 j hj)⟩
open Classical in
/-- the least ones of their classes -/
noncomputable def reps (m : Nat) (tab : Tab) (good : List Int) (k : Nat) : List Nat := (List.range tab.length).filter fun s => decide (∀ t : Nat, t < s → ¬ Ek m tab good k (t : Int) (s : Int))
theorem filter_lt {p q : Nat → Bool} : ∀ {l : List Nat} {y : Nat}, (∀ x, p x = true → q x = true) → y ∈ l → q y = true → p y = false → (l.filter p).length < (l.filter q).length
  | [], _, _, h, _, _ => by cases h
  | x :: l, y, hpq, h, hq, hp => by
    have le : ∀ l : List Nat, (l.filter p).length ≤ (l.filter q).length := fun l => by
      induction l with
      | nil => exact Nat.le_refl 0
      | cons x l ih =>
        rw [List.filter_cons, List.filter_cons]
        cases px : p x with
        | true =>
          rw [hpq x px]
          exact Nat.succ_le_succ ih
        | false =>
          cases q x
          · exact ih
          · exact Nat.le_succ_of_le ih
    rw [List.filter_cons, List.filter_cons]
    rcases List.mem_cons.mp h with e | h
    · subst e
      rw [hq, hp]
      exact Nat.lt_succ_of_le (le l)
    · have ih := filter_lt hpq h hq hp
      cases px : p x with
      | true =>
        rw [hpq x px]
        exact Nat.succ_lt_succ ih
      | false =>
        cases q x
        · exact ih
        · exact Nat.lt_succ_of_lt ih
theorem least_of {P : Nat → Prop} : ∀ {n : Nat}, P n → ∃ k, k ≤ n ∧ P k ∧ ∀ j, j < k → ¬ P j := by
  intro n
  induction n using Nat.strongRecOn with
  | _ n ih =>
    intro h
    by_cases q : ∃ j, j < n ∧ P j
    · obtain ⟨j, hj, pj⟩ := q
      obtain ⟨k, hk, pk, lk⟩ := ih j hj pj
      exact ⟨k, Nat.le_trans hk (Nat.le_of_lt hj), pk, lk⟩
    · exact ⟨n, Nat.le_refl n, h, fun j hj pj => q ⟨j, hj, pj⟩⟩
open Classical in
theorem reps_lt {k : Nat} {s t : Nat} (hs : s < tab.length) (ht : t < tab.length) (e : Ek m tab good k (s : Int) (t : Int)) (ne : ¬ Ek m tab good (k + 1) (s : Int) (t : Int)) : (reps m tab good k).length < (reps m tab good (k + 1)).length := by
  obtain ⟨r, hr, er, lr⟩ := least_of (P := fun r => Ek m tab good k (r : Int) (s : Int)) (n := s) (Ek.refl k _)
  obtain ⟨x, hx, e1, e2⟩ : ∃ x : Nat, x < tab.length ∧ Ek m tab good k (r : Int) (x : Int) ∧ ¬ Ek m tab good (k + 1) (r : Int) (x : Int) := by
    by_cases q : Ek m tab good (k + 1) (r : Int) (s : Int)
    · exact ⟨t, ht, er.trans e, fun q2 => ne (q.symm.trans q2)⟩
    · exact ⟨s, hs, er, q⟩
  obtain ⟨y, hy, ey, ly⟩ := least_of (P := fun y => Ek m tab good (k + 1) (y : Int) (x : Int)) (n := x) (Ek.refl _ _)
  have yr : r < y := by
    rcases Nat.lt_trichotomy r y with h | h | h
    · exact h
    · rw [h] at e2
      exact absurd ey e2
    · exact absurd ((ey.le (Nat.le_succ k)).trans (e1.symm.trans er)) (lr y h)
  refine filter_lt (y := y) (fun z hz => ?_) (List.mem_range.mpr (by omega)) ?_ ?_
  · have hz := of_decide_eq_true hz
    exact decide_eq_true fun t ht q => hz t ht (q.le (Nat.le_succ k))
  · exact decide_eq_true fun t ht q => ly t ht (q.trans ey)
  · exact decide_eq_false fun q => q r yr (e1.trans (ey.le (Nat.le_succ k)).symm)
theorem reps_le (k : Nat) : (reps m tab good k).length ≤ tab.length := Nat.le_trans (List.length_filter_le _ _) (by rw [List.length_range]; exact Nat.le_refl _)
open Classical in
theorem reps_pos (k : Nat) (h : 0 < tab.length) : 1 ≤ (reps m tab good k).length := by
  refine List.length_pos_of_mem (a := 0) (List.mem_filter.mpr ⟨List.mem_range.mpr h, decide_eq_true fun t ht => ?_⟩)
  omega
/-- what parts two states at all parts them by a word with fewer letters than there are states -/
theorem short (h : TOk m tab) {s t : Int} (hs : InR tab s) (ht : InR tab t) {w : List Nat} (hw : Wd m w) (hp : parts tab good (s, t) w) : ∃ v, Wd m v ∧ v.length < tab.length ∧ parts tab good (s, t) v := by
  obtain ⟨L, _, ⟨v, hv, hvl, hvp⟩, ll⟩ := least_of (P := fun L => ∃ v, Wd m v ∧ v.length = L ∧ parts tab good (s, t) v) (n := w.length) ⟨w, hw, rfl, hp⟩
  refine ⟨v, hv, ?_, hvp⟩
  have grow : ∀ k, k ≤ L → k + 1 ≤ (reps m tab good k).length := fun k => by
    induction k with
    | zero => exact fun _ => reps_pos 0 (by have := hs.1; have := hs.2; omega)
    | succ k ih =>
      intro hk
      have ih := ih (by omega)
      by_cases q : ∀ s t, InR tab s → InR tab t → Ek m tab good k s t → Ek m tab good (k + 1) s t
      · exfalso
        have e : Ek m tab good k s t := fun u hu hul hup => ll u.length (by omega) ⟨u, hu, rfl, hup⟩
        have := Ek.stays h q (L - k) s t hs ht e
        exact this v hv (by omega) hvp
      · obtain ⟨s', q⟩ := Classical.not_forall.mp q
        obtain ⟨t', q⟩ := Classical.not_forall.mp q
        obtain ⟨hs', q⟩ := Classical.not_imp.mp q
        obtain ⟨ht', q⟩ := Classical.not_imp.mp q
        obtain ⟨e1, e2⟩ := Classical.not_imp.mp q
        obtain ⟨a, rfl⟩ := Int.eq_ofNat_of_zero_le hs'.1
        obtain ⟨b, rfl⟩ := Int.eq_ofNat_of_zero_le ht'.1
        have := reps_lt (by have := hs'.2; omega) (by have := ht'.2; omega) e1 e2
        omega
  have := grow L (Nat.le_refl L)
  have := reps_le (m := m) (tab := tab) (good := good) L
  omega
end
/-! ### the order of words -/
def lexle : List Nat → List Nat → Prop
  | [], _ => True
  | _ :: _, [] => False
  | a :: v, b :: w => a < b ∨ (a = b ∧ lexle v w)
theorem lexle.refl : ∀ v, lexle v v
  | [] => trivial
  | _ :: v => .inr ⟨rfl, lexle.refl v⟩
theorem lexle.trans : ∀ {u v w : List Nat}, lexle u v → lexle v w → lexle u w
  | [], _, _, _, _ => trivial
  | _ :: _, [], _, h, _ => h.elim
  | _ :: _, _ :: _, [], _, h => h.elim
  | a :: u, b :: v, c :: w, h1, h2 => by
    rcases h1 with h1 | ⟨e1, h1⟩
    · rcases h2 with h2 | ⟨e2, h2⟩
      · exact .inl (Nat.lt_trans h1 h2)
      · exact .inl (e2 ▸ h1)
    · subst e1
      rcases h2 with h2 | ⟨e2, h2⟩
      · exact .inl h2
      · exact .inr ⟨e2, h1.trans h2⟩
theorem lexle.antisymm : ∀ {v w : List Nat}, v.length = w.length → lexle v w → lexle w v → v = w
  | [], [], _, _, _ => rfl
  | [], _ :: _, h, _, _ => by cases h
  | _ :: _, [], h, _, _ => by cases h
  | a :: v, b :: w, hl, h1, h2 => by
    rcases h1 with h1 | ⟨e1, h1⟩
    · rcases h2 with h2 | ⟨e2, h2⟩
      · omega
      · omega
    · subst e1
      rcases h2 with h2 | ⟨_, h2⟩
      · omega
      · rw [lexle.antisymm (Nat.succ.inj hl) h1 h2]
/-- one letter more at each: where the words differ, whatever letters -/
theorem lexle.snoc : ∀ {v w : List Nat} {x y : Nat}, v.length = w.length → lexle v w → (v = w → x ≤ y) → lexle (v ++ [x]) (w ++ [y])
  | [], [], x, y, _, _, h => by
    have := h rfl
    rcases Nat.lt_or_ge x y with q | q
    · exact .inl q
    · exact .inr ⟨by omega, trivial⟩
  | [], _ :: _, _, _, h, _, _ => by cases h
  | _ :: _, [], _, _, h, _, _ => by cases h
  | a :: v, b :: w, x, y, hl, h, hx => by
    rcases h with h | ⟨e, h⟩
    · exact .inl h
    · exact .inr ⟨e, lexle.snoc (Nat.succ.inj hl) h fun q => hx (by rw [e, q])⟩
def sle (v w : List Nat) : Prop := v.length < w.length ∨ (v.length = w.length ∧ lexle v w)
theorem sle.refl (v : List Nat) : sle v v := .inr ⟨rfl, lexle.refl v⟩
theorem sle.trans {u v w : List Nat} (h1 : sle u v) (h2 : sle v w) : sle u w := by
  rcases h1 with h1 | ⟨e1, h1⟩
  · rcases h2 with h2 | ⟨e2, h2⟩
    · exact .inl (Nat.lt_trans h1 h2)
    · exact .inl (by omega)
  · rcases h2 with h2 | ⟨e2, h2⟩
    · exact .inl (by omega)
    · exact .inr ⟨e1.trans e2, h1.trans h2⟩
theorem sle.antisymm {v w : List Nat} (h1 : sle v w) (h2 : sle w v) : v = w := by
  rcases h1 with h1 | ⟨e1, h1⟩
  · rcases h2 with h2 | ⟨e2, h2⟩ <;> omega
  · rcases h2 with h2 | ⟨e2, h2⟩
    · omega
    · exact h1.antisymm e1 h2
theorem sle.snoc {v w : List Nat} {x y : Nat} (h : sle v w) (hx : v = w → x ≤ y) : sle (v ++ [x]) (w ++ [y]) := by
  rcases h with h | ⟨e, h⟩
  · exact .inl (by rw [List.length_append, List.length_append]; simp only [List.length_singleton]; omega)
  · exact .inr ⟨by rw [List.length_append, List.length_append, e]; rfl, h.snoc e hx⟩
theorem sle.nil (v : List Nat) : sle [] v := by
  cases v with
  | nil => exact sle.refl []
  | cons a v => exact .inl (Nat.succ_pos _)
theorem sle.pre (u v : List Nat) : sle u (u ++ v) := by
  cases v with
  | nil => rw [List.append_nil]; exact sle.refl u
  | cons a v => exact .inl (by rw [List.length_append, List.length_cons]; omega)
/-! ### the first word that parts -/
def IsL (m : Nat) (tab : Tab) (good : List Int) (p : Int × Int) : Option (List Nat) → Prop
  | none => ∀ w, Wd m w → ¬ parts tab good p w
  | some w => Wd m w ∧ parts tab good p w ∧ ∀ v, Wd m v → parts tab good p v → sle w v
section
variable {m : Nat} {tab : Tab} {good : List Int} {p : Int × Int}
theorem IsL.uniq : ∀ {o o' : Option (List Nat)}, IsL m tab good p o → IsL m tab good p o' → o = o'
  | none, none, _, _ => rfl
  | none, some w, h, h' => absurd h'.2.1 (h w h'.1)
  | some w, none, h, h' => absurd h.2.1 (h' w h.1)
  | some w, some v, h, h' => by rw [(h.2.2 v h'.1 h'.2.1).antisymm (h'.2.2 w h.1 h.2.1)]
open Classical in
noncomputable def best (m : Nat) (tab : Tab) (good : List Int) (p : Int × Int) : Option (List Nat) := if h : ∃ o, IsL m tab good p o then choose h else none
open Classical in
theorem best_of {o : Option (List Nat)} (h : IsL m tab good p o) : best m tab good p = o := by
  have e : ∃ o, IsL m tab good p o := ⟨o, h⟩
  unfold best
  rw [dif_pos e]
  exact (choose_spec e).uniq h
def rowOf (ls : List Str) (w : List Nat) : List Str := w.map fun j => ls.getD j default
theorem rowOf_snoc (ls : List Str) (w : List Nat) (j : Nat) : rowOf ls (w ++ [j]) = rowOf ls w ++ [ls.getD j default] := by
  unfold rowOf
  rw [List.map_append]
  rfl
theorem Wd.snoc {w : List Nat} {j : Nat} (h : Wd m w) (hj : j < m) : Wd m (w ++ [j]) := fun x hx => by
  rcases List.mem_append.mp hx with q | q
  · exact h x q
  · rw [List.mem_singleton.mp q]; exact hj
/-! ### found breadth first -/
structure BF (m : Nat) (tab : Tab) (good : List Int) (p : Int × Int) (at_ jj : Nat) (ws : List (List Nat)) : Prop where
  wd : ∀ w ∈ ws, Wd m w
  zero : ws[0]? = some []
  srt : ws.Pairwise sle
  nd : (ws.map (run2 tab p)).Nodup
  from_ : ∀ u ∈ ws, u = [] ∨ ∃ (i : Nat) (v : List Nat) (x : Nat), ws[i]? = some v ∧ u = v ++ [x] ∧ (i < at_ ∨ (i = at_ ∧ x < jj))
  cls : ∀ i, i < at_ → ∀ v, ws[i]? = some v → ∀ j, j < m → ∃ u ∈ ws, run2 tab p u = run2 tab p (v ++ [j]) ∧ sle u (v ++ [j])
  cls2 : ∀ v, ws[at_]? = some v → ∀ j, j < jj → ∃ u ∈ ws, run2 tab p u = run2 tab p (v ++ [j]) ∧ sle u (v ++ [j])
  no : ∀ i, i < at_ → ∀ v, ws[i]? = some v → ¬ parts tab good p v
theorem BF.start : BF m tab good p 0 0 [[]] where
  wd := fun w hw => by rw [List.mem_singleton.mp hw]; exact fun j hj => (by cases hj)
  zero := rfl
  srt := List.pairwise_singleton _ _
  nd := by simp
  from_ := fun u hu => .inl (List.mem_singleton.mp hu)
  cls := fun i hi => by omega
  cls2 := fun v hv j hj => by omega
  no := fun i hi => by omega
theorem BF.le {at_ jj : Nat} {ws : List (List Nat)} (h : BF m tab good p at_ jj ws) {i j : Nat} {v w : List Nat} (hv : ws[i]? = some v) (hw : ws[j]? = some w) (hij : i ≤ j) : sle v w := by
  rcases Nat.lt_or_ge i j with q | q
  · obtain ⟨hi, e1⟩ := List.getElem?_eq_some_iff.mp hv
    obtain ⟨hj, e2⟩ := List.getElem?_eq_some_iff.mp hw
    rw [← e1, ← e2]
    exact List.pairwise_iff_getElem.mp h.srt i j hi hj q
  · have : i = j := Nat.le_antisymm hij q
    subst this
    rw [hv] at hw
    rw [Option.some.inj hw]
    exact sle.refl _
theorem BF.inj {at_ jj : Nat} {ws : List (List Nat)} (h : BF m tab good p at_ jj ws) {i j : Nat} {v : List Nat} (hv : ws[i]? = some v) (hw : ws[j]? = some v) : i = j := by
  have h1 : (ws.map (run2 tab p))[i]? = some (run2 tab p v) := by rw [List.getElem?_map, hv]; rfl
  have h2 : (ws.map (run2 tab p))[j]? = some (run2 tab p v) := by rw [List.getElem?_map, hw]; rfl
  exact (List.getElem?_inj (List.getElem?_eq_some_iff.mp h1).1 h.nd).mp (h1.trans h2.symm)
/-- all that stand are at most the word at hand with its next letter -/
theorem BF.bound {at_ jj : Nat} {ws : List (List Nat)} (h : BF m tab good p at_ jj ws) {w : List Nat} (hw : ws[at_]? = some w) {u : List Nat} (hu : u ∈ ws) : sle u (w ++ [jj]) := by
  rcases h.from_ u hu with e | ⟨i, v, x, hv, e, q⟩
  · rw [e]; exact sle.nil _
  · rw [e]
    rcases q with q | ⟨q, hx⟩
    · exact (h.le hv hw (Nat.le_of_lt q)).snoc fun z => by
        rw [z] at hv
        have := h.inj hv hw
        omega
    · subst q
      rw [hv] at hw
      rw [Option.some.inj hw]
      exact (sle.refl w).snoc fun _ => Nat.le_of_lt hx
/-- the letter leads to what stands already -/
theorem BF.old {at_ jj : Nat} {ws : List (List Nat)} (h : BF m tab good p at_ jj ws) {w : List Nat} (hw : ws[at_]? = some w) (ho : run2 tab p (w ++ [jj]) ∈ ws.map (run2 tab p)) : BF m tab good p at_ (jj + 1) ws := by
  obtain ⟨u, hu, e⟩ := List.mem_map.mp ho
  refine ⟨h.wd, h.zero, h.srt, h.nd, fun x hx => ?_, h.cls, fun v hv j hj => ?_, h.no⟩
  · rcases h.from_ x hx with e | ⟨i, v, y, hv, e, q⟩
    · exact .inl e
    · exact .inr ⟨i, v, y, hv, e, by omega⟩
  · rcases Nat.lt_or_ge j jj with q | q
    · exact h.cls2 v hv j q
    · have : j = jj := by omega
      subst this
      rw [hw] at hv
      cases hv
      exact ⟨u, hu, e, h.bound hw hu⟩
theorem BF.new {at_ jj : Nat} {ws : List (List Nat)} (h : BF m tab good p at_ jj ws) {w : List Nat} (hw : ws[at_]? = some w) (hj : jj < m) (ho : run2 tab p (w ++ [jj]) ∉ ws.map (run2 tab p)) : BF m tab good p at_ (jj + 1) (ws ++ [w ++ [jj]]) := by
  have hlt : at_ < ws.length := (List.getElem?_eq_some_iff.mp hw).1
  have up : ∀ {i : Nat} {v : List Nat}, i < ws.length → (ws ++ [w ++ [jj]])[i]? = some v → ws[i]? = some v := fun {i v} hi e => by rw [List.getElem?_append_left hi] at e; exact e
  have dn : ∀ {i : Nat} {v : List Nat}, ws[i]? = some v → (ws ++ [w ++ [jj]])[i]? = some v := fun {i v} e => by rw [List.getElem?_append_left (List.getElem?_eq_some_iff.mp e).1]; exact e
  have wm : w ∈ ws := List.mem_of_getElem? hw
  refine ⟨fun x hx => ?_, dn h.zero, List.pairwise_append.mpr ⟨h.srt, List.pairwise_singleton _ _, fun a ha b hb => ?_⟩, ?_, fun x hx => ?_, fun i hi v hv j hj => ?_, fun v hv j hj => ?_, fun i hi v hv => h.no i hi v (up (by omega) hv)⟩
  · rcases List.mem_append.mp hx with q | q
    · exact h.wd x q
    · rw [List.mem_singleton.mp q]; exact (h.wd w wm).snoc hj
  · rw [List.mem_singleton.mp hb]; exact h.bound hw ha
  · rw [List.map_append]
    refine List.nodup_append.mpr ⟨h.nd, by simp, fun a ha b hb e => ?_⟩
    rw [List.map_singleton, List.mem_singleton] at hb
    rw [e, hb] at ha
    exact ho ha
  · rcases List.mem_append.mp hx with q | q
    · rcases h.from_ x q with e | ⟨i, v, y, hv, e, q⟩
      · exact .inl e
      · exact .inr ⟨i, v, y, dn hv, e, by omega⟩
    · exact .inr ⟨at_, w, jj, dn hw, List.mem_singleton.mp q, .inr ⟨rfl, Nat.lt_succ_self _⟩⟩
  · obtain ⟨u, hu, e1, e2⟩ := h.cls i hi v (up (by omega) hv) j hj
    exact ⟨u, List.mem_append_left _ hu, e1, e2⟩
  · have hv2 := up hlt hv
    rcases Nat.lt_or_ge j jj with q | q
    · obtain ⟨u, hu, e1, e2⟩ := h.cls2 v hv2 j q
      exact ⟨u, List.mem_append_left _ hu, e1, e2⟩
    · have : j = jj := by omega
      subst this
      rw [hw] at hv2
      cases hv2
      exact ⟨w ++ [j], List.mem_append_right _ (List.mem_singleton.mpr rfl), rfl, sle.refl _⟩
theorem BF.next {at_ : Nat} {ws : List (List Nat)} (h : BF m tab good p at_ m ws) {w : List Nat} (hw : ws[at_]? = some w) (hn : ¬ parts tab good p w) : BF m tab good p (at_ + 1) 0 ws := by
  refine ⟨h.wd, h.zero, h.srt, h.nd, fun x hx => ?_, fun i hi v hv j hj => ?_, fun v hv j hj => by omega, fun i hi v hv => ?_⟩
  · rcases h.from_ x hx with e | ⟨i, v, y, hv, e, q⟩
    · exact .inl e
    · exact .inr ⟨i, v, y, hv, e, by omega⟩
  · rcases Nat.lt_or_ge i at_ with q | q
    · exact h.cls i q v hv j hj
    · have : i = at_ := by omega
      subst this
      exact h.cls2 v hv j hj
  · rcases Nat.lt_or_ge i at_ with q | q
    · exact h.no i q v hv
    · have : i = at_ := by omega
      subst this
      rw [hw] at hv
      cases hv
      exact hn
/-- each word leads where one of those that stand leads, which is no later; or one that is no later lies ahead -/
theorem BF.reach {at_ jj : Nat} {ws : List (List Nat)} (h : BF m tab good p at_ jj ws) : ∀ (n : Nat) {v : List Nat}, v.length = n → Wd m v →
    (∃ i u, i < at_ ∧ ws[i]? = some u ∧ run2 tab p u = run2 tab p v ∧ sle u v) ∨ ∃ i u, at_ ≤ i ∧ ws[i]? = some u ∧ sle u v
  | 0, v, hl, _ => by
    have : v = [] := List.length_eq_zero_iff.mp hl
    subst this
    rcases Nat.lt_or_ge 0 at_ with q | q
    · exact .inl ⟨0, [], q, h.zero, rfl, sle.refl _⟩
    · exact .inr ⟨0, [], q, h.zero, sle.refl _⟩
  | n + 1, v, hl, hv => by
    obtain ⟨v0, x, rfl⟩ : ∃ v0 x, v = v0 ++ [x] := ⟨v.dropLast, v.getLast (fun q => by rw [q] at hl; cases hl), (List.dropLast_concat_getLast _).symm⟩
    have hl0 : v0.length = n := by rw [List.length_append] at hl; simpa using hl
    have hv0 : Wd m v0 := fun j hj => hv j (List.mem_append_left _ hj)
    have hx : x < m := hv x (List.mem_append_right _ (List.mem_singleton.mpr rfl))
    rcases h.reach n hl0 hv0 with ⟨i, u, hi, hu, e, le⟩ | ⟨i, u, hi, hu, le⟩
    · obtain ⟨y, hy, e2, le2⟩ := h.cls i hi u hu x hx
      obtain ⟨k, hk⟩ := List.getElem?_of_mem hy
      have le3 : sle y (v0 ++ [x]) := le2.trans (le.snoc fun _ => Nat.le_refl x)
      rcases Nat.lt_or_ge k at_ with q | q
      · refine .inl ⟨k, y, q, hk, ?_, le3⟩
        rw [e2, run2_app, run2_app, e]
      · exact .inr ⟨k, y, q, hk, le3⟩
    · exact .inr ⟨i, u, hi, hu, le.trans (sle.pre _ _)⟩
theorem parts_run {u v : List Nat} (e : run2 tab p u = run2 tab p v) : parts tab good p u ↔ parts tab good p v := by
  have e1 : runT tab p.1 u = runT tab p.1 v := congrArg Prod.fst e
  have e2 : runT tab p.2 u = runT tab p.2 v := congrArg Prod.snd e
  unfold parts
  rw [e1, e2]
theorem BF.found {at_ jj : Nat} {ws : List (List Nat)} (h : BF m tab good p at_ jj ws) {w : List Nat} (hw : ws[at_]? = some w) (hp : parts tab good p w) : IsL m tab good p (some w) :=
  ⟨h.wd w (List.mem_of_getElem? hw), hp, fun v hv pv => by
    rcases h.reach v.length rfl hv with ⟨i, u, hi, hu, e, _⟩ | ⟨i, u, hi, hu, le⟩
    · exact absurd ((parts_run e).mpr pv) (h.no i hi u hu)
    · exact (h.le hw hu hi).trans le⟩
theorem BF.none {at_ jj : Nat} {ws : List (List Nat)} (h : BF m tab good p at_ jj ws) (hl : ws.length ≤ at_) : IsL m tab good p none := fun v hv pv => by
  rcases h.reach v.length rfl hv with ⟨i, u, hi, hu, e, _⟩ | ⟨i, u, hi, hu, le⟩
  · exact absurd ((parts_run e).mpr pv) (h.no i hi u hu)
  · have := (List.getElem?_eq_some_iff.mp hu).1
    omega
end
/-! ### how far -/
section
variable {m : Nat} {tab : Tab} {good : List Int}
/-- parted by a word of up to k letters -/
def Dk (m : Nat) (tab : Tab) (good : List Int) (k : Nat) (p : Int × Int) : Prop := ∃ w, Wd m w ∧ w.length ≤ k ∧ parts tab good p w
def Dist (m : Nat) (tab : Tab) (good : List Int) (p : Int × Int) (k : Nat) : Prop := Dk m tab good k p ∧ ∀ j, j < k → ¬ Dk m tab good j p
def InP (tab : Tab) (p : Int × Int) : Prop := InR tab p.1 ∧ InR tab p.2
theorem Dk.le {k l : Nat} {p : Int × Int} (h : Dk m tab good k p) (hkl : k ≤ l) : Dk m tab good l p := let ⟨w, h1, h2, h3⟩ := h; ⟨w, h1, Nat.le_trans h2 hkl, h3⟩
theorem Dk.zero {p : Int × Int} : Dk m tab good 0 p ↔ parts tab good p [] := by
  constructor
  · rintro ⟨w, _, h2, h3⟩
    have : w = [] := List.length_eq_zero_iff.mp (by omega)
    rw [this] at h3
    exact h3
  · exact fun h => ⟨[], fun j hj => (by cases hj), Nat.le_refl 0, h⟩
theorem Dk.succ {k : Nat} {p : Int × Int} : Dk m tab good (k + 1) p ↔ Dk m tab good 0 p ∨ ∃ j, j < m ∧ Dk m tab good k (stp2 tab p j) := by
  constructor
  · rintro ⟨w, h1, h2, h3⟩
    cases w with
    | nil => exact .inl (Dk.zero.mpr h3)
    | cons j w => exact .inr ⟨j, h1 j List.mem_cons_self, w, fun x hx => h1 x (List.mem_cons_of_mem _ hx), Nat.le_of_succ_le_succ h2, parts_cons.mp h3⟩
  · rintro (h | ⟨j, hj, w, h1, h2, h3⟩)
    · exact h.le (Nat.zero_le _)
    · refine ⟨j :: w, fun x hx => ?_, Nat.succ_le_succ h2, parts_cons.mpr h3⟩
      rcases List.mem_cons.mp hx with e | e
      · rw [e]; exact hj
      · exact h1 x e
theorem Dist.uniq {p : Int × Int} {k l : Nat} (h : Dist m tab good p k) (h' : Dist m tab good p l) : k = l := by
  rcases Nat.lt_trichotomy k l with q | q | q
  · exact absurd h.1 (h'.2 k q)
  · exact q
  · exact absurd h'.1 (h.2 l q)
theorem Dk.dist {k : Nat} {p : Int × Int} (h : Dk m tab good k p) : ∃ d, d ≤ k ∧ Dist m tab good p d := by
  obtain ⟨d, h1, h2, h3⟩ := least_of (P := fun k => Dk m tab good k p) h
  exact ⟨d, h1, h2, h3⟩
/-- the pairs parted by up to t letters, each with how many -/
def FarT (m : Nat) (tab : Tab) (good : List Int) (t : Nat) (far : List ((Int × Int) × Int)) : Prop := ∀ p d, dget far p = some d ↔ InP tab p ∧ ∃ k, k ≤ t ∧ d = (k : Int) ∧ Dist m tab good p k
theorem FarT.mem {t : Nat} {far : List ((Int × Int) × Int)} (h : FarT m tab good t far) {p : Int × Int} (hp : InP tab p) : (dget far p).isSome = true ↔ Dk m tab good t p := by
  constructor
  · intro q
    obtain ⟨d, e⟩ := Option.isSome_iff_exists.mp q
    obtain ⟨_, k, hk, _, hd⟩ := (h p d).mp e
    exact hd.1.le hk
  · intro q
    obtain ⟨d, hd, q⟩ := q.dist
    rw [(h p d).mpr ⟨hp, d, hd, rfl, q⟩]
    rfl
theorem FarT.dist {t : Nat} {far : List ((Int × Int) × Int)} (h : FarT m tab good t far) {p : Int × Int} (hp : InP tab p) {k : Nat} (hk : k ≤ t) (q : Dist m tab good p k) : dget far p = some (k : Int) := (h p k).mpr ⟨hp, k, hk, rfl, q⟩
theorem FarT.step {t : Nat} {far far' : List ((Int × Int) × Int)} (h : FarT m tab good t far) (e1 : ∀ p, InP tab p ∧ Dk m tab good (t + 1) p ∧ ¬ Dk m tab good t p → dget far' p = some ((t + 1 : Nat) : Int)) (e2 : ∀ p, ¬ (InP tab p ∧ Dk m tab good (t + 1) p ∧ ¬ Dk m tab good t p) → dget far' p = dget far p) : FarT m tab good (t + 1) far' := fun p d => by
  constructor
  · intro q
    by_cases c : InP tab p ∧ Dk m tab good (t + 1) p ∧ ¬ Dk m tab good t p
    · rw [e1 p c] at q
      exact ⟨c.1, t + 1, Nat.le_refl _, (Option.some.inj q).symm, c.2.1, fun j hj hd => c.2.2 (hd.le (Nat.le_of_lt_succ hj))⟩
    · rw [e2 p c] at q
      obtain ⟨h1, k, hk, h2⟩ := (h p d).mp q
      exact ⟨h1, k, Nat.le_succ_of_le hk, h2⟩
  · rintro ⟨hp, k, hk, ed, hd⟩
    rcases Nat.lt_or_ge t k with q | q
    · have : k = t + 1 := by omega
      subst this
      rw [e1 p ⟨hp, hd.1, hd.2 t q⟩, ed]
    · rw [e2 p (fun c => c.2.2 (hd.1.le q))]
      exact (h p d).mpr ⟨hp, k, q, ed, hd⟩
/-- as many turns as there are states tell all -/
theorem far_all (hT : TOk m tab) {t : Nat} (ht : tab.length ≤ t + 1) {p : Int × Int} (hp : InP tab p) {w : List Nat} (hw : Wd m w) (hq : parts tab good p w) : Dk m tab good t p := by
  obtain ⟨v, h1, h2, h3⟩ := short hT hp.1 hp.2 hw hq
  exact ⟨v, h1, by omega, h3⟩
theorem run2_in (hT : TOk m tab) {p : Int × Int} (hp : InP tab p) {w : List Nat} (hw : Wd m w) : InP tab (run2 tab p w) := ⟨run_in hT hp.1 hw, run_in hT hp.2 hw⟩
/-- the word so far, of a least one: none that parts begins ahead of it -/
structure Gr (m : Nat) (tab : Tab) (good : List Int) (p : Int × Int) (d i : Nat) (u : List Nat) : Prop where
  wd : Wd m u
  len : u.length = i
  far : Dist m tab good (run2 tab p u) (d - i)
  le : i ≤ d
  first : ∀ v, Wd m v → v.length = d → parts tab good p v → lexle u (v.take i)
theorem Gr.start {p : Int × Int} {d : Nat} (h : Dist m tab good p d) : Gr m tab good p d 0 [] := ⟨fun j hj => (by cases hj), rfl, h, Nat.zero_le _, fun _ _ _ _ => trivial⟩
theorem Gr.step {p : Int × Int} {d i : Nat} {u : List Nat} (g : Gr m tab good p d i u) (hi : i < d) {j : Nat} (hj : j < m) (hd : Dist m tab good (stp2 tab (run2 tab p u) j) (d - (i + 1)))
    (hb : ∀ j', j' < j → ¬ Dist m tab good (stp2 tab (run2 tab p u) j') (d - (i + 1))) : Gr m tab good p d (i + 1) (u ++ [j]) := by
  refine ⟨g.wd.snoc hj, by rw [List.length_append, g.len]; rfl, by rw [run2_app]; exact hd, hi, fun v hv hl hp => ?_⟩
  have h0 := g.first v hv hl hp
  have hiv : i < v.length := by omega
  rw [List.take_succ_eq_append_getElem hiv]
  refine h0.snoc (by rw [g.len, List.length_take]; omega) fun e => ?_
  refine Nat.le_of_not_lt fun q => hb _ q ⟨?_, fun l hl2 hd2 => ?_⟩
  · have ev : v = u ++ v[i] :: v.drop (i + 1) := by
      rw [e]
      rw [← List.drop_eq_getElem_cons hiv, List.take_append_drop]
    rw [ev] at hp
    refine ⟨v.drop (i + 1), fun x hx => hv x (List.mem_of_mem_drop hx), by rw [List.length_drop]; omega, ?_⟩
    exact parts_cons.mp (parts_app.mp hp)
  · refine g.far.2 (l + 1) (by omega) (Dk.succ.mpr (.inr ⟨_, ?_, hd2⟩))
    exact hv _ (List.getElem_mem hiv)
theorem Gr.done {p : Int × Int} {d : Nat} {u : List Nat} (g : Gr m tab good p d d u) (hd : Dist m tab good p d) : IsL m tab good p (some u) := by
  refine ⟨g.wd, ?_, fun v hv hp => ?_⟩
  · have := g.far.1
    rw [Nat.sub_self] at this
    have := Dk.zero.mp this
    have := (parts_app (w := [])).mpr this
    rw [List.append_nil] at this
    exact this
  · rcases Nat.lt_trichotomy v.length d with q | q | q
    · exact absurd ⟨v, hv, Nat.le_refl _, hp⟩ (hd.2 v.length q)
    · have := g.first v hv q hp
      rw [List.take_of_length_le (by omega)] at this
      exact .inr ⟨by rw [g.len, q], this⟩
    · exact .inl (by rw [g.len]; exact q)
/-- a letter that leads nearer -/
theorem near_some {p : Int × Int} {k : Nat} (h : Dist m tab good p (k + 1)) : ∃ j, j < m ∧ Dist m tab good (stp2 tab p j) k := by
  rcases Dk.succ.mp h.1 with q | ⟨j, hj, q⟩
  · exact absurd q (h.2 0 (Nat.succ_pos _))
  · exact ⟨j, hj, q, fun l hl hd => h.2 (l + 1) (by omega) (Dk.succ.mpr (.inr ⟨j, hj, hd⟩))⟩
/-! ### all words of so many letters, in order -/
def words (m : Nat) : Nat → List (List Nat)
  | 0 => [[]]
  | k + 1 => (words m k).flatMap fun w => (List.range m).map fun j => w ++ [j]
theorem mem_words : ∀ {k : Nat} {w : List Nat}, w ∈ words m k ↔ Wd m w ∧ w.length = k
  | 0, w => by
    show w ∈ [[]] ↔ _
    rw [List.mem_singleton]
    constructor
    · rintro rfl
      exact ⟨fun j hj => (by cases hj), rfl⟩
    · exact fun h => List.length_eq_zero_iff.mp h.2
  | k + 1, w => by
    show w ∈ (words m k).flatMap (fun w => (List.range m).map fun j => w ++ [j]) ↔ _
    rw [List.mem_flatMap]
    constructor
    · rintro ⟨v, hv, hw⟩
      obtain ⟨j, hj, rfl⟩ := List.mem_map.mp hw
      obtain ⟨h1, h2⟩ := mem_words.mp hv
      exact ⟨h1.snoc (List.mem_range.mp hj), by rw [List.length_append, h2]; rfl⟩
    · rintro ⟨h1, h2⟩
      obtain ⟨v0, x, rfl⟩ : ∃ v0 x, w = v0 ++ [x] := ⟨w.dropLast, w.getLast (fun q => by rw [q] at h2; cases h2), (List.dropLast_concat_getLast _).symm⟩
      refine ⟨v0, mem_words.mpr ⟨fun j hj => h1 j (List.mem_append_left _ hj), by rw [List.length_append] at h2; simpa using h2⟩, List.mem_map.mpr ⟨x, List.mem_range.mpr (h1 x (List.mem_append_right _ (List.mem_singleton.mpr rfl))), rfl⟩⟩
theorem words_srt : ∀ k : Nat, (words m k).Pairwise lexle
  | 0 => List.pairwise_singleton _ _
  | k + 1 => by
    show ((words m k).flatMap fun w => (List.range m).map fun j => w ++ [j]).Pairwise lexle
    have key : ∀ l : List (List Nat), (∀ w ∈ l, w.length = k) → l.Pairwise lexle → l.Nodup → (l.flatMap fun w => (List.range m).map fun j => w ++ [j]).Pairwise lexle := fun l => by
      induction l with
      | nil => exact fun _ _ _ => List.Pairwise.nil
      | cons a l ih =>
        intro hl hp hn
        obtain ⟨p1, p2⟩ := List.pairwise_cons.mp hp
        obtain ⟨n1, n2⟩ := List.nodup_cons.mp hn
        rw [List.flatMap_cons]
        refine List.pairwise_append.mpr ⟨?_, ih (fun w hw => hl w (List.mem_cons_of_mem _ hw)) p2 n2, fun x hx y hy => ?_⟩
        · refine List.pairwise_map.mpr (List.Pairwise.imp (fun {x y} h => ?_) List.pairwise_lt_range)
          exact (lexle.refl a).snoc rfl fun _ => Nat.le_of_lt h
        · obtain ⟨i, _, rfl⟩ := List.mem_map.mp hx
          obtain ⟨w, hw, hy⟩ := List.mem_flatMap.mp hy
          obtain ⟨j, _, rfl⟩ := List.mem_map.mp hy
          exact (p1 w hw).snoc (by rw [hl a List.mem_cons_self, hl w (List.mem_cons_of_mem _ hw)]) fun e => absurd (e ▸ hw) n1
    have nd : ∀ k, (words m k).Nodup := fun k => by
      induction k with
      | zero => exact List.nodup_cons.mpr ⟨by simp, List.nodup_nil⟩
      | succ k ih =>
        show ((words m k).flatMap fun w => (List.range m).map fun j => w ++ [j]).Nodup
        have key : ∀ l : List (List Nat), l.Nodup → (l.flatMap fun w => (List.range m).map fun j => w ++ [j]).Nodup := fun l => by
          induction l with
          | nil => exact fun _ => List.nodup_nil
          | cons a l ih =>
            intro hn
            obtain ⟨n1, n2⟩ := List.nodup_cons.mp hn
            rw [List.flatMap_cons]
            refine List.nodup_append.mpr ⟨nodup_mapOn (fun x _ y _ e => List.singleton_inj.mp (List.append_cancel_left e)) List.nodup_range, ih n2, fun x hx y hy e => ?_⟩
            obtain ⟨i, _, rfl⟩ := List.mem_map.mp hx
            obtain ⟨w, hw, hy⟩ := List.mem_flatMap.mp hy
            obtain ⟨j, _, rfl⟩ := List.mem_map.mp hy
            have := (List.append_inj' e rfl).1
            exact n1 (this ▸ hw)
        exact key _ ih
    exact key _ (fun w hw => (mem_words.mp hw).2) (words_srt k) (nd k)
theorem words_len : ∀ k : Nat, (words m k).length = m ^ k
  | 0 => rfl
  | k + 1 => by
    show ((words m k).flatMap fun w => (List.range m).map fun j => w ++ [j]).length = _
    rw [List.length_flatMap]
    have : ∀ l : List (List Nat), (l.map fun w => ((List.range m).map fun j => w ++ [j]).length).sum = l.length * m := fun l => by
      induction l with
      | nil => simp
      | cons a l ih =>
        rw [List.map_cons, List.sum_cons, ih, List.length_map, List.length_range, List.length_cons, Nat.add_mul, Nat.one_mul, Nat.add_comm]
    rw [this, words_len k, Nat.pow_succ]
/-- the first of the words of k letters, none of fewer letters parting -/
theorem rows_found {p : Int × Int} {k i : Nat} {w : List Nat} (hn : ¬ ∃ j, j < k ∧ Dk m tab good j p) (hw : (words m k)[i]? = some w) (hp : parts tab good p w) (hb : ∀ i', i' < i → ∀ v, (words m k)[i']? = some v → ¬ parts tab good p v) : IsL m tab good p (some w) := by
  obtain ⟨h1, h2⟩ := mem_words.mp (List.mem_of_getElem? hw)
  refine ⟨h1, hp, fun v hv pv => ?_⟩
  rcases Nat.lt_trichotomy v.length k with q | q | q
  · exact absurd ⟨v.length, q, v, hv, Nat.le_refl _, pv⟩ hn
  · obtain ⟨i', hi'⟩ := List.getElem?_of_mem (mem_words.mpr ⟨hv, q⟩)
    have hii : i ≤ i' := Nat.le_of_not_lt fun c => hb i' c v hi' pv
    refine .inr ⟨by omega, ?_⟩
    rcases Nat.lt_or_ge i i' with c | c
    · obtain ⟨g1, e1⟩ := List.getElem?_eq_some_iff.mp hw
      obtain ⟨g2, e2⟩ := List.getElem?_eq_some_iff.mp hi'
      rw [← e1, ← e2]
      exact List.pairwise_iff_getElem.mp (words_srt k) i i' g1 g2 c
    · have : i = i' := Nat.le_antisymm hii c
      subst this
      rw [hw] at hi'
      rw [Option.some.inj hi']
      exact lexle.refl _
  · exact .inl (by omega)
end
end KM
namespace KM
open PySem MD KP
/-! ### as pairs with their rows -/
def trip (ls : List Str) (tab : Tab) (p : Int × Int) (w : List Nat) : Int × Int × List Str := (runT tab p.1 w, runT tab p.2 w, rowOf ls w)
theorem ne_dec {a b : Prop} [Decidable a] [Decidable b] : (!decide (decide a = decide b)) = true ↔ ¬ (a ↔ b) := by
  by_cases ha : a <;> by_cases hb : b <;> simp [ha, hb]
theorem ne_decF {a b : Prop} [Decidable a] [Decidable b] : (!decide (decide a = decide b)) = false ↔ (a ↔ b) := by
  by_cases ha : a <;> by_cases hb : b <;> simp [ha, hb]
theorem row_get {m : Nat} {tab : Tab} (h : TOk m tab) {s : Int} (hs : InR tab s) {j : Nat} (hj : j < m) : (pyIx tab s)[j]? = some (stp tab s j) := by
  have hr : pyIx tab s ∈ tab := pyIx_mem hs.1 hs.2
  have hl := h.len _ hr
  obtain ⟨x, e, hx⟩ := pyIx_nat (xs := pyIx tab s) (i := (j : Int)) (by omega) (by omega)
  unfold stp
  rw [e]
  exact hx
theorem zip3_get {m : Nat} {tab : Tab} (h : TOk m tab) {ls : List Str} (hl : ls.length = m) {s t : Int} (hs : InR tab s) (ht : InR tab t) {i : Nat} {x : Str × Int × Int} (hx : (ls.zip ((pyIx tab s).zip (pyIx tab t)))[i]? = some x) :
    i < m ∧ x = (ls.getD i default, stp tab s i, stp tab t i) := by
  obtain ⟨h1, h2, h3⟩ := zip_get3 hx
  have hi : i < m := by rw [← hl]; exact (List.getElem?_eq_some_iff.mp h1).1
  rw [row_get h hs hi] at h2
  rw [row_get h ht hi] at h3
  refine ⟨hi, Prod.ext ?_ (Prod.ext (Option.some.inj h2).symm (Option.some.inj h3).symm)⟩
  rw [List.getD_eq_getElem?_getD, h1]
  rfl
theorem zip3_len {m : Nat} {tab : Tab} (h : TOk m tab) {ls : List Str} (hl : ls.length = m) {s t : Int} (hs : InR tab s) (ht : InR tab t) : (ls.zip ((pyIx tab s).zip (pyIx tab t))).length = m := by
  rw [List.length_zip, List.length_zip, h.len _ (pyIx_mem hs.1 hs.2), h.len _ (pyIx_mem ht.1 ht.2), hl]
  omega
section
variable {m : Nat} {tab : Tab} {good : List Int} {p : Int × Int}
theorem all_len (n : Nat) : ((rng 0 (n : Int)).flatMap fun x => (rng 0 (n : Int)).map fun y => (x, y)).length = n * n := by
  rw [List.length_flatMap]
  have hr : (rng 0 (n : Int)).length = n := by rw [rng_length]; omega
  have : ∀ l : List Int, (l.map fun x => ((rng 0 (n : Int)).map fun y => (x, y)).length).sum = l.length * n := fun l => by
    induction l with
    | nil => simp
    | cons a l ih =>
      rw [List.map_cons, List.sum_cons, ih, List.length_map, hr, List.length_cons, Nat.add_mul, Nat.one_mul, Nat.add_comm]
  rw [this, hr]
theorem rng_in {n : Nat} {g : Int} (h0 : 0 ≤ g) (h1 : g < n) : g ∈ rng 0 (n : Int) := List.mem_map.mpr ⟨g.toNat, List.mem_range.mpr (by omega), by omega⟩
theorem BF.few (hT : TOk m tab) (hp : InP tab p) {at_ jj : Nat} {ws : List (List Nat)} (h : BF m tab good p at_ jj ws) : ws.length ≤ tab.length * tab.length := by
  have := nodup_sub_len (ys := (rng 0 (tab.length : Int)).flatMap fun x => (rng 0 (tab.length : Int)).map fun y => (x, y)) h.nd fun q hq => by
    obtain ⟨w, hw, rfl⟩ := List.mem_map.mp hq
    have := run2_in hT hp (h.wd w hw)
    exact List.mem_flatMap.mpr ⟨_, rng_in this.1.1 this.1.2, List.mem_map.mpr ⟨_, rng_in this.2.1 this.2.2, rfl⟩⟩
  rw [all_len, List.length_map] at this
  exact this
theorem BF.short {at_ jj : Nat} {ws : List (List Nat)} (h : BF m tab good p at_ jj ws) : ∀ (i : Nat) {w : List Nat}, ws[i]? = some w → w.length ≤ i := fun i => by
  induction i using Nat.strongRecOn with
  | _ i ih =>
    intro w hw
    rcases h.from_ w (List.mem_of_getElem? hw) with e | ⟨k, v, x, hv, e, _⟩
    · rw [e]; exact Nat.zero_le _
    · have hl : w.length = v.length + 1 := by rw [e, List.length_append]; rfl
      have hk : k < i := Nat.lt_of_not_le fun q => by
        rcases h.le hw hv q with c | ⟨c, _⟩ <;> omega
      have := ih k hk hv
      omega
/-- what parts is told by the table of distances -/
theorem FarT.parts_iff (hT : TOk m tab) {t : Nat} {far : List ((Int × Int) × Int)} (h : FarT m tab good t far) (hp : InP tab p) {w : List Nat} (hw : Wd m w) : parts tab good p w ↔ dget far (run2 tab p w) = some 0 := by
  have e : parts tab good p w ↔ Dist m tab good (run2 tab p w) 0 := by
    have a := parts_app (tab := tab) (good := good) (p := p) (u := w) (w := [])
    rw [List.append_nil] at a
    rw [a, ← Dk.zero]
    exact ⟨fun q => ⟨q, fun j hj => absurd hj (Nat.not_lt_zero j)⟩, fun q => q.1⟩
  rw [e, h]
  constructor
  · exact fun q => ⟨run2_in hT hp hw, 0, Nat.zero_le _, rfl, q⟩
  · rintro ⟨_, k, _, ek, q⟩
    have : k = 0 := by omega
    rw [this] at q
    exact q
theorem FarT.best (hT : TOk m tab) {good' : List Int} {t : Nat} {far : List ((Int × Int) × Int)} (h : FarT m tab good t far) (h' : FarT m tab good' t far) (hp : InP tab p) {o : Option (List Nat)} (ho : IsL m tab good p o) : IsL m tab good' p o := by
  have q : ∀ w, Wd m w → (parts tab good p w ↔ parts tab good' p w) := fun w hw => (h.parts_iff hT hp hw).trans (h'.parts_iff hT hp hw).symm
  cases o with
  | none => exact fun w hw hq => ho w hw ((q w hw).mpr hq)
  | some u => exact ⟨ho.1, (q u ho.1).mp ho.2.1, fun v hv hq => ho.2.2 v hv ((q v hv).mpr hq)⟩
theorem FarT.getD {t : Nat} {far : List ((Int × Int) × Int)} (h : FarT m tab good t far) {q : Int × Int} (hq : InP tab q) {k : Nat} (hk : k ≤ t) : (dget far q).getD (-1) = (k : Int) ↔ Dist m tab good q k := by
  constructor
  · intro e
    cases c : dget far q with
    | none =>
      rw [c] at e
      have e : (-1 : Int) = (k : Int) := e
      omega
    | some d =>
      rw [c] at e
      have e : d = (k : Int) := e
      obtain ⟨_, k', _, e2, hd⟩ := (h q d).mp c
      have : k' = k := by omega
      rw [← this]
      exact hd
  · intro hd
    rw [h.dist hq hk hd]
    rfl
end
end KM
namespace MD
open PySem PySem.Spec PyProof.Rows L2
section
variable {X : Cx} {fl : Hp} {B : Hb X.K} {Y : Ec X.K} {ρ : List (Slot X.K)} {cs : List (Cell X.K)} {A R κ α β γ δ μ ν : Type} [DecidableEq κ] {pos : Pos} {rest : List Stmt} {D : Ends} {e : Expr}
/-! ### d.get(k, x) -/
theorem pk_getDT {TK : Ty X.K κ} {kt : KTt TK} {T : Ty X.K α} {kvs : List (κ × α)} {x : κ} {y : α} {P1 P2 P3 : Prop} {d i f : Expr} {apos cpos : Pos} (hu : X.A.units + 1 < cLine) (hd : PV X d ρ cs (rDt kt T kvs) P1) (hi : PK X i ρ cs TK x P2) (hf : PK X f ρ cs T y P3)
    (m : M2 X d "get" apos i f cpos := by exact ⟨rfl, rfl, rfl, rfl⟩) : PK X (.Call (.Attribute d "get" apos) [i, f] [] cpos) ρ cs T ((dget kvs x).getD y) (P1 ∧ P2 ∧ P3) := fun F σ H ok p Q k => by
  refine we (pe_dget2 hu pe_w pe_w pe_w m) ?_
  refine hd F σ H ok p.1 _ fun v F1 H1 g1 ⟨a, es, e, ha, r, z⟩ => ?_
  refine ⟨a, e, .inr ⟨es, .inl ha⟩, ?_⟩
  refine hi F1 σ H1 (ok.grow g1) p.2.1 _ fun w F2 H2 g2 r2 => ?_
  refine hf F2 σ H2 ((ok.grow g1).grow g2) p.2.2 _ fun u F3 H3 g3 r3 => ?_
  obtain ⟨b, eb, hb⟩ := kt.val _ _ _ r2
  subst eb
  have g := g2.trans g3
  refine ⟨_, .inr ⟨es, kt.kf x, b, .inl (g.hh _ _ ha), rfl, g3.hh _ _ (g2.fh _ _ hb), rfl⟩, k _ F3 H3 (g1.trans g) ?_⟩
  rcases reT_val (r.mono g.ff) x with ⟨h1, h2⟩ | ⟨u', y', h1, h2, q⟩
  · rw [h1, h2]; exact r3
  · rw [h1, h2]; exact q
end
/-! ### dict(pairs), d.update(pairs), {k: v} with tuple keys -/
def mergeT (kvs more : List (List Key × V)) : List (List Key × V) := more.foldl (fun acc kv => putK acc kv.1 kv.2) kvs
theorem kt_merge {H : Hp} : ∀ {more : List (List Key × V)} {rs : List (List Key × Addr × Value)} {kvs : List (List Key × V)} {xs : List (List Key × Addr × Value)}, L2.KT H more rs → L2.KT H kvs xs → L2.KT H (mergeT kvs more) (storedAllH xs rs)
  | [], _, _, _, r, q => by cases r; exact q
  | p :: ps, _, kvs, xs, r, q => by
    cases r with
    | @cons _ a _ as h t =>
      obtain ⟨h1, h2, h3⟩ := h
      have e : L2.KT H (putK kvs p.1 p.2) (storedH xs a.1 a.2.1 a.2.2) := by
        have := q.put p.1 h2 h3
        rw [← h1]
        exact this
      exact (kt_merge (more := ps) (rs := as) (kvs := putK kvs p.1 p.2) (xs := storedH xs a.1 a.2.1 a.2.2) t e : L2.KT H (mergeT (putK kvs p.1 p.2) ps) (storedAllH (storedH xs a.1 a.2.1 a.2.2) as))
theorem length_mergeT : ∀ (more kvs : List (List Key × V)), (mergeT kvs more).length ≤ kvs.length + more.length
  | [], kvs => by show kvs.length ≤ kvs.length + 0; omega
  | p :: r, kvs => by
    have h1 := length_mergeT r (putK kvs p.1 p.2)
    have h2 := length_putK kvs p.1 p.2
    show (mergeT (putK kvs p.1 p.2) r).length ≤ _
    rw [List.length_cons]; omega
/-- the pairs of a list, their keys tuples -/
abbrev PrT (K : PySem.W.Frag) (H : Hp) : List Addr → List (List Key × V) → Prop := Paired fun p kv => ∃ q, SqT K H p [.ref q, kv.2] ∧ H q = some (.tup (kv.1.map kV))
section
variable {X : Cx} {pins : List (Addr × Obj)} {σ : L2.St} {H : Hp} {s : Shared}
theorem pairsT_of (I : Inv X pins σ H s) : ∀ {ps : List Addr} {kvs : List (List Key × V)}, PrT X.K H ps kvs →
    ∃ prs : List (List Key × Addr × Value), L2.KT H kvs prs ∧ prs.length = ps.length ∧ ∀ (j : Nat) (q : List Key × Addr × Value), prs[j]? = some q → ∃ b : Addr, ps[j]? = some b ∧ IsTup s.heap b #[.ref q.2.1, q.2.2]
  | _, _, .nil => ⟨[], .nil, rfl, fun j q e => by simp at e⟩
  | _, _, .cons (a := p) (b := kv) h t => by
    obtain ⟨prs, r, hl, hp⟩ := pairsT_of I t
    obtain ⟨b, h, hb⟩ := h
    obtain ⟨its, rv, ht, _⟩ := I.tuple h
    obtain ⟨u, y, ei, ru, ry⟩ := vals2 rv
    subst ei
    cases ru
    refine ⟨(kv.1, b, y) :: prs, .cons ⟨rfl, hb, ry⟩ r, by rw [List.length_cons, List.length_cons, hl], fun j q e => ?_⟩
    cases j with
    | zero =>
      have e' : (kv.1, b, y) = q := Option.some.inj e
      subst e'
      exact ⟨p, rfl, ht⟩
    | succ j =>
      obtain ⟨c, e1, e2⟩ := hp j q (by simpa using e)
      exact ⟨c, by simpa using e1, e2⟩
theorem kt_stay {h h' : Heap} (ok : HOk X.prog X.w H h) {d : Addr} (hk : ∀ b o, b ≠ d → h.get? b = some o → h'.get? b = some o) (hd : ∀ b ys, H b = some (.tup ys) → b ≠ d) : ∀ {kvs : List (List Key × V)} {xs : List (List Key × Addr × Value)}, L2.KT H kvs xs → ∀ x ∈ xs, (tupleKind (mixKind X.prog X.w)).is h' x.1 x.2.1
  | _, _, .nil => fun x hx => nomatch hx
  | _, _, .cons (a := p) (b := q) h0 t => fun x hx => by
    rcases List.mem_cons.mp hx with e | hx
    · subst e
      obtain ⟨o, its, n, h1, h2, h3, h4⟩ := key_of (P := X.prog) (w := X.w) ok (h0.1 ▸ h0.2.1)
      exact ⟨o, its, n, hk _ o (hd _ _ h0.2.1) h1, h2, h3, h4⟩
    · exact kt_stay ok hk hd t x hx
/-- what the argument owes -/
theorem pairT_arg (I : Inv X pins σ H s) {a : Addr} {ps : List Addr} {kvs : List (List Key × V)} (hq : SqL X.K H a (ps.map V.ref)) (hp : PrT X.K H ps kvs) :
    ∃ (items : Array Value) (Ts : Nat → Addr) (psV : List (Value × Value)) (prs : List (List Key × Addr × Value)), L2.KT H kvs prs ∧ prs.length = ps.length ∧ psV.length = prs.length ∧ ps.length ≤ sizeLine ∧ PlainSeq "list" s.heap a items ∧ PairItems s.heap items Ts psV ∧
      PairsHaveH (tupleKind (mixKind X.prog X.w)) psV.length (PairRel psV) prs ∧ (∀ b ∈ a :: (List.range psV.length).map Ts, ∃ its : Array Value, s.heap.IsTuple b its ∨ s.heap.IsList b its) := by
  obtain ⟨its, rv, pl, hz⟩ := I.list hq
  have ei := refs_at rv
  subst ei
  rw [List.length_map] at hz
  obtain ⟨prs, rel, hl, hpr⟩ := pairsT_of I hp
  have g : ∀ j q, prs[j]? = some q → (ps.map Value.ref).toArray[j]? = some (.ref (ps.getD j 0)) ∧ PairAt s.heap (ps.getD j 0) (.ref q.2.1) q.2.2 := fun j q e => by
    obtain ⟨b, e1, e2⟩ := hpr j q e
    have e3 : ps.getD j 0 = b := by rw [List.getD_eq_getElem?_getD, e1]; rfl
    rw [e3]
    exact ⟨by simp [e1], .inl e2⟩
  refine ⟨(ps.map Value.ref).toArray, fun j => ps.getD j 0, prs.map fun q => (.ref q.2.1, q.2.2), prs, rel, hl, by rw [List.length_map], hz, ?_, ⟨by simp [hl], fun j k v e => ?_⟩, ⟨by rw [List.length_map], fun i key v e => ?_⟩, fun b hb => ?_⟩
  · obtain ⟨o, n, ho, hc, hd, hdat⟩ := pl
    exact ⟨o, n, ho, hc, hd, hdat⟩
  · rw [List.getElem?_map] at e
    cases q : prs[j]? with
    | none => rw [q] at e; cases e
    | some x =>
      rw [q] at e
      have e := Option.some.inj e
      obtain ⟨g1, g2⟩ := g j x q
      cases e
      exact ⟨g1, g2⟩
  · have e : (prs.map fun q => (Value.ref q.2.1, q.2.2))[i]? = some (key, v) := e
    rw [List.getElem?_map] at e
    cases q : prs[i]? with
    | none => rw [q] at e; cases e
    | some x =>
      rw [q] at e
      have e := Option.some.inj e
      cases e
      exact ⟨x.1, x.2.1, rfl, rfl⟩
  · rcases List.mem_cons.mp hb with e | hb
    · rw [e]; exact ⟨_, .inr pl.isList⟩
    · obtain ⟨j, hj, e⟩ := List.mem_map.mp hb
      rw [List.length_map] at hj
      have hj := List.mem_range.mp hj
      obtain ⟨_, g2⟩ := g j _ (List.getElem?_eq_getElem hj)
      rw [e] at g2
      exact ⟨_, g2⟩
theorem call_dictPT (hcalm : X.calm = true) (hu : X.A.units + 2 < cLine) : CallR X (.type "dict") (fun xs H Q => ∃ (a : Addr) (ps : List Addr) (kvs : List (List Key × V)), xs = [.ref a] ∧ SqL X.K H a (ps.map V.ref) ∧ PrT X.K H ps kvs ∧
    ∀ p, H p = none → Q (.ref p) (upd H p (.dT (mergeT [] kvs)))) := by
  intro pins s σ H xs us Q I r q
  obtain ⟨a, ps, kvs, ex, hq, hp, q⟩ := q
  subst ex
  obtain ⟨u, eu, rx⟩ := vals1 r
  subst eu
  cases rx
  obtain ⟨items, Ts, psV, prs, rel, hl, hlv, hz, hps, hpi, hph, hth⟩ := pairT_arg I hq hp
  have nt : ∀ b ys, H b = some (.tup ys) → b ≠ s.heap.objs.size := fun b ys e z => by
    have := I.hok.fresh (Nat.le_refl s.heap.objs.size)
    rw [← z, e] at this
    cases this
  refine call_dict_pairsH (ps := prs) (PairArg.list a items Ts psV) (I.ok.hd hcalm) (show X.A.in1.in1.units < cLine from hu) ⟨hps, hpi⟩ hph (fun h' hk => kt_stay I.hok (fun b o hb e => hk b o hb (fun z => nomatch z) e) nt rel) (by rw [hlv, hl]; exact hz) fun h' tk hd' k => ?_
  have hm : (s.heap.objs.size == sysModules) = false := beq_eq_false_iff_ne.mpr (Nat.ne_of_gt I.big)
  have hlen : (mergeT [] kvs).length ≤ sizeLine := by
    refine Nat.le_trans (length_mergeT kvs []) ?_
    rw [List.length_nil, Nat.zero_add, Paired.length rel, hl]
    exact hz
  obtain ⟨o, es, ep, h1, h2, h3, h4, _, h5⟩ := hd'
  exact ⟨.ref s.heap.objs.size, upd H s.heap.objs.size (.dT (mergeT [] kvs)), I.laid (t' := tk) (fun b u e => k b u (fun z => nomatch z) e) (Nat.le_refl _) (show ObjOk X.prog X.w _ _ _ (.dT (mergeT [] kvs)) from ⟨hlen, hm, _, (kt_merge rel .nil).keeps (fun c ys ec => (by rw [upd_ne (nt c ys ec)]; exact ec)), o, es, ep, h1, h2, h3, h4, h5⟩), rfl, q _ (I.hok.fresh (Nat.le_refl _))⟩
theorem d_updateT {a b : Addr} {ps : List Addr} {kvs more : List (List Key × V)} {Q : Value → Shared → Prop} {A : Around} {E : Value → Shared → Prop} (hh : A.handled = none) (hu : A.units + 1 < cLine) (I : Inv X pins σ H s) (e : H a = some (.dT kvs)) (hq : SqL X.K H b (ps.map V.ref)) (hp : PrT X.K H ps more) (hz : kvs.length + more.length ≤ sizeLine)
    (h : ∀ s', Inv X pins σ (upd H a (.dT (mergeT kvs more))) s' → Q .none s') : wpAny (model X.prog X.w) A (call (.builtin "dict.update") [.ref a, .ref b]) Q E s := by
  obtain ⟨z, hd, xs, rel0, dd⟩ := dt_of I.hok e
  obtain ⟨items, Ts, psV, prs, rel, hl, hlv, hz2, hps, hpi, hph, hth⟩ := pairT_arg I hq hp
  have nt : ∀ b ys, H b = some (.tup ys) → b ≠ a := fun b ys e1 z => by rw [z, e] at e1; cases e1
  have nf : a ∉ b :: (List.range psV.length).map Ts := fun hm => by
    obtain ⟨its, q⟩ := hth a hm
    obtain ⟨oa, _, _, ha, hc, _⟩ := id dd
    rcases q with ⟨o, ho, hc2, _⟩ | ⟨o, ho, hc2, _⟩
    · rw [ha] at ho; cases ho
      exact absurd (Value.type.inj (hc.1.symm.trans hc2)) (by decide)
    · rw [ha] at ho; cases ho
      exact absurd (Value.type.inj (hc.1.symm.trans hc2)) (by decide)
  refine call_update_pairsH (ps := prs) (PairArg.list b items Ts psV) hh (show A.in1.units < cLine from hu) ⟨hps, hpi⟩ nf hph (fun h' hk x hx => ?_) dd (by rw [hlv, ← Paired.length rel0, ← Paired.length rel]; exact hz) fun h' tk hd' k => ?_
  · rcases List.mem_append.mp hx with hx | hx
    · exact kt_stay I.hok (fun b o hb e => hk b o hb (fun z => nomatch z) e) nt rel0 x hx
    · exact kt_stay I.hok (fun b o hb e => hk b o hb (fun z => nomatch z) e) nt rel x hx
  · obtain ⟨o, es, ep, h1, h2, h3, h4, _, h5⟩ := hd'
    have I2 : Inv X pins σ (upd H a (.dT (mergeT kvs more))) { s with heap := h', toks := tk } := I.write (x := a) (e := a) (by rw [e]; exact True.intro) (.inl rfl) (fun b u hb q => k b u hb (fun z => nomatch z) q) ⟨o, h1⟩
      ⟨Nat.le_trans (length_mergeT more kvs) hz, hd, _, (kt_merge rel rel0).keeps (fun c ys ec => (by rw [upd_ne (nt c ys ec)]; exact ec)), o, es, ep, h1, h2, h3, h4, h5⟩
    exact h _ I2
end
section
variable {X : Cx} {fl : Hp} {B : Hb X.K} {Y : Ec X.K} {ρ : List (Slot X.K)} {cs : List (Cell X.K)} {A R κ α β γ δ μ ν : Type} [DecidableEq κ] {pos : Pos} {rest : List Stmt} {D : Ends} {e : Expr}
theorem reT_merge {TK : Ty X.K κ} {kt : KTt TK} {T : Ty X.K α} {F : Hp} : ∀ {more : List (List Key × V)} {rows : List (κ × α)} {es : List (List Key × V)} {kvs : List (κ × α)}, ReT kt T F more rows → ReT kt T F es kvs → ReT kt T F (mergeT es more) (rows.foldl (fun acc p => dput acc p.1 p.2) kvs)
  | _, _, _, _, .nil, h => h
  | (k, v) :: more, (x, y) :: rows, es, kvs, .cons r t, h => by
    obtain ⟨e, h2⟩ := r
    have e : k = kt.kf x := e
    subst e
    have q := reT_merge (more := more) (rows := rows) t (reT_put h (x := x) h2)
    exact q
theorem pairs_atT {TK : Ty X.K κ} {kt : KTt TK} {T : Ty X.K α} {F : Hp} : ∀ {vs : List V} {rows : List (κ × α)}, Rl (tT (tsC TK (ts1 T))) F vs rows →
    ∃ (ps : List Addr) (more : List (List Key × V)), vs = ps.map V.ref ∧ Paired (fun p (kv : List Key × V) => ∃ q, F p = some (.tup [.ref q, kv.2]) ∧ F q = some (.tup (kv.1.map kV))) ps more ∧ ReT kt T F more rows
  | _, _, .nil => ⟨[], [], rfl, .nil, .nil⟩
  | _ :: _, x :: _, .cons r t => by
    obtain ⟨ps, more, e1, e2, e3⟩ := pairs_atT t
    obtain ⟨a, us, e, h, v, r', e4, h1, v2, e5, h2⟩ := r
    obtain ⟨b, ev, hb⟩ := kt.val _ _ _ h1
    subst e4; subst e5; subst e; subst ev
    exact ⟨a :: ps, (kt.kf x.1, v2) :: more, by rw [e1]; rfl, .cons ⟨b, h, hb⟩ e2, .cons ⟨rfl, h2⟩ e3⟩
theorem prT_of {F H : Hp} (s : Same F H) {ps : List Addr} {more : List (List Key × V)} (h : Paired (fun p (kv : List Key × V) => ∃ q, F p = some (.tup [.ref q, kv.2]) ∧ F q = some (.tup (kv.1.map kV))) ps more) : PrT X.K H ps more :=
  paired_mono (fun q kv ⟨b, h1, h2⟩ => ⟨b, SqT.of (s _ _ h1), s _ _ h2⟩) h
theorem mv_back {cs' : List (Cell X.K)} {F H F' H' : Hp} (m : Mv cs F H cs' F' H') {b : Addr} (h : H' b = none) : H b = none := by
  cases q : H b with
  | none => rfl
  | some o =>
    by_cases hc : ∃ c ∈ cs, c.a = b
    · obtain ⟨c, hc, e⟩ := hc
      exact absurd (by rw [e]; exact h) (m.st c hc)
    · have := m.kp b o q fun c hc' e => hc ⟨c, hc', e⟩
      rw [h] at this
      cases this
/-- dict(pairs) with tuple keys -/
theorem de_pairs {TK : Ty X.K κ} (kt : KTt TK) {T : Ty X.K α} {dn : Str} {p1 p2 : Pos} {vl : μ → List (κ × α)} {cs' : μ → List (Cell X.K)} {M : (μ → Prop) → Prop} {k : Nat} (hr : Room k X.A) (hc : X.calm = true) (hm : X.mg dn = none) (hv : bootBuiltins dn = some (.type "dict"))
    (h : EK X Y e ρ cs (tL (tT (tsC TK (ts1 T)))) vl cs' M) (hg : Gl X dn := by rfl) (hn : dn ≠ "__name__" := by decide) (hdb : (dn == ("__debug__" : Str)) = false := by decide)
    (he : starEach (e :: []) X.env = (false, eval e X.env) :: starEach [] X.env := by rfl) (hpl : (backTo p2 (starEach [] X.env)).any (·.1) = false := by rfl) :
    DE X Y (.Call (.Name dn p1) [e] [] p2) ρ cs kt T (fun y => dOf (vl y)) cs' M := fun F σ H ok xh φ p Q kk => by
  refine we (pe_callTy (call_dictPT hc (by have := hr.un; omega)) hg hm hv (pa_cons pe_w pa_nil he) hn hdb he hpl) ?_
  refine h F σ H ok xh _ p _ fun y v F1 H1 m ⟨a, vs, ev, hF, r, z⟩ q => ?_
  subst ev
  obtain ⟨ps, more, e1, e2, e3⟩ := pairs_atT (kt := kt) r
  subst e1
  refine ⟨a, ps, more, rfl, SqL.of (m.fh _ _ hF), prT_of m.fh e2, fun b hb => ?_⟩
  have hr2 := reT_merge (kt := kt) (T := T) e3 (.nil : ReT kt T F1 [] [])
  have hz : (mergeT [] more).length ≤ sizeLine := by
    refine Nat.le_trans (length_mergeT more []) ?_
    rw [List.length_nil, Nat.zero_add, e3.length, ← Rl.length r]
    exact z
  have ok1 := ok.mv m
  have hn : ∀ c ∈ cs' y, c.a ≠ b := fun c hc z => by
    obtain ⟨_, o, e1, _⟩ := ok1.cell c hc
    rw [z, hb] at e1
    cases e1
  have hF1 : F1 b = none := ok1.same.free hb
  exact kk y b _ F1 _ (mv_lk m (mv_back m hb) hF1 hn) (mv_back m hb) hF1 upd_same hn hr2 hz q
/-- d.update(pairs) with tuple keys -/
def tDUpdT (td ty : TE) : TE := fun σ H Q => td σ H fun x H1 => ∃ a, x = .ref a ∧ IsD H1 a ∧ ty σ H1 fun y H2 => ∃ b ps kvs more, y = .ref b ∧ H2 a = some (.dT kvs) ∧ SqL X.K H2 b (ps.map V.ref) ∧ PrT X.K H2 ps more ∧ kvs.length + more.length ≤ sizeLine ∧ Q .non (upd H2 a (.dT (mergeT kvs more)))
theorem pe_dupdT {o : Expr} {apos cpos : Pos} {td ty : TE} {k : Nat} (hr : Room k X.A) (ho : PE X o td) (he : PE X e ty) (m : M1 X o "update" apos e cpos) : PE X (.Call (.Attribute o "update" apos) [e] [] cpos) (tDUpdT (X := X) td ty) := by
  refine ⟨fun pins s σ H Q I h => ?_⟩
  refine wpAny_Call_method m.base m.few m.line PySem.F.plainAttrs_dict PySem.F.slot_dict_update PySem.F.type_dict_update (thn (ho.run pins s σ H _ I h) fun u s1 ⟨x, H1, I1, rx, a, ex, d, q1⟩ => ?_)
  subst ex
  obtain rfl : u = Value.ref a := rx
  obtain ⟨t1, t2, _⟩ := isD_at I1 d
  refine ⟨t1, t2, ?_⟩
  rw [m.trees]
  refine Calls.callWith_builtin rfl (Calls.evalArgs_plain (Calls.spliced_cons (thn (he.run pins s1 σ H1 _ I1 q1) fun iv s2 ⟨y, H2, I2, ry, b, ps, kvs, more, ey, e1, e2, e3, hz, q2⟩ => Calls.spliced_nil ?_)))
  subst ey
  obtain rfl : iv = Value.ref b := ry
  exact d_updateT hr.hd (by have := hr.un; omega) I2 e1 e2 e3 hz fun s' I' => ⟨.non, _, I', rfl, q2⟩
theorem ek_dupdT {o : Expr} {apos cpos : Pos} {TK : Ty X.K κ} {kt : KTt TK} {T : Ty X.K α} {l : Addr} {kvs : List (κ × α)} {kw : μ → List (κ × α)} {vl : μ → List (κ × α)} {cs' : μ → List (Cell X.K)} {M : (μ → Prop) → Prop} {P1 : Prop} {k : Nat} (j : Nat) (hr : Room k X.A) (ho : PK X o ρ cs tR l P1)
    (he : EK X Y e ρ cs (tL (tT (tsC TK (ts1 T)))) vl cs' M) (hc0 : cs[j]? = some ⟨l, cDt kt T kvs⟩) (hc : ∀ y, (cs' y)[j]? = some ⟨l, cDt kt T (kw y)⟩) (m : M1 X o "update" apos e cpos := by exact ⟨rfl, rfl, rfl, rfl⟩) :
    EK X Y (.Call (.Attribute o "update" apos) [e] [] cpos) ρ cs tN (fun _ : μ × List (κ × α) => ()) (fun z => (cs' z.1).set j ⟨l, cDt kt T z.2⟩) (fun φ => P1 ∧ M fun y => (kw y).length + (vl y).length ≤ sizeLine ∧ ∀ z, z = dMore (kw y) (vl y) → φ (y, z)) := fun F σ H ok xh φ p Q k => by
  refine we (pe_dupdT hr pe_w pe_w m) ?_
  refine ho F σ H ok.w p.1 _ fun v1 F1 H1 g1 r1 => ?_
  have r1 : v1 = .ref l := r1
  subst r1
  have m1 := ok.grow g1
  have ok1 := ok.mv m1
  obtain ⟨_, ob1, hob1, es1, e1, _, _⟩ := ok1.cell _ (List.mem_of_getElem? hc0)
  subst e1
  refine ⟨l, rfl, .inr ⟨es1, .inl hob1⟩, ?_⟩
  refine he F1 σ H1 ok1 (xh.mv m1) _ p.2 _ fun y v2 F2 H2 m2 ⟨b, vs, ev, hb, r2, z2⟩ q => ?_
  subst ev
  obtain ⟨ps, more, f1, f2, f3⟩ := pairs_atT (kt := kt) r2
  subst f1
  have ok2 := ok1.mv m2
  obtain ⟨hn, o1, ho1, es, e1, r, z⟩ := ok2.cell _ (List.mem_of_getElem? (hc y))
  subst e1
  have hz : es.length + more.length ≤ sizeLine := by rw [r.length, f3.length]; exact q.1
  refine ⟨b, ps, es, more, rfl, ho1, SqL.of (m2.fh _ _ hb), prT_of m2.fh f2, hz, ?_⟩
  exact k _ _ F2 _ ((m1.trans m2).trans (mv_upd (k := cDt kt T (dMore (kw y) (vl y))) ok2 (hc y) ⟨mergeT es more, rfl, reT_merge f3 r, Nat.le_trans (length_mergeT more es) hz⟩)) rfl (q.2 _ rfl)
/-- {k: v}, k a tuple -/
def tDispT1 (tk tv : TE) : TE := fun σ H Q => ∀ p, H p = none → tk σ (upd H p (.dT [])) fun x H1 => tv σ H1 fun y H2 => H2 p = some (.dT []) ∧ ∃ (b : Addr) (k : List Key), x = .ref b ∧ H2 b = some (.tup (k.map kV)) ∧ Q (.ref p) (upd H2 p (.dT [(k, y)]))
theorem pe_dispT1 {ke ve : Expr} {tk tv : TE} {k : Nat} (hr : Room k X.A) (hk : PE X ke tk) (hv : PE X ve tv) : PE X (.Dict [some ke] [ve] pos) (tDispT1 tk tv) := by
  refine ⟨fun pins s σ H Q I q => ?_⟩
  have hn := I.hok.fresh (Nat.le_refl s.heap.objs.size)
  have I1 := I.laid (a := s.heap.objs.size) (o := .dT []) (h' := s.heap.push { cls := .type "dict", data := .dict #[] }) (t' := s.toks) (fun _ _ q => Heap.get?_push_of_some _ q) (Nat.le_refl _) (dt_empty s.heap I.big)
  rw [arm_eval_Dict, zip_pairTrees [some ke] [ve] X.env pos rfl rfl, dictDisplay_pairs (pairTrees [some ke] [ve] X.env pos) (fun z => by cases z) (Nat.le_of_ble_eq_true rfl)]
  refine wpAny_bind (wpAny_standAt (wpAny_bind (wpAny_subDictH (knd := tupleKind (mixKind X.prog X.w)) (Q := fun d s' => wpAny (model X.prog X.w) X.A (pure (Value.ref d)) _ X.xe s') (show X.A.units < cLine by have := hr.un; omega) (Nat.le_of_ble_eq_true rfl) ?_)))
  refine pairTrees_cons_walk (thn (hk.run pins _ σ _ _ I1 (q _ hn)) fun u s1 ⟨x, H1, I2, rx, q1⟩ => thn (hv.run pins s1 σ H1 _ I2 q1) fun u2 s2 ⟨y, H2, I3, ry, e, b, kk, ex, hb, q2⟩ => pairTrees_nil_walk ?_)
  subst ex
  obtain rfl : u = Value.ref b := rx
  obtain ⟨z, hd, xs, r0, dd⟩ := dt_of I3.hok e
  cases r0
  refine ⟨[(kk, b, u2)], ⟨rfl, rfl, key_of I3.hok hb, True.intro⟩, dd, fun h' tk dd' hs => wpAny_pure ⟨.ref s.heap.objs.size, _, ?_, rfl, q2⟩⟩
  obtain ⟨o, es, ep, h1, h2, h3, h4, _, h5⟩ := dd'
  have nb : b ≠ s.heap.objs.size := fun z => by rw [z, e] at hb; cases hb
  have hKT : L2.KT (upd H2 s.heap.objs.size (.dT [(kk, y)])) [(kk, y)] (storedAllH [] [(kk, b, u2)]) := .cons ⟨rfl, by rw [upd_ne nb]; exact hb, ry⟩ .nil
  exact I3.write (t' := tk) (x := s.heap.objs.size) (e := s.heap.objs.size) (by rw [e]; exact True.intro) (.inl rfl) (fun b u hb q => (hs.2 b hb).trans q) ⟨o, h1⟩ ⟨by rw [sizeLine_eq]; show 1 ≤ _; omega, hd, _, hKT, o, es, ep, h1, h2, h3, h4, h5⟩
theorem sk_setDispT {TK : Ty X.K κ} (kt : KTt TK) {T : Ty X.K α} {ke ve : Expr} {x : κ} {y : α} {P1 P2 : Prop} {i : Nat} {nm : Str} {pos' p2 : Pos} {φ : Addr → List (κ × α) → Prop} {k0 : Nat} (hN : X.N.Nodup) (hr : Room k0 X.A) (hk : PK X ke ρ cs TK x P1) (hv : PK X ve ρ cs T y P2)
    (k : ∀ a z, SK X B Y fl rest (ρ.set i (.val tR a)) (cs ++ [⟨a, cDt kt T z⟩]) D (φ a z)) (hi : X.N[i]? = some nm := by rfl) (hx : Loc X.env.scope nm := by first | exact Or.inl rfl | exact Or.inr rfl)
    (hs : swapsWith (.Dict [some ke] [ve] p2) (some (.Name nm pos')) pos.line X.env = pure false := by rfl) (hf : X.fn nm = true ∨ X.env.scope.names.lookup nm = some .local := by first | exact .inl rfl | exact .inr rfl) :
    SK X B Y fl (.Assign [.Name nm pos'] (.Dict [some ke] [ve] p2) pos :: rest) ρ cs D ((P1 ∧ P2) ∧ ∀ a z, z = [(x, y)] → φ a z) := fun F σ H ok p W tk hx' => by
  refine wb (pss_cons (ps_set hN hi hx (pe_dispT1 hr pe_w pe_w) hs hf) pss_w) ?_
  intro a ha
  have ok0 := ok.c
  obtain ⟨ok1, hF⟩ := okw_put (o := .dT []) ok0.w ha
  refine hk F σ _ ok1 p.1.1 _ fun v1 F1 H1 g1 r1 => ?_
  refine hv F1 σ H1 (ok1.grow g1) p.1.2 _ fun v2 F2 H2 g2 r2 => ?_
  have g := g1.trans g2
  have h2 : H2 a = some (.dT []) := g.hh _ _ upd_same
  have hf2 : F2 a = none := by
    cases q : F2 a with
    | none => rfl
    | some w =>
      have := g.fr a hF (by rw [q]; simp)
      rw [upd_same] at this
      cases this
  obtain ⟨b, eb, hb⟩ := kt.val _ _ _ (TK.mono g2.ff r1)
  have hfh : Same F2 H2 := g.fh
  have hr2 : ReT kt T F2 [(kt.kf x, v2)] [(x, y)] := .cons ⟨rfl, r2⟩ .nil
  refine ⟨h2, b, kt.kf x, eb, hfh _ _ hb, ?_⟩
  have hne : ∀ c ∈ cs, c.a ≠ a := fun c hc z => by
    obtain ⟨_, o, e1, _⟩ := ok0.cell c hc
    rw [z, ha] at e1
    cases e1
  have m0 : Mv cs F H cs F2 (upd H2 a (.dT [(kt.kf x, v2)])) := by
    refine ⟨g.ff, fun b u e => ?_, fun b n1 n2 => ?_, fun b u e _ => ?_, fun c hc => ?_, ok0.nd, fun c hc => .inl ⟨c, hc, rfl⟩, fun c hc n => ?_⟩
    · have : b ≠ a := fun z => by rw [z, hf2] at e; cases e
      rw [upd_ne this]
      exact g.fh _ _ e
    · have := g.fr b n1 n2
      by_cases z : b = a
      · rw [z]; exact ha
      · rw [upd_ne z] at this; exact this
    · have : b ≠ a := fun z => by rw [z, ha] at e; cases e
      rw [upd_ne this]
      exact g.hh _ _ (by rw [upd_ne this]; exact e)
    · obtain ⟨n, o, e1, e2⟩ := ok0.cell c hc
      have e3 : (upd H a (.dT [])) c.a = some o := by rw [upd_ne (hne c hc)]; exact e1
      refine ⟨?_, o, by rw [upd_ne (hne c hc)]; exact g.hh _ _ e3, c.ck.mono g.ff e2⟩
      cases q : F2 c.a with
      | none => rfl
      | some w =>
        have := g.fr c.a n (by rw [q]; simp)
        rw [e3] at this
        cases this
    · obtain ⟨_, o, e1, _⟩ := ok0.cell c hc
      have e3 : (upd H a (.dT [])) c.a = some o := by rw [upd_ne (hne c hc)]; exact e1
      rw [upd_ne (hne c hc), g.hh _ _ e3] at n
      cases n
  have m := newDt_mv2 (kt := kt) (T := T) m0 ha hf2 upd_same hne hr2 (by rw [sizeLine_eq]; show 1 ≤ _; omega)
  exact k a _ F2 _ _ ((ok.to m).set (T := tR) i rfl) (p.2 a _ rfl) W tk hx'
end
end MD
namespace MD
open PySem PySem.Spec PyProof.Rows L2
section
variable {X : Cx} {fl : Hp} {B : Hb X.K} {Y : Ec X.K} {ρ : List (Slot X.K)} {cs : List (Cell X.K)} {A R κ α β γ δ μ ν : Type} {pos : Pos} {rest : List Stmt} {D : Ends} {e : Expr}
theorem EK.some {T : Ty X.K α} {vl : μ → α} {cs' : μ → List (Cell X.K)} {M : (μ → Prop) → Prop} (h : EK X Y e ρ cs T vl cs' M) : EK X Y e ρ cs (tO T) (fun y => Option.some (vl y)) cs' M := fun F σ H ok xh φ p Q k => h F σ H ok xh φ p Q k
/-- return of a new list, in a def that gives a new list or None -/
theorem sk_retNoE {xa : XA} {ins : A → List (Slot X.K)} {T0 : Ty X.K δ} {pre : A → Prop} {g : A → Option (List δ) ⊕ Rf} {a : A} {ψ : Option (Addr × List δ) → Prop} {n b' c' : L2.St → Hp → Prop} {vl : μ → List δ} {M : (μ → Prop) → Prop} {r : List Stmt} (he : NE X Y e ρ [] T0 vl (fun _ => []) M) :
    SK X B Y fl (.Return (some e) pos :: r) ρ [] { retD (Con.no xa ins T0 pre g) a B ψ with nx := n, bk := b', ct := c' } (M fun y => ∀ l c, c = vl y → ψ (some (l, c))) := sk_retE (C := Con.no xa ins T0 pre g) (fun y : μ × Addr × List δ => Option.some (y.2.1, y.2.2)) (EK.some he.own) (fun _ => rfl) fun y => rfl
theorem nn_R {K : PySem.W.Frag} : NoN (tR (K := K)) := fun F v x h e => by
  have h : v = .ref x := h
  rw [h] at e
  cases e
/-! ### repr of None, or of a list -/
abbrev rRepr (K : PySem.W.Frag) : List V → Hp → VK → Prop := fun xs H Q => ∃ v d, xs = [v] ∧ (v = .non ∨ ∃ a, v = .ref a) ∧ Dp K H v d ∧ d.showable = true ∧ d.hasDict = false ∧ d.depth ≤ 64 ∧ d.shown.length ≤ sizeLine ∧ Q (.str d.shown) H
theorem cr_reprO {k : Nat} (hgd : X.A.guards = some []) (hr : Room k X.A) : CallR X (.builtin "repr") (rRepr X.K) := by
  intro pins s σ H xs us Q I rs ⟨v, d, e, hv, hd, h1, h2, h3, h4, hq⟩
  rcases hv with ev | ⟨a, ev⟩
  · subst ev
    subst e
    cases rs with
    | cons r1 rs =>
      cases rs
      cases r1
      cases hd
      exact PySem.P.repr_of_none ⟨.str "None", H, I.tok _, ⟨_, rfl⟩, hq⟩
  · subst ev
    exact cr_repr hgd hr pins s σ H xs us Q I rs ⟨a, d, e, hd, h1, h2, h3, h4, hq⟩
end
section
variable {K : PySem.W.Frag} {α : Type} {T : Ty K α}
theorem u_reprO (D : DT T) (hb : ∀ F v x, T.rep F v x → v = .non ∨ ∃ a, v = .ref a) (hn : D.n ≤ 64) {x : α} : U1 (rRepr K) (sv T x) ((D.d x).showable = true ∧ (D.d x).hasDict = false ∧ (D.d x).shown.length ≤ sizeLine) (sv (tSx (K := K)) (D.d x).shown) := fun F H v s h c Q k =>
  ⟨v, D.d x, rfl, hb F v x h, D.dp F H _ x s h, c.1, c.2.1, Nat.le_trans (D.dep x) hn, c.2.2, k _ F H (Grow.refl s) rfl⟩
theorem tO_ref {T : Ty K α} : ∀ F v x, (tO (tL T)).rep F v x → v = .non ∨ ∃ a, v = .ref a := fun F v x h => by
  cases x with
  | none => cases h; exact .inl rfl
  | some xs =>
    obtain ⟨a, _, e, _⟩ := h
    exact .inr ⟨a, e⟩
theorem dp_rl (D : DT T) {F H : Hp} (s : Same F H) : ∀ {vs : List V} {xs : List α}, Rl T F vs xs → DpAll K H vs (xs.map D.d)
  | _, _, .nil => .nil
  | _, _, .cons r t => .cons (D.dp F H _ _ s r) (dp_rl D s t)
/-- repr of an owned list -/
theorem u_reprL (D : DT T) (hn : D.n + 1 ≤ 64) {xs : List α} : U1 (rRepr K) (rL T xs) ((PyData.list (xs.map D.d)).showable = true ∧ (PyData.list (xs.map D.d)).hasDict = false ∧ (PyData.list (xs.map D.d)).shown.length ≤ sizeLine) (sv (tSx (K := K)) (PyData.list (xs.map D.d)).shown) := fun F H v s ⟨a, vs, e, ha, r, z⟩ c Q k =>
  ⟨v, _, rfl, .inr ⟨a, e⟩, by rw [e]; exact .lst (SqL.of ha) (dp_rl D s r), c.1, c.2.1, Nat.le_trans ((dL D).dep xs) hn, c.2.2, k _ F H (Grow.refl s) rfl⟩
end
end MD
namespace MD
open PySem PySem.Spec PyProof.Rows L2
/-! ### zip of two, its tuples given to one name: the tuple handed out may still be held, or be gone -/
/-- a zip's record, whatever its first two fields -/
abbrev ZR (h : Heap) (z TI TO : Addr) (u v : Value) : Prop := h.get? z = some { cls := .type "zip", dict := none, data := .fields #[u, v, .bool false, .ref TI, .ref TO], slots := #[] }
section
variable {prog : Program} {w : World} {A : Around} {E : Value → Shared → Prop} {s : Shared} {z TI TO i1 i2 T : Addr} {fp1 fp2 : List Addr} {n1 n2 i : Nat} {P1 P2 : Nat → Value → Prop} {St1 St2 : Nat → Heap → Prop} {a1 a2 u v : Value} {f : Bool}
theorem free_dead {Q : Bool → Shared → Prop} (hz : ZR s.heap z TI TO (rawInt T) v) (hT : s.heap.get? T = none) (h : Q true s) : wpAny (model prog w) A (Builtin.SmallTypes.ownedTupleIsFree (.ref z)) Q E s := by
  unfold Builtin.SmallTypes.ownedTupleIsFree
  refine wpAny_bind (wpAny_field hz rfl (x := rawInt T) rfl ?_)
  show wpAny _ _ (loadIfAlive ((T : Int).toNat) >>= fun r => _) _ _ _
  rw [Int.toNat_natCast]
  have q : ∀ {R : Option Obj → Shared → Prop}, R none s → wpAny (model prog w) A (loadIfAlive T) R E s := fun {R} r _ _ _ => by
    show R (s.heap.get? T) s
    rw [hT]
    exact r
  refine wpAny_bind (q ?_)
  exact wpAny_pure h
theorem zr_set0 {x : Value} {Q : Unit → Shared → Prop} (hz : ZR s.heap z TI TO u v) (h : ∀ h', ZR h' z TI TO x v → Heap.SameBut z s.heap h' → Q () { s with heap := h' }) : wpAny (model prog w) A (setField (.ref z) 0 x) Q E s :=
  wpAny_setField_rec hz (by simp) fun h' hz' hs' => h h' hz' hs'
theorem zr_set1 {x : Value} {Q : Unit → Shared → Prop} (hz : ZR s.heap z TI TO u v) (h : ∀ h', ZR h' z TI TO u x → Heap.SameBut z s.heap h' → Q () { s with heap := h' }) : wpAny (model prog w) A (setField (.ref z) 1 x) Q E s :=
  wpAny_setField_rec hz (by simp) fun h' hz' hs' => h h' hz' hs'
/-- the tuple kept within is free -/
theorem zn_free {Q : Value → Shared → Prop} (S : ZipSep2 z TI TO i1 i2 fp1 fp2) (D1 : Draws prog w A i1 fp1 n1 P1 St1) (D2 : Draws prog w A i2 fp2 n2 P2 St2) (hz : ZR s.heap z TI TO (rawInt T) v) (hT : s.heap.get? T = none)
    (hTI : IsTupOf2 s.heap TI (.ref i1) (.ref i2)) (hTO : IsTupOf2 s.heap TO a1 a2) (st1 : St1 i s.heap) (st2 : St2 i s.heap) (c1 : i < n1) (c2 : i < n2)
    (hQ : ∀ x1 x2 h' tk, P1 i x1 → P2 i x2 → ZR h' z TI TO (rawInt s.heap.objs.size) (.bool false) → IsTupOf2 h' TO x1 x2 → St1 (i + 1) h' → St2 (i + 1) h' → IsTupOf2 h' s.heap.objs.size x1 x2 →
      (∀ c o, c ≠ z → c ≠ TO → c ≠ i1 → c ≠ i2 → s.heap.get? c = some o → h'.get? c = some o) → Q (.ref s.heap.objs.size) { s with heap := h', toks := tk }) :
    wpAny (model prog w) A (Builtin.«zip.__next__» ⟨[.ref z], []⟩) (fun fin s' => ∃ r, fin = .done (.ret r) ∧ Q r s') E s := by
  obtain ⟨m, g, d, t0, os⟩ := s
  show wpAny _ _ (field (.ref z) 2 >>= fun r => _) _ _ _
  refine wpAny_bind (wpAny_field hz rfl (x := .bool false) rfl ?_)
  show wpAny _ _ (field (.ref z) 3 >>= fun r => _) _ _ _
  refine wpAny_bind (wpAny_field hz rfl (x := .ref TI) rfl (wpAny_bind (wpAny_seqItems hTI rfl ?_)))
  show wpAny _ _ (Builtin.SmallTypes.ownedTupleIsFree (.ref z) >>= fun r => _) _ _ _
  refine wpAny_bind (free_dead hz hT ?_)
  simp only [if_true]
  refine wpAny_bind (wpAny_rule (wpAny_bind (wpAny_field hz rfl (x := .ref TO) rfl (wpAny_bind (zr_set0 hz fun m0 b0 s0 => ?_)))))
  replace b0 : ZR m0 z TI TO .ellipsis v := b0
  replace s0 : Heap.SameBut z m m0 := s0
  refine wpAny_bind ?_
  simp only [List.zipIdx_cons, List.forIn_cons, List.zipIdx_nil, List.forIn_nil]
  refine wpAny_bind (wpAny_bind (wpAny_onRaise ?_))
  show wpAny _ _ (Builtin.SmallTypes.nextOf (.ref i1) >>= fun r => _) _ _ ⟨m0, g, d, t0, os⟩
  refine wpAny_bind (D1.item i _ _ _ c1 (D1.over st1 s0 S.zf1) fun x1 m1 t1 y1 k1 s1 => wpAny_pure ?_)
  replace s1 : Heap.SameBut i1 m0 m1 := s1
  have b1 : IsTupOf2 m1 TO a1 a2 := s1.extBut _ _ S.Ti1 (s0.extBut _ _ S.TOz hTO)
  refine wpAny_bind (wpAny_seqItems (s := ⟨m1, g, d, t1, os⟩) b1 rfl (wpAny_bind (updateSeq_IsTupOf2 (s := ⟨m1, g, d, t1, os⟩) b1 fun m2 b2 s2 => ?_)))
  replace b2 : IsTupOf2 m2 TO x1 a2 := b2
  replace s2 : Heap.SameBut TO m1 m2 := s2
  refine wpAny_bind (wpAny_letGo (wpAny_pure (wpAny_bind (wpAny_bind (wpAny_onRaise ?_)))))
  show wpAny _ _ (Builtin.SmallTypes.nextOf (.ref i2) >>= fun r => _) _ _ ⟨m2, g, d, t1, os⟩
  refine wpAny_bind (D2.item i _ _ _ c2 (D2.over (D2.over (D2.over st2 s0 S.zf2) s1 S.sep1_2) s2 S.Tf2) fun x2 m3 t2 y2 k2 s3 => wpAny_pure ?_)
  replace s3 : Heap.SameBut i2 m2 m3 := s3
  have b3 : IsTupOf2 m3 TO x1 a2 := s3.extBut _ _ S.Ti2 b2
  refine wpAny_bind (wpAny_seqItems (s := ⟨m3, g, d, t2, os⟩) b3 rfl (wpAny_bind (updateSeq_IsTupOf2 (s := ⟨m3, g, d, t2, os⟩) b3 fun m4 b4 s4 => ?_)))
  replace b4 : IsTupOf2 m4 TO x1 x2 := b4
  replace s4 : Heap.SameBut TO m3 m4 := s4
  refine wpAny_bind (wpAny_letGo (wpAny_pure (wpAny_pure (wpAny_bind (wpAny_seqItems (s := ⟨m4, g, d, t2, os⟩) b4 rfl (wpAny_bind (wpAny_newTuple ?_)))))))
  have sz : m4.objs.size = m.objs.size := by rw [s4.1, s3.1, s2.1, s1.1, s0.1]
  have bz : ZR m4 z TI TO .ellipsis v := s4.extBut _ _ S.TOz.symm (s3.extBut _ _ S.zi2 (s2.extBut _ _ S.TOz.symm (s1.extBut _ _ S.zi1 b0)))
  have kk : ∀ c o, c ≠ z → c ≠ TO → c ≠ i1 → c ≠ i2 → m.get? c = some o → m4.get? c = some o := fun c o e0 e1 e2 e3 e => s4.extBut _ _ e1 (s3.extBut _ _ e3 (s2.extBut _ _ e1 (s1.extBut _ _ e2 (s0.extBut _ _ e0 e))))
  have r1 : St1 (i + 1) m4 := D1.over (D1.over (D1.over k1 s2 S.Tf1) s3 S.sep2_1) s4 S.Tf1
  have r2 : St2 (i + 1) m4 := D2.over k2 s4 S.Tf2
  have lz : z < m4.objs.size := Heap.lt_size bz
  show wpAny _ _ (Builtin.SmallTypes.ownedTupleHandOut (.ref z) (.ref m4.objs.size) >>= fun r => _) _ _ ⟨m4.push { cls := .type "tuple", data := .seq #[x1, x2] }, g, d, t2, os⟩
  refine wpAny_bind ?_
  unfold Builtin.SmallTypes.ownedTupleHandOut
  have b5 : ZR (m4.push { cls := .type "tuple", data := .seq #[x1, x2] }) z TI TO .ellipsis v := Heap.get?_push_of_some _ bz
  refine wpAny_bind (zr_set0 b5 fun m6 b6 s6 => ?_)
  replace b6 : ZR m6 z TI TO (rawInt m4.objs.size) v := b6
  refine zr_set1 b6 fun m7 b7 s7 => ?_
  replace b7 : ZR m7 z TI TO (rawInt m4.objs.size) (.bool false) := b7
  replace s6 : Heap.SameBut z (m4.push { cls := .type "tuple", data := .seq #[x1, x2] }) m6 := s6
  replace s7 : Heap.SameBut z m6 m7 := s7
  have up : ∀ c o, c ≠ z → m4.get? c = some o → m7.get? c = some o := fun c o e0 e => s7.extBut _ _ e0 (s6.extBut _ _ e0 (Heap.get?_push_of_some _ e))
  have b8 : IsTupOf2 m7 m4.objs.size x1 x2 := s7.extBut _ _ (Nat.ne_of_gt lz) (s6.extBut _ _ (Nat.ne_of_gt lz) (Heap.get?_push_size _ rfl))
  rw [sz] at b7 b8
  refine wpAny_pure ⟨_, rfl, ?_⟩
  show Q (.ref m4.objs.size) ⟨m7, g, d, t2, os⟩
  rw [sz]
  exact hQ x1 x2 m7 t2 y1 y2 b7 (up _ _ S.TOz b4) (D1.frame _ _ _ r1 fun b hb o e => up b o (fun q => S.zf1 (q ▸ hb)) e) (D2.frame _ _ _ r2 fun b hb o e => up b o (fun q => S.zf2 (q ▸ hb)) e) b8 fun c o e0 e1 e2 e3 e => up c o e0 (kk c o e0 e1 e2 e3 e)
/-- the tuple handed out last is still held -/
theorem zn_held {Q : Value → Shared → Prop} {oT : Obj} (S : ZipSep2 z TI TO i1 i2 fp1 fp2) (D1 : Draws prog w A i1 fp1 n1 P1 St1) (D2 : Draws prog w A i2 fp2 n2 P2 St2) (hz : IsZipHeld s.heap z TI TO T f) (hT : s.heap.get? T = some oT)
    (hTI : IsTupOf2 s.heap TI (.ref i1) (.ref i2)) (st1 : St1 i s.heap) (st2 : St2 i s.heap) (c1 : i < n1) (c2 : i < n2)
    (hQ : ∀ x1 x2 h' tk, P1 i x1 → P2 i x2 → IsZipHeld h' z TI TO T true → St1 (i + 1) h' → St2 (i + 1) h' → IsTupOf2 h' s.heap.objs.size x1 x2 →
      (∀ c o, c ≠ z → c ≠ i1 → c ≠ i2 → s.heap.get? c = some o → h'.get? c = some o) → Q (.ref s.heap.objs.size) { s with heap := h', toks := tk }) :
    wpAny (model prog w) A (Builtin.«zip.__next__» ⟨[.ref z], []⟩) (fun fin s' => ∃ r, fin = .done (.ret r) ∧ Q r s') E s := by
  obtain ⟨m, g, d, t0, os⟩ := s
  show wpAny _ _ (field (.ref z) 2 >>= fun r => _) _ _ _
  refine wpAny_bind (wpAny_field hz rfl (x := .bool false) rfl ?_)
  show wpAny _ _ (field (.ref z) 3 >>= fun r => _) _ _ _
  refine wpAny_bind (wpAny_field hz rfl (x := .ref TI) rfl (wpAny_bind (wpAny_seqItems hTI rfl ?_)))
  show wpAny _ _ (Builtin.SmallTypes.ownedTupleIsFree (.ref z) >>= fun r => _) _ _ _
  refine wpAny_bind (wpAny_tupleHeld_zip hz hT fun m0 b0 s0 => ?_)
  replace s0 : Heap.SameBut z m m0 := s0
  simp only [if_false, Bool.false_eq_true]
  refine wpAny_bind ?_
  rw [← Array.forIn_toList]
  simp only [List.forIn_nil, List.forIn_cons]
  refine wpAny_bind (wpAny_bind (wpAny_holding ?_))
  show wpAny _ _ (Builtin.SmallTypes.nextOf (.ref i1) >>= fun r => _) _ _ ⟨m0, g, d, t0, os⟩
  refine wpAny_bind (D1.item i _ _ _ c1 (D1.over st1 s0 S.zf1) fun x1 m1 t1 y1 k1 s1 => wpAny_pure (wpAny_pure (wpAny_bind (wpAny_bind (wpAny_holding ?_)))))
  replace s1 : Heap.SameBut i1 m0 m1 := s1
  show wpAny _ _ (Builtin.SmallTypes.nextOf (.ref i2) >>= fun r => _) _ _ ⟨m1, g, d, t1, os⟩
  refine wpAny_bind (D2.item i _ _ _ c2 (D2.over (D2.over st2 s0 S.zf2) s1 S.sep1_2) fun x2 m2 t2 y2 k2 s2 => wpAny_pure (wpAny_pure (wpAny_pure ?_)))
  replace s2 : Heap.SameBut i2 m1 m2 := s2
  show wpAny _ _ (newTuple [x1, x2] >>= fun r => _) _ _ ⟨m2, g, d, t2, os⟩
  refine wpAny_bind (wpAny_newTuple (wpAny_pure ⟨_, rfl, ?_⟩))
  have sz : m2.objs.size = m.objs.size := by rw [s2.1, s1.1, s0.1]
  show Q (.ref m2.objs.size) ⟨m2.push { cls := .type "tuple", data := .seq #[x1, x2] }, g, d, t2, os⟩
  have b3 : IsTupOf2 (m2.push { cls := .type "tuple", data := .seq #[x1, x2] }) m2.objs.size x1 x2 := Heap.get?_push_size _ rfl
  rw [sz] at b3 ⊢
  have bz : IsZipHeld m2 z TI TO T true := s2.extBut _ _ S.zi2 (s1.extBut _ _ S.zi1 b0)
  have r1 : St1 (i + 1) m2 := D1.over k1 s2 S.sep2_1
  exact hQ x1 x2 _ t2 y1 y2 (Heap.get?_push_of_some _ bz) (D1.frame _ _ _ r1 fun b _ o e => Heap.get?_push_of_some _ e) (D2.frame _ _ _ k2 fun b _ o e => Heap.get?_push_of_some _ e) b3 fun c o e0 e1 e2 e => Heap.get?_push_of_some _ (s2.extBut _ _ e2 (s1.extBut _ _ e1 (s0.extBut _ _ e0 e)))
theorem zn_freeEnd {Q : Fin → Shared → Prop} (S : ZipSep2 z TI TO i1 i2 fp1 fp2) (D1 : Draws prog w A i1 fp1 n1 P1 St1) (D2 : Draws prog w A i2 fp2 n2 P2 St2) (hz : ZR s.heap z TI TO (rawInt T) v) (hT : s.heap.get? T = none)
    (hTI : IsTupOf2 s.heap TI (.ref i1) (.ref i2)) (hTO : IsTupOf2 s.heap TO a1 a2) (st1 : St1 i s.heap) (st2 : St2 i s.heap) (l1 : i ≤ n1) (l2 : i ≤ n2) (hend : i = n1 ∨ i = n2)
    (hE : ∀ h' tk e, (∀ c o, c ≠ z → c ≠ TO → c ≠ i1 → c ≠ i2 → s.heap.get? c = some o → h'.get? c = some o) → (∃ o, h'.get? e = some o ∧ o.cls = .type "StopIteration") → E (.ref e) { s with heap := h', toks := tk }) :
    wpAny (model prog w) A (Builtin.«zip.__next__» ⟨[.ref z], []⟩) Q E s := by
  obtain ⟨m, g, d, t0, os⟩ := s
  show wpAny _ _ (field (.ref z) 2 >>= fun r => _) _ _ _
  refine wpAny_bind (wpAny_field hz rfl (x := .bool false) rfl ?_)
  show wpAny _ _ (field (.ref z) 3 >>= fun r => _) _ _ _
  refine wpAny_bind (wpAny_field hz rfl (x := .ref TI) rfl (wpAny_bind (wpAny_seqItems hTI rfl ?_)))
  show wpAny _ _ (Builtin.SmallTypes.ownedTupleIsFree (.ref z) >>= fun r => _) _ _ _
  refine wpAny_bind (free_dead hz hT ?_)
  simp only [if_true]
  refine wpAny_bind (wpAny_rule (wpAny_bind (wpAny_field hz rfl (x := .ref TO) rfl (wpAny_bind (zr_set0 hz fun m0 b0 s0 => ?_)))))
  replace b0 : ZR m0 z TI TO .ellipsis v := b0
  replace s0 : Heap.SameBut z m m0 := s0
  refine wpAny_bind ?_
  simp only [List.zipIdx_cons, List.forIn_cons, List.zipIdx_nil, List.forIn_nil]
  refine wpAny_bind (wpAny_bind (wpAny_onRaise ?_))
  show wpAny _ _ (Builtin.SmallTypes.nextOf (.ref i1) >>= fun r => _) _ _ ⟨m0, g, d, t0, os⟩
  by_cases c1 : i < n1
  · refine wpAny_bind (D1.item i _ _ _ c1 (D1.over st1 s0 S.zf1) fun x1 m1 t1 y1 k1 s1 => wpAny_pure ?_)
    replace s1 : Heap.SameBut i1 m0 m1 := s1
    have b1 : IsTupOf2 m1 TO a1 a2 := s1.extBut _ _ S.Ti1 (s0.extBut _ _ S.TOz hTO)
    refine wpAny_bind (wpAny_seqItems (s := ⟨m1, g, d, t1, os⟩) b1 rfl (wpAny_bind (updateSeq_IsTupOf2 (s := ⟨m1, g, d, t1, os⟩) b1 fun m2 b2 s2 => ?_)))
    replace b2 : IsTupOf2 m2 TO x1 a2 := b2
    replace s2 : Heap.SameBut TO m1 m2 := s2
    have e2 : i = n2 := by omega
    refine wpAny_bind (wpAny_letGo (wpAny_pure (wpAny_bind (wpAny_bind (wpAny_onRaise ?_)))))
    show wpAny _ _ (Builtin.SmallTypes.nextOf (.ref i2) >>= fun r => _) _ _ ⟨m2, g, d, t1, os⟩
    refine wpAny_bind (D2.done ⟨m2, g, d, t1, os⟩ _ _ (by rw [← e2]; exact D2.over (D2.over (D2.over st2 s0 S.zf2) s1 S.sep1_2) s2 S.Tf2) fun m3 e s3 he => ?_)
    replace s3 : Heap.ExtBut i2 m2 m3 := s3
    obtain ⟨oe, h1, h2⟩ := he
    replace h1 : m3.get? e = some oe := h1
    have bz : ZR m3 z TI TO .ellipsis v := s3 _ _ S.zi2 (s2.extBut _ _ S.TOz.symm (s1.extBut _ _ S.zi1 b0))
    have ez : e ≠ z := fun q => by
      rw [q, bz] at h1
      rw [← Option.some.inj h1] at h2
      exact absurd (Value.type.inj h2) (by decide)
    refine zr_set0 (s := ⟨m3, g, d, t1, os⟩) bz fun m4 _ s4 => ?_
    replace s4 : Heap.SameBut z m3 m4 := s4
    exact hE m4 t1 e (fun c o q0 q1 q2 q3 q => s4.extBut _ _ q0 (s3 _ _ q3 (s2.extBut _ _ q1 (s1.extBut _ _ q2 (s0.extBut _ _ q0 q))))) ⟨oe, s4.extBut _ _ ez h1, h2⟩
  · have e1 : i = n1 := by omega
    refine wpAny_bind (D1.done ⟨m0, g, d, t0, os⟩ _ _ (by rw [← e1]; exact D1.over st1 s0 S.zf1) fun m3 e s3 he => ?_)
    replace s3 : Heap.ExtBut i1 m0 m3 := s3
    obtain ⟨oe, h1, h2⟩ := he
    replace h1 : m3.get? e = some oe := h1
    have bz : ZR m3 z TI TO .ellipsis v := s3 _ _ S.zi1 b0
    have ez : e ≠ z := fun q => by
      rw [q, bz] at h1
      rw [← Option.some.inj h1] at h2
      exact absurd (Value.type.inj h2) (by decide)
    refine zr_set0 (s := ⟨m3, g, d, t0, os⟩) bz fun m4 _ s4 => ?_
    replace s4 : Heap.SameBut z m3 m4 := s4
    exact hE m4 t0 e (fun c o q0 q1 q2 q3 q => s4.extBut _ _ q0 (s3 _ _ q2 (s0.extBut _ _ q0 q))) ⟨oe, s4.extBut _ _ ez h1, h2⟩
theorem zn_heldEnd {Q : Fin → Shared → Prop} {oT : Obj} (S : ZipSep2 z TI TO i1 i2 fp1 fp2) (D1 : Draws prog w A i1 fp1 n1 P1 St1) (D2 : Draws prog w A i2 fp2 n2 P2 St2) (hz : IsZipHeld s.heap z TI TO T f) (hT : s.heap.get? T = some oT)
    (hTI : IsTupOf2 s.heap TI (.ref i1) (.ref i2)) (st1 : St1 i s.heap) (st2 : St2 i s.heap) (l1 : i ≤ n1) (l2 : i ≤ n2) (hend : i = n1 ∨ i = n2)
    (hE : ∀ h' tk e, (∀ c o, c ≠ z → c ≠ i1 → c ≠ i2 → s.heap.get? c = some o → h'.get? c = some o) → (∃ o, h'.get? e = some o ∧ o.cls = .type "StopIteration") → E (.ref e) { s with heap := h', toks := tk }) :
    wpAny (model prog w) A (Builtin.«zip.__next__» ⟨[.ref z], []⟩) Q E s := by
  obtain ⟨m, g, d, t0, os⟩ := s
  show wpAny _ _ (field (.ref z) 2 >>= fun r => _) _ _ _
  refine wpAny_bind (wpAny_field hz rfl (x := .bool false) rfl ?_)
  show wpAny _ _ (field (.ref z) 3 >>= fun r => _) _ _ _
  refine wpAny_bind (wpAny_field hz rfl (x := .ref TI) rfl (wpAny_bind (wpAny_seqItems hTI rfl ?_)))
  show wpAny _ _ (Builtin.SmallTypes.ownedTupleIsFree (.ref z) >>= fun r => _) _ _ _
  refine wpAny_bind (wpAny_tupleHeld_zip hz hT fun m0 b0 s0 => ?_)
  replace s0 : Heap.SameBut z m m0 := s0
  simp only [if_false, Bool.false_eq_true]
  refine wpAny_bind ?_
  rw [← Array.forIn_toList]
  simp only [List.forIn_nil, List.forIn_cons]
  refine wpAny_bind (wpAny_bind (wpAny_holding ?_))
  show wpAny _ _ (Builtin.SmallTypes.nextOf (.ref i1) >>= fun r => _) _ _ ⟨m0, g, d, t0, os⟩
  by_cases c1 : i < n1
  · refine wpAny_bind (D1.item i _ _ _ c1 (D1.over st1 s0 S.zf1) fun x1 m1 t1 y1 k1 s1 => wpAny_pure (wpAny_pure (wpAny_bind (wpAny_bind (wpAny_holding ?_)))))
    replace s1 : Heap.SameBut i1 m0 m1 := s1
    have e2 : i = n2 := by omega
    show wpAny _ _ (Builtin.SmallTypes.nextOf (.ref i2) >>= fun r => _) _ _ ⟨m1, g, d, t1, os⟩
    refine wpAny_bind (D2.done ⟨m1, g, d, t1, os⟩ _ _ (by rw [← e2]; exact D2.over (D2.over st2 s0 S.zf2) s1 S.sep1_2) fun m3 e s3 he => ?_)
    exact hE m3 t1 e (fun c o q0 q2 q3 q => s3 _ _ q3 (s1.extBut _ _ q2 (s0.extBut _ _ q0 q))) he
  · have e1 : i = n1 := by omega
    refine wpAny_bind (D1.done ⟨m0, g, d, t0, os⟩ _ _ (by rw [← e1]; exact D1.over st1 s0 S.zf1) fun m3 e s3 he => ?_)
    exact hE m3 t0 e (fun c o q0 q2 q3 q => s3 _ _ q2 (s0.extBut _ _ q0 q)) he
end
section
variable {prog : Program} {w : World} {A : Around} {E : Value → Shared → Prop} {s : Shared} {z : Addr} {u v : Value} {TI TO : Addr}
theorem zn_next {Q : Option Value → Shared → Prop} (hz : ZR s.heap z TI TO u v) (h : ∀ E' : Value → Shared → Prop, wpAny (model prog w) A.in1 (Builtin.«zip.__next__» ⟨[.ref z], []⟩) (fun fin s' => ∃ r, fin = .done (.ret r) ∧ Q (some r) s') E' s) : wpAny (model prog w) A (pyNext (.ref z)) Q E s := by
  have ht : s.TypeIs (.ref z) "zip" := ⟨_, hz, rfl⟩
  unfold pyNext
  exact wpAny_bind (wpAny_attempt (wpAny_callSpecial?_slot (name := Str.ofString "__next__") ht F.slot_zip_next (wpAny_call_entry F.slot_zip_next ht F.entry_zip_next (wpAny_mono (h _) (fun fin s' ⟨r, e, q⟩ => ⟨r, e, wpAny_pure q⟩) fun _ _ e => e) (F.args_zip_next_1 _))))
theorem zn_stop {Q : Option Value → Shared → Prop} {C : Heap → Prop} (hz : ZR s.heap z TI TO u v)
    (h : ∀ (Q' : Fin → Shared → Prop) (E' : Value → Shared → Prop), (∀ h' tk e, C h' → (∃ o, h'.get? e = some o ∧ o.cls = .type "StopIteration") → E' (.ref e) { s with heap := h', toks := tk }) → wpAny (model prog w) A.in1 (Builtin.«zip.__next__» ⟨[.ref z], []⟩) Q' E' s)
    (hQ : ∀ h' tk, C h' → Q none { s with heap := h', toks := tk }) : wpAny (model prog w) A (pyNext (.ref z)) Q E s := by
  have ht : s.TypeIs (.ref z) "zip" := ⟨_, hz, rfl⟩
  unfold pyNext
  refine wpAny_bind (wpAny_attempt (wpAny_callSpecial?_slot (name := Str.ofString "__next__") ht F.slot_zip_next (wpAny_call_entry F.slot_zip_next ht F.entry_zip_next (h _ _ fun h' tk e c he => ?_) (F.args_zip_next_1 _))))
  obtain ⟨o, ho, hc⟩ := he
  exact wpAny_bind (wpAny_isInstance (T := "StopIteration") (b := true) ⟨o, ho, hc⟩ isSubtype_stop (wpAny_pure (hQ _ _ c)))
end
/-! ### the walk -/
def ItzN (k : Bool) (K : PySem.W.Frag) (a b : Addr) (n : Nat) : It :=
  ⟨fun i H => i < n ∧ ∃ (xs ys : List V) (x y : V), SqK k K H a xs ∧ SqK k K H b ys ∧ xs[i]? = some x ∧ ys[i]? = some y,
    fun i H v H' => ∃ T x y, v = .ref T ∧ H T = none ∧ H' = upd H T (.tup [x, y]) ∧ (∀ xs, SqK k K H a xs → xs[i]? = some x) ∧ ∀ ys, SqK k K H b ys → ys[i]? = some y,
    fun i H => ∃ xs ys : List V, SqK k K H a xs ∧ SqK k K H b ys ∧ n = min xs.length ys.length ∧ n ≤ i⟩
abbrev TnN (k : Bool) (z TI TO i1 i2 a b : Addr) (i : Nat) (h : Heap) : Prop :=
  (IsZip h z TI TO .none ∨ ∃ T f, IsZipHeld h z TI TO T f) ∧ IsTupOf2 h TI (.ref i1) (.ref i2) ∧ (∃ a1 a2, IsTupOf2 h TO a1 a2) ∧ ItK k h i1 a i ∧ ItK k h i2 b i
theorem tnN_obj {k : Bool} {z TI TO i1 i2 a b : Addr} {i : Nat} {h : Heap} (st : TnN k z TI TO i1 i2 a b i h) : ∀ d ∈ [z, TI, TO, i1, i2], ∃ o, h.get? d = some o ∧ ∀ v, o.data ≠ .cell v := fun d hd => by
  obtain ⟨hz, hTI, ⟨x, y, hTO⟩, h1, h2⟩ := st
  have e' : d = z ∨ d = TI ∨ d = TO ∨ d = i1 ∨ d = i2 := by simpa using hd
  rcases e' with q | q | q | q | q
  · rw [q]
    rcases hz with hz | ⟨T, f, hz⟩
    · exact ⟨_, hz, fun v q => nomatch q⟩
    · exact ⟨_, hz, fun v q => nomatch q⟩
  · rw [q]; exact ⟨_, hTI, fun v q => nomatch q⟩
  · rw [q]; exact ⟨_, hTO, fun v q => nomatch q⟩
  · rw [q]; exact h1.obj
  · rw [q]; exact h2.obj
theorem turn_zipN {P : Program} {w : World} {K : PySem.W.Frag} {nm : Str} {tpos : Pos} (k : Bool) (n : Nat) {a b z TI TO i1 i2 : Addr} (S : ZipSep2 z TI TO i1 i2 [i1, a] [i2, b]) (d1 : a ≠ i1) (d2 : b ≠ i2) :
    Turn P w K (.Name nm tpos) (ItzN k K a b n) [z, TI, TO, i1, i2] z (fun i h => TnN k z TI TO i1 i2 a b i h ∧ i ≤ n) where
  mem := by simp
  obj := fun i h st d hd => tnN_obj st.1 d hd
  keep := fun i h h' st kp => by
    obtain ⟨⟨hz, hTI, ⟨x, y, hTO⟩, h1, h2⟩, hn⟩ := st
    refine ⟨⟨?_, kp TI (by simp) _ hTI, ⟨x, y, kp TO (by simp) _ hTO⟩, h1.at fun o q => kp i1 (by simp) o q, h2.at fun o q => kp i2 (by simp) o q⟩, hn⟩
    rcases hz with hz | ⟨T, f, hz⟩
    · exact .inl (kp z (by simp) _ hz)
    · exact .inr ⟨T, f, kp z (by simp) _ hz⟩
  item := by
    intro X hP hw hK hc i pins s σ H E I hf st hg
    subst hP hw hK
    obtain ⟨st0, _⟩ := st
    obtain ⟨hz, hTI, ⟨a1, a2, hTO⟩, h1, h2⟩ := id st0
    obtain ⟨hlt, xs, ys, x, y, hqx, hqy, hx, hy⟩ := hg
    obtain ⟨l1, rv1, p1, _⟩ := inv_sqK I hqx
    obtain ⟨l2, rv2, p2, _⟩ := inv_sqK I hqy
    obtain ⟨v1, hv1, r1⟩ := rv1.get hx
    obtain ⟨v2, hv2, r2⟩ := rv2.get hy
    have hh : X.A.in1.handled = none := I.ok.hd hc
    have D1 := drawsK (prog := X.prog) (w := X.w) k hh i1 a d1 l1.toArray
    have D2 := drawsK (prog := X.prog) (w := X.w) k hh i2 b d2 l2.toArray
    have b1 : i < l1.toArray.size := by rw [List.size_toArray]; exact (List.getElem?_eq_some_iff.mp hv1).1
    have b2 : i < l2.toArray.size := by rw [List.size_toArray]; exact (List.getElem?_eq_some_iff.mp hv2).1
    have fin : ∀ (w1 w2 : Value) (h' : Heap) (tk : Nat), l1.toArray[i]? = some w1 → l2.toArray[i]? = some w2 → (∃ T f, IsZipHeld h' z TI TO T f) → (∃ a1 a2, IsTupOf2 h' TO a1 a2) → (ItK k h' i1 a (i + 1) ∧ CoK k h' a l1.toArray) → (ItK k h' i2 b (i + 1) ∧ CoK k h' b l2.toArray) → IsTupOf2 h' s.heap.objs.size w1 w2 →
        (∀ c o, c ∉ [z, TI, TO, i1, i2] → s.heap.get? c = some o → h'.get? c = some o) → IsTupOf2 h' TI (.ref i1) (.ref i2) →
        ∃ u, some (Value.ref s.heap.objs.size) = some u ∧ wpAny (model X.prog X.w) X.A (letOwnedTupleGo (.Name nm tpos) (.ref z) u) (fun _ s2 => ∃ x H', Inv X pins σ H' s2 ∧ RelV x u ∧ (ItzN k X.K a b n).yld i H x H' ∧ (TnN k z TI TO i1 i2 a b (i + 1) s2.heap ∧ i + 1 ≤ n) ∧ ∀ b ∈ [z, TI, TO, i1, i2], H' b = none) E { s with heap := h', toks := tk } := fun w1 w2 h' tk q1 q2 qz qTO q3 q4 qT hk qTI => by
      have e1 : w1 = v1 := by
        rw [List.getElem?_toArray, hv1] at q1
        exact (Option.some.inj q1).symm
      have e2 : w2 = v2 := by
        rw [List.getElem?_toArray, hv2] at q2
        exact (Option.some.inj q2).symm
      subst e1 e2
      have new : ObjOk X.prog X.w (upd H s.heap.objs.size (.tup [x, y])) h' s.heap.objs.size (.tup [x, y]) :=
        ⟨by show 2 ≤ sizeLine; decide, [w1, w2], .cons r1 (.cons r2 .nil), ⟨_, qT, rfl, _, rfl⟩⟩
      have I1 : Inv X pins σ (upd H s.heap.objs.size (.tup [x, y])) { s with heap := h', toks := tk } :=
        I.turnedNew (t' := tk) (ch := [z, TI, TO, i1, i2]) (fun d o hb q => hk d o hb q) hf (Nat.le_refl _) new
      refine ⟨_, rfl, wpAny_pure ⟨.ref s.heap.objs.size, _, I1, rfl, ⟨s.heap.objs.size, x, y, rfl, I.hok.fresh (Nat.le_refl _), rfl, fun l hl => by rw [inv_injK I hl hqx]; exact hx, fun l hl => by rw [inv_injK I hl hqy]; exact hy⟩, ⟨⟨.inr qz, qTI, qTO, q3.1, q4.1⟩, hlt⟩, fun d hd => ?_⟩⟩
      obtain ⟨o, ho, _⟩ := tnN_obj st0 d hd
      rw [upd_ne (Nat.ne_of_lt (Heap.lt_size ho))]
      exact (hf d hd).1
    rcases hz with hz | ⟨T, f, hz⟩
    · refine wpAny_pyNext_zipD2_item S D1 D2 hz hTI hTO ⟨h1, p1⟩ ⟨h2, p2⟩ b1 b2 fun x1 x2 h' tk q1 q2 qz qTO q3 q4 qT _ hk => ?_
      exact fin x1 x2 h' tk q1 q2 ⟨_, _, qz⟩ ⟨_, _, qTO⟩ q3 q4 qT (fun c o hb e => hk c o (fun q => hb (by simp [q])) (fun q => hb (by simp [q])) (fun q => hb (by simp [q])) (fun q => hb (by simp [q])) e) (hk _ _ S.TIz S.TITO S.TIi1 S.TIi2 hTI)
    · cases hT : s.heap.get? T with
      | none =>
        refine zn_next hz fun E' => zn_free S D1 D2 hz hT hTI hTO ⟨h1, p1⟩ ⟨h2, p2⟩ b1 b2 fun x1 x2 h' tk q1 q2 qz qTO q3 q4 qT hk => ?_
        exact fin x1 x2 h' tk q1 q2 ⟨_, _, qz⟩ ⟨_, _, qTO⟩ q3 q4 qT (fun c o hb e => hk c o (fun q => hb (by simp [q])) (fun q => hb (by simp [q])) (fun q => hb (by simp [q])) (fun q => hb (by simp [q])) e) (hk _ _ S.TIz S.TITO S.TIi1 S.TIi2 hTI)
      | some oT =>
        refine zn_next hz fun E' => zn_held S D1 D2 hz hT hTI ⟨h1, p1⟩ ⟨h2, p2⟩ b1 b2 fun x1 x2 h' tk q1 q2 qz q3 q4 qT hk => ?_
        exact fin x1 x2 h' tk q1 q2 ⟨_, _, qz⟩ ⟨_, _, hk _ _ S.TOz S.Ti1 S.Ti2 hTO⟩ q3 q4 qT (fun c o hb e => hk c o (fun q => hb (by simp [q])) (fun q => hb (by simp [q])) (fun q => hb (by simp [q])) e) (hk _ _ S.TIz S.TIi1 S.TIi2 hTI)
  done := by
    intro X hP hw hK hc i pins s σ H E I hf st hg
    subst hP hw hK
    obtain ⟨⟨hz, hTI, ⟨a1, a2, hTO⟩, h1, h2⟩, hle⟩ := st
    obtain ⟨xs, ys, hqx, hqy, hend, hge⟩ := hg
    obtain ⟨l1, rv1, p1, _⟩ := inv_sqK I hqx
    obtain ⟨l2, rv2, p2, _⟩ := inv_sqK I hqy
    have hh : X.A.in1.handled = none := I.ok.hd hc
    have D1 := drawsK (prog := X.prog) (w := X.w) k hh i1 a d1 l1.toArray
    have D2 := drawsK (prog := X.prog) (w := X.w) k hh i2 b d2 l2.toArray
    have g1 := rv1.length
    have g2 := rv2.length
    have c1 : i ≤ l1.toArray.size := by rw [List.size_toArray]; omega
    have c2 : i ≤ l2.toArray.size := by rw [List.size_toArray]; omega
    have c3 : i = l1.toArray.size ∨ i = l2.toArray.size := by rw [List.size_toArray, List.size_toArray]; omega
    have fin : ∀ h' tk, (∀ c o, c ∉ [z, TI, TO, i1, i2] → s.heap.get? c = some o → h'.get? c = some o) → (none : Option Value) = none ∧ Inv X pins σ H { s with heap := h', toks := tk } := fun h' tk hk => ⟨rfl, I.turnedL (t' := tk) (ch := [z, TI, TO, i1, i2]) hk hf⟩
    rcases hz with hz | ⟨T, f, hz⟩
    · exact wpAny_pyNext_zipD2_end S D1 D2 hz hTI hTO ⟨h1, p1⟩ ⟨h2, p2⟩ c1 c2 c3 fun h' tk hk => fin h' tk fun c o hb e => hk c o (fun q => hb (by simp [q])) (fun q => hb (by simp [q])) (fun q => hb (by simp [q])) (fun q => hb (by simp [q])) e
    · cases hT : s.heap.get? T with
      | none => exact zn_stop hz (fun Q' E' hE => zn_freeEnd S D1 D2 hz hT hTI hTO ⟨h1, p1⟩ ⟨h2, p2⟩ c1 c2 c3 hE) fun h' tk hk => fin h' tk fun c o hb e => hk c o (fun q => hb (by simp [q])) (fun q => hb (by simp [q])) (fun q => hb (by simp [q])) (fun q => hb (by simp [q])) e
      | some oT => exact zn_stop hz (fun Q' E' hE => zn_heldEnd S D1 D2 hz hT hTI ⟨h1, p1⟩ ⟨h2, p2⟩ c1 c2 c3 hE) fun h' tk hk => fin h' tk fun c o hb e => hk c o (fun q => hb (by simp [q])) (fun q => hb (by simp [q])) (fun q => hb (by simp [q])) e
  self := fun A i s Q E st h => by
    obtain ⟨⟨hz, _⟩, _⟩ := st
    rcases hz with hz | ⟨T, f, hz⟩
    · exact wpAny_pyIter_zip hz h
    · have ht : s.TypeIs (.ref z) "zip" := ⟨_, hz, rfl⟩
      exact wpAny_pyIter_slot ht F.slot_zip_iter (wpAny_call_entry F.slot_zip_iter ht F.entry_zip_iter (show wpAny _ _ (ret (.ref z)) _ _ s from wpAny_pure ⟨_, rfl, "zip", _, ht, F.slot_zip_next.lookup, h⟩) (F.args_zip_iter_1 _))
theorem pi_zipN (k : Bool) {X : Cx} {e e2 : Expr} {ta : TA} {nm : Str} {p pos tpos : Pos} (hg : Gl X "zip") (hm : X.mg "zip" = none) (ha : PA X [e, e2] ta)
    (hs : starEach [e, e2] X.env = (false, eval e X.env) :: starEach [e2] X.env := by rfl) (hpl : (backTo pos (starEach [e2] X.env)).any (·.1) = false := by rfl) :
    PI X (.Name nm tpos) (.Call (.Name "zip" p) [e, e2] [] pos) (fun σ H R => ta σ H fun vs H1 => ∃ a b xs ys, vs = [.ref a, .ref b] ∧ SqK k X.K H1 a xs ∧ SqK k X.K H1 b ys ∧ R (ItzN k X.K a b (min xs.length ys.length)) H1) := by
  refine ⟨fun pins s σ H R I h => ?_⟩
  refine Call_ (ld_blt I hg hm PyProof.Rows.boot_zip (PyProof.Rows.callWith_type1 (thn (ha.run pos pins s σ H _ I h) fun us s1 ⟨vs, H1, I1, r1, q1⟩ => ?_) hs hpl))
  obtain ⟨a, b, xs, ys, ex, hqx, hqy, q⟩ := q1
  subst ex
  cases r1 with
  | cons r rr =>
    cases rr with
    | cons r' rr =>
      cases rr
      cases r
      cases r'
      obtain ⟨l1, rv1, p1, _⟩ := inv_sqK I1 hqx
      obtain ⟨l2, rv2, p2, _⟩ := inv_sqK I1 hqy
      have la := p1.lt
      have lb := p2.lt
      obtain ⟨o1, B1, t1⟩ := beginsK k a l1.toArray
      obtain ⟨o2, B2, t2⟩ := beginsK k b l2.toArray
      refine zip_begins2 B1 B2 p1 p2 fun h' hz hTI hTO h1 h2 hsz hk => wpAny_pyIter_zip hz ?_
      have I2 : Inv X pins σ H1 { s1 with heap := h' } := I1.kept (t' := s1.toks) hk
      have hS : ZipSep2 (s1.heap.objs.size + 4) (s1.heap.objs.size + 2) (s1.heap.objs.size + 3) s1.heap.objs.size (s1.heap.objs.size + 1) [s1.heap.objs.size, a] [s1.heap.objs.size + 1, b] :=
        zip_sep2 (fun d hd => by rw [List.mem_singleton.mp hd]; exact la) (fun d hd => by rw [List.mem_singleton.mp hd]; exact lb)
      have na : (a : Nat) ≠ s1.heap.objs.size := Nat.ne_of_lt la
      have nb : (b : Nat) ≠ s1.heap.objs.size + 1 := Nat.ne_of_lt (Nat.lt_succ_of_lt lb)
      refine ⟨s1.heap.objs.size + 4, [s1.heap.objs.size + 4, s1.heap.objs.size + 2, s1.heap.objs.size + 3, s1.heap.objs.size, s1.heap.objs.size + 1], _, _, H1, rfl, I2, turn_zipN k (min xs.length ys.length) hS na nb, ⟨⟨.inl hz, hTI, ⟨_, _, hTO⟩, t1 _ _ h1, t2 _ _ h2⟩, Nat.zero_le _⟩, fun d hd => ?_, q⟩
      have e' : d = s1.heap.objs.size + 4 ∨ d = s1.heap.objs.size + 2 ∨ d = s1.heap.objs.size + 3 ∨ d = s1.heap.objs.size ∨ d = s1.heap.objs.size + 1 := by simpa using hd
      have hle : s1.heap.objs.size ≤ d := by
        rcases e' with z | z | z | z | z
        · rw [z]; exact Nat.le_add_right _ _
        · rw [z]; exact Nat.le_add_right _ _
        · rw [z]; exact Nat.le_add_right _ _
        · rw [z]; exact Nat.le_refl _
        · rw [z]; exact Nat.le_add_right _ _
      exact I1.fpOk hle (I1.hok.fresh hle)
section
variable {X : Cx} {ρ : List (Slot X.K)} {cs : List (Cell X.K)} {α β : Type} {pos : Pos}
theorem ik_zipN (k : Bool) {a b : Expr} {T : Ty X.K α} {U : Ty X.K β} {S1 : Ty X.K (List α)} {S2 : Ty X.K (List β)} {xs : List α} {ys : List β} {P1 P2 : Prop} {nm : Str} {p tpos : Pos} (hm : X.mg "zip" = none)
    (sq1 : ∀ F v x, S1.rep F v x → ∃ a vs, v = .ref a ∧ (∀ H, Same F H → SqK k X.K H a vs) ∧ Rl T F vs x ∧ vs.length ≤ sizeLine) (sq2 : ∀ F v x, S2.rep F v x → ∃ a vs, v = .ref a ∧ (∀ H, Same F H → SqK k X.K H a vs) ∧ Rl U F vs x ∧ vs.length ≤ sizeLine)
    (h1 : PK X a ρ cs S1 xs P1) (h2 : PK X b ρ cs S2 ys P2) (hg : Gl X "zip" := by rfl)
    (hs : starEach [a, b] X.env = (false, eval a X.env) :: starEach [b] X.env := by rfl) (hs2 : starEach [b] X.env = (false, eval b X.env) :: starEach [] X.env := by rfl)
    (hpl : (backTo pos (starEach [b] X.env)).any (·.1) = false := by rfl) :
    IK X (.Name nm tpos) (.Call (.Name "zip" p) [a, b] [] pos) ρ cs (tP T U) (xs.zip ys) (P1 ∧ P2) := fun F σ H ok q R kr => by
  refine wi (pi_zipN k hg hm (pa_cons pe_w (pa_cons pe_w pa_nil hs2) hs) hs hpl) ?_
  refine h1 F σ H ok q.1 _ fun v F1 H1 g1 r1 => ?_
  refine h2 F1 σ H1 (ok.grow g1) q.2 _ fun w F2 H2 g2 r2 => ?_
  obtain ⟨a1, vs, e1, q1, rl1, z1⟩ := sq1 _ _ _ (S1.mono g2.ff r1)
  obtain ⟨a2, ws, e2, q2, rl2, z2⟩ := sq2 _ _ _ r2
  have fh := g2.fh
  have ml : min vs.length ws.length = (xs.zip ys).length := by rw [List.length_zip, Rl.length rl1, Rl.length rl2]
  refine ⟨a1, a2, vs, ws, by rw [e1, e2], q1 _ fh, q2 _ fh, kr _ F2 H2 (g1.trans g2) (fun i F4 H4 e4 e5 => ?_) (by rw [← ml]; omega)⟩
  have s1 := q1 _ (e4.trans e5)
  have s2 := q2 _ (e4.trans e5)
  refine ⟨fun z hz => ?_, fun hi => ⟨vs, ws, s1, s2, rfl, by rw [ml]; exact hi⟩⟩
  obtain ⟨hx, hy⟩ := zip_get hz
  obtain ⟨v1, hv1, rv1⟩ := rl_get rl1 hx
  obtain ⟨w1, hw1, rw1⟩ := rl_get rl2 hy
  refine ⟨⟨by rw [ml]; exact (List.getElem?_eq_some_iff.mp hz).1, vs, ws, v1, w1, s1, s2, hv1, hw1⟩, fun v' H5 ⟨t, x', y', ev, hn, eh, hx', hy'⟩ => ?_⟩
  have t1 := (hx' vs s1).symm.trans hv1
  have t2 := (hy' ws s2).symm.trans hw1
  cases t1; cases t2
  subst ev; subst eh
  obtain ⟨g6, r6⟩ := grow_tup2 (T1 := T) (T2 := U) (x := z.1) (y := z.2) e5 hn (T.mono e4 rv1) (U.mono e4 rw1)
  exact ⟨_, g6, r6⟩
end
end MD
namespace K09
open PySem PySem.Spec PyProof.Rows L2 MD KP
def topS (i : Nat) : Stmt := PySem.Challenge.pw_meetdesks_k09_whole_the_first_row_that_p.main.body.getD i (.Pass ⟨0, 0, 0, 0⟩)
structure Bs (mg : Str → Option Value) : Prop where
  m_len : mg "len" = none
  b_len : bootBuiltins "len" = some (.builtin "len")
  m_range : mg "range" = none
  b_range : bootBuiltins "range" = some (.type "range")
  m_sorted : mg "sorted" = none
  b_sorted : bootBuiltins "sorted" = some (.builtin "sorted")
  m_set : mg "set" = none
  b_set : bootBuiltins "set" = some (.type "set")
  m_tuple : mg "tuple" = none
  b_tuple : bootBuiltins "tuple" = some (.type "tuple")
  m_list : mg "list" = none
  b_list : bootBuiltins "list" = some (.type "list")
  m_isinstance : mg "isinstance" = none
  b_isinstance : bootBuiltins "isinstance" = some (.builtin "isinstance")
  m_all : mg "all" = none
  b_all : bootBuiltins "all" = some (.builtin "all")
  m_any : mg "any" = none
  b_any : bootBuiltins "any" = some (.builtin "any")
  m_int : mg "int" = none
  b_int : bootBuiltins "int" = some (.type "int")
  m_max : mg "max" = none
  b_max : bootBuiltins "max" = some (.builtin "max")
  m_min : mg "min" = none
  b_min : bootBuiltins "min" = some (.builtin "min")
  m_str : mg "str" = none
  b_str : bootBuiltins "str" = some (.type "str")
  m_enumerate : mg "enumerate" = none
  b_enumerate : bootBuiltins "enumerate" = some (.type "enumerate")
  m_bool : mg "bool" = none
  b_bool : bootBuiltins "bool" = some (.type "bool")
  m_dict : mg "dict" = none
  b_dict : bootBuiltins "dict" = some (.type "dict")
  m_zip : mg "zip" = none
  b_zip : bootBuiltins "zip" = some (.type "zip")
  m_repr : mg "repr" = none
  b_repr : bootBuiltins "repr" = some (.builtin "repr")
structure Xs (K : PySem.W.Frag) (mg : Str → Option Value) (xa : XA) (C_MeetError : Addr) : Prop where
  un : True
open KM
abbrev Ma := List Str × List (List Int) × List Int
def fd_Machine {K : PySem.W.Frag} (x : Ma) : List (Str × MD.Slot K) := [("letters", .val (tUF tS) x.1), ("table", .val (tU (tU tI)) x.2.1), ("good", .val (tU tI) x.2.2)]
def ty_Machine {K : PySem.W.Frag} (C : Addr) : Ty K Ma := tIn C fd_Machine
structure Cl_Machine (K : PySem.W.Frag) (C : Addr) : Prop where
  c : Cls K C
  n_letters : NoAttr K C "letters"
  n_table : NoAttr K C "table"
  n_good : NoAttr K C "good"
structure TabOk (ls : List Str) (tab : List (List Int)) : Prop where
  ne : tab ≠ []
  few : tab.length ≤ 24
  lne : ls ≠ []
  l6 : ls.length ≤ 6
  nd : ls.Nodup
  w : ∀ s ∈ ls, Word s
  len : ∀ r ∈ tab, r.length = ls.length
  goal : ∀ r ∈ tab, ∀ g ∈ r, 0 ≤ g ∧ g < tab.length
/-- the good ones, rising -/
def GoodOk (tab : List (List Int)) (good : List Int) : Prop := good = (rng 0 (tab.length : Int)).filter fun k => decide (k ∈ good)
def MaOk (m : Ma) : Prop := TabOk m.1 m.2.1 ∧ GoodOk m.2.1 m.2.2
def pre_Machine_init (x : Ma) : Prop := MaOk x
def f_Machine_init (x : Ma) : Ma := x
def TG (m : Nat) (r : List (List Int) × List Int) : Prop := TOk m r.1 ∧ GoodOk r.1 r.2 ∧ 1 ≤ r.1.length ∧ r.1.length ≤ 24
def pre_machine (fl : List Int) (x : Int × List Str) : Prop := Fl fl ∧ 1 ≤ x.1 ∧ x.1 ≤ 24 ∧ x.2.length ≤ 6
def post_machine (fl : List Int) (x : Int × List Str) (r : List (List Int) × List Int) (fl2 : List Int) : Prop := Fl fl2 ∧ (r.1.length : Int) = x.1 ∧ (∀ s ∈ r.1, s.length = x.2.length ∧ ∀ g ∈ s, 0 ≤ g ∧ g < x.1) ∧ GoodOk r.1 r.2
def pre_blown (fl : List Int) (x : List (List Int) × List Int × Int) : Prop := Fl fl ∧ (∃ m, m ≤ 6 ∧ TG m (x.1, x.2.1)) ∧ x.1.length ≤ 8 ∧ 0 ≤ x.2.2 ∧ x.2.2 ≤ 8
def post_blown (fl : List Int) (x : List (List Int) × List Int × Int) (r : List (List Int) × List Int) (fl2 : List Int) : Prop := Fl fl2 ∧ ∀ m, TG m (x.1, x.2.1) → TG m r
def pre_counter (fl : List Int) (x : List Str) : Prop := Fl fl ∧ 1 ≤ x.length ∧ x.length ≤ 6
def post_counter (fl : List Int) (x : List Str) (r : List (List Int) × List Int) (fl2 : List Int) : Prop := Fl fl2 ∧ TG x.length r
def pre_road (fl : List Int) (x : List Str) : Prop := Fl fl ∧ 1 ≤ x.length ∧ x.length ≤ 6
def post_road (fl : List Int) (x : List Str) (r : List (List Int) × List Int) (fl2 : List Int) : Prop := Fl fl2 ∧ TG x.length r
noncomputable def bestR (ls : List Str) (tab : List (List Int)) (good : List Int) (p : Int × Int) : Option (List Str) := (best ls.length tab good p).map (rowOf ls)
def pre_by_rows (x : List Str × List (List Int) × List Int × Int × Int) : Prop := x.1.length ≤ 6 ∧ TOk x.1.length x.2.1 ∧ x.2.1.length ≤ 4 ∧ 1 ≤ x.2.1.length ∧ InP x.2.1 x.2.2.2
noncomputable def f_by_rows (x : List Str × List (List Int) × List Int × Int × Int) : Option (List Str) := bestR x.1 x.2.1 x.2.2.1 x.2.2.2
def pre_far (x : List (List Int) × List Int) : Prop := (∃ m, TOk m x.1) ∧ x.1.length ≤ 24 ∧ 1 ≤ x.1.length
def post_far (x : List (List Int) × List Int) (r : List ((Int × Int) × Int)) : Prop := ∀ m, TOk m x.1 → FarT m x.1 x.2 (x.1.length - 1) r
def pre_by_far (x : List Str × List (List Int) × List ((Int × Int) × Int) × Int × Int) : Prop := (∃ good, FarT x.1.length x.2.1 good (x.2.1.length - 1) x.2.2.1) ∧ x.1.length ≤ 6 ∧ TOk x.1.length x.2.1 ∧ x.2.1.length ≤ 24 ∧ 1 ≤ x.2.1.length ∧ InP x.2.1 x.2.2.2
def post_by_far (x : List Str × List (List Int) × List ((Int × Int) × Int) × Int × Int) (r : Option (List Str)) : Prop := (∀ good, FarT x.1.length x.2.1 good (x.2.1.length - 1) x.2.2.1 → r = bestR x.1 x.2.1 good x.2.2.2) ∧ ∀ l, r = some l → l.length ≤ 24 ∧ ∀ s ∈ l, s ∈ x.1
def pre_parted_from (x : Ma × Int × Int) : Prop := MaOk x.1 ∧ InP x.1.2.1 x.2
noncomputable def g_parted_from (x : Ma × Int × Int) : Option (List Str) ⊕ Rf := .inl (bestR x.1.1 x.1.2.1 x.1.2.2 x.2)
def pre_law (x : List Int) : Prop := x.length ≤ 63
def f_law (x : List Int) : Bool := true
theorem rng_len (n : Nat) : (rng 0 (n : Int)).length = n := by rw [rng_length]; omega
theorem rng_pw (n : Nat) : (rng 0 (n : Int)).Pairwise (· < ·) := by
  unfold rng
  rw [List.pairwise_map]
  exact List.pairwise_lt_range.imp fun h => by omega
theorem rng_memI {n : Nat} {g : Int} (h0 : 0 ≤ g) (h1 : g < n) : g ∈ rng 0 (n : Int) := List.mem_map.mpr ⟨g.toNat, List.mem_range.mpr (by omega), by omega⟩
theorem rng_mem {n : Nat} {g : Int} (h : g ∈ rng 0 (n : Int)) : 0 ≤ g ∧ g < n := by
  obtain ⟨i, hi, rfl⟩ := List.mem_map.mp h
  have := List.mem_range.mp hi
  omega
theorem good_of {tab : List (List Int)} {good : List Int} (h : good.Pairwise (· < ·)) (hb : ∀ g ∈ good, 0 ≤ g ∧ g < (tab.length : Int)) : GoodOk tab good :=
  pw_ext h ((rng_pw tab.length).filter _) fun x => by
    rw [List.mem_filter, decide_eq_true_eq]
    exact ⟨fun hx => ⟨rng_memI (hb x hx).1 (hb x hx).2, hx⟩, fun hx => hx.2⟩
theorem good_in {tab : List (List Int)} {good : List Int} (h : GoodOk tab good) {g : Int} (hg : g ∈ good) : 0 ≤ g ∧ g < (tab.length : Int) := by
  rw [h] at hg
  exact rng_mem (List.mem_filter.mp hg).1
theorem good_pw {tab : List (List Int)} {good : List Int} (h : GoodOk tab good) : good.Pairwise (· < ·) := by
  rw [h]
  exact (rng_pw _).filter _
theorem good_sort {tab : List (List Int)} {good : List Int} (h : GoodOk tab good) : sortI1 good = good := (sortI1_of (good_pw h) fun x => Iff.rfl).symm
theorem pyIx_some {α : Type} [Inhabited α] {xs : List α} {n : Nat} (h : n < xs.length) : xs[n]? = some (pyIx xs (n : Int)) := by
  obtain ⟨x, e, hx⟩ := pyIx_nat (xs := xs) (i := (n : Int)) (by omega) (by omega)
  rw [e]
  exact hx
theorem tok_of {ls : List Str} {tab : List (List Int)} (h : TabOk ls tab) : TOk ls.length tab := ⟨h.len, h.goal⟩
theorem trip_get {ls : List Str} {tab : List (List Int)} {p : Int × Int} {ws : List (List Nat)} {at_ : Int} {n : Nat} (e : at_ = (n : Int)) {w : List Nat} (hw : ws[n]? = some w) : pyIx (ws.map (trip ls tab p)) at_ = trip ls tab p w := by
  have hn : n < ws.length := (List.getElem?_eq_some_iff.mp hw).1
  have := pyIx_some (xs := ws.map (trip ls tab p)) (n := n) (by rw [List.length_map]; exact hn)
  rw [List.getElem?_map, hw] at this
  rw [e]
  exact (Option.some.inj this).symm
theorem dput_key {κ α : Type} [DecidableEq κ] {kvs : List (κ × α)} {x : κ} {y : α} (h : dget kvs x = none) : dput kvs x y = kvs ++ [(x, y)] := by
  unfold dput
  rw [if_neg]
  intro e
  obtain ⟨q, hq, hx⟩ := List.any_eq_true.mp e
  unfold dget at h
  have := Option.map_eq_none_iff.mp h
  exact (List.find?_eq_none.mp this q hq) (by simpa using hx)
theorem dget_app_some {κ α : Type} [DecidableEq κ] {kvs : List (κ × α)} {x z : κ} {y : α} : (dget (kvs ++ [(x, y)]) z).isSome = ((dget kvs z).isSome || decide (x = z)) := by
  unfold dget
  rw [List.find?_append]
  cases q : kvs.find? (fun p => decide (p.1 = z)) with
  | some p => simp
  | none =>
    by_cases e : x = z
    · simp [e]
    · simp [e]
structure Sml (n : Nat) (d : PyData) : Prop where
  s : d.showable = true
  h : d.hasDict = false
  l : d.leavesShort 13 = true
  w : d.weight ≤ n
theorem Sml.mono {n m : Nat} {d : PyData} (h : Sml n d) (hm : n ≤ m) : Sml m d := ⟨h.s, h.h, h.l, Nat.le_trans h.w hm⟩
theorem sml_str {w : Str} (h : Word w) : Sml 8 (.str w) := by
  refine ⟨by simp only [PyData.showable], by simp only [PyData.hasDict], ?_, ?_⟩
  · simp only [PyData.leavesShort, List.all_eq_true, decide_eq_true_eq]
    intro c hc
    have := h.2.2 c hc
    have e : (16 : Nat) ^ 8 = 4294967296 := by decide
    omega
  · simp only [PyData.weight]
    exact h.2.1
theorem sml_int {i : Int} (h0 : 0 ≤ i) (h1 : i < 1000) : Sml 1001 (.int i) := by
  have hl : i.natAbs.log2 ≤ i.natAbs := Nat.log2_le_self _
  refine ⟨by simp only [PyData.showable, decide_eq_true_eq]; omega, by simp only [PyData.hasDict], ?_, ?_⟩
  · simp only [PyData.leavesShort, decide_eq_true_eq]
    exact PyData.shown_int_le (by have e : (10 : Nat) ^ 12 = 1000000000000 := by decide
                                  omega)
  · simp only [PyData.weight]
    split <;> omega
theorem sml_all {n : Nat} : ∀ {xs : List PyData}, (∀ x ∈ xs, Sml n x) → PyData.showableAll xs = true ∧ PyData.hasDictAll xs = false ∧ PyData.leavesShortAll 13 xs = true ∧ PyData.weightAll xs ≤ (n + 1) * xs.length
  | [], _ => ⟨by simp only [PyData.showableAll], by simp only [PyData.hasDictAll], by simp only [PyData.leavesShortAll], by simp only [PyData.weightAll]; exact Nat.zero_le _⟩
  | x :: xs, h => by
    obtain ⟨h1, h2, h3, h4⟩ := sml_all fun y hy => h y (List.mem_cons_of_mem _ hy)
    have hx := h x List.mem_cons_self
    have hw := hx.w
    refine ⟨by simp only [PyData.showableAll, hx.s, h1, Bool.and_self], by simp only [PyData.hasDictAll, hx.h, h2, Bool.or_self], by simp only [PyData.leavesShortAll, hx.l, h3, Bool.and_self], ?_⟩
    simp only [PyData.weightAll, List.length_cons]
    have : (n + 1) * (xs.length + 1) = (n + 1) * xs.length + (n + 1) := Nat.mul_succ _ _
    omega
theorem sml_list {n : Nat} {xs : List PyData} (h : ∀ x ∈ xs, Sml n x) : Sml ((n + 1) * xs.length) (.list xs) := by
  obtain ⟨h1, h2, h3, h4⟩ := sml_all h
  exact ⟨by simp only [PyData.showable, h1], by simp only [PyData.hasDict, h2], by simp only [PyData.leavesShort, h3], by simp only [PyData.weight]; exact h4⟩
theorem sml_tup {n : Nat} {xs : List PyData} (h : ∀ x ∈ xs, Sml n x) : Sml ((n + 1) * xs.length) (.tuple xs) := by
  obtain ⟨h1, h2, h3, h4⟩ := sml_all h
  exact ⟨by simp only [PyData.showable, h1], by simp only [PyData.hasDict, h2], by simp only [PyData.leavesShort, h3], by simp only [PyData.weight]; exact h4⟩
theorem Sml.fits {n : Nat} {d : PyData} (h : Sml n d) (hn : n ≤ 1048576) : d.showable = true ∧ d.hasDict = false ∧ d.shown.length ≤ sizeLine :=
  ⟨h.s, h.h, PyData.shown_fits (B := 13) (by decide) (by decide) h.l (Nat.le_trans h.w (Nat.le_trans hn (by decide)))⟩
theorem sml_words {ws : List Str} {n : Nat} (h : ∀ w ∈ ws, Word w) (hn : ws.length ≤ n) : Sml (9 * n) (.tuple (ws.map .str)) ∧ Sml (9 * n) (.list (ws.map .str)) := by
  have h1 : ∀ x ∈ ws.map PyData.str, Sml 8 x := fun x hx => by
    obtain ⟨w, hw, rfl⟩ := List.mem_map.mp hx
    exact sml_str (h w hw)
  have hl : (8 + 1) * (ws.map PyData.str).length ≤ 9 * n := by rw [List.length_map]; omega
  exact ⟨(sml_tup h1).mono hl, (sml_list h1).mono hl⟩
theorem good_len {ls : List Str} {tab : List (List Int)} {good : List Int} (hT : TabOk ls tab) (hg : GoodOk tab good) : good.length ≤ 24 := by
  have h1 : good.length ≤ (rng 0 (tab.length : Int)).length := by
    have e : good = (rng 0 (tab.length : Int)).filter fun k => decide (k ∈ good) := hg
    rw [e]
    exact List.length_filter_le _ _
  rw [rng_len] at h1
  exact Nat.le_trans h1 hT.few
theorem sml_ma {ls : List Str} {tab : List (List Int)} {good : List Int} (hT : TabOk ls tab) (hg : GoodOk tab good) : Sml 432939 (.tuple [.tuple (ls.map .str), .tuple (tab.map fun r => .tuple (r.map .int)), .tuple (good.map .int)]) := by
  have h24 := hT.few
  have l6 := hT.l6
  have k1 := (sml_words hT.w hT.l6).1
  have ki : ∀ {xs : List Int} {n : Nat}, xs.length ≤ n → (∀ g ∈ xs, 0 ≤ g ∧ g < (tab.length : Int)) → Sml (1002 * n) (.tuple (xs.map .int)) := fun {xs n} hn h => by
    have h2 : ∀ y ∈ xs.map PyData.int, Sml 1001 y := fun y hy => by
      obtain ⟨g, hgm, rfl⟩ := List.mem_map.mp hy
      have := h g hgm
      exact sml_int this.1 (by omega)
    refine (sml_tup h2).mono ?_
    rw [List.length_map]
    omega
  have k3 := ki (good_len hT hg) fun g h => good_in hg h
  have k2 : Sml (6013 * 24) (.tuple (tab.map fun r => .tuple (r.map .int))) := by
    have h2 : ∀ y ∈ tab.map (fun r => PyData.tuple (r.map .int)), Sml 6012 y := fun y hy => by
      obtain ⟨r, hr, rfl⟩ := List.mem_map.mp hy
      exact ki (n := 6) (by rw [hT.len r hr]; exact l6) (hT.goal r hr)
    refine (sml_tup h2).mono ?_
    rw [List.length_map]
    omega
  have h : ∀ x ∈ [PyData.tuple (ls.map .str), .tuple (tab.map fun r => .tuple (r.map .int)), .tuple (good.map .int)], Sml 144312 x := fun x hx => by
    simp only [List.mem_cons, List.not_mem_nil, or_false] at hx
    rcases hx with rfl | rfl | rfl
    · exact k1.mono (by decide)
    · exact k2.mono (by decide)
    · exact k3.mono (by decide)
  exact (sml_tup h).mono (by simp only [List.length_cons, List.length_nil]; omega)
theorem tabok {ls : List Str} {n : Int} {tab : List (List Int)} {good : List Int} (hN : Names n ls) (h1 : 1 ≤ n) (h6 : n ≤ 6) (h : TG ls.length (tab, good)) : TabOk ls tab := by
  have hl : (ls.length : Int) = n := hN.1
  exact ⟨fun e => by have h0 : 1 ≤ tab.length := h.2.2.1; rw [e] at h0; exact absurd h0 (by decide), h.2.2.2, fun e => by rw [e] at hl; simp at hl; omega, by omega, hN.2.1, hN.2.2, h.1.len, h.1.goal⟩
theorem machine_tg {fl fl2 : List Int} {n : Int} {ls : List Str} {r : List (List Int) × List Int} (h : post_machine fl (n, ls) r fl2) (h1 : 1 ≤ n) (h2 : n ≤ 24) : TG ls.length r := by
  obtain ⟨_, hl, hr, hg⟩ := h
  have hl : (r.1.length : Int) = n := hl
  exact ⟨⟨fun s hs => (hr s hs).1, fun s hs g hgm => ⟨((hr s hs).2 g hgm).1, by have : g < n := ((hr s hs).2 g hgm).2; omega⟩⟩, hg, by omega, by omega⟩
theorem dgetP {κ α : Type} [DecidableEq κ] {kvs : List (κ × α)} {x z : κ} {y : α} : dget (dput kvs x y) z = if x = z then some y else dget kvs z := by
  unfold dput
  split
  · rename_i h
    obtain ⟨q, hq, hx⟩ := List.any_eq_true.mp h
    have hx : q.1 = x := of_decide_eq_true hx
    clear h
    unfold dget
    induction kvs with
    | nil => cases hq
    | cons p kvs ih =>
      rw [List.map_cons]
      by_cases e : p.1 = x
      · rw [if_pos e]
        by_cases g : x = z
        · rw [List.find?_cons_of_pos (by simp [e, g]), if_pos g]
          rfl
        · have g2 : ¬ p.1 = z := fun q => g (e.symm.trans q)
          rw [List.find?_cons_of_neg (by simp [g2]), List.find?_cons_of_neg (by simp [g2]), if_neg g]
          by_cases hk : q ∈ kvs
          · have := ih hk
            rw [if_neg g] at this
            exact this
          · have : kvs.map (fun p => if decide (p.1 = x) = true then (p.1, y) else p) = kvs.map (fun p => if p.1 = x then (p.1, y) else p) := by simp
            clear ih this
            congr 1
            induction kvs with
            | nil => rfl
            | cons r kvs ih2 =>
              rw [List.map_cons]
              by_cases e2 : r.1 = x
              · have g3 : ¬ r.1 = z := fun q => g (e2.symm.trans q)
                rw [if_pos e2, List.find?_cons_of_neg (by simp [g3]), List.find?_cons_of_neg (by simp [g3])]
                refine ih2 ?_ fun c => hk (List.mem_cons_of_mem _ c)
                rcases List.mem_cons.mp hq with c | c
                · exact List.mem_cons.mpr (.inl c)
                · exact absurd c hk
              · rw [if_neg e2]
                by_cases g3 : r.1 = z
                · rw [List.find?_cons_of_pos (by simp [g3]), List.find?_cons_of_pos (by simp [g3])]
                · rw [List.find?_cons_of_neg (by simp [g3]), List.find?_cons_of_neg (by simp [g3])]
                  refine ih2 ?_ fun c => hk (List.mem_cons_of_mem _ c)
                  rcases List.mem_cons.mp hq with c | c
                  · exact List.mem_cons.mpr (.inl c)
                  · exact absurd c hk
      · rw [if_neg e]
        have hk : q ∈ kvs := by
          rcases List.mem_cons.mp hq with c | c
          · exact absurd (c ▸ hx) e
          · exact c
        by_cases g2 : p.1 = z
        · rw [List.find?_cons_of_pos (by simp [g2]), List.find?_cons_of_pos (by simp [g2])]
          by_cases g : x = z
          · exact absurd (g2.trans g.symm) e
          · rw [if_neg g]
        · rw [List.find?_cons_of_neg (by simp [g2]), List.find?_cons_of_neg (by simp [g2])]
          exact ih hk
  · rename_i h
    unfold dget
    rw [List.find?_append]
    by_cases g : x = z
    · subst g
      rw [if_pos rfl, List.find?_eq_none.mpr fun p hp c => h (List.any_eq_true.mpr ⟨p, hp, c⟩)]
      simp
    · rw [if_neg g, List.find?_cons_of_neg (by simp [g])]
      simp
theorem dget_more {κ α : Type} [DecidableEq κ] {c : α} {q : κ} : ∀ {more : List κ} {kvs : List (κ × α)}, dget (dMore kvs (more.map fun k => (k, c))) q = if q ∈ more then some c else dget kvs q
  | [], kvs => by simp [dMore]
  | k :: more, kvs => by
    show dget (dMore (dput kvs k c) (more.map fun k => (k, c))) q = _
    rw [dget_more (more := more), dgetP]
    by_cases a1 : q ∈ more
    · rw [if_pos a1, if_pos (List.mem_cons_of_mem _ a1)]
    · rw [if_neg a1]
      by_cases a2 : k = q
      · rw [if_pos a2, if_pos (a2 ▸ List.mem_cons_self)]
      · rw [if_neg a2, if_neg (fun h => by rcases List.mem_cons.mp h with e | e; exact a2 e.symm; exact a1 e)]
theorem dput_len {κ α : Type} [DecidableEq κ] {kvs : List (κ × α)} {x : κ} {y : α} : (dput kvs x y).length ≤ kvs.length + 1 := by
  unfold dput
  split
  · rw [List.length_map]; exact Nat.le_succ _
  · rw [List.length_append]; exact Nat.le_refl _
theorem more_len {κ α : Type} [DecidableEq κ] : ∀ {more kvs : List (κ × α)}, (dMore kvs more).length ≤ kvs.length + more.length
  | [], kvs => Nat.le_refl _
  | p :: more, kvs => by
    have h1 := more_len (more := more) (kvs := dput kvs p.1 p.2)
    have h2 := dput_len (kvs := kvs) (x := p.1) (y := p.2)
    show (dMore (dput kvs p.1 p.2) more).length ≤ _
    rw [List.length_cons]
    omega
end K09
namespace K09
open PySem PySem.Spec PyProof.Rows L2 MD KP KM
noncomputable section
variable {P : Program} {w : World} {K : PySem.W.Frag} {mg : Str → Option Value} {base : Heap}
abbrev s_cell : Stmt := topS 11
theorem sc_cell : FnScope ["_law_script", "_law_k", "_law_number"] ["_law_script", "_law_k"] (defScope s_cell) := ⟨rfl, rfl, rfl, by decide +kernel, rfl, by decide +kernel, by decide +kernel⟩
def c_cell (K : PySem.W.Frag) := Con.fn (K := K) (fun x : ((List Int) × Int) => [.val (tLK tI) x.1, .val tI x.2]) tI pre_cell f_cell
theorem ok_cell (bs : Bs mg) {f : Addr} {fd : FuncData} (F : Fun K "_law_cell" "_law_cell" s_cell f fd) : FnOk P w K mg base (L2.CX P w) 1 f fd ["_law_script", "_law_k"] (c_cell K).sp := by
  refine fn_con (c_cell K) F sc_cell (fun _ => rfl) ?_
  intro cdv Ar outer s H E F0 a φ ε hr hp
  have hu := hu_of hr
  have sc := sc_cell
  refine' SK.vc ?hh ?vc
  case hh =>
   refine' sk_seq (sk_if1 (pt_cmp' op_lt r2_B0 (pk_var (i := 1) rfl) (PV.k (pv_cb cr_lenQ bs.m_len bs.b_len u_len (PV.kq (PK.lk (pk_var (i := 0) rfl)))))) ?a12 ?b13)
   case a12 =>
    exact sk_retF (pk_ixR (T := tI) (PK.lk (pk_var (i := 0) rfl)) (pk_var (i := 1) rfl))
   case b13 =>
    refine' sk_nilX rfl ?k14
    case k14 =>
     refine' sk_set (i := 2) (by exact sc.nd) (pk_op op_add r2_I0 (pk_op op_mul r2_I (pk_var (i := 1) rfl) pk_int) pk_int) ?k15
     case k15 =>
      intro number_1
      refine' sk_st (ρ2 := [.val (tLK tI) a.1, .val tI a.2, .val tI number_1]) (cs2 := []) rfl rfl ?k16
      case k16 =>
       refine' sk_join (fun z_2 : Int => [.val (tLK tI) a.1, .val tI a.2, .val tI z_2]) (fun z_2 : Int => []) ?h17 ?k18
       case h17 =>
        intro R_3
        refine' sk_if1 (pt_cmp' op_gt r2_B0 (PV.k (pv_cb cr_lenQ bs.m_len bs.b_len u_len (PV.kq (PK.lk (pk_var (i := 0) rfl))))) pk_int) ?a19 ?b20
        case a19 =>
         refine' sk_set (i := 2) (by exact sc.nd) (pk_op op_add r2_I0 (pk_op op_mul r2_I (pk_op op_mod r2_I (pk_ixR (T := tI) (PK.lk (pk_var (i := 0) rfl)) (pk_op op_mod r2_I (pk_op op_mul r2_I (pk_var (i := 1) rfl) pk_int) (PV.k (pv_cb cr_lenQ bs.m_len bs.b_len u_len (PV.kq (PK.lk (pk_var (i := 0) rfl))))))) pk_int) pk_int) (pk_op op_mul r2_I (pk_var (i := 1) rfl) pk_int)) ?k21
         case k21 =>
          intro number_4
          refine' sk_st (ρ2 := [.val (tLK tI) a.1, .val tI a.2, .val tI number_4]) (cs2 := []) rfl rfl ?k22
          case k22 =>
           exact sk_midX (z := _) rfl (.same (.same (.same .nil))) rfl
        case b20 =>
         exact sk_midX (z := _) rfl (.same (.same (.same .nil))) rfl
       case k18 =>
        intro z_2
        exact sk_retF (pk_op op_mul r2_I (pk_op op_mod r2_I (pk_var (i := 2) rfl) pk_int) pk_int)
  case vc =>
   intro h
   simp only [true_and, and_true, yes1, yes2]
   obtain ⟨xs, k⟩ := a
   obtain ⟨hk, hφ⟩ := h
   have hk : 0 ≤ k := hk
   try dsimp only at hφ
   try dsimp only
   have l0 : (0 : Int) ≤ xs.length := Int.natCast_nonneg _
   refine ⟨fun h1 => ?_, fun h1 => ?_⟩
   · have h1 : k < xs.length := of_decide_eq_true h1
     refine ⟨⟨by omega, h1⟩, hφ _ ?_⟩
     unfold f_cell
     rw [if_pos h1]
   · have h1 : ¬ k < xs.length := of_decide_eq_false h1
     refine ⟨.inr ⟨by decide, by decide⟩, fun z hz => ⟨fun y => y = (if 0 < xs.length then pyIx xs (k * 7 % xs.length) % 2147483629 * 48271 + k * 7919 else k * 7919 + 5), ⟨fun h2 => ?_, fun h2 => ?_⟩, fun y hy => ?_⟩⟩
     · have h2 : 0 < (xs.length : Int) := of_decide_eq_true h2
       have h3 : 0 < xs.length := by omega
       refine ⟨⟨⟨⟨⟨⟨.inr ⟨by decide, by decide⟩, h2⟩, ?_⟩, by decide⟩, .inr ⟨by decide, by decide⟩⟩, .inr ⟨by decide, by decide⟩⟩, fun y hy => ?_⟩
       · have := Int.emod_nonneg (k * 7) (show (xs.length : Int) ≠ 0 by omega)
         exact ⟨by omega, Int.emod_lt_of_pos _ h2⟩
       · rw [if_pos h3]; exact hy
     · have h2 : ¬ 0 < (xs.length : Int) := of_decide_eq_false h2
       rw [if_neg (by omega)]; exact hz
     · refine ⟨⟨by decide, .inr ⟨by decide, by decide⟩⟩, hφ _ ?_⟩
       unfold f_cell
       rw [if_neg h1, hy]
abbrev s_flow : Stmt := topS 12
theorem sc_flow : FnScope ["_law_script", "_law_k", "_law_cell_here", "_law_own"] ["_law_script", "_law_k"] (defScope s_flow) := ⟨rfl, rfl, rfl, by decide +kernel, rfl, by decide +kernel, by decide +kernel⟩
def c_flow (K : PySem.W.Frag) := Con.mk1 (K := K) (fun x : ((List Int) × Int) => [.val (tLK tI) x.1, .val tI x.2]) tI pre_flow post_flow
theorem ok_flow (bs : Bs mg) {f_cell : Addr} {fd_cell : FuncData} (g_cell : Cal P w K mg base "_law_cell" 1 ["_law_script", "_law_k"] (c_cell K).sp f_cell fd_cell) {f : Addr} {fd : FuncData} (F : Fun K "_law_flow" "_law_flow" s_flow f fd) : FnOk P w K mg base (L2.CX P w) 2 f fd ["_law_script", "_law_k"] (c_flow K).sp := by
  refine fn_con (c_flow K) F sc_flow (fun _ => rfl) ?_
  intro cdv Ar outer s H E F0 a φ ε hr hp
  have hu := hu_of hr
  have sc := sc_flow
  refine' SK.vc ?hh ?vc
  case hh =>
   refine' sk_set (i := 2) (by exact sc.nd) (pk_fn g_cell.F (slC sl1) hr g_cell.m g_cell.k g_cell.b (pa_C (pk_var (i := 0) rfl) (pa_1 (pk_var (i := 1) rfl)))) ?k33
   case k33 =>
    intro cell_here_1
    refine' sk_st (ρ2 := [.val (tLK tI) a.1, .val tI a.2, .val tI cell_here_1, .un]) (cs2 := []) rfl rfl ?k34
    case k34 =>
     refine' sk_set (i := 3) (by exact sc.nd) pk_int ?k35
     case k35 =>
      intro own_2
      refine' sk_st (ρ2 := [.val (tLK tI) a.1, .val tI a.2, .val tI cell_here_1, .val tI own_2]) (cs2 := []) rfl rfl ?k36
      case k36 =>
       refine' sk_join (fun z_3 : Int => [.val (tLK tI) a.1, .val tI a.2, .val tI cell_here_1, .val tI z_3]) (fun z_3 : Int => []) ?h37 ?k38
       case h37 =>
        intro R_4
        refine' sk_if1 (pt_cmp' op_ge r2_B0 (pk_var (i := 2) rfl) (pk_op op_pow r2_I pk_int pk_int)) ?a39 ?b40
        case a39 =>
         refine' sk_set (i := 3) (by exact sc.nd) (pk_var (i := 2) rfl) ?k41
         case k41 =>
          intro own_5
          refine' sk_st (ρ2 := [.val (tLK tI) a.1, .val tI a.2, .val tI cell_here_1, .val tI own_5]) (cs2 := []) rfl rfl ?k42
          case k42 =>
           exact sk_midX (z := _) rfl (.same (.same (.same (.same .nil)))) rfl
        case b40 =>
         exact sk_midX (z := _) rfl (.same (.same (.same (.same .nil)))) rfl
       case k38 =>
        intro z_3
        exact sk_retN (NK.ne (nk_lst (pl_C (pk_var (i := 3) rfl) (pl_C pk_int (pl_C (pk_op op_add r2_I0 (pk_op op_mod r2_I (pk_var (i := 2) rfl) pk_int) (pk_op op_mul r2_I pk_int (pk_var (i := 1) rfl))) pl_0))) (Nat.le_of_ble_eq_true rfl)))
  case vc =>
   intro h
   simp only [true_and, and_true, yes1, yes2]
   obtain ⟨xs, k⟩ := a
   obtain ⟨⟨k0, k1⟩, hφ⟩ := h
   have k0 : 0 ≤ k := k0
   have k1 : k ≤ 1000000 := k1
   try dsimp only at hφ
   try dsimp only
   refine ⟨k0, fun c hc o ho => ⟨fun _ => True, ⟨⟨by decide, by decide, by decide⟩, fun _ _ _ => trivial, fun _ => trivial⟩, fun x _ => ⟨⟨by decide, .inl ⟨by decide, by decide⟩⟩, fun l r hr => hφ l r ?_⟩⟩⟩
   have m := Int.emod_nonneg c (show (2147483629 : Int) ≠ 0 by decide)
   have m2 := Int.emod_lt_of_pos c (show (0 : Int) < 2147483629 by decide)
   exact ⟨x, 0, c % 2147483629 + 40692 * k, hr, by omega, by omega⟩
abbrev s_draw : Stmt := topS 13
theorem sc_draw : FnScope ["_law_flow_here", "_law_many", "_law_digit", "_law_number"] ["_law_flow_here", "_law_many"] (defScope s_draw) := ⟨rfl, rfl, rfl, by decide +kernel, rfl, by decide +kernel, by decide +kernel⟩
def c_draw (K : PySem.W.Frag) := Con.o1 (K := K) tI (fun x : Int => [.val tI x]) tI pre_draw post_draw
theorem ok_draw (bs : Bs mg) {f : Addr} {fd : FuncData} (F : Fun K "_law_draw" "_law_draw" s_draw f fd) : FnOk P w K mg base (L2.CX P w) 1 f fd ["_law_flow_here", "_law_many"] (c_draw K).sp := by
  refine fn_con (c_draw K) F sc_draw (fun _ => rfl) ?_
  intro cdv Ar outer s H E F0 a φ ε hr hp
  have hu := hu_of hr
  have sc := sc_draw
  refine' SK.vc ?hh ?vc
  case hh =>
   refine' sk_seq (sk_if1 (pt_cmp' op_gt r2_B0 (pk_ixR (T := tI) (PV.lk (PK.own 0 (pk_var (i := 0) rfl) rfl)) pk_int) pk_int) ?a56 ?b57)
   case a56 =>
    refine' sk_set (i := 2) (by exact sc.nd) (pk_op op_mod r2_I (pk_ixR (T := tI) (PV.lk (PK.own 0 (pk_var (i := 0) rfl) rfl)) pk_int) (pk_var (i := 1) rfl)) ?k58
    case k58 =>
     intro digit_1
     refine' sk_st (ρ2 := [.val tR a.1, .val tI a.2.2, .val tI digit_1, .un]) (cs2 := [⟨a.1, cL tI a.2.1⟩]) rfl rfl ?k59
     case k59 =>
      refine' sk_setIx 0 (PK.ek (pk_op op_fdiv r2_I (pk_ixR (T := tI) (PV.lk (PK.own 0 (pk_var (i := 0) rfl) rfl)) pk_int) (pk_var (i := 1) rfl))) (fun _ => (pk_var (i := 0) rfl)) (fun _ => pk_int) (fun _ => rfl) ?k60
      case k60 =>
       intro y_2 w_3
       refine' sk_st (ρ2 := [.val tR a.1, .val tI a.2.2, .val tI digit_1, .un]) (cs2 := [⟨a.1, cL tI w_3⟩]) rfl rfl ?k61
       case k61 =>
        exact sk_retO (pk_var (i := 2) rfl) rfl
   case b57 =>
    refine' sk_nilX rfl ?k62
    case k62 =>
     refine' sk_setIx 0 (PK.ek (pk_op op_add r2_I0 (pk_ixR (T := tI) (PV.lk (PK.own 0 (pk_var (i := 0) rfl) rfl)) pk_int) pk_int)) (fun _ => (pk_var (i := 0) rfl)) (fun _ => pk_int) (fun _ => rfl) ?k63
     case k63 =>
      intro y_4 w_5
      refine' sk_st (ρ2 := [.val tR a.1, .val tI a.2.2, .un, .un]) (cs2 := [⟨a.1, cL tI w_5⟩]) rfl rfl ?k64
      case k64 =>
       refine' sk_set (i := 3) (by exact sc.nd) (pk_op op_mod r2_I (pk_op op_add r2_I0 (pk_op op_add r2_I0 (pk_op op_mul r2_I (pk_ixR (T := tI) (PV.lk (PK.own 0 (pk_var (i := 0) rfl) rfl)) pk_int) (pk_op op_add r2_I0 pk_int (pk_op op_mul r2_I pk_int (pk_ixR (T := tI) (PV.lk (PK.own 0 (pk_var (i := 0) rfl) rfl)) pk_int)))) (pk_op op_mul r2_I pk_int (pk_ixR (T := tI) (PV.lk (PK.own 0 (pk_var (i := 0) rfl) rfl)) pk_int))) pk_int) pk_int) ?k65
       case k65 =>
        intro number_6
        refine' sk_st (ρ2 := [.val tR a.1, .val tI a.2.2, .un, .val tI number_6]) (cs2 := [⟨a.1, cL tI w_5⟩]) rfl rfl ?k66
        case k66 =>
         refine' sk_set (i := 3) (by exact sc.nd) (pk_op op_mod r2_I (pk_op op_mul r2_I (pk_var (i := 3) rfl) (pk_var (i := 3) rfl)) pk_int) ?k67
         case k67 =>
          intro number_7
          refine' sk_st (ρ2 := [.val tR a.1, .val tI a.2.2, .un, .val tI number_7]) (cs2 := [⟨a.1, cL tI w_5⟩]) rfl rfl ?k68
          case k68 =>
           exact sk_retO (pk_op op_mod r2_I (pk_op op_fdiv r2_I (pk_op op_mod r2_I (pk_op op_mul r2_I (pk_op op_add r2_I0 (pk_var (i := 3) rfl) pk_int) (pk_op op_add r2_I0 (pk_var (i := 3) rfl) pk_int)) pk_int) pk_int) (pk_var (i := 1) rfl)) rfl
  case vc =>
   intro h
   simp only [true_and, and_true, yes1, yes2]
   obtain ⟨l, fl, n⟩ := a
   obtain ⟨⟨⟨x, b, c, hf, c0, c1⟩, n0, n1⟩, hφ⟩ := h
   simp only at hf n0 n1 hφ ⊢
   subst hf
   have i0 : pyIx [x, b, c] 0 = x := rfl
   have o0 : IxOk [x, b, c] 0 := ⟨by simp, by simp⟩
   have o1 : IxOk [x, b, c] 1 := ⟨by simp, by simp⟩
   have w0 : IxW [x, b, c] 0 := ⟨by simp, by simp⟩
   have w1 : IxW [x, b, c] 1 := ⟨by simp, by simp⟩
   rw [i0]
   refine ⟨o0, fun hx => ⟨⟨o0, n0⟩, fun z hz => ⟨⟨o0, ?_⟩, w0, fun z1 hz1 => hφ _ _ ⟨?_, ?_, ?_⟩⟩⟩, fun hx => ⟨o1, w1, fun z hz => ?_⟩⟩
   · exact ⟨n0, by omega⟩
   · rw [hz]; exact Int.emod_nonneg _ (by omega)
   · rw [hz]; exact Int.emod_lt_of_pos _ n0
   · exact ⟨x / n, b, c, by rw [hz1]; rfl, c0, c1⟩
   · have hz' : z = [x, b + 1, c] := by rw [hz]; rfl
     clear hz
     subst hz'
     have j1 : pyIx [x, b + 1, c] 1 = b + 1 := rfl
     have j2 : pyIx [x, b + 1, c] 2 = c := rfl
     have p1 : IxOk [x, b + 1, c] 1 := ⟨by simp, by simp⟩
     have p2 : IxOk [x, b + 1, c] 2 := ⟨by simp, by simp⟩
     rw [j1, j2]
     refine ⟨⟨⟨⟨p2, ⟨p1, .inl ⟨by decide, by decide⟩⟩, .inl ⟨by omega, by omega⟩⟩, p1, .inl ⟨by decide, by decide⟩⟩, by decide⟩, fun z1 hz1 => ?_⟩
     have m1 : 0 ≤ z1 ∧ z1 < 2147483629 := by rw [hz1]; exact ⟨Int.emod_nonneg _ (by decide), Int.emod_lt_of_pos _ (by decide)⟩
     clear hz1
     refine ⟨⟨.inl ⟨by omega, by omega⟩, by decide⟩, fun z2 hz2 => ?_⟩
     have m2 : 0 ≤ z2 ∧ z2 < 2147483587 := by rw [hz2]; exact ⟨Int.emod_nonneg _ (by decide), Int.emod_lt_of_pos _ (by decide)⟩
     clear hz2
     refine ⟨⟨⟨⟨.inl ⟨by omega, by omega⟩, by decide⟩, ⟨by decide, by decide⟩⟩, n0⟩, hφ _ _ ⟨Int.emod_nonneg _ (by omega), Int.emod_lt_of_pos _ n0, x, b + 1, c, rfl, c0, c1⟩⟩
abbrev s_names : Stmt := topS 14
theorem sc_names : FnScope ["_law_flow_here", "_law_many", "_law_some", "_law_found", "_law_k", "_law_name", "_law_word", "_law_at", "_law_first", "_law_long", "_law_j", "_law_one"] ["_law_flow_here", "_law_many"] (defScope s_names) := ⟨rfl, rfl, rfl, by decide +kernel, rfl, by decide +kernel, by decide +kernel⟩
def c_names (K : PySem.W.Frag) := Con.o1 (K := K) tI (fun x : Int => [.val tI x]) (tL tS) pre_names post_names
theorem ok_names (bs : Bs mg) {f_draw : Addr} {fd_draw : FuncData} (g_draw : Cal P w K mg base "_law_draw" 1 ["_law_flow_here", "_law_many"] (c_draw K).sp f_draw fd_draw) {f : Addr} {fd : FuncData} (F : Fun K "_law_names" "_law_names" s_names f fd) : FnOk P w K mg base (L2.CX P w) 2 f fd ["_law_flow_here", "_law_many"] (c_names K).sp := by
  refine fn_con (c_names K) F sc_names (fun _ => rfl) ?_
  intro cdv Ar outer s H E F0 a φ ε hr hp
  have hu := hu_of hr
  have sc := sc_names
  refine' SK.vc ?hh ?vc
  case hh =>
   refine' sk_set (i := 2) (by exact sc.nd) pk_str ?k142
   case k142 =>
    intro some_1
    refine' sk_st (ρ2 := [.val tR a.1, .val tI a.2.2, .val tS some_1, .un, .un, .un, .un, .un, .un, .un, .un, .un]) (cs2 := [⟨a.1, cL tI a.2.1⟩]) rfl rfl ?k143
    case k143 =>
     refine' sk_seq (sk_if1E (tk_cmp op_eq r2_eqI (ek_o1 0 g_draw.F sl1 hr g_draw.m g_draw.k g_draw.b (pk_var (i := 0) rfl) (PAK.ak (pa_1 pk_int)) (fun _ => rfl)) (fun _ => (PK.ek pk_int))) ?a144 ?b145)
     case a144 =>
      intro y_2
      refine' sk_name 0 rfl ?k146
      case k146 =>
       intro w_4
       refine' sk_st (ρ2 := [.val tR a.1, .val tI a.2.2, .val tS some_1, .un, .un, .un, .un, .un, .un, .un, .un, .un]) (cs2 := [⟨a.1, cL tI w_4⟩]) rfl rfl ?k147
       case k147 =>
        refine' sk_setN (i := 3) (T := tS) (by exact sc.nd) (NK.ne (nk_lst (T := tS) (pl_0 (T := tS)) (Nat.zero_le _))) ?k148
        case k148 =>
         intro y_5 a_6 found_7
         refine' sk_st (ρ2 := [.val tR a.1, .val tI a.2.2, .val tS some_1, .val tR a_6, .un, .un, .un, .un, .un, .un, .un, .un]) (cs2 := [⟨a.1, cL tI w_4⟩, ⟨a_6, cL tS found_7⟩]) rfl rfl ?k149
         case k149 =>
          refine' sk_for (fun z_8 : (List Int × List Str) => [.val tR a.1, .val tI a.2.2, .val tS some_1, .val tR a_6, .un, .un, .un, .un, .un, .un, .un, .un]) (fun z_8 : (List Int × List Str) => [⟨a.1, cL tI z_8.1⟩, ⟨a_6, cL tS z_8.2⟩]) (_, _) hp rfl (ik_range1 bs.m_range (pk_var (i := 1) rfl)) (gk_name (i := 4) (by exact sc.nd)) (.same (.same (.same (.same (.same (.same (.same (.same (.same (.same (.same (.same .nil)))))))))))) rfl ?b150 ?k151
          case b150 =>
           intro fl_12 hs_11 N_10 z_8 x_9
           refine' sk_st (ρ2 := [.val tR a.1, .val tI a.2.2, .val tS some_1, .val tR a_6, .val tI x_9, .un, .un, .un, .un, .un, .un, .un]) (cs2 := [⟨a.1, cL tI z_8.1⟩, ⟨a_6, cL tS z_8.2⟩]) rfl rfl ?k152
           case k152 =>
            refine' sk_setE (i := 5) (by exact sc.nd) (ek_join pk_str (EV.q (NE.l (ne_lc rfl (by exact sc.nd) ?lc2 ?lc1 ?lc3)))) ?k156
            case lc2 =>
             exact blkOk_by (own := [("_law_j", 10)]) (N := ["_law_flow_here", "_law_many", "_law_some", "_law_found", "_law_k", "_law_name", "_law_word", "_law_at", "_law_first", "_law_long", "_law_j", "_law_one"]) (sc := defScope s_names) (by decide +kernel)
            case lc1 =>
             exact lc_k (own := [("_law_j", 10)]) (T := tI) (U := tS) (G := fun ρ x => (List.set ρ 10 (.val tI x))) (vs := [10]) (cs' := (fun c_13 : List Int => [⟨a.1, cL tI c_13⟩, ⟨a_6, cL tS z_8.2⟩])) (z0 := fun y => _) (ie_range1 bs.m_range (ek_op op_add r2_I0 (PK.ek pk_int) (fun _ => (ek_o1 0 g_draw.F sl1 hr g_draw.m g_draw.k g_draw.b (pk_var (i := 0) rfl) (PAK.ak (pa_1 pk_int)) (fun _ => rfl))))) (fun _ => rfl) (by decide) (fun _ _ _ _ _ => (gk_name (i := 10) (by exact sc.nd))) (fun _ _ _ _ _ _ _ => ts_0) (fun _ _ _ _ _ _ _ _ => (ek_ixS (PK.ek (pk_var (i := 2) rfl)) (fun _ => (ek_o1 0 g_draw.F sl1 hr g_draw.m g_draw.k g_draw.b (pk_var (i := 0) rfl) (PAK.ak (pa_1 pk_int)) (fun _ => rfl)))))
            case lc3 =>
             exact fun _ => rfl
            case k156 =>
             intro y_16 name_15
             refine' sk_name 0 rfl ?k157
             case k157 =>
              intro w_17
              refine' sk_st (ρ2 := [.val tR a.1, .val tI a.2.2, .val tS some_1, .val tR a_6, .val tI x_9, .val tS name_15, .un, .un, .un, .un, .un, .un]) (cs2 := [⟨a.1, cL tI w_17⟩, ⟨a_6, cL tS z_8.2⟩]) rfl rfl ?k158
              case k158 =>
               refine' sk_st (ρ2 := [.val tR a.1, .val tI a.2.2, .val tS some_1, .val tR a_6, .val tI x_9, .val tS name_15, .un, .un, .un, .un, .un, .un]) (cs2 := [⟨a.1, cL tI w_17⟩, ⟨a_6, cL tS z_8.2⟩]) rfl rfl ?k159
               case k159 =>
                refine' sk_join (fun z_18 : Str => [.val tR a.1, .val tI a.2.2, .val tS some_1, .val tR a_6, .val tI x_9, .val tS z_18, .un, .un, .un, .un, .un, .un]) (fun z_18 : Str => [⟨a.1, cL tI w_17⟩, ⟨a_6, cL tS z_8.2⟩]) ?h160 ?k161
                case h160 =>
                 intro R_19
                 refine' sk_if1 (pt_in fS (pk_var (i := 5) rfl) (PV.q (PK.own 1 (pk_var (i := 3) rfl) rfl))) ?a162 ?b163
                 case a162 =>
                  refine' sk_setE (i := 5) (by exact sc.nd) (ek_ixR (T := tS) (EV.lk (NE.l (ne_lc rfl (by exact sc.nd) ?lc14 ?lc13 ?lc15))) (fun _ => pk_int)) ?k167
                  case lc14 =>
                   exact blkOk_by (own := [("_law_one", 11)]) (N := ["_law_flow_here", "_law_many", "_law_some", "_law_found", "_law_k", "_law_name", "_law_word", "_law_at", "_law_first", "_law_long", "_law_j", "_law_one"]) (sc := defScope s_names) (by decide +kernel)
                  case lc13 =>
                   exact lc_k (own := [("_law_one", 11)]) (T := tS) (U := tS) (G := fun ρ x => (List.set ρ 11 (.val tS x))) (vs := [11]) (cs' := (fun _ : Unit => [⟨a.1, cL tI w_17⟩, ⟨a_6, cL tS z_8.2⟩])) (z0 := fun y => ()) (s1 := fun _ _ _ => ()) (s2 := fun _ _ _ _ => ()) (IK.ie (ik_str (pk_var (i := 2) rfl))) (fun _ => rfl) (by decide) (fun _ _ _ _ _ => (gk_name (i := 11) (by exact sc.nd))) (fun _ _ _ _ _ _ _ => (ts_1 (PTK.tk (pt_nin fS (pk_var (i := 11) rfl) (PV.q (PK.own 1 (pk_var (i := 3) rfl) rfl)))))) (fun _ _ _ _ _ _ _ _ => (PK.ek (pk_var (i := 11) rfl)))
                  case lc15 =>
                   exact fun _ => rfl
                  case k167 =>
                   intro y_25 name_24
                   refine' sk_st (ρ2 := [.val tR a.1, .val tI a.2.2, .val tS some_1, .val tR a_6, .val tI x_9, .val tS name_24, .un, .un, .un, .un, .un, .un]) (cs2 := [⟨a.1, cL tI w_17⟩, ⟨a_6, cL tS z_8.2⟩]) rfl rfl ?k168
                   case k168 =>
                    exact sk_midX (z := _) rfl (.same (.same (.same (.same (.same (.same (.same (.same (.same (.same (.same (.same .nil)))))))))))) rfl
                 case b163 =>
                  exact sk_midX (z := _) rfl (.same (.same (.same (.same (.same (.same (.same (.same (.same (.same (.same (.same .nil)))))))))))) rfl
                case k161 =>
                 intro z_18
                 refine' sk_expr (ek_mL PySem.F.slot_list_append PySem.F.type_list_append mt_append ml_append 1 (pk_var (i := 3) rfl) (ak_1 (PK.ek (pk_var (i := 5) rfl))) (fun _ => rfl) ⟨_, rfl⟩) ?k169
                 case k169 =>
                  intro y_26
                  refine' sk_name 1 rfl ?k170
                  case k170 =>
                   intro w_27
                   refine' sk_st (ρ2 := [.val tR a.1, .val tI a.2.2, .val tS some_1, .val tR a_6, .val tI x_9, .val tS z_18, .un, .un, .un, .un, .un, .un]) (cs2 := [⟨a.1, cL tI w_17⟩, ⟨a_6, cL tS w_27⟩]) rfl rfl ?k171
                   case k171 =>
                    exact sk_midX (z := (_, _)) rfl (.same (.same (.same (.same (.un (.un (.same (.same (.same (.same (.same (.same .nil)))))))))))) rfl
          case k151 =>
           intro z_8
           refine' sk_freeze 1 3 rfl rfl rfl (Nat.le_of_ble_eq_true rfl) ?k172
           case k172 =>
            refine' sk_st (ρ2 := [.val tR a.1, .val tI a.2.2, .val tS some_1, .val (tL tS) z_8.2, .un, .un, .un, .un, .un, .un, .un, .un]) (cs2 := [⟨a.1, cL tI z_8.1⟩]) rfl rfl ?k173
            case k173 =>
             exact sk_retO (pk_var (i := 3) rfl) rfl
     case b145 =>
      intro y_3
      refine' sk_name 0 rfl ?k174
      case k174 =>
       intro w_28
       refine' sk_st (ρ2 := [.val tR a.1, .val tI a.2.2, .val tS some_1, .un, .un, .un, .un, .un, .un, .un, .un, .un]) (cs2 := [⟨a.1, cL tI w_28⟩]) rfl rfl ?k175
       case k175 =>
        refine' sk_nilX rfl ?k176
        case k176 =>
         refine' sk_setE (i := 6) (by exact sc.nd) (ek_join pk_str (EV.q (NE.l (ne_lc rfl (by exact sc.nd) ?lc17 ?lc16 ?lc18)))) ?k180
         case lc17 =>
          exact blkOk_by (own := [("_law_j", 10)]) (N := ["_law_flow_here", "_law_many", "_law_some", "_law_found", "_law_k", "_law_name", "_law_word", "_law_at", "_law_first", "_law_long", "_law_j", "_law_one"]) (sc := defScope s_names) (by decide +kernel)
         case lc16 =>
          exact lc_k (own := [("_law_j", 10)]) (T := tI) (U := tS) (G := fun ρ x => (List.set ρ 10 (.val tI x))) (vs := [10]) (cs' := (fun c_29 : List Int => [⟨a.1, cL tI c_29⟩])) (z0 := fun y => _) (ie_range1 bs.m_range (ek_o1 0 g_draw.F sl1 hr g_draw.m g_draw.k g_draw.b (pk_var (i := 0) rfl) (PAK.ak (pa_1 pk_int)) (fun _ => rfl))) (fun _ => rfl) (by decide) (fun _ _ _ _ _ => (gk_name (i := 10) (by exact sc.nd))) (fun _ _ _ _ _ _ _ => ts_0) (fun _ _ _ _ _ _ _ _ => (ek_ixS (PK.ek (pk_var (i := 2) rfl)) (fun _ => (ek_o1 0 g_draw.F sl1 hr g_draw.m g_draw.k g_draw.b (pk_var (i := 0) rfl) (PAK.ak (pa_1 pk_int)) (fun _ => rfl)))))
         case lc18 =>
          exact fun _ => rfl
         case k180 =>
          intro y_32 word_31
          refine' sk_name 0 rfl ?k181
          case k181 =>
           intro w_33
           refine' sk_st (ρ2 := [.val tR a.1, .val tI a.2.2, .val tS some_1, .un, .un, .un, .val tS word_31, .un, .un, .un, .un, .un]) (cs2 := [⟨a.1, cL tI w_33⟩]) rfl rfl ?k182
           case k182 =>
            refine' sk_st (ρ2 := [.val tR a.1, .val tI a.2.2, .val tS some_1, .un, .un, .un, .val tS word_31, .un, .un, .un, .un, .un]) (cs2 := [⟨a.1, cL tI w_33⟩]) rfl rfl ?k183
            case k183 =>
             refine' sk_setE (i := 7) (by exact sc.nd) (ek_o1 0 g_draw.F sl1 hr g_draw.m g_draw.k g_draw.b (pk_var (i := 0) rfl) (PAK.ak (pa_1 (pk_op op_add r2_I0 (PV.k (pv_cb call_len_str bs.m_len bs.b_len u_lenS (PK.v (pk_var (i := 6) rfl)))) pk_int))) (fun _ => rfl)) ?k184
             case k184 =>
              intro y_35 at_34
              refine' sk_name 0 rfl ?k185
              case k185 =>
               intro w_36
               refine' sk_st (ρ2 := [.val tR a.1, .val tI a.2.2, .val tS some_1, .un, .un, .un, .val tS word_31, .val tI at_34, .un, .un, .un, .un]) (cs2 := [⟨a.1, cL tI w_36⟩]) rfl rfl ?k186
               case k186 =>
                refine' sk_st (ρ2 := [.val tR a.1, .val tI a.2.2, .val tS some_1, .un, .un, .un, .val tS word_31, .val tI at_34, .un, .un, .un, .un]) (cs2 := [⟨a.1, cL tI w_36⟩]) rfl rfl ?k187
                case k187 =>
                 refine' sk_setE (i := 8) (by exact sc.nd) (ek_o1 0 g_draw.F sl1 hr g_draw.m g_draw.k g_draw.b (pk_var (i := 0) rfl) (PAK.ak (pa_1 pk_int)) (fun _ => rfl)) ?k188
                 case k188 =>
                  intro y_38 first_37
                  refine' sk_name 0 rfl ?k189
                  case k189 =>
                   intro w_39
                   refine' sk_st (ρ2 := [.val tR a.1, .val tI a.2.2, .val tS some_1, .un, .un, .un, .val tS word_31, .val tI at_34, .val tI first_37, .un, .un, .un]) (cs2 := [⟨a.1, cL tI w_39⟩]) rfl rfl ?k190
                   case k190 =>
                    refine' sk_st (ρ2 := [.val tR a.1, .val tI a.2.2, .val tS some_1, .un, .un, .un, .val tS word_31, .val tI at_34, .val tI first_37, .un, .un, .un]) (cs2 := [⟨a.1, cL tI w_39⟩]) rfl rfl ?k191
                    case k191 =>
                     refine' sk_setN (i := 3) (T := tS) (by exact sc.nd) (ne_lc rfl (by exact sc.nd) ?lc20 ?lc19 ?lc21) ?k195
                     case lc20 =>
                      exact blkOk_by (own := [("_law_k", 4)]) (N := ["_law_flow_here", "_law_many", "_law_some", "_law_found", "_law_k", "_law_name", "_law_word", "_law_at", "_law_first", "_law_long", "_law_j", "_law_one"]) (sc := defScope s_names) (by decide +kernel)
                     case lc19 =>
                      exact lc_k (own := [("_law_k", 4)]) (T := tI) (U := tS) (G := fun ρ x => (List.set ρ 4 (.val tI x))) (vs := [4]) (cs' := (fun _ : Unit => [⟨a.1, cL tI w_39⟩])) (z0 := fun y => ()) (s1 := fun _ _ _ => ()) (s2 := fun _ _ _ _ => ()) (IK.ie (ik_range1 bs.m_range (pk_var (i := 1) rfl))) (fun _ => rfl) (by decide) (fun _ _ _ _ _ => (gk_name (i := 4) (by exact sc.nd))) (fun _ _ _ _ _ _ _ => ts_0) (fun _ _ _ _ _ _ _ _ => (PK.ek (pk_op op_add_str r2_addS (pk_op op_add_str r2_addS (pk_slS (pk_var (i := 6) rfl) po_0 (po_1 (pk_var (i := 7) rfl))) (pk_ixS (pk_var (i := 2) rfl) (pk_op op_mod r2_I (pk_op op_add r2_I0 (pk_var (i := 8) rfl) (pk_op op_mul r2_I pk_int (pk_var (i := 4) rfl))) pk_int))) (pk_slS (pk_var (i := 6) rfl) (po_1 (pk_var (i := 7) rfl)) po_0))))
                     case lc21 =>
                      exact fun _ => rfl
                     case k195 =>
                      intro y_42 a_43 found_44
                      refine' sk_st (ρ2 := [.val tR a.1, .val tI a.2.2, .val tS some_1, .val tR a_43, .un, .un, .val tS word_31, .val tI at_34, .val tI first_37, .un, .un, .un]) (cs2 := [⟨a.1, cL tI w_39⟩, ⟨a_43, cL tS found_44⟩]) rfl rfl ?k196
                      case k196 =>
                       refine' sk_join (fun z_45 : (List Int × List Str) => [.val tR a.1, .val tI a.2.2, .val tS some_1, .val tR a_43, .un, .un, .val tS word_31, .val tI at_34, .val tI first_37, .un, .un, .un]) (fun z_45 : (List Int × List Str) => [⟨a.1, cL tI z_45.1⟩, ⟨a_43, cL tS z_45.2⟩]) ?h197 ?k198
                       case h197 =>
                        intro R_46
                        refine' sk_if1E (tk_cmp op_eq r2_eqI (ek_o1 0 g_draw.F sl1 hr g_draw.m g_draw.k g_draw.b (pk_var (i := 0) rfl) (PAK.ak (pa_1 pk_int)) (fun _ => rfl)) (fun _ => (PK.ek pk_int))) ?a199 ?b200
                        case a199 =>
                         intro y_47
                         refine' sk_name 0 rfl ?k201
                         case k201 =>
                          intro w_49
                          refine' sk_st (ρ2 := [.val tR a.1, .val tI a.2.2, .val tS some_1, .val tR a_43, .un, .un, .val tS word_31, .val tI at_34, .val tI first_37, .un, .un, .un]) (cs2 := [⟨a.1, cL tI w_49⟩, ⟨a_43, cL tS found_44⟩]) rfl rfl ?k202
                          case k202 =>
                           refine' sk_set (i := 9) (by exact sc.nd) (pk_op op_add_str r2_addS (pk_var (i := 6) rfl) (pk_slS pk_str (po_1 (PV.k (pv_cb call_len_str bs.m_len bs.b_len u_lenS (PK.v (pk_var (i := 6) rfl))))) po_0)) ?k203
                           case k203 =>
                            intro long_50
                            refine' sk_st (ρ2 := [.val tR a.1, .val tI a.2.2, .val tS some_1, .val tR a_43, .un, .un, .val tS word_31, .val tI at_34, .val tI first_37, .val tS long_50, .un, .un]) (cs2 := [⟨a.1, cL tI w_49⟩, ⟨a_43, cL tS found_44⟩]) rfl rfl ?k204
                            case k204 =>
                             refine' sk_seq (sk_if1 (pt_nin fS (pk_var (i := 9) rfl) (PV.q (PK.own 1 (pk_var (i := 3) rfl) rfl))) ?a205 ?b206)
                             case a205 =>
                              refine' sk_setIx 1 (PK.ek (pk_var (i := 9) rfl)) (fun _ => (pk_var (i := 3) rfl)) (fun _ => pk_int) (fun _ => rfl) ?k207
                              case k207 =>
                               intro y_51 w_52
                               refine' sk_st (ρ2 := [.val tR a.1, .val tI a.2.2, .val tS some_1, .val tR a_43, .un, .un, .val tS word_31, .val tI at_34, .val tI first_37, .val tS long_50, .un, .un]) (cs2 := [⟨a.1, cL tI w_49⟩, ⟨a_43, cL tS w_52⟩]) rfl rfl ?k208
                               case k208 =>
                                refine' sk_nilX rfl ?k209
                                case k209 =>
                                 exact sk_midX (z := (_, _)) rfl (.same (.same (.same (.same (.same (.same (.same (.same (.same (.un (.same (.same .nil)))))))))))) rfl
                             case b206 =>
                              refine' sk_nilX rfl ?k210
                              case k210 =>
                               exact sk_midX (z := (_, _)) rfl (.same (.same (.same (.same (.same (.same (.same (.same (.same (.un (.same (.same .nil)))))))))))) rfl
                        case b200 =>
                         intro y_48
                         refine' sk_name 0 rfl ?k211
                         case k211 =>
                          intro w_53
                          refine' sk_st (ρ2 := [.val tR a.1, .val tI a.2.2, .val tS some_1, .val tR a_43, .un, .un, .val tS word_31, .val tI at_34, .val tI first_37, .un, .un, .un]) (cs2 := [⟨a.1, cL tI w_53⟩, ⟨a_43, cL tS found_44⟩]) rfl rfl ?k212
                          case k212 =>
                           exact sk_midX (z := (_, _)) rfl (.same (.same (.same (.same (.same (.same (.same (.same (.same (.same (.same (.same .nil)))))))))))) rfl
                       case k198 =>
                        intro z_45
                        refine' sk_freeze 1 3 rfl rfl rfl (Nat.le_of_ble_eq_true rfl) ?k213
                        case k213 =>
                         refine' sk_st (ρ2 := [.val tR a.1, .val tI a.2.2, .val tS some_1, .val (tL tS) z_45.2, .un, .un, .val tS word_31, .val tI at_34, .val tI first_37, .un, .un, .un]) (cs2 := [⟨a.1, cL tI z_45.1⟩]) rfl rfl ?k214
                         case k214 =>
                          exact sk_retO (pk_var (i := 3) rfl) rfl
  case vc =>
   intro h
   simp only [true_and, and_true, yes1, yes2]
   obtain ⟨l, fl, n⟩ := a
   obtain ⟨⟨hf, n0, n1⟩, hφ⟩ := h
   have hf : Fl fl := hf
   have n0 : 1 ≤ n := n0
   have n1 : n ≤ 8 := n1
   try dsimp only at hφ
   try dsimp only
   intro z hz
   have hz : z = abc := hz
   rw [hz]
   have al : abc.length ≤ sizeLine := by rw [abc_len, sizeLine_eq]; decide
   -- the letters of a word
   have word : ∀ (m : Int) (fl0 : List Int), 0 ≤ m → m ≤ 100 → Fl fl0 → ∀ Φ : List Str → List Int → Prop, (∀ acc w, Fl w → (acc.length : Int) = m → (∀ s ∈ acc, s.length = 1 ∧ Low s) → Φ acc w) →
     ∃ I : Nat → List Str → List Int → Prop, I 0 [] fl0 ∧ (∀ (i : Nat) (acc : List Str) (z_3 : List Int) (x : Int), (rng 0 m)[i]? = some x → I i acc z_3 →
       (True → pre_draw z_3 26 ∧ ∀ (r : Int) (w : List Int), post_draw z_3 26 r w → abc.length ≤ sizeLine ∧ IxOk (MD.signs abc) r ∧ I (i + 1) (acc ++ [pyIx (MD.signs abc) r]) w) ∧ (true = false → I (i + 1) acc z_3)) ∧
       ∀ (acc : List Str) (z_3 : List Int), I (rng 0 m).length acc z_3 → Φ acc z_3 := fun m fl0 m0 m1 hf0 Φ k => by
     refine ⟨fun i acc w => Fl w ∧ acc.length = i ∧ ∀ s ∈ acc, s.length = 1 ∧ Low s, ⟨hf0, rfl, fun s hs => (by cases hs)⟩, fun i acc w x hx ⟨i1, i2, i3⟩ => ⟨fun _ => ⟨⟨i1, by decide, by decide⟩, fun r w2 ⟨r0, r1, hw⟩ => ⟨al, ixok_abc r0 r1, hw, by rw [List.length_append, i2]; rfl, fun s hs => ?_⟩⟩, fun e => (by cases e)⟩, fun acc w ⟨i1, i2, i3⟩ => k acc w i1 (by rw [rng_length] at i2; omega) i3⟩
     rcases List.mem_append.mp hs with h | h
     · exact i3 s h
     · rw [List.mem_singleton.mp h, pyIx_abc r0 r1]
       exact ⟨len_sgn _, low_sgn (by omega)⟩
   refine ⟨⟨hf, by decide, by decide⟩, fun r w ⟨r0, r1, f1⟩ => ⟨fun _ w1 e1 _ found ef => ?_, fun _ w1 e1 => ?_⟩⟩
   · rw [e1, ef]
     refine ⟨⟨by omega, by omega⟩, fun i z => Fl z.1 ∧ z.2.length = i ∧ z.2.Nodup ∧ ∀ s ∈ z.2, Word s, ⟨f1, rfl, List.nodup_nil, fun s hs => (by cases hs)⟩, fun i z x hx ⟨i1, i2, i3, i4⟩ => ?_, fun z ⟨i1, i2, i3, i4⟩ => ?_⟩
     · obtain ⟨_, hi⟩ := rng_get hx
       refine ⟨⟨i1, by decide, by decide⟩, fun q w2 ⟨q0, q1, f2⟩ => ⟨by omega, by omega, ?_⟩⟩
       refine word (1 + q) w2 (by omega) (by omega) f2 _ fun acc w3 f3 hl hs => ?_
       obtain ⟨j1, j2⟩ := join_nil_len hs
       have hw : Word (Str.join "" acc) := ⟨by rw [j1]; omega, by rw [j1]; omega, j2⟩
       refine ⟨by rw [sum_len hs]; show acc.length + acc.length * 0 ≤ _; omega, fun nm en w4 e4 => ?_⟩
       rw [e4]
       have hwn : Word nm := by rw [en]; exact hw
       refine ⟨fun y => Word y ∧ y ∉ z.2, ⟨fun e => ⟨al, ?_⟩, fun e => ⟨hwn, of_decide_eq_false e⟩⟩, fun y ⟨y1, y2⟩ => ⟨by rw [sizeLine_eq]; omega, fun z5 e5 w5 f5 => ?_⟩⟩
       · refine ⟨fun j acc _ => acc = ((MD.signs abc).take j).filter fun d => !decide (d ∈ z.2), rfl, fun j acc _ d hd hI => ⟨fun e => ?_, fun e => ?_⟩, fun acc _ hI => ?_⟩
         · dsimp only at hI ⊢; rw [filt_yes hd e, hI]
         · dsimp only at hI ⊢; rw [filt_no hd e, hI]
         · dsimp only at hI
           rw [List.take_length] at hI
           obtain ⟨s, s1, s2⟩ := free_letter (found := z.2) (by omega)
           have hp : 0 < acc.length := List.length_pos_of_mem (a := s) (by rw [hI]; exact List.mem_filter.mpr ⟨s1, by simpa using s2⟩)
           refine ⟨⟨by omega, by omega⟩, fun y ey => ?_⟩
           have hm : y ∈ acc := by rw [ey]; exact pyIx_mem (by omega) (by omega)
           rw [hI] at hm
           obtain ⟨m1, m2⟩ := List.mem_filter.mp hm
           refine ⟨?_, by simpa using m2⟩
           rw [signs_abc] at m1
           obtain ⟨c, hc, rfl⟩ := List.mem_map.mp m1
           exact sgn_word (List.mem_range.mp hc)
       · rw [f5, e5]
         refine ⟨f3, by rw [List.length_append, i2]; rfl, List.nodup_append.mpr ⟨i3, by simp, fun u hu v hv e => ?_⟩, fun s hs => ?_⟩
         · rw [List.mem_singleton.mp hv] at e
           exact y2 (e ▸ hu)
         · rcases List.mem_append.mp hs with h | h
           · exact i4 s h
           · rw [List.mem_singleton.mp h]; exact y1
     · rw [rng_length] at i2
       exact hφ _ _ ⟨⟨by omega, i3, i4⟩, i1⟩
   · rw [e1]
     refine ⟨⟨f1, by decide, by decide⟩, fun q w2 ⟨q0, q1, f2⟩ => ⟨by omega, by omega, ?_⟩⟩
     refine word q w2 q0 (by omega) f2 _ fun acc w3 f3 hl hs => ?_
     obtain ⟨j1, j2⟩ := join_nil_len hs
     refine ⟨by rw [sum_len hs]; show acc.length + acc.length * 0 ≤ _; omega, fun wd ewd w4 e4 => ?_⟩
     rw [e4]
     have wl : wd.length ≤ 7 := by rw [ewd, j1]; omega
     have wlow : Low wd := by rw [ewd]; exact j2
     refine ⟨by rw [sizeLine_eq]; omega, ⟨f3, by omega, by omega⟩, fun at0 w5 ⟨a0, a1, f5⟩ at1 ea w6 e6 => ?_⟩
     rw [e6]
     refine ⟨⟨f5, by decide, by decide⟩, fun ft w7 ⟨t0, t1, f7⟩ ft1 ef w8 e8 => ?_⟩
     obtain ⟨na, rfl⟩ : ∃ na : Nat, at1 = (na : Int) := ⟨at1.toNat, by omega⟩
     have hna : na ≤ wd.length := by omega
     have t0' : 0 ≤ ft1 := by omega
     have mk : ∀ k : Int, 0 ≤ k → Word (cutS wd none (some (na : Int)) ++ pyIx (MD.signs abc) ((ft1 + 7 * k) % 26) ++ cutS wd (some (na : Int)) none) ∧ IxOk (MD.signs abc) ((ft1 + 7 * k) % 26) ∧ pyIx (MD.signs abc) ((ft1 + 7 * k) % 26) = sgn (97 + ((ft1 + 7 * k) % 26).toNat) := fun k k0 => by
       have m0 := Int.emod_nonneg (ft1 + 7 * k) (show (26 : Int) ≠ 0 by decide)
       have m1 := Int.emod_lt_of_pos (ft1 + 7 * k) (show (0 : Int) < 26 by decide)
       have e := pyIx_abc m0 m1
       refine ⟨?_, ixok_abc m0 m1, e⟩
       rw [e]
       refine ⟨?_, ?_, ins_low wlow (low_sgn (by omega)) hna⟩
       · rw [ins_len hna, len_sgn]; omega
       · rw [ins_len hna, len_sgn]; omega
     have cl : (cutS wd none (some (na : Int))).length ≤ 7 ∧ (cutS wd (some (na : Int)) none).length ≤ 7 := by
       have := str_len wd
       refine ⟨?_, ?_⟩
       · rw [str_len, cutS_to wd hna, List.length_take]; omega
       · rw [str_len, cutS_from wd hna, List.length_drop]; omega
     have wsz : wd.length ≤ sizeLine := by rw [sizeLine_eq]; omega
     refine ⟨⟨by omega, by omega⟩, fun i acc _ => acc.length = i ∧ acc.Nodup ∧ (∀ s ∈ acc, Word s) ∧ ∀ s ∈ acc, ∃ k : Nat, k < i ∧ s = cutS wd none (some (na : Int)) ++ pyIx (MD.signs abc) ((ft1 + 7 * (k : Int)) % 26) ++ cutS wd (some (na : Int)) none, ⟨rfl, List.nodup_nil, fun s hs => (by cases hs), fun s hs => (by cases hs)⟩, fun i acc _ x hx ⟨i1, i2, i3, i4⟩ => ⟨fun _ => ?_, fun e => (by cases e)⟩, fun acc _ ⟨i1, i2, i3, i4⟩ _ fd ef2 => ?_⟩
     · obtain ⟨ex, hi⟩ := rng_get hx
       have ex : x = (i : Int) := by omega
       subst ex
       obtain ⟨k1, k2, k3⟩ := mk (i : Int) (by omega)
       have l1 : (pyIx (MD.signs abc) ((ft1 + 7 * (i : Int)) % 26)).length = 1 := by rw [k3]; rfl
       refine ⟨⟨⟨wsz, ⟨⟨.inl ⟨by decide, by decide⟩, by decide⟩, al, k2⟩, by rw [sizeLine_eq]; omega⟩, wsz, by rw [app_len, sizeLine_eq]; omega⟩, by rw [List.length_append, i1]; rfl, List.nodup_append.mpr ⟨i2, by simp, fun u hu v hv e => ?_⟩, fun s hs => ?_, fun s hs => ?_⟩
       · rw [List.mem_singleton.mp hv] at e
         obtain ⟨k, hk, ek⟩ := i4 u hu
         rw [ek] at e
         have e2 := ins_inj hna e
         rw [(mk k (by omega)).2.2, k3] at e2
         have e3 := sgn_inj e2
         omega
       · rcases List.mem_append.mp hs with h | h
         · exact i3 s h
         · rw [List.mem_singleton.mp h]; exact k1
       · rcases List.mem_append.mp hs with h | h
         · obtain ⟨k, hk, ek⟩ := i4 s h
           exact ⟨k, by omega, ek⟩
         · exact ⟨i, by omega, List.mem_singleton.mp h⟩
     · rw [rng_length] at i1
       rw [ef2]
       obtain ⟨z1, z2⟩ := cutS_zs wl
       have zl : (Str.ofString "zzzzzzzz").length = 8 := by decide +kernel
       refine ⟨fun y => (y.2.length : Int) = n ∧ y.2.Nodup ∧ (∀ s ∈ y.2, Word s) ∧ Fl y.1, ⟨⟨by rw [e8]; exact f7, by decide, by decide⟩, fun q w ⟨_, _, g⟩ => ⟨fun _ w1 ew => ⟨⟨⟨wsz, by rw [zl, sizeLine_eq]; decide⟩, ?_⟩, fun lg elg => ⟨fun e => ⟨⟨by decide, by omega⟩, fun y ey => ?_⟩, fun _ => ?_⟩⟩, fun _ w1 ew => ?_⟩⟩, fun y ⟨y1, y2, y3, y4⟩ => hφ _ _ ⟨⟨y1, y2, y3⟩, y4⟩⟩
       · rw [sizeLine_eq]
         have : (cutS (Str.ofString "zzzzzzzz") (some (wd.length : Int)) none).length = 8 - wd.length := z1
         omega
       · rw [ew, ey]
         have nl : lg ∉ acc := by simpa using e
         refine ⟨by rw [List.length_set]; omega, nodup_set i2 nl, fun s hs => ?_, g⟩
         rcases List.mem_or_eq_of_mem_set hs with m | m
         · exact i3 s m
         · rw [m, elg]
           have z1' : (cutS (Str.ofString "zzzzzzzz") (some (wd.length : Int)) none).length = 8 - wd.length := z1
           refine ⟨by rw [app_len, z1']; omega, by rw [app_len, z1']; omega, low_app wlow z2⟩
       · rw [ew]
         exact ⟨by show (acc.length : Int) = n; omega, i2, i3, g⟩
       · rw [ew]
         exact ⟨by show (acc.length : Int) = n; omega, i2, i3, g⟩
abbrev s_Machine_init : Stmt := (inClass (topS 7) 0)
theorem sc_Machine_init : FnScope ["self", "letters", "table", "good", "told", "letter", "state", "steps", "goal"] ["self", "letters", "table", "good"] (defScope s_Machine_init) := ⟨rfl, rfl, rfl, by decide +kernel, rfl, by decide +kernel, by decide +kernel⟩
def c_Machine_init (K : PySem.W.Frag) (C_Machine : Addr) := Con.ini (K := K) C_Machine fd_Machine (fun x : ((List Str) × (List (List Int)) × (List Int)) => [.val (tL tS) x.1, .val (tL (tL tI)) x.2.1, .val (tL tI) x.2.2]) pre_Machine_init f_Machine_init (fun _ _ => False)
theorem ok_Machine_init (bs : Bs mg) {C_Machine : Addr} (cl_Machine : Cl_Machine K C_Machine) {f : Addr} {fd : FuncData} (F : Fun K "__init__" "Machine.__init__" s_Machine_init f fd) : FnOk P w K mg base (L2.CX P w) 2 f fd ["self", "letters", "table", "good"] (c_Machine_init K C_Machine).sp := by
  refine fn_con (c_Machine_init K C_Machine) F sc_Machine_init (fun _ => rfl) ?_
  intro cdv Ar outer s H E F0 a φ ε hr hp
  have hu := hu_of hr
  have sc := sc_Machine_init
  refine' SK.vc ?hh ?vc
  case hh =>
   refine' sk_setD kS tB (i := 4) (by exact sc.nd) nd_new ?k252
   case k252 =>
    intro a_1
    refine' sk_st (ρ2 := [.val tR a.1, .val (tL tS) a.2.1, .val (tL (tL tI)) a.2.2.1, .val (tL tI) a.2.2.2, .val tR a_1, .un, .un, .un, .un]) (cs2 := [⟨a.1, cI C_Machine []⟩, ⟨a_1, cD kS tB []⟩]) rfl rfl ?k253
    case k253 =>
     refine' sk_for (fun z_2 : List (Str × Bool) => [.val tR a.1, .val (tL tS) a.2.1, .val (tL (tL tI)) a.2.2.1, .val (tL tI) a.2.2.2, .val tR a_1, .un, .un, .un, .un]) (fun z_2 : List (Str × Bool) => [⟨a.1, cI C_Machine []⟩, ⟨a_1, cD kS tB z_2⟩]) _ hp rfl (ik_list (pk_var (i := 1) rfl)) (gk_name (i := 5) (by exact sc.nd)) (.same (.same (.same (.same (.same (.same (.same (.same (.same .nil))))))))) rfl ?b254 ?k255
     case b254 =>
      intro fl_6 hs_5 N_4 z_2 x_3
      refine' sk_st (ρ2 := [.val tR a.1, .val (tL tS) a.2.1, .val (tL (tL tI)) a.2.2.1, .val (tL tI) a.2.2.2, .val tR a_1, .val tS x_3, .un, .un, .un]) (cs2 := [⟨a.1, cI C_Machine []⟩, ⟨a_1, cD kS tB z_2⟩]) rfl rfl ?k256
      case k256 =>
       refine' sk_seq (sk_if1 (pt_din hu (pk_var (i := 5) rfl) (PK.ownD 1 (pk_var (i := 4) rfl) rfl)) ?a257 ?b258)
       case a257 =>
        exact sk_never
       case b258 =>
        refine' sk_nilX rfl ?k259
        case k259 =>
         refine' sk_dput 1 hu (PK.ek pk_bl) (fun _ => (pk_var (i := 4) rfl)) (fun _ => (pk_var (i := 5) rfl)) (fun _ => rfl) ?k260
         case k260 =>
          intro y_7 w_8
          refine' sk_st (ρ2 := [.val tR a.1, .val (tL tS) a.2.1, .val (tL (tL tI)) a.2.2.1, .val (tL tI) a.2.2.2, .val tR a_1, .val tS x_3, .un, .un, .un]) (cs2 := [⟨a.1, cI C_Machine []⟩, ⟨a_1, cD kS tB w_8⟩]) rfl rfl ?k261
          case k261 =>
           exact sk_midX (z := _) rfl (.same (.same (.same (.same (.same (.un (.same (.same (.same .nil))))))))) rfl
     case k255 =>
      intro z_2
      refine' sk_for (fun _ : Unit => [.val tR a.1, .val (tL tS) a.2.1, .val (tL (tL tI)) a.2.2.1, .val (tL tI) a.2.2.2, .val tR a_1, .un, .un, .un, .un]) (fun _ : Unit => [⟨a.1, cI C_Machine []⟩, ⟨a_1, cD kS tB z_2⟩]) () hp rfl (ik_enum bs.m_enumerate (pk_var (i := 2) rfl)) (gk_tup rfl (gs_C (gk_name (i := 6) (by exact sc.nd)) (gs_1 (gk_name (i := 7) (by exact sc.nd)))) (tlC tl1)) (.same (.same (.same (.same (.same (.same (.same (.same (.same .nil))))))))) rfl ?b262 ?k263
      case b262 =>
       intro fl_13 hs_12 N_11 z_9 x_10
       refine' sk_st (ρ2 := [.val tR a.1, .val (tL tS) a.2.1, .val (tL (tL tI)) a.2.2.1, .val (tL tI) a.2.2.2, .val tR a_1, .un, .val tI x_10.1, .val (tL tI) x_10.2, .un]) (cs2 := [⟨a.1, cI C_Machine []⟩, ⟨a_1, cD kS tB z_2⟩]) rfl rfl ?k264
       case k264 =>
        refine' sk_for (fun _ : Unit => [.val tR a.1, .val (tL tS) a.2.1, .val (tL (tL tI)) a.2.2.1, .val (tL tI) a.2.2.2, .val tR a_1, .un, .val tI x_10.1, .val (tL tI) x_10.2, .un]) (fun _ : Unit => [⟨a.1, cI C_Machine []⟩, ⟨a_1, cD kS tB z_2⟩]) () hp rfl (ik_zipL bs.m_zip (pk_var (i := 1) rfl) (pk_var (i := 7) rfl)) (gk_tup rfl (gs_C (gk_name (i := 5) (by exact sc.nd)) (gs_1 (gk_name (i := 8) (by exact sc.nd)))) (tlC tl1)) (.same (.same (.same (.same (.same (.same (.same (.same (.same .nil))))))))) rfl ?b265 ?k266
        case b265 =>
         intro fl_18 hs_17 N_16 z_14 x_15
         refine' sk_st (ρ2 := [.val tR a.1, .val (tL tS) a.2.1, .val (tL (tL tI)) a.2.2.1, .val (tL tI) a.2.2.2, .val tR a_1, .val tS x_15.1, .val tI x_10.1, .val (tL tI) x_10.2, .val tI x_15.2]) (cs2 := [⟨a.1, cI C_Machine []⟩, ⟨a_1, cD kS tB z_2⟩]) rfl rfl ?k267
         case k267 =>
          refine' sk_seq (sk_if1 (PWK.pt (pw_or' (pt_cmp' op_lt r2_B0 (pk_var (i := 8) rfl) pk_int) (pw_or1' (pt_cmp' op_ge r2_B0 (pk_var (i := 8) rfl) (PV.k (pv_cb cr_lenQ bs.m_len bs.b_len u_len (PV.q (PK.l (pk_var (i := 2) rfl))))))))) ?a268 ?b269)
          case a268 =>
           exact sk_never
          case b269 =>
           refine' sk_nilX rfl ?k270
           case k270 =>
            exact sk_midX (z := ()) rfl (.same (.same (.same (.same (.same (.un (.same (.same (.un .nil))))))))) rfl
        case k266 =>
         intro z_14
         exact sk_midX (z := ()) rfl (.same (.same (.same (.same (.same (.same (.un (.un (.same .nil))))))))) rfl
      case k263 =>
       intro z_9
       refine' sk_for (fun _ : Unit => [.val tR a.1, .val (tL tS) a.2.1, .val (tL (tL tI)) a.2.2.1, .val (tL tI) a.2.2.2, .val tR a_1, .un, .un, .un, .un]) (fun _ : Unit => [⟨a.1, cI C_Machine []⟩, ⟨a_1, cD kS tB z_2⟩]) () hp rfl (ik_list (pk_var (i := 3) rfl)) (gk_name (i := 6) (by exact sc.nd)) (.same (.same (.same (.same (.same (.same (.same (.same (.same .nil))))))))) rfl ?b271 ?k272
       case b271 =>
        intro fl_23 hs_22 N_21 z_19 x_20
        refine' sk_st (ρ2 := [.val tR a.1, .val (tL tS) a.2.1, .val (tL (tL tI)) a.2.2.1, .val (tL tI) a.2.2.2, .val tR a_1, .un, .val tI x_20, .un, .un]) (cs2 := [⟨a.1, cI C_Machine []⟩, ⟨a_1, cD kS tB z_2⟩]) rfl rfl ?k273
        case k273 =>
         refine' sk_seq (sk_if1 (PWK.pt (pw_or' (pt_cmp' op_lt r2_B0 (pk_var (i := 6) rfl) pk_int) (pw_or1' (pt_cmp' op_ge r2_B0 (pk_var (i := 6) rfl) (PV.k (pv_cb cr_lenQ bs.m_len bs.b_len u_len (PV.q (PK.l (pk_var (i := 2) rfl))))))))) ?a274 ?b275)
         case a274 =>
          exact sk_never
         case b275 =>
          refine' sk_nilX rfl ?k276
          case k276 =>
           exact sk_midX (z := ()) rfl (.same (.same (.same (.same (.same (.same (.un (.same (.same .nil))))))))) rfl
       case k272 =>
        intro z_19
        refine' sk_fld (T := (tUF tS)) (fs := []) 0 cl_Machine.c cl_Machine.n_letters (PK.ek (PV.k (pv_ct call_tupF bs.m_tuple bs.b_tuple u_tupF (PV.lk (PK.l (pk_var (i := 1) rfl)))))) (fun _ => (pk_var (i := 0) rfl)) (fun _ => rfl) ?k277
        case k277 =>
         intro y_24 letters_25
         refine' sk_st (ρ2 := [.val tR a.1, .val (tL tS) a.2.1, .val (tL (tL tI)) a.2.2.1, .val (tL tI) a.2.2.2, .val tR a_1, .un, .un, .un, .un]) (cs2 := [⟨a.1, cI C_Machine [("letters", .val (tUF tS) letters_25)]⟩, ⟨a_1, cD kS tB z_2⟩]) rfl rfl ?k278
         case k278 =>
          refine' sk_fld (T := (tU (tU tI))) (fs := [("letters", .val (tUF tS) letters_25)]) 0 cl_Machine.c cl_Machine.n_table (EV.k (ev_ct call_tuple_of bs.m_tuple bs.b_tuple (fun _ => u_tupL) (EV.lk (NE.l (ne_lc rfl (by exact sc.nd) ?lc23 ?lc22 ?lc24))))) (fun _ => (pk_var (i := 0) rfl)) ?lc25 ?k283
          case lc23 =>
           exact blkOk_by (own := [("steps", 7)]) (N := ["self", "letters", "table", "good", "told", "letter", "state", "steps", "goal"]) (sc := defScope s_Machine_init) (by decide +kernel)
          case lc22 =>
           exact lc_k (own := [("steps", 7)]) (T := (tL tI)) (U := (tU tI)) (G := fun ρ x => (List.set ρ 7 (.val (tL tI) x))) (vs := [7]) (cs' := (fun _ : Unit => [⟨a.1, cI C_Machine [("letters", .val (tUF tS) letters_25)]⟩, ⟨a_1, cD kS tB z_2⟩])) (z0 := fun y => ()) (s1 := fun _ _ _ => ()) (s2 := fun _ _ _ _ => ()) (IK.ie (ik_list (pk_var (i := 2) rfl))) (fun _ => rfl) (by decide) (fun _ _ _ _ _ => (gk_name (i := 7) (by exact sc.nd))) (fun _ _ _ _ _ _ _ => ts_0) (fun _ _ _ _ _ _ _ _ => (PK.ek (PV.k (pv_ct call_tuple_of bs.m_tuple bs.b_tuple u_tupL (PV.lk (PK.l (pk_var (i := 7) rfl)))))))
          case lc24 =>
           exact fun _ => rfl
          case lc25 =>
           exact fun _ => rfl
          case k283 =>
           intro y_28 table_29
           refine' sk_st (ρ2 := [.val tR a.1, .val (tL tS) a.2.1, .val (tL (tL tI)) a.2.2.1, .val (tL tI) a.2.2.2, .val tR a_1, .un, .un, .un, .un]) (cs2 := [⟨a.1, cI C_Machine [("letters", .val (tUF tS) letters_25), ("table", .val (tU (tU tI)) table_29)]⟩, ⟨a_1, cD kS tB z_2⟩]) rfl rfl ?k284
           case k284 =>
            refine' sk_fld (T := (tU tI)) (fs := [("letters", .val (tUF tS) letters_25), ("table", .val (tU (tU tI)) table_29)]) 0 cl_Machine.c cl_Machine.n_good (PK.ek (PV.k (pv_ct call_tuple_of bs.m_tuple bs.b_tuple u_tupL (PV.lk (NK.l (nk_cb (cr_sortedSet rfl) bs.m_sorted bs.b_sorted n_sortI1 (pv_ct (cr_setI rfl) bs.m_set bs.b_set u_setI (PV.lk (PK.l (pk_var (i := 3) rfl)))))))))) (fun _ => (pk_var (i := 0) rfl)) (fun _ => rfl) ?k285
            case k285 =>
             intro y_30 good_31
             refine' sk_st (ρ2 := [.val tR a.1, .val (tL tS) a.2.1, .val (tL (tL tI)) a.2.2.1, .val (tL tI) a.2.2.2, .val tR a_1, .un, .un, .un, .un]) (cs2 := [⟨a.1, cI C_Machine [("letters", .val (tUF tS) letters_25), ("table", .val (tU (tU tI)) table_29), ("good", .val (tU tI) good_31)]⟩, ⟨a_1, cD kS tB z_2⟩]) rfl rfl ?k286
             case k286 =>
              refine' sk_drop 1 ?k287
              case k287 =>
               refine' sk_st (ρ2 := [.val tR a.1, .val (tL tS) a.2.1, .val (tL (tL tI)) a.2.2.1, .val (tL tI) a.2.2.2, .val tR a_1, .un, .un, .un, .un]) (cs2 := [⟨a.1, cI C_Machine [("letters", .val (tUF tS) letters_25), ("table", .val (tU (tU tI)) table_29), ("good", .val (tU tI) good_31)]⟩]) rfl rfl ?k288
               case k288 =>
                exact sk_endI (_, _, _) rfl
  case vc =>
   intro h
   simp only [true_and, and_true, yes1, yes2]
   obtain ⟨p, ls, tab, good⟩ := a
   rcases h with ⟨⟨hT, hg⟩, hφ⟩ | ⟨_, hx, _⟩
   rotate_left
   · exact False.elim hx
   have hT : TabOk ls tab := hT
   have hg : GoodOk tab good := hg
   have hgl : good.length ≤ 24 := by
     have h1 : good.length ≤ (rng 0 (tab.length : Int)).length := by
       have e : good = (rng 0 (tab.length : Int)).filter fun k => decide (k ∈ good) := hg
       rw [e]
       exact List.length_filter_le _ _
     rw [rng_len] at h1
     exact Nat.le_trans h1 hT.few
   try dsimp only at hφ
   try dsimp only
   have hs := sizeLine_eq
   have h24 : tab.length ≤ 24 := hT.few
   have h6 : ls.length ≤ 6 := hT.l6
   intro _
   refine ⟨fun i z => z = (ls.take i).map fun l => (l, true), rfl, fun i z x hx hI => ?_, fun z _ => ⟨fun _ _ => True, trivial, fun i _ x hx _ => ⟨fun _ _ => True, trivial, fun j _ y hy _ => ?_, fun _ _ => trivial⟩, fun _ _ => ⟨fun _ _ => True, trivial, fun i _ x hx _ => ?_, fun _ _ z1 e1 => ⟨fun i acc _ => acc = tab.take i, rfl, fun i acc _ x hx hI => ⟨fun _ => (by dsimp only at hI ⊢; rw [take_step hx, hI]), fun e => (by cases e)⟩, fun acc _ hI z2 e2 => ⟨⟨by show good.length < 4000; omega, by show good.length < 64; omega⟩, fun z3 e3 => hφ _ ?_⟩⟩⟩⟩⟩
   · dsimp only at hI
     have hn := nodup_take hT.nd hx
     have hx : ls[i]? = some x := hx
     have hi : i < ls.length := (List.getElem?_eq_some_iff.mp hx).1
     have e : z.map (·.1) = ls.take i := by rw [hI, List.map_map]; exact List.map_id _
     refine ⟨fun q => ?_, fun _ => ⟨by rw [hI, List.length_map, List.length_take]; omega, fun z1 e1 => ?_⟩⟩
     · rw [dget_none (by rw [e]; exact hn)] at q
       cases q
     · show z1 = (ls.take (i + 1)).map fun l => (l, true)
       rw [e1, dput_new (by rw [e]; exact hn), hI, map_step _ hx]
   · obtain ⟨e1, e2⟩ := enumF_get hx
     have hm := List.of_mem_zip (get_mem hy)
     have hgo : 0 ≤ y.2 ∧ y.2 < (tab.length : Int) := hT.goal x.2 (get_mem e2) y.2 hm.2
     refine ⟨fun _ => trivial, fun q => ?_, fun _ => trivial⟩
     rw [decide_eq_false (by omega), decide_eq_false (by omega)] at q
     cases q
   · have hgo : 0 ≤ x ∧ x < (tab.length : Int) := good_in hg (get_mem hx)
     refine ⟨fun _ => trivial, fun q => ?_, fun _ => trivial⟩
     rw [decide_eq_false (by omega), decide_eq_false (by omega)] at q
     cases q
   · dsimp only at hI
     rw [List.take_length] at hI
     show (z1, z2, z3) = (ls, tab, good)
     rw [e1, e2, e3, hI, good_sort hg]
abbrev s_parted_from : Stmt := topS 9
theorem sc_parted_from : FnScope ["machine", "one", "other", "left", "come", "at", "first", "second", "row", "letter", "goal", "beside"] ["machine", "one", "other"] (defScope s_parted_from) := ⟨rfl, rfl, rfl, by decide +kernel, rfl, by decide +kernel, by decide +kernel⟩
def c_parted_from (K : PySem.W.Frag) (C_Machine : Addr) (xa : XA) := Con.no (K := K) xa (fun x : ((List Str × List (List Int) × List Int) × Int × Int) => [.val (ty_Machine C_Machine) x.1, .val tI x.2.1, .val tI x.2.2]) tS pre_parted_from g_parted_from
theorem ok_parted_from (bs : Bs mg) {xa : XA} {C_MeetError : Addr} (xs : Xs K mg xa C_MeetError) {C_Machine : Addr} (cl_Machine : Cl_Machine K C_Machine) {f : Addr} {fd : FuncData} (F : Fun K "parted_from" "parted_from" s_parted_from f fd) : FnOk P w K mg base (L2.CX P w) 1 f fd ["machine", "one", "other"] (c_parted_from K C_Machine xa).sp := by
  refine fn_con (c_parted_from K C_Machine xa) F sc_parted_from (fun _ => rfl) ?_
  intro cdv Ar outer s H E F0 a φ ε hr hp
  have hu := hu_of hr
  have sc := sc_parted_from
  refine' SK.vc ?hh ?vc
  case hh =>
   refine' sk_setN (i := 3) (T := (tT (tsC tI (tsC tI (ts1 (tU tS)))))) (by exact sc.nd) (NK.ne (nk_lst (pl_C (pk_tup (pa_C (pk_var (i := 1) rfl) (pa_C (pk_var (i := 2) rfl) (pa_1 (pk_tupU (T := tS) (pl_0 (T := tS)) (Nat.zero_le _))))) (fun F vs => (lenC (lenC len1)) F vs _)) pl_0) (Nat.le_of_ble_eq_true rfl))) ?k324
   case k324 =>
    intro y_1 a_2 left_3
    refine' sk_st (ρ2 := [.val (ty_Machine C_Machine) a.1, .val tI a.2.1, .val tI a.2.2, .val tR a_2, .un, .un, .un, .un, .un, .un, .un, .un]) (cs2 := [⟨a_2, cL (tT (tsC tI (tsC tI (ts1 (tU tS))))) left_3⟩]) rfl rfl ?k325
    case k325 =>
     refine' sk_setDispT kII (i := 4) (by exact sc.nd) hr (pk_tup (pa_C (pk_var (i := 1) rfl) (pa_1 (pk_var (i := 2) rfl))) (fun F vs => (lenC len1) F vs _)) pk_bl ?k326
     case k326 =>
      intro a_4 come_5
      refine' sk_st (ρ2 := [.val (ty_Machine C_Machine) a.1, .val tI a.2.1, .val tI a.2.2, .val tR a_2, .val tR a_4, .un, .un, .un, .un, .un, .un, .un]) (cs2 := [⟨a_2, cL (tT (tsC tI (tsC tI (ts1 (tU tS))))) left_3⟩, ⟨a_4, cDt kII tB come_5⟩]) rfl rfl ?k327
      case k327 =>
       refine' sk_set (i := 5) (by exact sc.nd) pk_int ?k328
       case k328 =>
        intro at_6
        refine' sk_st (ρ2 := [.val (ty_Machine C_Machine) a.1, .val tI a.2.1, .val tI a.2.2, .val tR a_2, .val tR a_4, .val tI at_6, .un, .un, .un, .un, .un, .un]) (cs2 := [⟨a_2, cL (tT (tsC tI (tsC tI (ts1 (tU tS))))) left_3⟩, ⟨a_4, cDt kII tB come_5⟩]) rfl rfl ?k329
        case k329 =>
         refine' sk_while (fun z_7 : (Int × List (Int × Int × (List Str)) × List ((Int × Int) × Bool)) => [.val (ty_Machine C_Machine) a.1, .val tI a.2.1, .val tI a.2.2, .val tR a_2, .val tR a_4, .val tI z_7.1, .un, .un, .un, .un, .un, .un]) (fun z_7 : (Int × List (Int × Int × (List Str)) × List ((Int × Int) × Bool)) => [⟨a_2, cL (tT (tsC tI (tsC tI (ts1 (tU tS))))) z_7.2.1⟩, ⟨a_4, cDt kII tB z_7.2.2⟩]) (_, _, _) hp (.same (.same (.same (.same (.same (.same (.same (.same (.same (.same (.same (.same .nil)))))))))))) rfl (fun z_7 => (pt_cmp' op_lt r2_B0 (pk_var (i := 5) rfl) (PV.k (pv_cb cr_lenQ bs.m_len bs.b_len u_len (PV.q (PK.own 0 (pk_var (i := 3) rfl) rfl)))))) ?b330 ?k331
         case b330 =>
          intro fl_10 hs_9 N_8 z_7
          refine' sk_setG (gk_tup rfl (gs_C (gk_name (i := 6) (by exact sc.nd)) (gs_C (gk_name (i := 7) (by exact sc.nd)) (gs_1 (gk_name (i := 8) (by exact sc.nd))))) (tlC (tlC tl1))) (PK.ek (pk_ixR (T := (tT (tsC tI (tsC tI (ts1 (tU tS)))))) (PV.lk (PK.own 0 (pk_var (i := 3) rfl) rfl)) (pk_var (i := 5) rfl))) ?k332
          case k332 =>
           intro y_11 z_12
           refine' sk_st (ρ2 := [.val (ty_Machine C_Machine) a.1, .val tI a.2.1, .val tI a.2.2, .val tR a_2, .val tR a_4, .val tI z_7.1, .val tI z_12.1, .val tI z_12.2.1, .val (tU tS) z_12.2.2, .un, .un, .un]) (cs2 := [⟨a_2, cL (tT (tsC tI (tsC tI (ts1 (tU tS))))) z_7.2.1⟩, ⟨a_4, cDt kII tB z_7.2.2⟩]) rfl rfl ?k333
           case k333 =>
            refine' sk_seq (sk_if1 (pt_cmp' op_ne r2_neB (pk_in fI (pk_var (i := 6) rfl) (PV.uq (PK.u (pk_fld cl_Machine.c cl_Machine.n_good (PK.ins (pk_var (i := 0) rfl)))))) (pk_in fI (pk_var (i := 7) rfl) (PV.uq (PK.u (pk_fld cl_Machine.c cl_Machine.n_good (PK.ins (pk_var (i := 0) rfl))))))) ?a334 ?b335)
            case a334 =>
             refine' sk_drop 1 ?k336
             case k336 =>
              refine' sk_st (ρ2 := [.val (ty_Machine C_Machine) a.1, .val tI a.2.1, .val tI a.2.2, .val tR a_2, .val tR a_4, .val tI z_7.1, .val tI z_12.1, .val tI z_12.2.1, .val (tU tS) z_12.2.2, .un, .un, .un]) (cs2 := [⟨a_2, cL (tT (tsC tI (tsC tI (ts1 (tU tS))))) z_7.2.1⟩]) rfl rfl ?k337
              case k337 =>
               refine' sk_drop 0 ?k338
               case k338 =>
                refine' sk_st (ρ2 := [.val (ty_Machine C_Machine) a.1, .val tI a.2.1, .val tI a.2.2, .val tR a_2, .val tR a_4, .val tI z_7.1, .val tI z_12.1, .val tI z_12.2.1, .val (tU tS) z_12.2.2, .un, .un, .un]) (cs2 := []) rfl rfl ?k339
                case k339 =>
                 exact sk_retNoE (NK.ne (nk_ct call_list_of bs.m_list bs.b_list n_list (PV.uq (PK.u (pk_var (i := 8) rfl)))))
            case b335 =>
             refine' sk_nilX rfl ?k340
             case k340 =>
              refine' sk_for (fun z_13 : (List (Int × Int × (List Str)) × List ((Int × Int) × Bool)) => [.val (ty_Machine C_Machine) a.1, .val tI a.2.1, .val tI a.2.2, .val tR a_2, .val tR a_4, .val tI z_7.1, .val tI z_12.1, .val tI z_12.2.1, .val (tU tS) z_12.2.2, .un, .un, .un]) (fun z_13 : (List (Int × Int × (List Str)) × List ((Int × Int) × Bool)) => [⟨a_2, cL (tT (tsC tI (tsC tI (ts1 (tU tS))))) z_13.1⟩, ⟨a_4, cDt kII tB z_13.2⟩]) (_, _) hp rfl (ik_zip3 false bs.m_zip sq_U sq_U sq_U (PK.uf (pk_fld cl_Machine.c cl_Machine.n_letters (PK.ins (pk_var (i := 0) rfl)))) (pk_ixU (pk_fld cl_Machine.c cl_Machine.n_table (PK.ins (pk_var (i := 0) rfl))) (pk_var (i := 6) rfl)) (pk_ixU (pk_fld cl_Machine.c cl_Machine.n_table (PK.ins (pk_var (i := 0) rfl))) (pk_var (i := 7) rfl))) (gk_tup rfl (gs_C (gk_name (i := 9) (by exact sc.nd)) (gs_C (gk_name (i := 10) (by exact sc.nd)) (gs_1 (gk_name (i := 11) (by exact sc.nd))))) (tlC (tlC tl1))) (.same (.same (.same (.same (.same (.same (.same (.same (.same (.same (.same (.same .nil)))))))))))) rfl ?b341 ?k342
              case b341 =>
               intro fl_17 hs_16 N_15 z_13 x_14
               refine' sk_st (ρ2 := [.val (ty_Machine C_Machine) a.1, .val tI a.2.1, .val tI a.2.2, .val tR a_2, .val tR a_4, .val tI z_7.1, .val tI z_12.1, .val tI z_12.2.1, .val (tU tS) z_12.2.2, .val tS x_14.1, .val tI x_14.2.1, .val tI x_14.2.2]) (cs2 := [⟨a_2, cL (tT (tsC tI (tsC tI (ts1 (tU tS))))) z_13.1⟩, ⟨a_4, cDt kII tB z_13.2⟩]) rfl rfl ?k343
               case k343 =>
                refine' sk_seq (sk_if1 (pt_dninT hu (pk_tup (pa_C (pk_var (i := 10) rfl) (pa_1 (pk_var (i := 11) rfl))) (fun F vs => (lenC len1) F vs _)) (PK.ownDt 1 (pk_var (i := 4) rfl) rfl)) ?a344 ?b345)
                case a344 =>
                 refine' sk_dputT 1 hu (PK.ek pk_bl) (fun _ => (pk_var (i := 4) rfl)) (fun _ => (pk_tup (pa_C (pk_var (i := 10) rfl) (pa_1 (pk_var (i := 11) rfl))) (fun F vs => (lenC len1) F vs _))) (fun _ => rfl) ?k346
                 case k346 =>
                  intro y_18 w_19
                  refine' sk_st (ρ2 := [.val (ty_Machine C_Machine) a.1, .val tI a.2.1, .val tI a.2.2, .val tR a_2, .val tR a_4, .val tI z_7.1, .val tI z_12.1, .val tI z_12.2.1, .val (tU tS) z_12.2.2, .val tS x_14.1, .val tI x_14.2.1, .val tI x_14.2.2]) (cs2 := [⟨a_2, cL (tT (tsC tI (tsC tI (ts1 (tU tS))))) z_13.1⟩, ⟨a_4, cDt kII tB w_19⟩]) rfl rfl ?k347
                  case k347 =>
                   refine' sk_expr (ek_mL PySem.F.slot_list_append PySem.F.type_list_append mt_append ml_append 0 (pk_var (i := 3) rfl) (ak_1 (PK.ek (pk_tup (pa_C (pk_var (i := 10) rfl) (pa_C (pk_var (i := 11) rfl) (pa_1 (pk_catU (pk_var (i := 8) rfl) (pk_tupU (pl_C (pk_var (i := 9) rfl) pl_0) (Nat.le_of_ble_eq_true rfl)))))) (fun F vs => (lenC (lenC len1)) F vs _)))) (fun _ => rfl) ⟨_, rfl⟩) ?k348
                   case k348 =>
                    intro y_20
                    refine' sk_name 0 rfl ?k349
                    case k349 =>
                     intro w_21
                     refine' sk_st (ρ2 := [.val (ty_Machine C_Machine) a.1, .val tI a.2.1, .val tI a.2.2, .val tR a_2, .val tR a_4, .val tI z_7.1, .val tI z_12.1, .val tI z_12.2.1, .val (tU tS) z_12.2.2, .val tS x_14.1, .val tI x_14.2.1, .val tI x_14.2.2]) (cs2 := [⟨a_2, cL (tT (tsC tI (tsC tI (ts1 (tU tS))))) w_21⟩, ⟨a_4, cDt kII tB w_19⟩]) rfl rfl ?k350
                     case k350 =>
                      refine' sk_nilX rfl ?k351
                      case k351 =>
                       exact sk_midX (z := (_, _)) rfl (.same (.same (.same (.same (.same (.same (.same (.same (.same (.un (.un (.un .nil)))))))))))) rfl
                case b345 =>
                 refine' sk_nilX rfl ?k352
                 case k352 =>
                  exact sk_midX (z := (_, _)) rfl (.same (.same (.same (.same (.same (.same (.same (.same (.same (.un (.un (.un .nil)))))))))))) rfl
              case k342 =>
               intro z_13
               refine' sk_set (i := 5) (by exact sc.nd) (pk_op op_add r2_I0 (pk_var (i := 5) rfl) pk_int) ?k353
               case k353 =>
                intro at_22
                refine' sk_st (ρ2 := [.val (ty_Machine C_Machine) a.1, .val tI a.2.1, .val tI a.2.2, .val tR a_2, .val tR a_4, .val tI at_22, .val tI z_12.1, .val tI z_12.2.1, .val (tU tS) z_12.2.2, .un, .un, .un]) (cs2 := [⟨a_2, cL (tT (tsC tI (tsC tI (ts1 (tU tS))))) z_13.1⟩, ⟨a_4, cDt kII tB z_13.2⟩]) rfl rfl ?k354
                case k354 =>
                 exact sk_midX (z := (_, _, _)) rfl (.same (.same (.same (.same (.same (.same (.un (.un (.un (.same (.same (.same .nil)))))))))))) rfl
         case k331 =>
          intro z_7
          refine' sk_drop 1 ?k355
          case k355 =>
           refine' sk_st (ρ2 := [.val (ty_Machine C_Machine) a.1, .val tI a.2.1, .val tI a.2.2, .val tR a_2, .val tR a_4, .val tI z_7.1, .un, .un, .un, .un, .un, .un]) (cs2 := [⟨a_2, cL (tT (tsC tI (tsC tI (ts1 (tU tS))))) z_7.2.1⟩]) rfl rfl ?k356
           case k356 =>
            refine' sk_drop 0 ?k357
            case k357 =>
             refine' sk_st (ρ2 := [.val (ty_Machine C_Machine) a.1, .val tI a.2.1, .val tI a.2.2, .val tR a_2, .val tR a_4, .val tI z_7.1, .un, .un, .un, .un, .un, .un]) (cs2 := []) rfl rfl ?k358
             case k358 =>
              exact sk_retNoN (pk_nonO (T := tR)) rfl
  case vc =>
   intro h
   simp only [true_and, and_true, yes1, yes2]
   obtain ⟨⟨ls, tab, good⟩, one, other⟩ := a
   obtain ⟨⟨⟨hM, hG⟩, hp⟩, hφn, hφs, hε⟩ := h
   have hM : TabOk ls tab := hM
   have hp : InP tab (one, other) := hp
   have hT : TOk ls.length tab := tok_of hM
   have few : tab.length ≤ 24 := hM.few
   have sq : tab.length * tab.length ≤ 576 := Nat.mul_le_mul few few
   try dsimp only at hφn hφs
   try dsimp only
   have gb : ∀ o, IsL ls.length tab good (one, other) o → K09.g_parted_from ((ls, tab, good), one, other) = .inl (o.map (rowOf ls)) := fun o ho => by
     show Sum.inl ((best ls.length tab good (one, other)).map (rowOf ls)) = _
     rw [best_of ho]
   intro _ z ez _ z1 ez1 z2 ez2
   refine ⟨fun n y => ∃ (at_ : Nat) (ws : List (List Nat)), n + at_ = tab.length * tab.length + 1 ∧ y.1 = (at_ : Int) ∧ y.2.1 = ws.map (trip ls tab (one, other)) ∧ BF ls.length tab good (one, other) at_ 0 ws ∧ (∀ k, (dget y.2.2 k).isSome = decide (k ∈ ws.map (run2 tab (one, other)))) ∧ y.2.2.length = ws.length, ⟨tab.length * tab.length + 1, 0, [[]], rfl, ez2, by rw [ez]; rfl, BF.start, fun k => ?_, by rw [ez1]; rfl⟩, fun n y ⟨at_, ws, i0, i1, i2, i3, i4, i5⟩ => ⟨fun e => ?_, fun e => hφn ?_⟩⟩
   · rw [ez1]
     show (dget [((one, other), true)] k).isSome = decide (k ∈ [(one, other)])
     unfold dget
     by_cases q : (one, other) = k
     · subst q
       simp
     · simp [q, Ne.symm q]
   · have hlt : y.1 < ((y.2.1.length : Nat) : Int) := of_decide_eq_true e
     rw [i2, List.length_map, i1] at hlt
     have hlt : at_ < ws.length := by omega
     obtain ⟨w, hw⟩ : ∃ w, ws[at_]? = some w := ⟨_, List.getElem?_eq_getElem hlt⟩
     have wd := i3.wd w (List.mem_of_getElem? hw)
     have hin := run2_in hT hp wd
     have r1 : InR tab (runT tab one w) := hin.1
     have r2 : InR tab (runT tab other w) := hin.2
     have r1a := r1.1
     have r2a := r2.1
     have few2 := i3.few hT hp
     have wl := i3.short at_ hw
     refine ⟨⟨by rw [i1, i2, List.length_map]; omega, by rw [i1, i2, List.length_map]; omega⟩, fun z3 ez3 => ?_⟩
     rw [i2, trip_get i1 hw] at ez3
     have f1 : z3.1 = runT tab one w := by rw [ez3]; rfl
     have f2 : z3.2.1 = runT tab other w := by rw [ez3]; rfl
     have f3 : z3.2.2 = rowOf ls w := by rw [ez3]; rfl
     rw [f1, f2, f3]
     refine ⟨fun q l c ec => hφs c ?_ l, fun q => ⟨⟨⟨by omega, r1.2⟩, ⟨by omega, r2.2⟩⟩, ?_⟩⟩
     · have q := ne_dec.mp q
       rw [gb _ (i3.found hw q), ec]
       rfl
     · have q := ne_decF.mp q
       have nq : ¬ parts tab good (one, other) w := fun c => c q
       refine ⟨fun jj v => ∃ ws2, ws2[at_]? = some w ∧ v.1 = ws2.map (trip ls tab (one, other)) ∧ BF ls.length tab good (one, other) at_ jj ws2 ∧ (∀ k, (dget v.2 k).isSome = decide (k ∈ ws2.map (run2 tab (one, other)))) ∧ v.2.length = ws2.length, ⟨ws, hw, i2, i3, i4, i5⟩, fun jj v x hx ⟨ws2, j1, j2, j3, j4, j5⟩ => ?_, fun v ⟨ws2, j1, j2, j3, j4, j5⟩ z5 ez5 => ?_⟩
       · obtain ⟨hj, ex⟩ := zip3_get hT rfl r1 r2 hx
         have few3 := j3.few hT hp
         have kx : (x.2.1, x.2.2) = run2 tab (one, other) (w ++ [jj]) := by rw [ex, run2_app]; rfl
         have lx : x.1 = ls.getD jj default := by rw [ex]
         rw [kx, j4]
         by_cases c : run2 tab (one, other) (w ++ [jj]) ∈ ws2.map (run2 tab (one, other))
         · rw [decide_eq_true c]
           exact ⟨fun e => (by cases e), fun _ => ⟨ws2, j1, j2, j3.old j1 c, j4, j5⟩⟩
         · rw [decide_eq_false c]
           refine ⟨fun _ => ⟨by rw [j5, sizeLine_eq]; omega, fun z4 ez4 => ⟨by rw [sizeLine_eq]; unfold rowOf; rw [List.length_map]; show w.length + 1 ≤ _; omega, by rw [j2, List.length_map, sizeLine_eq]; omega, fun z5 ez5 w5 ew5 => ⟨ws2 ++ [w ++ [jj]], ?_, ?_, j3.new j1 hj c, fun k => ?_, ?_⟩⟩⟩, fun e => (by cases e)⟩
           · rw [List.getElem?_append_left (List.getElem?_eq_some_iff.mp j1).1]; exact j1
           · show w5 = _
             rw [ew5, ez5, j2, List.map_append, List.map_singleton]
             have t1 : x.2.1 = runT tab one (w ++ [jj]) := congrArg Prod.fst kx
             have t2 : x.2.2 = runT tab other (w ++ [jj]) := congrArg Prod.snd kx
             rw [t1, t2, lx]
             show _ = _ ++ [(runT tab one (w ++ [jj]), runT tab other (w ++ [jj]), rowOf ls (w ++ [jj]))]
             rw [rowOf_snoc]
           · have nn : dget v.2 (run2 tab (one, other) (w ++ [jj])) = none := by
               have := j4 (run2 tab (one, other) (w ++ [jj]))
               rw [decide_eq_false c] at this
               exact Option.not_isSome_iff_eq_none.mp (by rw [this]; exact Bool.false_ne_true)
             show (dget z4 k).isSome = _
             rw [ez4, dput_key nn, dget_app_some, j4, List.map_append, List.map_singleton]
             by_cases a1 : k ∈ ws2.map (run2 tab (one, other))
             · simp [a1]
             · by_cases a2 : run2 tab (one, other) (w ++ [jj]) = k
               · simp [a2]
               · simp [a1, a2, Ne.symm a2]
           · have nn : dget v.2 (run2 tab (one, other) (w ++ [jj])) = none := by
               have := j4 (run2 tab (one, other) (w ++ [jj]))
               rw [decide_eq_false c] at this
               exact Option.not_isSome_iff_eq_none.mp (by rw [this]; exact Bool.false_ne_true)
             show z4.length = _
             rw [ez4, dput_key nn, List.length_append, List.length_append, j5]
             rfl
       · have j3 : BF ls.length tab good (one, other) at_ (ls.zip ((pyIx tab (runT tab one w)).zip (pyIx tab (runT tab other w)))).length ws2 := j3
         rw [zip3_len hT rfl r1 r2] at j3
         exact ⟨tab.length * tab.length - at_, by omega, at_ + 1, ws2, by omega, by show z5 = _; rw [ez5, i1]; rfl, j2, j3.next j1 nq, j4, j5⟩
   · have hge : ¬ y.1 < ((y.2.1.length : Nat) : Int) := of_decide_eq_false e
     rw [i2, List.length_map, i1] at hge
     rw [gb _ (i3.none (by omega))]
     rfl
abbrev s_machine : Stmt := topS 15
theorem sc_machine : FnScope ["_law_flow_here", "_law_many", "_law_letters", "_law_table", "_law_state", "_law_letter"] ["_law_flow_here", "_law_many", "_law_letters"] (defScope s_machine) := ⟨rfl, rfl, rfl, by decide +kernel, rfl, by decide +kernel, by decide +kernel⟩
def c_machine (K : PySem.W.Frag) := Con.o1 (K := K) tI (fun x : (Int × (List Str)) => [.val tI x.1, .val (tL tS) x.2]) (tT (tsC (tL (tL tI)) (ts1 (tL tI)))) pre_machine post_machine
theorem ok_machine (bs : Bs mg) {f_draw : Addr} {fd_draw : FuncData} (g_draw : Cal P w K mg base "_law_draw" 1 ["_law_flow_here", "_law_many"] (c_draw K).sp f_draw fd_draw) {f : Addr} {fd : FuncData} (F : Fun K "_law_machine" "_law_machine" s_machine f fd) : FnOk P w K mg base (L2.CX P w) 2 f fd ["_law_flow_here", "_law_many", "_law_letters"] (c_machine K).sp := by
  refine fn_con (c_machine K) F sc_machine (fun _ => rfl) ?_
  intro cdv Ar outer s H E F0 a φ ε hr hp
  have hu := hu_of hr
  have sc := sc_machine
  refine' SK.vc ?hh ?vc
  case hh =>
   refine' sk_setLc (i := 3) rfl (by exact sc.nd) (blkOk_by (own := [("_law_state", 4)]) (N := ["_law_flow_here", "_law_many", "_law_letters", "_law_table", "_law_state", "_law_letter"]) (sc := defScope s_machine) (by decide +kernel)) ?lc29 ?k372
   case lc29 =>
    refine' lc_k (own := [("_law_state", 4)]) (T := tI) (U := (tL tI)) (G := fun ρ x => (List.set ρ 4 (.val tI x))) (vs := [4]) (cs' := (fun c_1 : List Int => [⟨a.1, cL tI c_1⟩])) (z0 := fun y => _) (IK.ie (ik_range1 bs.m_range (pk_var (i := 1) rfl))) (fun _ => rfl) (by decide) (fun _ _ _ _ _ => (gk_name (i := 4) (by exact sc.nd))) (fun _ _ _ _ _ _ _ => ts_0) (fun _ _ _ _ _ _ _ _ => (NE.ek (ne_lc rfl (by exact sc.nd) ?lc27 ?lc26 ?lc28)))
    case lc27 =>
     exact blkIn_by (own := [("_law_letter", 5)]) (N := ["_law_flow_here", "_law_many", "_law_letters", "_law_table", "_law_state", "_law_letter"]) (sc := defScope s_machine) rfl rfl (by decide +kernel)
    case lc26 =>
     exact lc_k (own := [("_law_letter", 5)]) (T := tS) (U := tI) (G := fun ρ x => (List.set ρ 5 (.val tS x))) (vs := [5]) (cs' := (fun c_3 : List Int => [⟨a.1, cL tI c_3⟩])) (z0 := fun y => _) (IK.ie (ik_list (pk_var (i := 2) rfl))) (fun _ => rfl) (by decide) (fun _ _ _ _ _ => (gk_name (i := 5) (by exact sc.nd))) (fun _ _ _ _ _ _ _ => ts_0) (fun _ _ _ _ _ _ _ _ => (ek_o1 0 g_draw.F sl1 hr g_draw.m g_draw.k g_draw.b (pk_var (i := 0) rfl) (PAK.ak (pa_1 (pk_var (i := 1) rfl))) (fun _ => rfl)))
    case lc28 =>
     exact fun _ => rfl
   case k372 =>
    intro y_5 table_6
    refine' sk_name 0 rfl ?k376
    case k376 =>
     intro w_7
     refine' sk_st (ρ2 := [.val tR a.1, .val tI a.2.2.1, .val (tL tS) a.2.2.2, .val (tL (tL tI)) table_6, .un, .un]) (cs2 := [⟨a.1, cL tI w_7⟩]) rfl rfl ?k377
     case k377 =>
      refine' sk_st (ρ2 := [.val tR a.1, .val tI a.2.2.1, .val (tL tS) a.2.2.2, .val (tL (tL tI)) table_6, .un, .un]) (cs2 := [⟨a.1, cL tI w_7⟩]) rfl rfl ?k378
      case k378 =>
       refine' sk_retOE (ek_tup (ak_C (PK.ek (pk_var (i := 3) rfl)) (fun _ => (ak_1 (NE.ek (ne_lc rfl (by exact sc.nd) ?lc31 ?lc30 ?lc32))))) (lenC len1)) ?lc33
       case lc31 =>
        exact blkOk_by (own := [("_law_state", 4)]) (N := ["_law_flow_here", "_law_many", "_law_letters", "_law_table", "_law_state", "_law_letter"]) (sc := defScope s_machine) (by decide +kernel)
       case lc30 =>
        exact lc_k (own := [("_law_state", 4)]) (T := tI) (U := tI) (G := fun ρ x => (List.set ρ 4 (.val tI x))) (vs := [4]) (cs' := (fun c_8 : List Int => [⟨a.1, cL tI c_8⟩])) (z0 := fun y => _) (IK.ie (ik_range1 bs.m_range (pk_var (i := 1) rfl))) (fun _ => rfl) (by decide) (fun _ _ _ _ _ => (gk_name (i := 4) (by exact sc.nd))) (fun _ _ _ _ _ _ _ => (ts_1 (tk_cmp op_eq r2_eqI (ek_o1 0 g_draw.F sl1 hr g_draw.m g_draw.k g_draw.b (pk_var (i := 0) rfl) (PAK.ak (pa_1 pk_int)) (fun _ => rfl)) (fun _ => (PK.ek pk_int))))) (fun _ _ _ _ _ _ _ _ => (PK.ek (pk_var (i := 4) rfl)))
       case lc32 =>
        exact fun _ => rfl
       case lc33 =>
        exact fun _ => rfl
  case vc =>
   intro h
   simp only [true_and, and_true, yes1, yes2]
   obtain ⟨p, fl, n, ls⟩ := a
   obtain ⟨⟨hf, n0, n1, h6⟩, hφ⟩ := h
   have hf : Fl fl := hf
   have n0 : 1 ≤ n := n0
   have n1 : n ≤ 24 := n1
   try dsimp only at hφ
   try dsimp only
   refine ⟨⟨by omega, by omega⟩, fun i acc z => Fl z ∧ acc.length = i ∧ ∀ r ∈ acc, r.length = ls.length ∧ ∀ g ∈ r, 0 ≤ g ∧ g < n, ⟨hf, rfl, fun r hr => (by cases hr)⟩, fun i acc z x hx ⟨i1, i2, i3⟩ => ⟨fun _ => ⟨fun j acc z => Fl z ∧ acc.length = j ∧ ∀ g ∈ acc, 0 ≤ g ∧ g < n, ⟨i1, rfl, fun r hr => (by cases hr)⟩, fun j acc z y hy ⟨j1, j2, j3⟩ => ⟨fun _ => ⟨⟨j1, by omega, by omega⟩, fun r w ⟨r0, r1, f⟩ => ⟨f, by rw [List.length_append, j2]; rfl, fun g hg => ?_⟩⟩, fun e => (by cases e)⟩, fun acc1 z ⟨j1, j2, j3⟩ => ⟨j1, by rw [List.length_append, i2]; rfl, fun r hr => ?_⟩⟩, fun e => (by cases e)⟩, fun acc z ⟨i1, i2, i3⟩ tab etab w5 ew5 => ⟨⟨by omega, by omega⟩, fun i acc z => Fl z ∧ acc.Pairwise (· < ·) ∧ ∀ g ∈ acc, 0 ≤ g ∧ g < (i : Int), ⟨by rw [ew5]; exact i1, List.Pairwise.nil, fun g hg => (by cases hg)⟩, fun i acc z x hx ⟨k1, k2, k3⟩ => ⟨⟨k1, by omega, by omega⟩, fun r w ⟨r0, r1, f⟩ => ⟨fun _ => ?_, fun _ => ⟨f, k2, fun g hg => by have := k3 g hg; omega⟩⟩⟩, fun acc2 z2 ⟨k1, k2, k3⟩ => hφ _ _ ?_⟩⟩
   · rcases List.mem_append.mp hg with h | h
     · exact j3 g h
     · rw [List.mem_singleton.mp h]; exact ⟨r0, r1⟩
   · rcases List.mem_append.mp hr with h | h
     · exact i3 r h
     · rw [List.mem_singleton.mp h]
       exact ⟨j2, j3⟩
   · obtain ⟨ex, hxi⟩ := rng_get hx
     refine ⟨f, List.pairwise_append.mpr ⟨k2, List.pairwise_singleton _ _, fun g hg y hy => ?_⟩, fun g hg => ?_⟩
     · rw [List.mem_singleton.mp hy]
       have := k3 g hg
       omega
     · rcases List.mem_append.mp hg with h | h
       · have := k3 g h
         omega
       · rw [List.mem_singleton.mp h]
         omega
   · have htl : (tab.length : Int) = n := by
       rw [etab, i2, rng_length]
       omega
     refine ⟨k1, htl, by rw [etab]; exact i3, good_of k2 fun g hg => ?_⟩
     have := k3 g hg
     rw [rng_length] at this
     show 0 ≤ g ∧ g < (tab.length : Int)
     omega
abbrev s_blown : Stmt := topS 16
theorem sc_blown : FnScope ["_law_flow_here", "_law_table", "_law_good", "_law_more", "_law_owner", "_law_alike", "_law_found", "_law_state", "_law_k", "_law_goal"] ["_law_flow_here", "_law_table", "_law_good", "_law_more"] (defScope s_blown) := ⟨rfl, rfl, rfl, by decide +kernel, rfl, by decide +kernel, by decide +kernel⟩
def c_blown (K : PySem.W.Frag) := Con.o1 (K := K) tI (fun x : ((List (List Int)) × (List Int) × Int) => [.val (tL (tL tI)) x.1, .val (tL tI) x.2.1, .val tI x.2.2]) (tT (tsC (tL (tL tI)) (ts1 (tL tI)))) pre_blown post_blown
theorem ok_blown (bs : Bs mg) {f_draw : Addr} {fd_draw : FuncData} (g_draw : Cal P w K mg base "_law_draw" 1 ["_law_flow_here", "_law_many"] (c_draw K).sp f_draw fd_draw) {f : Addr} {fd : FuncData} (F : Fun K "_law_blown" "_law_blown" s_blown f fd) : FnOk P w K mg base (L2.CX P w) 2 f fd ["_law_flow_here", "_law_table", "_law_good", "_law_more"] (c_blown K).sp := by
  refine fn_con (c_blown K) F sc_blown (fun _ => rfl) ?_
  intro cdv Ar outer s H E F0 a φ ε hr hp
  have hu := hu_of hr
  have sc := sc_blown
  refine' SK.vc ?hh ?vc
  case hh =>
   refine' sk_setE (i := 4) (by exact sc.nd) (NE.ek (ne_catP (NK.pk (nk_listRg1 rfl bs.m_list bs.m_range (PV.k (pv_cb cr_lenQ bs.m_len bs.b_len u_len (PV.q (PK.l (pk_var (i := 1) rfl))))))) (NE.l (ne_lc rfl (by exact sc.nd) ?lc35 ?lc34 ?lc36)))) ?k420
   case lc35 =>
    exact blkOk_by (own := [("_law_k", 8)]) (N := ["_law_flow_here", "_law_table", "_law_good", "_law_more", "_law_owner", "_law_alike", "_law_found", "_law_state", "_law_k", "_law_goal"]) (sc := defScope s_blown) (by decide +kernel)
   case lc34 =>
    exact lc_k (own := [("_law_k", 8)]) (T := tI) (U := tI) (G := fun ρ x => (List.set ρ 8 (.val tI x))) (vs := [8]) (cs' := (fun c_1 : List Int => [⟨a.1, cL tI c_1⟩])) (z0 := fun y => _) (IK.ie (ik_range1 bs.m_range (pk_var (i := 3) rfl))) (fun _ => rfl) (by decide) (fun _ _ _ _ _ => (gk_name (i := 8) (by exact sc.nd))) (fun _ _ _ _ _ _ _ => ts_0) (fun _ _ _ _ _ _ _ _ => (ek_o1 0 g_draw.F sl1 hr g_draw.m g_draw.k g_draw.b (pk_var (i := 0) rfl) (PAK.ak (pa_1 (PV.k (pv_cb cr_lenQ bs.m_len bs.b_len u_len (PV.q (PK.l (pk_var (i := 1) rfl))))))) (fun _ => rfl)))
   case lc36 =>
    exact fun _ => rfl
   case k420 =>
    intro y_4 owner_3
    refine' sk_name 0 rfl ?k421
    case k421 =>
     intro w_5
     refine' sk_st (ρ2 := [.val tR a.1, .val (tL (tL tI)) a.2.2.1, .val (tL tI) a.2.2.2.1, .val tI a.2.2.2.2, .val (tL tI) owner_3, .un, .un, .un, .un, .un]) (cs2 := [⟨a.1, cL tI w_5⟩]) rfl rfl ?k422
     case k422 =>
      refine' sk_st (ρ2 := [.val tR a.1, .val (tL (tL tI)) a.2.2.1, .val (tL tI) a.2.2.2.1, .val tI a.2.2.2.2, .val (tL tI) owner_3, .un, .un, .un, .un, .un]) (cs2 := [⟨a.1, cL tI w_5⟩]) rfl rfl ?k423
      case k423 =>
       refine' sk_setE (i := 5) (by exact sc.nd) (NE.ek (ne_lc rfl (by exact sc.nd) ?lc41 ?lc40 ?lc42)) ?k427
       case lc41 =>
        exact blkOk_by (own := [("_law_state", 7)]) (N := ["_law_flow_here", "_law_table", "_law_good", "_law_more", "_law_owner", "_law_alike", "_law_found", "_law_state", "_law_k", "_law_goal"]) (sc := defScope s_blown) (by decide +kernel)
       case lc40 =>
        refine' lc_k (own := [("_law_state", 7)]) (T := tI) (U := (tL tI)) (G := fun ρ x => (List.set ρ 7 (.val tI x))) (vs := [7]) (cs' := (fun _ : Unit => [⟨a.1, cL tI w_5⟩])) (z0 := fun y => ()) (s1 := fun _ _ _ => ()) (s2 := fun _ _ _ _ => ()) (IK.ie (ik_range1 bs.m_range (PV.k (pv_cb cr_lenQ bs.m_len bs.b_len u_len (PV.q (PK.l (pk_var (i := 1) rfl))))))) (fun _ => rfl) (by decide) (fun _ _ _ _ _ => (gk_name (i := 7) (by exact sc.nd))) (fun _ _ _ _ _ _ _ => ts_0) (fun _ _ _ _ _ _ _ _ => (NE.ek (ne_lc rfl (by exact sc.nd) ?lc38 ?lc37 ?lc39)))
        case lc38 =>
         exact blkIn_by (own := [("_law_k", 8)]) (N := ["_law_flow_here", "_law_table", "_law_good", "_law_more", "_law_owner", "_law_alike", "_law_found", "_law_state", "_law_k", "_law_goal"]) (sc := defScope s_blown) rfl rfl (by decide +kernel)
        case lc37 =>
         exact lc_k (own := [("_law_k", 8)]) (T := tI) (U := tI) (G := fun ρ x => (List.set ρ 8 (.val tI x))) (vs := [8]) (cs' := (fun _ : Unit => [⟨a.1, cL tI w_5⟩])) (z0 := fun y => ()) (s1 := fun _ _ _ => ()) (s2 := fun _ _ _ _ => ()) (IK.ie (ik_range1 bs.m_range (PV.k (pv_cb cr_lenQ bs.m_len bs.b_len u_len (PV.q (PK.l (pk_var (i := 4) rfl))))))) (fun _ => rfl) (by decide) (fun _ _ _ _ _ => (gk_name (i := 8) (by exact sc.nd))) (fun _ _ _ _ _ _ _ => (ts_1 (PTK.tk (pt_cmp' op_eq r2_eqI (pk_ixR (T := tI) (PV.lk (PK.l (pk_var (i := 4) rfl))) (pk_var (i := 8) rfl)) (pk_var (i := 7) rfl))))) (fun _ _ _ _ _ _ _ _ => (PK.ek (pk_var (i := 8) rfl)))
        case lc39 =>
         exact fun _ => rfl
       case lc42 =>
        exact fun _ => rfl
       case k427 =>
        intro y_11 alike_10
        refine' sk_st (ρ2 := [.val tR a.1, .val (tL (tL tI)) a.2.2.1, .val (tL tI) a.2.2.2.1, .val tI a.2.2.2.2, .val (tL tI) owner_3, .val (tL (tL tI)) alike_10, .un, .un, .un, .un]) (cs2 := [⟨a.1, cL tI w_5⟩]) rfl rfl ?k431
        case k431 =>
         refine' sk_setN (i := 6) (T := (tL tI)) (by exact sc.nd) (NK.ne (nk_lst (T := (tL tI)) (pl_0 (T := (tL tI))) (Nat.zero_le _))) ?k432
         case k432 =>
          intro y_12 a_13 found_14
          refine' sk_st (ρ2 := [.val tR a.1, .val (tL (tL tI)) a.2.2.1, .val (tL tI) a.2.2.2.1, .val tI a.2.2.2.2, .val (tL tI) owner_3, .val (tL (tL tI)) alike_10, .val tR a_13, .un, .un, .un]) (cs2 := [⟨a.1, cL tI w_5⟩, ⟨a_13, cL (tL tI) found_14⟩]) rfl rfl ?k433
          case k433 =>
           refine' sk_for (fun z_15 : (List Int × List (List Int)) => [.val tR a.1, .val (tL (tL tI)) a.2.2.1, .val (tL tI) a.2.2.2.1, .val tI a.2.2.2.2, .val (tL tI) owner_3, .val (tL (tL tI)) alike_10, .val tR a_13, .un, .un, .un]) (fun z_15 : (List Int × List (List Int)) => [⟨a.1, cL tI z_15.1⟩, ⟨a_13, cL (tL tI) z_15.2⟩]) (_, _) hp rfl (ik_list (pk_var (i := 4) rfl)) (gk_name (i := 7) (by exact sc.nd)) (.same (.same (.same (.same (.same (.same (.same (.same (.same (.same .nil)))))))))) rfl ?b434 ?k435
           case b434 =>
            intro fl_19 hs_18 N_17 z_15 x_16
            refine' sk_st (ρ2 := [.val tR a.1, .val (tL (tL tI)) a.2.2.1, .val (tL tI) a.2.2.2.1, .val tI a.2.2.2.2, .val (tL tI) owner_3, .val (tL (tL tI)) alike_10, .val tR a_13, .val tI x_16, .un, .un]) (cs2 := [⟨a.1, cL tI z_15.1⟩, ⟨a_13, cL (tL tI) z_15.2⟩]) rfl rfl ?k436
            case k436 =>
             refine' sk_expr (ek_mL PySem.F.slot_list_append PySem.F.type_list_append mt_append ml_append 1 (pk_var (i := 6) rfl) (ak_1 (NE.ek (ne_lc rfl (by exact sc.nd) ?lc44 ?lc43 ?lc45))) ?lc46 ⟨_, rfl⟩) ?k441
             case lc44 =>
              exact blkOk_by (own := [("_law_goal", 9)]) (N := ["_law_flow_here", "_law_table", "_law_good", "_law_more", "_law_owner", "_law_alike", "_law_found", "_law_state", "_law_k", "_law_goal"]) (sc := defScope s_blown) (by decide +kernel)
             case lc43 =>
              exact lc_k (own := [("_law_goal", 9)]) (T := tI) (U := tI) (G := fun ρ x => (List.set ρ 9 (.val tI x))) (vs := [9]) (cs' := (fun c_20 : List Int => [⟨a.1, cL tI c_20⟩, ⟨a_13, cL (tL tI) z_15.2⟩])) (z0 := fun y => _) (IK.ie (ik_list (pk_ixR (T := (tL tI)) (PV.lk (PK.l (pk_var (i := 1) rfl))) (pk_var (i := 7) rfl)))) (fun _ => rfl) (by decide) (fun _ _ _ _ _ => (gk_name (i := 9) (by exact sc.nd))) (fun _ _ _ _ _ _ _ => ts_0) (fun _ _ _ _ _ _ _ _ => (ek_ixL (PK.ek (pk_ixR (T := (tL tI)) (PV.lk (PK.l (pk_var (i := 5) rfl))) (pk_var (i := 9) rfl))) (fun _ => (ek_o1 0 g_draw.F sl1 hr g_draw.m g_draw.k g_draw.b (pk_var (i := 0) rfl) (PAK.ak (pa_1 (PV.k (pv_cb cr_lenQ bs.m_len bs.b_len u_len (PV.q (PK.l (pk_ixR (T := (tL tI)) (PV.lk (PK.l (pk_var (i := 5) rfl))) (pk_var (i := 9) rfl)))))))) (fun _ => rfl)))))
             case lc45 =>
              exact fun _ => rfl
             case lc46 =>
              exact fun _ => rfl
             case k441 =>
              intro y_22
              refine' sk_name 0 rfl ?k442
              case k442 =>
               intro w_23
               refine' sk_name 1 rfl ?k443
               case k443 =>
                intro w_24
                refine' sk_st (ρ2 := [.val tR a.1, .val (tL (tL tI)) a.2.2.1, .val (tL tI) a.2.2.2.1, .val tI a.2.2.2.2, .val (tL tI) owner_3, .val (tL (tL tI)) alike_10, .val tR a_13, .val tI x_16, .un, .un]) (cs2 := [⟨a.1, cL tI w_23⟩, ⟨a_13, cL (tL tI) w_24⟩]) rfl rfl ?k444
                case k444 =>
                 exact sk_midX (z := (_, _)) rfl (.same (.same (.same (.same (.same (.same (.same (.un (.same (.same .nil)))))))))) rfl
           case k435 =>
            intro z_15
            refine' sk_freeze 1 6 rfl rfl rfl (Nat.le_of_ble_eq_true rfl) ?k445
            case k445 =>
             refine' sk_st (ρ2 := [.val tR a.1, .val (tL (tL tI)) a.2.2.1, .val (tL tI) a.2.2.2.1, .val tI a.2.2.2.2, .val (tL tI) owner_3, .val (tL (tL tI)) alike_10, .val (tL (tL tI)) z_15.2, .un, .un, .un]) (cs2 := [⟨a.1, cL tI z_15.1⟩]) rfl rfl ?k446
             case k446 =>
              refine' sk_retOE (ek_tup (ak_C (PK.ek (pk_var (i := 6) rfl)) (fun _ => (ak_1 (NE.ek (ne_lc rfl (by exact sc.nd) ?lc48 ?lc47 ?lc49))))) (lenC len1)) ?lc50
              case lc48 =>
               exact blkOk_by (own := [("_law_k", 8)]) (N := ["_law_flow_here", "_law_table", "_law_good", "_law_more", "_law_owner", "_law_alike", "_law_found", "_law_state", "_law_k", "_law_goal"]) (sc := defScope s_blown) (by decide +kernel)
              case lc47 =>
               exact lc_k (own := [("_law_k", 8)]) (T := tI) (U := tI) (G := fun ρ x => (List.set ρ 8 (.val tI x))) (vs := [8]) (cs' := (fun _ : Unit => [⟨a.1, cL tI z_15.1⟩])) (z0 := fun y => ()) (s1 := fun _ _ _ => ()) (s2 := fun _ _ _ _ => ()) (IK.ie (ik_range1 bs.m_range (PV.k (pv_cb cr_lenQ bs.m_len bs.b_len u_len (PV.q (PK.l (pk_var (i := 4) rfl))))))) (fun _ => rfl) (by decide) (fun _ _ _ _ _ => (gk_name (i := 8) (by exact sc.nd))) (fun _ _ _ _ _ _ _ => (ts_1 (PTK.tk (pt_in fI (pk_ixR (T := tI) (PV.lk (PK.l (pk_var (i := 4) rfl))) (pk_var (i := 8) rfl)) (PV.q (PK.l (pk_var (i := 2) rfl))))))) (fun _ _ _ _ _ _ _ _ => (PK.ek (pk_var (i := 8) rfl)))
              case lc49 =>
               exact fun _ => rfl
              case lc50 =>
               exact fun _ => rfl
  case vc =>
   intro h
   simp only [true_and, and_true, yes1, yes2]
   obtain ⟨p, fl, tab, good, more⟩ := a
   obtain ⟨⟨hf, ⟨m0, m6, hT0, hG0, t1, t24⟩, t8, n0, n8⟩, hφ⟩ := h
   have hf : Fl fl := hf
   have hT0 : TOk m0 tab := hT0
   have t8 : tab.length ≤ 8 := t8
   have t1 : 1 ≤ tab.length := t1
   have n0 : 0 ≤ more := n0
   have n8 : more ≤ 8 := n8
   try dsimp only at hφ
   try dsimp only
   have nr : (rng 0 (tab.length : Int)).length = tab.length := rng_len _
   have nm : (rng 0 more).length = more.toNat := by rw [rng_length]; omega
   refine ⟨⟨by omega, by omega⟩, ⟨by omega, by omega⟩, fun i acc z => Fl z ∧ acc.length = i ∧ ∀ g ∈ acc, 0 ≤ g ∧ g < (tab.length : Int), ⟨hf, rfl, fun g hg => (by cases hg)⟩, fun i acc z x hx ⟨i0, i1, i2⟩ => ⟨fun _ => ⟨⟨i0, by omega, by omega⟩, fun r w ⟨r0, r1, f1⟩ => ⟨f1, by rw [List.length_append, i1]; rfl, fun g hg => ?_⟩⟩, fun e => (by cases e)⟩, fun acc0 z0 ⟨i0, i1, i2⟩ => ?_⟩
   · rcases List.mem_append.mp hg with h | h
     · exact i2 g h
     · rw [List.mem_singleton.mp h]; exact ⟨r0, r1⟩
   have i1 : acc0.length = (rng 0 more).length := i1
   refine ⟨by rw [nr, i1, nm, sizeLine_eq]; omega, fun ow eow w ew => ?_⟩
   have ol : ow.length = tab.length + more.toNat := by rw [eow, List.length_append, nr, i1, nm]
   have no : (rng 0 (ow.length : Int)).length = ow.length := rng_len _
   have oi : ∀ g ∈ ow, 0 ≤ g ∧ g < (tab.length : Int) := fun g hg => by
     rw [eow] at hg
     rcases List.mem_append.mp hg with h | h
     · obtain ⟨k, hk, rfl⟩ := List.mem_map.mp h
       have := List.mem_range.mp hk
       omega
     · exact i2 g h
   have os : ∀ k : Nat, k < tab.length → pyIx ow (k : Int) = (k : Int) := fun k hk => by
     have h1 := pyIx_some (xs := ow) (n := k) (by omega)
     have h2 : ow[k]? = some (k : Int) := by
       rw [eow, List.getElem?_append_left (by rw [nr]; exact hk)]
       unfold rng
       rw [List.getElem?_map, List.getElem?_range (by omega)]
       show some (0 + (k : Int)) = _
       rw [Int.zero_add]
     rw [h2] at h1
     exact (Option.some.inj h1).symm
   refine ⟨⟨by omega, by omega⟩, fun i acc _ => acc.length = i ∧ ∀ s ∈ acc, s ≠ [] ∧ s.length ≤ ow.length ∧ ∀ g ∈ s, 0 ≤ g ∧ g < (ow.length : Int), ⟨rfl, fun s hs => (by cases hs)⟩, fun i acc _ x hx ⟨i1, i2⟩ => ⟨fun _ => ?_, fun e => (by cases e)⟩, fun acc _ ⟨j1, j2⟩ al eal _ t0 et0 => ?_⟩
   · obtain ⟨ex, hxi⟩ := rng_get hx
     refine ⟨⟨by omega, by omega⟩, fun j acc1 _ => acc1.length ≤ j ∧ (∀ g ∈ acc1, 0 ≤ g ∧ g < (ow.length : Int)) ∧ (x < (j : Int) → acc1 ≠ []), ⟨Nat.le_refl _, fun g hg => (by cases hg), fun q => by omega⟩, fun j acc1 _ y hy ⟨j0, j1, j2⟩ => ?_, fun acc1 _ ⟨j0, j1, j2⟩ => ⟨by rw [List.length_append, i1]; rfl, fun s hs => ?_⟩⟩
     · obtain ⟨ey, hyj⟩ := rng_get hy
       refine ⟨⟨by omega, by omega⟩, fun c => ⟨by rw [List.length_append]; show acc1.length + 1 ≤ _; omega, fun g hg => ?_, fun _ => by simp⟩, fun c => ⟨Nat.le_succ_of_le j0, j1, fun q => ?_⟩⟩
       · rcases List.mem_append.mp hg with h | h
         · exact j1 g h
         · rw [List.mem_singleton.mp h]; omega
       · by_cases e : x = (j : Int)
         · exfalso
           have c := of_decide_eq_false c
           rw [show y = ((j : Nat) : Int) by omega, os j (by omega)] at c
           exact c e.symm
         · exact j2 (by omega)
     · rcases List.mem_append.mp hs with h | h
       · exact i2 s h
       · rw [List.mem_singleton.mp h]
         have j0 : acc1.length ≤ (rng 0 (ow.length : Int)).length := j0
         have j2 : x < (((rng 0 (ow.length : Int)).length : Nat) : Int) → acc1 ≠ [] := j2
         rw [no] at j0 j2
         exact ⟨j2 (by omega), j0, j1⟩
   have j1 : acc.length = (rng 0 (tab.length : Int)).length := j1
   have al1 : al.length = tab.length := by rw [eal, j1, nr]
   have al2 : ∀ s ∈ al, s ≠ [] ∧ s.length ≤ ow.length ∧ ∀ g ∈ s, 0 ≤ g ∧ g < (ow.length : Int) := by rw [eal]; exact j2
   refine ⟨fun i y => Fl y.1 ∧ y.2.length = i ∧ ∀ s ∈ y.2, (∃ row ∈ tab, s.length = row.length) ∧ ∀ g ∈ s, 0 ≤ g ∧ g < (ow.length : Int), ⟨by rw [ew]; exact i0, by rw [et0]; rfl, fun s hs => (by rw [et0] at hs; cases hs)⟩, fun i y x hx ⟨k0, k1, k2⟩ => ?_, fun y ⟨k0, k1, k2⟩ => ?_⟩
   · have xo := oi x (get_mem hx)
     have hrow : pyIx tab x ∈ tab := pyIx_mem xo.1 xo.2
     refine ⟨⟨by omega, xo.2⟩, fun j acc1 z => Fl z ∧ acc1.length = j ∧ ∀ g ∈ acc1, 0 ≤ g ∧ g < (ow.length : Int), ⟨k0, rfl, fun g hg => (by cases hg)⟩, fun j acc1 z y1 hy ⟨l0, l1, l2⟩ => ⟨fun _ => ?_, fun e => (by cases e)⟩, fun acc1 z ⟨l0, l1, l2⟩ => ⟨?_, fun z4 ez4 w4 ew4 w5 ew5 => ⟨by show Fl w4; rw [ew4]; exact l0, ?_, fun s hs => ?_⟩⟩⟩
     · have yin := hT0.goal _ hrow y1 (get_mem hy)
       have ya := yin.1
       have yb := yin.2
       have am : pyIx al y1 ∈ al := pyIx_mem ya (by omega)
       obtain ⟨a1, a2, a3⟩ := al2 _ am
       have apos : 0 < (pyIx al y1).length := List.length_pos_iff.mpr a1
       refine ⟨⟨by omega, by omega⟩, ⟨by omega, by omega⟩, ⟨l0, by omega, by omega⟩, fun r w6 ⟨r0, r1, f1⟩ => ⟨⟨by omega, r1⟩, f1, by rw [List.length_append, l1]; rfl, fun g hg => ?_⟩⟩
       rcases List.mem_append.mp hg with h | h
       · exact l2 g h
       · rw [List.mem_singleton.mp h]
         exact a3 _ (pyIx_mem r0 r1)
     · rw [k1, sizeLine_eq]
       have := (List.getElem?_eq_some_iff.mp hx).1
       omega
     · show w5.length = i + 1
       rw [ew5, ez4, List.length_append, k1]
       rfl
     · have hs : s ∈ w5 := hs
       rw [ew5, ez4] at hs
       rcases List.mem_append.mp hs with h | h
       · exact k2 s h
       · rw [List.mem_singleton.mp h]
         exact ⟨⟨_, hrow, l1⟩, l2⟩
   · have k1 : y.2.length = ow.length := k1
     refine ⟨⟨by omega, by omega⟩, fun i acc1 _ => acc1.Pairwise (· < ·) ∧ ∀ g ∈ acc1, 0 ≤ g ∧ g < (i : Int), ⟨List.Pairwise.nil, fun g hg => (by cases hg)⟩, fun i acc1 _ x hx ⟨l1, l2⟩ => ?_, fun acc1 _ ⟨l1, l2⟩ => hφ _ _ ⟨k0, fun m hm => ?_⟩⟩
     · obtain ⟨ex, hxi⟩ := rng_get hx
       refine ⟨⟨by omega, by omega⟩, fun c => ⟨List.pairwise_append.mpr ⟨l1, List.pairwise_singleton _ _, fun g hg y hy => ?_⟩, fun g hg => ?_⟩, fun c => ⟨l1, fun g hg => by have := l2 g hg; omega⟩⟩
       · rw [List.mem_singleton.mp hy]
         have := l2 g hg
         omega
       · rcases List.mem_append.mp hg with h | h
         · have := l2 g h
           omega
         · rw [List.mem_singleton.mp h]
           omega
     · have hT : TOk m tab := hm.1
       refine ⟨⟨fun s hs => ?_, fun s hs g hg => ?_⟩, good_of l1 fun g hg => ?_, by show 1 ≤ y.2.length; omega, by show y.2.length ≤ 24; omega⟩
       · obtain ⟨⟨row, hr, e⟩, _⟩ := k2 s hs
         rw [e]
         exact hT.len row hr
       · have := (k2 s hs).2 g hg
         exact ⟨this.1, by show g < (y.2.length : Int); omega⟩
       · have := l2 g hg
         rw [no] at this
         show 0 ≤ g ∧ g < (y.2.length : Int)
         omega
abbrev s_counter : Stmt := topS 17
theorem sc_counter : FnScope ["_law_flow_here", "_law_letters", "_law_many", "_law_step", "_law_table", "_law_state", "_law_k"] ["_law_flow_here", "_law_letters"] (defScope s_counter) := ⟨rfl, rfl, rfl, by decide +kernel, rfl, by decide +kernel, by decide +kernel⟩
def c_counter (K : PySem.W.Frag) := Con.o1 (K := K) tI (fun x : (List Str) => [.val (tL tS) x]) (tT (tsC (tL (tL tI)) (ts1 (tL tI)))) pre_counter post_counter
theorem ok_counter (bs : Bs mg) {f_draw : Addr} {fd_draw : FuncData} (g_draw : Cal P w K mg base "_law_draw" 1 ["_law_flow_here", "_law_many"] (c_draw K).sp f_draw fd_draw) {f : Addr} {fd : FuncData} (F : Fun K "_law_counter" "_law_counter" s_counter f fd) : FnOk P w K mg base (L2.CX P w) 2 f fd ["_law_flow_here", "_law_letters"] (c_counter K).sp := by
  refine fn_con (c_counter K) F sc_counter (fun _ => rfl) ?_
  intro cdv Ar outer s H E F0 a φ ε hr hp
  have hu := hu_of hr
  have sc := sc_counter
  refine' SK.vc ?hh ?vc
  case hh =>
   refine' sk_setG (gk_tup rfl (gs_C (gk_name (i := 2) (by exact sc.nd)) (gs_1 (gk_name (i := 3) (by exact sc.nd)))) (tlC tl1)) (ek_tup (ak_C (ek_op op_add r2_I0 (PK.ek pk_int) (fun _ => (ek_o1 0 g_draw.F sl1 hr g_draw.m g_draw.k g_draw.b (pk_var (i := 0) rfl) (PAK.ak (pa_1 pk_int)) (fun _ => rfl)))) (fun _ => (ak_1 (ek_o1 0 g_draw.F sl1 hr g_draw.m g_draw.k g_draw.b (pk_var (i := 0) rfl) (PAK.ak (pa_1 (PV.k (pv_cb cr_lenQ bs.m_len bs.b_len u_len (PV.q (PK.l (pk_var (i := 1) rfl))))))) (fun _ => rfl))))) (lenC len1)) ?k461
   case k461 =>
    intro y_1 z_2
    refine' sk_name 0 rfl ?k462
    case k462 =>
     intro w_3
     refine' sk_st (ρ2 := [.val tR a.1, .val (tL tS) a.2.2, .val tI z_2.1, .val tI z_2.2, .un, .un, .un]) (cs2 := [⟨a.1, cL tI w_3⟩]) rfl rfl ?k463
     case k463 =>
      refine' sk_st (ρ2 := [.val tR a.1, .val (tL tS) a.2.2, .val tI z_2.1, .val tI z_2.2, .un, .un, .un]) (cs2 := [⟨a.1, cL tI w_3⟩]) rfl rfl ?k464
      case k464 =>
       refine' sk_setLc (i := 4) rfl (by exact sc.nd) (blkOk_by (own := [("_law_state", 5)]) (N := ["_law_flow_here", "_law_letters", "_law_many", "_law_step", "_law_table", "_law_state", "_law_k"]) (sc := defScope s_counter) (by decide +kernel)) ?lc54 ?k466
       case lc54 =>
        refine' lc_k (own := [("_law_state", 5)]) (T := tI) (U := (tL tI)) (G := fun ρ x => (List.set ρ 5 (.val tI x))) (vs := [5]) (cs' := (fun _ : Unit => [⟨a.1, cL tI w_3⟩])) (z0 := fun y => ()) (s1 := fun _ _ _ => ()) (s2 := fun _ _ _ _ => ()) (IK.ie (ik_range1 bs.m_range (pk_var (i := 2) rfl))) (fun _ => rfl) (by decide) (fun _ _ _ _ _ => (gk_name (i := 5) (by exact sc.nd))) (fun _ _ _ _ _ _ _ => ts_0) (fun _ _ _ _ _ _ _ _ => (NE.ek (ne_lc rfl (by exact sc.nd) ?lc52 ?lc51 ?lc53)))
        case lc52 =>
         exact blkIn_by (own := [("_law_k", 6)]) (N := ["_law_flow_here", "_law_letters", "_law_many", "_law_step", "_law_table", "_law_state", "_law_k"]) (sc := defScope s_counter) rfl rfl (by decide +kernel)
        case lc51 =>
         exact lc_k (own := [("_law_k", 6)]) (T := tI) (U := tI) (G := fun ρ x => (List.set ρ 6 (.val tI x))) (vs := [6]) (cs' := (fun _ : Unit => [⟨a.1, cL tI w_3⟩])) (z0 := fun y => ()) (s1 := fun _ _ _ => ()) (s2 := fun _ _ _ _ => ()) (IK.ie (ik_range1 bs.m_range (PV.k (pv_cb cr_lenQ bs.m_len bs.b_len u_len (PV.q (PK.l (pk_var (i := 1) rfl))))))) (fun _ => rfl) (by decide) (fun _ _ _ _ _ => (gk_name (i := 6) (by exact sc.nd))) (fun _ _ _ _ _ _ _ => ts_0) (fun _ _ _ _ _ _ _ _ => (PK.ek (pk_ixR (T := tI) (PV.lk (NK.l (nk_lst (pl_C (pk_var (i := 5) rfl) (pl_C (pk_op op_mod r2_I (pk_op op_add r2_I0 (pk_var (i := 5) rfl) pk_int) (pk_var (i := 2) rfl)) pl_0)) (Nat.le_of_ble_eq_true rfl)))) (PV.k (pv_ct call_int1 bs.m_int bs.b_int u_intB (PK.v (pk_cmp op_eq r2_eqI (pk_var (i := 6) rfl) (pk_var (i := 3) rfl))))))))
        case lc53 =>
         exact fun _ => rfl
       case k466 =>
        intro y_8 table_9
        refine' sk_st (ρ2 := [.val tR a.1, .val (tL tS) a.2.2, .val tI z_2.1, .val tI z_2.2, .val (tL (tL tI)) table_9, .un, .un]) (cs2 := [⟨a.1, cL tI w_3⟩]) rfl rfl ?k470
        case k470 =>
         exact sk_retOE (ek_tup (ak_C (PK.ek (pk_var (i := 4) rfl)) (fun _ => (ak_1 (NE.ek (ek_lst (al_C (ek_o1 0 g_draw.F sl1 hr g_draw.m g_draw.k g_draw.b (pk_var (i := 0) rfl) (PAK.ak (pa_1 (pk_var (i := 2) rfl))) (fun _ => rfl)) (fun _ => al_0)) (fun _ => by simp)))))) (lenC len1)) (fun _ => rfl)
  case vc =>
   intro h
   simp only [true_and, and_true, yes1, yes2]
   obtain ⟨p, fl, ls⟩ := a
   obtain ⟨⟨hf, l1, l6⟩, hφ⟩ := h
   have hf : Fl fl := hf
   have l1 : 1 ≤ ls.length := l1
   have l6 : ls.length ≤ 6 := l6
   try dsimp only at hφ
   try dsimp only
   refine ⟨⟨hf, by decide, by decide⟩, fun r w ⟨r0, r1, f1⟩ => ⟨⟨f1, by omega, by omega⟩, fun q w1 ⟨q0, q1, f2⟩ z ez w2 ew2 => ?_⟩⟩
   have z1 : z.1 = 12 + r := by rw [ez]
   have zn : 12 ≤ z.1 ∧ z.1 ≤ 24 := by omega
   refine ⟨⟨by omega, by omega⟩, fun i acc _ => acc.length = i ∧ ∀ s ∈ acc, s.length = ls.length ∧ ∀ g ∈ s, 0 ≤ g ∧ g < z.1, ⟨rfl, fun s hs => (by cases hs)⟩, fun i acc _ x hx ⟨i1, i2⟩ => ⟨fun _ => ⟨⟨by omega, by omega⟩, fun j acc1 _ => acc1.length = j ∧ ∀ g ∈ acc1, 0 ≤ g ∧ g < z.1, ⟨rfl, fun g hg => (by cases hg)⟩, fun j acc1 _ y hy ⟨j1, j2⟩ => ⟨fun _ => ?_, fun e => (by cases e)⟩, fun acc1 _ ⟨j1, j2⟩ => ⟨by rw [List.length_append, i1]; rfl, fun s hs => ?_⟩⟩, fun e => (by cases e)⟩, fun acc _ ⟨i1, i2⟩ tab etab => ⟨⟨by rw [ew2]; exact f2, by omega, by omega⟩, fun g w3 ⟨g0, g1, f3⟩ => hφ _ _ ⟨f3, ?_⟩⟩⟩
   · obtain ⟨ex, hxi⟩ := rng_get hx
     have m0 := Int.emod_nonneg (x + 1) (b := z.1) (by omega)
     have m1 := Int.emod_lt_of_pos (x + 1) (b := z.1) (by omega)
     by_cases c : y = z.2
     · rw [decide_eq_true c, if_pos rfl]
       refine ⟨⟨by omega, ⟨by show -2 ≤ (1 : Int); decide, by show (1 : Int) < 2; decide⟩⟩, by rw [List.length_append, j1]; rfl, fun g hg => ?_⟩
       rcases List.mem_append.mp hg with h | h
       · exact j2 g h
       · rw [List.mem_singleton.mp h]
         exact ⟨m0, m1⟩
     · rw [decide_eq_false c, if_neg (by decide)]
       refine ⟨⟨by omega, ⟨by show -2 ≤ (0 : Int); decide, by show (0 : Int) < 2; decide⟩⟩, by rw [List.length_append, j1]; rfl, fun g hg => ?_⟩
       rcases List.mem_append.mp hg with h | h
       · exact j2 g h
       · rw [List.mem_singleton.mp h]
         show 0 ≤ x ∧ x < z.1
         omega
   · rcases List.mem_append.mp hs with h | h
     · exact i2 s h
     · rw [List.mem_singleton.mp h]
       exact ⟨by rw [j1, rng_length]; omega, j2⟩
   · have tl : (tab.length : Int) = z.1 := by rw [etab, i1, rng_length]; omega
     have hr : ∀ s ∈ tab, s.length = ls.length ∧ ∀ g ∈ s, 0 ≤ g ∧ g < z.1 := by rw [etab]; exact i2
     refine ⟨⟨fun s hs => (hr s hs).1, fun s hs g hg => ?_⟩, good_of (List.pairwise_singleton _ _) fun y hy => ?_, by show 1 ≤ tab.length; omega, by show tab.length ≤ 24; omega⟩
     · have := (hr s hs).2 g hg
       exact ⟨this.1, by show g < (tab.length : Int); omega⟩
     · rw [List.mem_singleton.mp hy]
       show 0 ≤ g ∧ g < (tab.length : Int)
       omega
abbrev s_road : Stmt := topS 18
theorem sc_road : FnScope ["_law_flow_here", "_law_letters", "_law_many", "_law_table", "_law_state", "_law_step", "_law_k", "_law_letter"] ["_law_flow_here", "_law_letters"] (defScope s_road) := ⟨rfl, rfl, rfl, by decide +kernel, rfl, by decide +kernel, by decide +kernel⟩
def c_road (K : PySem.W.Frag) := Con.o1 (K := K) tI (fun x : (List Str) => [.val (tL tS) x]) (tT (tsC (tL (tL tI)) (ts1 (tL tI)))) pre_road post_road
theorem ok_road (bs : Bs mg) {f_draw : Addr} {fd_draw : FuncData} (g_draw : Cal P w K mg base "_law_draw" 1 ["_law_flow_here", "_law_many"] (c_draw K).sp f_draw fd_draw) {f : Addr} {fd : FuncData} (F : Fun K "_law_road" "_law_road" s_road f fd) : FnOk P w K mg base (L2.CX P w) 2 f fd ["_law_flow_here", "_law_letters"] (c_road K).sp := by
  refine fn_con (c_road K) F sc_road (fun _ => rfl) ?_
  intro cdv Ar outer s H E F0 a φ ε hr hp
  have hu := hu_of hr
  have sc := sc_road
  refine' SK.vc ?hh ?vc
  case hh =>
   refine' sk_setE (i := 2) (by exact sc.nd) (ek_op op_add r2_I0 (PK.ek pk_int) (fun _ => (ek_o1 0 g_draw.F sl1 hr g_draw.m g_draw.k g_draw.b (pk_var (i := 0) rfl) (PAK.ak (pa_1 pk_int)) (fun _ => rfl)))) ?k497
   case k497 =>
    intro y_2 many_1
    refine' sk_name 0 rfl ?k498
    case k498 =>
     intro w_3
     refine' sk_st (ρ2 := [.val tR a.1, .val (tL tS) a.2.2, .val tI many_1, .un, .un, .un, .un, .un]) (cs2 := [⟨a.1, cL tI w_3⟩]) rfl rfl ?k499
     case k499 =>
      refine' sk_st (ρ2 := [.val tR a.1, .val (tL tS) a.2.2, .val tI many_1, .un, .un, .un, .un, .un]) (cs2 := [⟨a.1, cL tI w_3⟩]) rfl rfl ?k500
      case k500 =>
       refine' sk_setN (i := 3) (T := (tL tI)) (by exact sc.nd) (NK.ne (nk_lst (T := (tL tI)) (pl_0 (T := (tL tI))) (Nat.zero_le _))) ?k501
       case k501 =>
        intro y_4 a_5 table_6
        refine' sk_st (ρ2 := [.val tR a.1, .val (tL tS) a.2.2, .val tI many_1, .val tR a_5, .un, .un, .un, .un]) (cs2 := [⟨a.1, cL tI w_3⟩, ⟨a_5, cL (tL tI) table_6⟩]) rfl rfl ?k502
        case k502 =>
         refine' sk_for (fun z_7 : (List Int × List (List Int)) => [.val tR a.1, .val (tL tS) a.2.2, .val tI many_1, .val tR a_5, .un, .un, .un, .un]) (fun z_7 : (List Int × List (List Int)) => [⟨a.1, cL tI z_7.1⟩, ⟨a_5, cL (tL tI) z_7.2⟩]) (_, _) hp rfl (ik_range1 bs.m_range (pk_var (i := 2) rfl)) (gk_name (i := 4) (by exact sc.nd)) (.same (.same (.same (.same (.same (.same (.same (.same .nil)))))))) rfl ?b503 ?k504
         case b503 =>
          intro fl_11 hs_10 N_9 z_7 x_8
          refine' sk_st (ρ2 := [.val tR a.1, .val (tL tS) a.2.2, .val tI many_1, .val tR a_5, .val tI x_8, .un, .un, .un]) (cs2 := [⟨a.1, cL tI z_7.1⟩, ⟨a_5, cL (tL tI) z_7.2⟩]) rfl rfl ?k505
          case k505 =>
           refine' sk_setE (i := 5) (by exact sc.nd) (ek_o1 0 g_draw.F sl1 hr g_draw.m g_draw.k g_draw.b (pk_var (i := 0) rfl) (PAK.ak (pa_1 (PV.k (pv_cb cr_lenQ bs.m_len bs.b_len u_len (PV.q (PK.l (pk_var (i := 1) rfl))))))) (fun _ => rfl)) ?k506
           case k506 =>
            intro y_13 step_12
            refine' sk_name 0 rfl ?k507
            case k507 =>
             intro w_14
             refine' sk_st (ρ2 := [.val tR a.1, .val (tL tS) a.2.2, .val tI many_1, .val tR a_5, .val tI x_8, .val tI step_12, .un, .un]) (cs2 := [⟨a.1, cL tI w_14⟩, ⟨a_5, cL (tL tI) z_7.2⟩]) rfl rfl ?k508
             case k508 =>
              refine' sk_st (ρ2 := [.val tR a.1, .val (tL tS) a.2.2, .val tI many_1, .val tR a_5, .val tI x_8, .val tI step_12, .un, .un]) (cs2 := [⟨a.1, cL tI w_14⟩, ⟨a_5, cL (tL tI) z_7.2⟩]) rfl rfl ?k509
              case k509 =>
               refine' sk_expr (ek_mL PySem.F.slot_list_append PySem.F.type_list_append mt_append ml_append 1 (pk_var (i := 3) rfl) (ak_1 (NE.ek (ne_lc rfl (by exact sc.nd) ?lc56 ?lc55 ?lc57))) ?lc58 ⟨_, rfl⟩) ?k514
               case lc56 =>
                exact blkOk_by (own := [("_law_k", 6)]) (N := ["_law_flow_here", "_law_letters", "_law_many", "_law_table", "_law_state", "_law_step", "_law_k", "_law_letter"]) (sc := defScope s_road) (by decide +kernel)
               case lc55 =>
                exact lc_k (own := [("_law_k", 6)]) (T := tI) (U := tI) (G := fun ρ x => (List.set ρ 6 (.val tI x))) (vs := [6]) (cs' := (fun _ : Unit => [⟨a.1, cL tI w_14⟩, ⟨a_5, cL (tL tI) z_7.2⟩])) (z0 := fun y => ()) (s1 := fun _ _ _ => ()) (s2 := fun _ _ _ _ => ()) (IK.ie (ik_range1 bs.m_range (PV.k (pv_cb cr_lenQ bs.m_len bs.b_len u_len (PV.q (PK.l (pk_var (i := 1) rfl))))))) (fun _ => rfl) (by decide) (fun _ _ _ _ _ => (gk_name (i := 6) (by exact sc.nd))) (fun _ _ _ _ _ _ _ => ts_0) (fun _ _ _ _ _ _ _ _ => (PK.ek (pk_ixR (T := tI) (PV.lk (NK.l (nk_lst (pl_C (pk_var (i := 2) rfl) (pl_C (pk_op op_add r2_I0 (pk_var (i := 4) rfl) pk_int) pl_0)) (Nat.le_of_ble_eq_true rfl)))) (PV.k (pv_ct call_int1 bs.m_int bs.b_int u_intB (PK.v (pk_cmp op_eq r2_eqI (pk_var (i := 6) rfl) (pk_var (i := 5) rfl))))))))
               case lc57 =>
                exact fun _ => rfl
               case lc58 =>
                exact fun _ => rfl
               case k514 =>
                intro y_17
                refine' sk_name 1 rfl ?k515
                case k515 =>
                 intro w_18
                 refine' sk_st (ρ2 := [.val tR a.1, .val (tL tS) a.2.2, .val tI many_1, .val tR a_5, .val tI x_8, .val tI step_12, .un, .un]) (cs2 := [⟨a.1, cL tI w_14⟩, ⟨a_5, cL (tL tI) w_18⟩]) rfl rfl ?k516
                 case k516 =>
                  exact sk_midX (z := (_, _)) rfl (.same (.same (.same (.same (.un (.un (.same (.same .nil)))))))) rfl
         case k504 =>
          intro z_7
          refine' sk_freeze 1 3 rfl rfl rfl (Nat.le_of_ble_eq_true rfl) ?k517
          case k517 =>
           refine' sk_st (ρ2 := [.val tR a.1, .val (tL tS) a.2.2, .val tI many_1, .val (tL (tL tI)) z_7.2, .un, .un, .un, .un]) (cs2 := [⟨a.1, cL tI z_7.1⟩]) rfl rfl ?k518
           case k518 =>
            refine' sk_retOE (ek_tup (ak_C (NE.ek (ne_catP (pk_var (i := 3) rfl) (NE.l (ek_lst (al_C (NE.ek (ne_lc rfl (by exact sc.nd) ?lc60 ?lc59 ?lc61)) (fun _ => al_0)) (fun _ => by simp))))) (fun _ => (ak_1 (PK.ek (NK.pk (nk_lst (pl_C (pk_op op_sub r2_I0 (pk_var (i := 2) rfl) pk_int) pl_0) (Nat.le_of_ble_eq_true rfl))))))) (lenC len1)) ?lc62
            case lc60 =>
             exact blkOk_by (own := [("_law_letter", 7)]) (N := ["_law_flow_here", "_law_letters", "_law_many", "_law_table", "_law_state", "_law_step", "_law_k", "_law_letter"]) (sc := defScope s_road) (by decide +kernel)
            case lc59 =>
             exact lc_k (own := [("_law_letter", 7)]) (T := tS) (U := tI) (G := fun ρ x => (List.set ρ 7 (.val tS x))) (vs := [7]) (cs' := (fun _ : Unit => [⟨a.1, cL tI z_7.1⟩])) (z0 := fun y => ()) (s1 := fun _ _ _ => ()) (s2 := fun _ _ _ _ => ()) (IK.ie (ik_list (pk_var (i := 1) rfl))) (fun _ => rfl) (by decide) (fun _ _ _ _ _ => (gk_name (i := 7) (by exact sc.nd))) (fun _ _ _ _ _ _ _ => ts_0) (fun _ _ _ _ _ _ _ _ => (PK.ek (pk_var (i := 2) rfl)))
            case lc61 =>
             exact fun _ => rfl
            case lc62 =>
             exact fun _ => rfl
  case vc =>
   intro h
   simp only [true_and, and_true, yes1, yes2]
   obtain ⟨p, fl, ls⟩ := a
   obtain ⟨⟨hf, l1, l6⟩, hφ⟩ := h
   have hf : Fl fl := hf
   have l1 : 1 ≤ ls.length := l1
   have l6 : ls.length ≤ 6 := l6
   try dsimp only at hφ
   try dsimp only
   refine ⟨⟨hf, by decide, by decide⟩, fun r w ⟨r0, r1, f1⟩ z ez w1 ew1 _ t0 et0 => ?_⟩
   have zn : 8 ≤ z ∧ z ≤ 23 := by omega
   have nl : (rng 0 z).length = z.toNat := by rw [rng_length]; omega
   refine ⟨⟨by omega, by omega⟩, fun i y => Fl y.1 ∧ y.2.length = i ∧ ∀ s ∈ y.2, s.length = ls.length ∧ ∀ g ∈ s, 0 ≤ g ∧ g < z + 1, ⟨by rw [ew1]; exact f1, by rw [et0]; rfl, fun s hs => (by rw [et0] at hs; cases hs)⟩, fun i y x hx ⟨i0, i1, i2⟩ => ⟨⟨i0, by omega, by omega⟩, fun q w3 ⟨q0, q1, f3⟩ z3 ez3 w4 ew4 => ⟨⟨by omega, by omega⟩, fun j acc _ => acc.length = j ∧ ∀ g ∈ acc, 0 ≤ g ∧ g < z + 1, ⟨rfl, fun g hg => (by cases hg)⟩, fun j acc _ x1 hx1 ⟨j1, j2⟩ => ⟨fun _ => ?_, fun e => (by cases e)⟩, fun acc _ ⟨j1, j2⟩ => ⟨?_, fun z5 ez5 w5 ew5 => ⟨by show Fl w4; rw [ew4]; exact f3, ?_, fun s hs => ?_⟩⟩⟩⟩, fun y ⟨i0, i1, i2⟩ => ⟨fun j acc _ => acc.length = j ∧ ∀ g ∈ acc, g = z, ⟨rfl, fun g hg => (by cases hg)⟩, fun j acc _ x1 hx1 ⟨j1, j2⟩ => ⟨fun _ => ⟨by rw [List.length_append, j1]; rfl, fun g hg => ?_⟩, fun e => (by cases e)⟩, fun acc _ ⟨j1, j2⟩ => ⟨?_, hφ _ _ ⟨i0, ?_⟩⟩⟩⟩
   · obtain ⟨ex, hxi⟩ := rng_get hx
     by_cases c : x1 = z3
     · rw [decide_eq_true c, if_pos rfl]
       refine ⟨⟨by show -2 ≤ (1 : Int); decide, by show (1 : Int) < 2; decide⟩, by rw [List.length_append, j1]; rfl, fun g hg => ?_⟩
       rcases List.mem_append.mp hg with h | h
       · exact j2 g h
       · rw [List.mem_singleton.mp h]
         show 0 ≤ x + 1 ∧ x + 1 < z + 1
         omega
     · rw [decide_eq_false c, if_neg (by decide)]
       refine ⟨⟨by show -2 ≤ (0 : Int); decide, by show (0 : Int) < 2; decide⟩, by rw [List.length_append, j1]; rfl, fun g hg => ?_⟩
       rcases List.mem_append.mp hg with h | h
       · exact j2 g h
       · rw [List.mem_singleton.mp h]
         show 0 ≤ z ∧ z < z + 1
         omega
   · rw [i1, sizeLine_eq]
     have := (List.getElem?_eq_some_iff.mp hx).1
     omega
   · show w5.length = i + 1
     rw [ew5, ez5, List.length_append, i1]
     rfl
   · have hs : s ∈ w5 := hs
     rw [ew5, ez5] at hs
     rcases List.mem_append.mp hs with h | h
     · exact i2 s h
     · rw [List.mem_singleton.mp h]
       exact ⟨by rw [j1, rng_length]; omega, j2⟩
   · rcases List.mem_append.mp hg with h | h
     · exact j2 g h
     · exact List.mem_singleton.mp h
   · have i1 : y.2.length = (rng 0 z).length := i1
     rw [i1, nl, sizeLine_eq]
     show z.toNat + 1 ≤ _
     omega
   · have i1 : y.2.length = (rng 0 z).length := i1
     have tl : ((y.2 ++ [acc]).length : Int) = z + 1 := by
       rw [List.length_append, i1, nl]
       show ((z.toNat + 1 : Nat) : Int) = _
       omega
     have hr : ∀ s ∈ y.2 ++ [acc], s.length = ls.length ∧ ∀ g ∈ s, 0 ≤ g ∧ g < z + 1 := fun s hs => by
       rcases List.mem_append.mp hs with h | h
       · exact i2 s h
       · rw [List.mem_singleton.mp h]
         exact ⟨j1, fun g hg => by rw [j2 g hg]; omega⟩
     refine ⟨⟨fun s hs => (hr s hs).1, fun s hs g hg => ?_⟩, good_of (List.pairwise_singleton _ _) fun g hg => ?_, by show 1 ≤ (y.2 ++ [acc]).length; omega, by show (y.2 ++ [acc]).length ≤ 24; omega⟩
     · have := (hr s hs).2 g hg
       exact ⟨this.1, by show g < ((y.2 ++ [acc]).length : Int); omega⟩
     · rw [List.mem_singleton.mp hg]
       show 0 ≤ z - 1 ∧ z - 1 < ((y.2 ++ [acc]).length : Int)
       omega
abbrev s_by_rows : Stmt := topS 19
theorem sc_by_rows : FnScope ["_law_letters", "_law_table", "_law_good", "_law_one", "_law_other", "_law_level", "_law_turn", "_law_first", "_law_second", "_law_row", "_law_more", "_law_x", "_law_y", "_law_z"] ["_law_letters", "_law_table", "_law_good", "_law_one", "_law_other"] (defScope s_by_rows) := ⟨rfl, rfl, rfl, by decide +kernel, rfl, by decide +kernel, by decide +kernel⟩
def c_by_rows (K : PySem.W.Frag) := Con.fn (K := K) (fun x : ((List Str) × (List (List Int)) × (List Int) × Int × Int) => [.val (tL tS) x.1, .val (tL (tL tI)) x.2.1, .val (tL tI) x.2.2.1, .val tI x.2.2.2.1, .val tI x.2.2.2.2]) (tO (tL tS)) pre_by_rows f_by_rows
theorem ok_by_rows (bs : Bs mg) {f : Addr} {fd : FuncData} (F : Fun K "_law_by_rows" "_law_by_rows" s_by_rows f fd) : FnOk P w K mg base (L2.CX P w) 1 f fd ["_law_letters", "_law_table", "_law_good", "_law_one", "_law_other"] (c_by_rows K).sp := by
  refine fn_con (c_by_rows K) F sc_by_rows (fun _ => rfl) ?_
  intro cdv Ar outer s H E F0 a φ ε hr hp
  have hu := hu_of hr
  have sc := sc_by_rows
  refine' SK.vc ?hh ?vc
  case hh =>
   refine' sk_set (i := 5) (by exact sc.nd) (NK.pk (nk_lst (pl_C (pk_tup (pa_C (pk_var (i := 3) rfl) (pa_C (pk_var (i := 4) rfl) (pa_1 (NK.pk (nk_lst (T := tS) (pl_0 (T := tS)) (Nat.zero_le _)))))) (fun F vs => (lenC (lenC len1)) F vs _)) pl_0) (Nat.le_of_ble_eq_true rfl))) ?k550
   case k550 =>
    intro level_1
    refine' sk_st (ρ2 := [.val (tL tS) a.1, .val (tL (tL tI)) a.2.1, .val (tL tI) a.2.2.1, .val tI a.2.2.2.1, .val tI a.2.2.2.2, .val (tL (tT (tsC tI (tsC tI (ts1 (tL tS)))))) level_1, .un, .un, .un, .un, .un, .un, .un, .un]) (cs2 := []) rfl rfl ?k551
    case k551 =>
     refine' sk_for (fun z_2 : (List (Int × Int × (List Str))) => [.val (tL tS) a.1, .val (tL (tL tI)) a.2.1, .val (tL tI) a.2.2.1, .val tI a.2.2.2.1, .val tI a.2.2.2.2, .val (tL (tT (tsC tI (tsC tI (ts1 (tL tS)))))) z_2, .un, .un, .un, .un, .un, .un, .un, .un]) (fun z_2 : (List (Int × Int × (List Str))) => []) _ hp rfl (ik_range1 bs.m_range (PV.k (pv_cb cr_lenQ bs.m_len bs.b_len u_len (PV.q (PK.l (pk_var (i := 1) rfl)))))) (gk_name (i := 6) (by exact sc.nd)) (.same (.same (.same (.same (.same (.same (.same (.same (.same (.same (.same (.same (.same (.same .nil)))))))))))))) rfl ?b552 ?k553
     case b552 =>
      intro fl_6 hs_5 N_4 z_2 x_3
      refine' sk_st (ρ2 := [.val (tL tS) a.1, .val (tL (tL tI)) a.2.1, .val (tL tI) a.2.2.1, .val tI a.2.2.2.1, .val tI a.2.2.2.2, .val (tL (tT (tsC tI (tsC tI (ts1 (tL tS)))))) z_2, .val tI x_3, .un, .un, .un, .un, .un, .un, .un]) (cs2 := []) rfl rfl ?k554
      case k554 =>
       refine' sk_for (fun _ : Unit => [.val (tL tS) a.1, .val (tL (tL tI)) a.2.1, .val (tL tI) a.2.2.1, .val tI a.2.2.2.1, .val tI a.2.2.2.2, .val (tL (tT (tsC tI (tsC tI (ts1 (tL tS)))))) z_2, .val tI x_3, .un, .un, .un, .un, .un, .un, .un]) (fun _ : Unit => []) () hp rfl (ik_list (pk_var (i := 5) rfl)) (gk_tup rfl (gs_C (gk_name (i := 7) (by exact sc.nd)) (gs_C (gk_name (i := 8) (by exact sc.nd)) (gs_1 (gk_name (i := 9) (by exact sc.nd))))) (tlC (tlC tl1))) (.same (.same (.same (.same (.same (.same (.same (.same (.same (.same (.same (.same (.same (.same .nil)))))))))))))) rfl ?b555 ?k556
       case b555 =>
        intro fl_11 hs_10 N_9 z_7 x_8
        refine' sk_st (ρ2 := [.val (tL tS) a.1, .val (tL (tL tI)) a.2.1, .val (tL tI) a.2.2.1, .val tI a.2.2.2.1, .val tI a.2.2.2.2, .val (tL (tT (tsC tI (tsC tI (ts1 (tL tS)))))) z_2, .val tI x_3, .val tI x_8.1, .val tI x_8.2.1, .val (tL tS) x_8.2.2, .un, .un, .un, .un]) (cs2 := []) rfl rfl ?k557
        case k557 =>
         refine' sk_seq (sk_if1 (pt_cmp' op_ne r2_neB (pk_in fI (pk_var (i := 7) rfl) (PV.q (PK.l (pk_var (i := 2) rfl)))) (pk_in fI (pk_var (i := 8) rfl) (PV.q (PK.l (pk_var (i := 2) rfl))))) ?a558 ?b559)
         case a558 =>
          exact sk_retF (PK.some (pk_var (i := 9) rfl))
         case b559 =>
          refine' sk_nilX rfl ?k560
          case k560 =>
           exact sk_midX (z := ()) rfl (.same (.same (.same (.same (.same (.same (.same (.un (.un (.un (.same (.same (.same (.same .nil)))))))))))))) rfl
       case k556 =>
        intro z_7
        refine' sk_setN (i := 10) (T := (tT (tsC tI (tsC tI (ts1 (tL tS)))))) (by exact sc.nd) (NK.ne (nk_lst (T := (tT (tsC tI (tsC tI (ts1 (tL tS)))))) (pl_0 (T := (tT (tsC tI (tsC tI (ts1 (tL tS))))))) (Nat.zero_le _))) ?k561
        case k561 =>
         intro y_12 a_13 more_14
         refine' sk_st (ρ2 := [.val (tL tS) a.1, .val (tL (tL tI)) a.2.1, .val (tL tI) a.2.2.1, .val tI a.2.2.2.1, .val tI a.2.2.2.2, .val (tL (tT (tsC tI (tsC tI (ts1 (tL tS)))))) z_2, .val tI x_3, .un, .un, .un, .val tR a_13, .un, .un, .un]) (cs2 := [⟨a_13, cL (tT (tsC tI (tsC tI (ts1 (tL tS))))) more_14⟩]) rfl rfl ?k562
         case k562 =>
          refine' sk_for (fun z_15 : List (Int × Int × (List Str)) => [.val (tL tS) a.1, .val (tL (tL tI)) a.2.1, .val (tL tI) a.2.2.1, .val tI a.2.2.2.1, .val tI a.2.2.2.2, .val (tL (tT (tsC tI (tsC tI (ts1 (tL tS)))))) z_2, .val tI x_3, .un, .un, .un, .val tR a_13, .un, .un, .un]) (fun z_15 : List (Int × Int × (List Str)) => [⟨a_13, cL (tT (tsC tI (tsC tI (ts1 (tL tS))))) z_15⟩]) _ hp rfl (ik_list (pk_var (i := 5) rfl)) (gk_tup rfl (gs_C (gk_name (i := 7) (by exact sc.nd)) (gs_C (gk_name (i := 8) (by exact sc.nd)) (gs_1 (gk_name (i := 9) (by exact sc.nd))))) (tlC (tlC tl1))) (.same (.same (.same (.same (.same (.same (.same (.same (.same (.same (.same (.same (.same (.same .nil)))))))))))))) rfl ?b563 ?k564
          case b563 =>
           intro fl_19 hs_18 N_17 z_15 x_16
           refine' sk_st (ρ2 := [.val (tL tS) a.1, .val (tL (tL tI)) a.2.1, .val (tL tI) a.2.2.1, .val tI a.2.2.2.1, .val tI a.2.2.2.2, .val (tL (tT (tsC tI (tsC tI (ts1 (tL tS)))))) z_2, .val tI x_3, .val tI x_16.1, .val tI x_16.2.1, .val (tL tS) x_16.2.2, .val tR a_13, .un, .un, .un]) (cs2 := [⟨a_13, cL (tT (tsC tI (tsC tI (ts1 (tL tS))))) z_15⟩]) rfl rfl ?k565
           case k565 =>
            refine' sk_expr (ek_mL PySem.F.slot_list_extend PySem.F.type_list_extend mt_extend ml_extend 0 (pk_var (i := 10) rfl) (ak_1 (NE.ek (ne_lc rfl (by exact sc.nd) ?lc64 ?lc63 ?lc65))) ?lc66 ⟨_, rfl⟩) ?k570
            case lc64 =>
             exact blkOk_by (own := [("_law_x", 11), ("_law_y", 12), ("_law_z", 13)]) (N := ["_law_letters", "_law_table", "_law_good", "_law_one", "_law_other", "_law_level", "_law_turn", "_law_first", "_law_second", "_law_row", "_law_more", "_law_x", "_law_y", "_law_z"]) (sc := defScope s_by_rows) (by decide +kernel)
            case lc63 =>
             exact lc_k (own := [("_law_x", 11), ("_law_y", 12), ("_law_z", 13)]) (T := (tT (tsC tI (tsC tI (ts1 tS))))) (U := (tT (tsC tI (tsC tI (ts1 (tL tS)))))) (G := fun ρ x => (List.set (List.set (List.set ρ 11 (.val tI x.1)) 12 (.val tI x.2.1)) 13 (.val tS x.2.2))) (vs := [11, 12, 13]) (cs' := (fun _ : Unit => [⟨a_13, cL (tT (tsC tI (tsC tI (ts1 (tL tS))))) z_15⟩])) (z0 := fun y => ()) (s1 := fun _ _ _ => ()) (s2 := fun _ _ _ _ => ()) (IK.ie (ik_zip3 true bs.m_zip sq_L sq_L sq_L (pk_ixR (T := (tL tI)) (PV.lk (PK.l (pk_var (i := 1) rfl))) (pk_var (i := 7) rfl)) (pk_ixR (T := (tL tI)) (PV.lk (PK.l (pk_var (i := 1) rfl))) (pk_var (i := 8) rfl)) (pk_var (i := 0) rfl))) (fun _ => rfl) (by decide) (fun _ _ _ _ _ => (gk_tup rfl (gs_C (gk_name (i := 11) (by exact sc.nd)) (gs_C (gk_name (i := 12) (by exact sc.nd)) (gs_1 (gk_name (i := 13) (by exact sc.nd))))) (tlC (tlC tl1)))) (fun _ _ _ _ _ _ _ => ts_0) (fun _ _ _ _ _ _ _ _ => (PK.ek (pk_tup (pa_C (pk_var (i := 11) rfl) (pa_C (pk_var (i := 12) rfl) (pa_1 (NK.pk (nk_cat (PK.l (pk_var (i := 9) rfl)) (NK.l (nk_lst (pl_C (pk_var (i := 13) rfl) pl_0) (Nat.le_of_ble_eq_true rfl)))))))) (fun F vs => (lenC (lenC len1)) F vs _))))
            case lc65 =>
             exact fun _ => rfl
            case lc66 =>
             exact fun _ => rfl
            case k570 =>
             intro y_22
             refine' sk_name 0 rfl ?k571
             case k571 =>
              intro w_23
              refine' sk_st (ρ2 := [.val (tL tS) a.1, .val (tL (tL tI)) a.2.1, .val (tL tI) a.2.2.1, .val tI a.2.2.2.1, .val tI a.2.2.2.2, .val (tL (tT (tsC tI (tsC tI (ts1 (tL tS)))))) z_2, .val tI x_3, .val tI x_16.1, .val tI x_16.2.1, .val (tL tS) x_16.2.2, .val tR a_13, .un, .un, .un]) (cs2 := [⟨a_13, cL (tT (tsC tI (tsC tI (ts1 (tL tS))))) w_23⟩]) rfl rfl ?k572
              case k572 =>
               exact sk_midX (z := _) rfl (.same (.same (.same (.same (.same (.same (.same (.un (.un (.un (.same (.same (.same (.same .nil)))))))))))))) rfl
          case k564 =>
           intro z_15
           refine' sk_freeze 0 10 rfl rfl rfl (Nat.le_of_ble_eq_true rfl) ?k573
           case k573 =>
            refine' sk_st (ρ2 := [.val (tL tS) a.1, .val (tL (tL tI)) a.2.1, .val (tL tI) a.2.2.1, .val tI a.2.2.2.1, .val tI a.2.2.2.2, .val (tL (tT (tsC tI (tsC tI (ts1 (tL tS)))))) z_2, .val tI x_3, .un, .un, .un, .val (tL (tT (tsC tI (tsC tI (ts1 (tL tS)))))) z_15, .un, .un, .un]) (cs2 := []) rfl rfl ?k574
            case k574 =>
             refine' sk_set (i := 5) (by exact sc.nd) (pk_var (i := 10) rfl) ?k575
             case k575 =>
              intro level_24
              refine' sk_st (ρ2 := [.val (tL tS) a.1, .val (tL (tL tI)) a.2.1, .val (tL tI) a.2.2.1, .val tI a.2.2.2.1, .val tI a.2.2.2.2, .val (tL (tT (tsC tI (tsC tI (ts1 (tL tS)))))) level_24, .val tI x_3, .un, .un, .un, .val (tL (tT (tsC tI (tsC tI (ts1 (tL tS)))))) z_15, .un, .un, .un]) (cs2 := []) rfl rfl ?k576
              case k576 =>
               exact sk_midX (z := _) rfl (.same (.same (.same (.same (.same (.same (.un (.same (.same (.same (.un (.same (.same (.same .nil)))))))))))))) rfl
     case k553 =>
      intro z_2
      exact sk_retF (pk_nonO (T := (tL tS)))
  case vc =>
   intro h
   simp only [true_and, and_true, yes1, yes2]
   obtain ⟨ls, tab, good, one, other⟩ := a
   obtain ⟨⟨l6, hT, few, pos, hp⟩, hφ⟩ := h
   have l6 : ls.length ≤ 6 := l6
   have hT : TOk ls.length tab := hT
   have few : tab.length ≤ 4 := few
   have pos : 1 ≤ tab.length := pos
   have hp : InP tab (one, other) := hp
   try dsimp only at hφ
   try dsimp only
   have post : ∀ o, IsL ls.length tab good (one, other) o → φ (o.map (rowOf ls)) := fun o ho => hφ _ (by
     show o.map (rowOf ls) = (best ls.length tab good (one, other)).map (rowOf ls)
     rw [best_of ho])
   intro z ez
   have nl : (rng 0 (tab.length : Int)).length = tab.length := rng_len _
   refine ⟨⟨by omega, by omega⟩, fun k y => y = (words ls.length k).map (trip ls tab (one, other)) ∧ ¬ ∃ j, j < k ∧ Dk ls.length tab good j (one, other), ⟨ez, fun ⟨j, hj, _⟩ => by omega⟩, fun k y x hx ⟨i1, i2⟩ => ?_, fun y ⟨i1, i2⟩ => ?_⟩
   · have hk : k < tab.length := by
       have := (List.getElem?_eq_some_iff.mp hx).1
       omega
     have pw : ls.length ^ (k + 1) ≤ 1296 := Nat.le_trans (Nat.pow_le_pow_left l6 _) (Nat.pow_le_pow_right (by decide) (by omega : k + 1 ≤ 4))
     have gt : ∀ {i : Nat} {x : Int × Int × List Str}, y[i]? = some x → ∃ w, (words ls.length k)[i]? = some w ∧ x = trip ls tab (one, other) w := fun {i x} e => by
       rw [i1, List.getElem?_map] at e
       cases c : (words ls.length k)[i]? with
       | none => rw [c] at e; cases e
       | some w => rw [c] at e; exact ⟨w, rfl, (Option.some.inj e).symm⟩
     refine ⟨fun i _ => ∀ i', i' < i → ∀ v, (words ls.length k)[i']? = some v → ¬ parts tab good (one, other) v, fun i' hi => absurd hi (Nat.not_lt_zero i'), fun i _ x hx hb => ?_, fun _ hb => ?_⟩
     · obtain ⟨w, hw, ex⟩ := gt hx
       subst ex
       refine ⟨fun c => ?_, fun c i' hi' v hv => ?_⟩
       · exact post (some w) (rows_found i2 hw (ne_dec.mp c) hb)
       · rcases Nat.lt_or_ge i' i with q | q
         · exact hb i' q v hv
         · have : i' = i := by omega
           subst this
           rw [hw] at hv
           cases hv
           exact fun c2 => c2 (ne_decF.mp c)
     · have hb : ∀ i', i' < y.length → ∀ v, (words ls.length k)[i']? = some v → ¬ parts tab good (one, other) v := hb
       have yl : y.length = (words ls.length k).length := by rw [i1, List.length_map]
       have none_k : ¬ ∃ j, j < k + 1 ∧ Dk ls.length tab good j (one, other) := fun ⟨j, hj, w, h1, h2, h3⟩ => by
         rcases Nat.lt_or_ge w.length k with q | q
         · exact i2 ⟨w.length, q, w, h1, Nat.le_refl _, h3⟩
         · obtain ⟨i', hi'⟩ := List.getElem?_of_mem (mem_words.mpr ⟨h1, (by omega : w.length = k)⟩)
           exact hb i' (by rw [yl]; exact (List.getElem?_eq_some_iff.mp hi').1) w hi' h3
       intro _ z2 ez2
       refine ⟨fun i v => v = ((words ls.length k).take i).flatMap fun w => (List.range ls.length).map fun j => trip ls tab (one, other) (w ++ [j]), ez2, fun i v x hx hv => ?_, fun v hv z4 ez4 => ⟨?_, none_k⟩⟩
       · obtain ⟨w, hw, ex⟩ := gt hx
         obtain ⟨wd, wl⟩ := mem_words.mp (List.mem_of_getElem? hw)
         have hin := run2_in hT hp wd
         have r1 : InR tab (runT tab one w) := hin.1
         have r2 : InR tab (runT tab other w) := hin.2
         have r1a := r1.1
         have r2a := r2.1
         subst ex
         dsimp only at hv
         show (IxOk tab (runT tab one w) ∧ IxOk tab (runT tab other w)) ∧ _
         have zl : ((pyIx tab (runT tab one w)).zip ((pyIx tab (runT tab other w)).zip ls)).length = ls.length := by
           rw [List.length_zip, List.length_zip, hT.len _ (pyIx_mem r1.1 r1.2), hT.len _ (pyIx_mem r2.1 r2.2)]
           omega
         refine ⟨⟨⟨by omega, r1.2⟩, ⟨by omega, r2.2⟩⟩, fun j acc _ => acc = ((List.range ls.length).take j).map fun j => trip ls tab (one, other) (w ++ [j]), rfl, fun j acc _ x1 hx1 hacc => ⟨fun _ => ⟨?_, ?_⟩, fun e => (by cases e)⟩, fun acc _ hacc => ?_⟩
         · rw [sizeLine_eq]
           show (rowOf ls w).length + 1 ≤ _
           unfold rowOf
           rw [List.length_map]
           omega
         · obtain ⟨h1, h2, h3⟩ := zip_get3 hx1
           have hj : j < ls.length := (List.getElem?_eq_some_iff.mp h3).1
           have h1 : (pyIx tab (runT tab one w))[j]? = some x1.1 := h1
           have h2 : (pyIx tab (runT tab other w))[j]? = some x1.2.1 := h2
           rw [row_get hT r1 hj] at h1
           rw [row_get hT r2 hj] at h2
           dsimp only at hacc ⊢
           rw [map_step (xs := List.range ls.length) (x := j) _ (by rw [List.getElem?_range hj]), hacc]
           have g1 : x1.1 = stp tab (runT tab one w) j := (Option.some.inj h1).symm
           have g2 : x1.2.1 = stp tab (runT tab other w) j := (Option.some.inj h2).symm
           have g3 : x1.2.2 = ls.getD j default := by rw [List.getD_eq_getElem?_getD, h3]; rfl
           rw [g1, g2, g3]
           show _ ++ [(stp tab (runT tab one w) j, stp tab (runT tab other w) j, rowOf ls w ++ [ls.getD j default])] = _ ++ [(runT tab one (w ++ [j]), runT tab other (w ++ [j]), rowOf ls (w ++ [j]))]
           rw [rowOf_snoc, run_app, run_app]
           rfl
         · have hacc : acc = ((List.range ls.length).take ((pyIx tab (runT tab one w)).zip ((pyIx tab (runT tab other w)).zip ls)).length).map fun j => trip ls tab (one, other) (w ++ [j]) := hacc
           rw [zl, List.take_of_length_le (by rw [List.length_range]; exact Nat.le_refl _)] at hacc
           have fl : ∀ l : List (List Nat), (l.flatMap fun w => (List.range ls.length).map fun j => trip ls tab (one, other) (w ++ [j])).length = l.length * ls.length := fun l => by
             induction l with
             | nil => simp
             | cons a l ih => rw [List.flatMap_cons, List.length_append, ih, List.length_map, List.length_range, List.length_cons, Nat.add_mul, Nat.one_mul, Nat.add_comm]
           have hi : i < (words ls.length k).length := (List.getElem?_eq_some_iff.mp hw).1
           refine ⟨?_, fun z5 ez5 w5 ew5 => ?_⟩
           · rw [hv, hacc, fl, List.length_map, List.length_range, List.length_take, sizeLine_eq]
             have b1 : min i (words ls.length k).length * ls.length + ls.length ≤ ls.length ^ (k + 1) := by
               rw [Nat.min_eq_left (Nat.le_of_lt hi), ← Nat.succ_mul, Nat.pow_succ, ← words_len]
               exact Nat.mul_le_mul_right _ hi
             omega
           · show w5 = _
             rw [ew5, ez5, hv, hacc, take_step hw, List.flatMap_append]
             simp
       · have hv : v = ((words ls.length k).take y.length).flatMap fun w => (List.range ls.length).map fun j => trip ls tab (one, other) (w ++ [j]) := hv
         rw [yl, List.take_length] at hv
         rw [ez4, hv]
         show _ = ((words ls.length k).flatMap fun w => (List.range ls.length).map fun j => w ++ [j]).map (trip ls tab (one, other))
         rw [List.map_flatMap]
         congr 1
         funext w
         rw [List.map_map]
         rfl
   · have i2 : ¬ ∃ j, j < (rng 0 (tab.length : Int)).length ∧ Dk ls.length tab good j (one, other) := i2
     rw [nl] at i2
     refine post none fun w hw hq => ?_
     obtain ⟨v, h1, h2, h3⟩ := short hT hp.1 hp.2 hw hq
     exact i2 ⟨v.length, h2, v, h1, Nat.le_refl _, h3⟩
abbrev s_far : Stmt := topS 20
theorem sc_far : FnScope ["_law_table", "_law_good", "_law_every", "_law_one", "_law_far_here", "_law_turn", "_law_fresh", "_law_pair", "_law_near", "_law_other", "_law_goals"] ["_law_table", "_law_good"] (defScope s_far) := ⟨rfl, rfl, rfl, by decide +kernel, rfl, by decide +kernel, by decide +kernel⟩
def c_far (K : PySem.W.Frag) := Con.fp (K := K) (fun x : ((List (List Int)) × (List Int)) => [.val (tL (tL tI)) x.1, .val (tL tI) x.2]) (tDt kII tI) pre_far post_far
theorem ok_far (bs : Bs mg) {f : Addr} {fd : FuncData} (F : Fun K "_law_far" "_law_far" s_far f fd) : FnOk P w K mg base (L2.CX P w) 1 f fd ["_law_table", "_law_good"] (c_far K).sp := by
  refine fn_con (c_far K) F sc_far (fun _ => rfl) ?_
  intro cdv Ar outer s H E F0 a φ ε hr hp
  have hu := hu_of hr
  have sc := sc_far
  refine' SK.vc ?hh ?vc
  case hh =>
   refine' sk_setN (i := 2) (T := (tT (tsC tI (ts1 tI)))) (by exact sc.nd) (NK.ne (nk_lst (T := (tT (tsC tI (ts1 tI)))) (pl_0 (T := (tT (tsC tI (ts1 tI))))) (Nat.zero_le _))) ?k624
   case k624 =>
    intro y_1 a_2 every_3
    refine' sk_st (ρ2 := [.val (tL (tL tI)) a.1, .val (tL tI) a.2, .val tR a_2, .un, .un, .un, .un, .un, .un, .un, .un]) (cs2 := [⟨a_2, cL (tT (tsC tI (ts1 tI))) every_3⟩]) rfl rfl ?k625
    case k625 =>
     refine' sk_for (fun z_4 : List (Int × Int) => [.val (tL (tL tI)) a.1, .val (tL tI) a.2, .val tR a_2, .un, .un, .un, .un, .un, .un, .un, .un]) (fun z_4 : List (Int × Int) => [⟨a_2, cL (tT (tsC tI (ts1 tI))) z_4⟩]) _ hp rfl (ik_range1 bs.m_range (PV.k (pv_cb cr_lenQ bs.m_len bs.b_len u_len (PV.q (PK.l (pk_var (i := 0) rfl)))))) (gk_name (i := 3) (by exact sc.nd)) (.same (.same (.same (.same (.same (.same (.same (.same (.same (.same (.same .nil))))))))))) rfl ?b626 ?k627
     case b626 =>
      intro fl_8 hs_7 N_6 z_4 x_5
      refine' sk_st (ρ2 := [.val (tL (tL tI)) a.1, .val (tL tI) a.2, .val tR a_2, .val tI x_5, .un, .un, .un, .un, .un, .un, .un]) (cs2 := [⟨a_2, cL (tT (tsC tI (ts1 tI))) z_4⟩]) rfl rfl ?k628
      case k628 =>
       refine' sk_expr (ek_mL PySem.F.slot_list_extend PySem.F.type_list_extend mt_extend ml_extend 0 (pk_var (i := 2) rfl) (ak_1 (NE.ek (ne_lc rfl (by exact sc.nd) ?lc68 ?lc67 ?lc69))) ?lc70 ⟨_, rfl⟩) ?k633
       case lc68 =>
        exact blkOk_by (own := [("_law_other", 9)]) (N := ["_law_table", "_law_good", "_law_every", "_law_one", "_law_far_here", "_law_turn", "_law_fresh", "_law_pair", "_law_near", "_law_other", "_law_goals"]) (sc := defScope s_far) (by decide +kernel)
       case lc67 =>
        exact lc_k (own := [("_law_other", 9)]) (T := tI) (U := (tT (tsC tI (ts1 tI)))) (G := fun ρ x => (List.set ρ 9 (.val tI x))) (vs := [9]) (cs' := (fun _ : Unit => [⟨a_2, cL (tT (tsC tI (ts1 tI))) z_4⟩])) (z0 := fun y => ()) (s1 := fun _ _ _ => ()) (s2 := fun _ _ _ _ => ()) (IK.ie (ik_range1 bs.m_range (PV.k (pv_cb cr_lenQ bs.m_len bs.b_len u_len (PV.q (PK.l (pk_var (i := 0) rfl))))))) (fun _ => rfl) (by decide) (fun _ _ _ _ _ => (gk_name (i := 9) (by exact sc.nd))) (fun _ _ _ _ _ _ _ => ts_0) (fun _ _ _ _ _ _ _ _ => (PK.ek (pk_tup (pa_C (pk_var (i := 3) rfl) (pa_1 (pk_var (i := 9) rfl))) (fun F vs => (lenC len1) F vs _))))
       case lc69 =>
        exact fun _ => rfl
       case lc70 =>
        exact fun _ => rfl
       case k633 =>
        intro y_11
        refine' sk_name 0 rfl ?k634
        case k634 =>
         intro w_12
         refine' sk_st (ρ2 := [.val (tL (tL tI)) a.1, .val (tL tI) a.2, .val tR a_2, .val tI x_5, .un, .un, .un, .un, .un, .un, .un]) (cs2 := [⟨a_2, cL (tT (tsC tI (ts1 tI))) w_12⟩]) rfl rfl ?k635
         case k635 =>
          exact sk_midX (z := _) rfl (.same (.same (.same (.un (.same (.same (.same (.same (.same (.same (.same .nil))))))))))) rfl
     case k627 =>
      intro z_4
      refine' sk_freeze 0 2 rfl rfl rfl (Nat.le_of_ble_eq_true rfl) ?k636
      case k636 =>
       refine' sk_st (ρ2 := [.val (tL (tL tI)) a.1, .val (tL tI) a.2, .val (tL (tT (tsC tI (ts1 tI)))) z_4, .un, .un, .un, .un, .un, .un, .un, .un]) (cs2 := []) rfl rfl ?k637
       case k637 =>
        refine' sk_setDN (i := 4) (by exact sc.nd) (de_pairs kII (T := tI) hr rfl bs.m_dict bs.b_dict (NE.ek (ne_lc rfl (by exact sc.nd) ?lc75 ?lc74 ?lc76))) ?k641
        case lc75 =>
         exact blkOk_by (own := [("_law_pair", 7)]) (N := ["_law_table", "_law_good", "_law_every", "_law_one", "_law_far_here", "_law_turn", "_law_fresh", "_law_pair", "_law_near", "_law_other", "_law_goals"]) (sc := defScope s_far) (by decide +kernel)
        case lc74 =>
         exact lc_k (own := [("_law_pair", 7)]) (T := (tT (tsC tI (ts1 tI)))) (U := (tT (tsC (tT (tsC tI (ts1 tI))) (ts1 tI)))) (G := fun ρ x => (List.set ρ 7 (.val (tT (tsC tI (ts1 tI))) x))) (vs := [7]) (cs' := (fun _ : Unit => [])) (z0 := fun y => ()) (s1 := fun _ _ _ => ()) (s2 := fun _ _ _ _ => ()) (IK.ie (ik_list (pk_var (i := 2) rfl))) (fun _ => rfl) (by decide) (fun _ _ _ _ _ => (gk_name (i := 7) (by exact sc.nd))) (fun _ _ _ _ _ _ _ => (ts_1 (PTK.tk (pt_cmp' op_ne r2_neB (pk_in fI (pk_ixT Nth.here (pk_var (i := 7) rfl)) (PV.q (PK.l (pk_var (i := 1) rfl)))) (pk_in fI (pk_ixT (Nth.next Nth.one) (pk_var (i := 7) rfl)) (PV.q (PK.l (pk_var (i := 1) rfl)))))))) (fun _ _ _ _ _ _ _ _ => (PK.ek (pk_tup (pa_C (pk_var (i := 7) rfl) (pa_1 pk_int)) (fun F vs => (lenC len1) F vs _))))
        case lc76 =>
         exact fun _ => rfl
        case k641 =>
         intro y_17 a_18 far_here_19
         refine' sk_st (ρ2 := [.val (tL (tL tI)) a.1, .val (tL tI) a.2, .val (tL (tT (tsC tI (ts1 tI)))) z_4, .un, .val tR a_18, .un, .un, .un, .un, .un, .un]) (cs2 := [⟨a_18, cDt kII tI far_here_19⟩]) rfl rfl ?k642
         case k642 =>
          refine' sk_for (fun z_20 : List ((Int × Int) × Int) => [.val (tL (tL tI)) a.1, .val (tL tI) a.2, .val (tL (tT (tsC tI (ts1 tI)))) z_4, .un, .val tR a_18, .un, .un, .un, .un, .un, .un]) (fun z_20 : List ((Int × Int) × Int) => [⟨a_18, cDt kII tI z_20⟩]) _ hp rfl (ik_range2 bs.m_range pk_int (PV.k (pv_cb cr_lenQ bs.m_len bs.b_len u_len (PV.q (PK.l (pk_var (i := 0) rfl)))))) (gk_name (i := 5) (by exact sc.nd)) (.same (.same (.same (.same (.same (.same (.same (.same (.same (.same (.same .nil))))))))))) rfl ?b643 ?k644
          case b643 =>
           intro fl_24 hs_23 N_22 z_20 x_21
           refine' sk_st (ρ2 := [.val (tL (tL tI)) a.1, .val (tL tI) a.2, .val (tL (tT (tsC tI (ts1 tI)))) z_4, .un, .val tR a_18, .val tI x_21, .un, .un, .un, .un, .un]) (cs2 := [⟨a_18, cDt kII tI z_20⟩]) rfl rfl ?k645
           case k645 =>
            refine' sk_setN (i := 6) (T := (tT (tsC tI (ts1 tI)))) (by exact sc.nd) (NK.ne (nk_lst (T := (tT (tsC tI (ts1 tI)))) (pl_0 (T := (tT (tsC tI (ts1 tI))))) (Nat.zero_le _))) ?k646
            case k646 =>
             intro y_25 a_26 fresh_27
             refine' sk_st (ρ2 := [.val (tL (tL tI)) a.1, .val (tL tI) a.2, .val (tL (tT (tsC tI (ts1 tI)))) z_4, .un, .val tR a_18, .val tI x_21, .val tR a_26, .un, .un, .un, .un]) (cs2 := [⟨a_18, cDt kII tI z_20⟩, ⟨a_26, cL (tT (tsC tI (ts1 tI))) fresh_27⟩]) rfl rfl ?k647
             case k647 =>
              refine' sk_for (fun z_28 : List (Int × Int) => [.val (tL (tL tI)) a.1, .val (tL tI) a.2, .val (tL (tT (tsC tI (ts1 tI)))) z_4, .un, .val tR a_18, .val tI x_21, .val tR a_26, .un, .un, .un, .un]) (fun z_28 : List (Int × Int) => [⟨a_18, cDt kII tI z_20⟩, ⟨a_26, cL (tT (tsC tI (ts1 tI))) z_28⟩]) _ hp rfl (ik_list (pk_var (i := 2) rfl)) (gk_name (i := 7) (by exact sc.nd)) (.same (.same (.same (.same (.same (.same (.same (.same (.same (.same (.same .nil))))))))))) rfl ?b648 ?k649
              case b648 =>
               intro fl_32 hs_31 N_30 z_28 x_29
               refine' sk_st (ρ2 := [.val (tL (tL tI)) a.1, .val (tL tI) a.2, .val (tL (tT (tsC tI (ts1 tI)))) z_4, .un, .val tR a_18, .val tI x_21, .val tR a_26, .val (tT (tsC tI (ts1 tI))) x_29, .un, .un, .un]) (cs2 := [⟨a_18, cDt kII tI z_20⟩, ⟨a_26, cL (tT (tsC tI (ts1 tI))) z_28⟩]) rfl rfl ?k650
               case k650 =>
                refine' sk_setLc (i := 8) rfl (by exact sc.nd) (blkOk_by (own := [("_law_goals", 10)]) (N := ["_law_table", "_law_good", "_law_every", "_law_one", "_law_far_here", "_law_turn", "_law_fresh", "_law_pair", "_law_near", "_law_other", "_law_goals"]) (sc := defScope s_far) (by decide +kernel)) ?lc77 ?k652
                case lc77 =>
                 exact lc_k (own := [("_law_goals", 10)]) (T := (tT (tsC tI (ts1 tI)))) (U := (tT (tsC tI (ts1 tI)))) (G := fun ρ x => (List.set ρ 10 (.val (tT (tsC tI (ts1 tI))) x))) (vs := [10]) (cs' := (fun _ : Unit => [⟨a_18, cDt kII tI z_20⟩, ⟨a_26, cL (tT (tsC tI (ts1 tI))) z_28⟩])) (z0 := fun y => ()) (s1 := fun _ _ _ => ()) (s2 := fun _ _ _ _ => ()) (IK.ie (ik_zipN true bs.m_zip sq_L sq_L (pk_ixR (T := (tL tI)) (PV.lk (PK.l (pk_var (i := 0) rfl))) (pk_ixT Nth.here (pk_var (i := 7) rfl))) (pk_ixR (T := (tL tI)) (PV.lk (PK.l (pk_var (i := 0) rfl))) (pk_ixT (Nth.next Nth.one) (pk_var (i := 7) rfl))))) (fun _ => rfl) (by decide) (fun _ _ _ _ _ => (gk_name (i := 10) (by exact sc.nd))) (fun _ _ _ _ _ _ _ => (ts_1 (PTK.tk (pt_dinT hu (pk_var (i := 10) rfl) (PK.ownDt 0 (pk_var (i := 4) rfl) rfl))))) (fun _ _ _ _ _ _ _ _ => (PK.ek (pk_var (i := 10) rfl)))
                case k652 =>
                 intro y_35 near_36
                 refine' sk_st (ρ2 := [.val (tL (tL tI)) a.1, .val (tL tI) a.2, .val (tL (tT (tsC tI (ts1 tI)))) z_4, .un, .val tR a_18, .val tI x_21, .val tR a_26, .val (tT (tsC tI (ts1 tI))) x_29, .val (tL (tT (tsC tI (ts1 tI)))) near_36, .un, .un]) (cs2 := [⟨a_18, cDt kII tI z_20⟩, ⟨a_26, cL (tT (tsC tI (ts1 tI))) z_28⟩]) rfl rfl ?k653
                 case k653 =>
                  refine' sk_seq (sk_if1 (PWK.pt (pw_and' (pt_dninT hu (pk_var (i := 7) rfl) (PK.ownDt 0 (pk_var (i := 4) rfl) rfl)) (pw_and1' (pt_neV hr.units (dv_sv (dL (dT (dsC (@dI K) (ds1 (@dI K)))))) (dv_sv (dL (dT (dsC (@dI K) (ds1 (@dI K)))))) sv_stays (eqv_dec (dL (dT (dsC (@dI K) (ds1 (@dI K))))) _ _) (PK.v (pk_var (i := 8) rfl)) (PK.v (NK.pk (nk_lst pl_0 (Nat.zero_le _)))))))) ?a654 ?b655)
                  case a654 =>
                   refine' sk_expr (ek_mL PySem.F.slot_list_append PySem.F.type_list_append mt_append ml_append 1 (pk_var (i := 6) rfl) (ak_1 (PK.ek (pk_var (i := 7) rfl))) (fun _ => rfl) ⟨_, rfl⟩) ?k656
                   case k656 =>
                    intro y_37
                    refine' sk_name 1 rfl ?k657
                    case k657 =>
                     intro w_38
                     refine' sk_st (ρ2 := [.val (tL (tL tI)) a.1, .val (tL tI) a.2, .val (tL (tT (tsC tI (ts1 tI)))) z_4, .un, .val tR a_18, .val tI x_21, .val tR a_26, .val (tT (tsC tI (ts1 tI))) x_29, .val (tL (tT (tsC tI (ts1 tI)))) near_36, .un, .un]) (cs2 := [⟨a_18, cDt kII tI z_20⟩, ⟨a_26, cL (tT (tsC tI (ts1 tI))) w_38⟩]) rfl rfl ?k658
                     case k658 =>
                      refine' sk_nilX rfl ?k659
                      case k659 =>
                       exact sk_midX (z := _) rfl (.same (.same (.same (.same (.same (.same (.same (.un (.un (.same (.same .nil))))))))))) rfl
                  case b655 =>
                   refine' sk_nilX rfl ?k660
                   case k660 =>
                    exact sk_midX (z := _) rfl (.same (.same (.same (.same (.same (.same (.same (.un (.un (.same (.same .nil))))))))))) rfl
              case k649 =>
               intro z_28
               refine' sk_freeze 1 6 rfl rfl rfl (Nat.le_of_ble_eq_true rfl) ?k661
               case k661 =>
                refine' sk_st (ρ2 := [.val (tL (tL tI)) a.1, .val (tL tI) a.2, .val (tL (tT (tsC tI (ts1 tI)))) z_4, .un, .val tR a_18, .val tI x_21, .val (tL (tT (tsC tI (ts1 tI)))) z_28, .un, .un, .un, .un]) (cs2 := [⟨a_18, cDt kII tI z_20⟩]) rfl rfl ?k662
                case k662 =>
                 refine' sk_expr (ek_dupdT 0 hr (pk_var (i := 4) rfl) (NE.ek (ne_lc rfl (by exact sc.nd) ?lc79 ?lc78 ?lc80)) rfl ?lc81) ?k667
                 case lc79 =>
                  exact blkOk_by (own := [("_law_pair", 7)]) (N := ["_law_table", "_law_good", "_law_every", "_law_one", "_law_far_here", "_law_turn", "_law_fresh", "_law_pair", "_law_near", "_law_other", "_law_goals"]) (sc := defScope s_far) (by decide +kernel)
                 case lc78 =>
                  exact lc_k (own := [("_law_pair", 7)]) (T := (tT (tsC tI (ts1 tI)))) (U := (tT (tsC (tT (tsC tI (ts1 tI))) (ts1 tI)))) (G := fun ρ x => (List.set ρ 7 (.val (tT (tsC tI (ts1 tI))) x))) (vs := [7]) (cs' := (fun _ : Unit => [⟨a_18, cDt kII tI z_20⟩])) (z0 := fun y => ()) (s1 := fun _ _ _ => ()) (s2 := fun _ _ _ _ => ()) (IK.ie (ik_list (pk_var (i := 6) rfl))) (fun _ => rfl) (by decide) (fun _ _ _ _ _ => (gk_name (i := 7) (by exact sc.nd))) (fun _ _ _ _ _ _ _ => ts_0) (fun _ _ _ _ _ _ _ _ => (PK.ek (pk_tup (pa_C (pk_var (i := 7) rfl) (pa_1 (pk_var (i := 5) rfl))) (fun F vs => (lenC len1) F vs _))))
                 case lc80 =>
                  exact fun _ => rfl
                 case lc81 =>
                  exact fun _ => rfl
                 case k667 =>
                  intro y_42
                  refine' sk_st (ρ2 := [.val (tL (tL tI)) a.1, .val (tL tI) a.2, .val (tL (tT (tsC tI (ts1 tI)))) z_4, .un, .val tR a_18, .val tI x_21, .val (tL (tT (tsC tI (ts1 tI)))) z_28, .un, .un, .un, .un]) (cs2 := [⟨a_18, cDt kII tI y_42.2⟩]) rfl rfl ?k668
                  case k668 =>
                   exact sk_midX (z := _) rfl (.same (.same (.same (.same (.same (.un (.un (.same (.same (.same (.same .nil))))))))))) rfl
          case k644 =>
           intro z_20
           refine' sk_freezeDt 0 4 rfl rfl ⟨rfl, Nat.le_of_ble_eq_true rfl⟩ ?k669
           case k669 =>
            refine' sk_st (ρ2 := [.val (tL (tL tI)) a.1, .val (tL tI) a.2, .val (tL (tT (tsC tI (ts1 tI)))) z_4, .un, .val (tDt kII tI) z_20, .un, .un, .un, .un, .un, .un]) (cs2 := []) rfl rfl ?k670
            case k670 =>
             exact sk_retP (pk_var (i := 4) rfl)
  case vc =>
   intro h
   simp only [true_and, and_true, yes1, yes2]
   obtain ⟨tab, good⟩ := a
   obtain ⟨⟨⟨m, hT⟩, few, pos⟩, hφ⟩ := h
   have hT : TOk m tab := hT
   have few : tab.length ≤ 24 := few
   have pos : 1 ≤ tab.length := pos
   have sq : tab.length * tab.length ≤ 576 := Nat.mul_le_mul few few
   try dsimp only at hφ
   try dsimp only
   have nr : (rng 0 (tab.length : Int)).length = tab.length := rng_len _
   have post : ∀ r, FarT m tab good (tab.length - 1) r → φ r := fun r hr => hφ _ fun m' hT' => by
     have hne : tab[0]? = some (tab[0]'pos) := List.getElem?_eq_getElem pos
     have h1 := hT.len _ (List.getElem_mem pos)
     have h2 := hT'.len _ (List.getElem_mem pos)
     have : m' = m := h2.symm.trans h1
     rw [this]
     exact hr
   intro _ e0 ee0
   refine ⟨⟨by omega, by omega⟩, fun i z => (∀ q : Int × Int, q ∈ z ↔ (0 ≤ q.1 ∧ q.1 < (i : Int)) ∧ InR tab q.2) ∧ z.length = i * tab.length, ⟨fun q => ?_, by rw [ee0]; simp⟩, fun i z x hx ⟨i1, i2⟩ => ?_, fun ev ⟨i1, i2⟩ => ?_⟩
   · rw [ee0]
     constructor
     · intro h; cases h
     · rintro ⟨h, _⟩; omega
   · obtain ⟨ex, hxi⟩ := rng_get hx
     refine ⟨⟨by omega, by omega⟩, fun j acc _ => acc = ((rng 0 (tab.length : Int)).take j).map fun y => (x, y), rfl, fun j acc _ y hy hI => ⟨fun _ => (by dsimp only at hI ⊢; rw [map_step _ hy, hI]), fun e => (by cases e)⟩, fun acc _ hI => ?_⟩
     have hI : acc = ((rng 0 (tab.length : Int)).take (rng 0 (tab.length : Int)).length).map fun y => (x, y) := hI
     rw [List.take_length] at hI
     have al : acc.length = tab.length := by rw [hI, List.length_map, nr]
     have b1 : z.length ≤ 576 := by
       rw [i2]
       exact Nat.le_trans (Nat.mul_le_mul_right _ (by omega : i ≤ tab.length)) sq
     refine ⟨by rw [al, sizeLine_eq]; omega, fun z2 ez2 w ew => ⟨fun q => ?_, by rw [ew, ez2, List.length_append, i2, al, Nat.succ_mul]⟩⟩
     rw [ew, ez2, List.mem_append, i1, hI, List.mem_map]
     constructor
     · rintro (⟨h1, h2⟩ | ⟨y, hy, rfl⟩)
       · exact ⟨by omega, h2⟩
       · have := rng_mem hy
         exact ⟨by show 0 ≤ x ∧ x < ((i + 1 : Nat) : Int); omega, this⟩
     · rintro ⟨h1, h2⟩
       by_cases c : q.1 = x
       · exact .inr ⟨q.2, rng_memI h2.1 h2.2, by rw [← c]⟩
       · exact .inl ⟨by omega, h2⟩
   have i1 : ∀ q : Int × Int, q ∈ ev ↔ InP tab q := fun q => by
     have := i1 q
     rw [nr] at this
     exact this
   have el : ev.length ≤ 576 := by
     have i2 : ev.length = (rng 0 (tab.length : Int)).length * tab.length := i2
     rw [i2, nr]
     exact sq
   clear i2
   refine ⟨fun i acc _ => acc = ((ev.take i).filter fun q => !decide (decide (q.1 ∈ good) = decide (q.2 ∈ good))).map fun q => (q, (0 : Int)), rfl, fun i acc _ x hx hI => ⟨fun c => ?_, fun c => ?_⟩, fun acc _ hI _ far0 ef0 => ?_⟩
   · dsimp only at hI ⊢
     rw [take_step hx, List.filter_append, List.filter_cons, if_pos c, List.map_append, hI]
     rfl
   · dsimp only at hI ⊢
     rw [take_step hx, List.filter_append, List.filter_cons, if_neg (by rw [c]; decide), List.map_append, hI]
     simp
   have hI : acc = ((ev.take ev.length).filter fun q => !decide (decide (q.1 ∈ good) = decide (q.2 ∈ good))).map fun q => (q, (0 : Int)) := hI
   rw [List.take_length] at hI
   have ef0 : far0 = dMore [] (((ev.filter fun q => !decide (decide (q.1 ∈ good) = decide (q.2 ∈ good))).map fun q => (q, (0 : Int)))) := by rw [← hI]; exact ef0
   have F0 : FarT m tab good 0 far0 := fun q d => by
     rw [ef0, dget_more]
     by_cases c : q ∈ ev.filter fun q => !decide (decide (q.1 ∈ good) = decide (q.2 ∈ good))
     · rw [if_pos c]
       obtain ⟨c1, c2⟩ := List.mem_filter.mp c
       have hp := (i1 q).mp c1
       have hd : Dk m tab good 0 q := Dk.zero.mpr (ne_dec.mp c2)
       constructor
       · intro e
         exact ⟨hp, 0, Nat.le_refl 0, (Option.some.inj e).symm, hd, fun j hj => absurd hj (Nat.not_lt_zero j)⟩
       · rintro ⟨_, k, hk, ed, _⟩
         rw [ed, show k = 0 by omega]
         rfl
     · rw [if_neg c]
       constructor
       · intro e; cases e
       · rintro ⟨hp, k, hk, ed, hd⟩
         have : k = 0 := by omega
         subst this
         exact absurd (List.mem_filter.mpr ⟨(i1 q).mpr hp, ne_dec.mpr (Dk.zero.mp hd.1)⟩) c
   have fl0 : far0.length ≤ 576 := by
     rw [ef0]
     refine Nat.le_trans more_len ?_
     rw [List.length_map]
     have := List.length_filter_le (fun q : Int × Int => !decide (decide (q.1 ∈ good) = decide (q.2 ∈ good))) ev
     show 0 + _ ≤ _
     omega
   clear ef0 hI
   have nr1 : (rng 1 (tab.length : Int)).length = tab.length - 1 := by rw [rng_length]; omega
   refine ⟨⟨by decide, by decide, by omega, by omega, by omega⟩, fun t far => FarT m tab good t far ∧ far.length ≤ 576 * (t + 1), ⟨F0, fl0⟩, fun t far x hx ⟨hF, hl⟩ => ?_, fun far ⟨hF, _⟩ => post far (by
     have hF : FarT m tab good (rng 1 (tab.length : Int)).length far := hF
     rw [nr1] at hF
     exact hF)⟩
   obtain ⟨ex, hxt⟩ := rng_get hx
   have ht : t < 24 := by omega
   intro _ fr0 ef0
   refine ⟨fun i fr => (∀ q : Int × Int, q ∈ fr ↔ q ∈ ev.take i ∧ (InP tab q ∧ Dk m tab good (t + 1) q ∧ ¬ Dk m tab good t q)) ∧ fr.length ≤ i, ⟨fun q => ?_, by rw [ef0]; exact Nat.le_refl 0⟩, fun i fr q hq ⟨j1, j2⟩ => ?_, fun fr ⟨j1, j2⟩ => ?_⟩
   · rw [ef0]
     constructor
     · intro h; cases h
     · rintro ⟨h, _⟩; cases h
   · have hp : InP tab q := (i1 q).mp (get_mem hq)
     have q1 := hp.1.1
     have q2 := hp.2.1
     have zl : ((pyIx tab q.1).zip (pyIx tab q.2)).length = m := by
       rw [List.length_zip, hT.len _ (pyIx_mem hp.1.1 hp.1.2), hT.len _ (pyIx_mem hp.2.1 hp.2.2)]
       omega
     refine ⟨⟨⟨by omega, hp.1.2⟩, ⟨by omega, hp.2.2⟩⟩, fun j acc _ => (acc ≠ [] ↔ ∃ j', j' < j ∧ j' < m ∧ Dk m tab good t (stp2 tab q j')), ⟨fun h => absurd rfl h, fun ⟨j', hj, _⟩ => absurd hj (Nat.not_lt_zero j')⟩, fun j acc _ y hy hJ => ?_, fun acc _ hJ near en => ?_⟩
     · obtain ⟨h1, h2⟩ := MD.zip_get hy
       have hj : j < m := by rw [← zl]; exact (List.getElem?_eq_some_iff.mp hy).1
       rw [row_get hT hp.1 hj] at h1
       rw [row_get hT hp.2 hj] at h2
       have ey : y = stp2 tab q j := Prod.ext (Option.some.inj h1).symm (Option.some.inj h2).symm
       have sin : InP tab (stp2 tab q j) := ⟨stp_in hT hp.1 hj, stp_in hT hp.2 hj⟩
       have hm := hF.mem sin
       rw [ey]
       refine ⟨fun c => ⟨fun _ => ⟨j, Nat.lt_succ_self j, hj, hm.mp c⟩, fun _ => by simp⟩, fun c => ⟨fun h => ?_, fun ⟨j', h1, h2, h3⟩ => ?_⟩⟩
       · obtain ⟨j', h1, h2⟩ := hJ.mp h
         exact ⟨j', Nat.lt_succ_of_lt h1, h2⟩
       · rcases Nat.lt_or_ge j' j with g | g
         · exact hJ.mpr ⟨j', g, h2, h3⟩
         · have : j' = j := by omega
           rw [this] at h3
           rw [hm.mpr h3] at c
           cases c
     · have hJ : acc ≠ [] ↔ ∃ j', j' < ((pyIx tab q.1).zip (pyIx tab q.2)).length ∧ j' < m ∧ Dk m tab good t (stp2 tab q j') := hJ
       rw [zl] at hJ
       have hm := hF.mem hp
       have key : (!(dget far q).isSome && !decide (near = [])) = true ↔ (InP tab q ∧ Dk m tab good (t + 1) q ∧ ¬ Dk m tab good t q) := by
         rw [Bool.and_eq_true, Bool.not_eq_true', Bool.not_eq_true', decide_eq_false_iff_not, en]
         constructor
         · rintro ⟨c1, c2⟩
           obtain ⟨j', _, h2, h3⟩ := hJ.mp c2
           exact ⟨hp, Dk.succ.mpr (.inr ⟨j', h2, h3⟩), fun c => by rw [hm.mpr c] at c1; cases c1⟩
         · rintro ⟨_, c1, c2⟩
           refine ⟨Bool.eq_false_iff.mpr fun c => c2 (hm.mp c), hJ.mpr ?_⟩
           rcases Dk.succ.mp c1 with c | ⟨j', h2, h3⟩
           · exact absurd (c.le (Nat.zero_le _)) c2
           · exact ⟨j', h2, h2, h3⟩
       have ts : ∀ r : Int × Int, r ∈ ev.take (i + 1) ↔ r ∈ ev.take i ∨ r = q := fun r => by rw [take_step hq, List.mem_append, List.mem_singleton]
       have hi : i < ev.length := (List.getElem?_eq_some_iff.mp hq).1
       refine ⟨fun _ => trivial, fun c => ⟨by rw [sizeLine_eq]; omega, fun z8 e8 w8 ew8 => ⟨fun r => ?_, ?_⟩⟩, fun c => ⟨fun r => ?_, Nat.le_succ_of_le j2⟩⟩
       · rw [ew8, e8, List.mem_append, List.mem_singleton, j1, ts]
         constructor
         · rintro (⟨h1, h2⟩ | rfl)
           · exact ⟨.inl h1, h2⟩
           · exact ⟨.inr rfl, key.mp c⟩
         · rintro ⟨h1 | h1, h2⟩
           · exact .inl ⟨h1, h2⟩
           · exact .inr h1
       · rw [ew8, e8, List.length_append]
         show fr.length + 1 ≤ _
         omega
       · rw [j1, ts]
         constructor
         · exact fun ⟨h1, h2⟩ => ⟨.inl h1, h2⟩
         · rintro ⟨h1 | h1, h2⟩
           · exact ⟨h1, h2⟩
           · rw [h1] at h2
             rw [key.mpr h2] at c
             cases c
   · have j1 : ∀ q : Int × Int, q ∈ fr ↔ q ∈ ev.take ev.length ∧ (InP tab q ∧ Dk m tab good (t + 1) q ∧ ¬ Dk m tab good t q) := j1
     have j2 : fr.length ≤ ev.length := j2
     rw [List.take_length] at j1
     refine ⟨fun i acc _ => acc = (fr.take i).map fun q => (q, x), rfl, fun i acc _ y hy hI => ⟨fun _ => (by dsimp only at hI ⊢; rw [map_step _ hy, hI]), fun e => (by cases e)⟩, fun acc _ hI => ?_⟩
     have hI : acc = (fr.take fr.length).map fun q => (q, x) := hI
     rw [List.take_length] at hI
     have al : acc.length ≤ 576 := by rw [hI, List.length_map]; omega
     have b2 : far.length ≤ 576 * 24 := Nat.le_trans hl (Nat.mul_le_mul_left _ (by omega))
     refine ⟨by rw [sizeLine_eq]; omega, fun z ez => ⟨hF.step (fun p hc => ?_) (fun p hc => ?_), ?_⟩⟩
     · rw [ez, hI, dget_more, if_pos ((j1 p).mpr ⟨(i1 p).mpr hc.1, hc⟩)]
       congr 1
       omega
     · rw [ez, hI, dget_more, if_neg (fun q => hc ((j1 p).mp q).2)]
     · have := more_len (more := acc) (kvs := far)
       rw [ez]
       show (dMore far acc).length ≤ 576 * (t + 1 + 1)
       omega
abbrev s_by_far : Stmt := topS 21
theorem sc_by_far : FnScope ["_law_letters", "_law_table", "_law_far_here", "_law_one", "_law_other", "_law_row", "_law_left", "_law_letter", "_law_first", "_law_second"] ["_law_letters", "_law_table", "_law_far_here", "_law_one", "_law_other"] (defScope s_by_far) := ⟨rfl, rfl, rfl, by decide +kernel, rfl, by decide +kernel, by decide +kernel⟩
def c_by_far (K : PySem.W.Frag) := Con.fp (K := K) (fun x : ((List Str) × (List (List Int)) × (List ((Int × Int) × Int)) × Int × Int) => [.val (tL tS) x.1, .val (tL (tL tI)) x.2.1, .val (tDt kII tI) x.2.2.1, .val tI x.2.2.2.1, .val tI x.2.2.2.2]) (tO (tL tS)) pre_by_far post_by_far
theorem ok_by_far (bs : Bs mg) {f : Addr} {fd : FuncData} (F : Fun K "_law_by_far" "_law_by_far" s_by_far f fd) : FnOk P w K mg base (L2.CX P w) 1 f fd ["_law_letters", "_law_table", "_law_far_here", "_law_one", "_law_other"] (c_by_far K).sp := by
  refine fn_con (c_by_far K) F sc_by_far (fun _ => rfl) ?_
  intro cdv Ar outer s H E F0 a φ ε hr hp
  have hu := hu_of hr
  have sc := sc_by_far
  refine' SK.vc ?hh ?vc
  case hh =>
   refine' sk_seq (sk_if1 (pt_dninT hu (pk_tup (pa_C (pk_var (i := 3) rfl) (pa_1 (pk_var (i := 4) rfl))) (fun F vs => (lenC len1) F vs _)) (PK.dictT (pk_var (i := 2) rfl))) ?a693 ?b694)
   case a693 =>
    exact sk_retP (pk_nonO (T := (tL tS)))
   case b694 =>
    refine' sk_nilX rfl ?k695
    case k695 =>
     refine' sk_setN (i := 5) (T := tS) (by exact sc.nd) (NK.ne (nk_lst (T := tS) (pl_0 (T := tS)) (Nat.zero_le _))) ?k696
     case k696 =>
      intro y_1 a_2 row_3
      refine' sk_st (ρ2 := [.val (tL tS) a.1, .val (tL (tL tI)) a.2.1, .val (tDt kII tI) a.2.2.1, .val tI a.2.2.2.1, .val tI a.2.2.2.2, .val tR a_2, .un, .un, .un, .un]) (cs2 := [⟨a_2, cL tS row_3⟩]) rfl rfl ?k697
      case k697 =>
       refine' sk_for (fun z_4 : (Int × Int × List Str) => [.val (tL tS) a.1, .val (tL (tL tI)) a.2.1, .val (tDt kII tI) a.2.2.1, .val tI z_4.1, .val tI z_4.2.1, .val tR a_2, .un, .un, .un, .un]) (fun z_4 : (Int × Int × List Str) => [⟨a_2, cL tS z_4.2.2⟩]) (a.2.2.2.1, a.2.2.2.2, row_3) hp rfl (ik_range3d bs.m_range (pk_op op_sub r2_I0 (pk_dgetT hu (PK.dictT (pk_var (i := 2) rfl)) (pk_tup (pa_C (pk_var (i := 3) rfl) (pa_1 (pk_var (i := 4) rfl))) (fun F vs => (lenC len1) F vs _))) pk_int) (pk_neg pk_int) (pk_neg pk_int)) (gk_name (i := 6) (by exact sc.nd)) (.same (.same (.same (.same (.same (.same (.same (.same (.same (.same .nil)))))))))) rfl ?b698 ?k699
       case b698 =>
        intro fl_8 hs_7 N_6 z_4 x_5
        refine' sk_st (ρ2 := [.val (tL tS) a.1, .val (tL (tL tI)) a.2.1, .val (tDt kII tI) a.2.2.1, .val tI z_4.1, .val tI z_4.2.1, .val tR a_2, .val tI x_5, .un, .un, .un]) (cs2 := [⟨a_2, cL tS z_4.2.2⟩]) rfl rfl ?k700
        case k700 =>
         refine' sk_for (fun _ : Unit => [.val (tL tS) a.1, .val (tL (tL tI)) a.2.1, .val (tDt kII tI) a.2.2.1, .val tI z_4.1, .val tI z_4.2.1, .val tR a_2, .val tI x_5, .un, .un, .un]) (fun _ : Unit => [⟨a_2, cL tS z_4.2.2⟩]) () hp rfl (ik_zip3 true bs.m_zip sq_L sq_L sq_L (pk_var (i := 0) rfl) (pk_ixR (T := (tL tI)) (PV.lk (PK.l (pk_var (i := 1) rfl))) (pk_var (i := 3) rfl)) (pk_ixR (T := (tL tI)) (PV.lk (PK.l (pk_var (i := 1) rfl))) (pk_var (i := 4) rfl))) (gk_tup rfl (gs_C (gk_name (i := 7) (by exact sc.nd)) (gs_C (gk_name (i := 8) (by exact sc.nd)) (gs_1 (gk_name (i := 9) (by exact sc.nd))))) (tlC (tlC tl1))) (.same (.same (.same (.same (.same (.same (.same (.same (.same (.same .nil)))))))))) rfl ?b701 ?k702
         case b701 =>
          intro fl_13 hs_12 N_11 z_9 x_10
          refine' sk_st (ρ2 := [.val (tL tS) a.1, .val (tL (tL tI)) a.2.1, .val (tDt kII tI) a.2.2.1, .val tI z_4.1, .val tI z_4.2.1, .val tR a_2, .val tI x_5, .val tS x_10.1, .val tI x_10.2.1, .val tI x_10.2.2]) (cs2 := [⟨a_2, cL tS z_4.2.2⟩]) rfl rfl ?k703
          case k703 =>
           refine' sk_seq (sk_if1 (pt_cmp' op_eq r2_eqI (pk_getDT hu (PK.dictT (pk_var (i := 2) rfl)) (pk_tup (pa_C (pk_var (i := 8) rfl) (pa_1 (pk_var (i := 9) rfl))) (fun F vs => (lenC len1) F vs _)) (pk_neg pk_int)) (pk_var (i := 6) rfl)) ?a704 ?b705)
           case a704 =>
            refine' sk_brkX rfl hs_12 ?k706
            case k706 =>
             refine' sk_expr (ek_mL PySem.F.slot_list_append PySem.F.type_list_append mt_append ml_append 0 (pk_var (i := 5) rfl) (ak_1 (PK.ek (pk_var (i := 7) rfl))) (fun _ => rfl) ⟨_, rfl⟩) ?k707
             case k707 =>
              intro y_14
              refine' sk_name 0 rfl ?k708
              case k708 =>
               intro w_15
               refine' sk_st (ρ2 := [.val (tL tS) a.1, .val (tL (tL tI)) a.2.1, .val (tDt kII tI) a.2.2.1, .val tI z_4.1, .val tI z_4.2.1, .val tR a_2, .val tI x_5, .val tS x_10.1, .val tI x_10.2.1, .val tI x_10.2.2]) (cs2 := [⟨a_2, cL tS w_15⟩]) rfl rfl ?k709
               case k709 =>
                refine' sk_par (i := 3) (j := 4) rfl (by exact sc.nd) (ak_C (PK.ek (pk_var (i := 8) rfl)) (fun _ => (ak_1 (PK.ek (pk_var (i := 9) rfl))))) ?k710
                case k710 =>
                 intro y_16 z_17
                 refine' sk_st (ρ2 := [.val (tL tS) a.1, .val (tL (tL tI)) a.2.1, .val (tDt kII tI) a.2.2.1, .val tI z_17.1, .val tI z_17.2, .val tR a_2, .val tI x_5, .val tS x_10.1, .val tI x_10.2.1, .val tI x_10.2.2]) (cs2 := [⟨a_2, cL tS w_15⟩]) rfl rfl ?k711
                 case k711 =>
                  exact sk_midX (z := (_, _, _)) rfl (.same (.same (.same (.same (.same (.same (.un (.un (.un (.un .nil)))))))))) rfl
           case b705 =>
            refine' sk_nilX rfl ?k712
            case k712 =>
             exact sk_midX (z := ()) rfl (.same (.same (.same (.same (.same (.same (.same (.un (.un (.un .nil)))))))))) rfl
         case k702 =>
          intro z_9
          exact sk_never
       case k699 =>
        intro z_4
        refine' sk_freeze 0 5 rfl rfl rfl (Nat.le_of_ble_eq_true rfl) ?k713
        case k713 =>
         refine' sk_st (ρ2 := [.val (tL tS) a.1, .val (tL (tL tI)) a.2.1, .val (tDt kII tI) a.2.2.1, .val tI z_4.1, .val tI z_4.2.1, .val (tL tS) z_4.2.2, .un, .un, .un, .un]) (cs2 := []) rfl rfl ?k714
         case k714 =>
          exact sk_retP (PK.some (pk_var (i := 5) rfl))
  case vc =>
   intro h
   simp only [true_and, and_true, yes1, yes2]
   obtain ⟨ls, tab, far, one, other⟩ := a
   obtain ⟨⟨⟨good, hF⟩, l6, hT, few, pos, hp⟩, hφ⟩ := h
   have hF : FarT ls.length tab good (tab.length - 1) far := hF
   have l6 : ls.length ≤ 6 := l6
   have hT : TOk ls.length tab := hT
   have few : tab.length ≤ 24 := few
   have pos : 1 ≤ tab.length := pos
   have hp : InP tab (one, other) := hp
   try dsimp only at hφ
   try dsimp only
   have post : ∀ o, IsL ls.length tab good (one, other) o → (∀ w, o = some w → w.length ≤ 24) → φ (o.map (rowOf ls)) := fun o ho hl => hφ _ ⟨fun good' hF' => by
     show o.map (rowOf ls) = (best ls.length tab good' (one, other)).map (rowOf ls)
     rw [best_of (hF.best hT hF' hp ho)], fun l el => by
     cases o with
     | none => cases el
     | some w =>
       have el := Option.some.inj el
       rw [← el]
       unfold rowOf
       refine ⟨by rw [List.length_map]; exact hl w rfl, fun s hs => ?_⟩
       obtain ⟨j, hj, rfl⟩ := List.mem_map.mp hs
       have hj : j < ls.length := ho.1 j hj
       rw [List.getD_eq_getElem?_getD, List.getElem?_eq_getElem hj]
       exact List.getElem_mem hj⟩
   refine ⟨fun e => ?_, fun e => ?_⟩
   · have q : ¬ Dk ls.length tab good (tab.length - 1) (one, other) := fun c => by
       rw [(hF.mem hp).mpr c] at e
       cases e
     exact post none (fun w hw hq => q (far_all hT (by omega) hp hw hq)) fun w e => by cases e
   · have q : (dget far (one, other)).isSome = true := by
       cases c : (dget far (one, other)).isSome with
       | true => rfl
       | false => rw [c] at e; cases e
     obtain ⟨d0, ed⟩ := Option.isSome_iff_exists.mp q
     obtain ⟨_, d, hd, e0, hD⟩ := (hF _ _).mp ed
     subst e0
     rw [ed]
     intro _ z ez
     refine ⟨⟨rfl, ?_, ?_, by decide, by decide, ?_⟩, ?_⟩
     · show -16777216 ≤ (d : Int) - 1; omega
     · show (d : Int) - 1 ≤ 16777216; omega
     · show (d : Int) - 1 - -1 ≤ 16777216; omega
     have rl : (rngD ((d : Int) - 1) (-1)).length = d := by rw [rngD_length]; omega
     refine ⟨fun i y => ∃ u, Gr ls.length tab good (one, other) d i u ∧ (y.1, y.2.1) = run2 tab (one, other) u ∧ y.2.2 = rowOf ls u, ⟨[], Gr.start hD, rfl, ez⟩, fun i y x hx ⟨u, g, e1, e2⟩ => ?_, fun y ⟨u, g, e1, e2⟩ => ?_⟩
     · obtain ⟨ex, hi⟩ := rngD_get (a := (d : Int) - 1) hx
       have hi : i < d := by omega
       have ex : x = ((d - (i + 1) : Nat) : Int) := by omega
       have hin := run2_in hT hp g.wd
       have y1 : y.1 = runT tab one u := congrArg Prod.fst e1
       have y2 : y.2.1 = runT tab other u := congrArg Prod.snd e1
       have r1 : InR tab (runT tab one u) := hin.1
       have r2 : InR tab (runT tab other u) := hin.2
       have r1a := r1.1
       have r2a := r2.1
       rw [y1, y2]
       refine ⟨⟨⟨by omega, r1.2⟩, ⟨by omega, r2.2⟩⟩, fun jj _ => ∀ j', j' < jj → ¬ Dist ls.length tab good (stp2 tab (run2 tab (one, other) u) j') (d - (i + 1)), fun j' hj => absurd hj (Nat.not_lt_zero j'), fun jj _ x1 hx1 hb => ?_, fun _ hb => ?_⟩
       · obtain ⟨hj, ex1⟩ := zip3_get hT rfl r1 r2 hx1
         have kx : (x1.2.1, x1.2.2) = stp2 tab (run2 tab (one, other) u) jj := by rw [ex1]; rfl
         have lx : x1.1 = ls.getD jj default := by rw [ex1]
         have qin : InP tab (stp2 tab (run2 tab (one, other) u) jj) := ⟨stp_in hT hin.1 hj, stp_in hT hin.2 hj⟩
         have key := hF.getD qin (k := d - (i + 1)) (by omega)
         rw [← ex, ← kx] at key
         refine ⟨fun c => ⟨?_, fun z2 e2' w2 ew2 z3 ez3 => ?_⟩, fun c j' hj' => ?_⟩
         · rw [e2, sizeLine_eq]
           unfold rowOf
           rw [List.length_map, g.len]
           omega
         · have hd1 := key.mp (of_decide_eq_true c)
           rw [kx] at hd1
           refine ⟨u ++ [jj], g.step hi hj hd1 hb, ?_, ?_⟩
           · rw [run2_app, ← kx, ez3]
           · show w2 = _
             rw [ew2, e2', e2, lx, rowOf_snoc]
         · rcases Nat.lt_or_ge j' jj with c2 | c2
           · exact hb j' c2
           · have : j' = jj := by omega
             subst this
             have c := of_decide_eq_false c
             rw [← kx]
             exact fun hd1 => c (key.mpr hd1)
       · have hb : ∀ j', j' < (ls.zip ((pyIx tab (runT tab one u)).zip (pyIx tab (runT tab other u)))).length → ¬ Dist ls.length tab good (stp2 tab (run2 tab (one, other) u) j') (d - (i + 1)) := hb
         rw [zip3_len hT rfl r1 r2] at hb
         have gf := g.far
         rw [show d - i = d - (i + 1) + 1 by omega] at gf
         obtain ⟨j, hj, q⟩ := near_some gf
         exact hb j hj q
     · have g : Gr ls.length tab good (one, other) d (rngD ((d : Int) - 1) (-1)).length u := g
       rw [rl] at g
       have := post (some u) (g.done hD) fun w e => by rw [← Option.some.inj e, g.len]; omega
       rw [e2]
       exact this
abbrev s_law : Stmt := topS 22
theorem sc_law : FnScope ["_law_script", "_law_k", "_law_flow_here", "_law_large", "_law_letters", "_law_table", "_law_good", "_law_form", "_law_machine_here", "_law_far_here", "_law_as_made", "_law_turn", "_law_one", "_law_other", "_law_due", "_law_again", "_law_found"] ["_law_script"] (defScope s_law) := ⟨rfl, rfl, rfl, by decide +kernel, rfl, by decide +kernel, by decide +kernel⟩
def c_law (K : PySem.W.Frag) := Con.fn (K := K) (fun x : (List Int) => [.val (tLK tI) x]) tB pre_law f_law
theorem ok_law (bs : Bs mg) {xa : XA} {C_MeetError : Addr} (xs : Xs K mg xa C_MeetError) {C_Machine : Addr} (cl_Machine : Cl_Machine K C_Machine) {f_Machine_init : Addr} {fd_Machine_init : FuncData} (g_Machine_init : MkC P w K mg base C_Machine "Machine" 2 ["self", "letters", "table", "good"] (c_Machine_init K C_Machine).sp f_Machine_init fd_Machine_init) {f_blown : Addr} {fd_blown : FuncData} (g_blown : Cal P w K mg base "_law_blown" 2 ["_law_flow_here", "_law_table", "_law_good", "_law_more"] (c_blown K).sp f_blown fd_blown) {f_by_far : Addr} {fd_by_far : FuncData} (g_by_far : Cal P w K mg base "_law_by_far" 1 ["_law_letters", "_law_table", "_law_far_here", "_law_one", "_law_other"] (c_by_far K).sp f_by_far fd_by_far) {f_by_rows : Addr} {fd_by_rows : FuncData} (g_by_rows : Cal P w K mg base "_law_by_rows" 1 ["_law_letters", "_law_table", "_law_good", "_law_one", "_law_other"] (c_by_rows K).sp f_by_rows fd_by_rows) {f_counter : Addr} {fd_counter : FuncData} (g_counter : Cal P w K mg base "_law_counter" 2 ["_law_flow_here", "_law_letters"] (c_counter K).sp f_counter fd_counter) {f_draw : Addr} {fd_draw : FuncData} (g_draw : Cal P w K mg base "_law_draw" 1 ["_law_flow_here", "_law_many"] (c_draw K).sp f_draw fd_draw) {f_far : Addr} {fd_far : FuncData} (g_far : Cal P w K mg base "_law_far" 1 ["_law_table", "_law_good"] (c_far K).sp f_far fd_far) {f_flow : Addr} {fd_flow : FuncData} (g_flow : Cal P w K mg base "_law_flow" 2 ["_law_script", "_law_k"] (c_flow K).sp f_flow fd_flow) {f_machine : Addr} {fd_machine : FuncData} (g_machine : Cal P w K mg base "_law_machine" 2 ["_law_flow_here", "_law_many", "_law_letters"] (c_machine K).sp f_machine fd_machine) {f_names : Addr} {fd_names : FuncData} (g_names : Cal P w K mg base "_law_names" 2 ["_law_flow_here", "_law_many"] (c_names K).sp f_names fd_names) {f_road : Addr} {fd_road : FuncData} (g_road : Cal P w K mg base "_law_road" 2 ["_law_flow_here", "_law_letters"] (c_road K).sp f_road fd_road) {f_parted_from : Addr} {fd_parted_from : FuncData} (g_parted_from : Cal P w K mg base "parted_from" 1 ["machine", "one", "other"] (c_parted_from K C_Machine xa).sp f_parted_from fd_parted_from) {f : Addr} {fd : FuncData} (F : Fun K "law" "law" s_law f fd) : FnG P w K mg base 4 f fd ["_law_script"] (c_law K).sp := by
  refine fn_conG (c_law K) F sc_law (fun _ => rfl) ?_
  intro cdv Ar outer s H E F0 a φ ε hgd hr hp
  have hu := hu_of hr
  have sc := sc_law
  refine' SK.vc ?hh ?vc
  case hh =>
   refine' sk_for (fun _ : Unit => [.val (tLK tI) a, .un, .un, .un, .un, .un, .un, .un, .un, .un, .un, .un, .un, .un, .un, .un, .un]) (fun _ : Unit => []) () hp rfl (ik_range1 bs.m_range (pk_cb (call_max2 rfl) bs.m_max bs.b_max rc_max2 (pa_C pk_int (pa_1 (pk_cb (call_min2 rfl) bs.m_min bs.b_min rc_min2 (pa_C pk_int (pa_1 (PV.k (pv_cb cr_lenQ bs.m_len bs.b_len u_len (PV.kq (PK.lk (pk_var (i := 0) rfl)))))))))))) (gk_name (i := 1) (by exact sc.nd)) (.same (.same (.same (.same (.same (.same (.same (.same (.same (.same (.same (.same (.same (.same (.same (.same (.same .nil))))))))))))))))) rfl ?b822 ?k823
   case b822 =>
    intro fl_5 hs_4 N_3 z_1 x_2
    refine' sk_st (ρ2 := [.val (tLK tI) a, .val tI x_2, .un, .un, .un, .un, .un, .un, .un, .un, .un, .un, .un, .un, .un, .un, .un]) (cs2 := []) rfl rfl ?k824
    case k824 =>
     refine' sk_setMk (i := 2) (by exact sc.nd) (ek_mk1 g_flow.F (slC sl1) (hr.mono (by decide)) g_flow.m g_flow.k g_flow.b (PAK.ak (pa_C (pk_var (i := 0) rfl) (pa_1 (pk_var (i := 1) rfl))))) ?k825
     case k825 =>
      intro y_6 l_7 flow_here_8
      refine' sk_st (ρ2 := [.val (tLK tI) a, .val tI x_2, .val tR l_7, .un, .un, .un, .un, .un, .un, .un, .un, .un, .un, .un, .un, .un, .un]) (cs2 := [⟨l_7, cL tI flow_here_8⟩]) rfl rfl ?k826
      case k826 =>
       refine' sk_setE (i := 3) (by exact sc.nd) (ek_cmp op_eq r2_eqI (ek_o1 0 g_draw.F sl1 (hr.mono (by decide)) g_draw.m g_draw.k g_draw.b (pk_var (i := 2) rfl) (PAK.ak (pa_1 pk_int)) (fun _ => rfl)) (fun _ => (PK.ek pk_int))) ?k827
       case k827 =>
        intro y_10 large_9
        refine' sk_name 0 rfl ?k828
        case k828 =>
         intro w_11
         refine' sk_st (ρ2 := [.val (tLK tI) a, .val tI x_2, .val tR l_7, .val tB large_9, .un, .un, .un, .un, .un, .un, .un, .un, .un, .un, .un, .un, .un]) (cs2 := [⟨l_7, cL tI w_11⟩]) rfl rfl ?k829
         case k829 =>
          refine' sk_st (ρ2 := [.val (tLK tI) a, .val tI x_2, .val tR l_7, .val tB large_9, .un, .un, .un, .un, .un, .un, .un, .un, .un, .un, .un, .un, .un]) (cs2 := [⟨l_7, cL tI w_11⟩]) rfl rfl ?k830
          case k830 =>
           refine' sk_setE (i := 4) (by exact sc.nd) (ek_o1 0 g_names.F sl1 (hr.mono (by decide)) g_names.m g_names.k g_names.b (pk_var (i := 2) rfl) (ak_1 (ek_op op_add r2_I0 (PK.ek pk_int) (fun _ => (ek_o1 0 g_draw.F sl1 (hr.mono (by decide)) g_draw.m g_draw.k g_draw.b (pk_var (i := 2) rfl) (PAK.ak (pa_1 pk_int)) (fun _ => rfl))))) (fun _ => rfl)) ?k831
           case k831 =>
            intro y_13 letters_12
            refine' sk_name 0 rfl ?k832
            case k832 =>
             intro w_14
             refine' sk_st (ρ2 := [.val (tLK tI) a, .val tI x_2, .val tR l_7, .val tB large_9, .val (tL tS) letters_12, .un, .un, .un, .un, .un, .un, .un, .un, .un, .un, .un, .un]) (cs2 := [⟨l_7, cL tI w_14⟩]) rfl rfl ?k833
             case k833 =>
              refine' sk_st (ρ2 := [.val (tLK tI) a, .val tI x_2, .val tR l_7, .val tB large_9, .val (tL tS) letters_12, .un, .un, .un, .un, .un, .un, .un, .un, .un, .un, .un, .un]) (cs2 := [⟨l_7, cL tI w_14⟩]) rfl rfl ?k834
              case k834 =>
               refine' sk_setG (gk_tup rfl (gs_C (gk_name (i := 5) (by exact sc.nd)) (gs_1 (gk_name (i := 6) (by exact sc.nd)))) (tlC tl1)) (ek_o1 0 g_machine.F (slC sl1) (hr.mono (by decide)) g_machine.m g_machine.k g_machine.b (pk_var (i := 2) rfl) (ak_C (ek_op op_add r2_I0 (PK.ek pk_int) (fun _ => (ek_o1 0 g_draw.F sl1 (hr.mono (by decide)) g_draw.m g_draw.k g_draw.b (pk_var (i := 2) rfl) (PAK.ak (pa_1 pk_int)) (fun _ => rfl)))) (fun _ => (ak_1 (PK.ek (pk_var (i := 4) rfl))))) (fun _ => rfl)) ?k835
               case k835 =>
                intro y_15 z_16
                refine' sk_name 0 rfl ?k836
                case k836 =>
                 intro w_17
                 refine' sk_st (ρ2 := [.val (tLK tI) a, .val tI x_2, .val tR l_7, .val tB large_9, .val (tL tS) letters_12, .val (tL (tL tI)) z_16.1, .val (tL tI) z_16.2, .un, .un, .un, .un, .un, .un, .un, .un, .un, .un]) (cs2 := [⟨l_7, cL tI w_17⟩]) rfl rfl ?k837
                 case k837 =>
                  refine' sk_st (ρ2 := [.val (tLK tI) a, .val tI x_2, .val tR l_7, .val tB large_9, .val (tL tS) letters_12, .val (tL (tL tI)) z_16.1, .val (tL tI) z_16.2, .un, .un, .un, .un, .un, .un, .un, .un, .un, .un]) (cs2 := [⟨l_7, cL tI w_17⟩]) rfl rfl ?k838
                  case k838 =>
                   refine' sk_join (fun z_18 : ((List (List Int)) × (List Int) × List Int) => [.val (tLK tI) a, .val tI x_2, .val tR l_7, .val tB large_9, .val (tL tS) letters_12, .val (tL (tL tI)) z_18.1, .val (tL tI) z_18.2.1, .un, .un, .un, .un, .un, .un, .un, .un, .un, .un]) (fun z_18 : ((List (List Int)) × (List Int) × List Int) => [⟨l_7, cL tI z_18.2.2⟩]) ?h839 ?k840
                   case h839 =>
                    intro R_19
                    refine' sk_if1 (pt_val' (pk_var (i := 3) rfl)) ?a841 ?b842
                    case a841 =>
                     refine' sk_setG (gk_tup rfl (gs_C (gk_name (i := 5) (by exact sc.nd)) (gs_1 (gk_name (i := 6) (by exact sc.nd)))) (tlC tl1)) (ek_o1 0 g_machine.F (slC sl1) (hr.mono (by decide)) g_machine.m g_machine.k g_machine.b (pk_var (i := 2) rfl) (ak_C (ek_op op_add r2_I0 (PK.ek pk_int) (fun _ => (ek_o1 0 g_draw.F sl1 (hr.mono (by decide)) g_draw.m g_draw.k g_draw.b (pk_var (i := 2) rfl) (PAK.ak (pa_1 pk_int)) (fun _ => rfl)))) (fun _ => (ak_1 (PK.ek (pk_var (i := 4) rfl))))) (fun _ => rfl)) ?k843
                     case k843 =>
                      intro y_20 z_21
                      refine' sk_name 0 rfl ?k844
                      case k844 =>
                       intro w_22
                       refine' sk_st (ρ2 := [.val (tLK tI) a, .val tI x_2, .val tR l_7, .val tB large_9, .val (tL tS) letters_12, .val (tL (tL tI)) z_21.1, .val (tL tI) z_21.2, .un, .un, .un, .un, .un, .un, .un, .un, .un, .un]) (cs2 := [⟨l_7, cL tI w_22⟩]) rfl rfl ?k845
                       case k845 =>
                        refine' sk_st (ρ2 := [.val (tLK tI) a, .val tI x_2, .val tR l_7, .val tB large_9, .val (tL tS) letters_12, .val (tL (tL tI)) z_21.1, .val (tL tI) z_21.2, .un, .un, .un, .un, .un, .un, .un, .un, .un, .un]) (cs2 := [⟨l_7, cL tI w_22⟩]) rfl rfl ?k846
                        case k846 =>
                         refine' sk_setG (gk_tup rfl (gs_C (gk_name (i := 5) (by exact sc.nd)) (gs_1 (gk_name (i := 6) (by exact sc.nd)))) (tlC tl1)) (ek_o1 0 g_blown.F (slC (slC sl1)) (hr.mono (by decide)) g_blown.m g_blown.k g_blown.b (pk_var (i := 2) rfl) (ak_C (PK.ek (pk_var (i := 5) rfl)) (fun _ => (ak_C (PK.ek (pk_var (i := 6) rfl)) (fun _ => (ak_1 (ek_o1 0 g_draw.F sl1 (hr.mono (by decide)) g_draw.m g_draw.k g_draw.b (pk_var (i := 2) rfl) (PAK.ak (pa_1 pk_int)) (fun _ => rfl))))))) (fun _ => rfl)) ?k847
                         case k847 =>
                          intro y_23 z_24
                          refine' sk_name 0 rfl ?k848
                          case k848 =>
                           intro w_25
                           refine' sk_st (ρ2 := [.val (tLK tI) a, .val tI x_2, .val tR l_7, .val tB large_9, .val (tL tS) letters_12, .val (tL (tL tI)) z_24.1, .val (tL tI) z_24.2, .un, .un, .un, .un, .un, .un, .un, .un, .un, .un]) (cs2 := [⟨l_7, cL tI w_25⟩]) rfl rfl ?k849
                           case k849 =>
                            refine' sk_st (ρ2 := [.val (tLK tI) a, .val tI x_2, .val tR l_7, .val tB large_9, .val (tL tS) letters_12, .val (tL (tL tI)) z_24.1, .val (tL tI) z_24.2, .un, .un, .un, .un, .un, .un, .un, .un, .un, .un]) (cs2 := [⟨l_7, cL tI w_25⟩]) rfl rfl ?k850
                            case k850 =>
                             exact sk_midX (z := (z_24.1, z_24.2, w_25)) rfl (.same (.same (.same (.same (.same (.same (.same (.same (.same (.same (.same (.same (.same (.same (.same (.same (.same .nil))))))))))))))))) rfl
                    case b842 =>
                     exact sk_midX (z := (z_16.1, z_16.2, w_17)) rfl (.same (.same (.same (.same (.same (.same (.same (.same (.same (.same (.same (.same (.same (.same (.same (.same (.same .nil))))))))))))))))) rfl
                   case k840 =>
                    intro z_18
                    refine' sk_setE (i := 7) (by exact sc.nd) (ek_o1 0 g_draw.F sl1 (hr.mono (by decide)) g_draw.m g_draw.k g_draw.b (pk_var (i := 2) rfl) (PAK.ak (pa_1 pk_int)) (fun _ => rfl)) ?k851
                    case k851 =>
                     intro y_27 form_26
                     refine' sk_name 0 rfl ?k852
                     case k852 =>
                      intro w_28
                      refine' sk_st (ρ2 := [.val (tLK tI) a, .val tI x_2, .val tR l_7, .val tB large_9, .val (tL tS) letters_12, .val (tL (tL tI)) z_18.1, .val (tL tI) z_18.2.1, .val tI form_26, .un, .un, .un, .un, .un, .un, .un, .un, .un]) (cs2 := [⟨l_7, cL tI w_28⟩]) rfl rfl ?k853
                      case k853 =>
                       refine' sk_st (ρ2 := [.val (tLK tI) a, .val tI x_2, .val tR l_7, .val tB large_9, .val (tL tS) letters_12, .val (tL (tL tI)) z_18.1, .val (tL tI) z_18.2.1, .val tI form_26, .un, .un, .un, .un, .un, .un, .un, .un, .un]) (cs2 := [⟨l_7, cL tI w_28⟩]) rfl rfl ?k854
                       case k854 =>
                        refine' sk_join (fun z_29 : ((List (List Int)) × (List Int) × List Int) => [.val (tLK tI) a, .val tI x_2, .val tR l_7, .val tB large_9, .val (tL tS) letters_12, .val (tL (tL tI)) z_29.1, .val (tL tI) z_29.2.1, .val tI form_26, .un, .un, .un, .un, .un, .un, .un, .un, .un]) (fun z_29 : ((List (List Int)) × (List Int) × List Int) => [⟨l_7, cL tI z_29.2.2⟩]) ?h855 ?k856
                        case h855 =>
                         intro R_30
                         refine' sk_if1 (pt_cmp' op_eq r2_eqI (pk_var (i := 7) rfl) pk_int) ?a857 ?b858
                         case a857 =>
                          refine' sk_setG (gk_tup rfl (gs_C (gk_name (i := 5) (by exact sc.nd)) (gs_1 (gk_name (i := 6) (by exact sc.nd)))) (tlC tl1)) (ek_o1 0 g_counter.F sl1 (hr.mono (by decide)) g_counter.m g_counter.k g_counter.b (pk_var (i := 2) rfl) (PAK.ak (pa_1 (pk_var (i := 4) rfl))) (fun _ => rfl)) ?k859
                          case k859 =>
                           intro y_31 z_32
                           refine' sk_name 0 rfl ?k860
                           case k860 =>
                            intro w_33
                            refine' sk_st (ρ2 := [.val (tLK tI) a, .val tI x_2, .val tR l_7, .val tB large_9, .val (tL tS) letters_12, .val (tL (tL tI)) z_32.1, .val (tL tI) z_32.2, .val tI form_26, .un, .un, .un, .un, .un, .un, .un, .un, .un]) (cs2 := [⟨l_7, cL tI w_33⟩]) rfl rfl ?k861
                            case k861 =>
                             refine' sk_st (ρ2 := [.val (tLK tI) a, .val tI x_2, .val tR l_7, .val tB large_9, .val (tL tS) letters_12, .val (tL (tL tI)) z_32.1, .val (tL tI) z_32.2, .val tI form_26, .un, .un, .un, .un, .un, .un, .un, .un, .un]) (cs2 := [⟨l_7, cL tI w_33⟩]) rfl rfl ?k862
                             case k862 =>
                              exact sk_midX (z := (z_32.1, z_32.2, w_33)) rfl (.same (.same (.same (.same (.same (.same (.same (.same (.same (.same (.same (.same (.same (.same (.same (.same (.same .nil))))))))))))))))) rfl
                         case b858 =>
                          exact sk_midX (z := (z_18.1, z_18.2.1, w_28)) rfl (.same (.same (.same (.same (.same (.same (.same (.same (.same (.same (.same (.same (.same (.same (.same (.same (.same .nil))))))))))))))))) rfl
                        case k856 =>
                         intro z_29
                         refine' sk_join (fun z_34 : ((List (List Int)) × (List Int) × List Int) => [.val (tLK tI) a, .val tI x_2, .val tR l_7, .val tB large_9, .val (tL tS) letters_12, .val (tL (tL tI)) z_34.1, .val (tL tI) z_34.2.1, .val tI form_26, .un, .un, .un, .un, .un, .un, .un, .un, .un]) (fun z_34 : ((List (List Int)) × (List Int) × List Int) => [⟨l_7, cL tI z_34.2.2⟩]) ?h863 ?k864
                         case h863 =>
                          intro R_35
                          refine' sk_if1 (pt_cmp' op_eq r2_eqI (pk_var (i := 7) rfl) pk_int) ?a865 ?b866
                          case a865 =>
                           refine' sk_setG (gk_tup rfl (gs_C (gk_name (i := 5) (by exact sc.nd)) (gs_1 (gk_name (i := 6) (by exact sc.nd)))) (tlC tl1)) (ek_o1 0 g_road.F sl1 (hr.mono (by decide)) g_road.m g_road.k g_road.b (pk_var (i := 2) rfl) (PAK.ak (pa_1 (pk_var (i := 4) rfl))) (fun _ => rfl)) ?k867
                           case k867 =>
                            intro y_36 z_37
                            refine' sk_name 0 rfl ?k868
                            case k868 =>
                             intro w_38
                             refine' sk_st (ρ2 := [.val (tLK tI) a, .val tI x_2, .val tR l_7, .val tB large_9, .val (tL tS) letters_12, .val (tL (tL tI)) z_37.1, .val (tL tI) z_37.2, .val tI form_26, .un, .un, .un, .un, .un, .un, .un, .un, .un]) (cs2 := [⟨l_7, cL tI w_38⟩]) rfl rfl ?k869
                             case k869 =>
                              refine' sk_st (ρ2 := [.val (tLK tI) a, .val tI x_2, .val tR l_7, .val tB large_9, .val (tL tS) letters_12, .val (tL (tL tI)) z_37.1, .val (tL tI) z_37.2, .val tI form_26, .un, .un, .un, .un, .un, .un, .un, .un, .un]) (cs2 := [⟨l_7, cL tI w_38⟩]) rfl rfl ?k870
                              case k870 =>
                               exact sk_midX (z := (z_37.1, z_37.2, w_38)) rfl (.same (.same (.same (.same (.same (.same (.same (.same (.same (.same (.same (.same (.same (.same (.same (.same (.same .nil))))))))))))))))) rfl
                          case b866 =>
                           exact sk_midX (z := (z_29.1, z_29.2.1, z_29.2.2)) rfl (.same (.same (.same (.same (.same (.same (.same (.same (.same (.same (.same (.same (.same (.same (.same (.same (.same .nil))))))))))))))))) rfl
                         case k864 =>
                          intro z_34
                          refine' sk_par (i := 8) (j := 9) rfl (by exact sc.nd) (ak_C (ek_makeS g_Machine_init hr (slC (slC sl1)) (PAK.ak (pa_C (pk_var (i := 4) rfl) (pa_C (pk_var (i := 5) rfl) (pa_1 (pk_var (i := 6) rfl)))))) (fun _ => (ak_1 (ek_fp g_far.F (slC sl1) (hr.mono (by decide)) g_far.m g_far.k g_far.b (PAK.ak (pa_C (pk_var (i := 5) rfl) (pa_1 (pk_var (i := 6) rfl)))))))) ?k871
                          case k871 =>
                           intro y_39 z_40
                           refine' sk_st (ρ2 := [.val (tLK tI) a, .val tI x_2, .val tR l_7, .val tB large_9, .val (tL tS) letters_12, .val (tL (tL tI)) z_34.1, .val (tL tI) z_34.2.1, .val tI form_26, .val (ty_Machine C_Machine) z_40.1, .val (tDt kII tI) z_40.2, .un, .un, .un, .un, .un, .un, .un]) (cs2 := [⟨l_7, cL tI z_34.2.2⟩]) rfl rfl ?k872
                           case k872 =>
                            refine' sk_set (i := 10) (by exact sc.nd) (PV.k (pv_cb (cr_repr hgd hr) bs.m_repr bs.b_repr (u_repr (dT (dsC (dU (@dS K)) (dsC (dU (dU (@dI K))) (ds1 (dU (@dI K)))))) tT_ref (Nat.le_of_ble_eq_true rfl)) (PK.v (pk_tup (pa_C (PK.uf (pk_fld cl_Machine.c cl_Machine.n_letters (PK.ins (pk_var (i := 8) rfl)))) (pa_C (pk_fld cl_Machine.c cl_Machine.n_table (PK.ins (pk_var (i := 8) rfl))) (pa_1 (pk_fld cl_Machine.c cl_Machine.n_good (PK.ins (pk_var (i := 8) rfl)))))) (fun F vs => (lenC (lenC len1)) F vs _))))) ?k873
                            case k873 =>
                             intro as_made_41
                             refine' sk_st (ρ2 := [.val (tLK tI) a, .val tI x_2, .val tR l_7, .val tB large_9, .val (tL tS) letters_12, .val (tL (tL tI)) z_34.1, .val (tL tI) z_34.2.1, .val tI form_26, .val (ty_Machine C_Machine) z_40.1, .val (tDt kII tI) z_40.2, .val tSx as_made_41, .un, .un, .un, .un, .un, .un]) (cs2 := [⟨l_7, cL tI z_34.2.2⟩]) rfl rfl ?k874
                             case k874 =>
                              refine' sk_for (fun z_42 : List Int => [.val (tLK tI) a, .val tI x_2, .val tR l_7, .val tB large_9, .val (tL tS) letters_12, .val (tL (tL tI)) z_34.1, .val (tL tI) z_34.2.1, .val tI form_26, .val (ty_Machine C_Machine) z_40.1, .val (tDt kII tI) z_40.2, .val tSx as_made_41, .un, .un, .un, .un, .un, .un]) (fun z_42 : List Int => [⟨l_7, cL tI z_42⟩]) _ hp rfl (ik_range1 bs.m_range pk_int) (gk_name (i := 11) (by exact sc.nd)) (.same (.same (.same (.same (.same (.same (.same (.same (.same (.same (.same (.same (.same (.same (.same (.same (.same .nil))))))))))))))))) rfl ?b875 ?k876
                              case b875 =>
                               intro fl_46 hs_45 N_44 z_42 x_43
                               refine' sk_st (ρ2 := [.val (tLK tI) a, .val tI x_2, .val tR l_7, .val tB large_9, .val (tL tS) letters_12, .val (tL (tL tI)) z_34.1, .val (tL tI) z_34.2.1, .val tI form_26, .val (ty_Machine C_Machine) z_40.1, .val (tDt kII tI) z_40.2, .val tSx as_made_41, .val tI x_43, .un, .un, .un, .un, .un]) (cs2 := [⟨l_7, cL tI z_42⟩]) rfl rfl ?k877
                               case k877 =>
                                refine' sk_par (i := 12) (j := 13) rfl (by exact sc.nd) (ak_C (ek_o1 0 g_draw.F sl1 (hr.mono (by decide)) g_draw.m g_draw.k g_draw.b (pk_var (i := 2) rfl) (PAK.ak (pa_1 (PV.k (pv_cb cr_lenQ bs.m_len bs.b_len u_len (PV.q (PK.l (pk_var (i := 5) rfl))))))) (fun _ => rfl)) (fun _ => (ak_1 (ek_o1 0 g_draw.F sl1 (hr.mono (by decide)) g_draw.m g_draw.k g_draw.b (pk_var (i := 2) rfl) (PAK.ak (pa_1 (PV.k (pv_cb cr_lenQ bs.m_len bs.b_len u_len (PV.q (PK.l (pk_var (i := 5) rfl))))))) (fun _ => rfl))))) ?k878
                                case k878 =>
                                 intro y_47 z_48
                                 refine' sk_name 0 rfl ?k879
                                 case k879 =>
                                  intro w_49
                                  refine' sk_st (ρ2 := [.val (tLK tI) a, .val tI x_2, .val tR l_7, .val tB large_9, .val (tL tS) letters_12, .val (tL (tL tI)) z_34.1, .val (tL tI) z_34.2.1, .val tI form_26, .val (ty_Machine C_Machine) z_40.1, .val (tDt kII tI) z_40.2, .val tSx as_made_41, .val tI x_43, .val tI z_48.1, .val tI z_48.2, .un, .un, .un]) (cs2 := [⟨l_7, cL tI w_49⟩]) rfl rfl ?k880
                                  case k880 =>
                                   refine' sk_st (ρ2 := [.val (tLK tI) a, .val tI x_2, .val tR l_7, .val tB large_9, .val (tL tS) letters_12, .val (tL (tL tI)) z_34.1, .val (tL tI) z_34.2.1, .val tI form_26, .val (ty_Machine C_Machine) z_40.1, .val (tDt kII tI) z_40.2, .val tSx as_made_41, .val tI x_43, .val tI z_48.1, .val tI z_48.2, .un, .un, .un]) (cs2 := [⟨l_7, cL tI w_49⟩]) rfl rfl ?k881
                                   case k881 =>
                                    refine' sk_setE (i := 14) (by exact sc.nd) (ek_fp g_by_far.F (slC (slC (slC (slC sl1)))) (hr.mono (by decide)) g_by_far.m g_by_far.k g_by_far.b (PAK.ak (pa_C (pk_var (i := 4) rfl) (pa_C (pk_var (i := 5) rfl) (pa_C (pk_var (i := 9) rfl) (pa_C (pk_var (i := 12) rfl) (pa_1 (pk_var (i := 13) rfl)))))))) ?k882
                                    case k882 =>
                                     intro y_51 due_50
                                     refine' sk_st (ρ2 := [.val (tLK tI) a, .val tI x_2, .val tR l_7, .val tB large_9, .val (tL tS) letters_12, .val (tL (tL tI)) z_34.1, .val (tL tI) z_34.2.1, .val tI form_26, .val (ty_Machine C_Machine) z_40.1, .val (tDt kII tI) z_40.2, .val tSx as_made_41, .val tI x_43, .val tI z_48.1, .val tI z_48.2, .val (tO (tL tS)) due_50, .un, .un]) (cs2 := [⟨l_7, cL tI w_49⟩]) rfl rfl ?k883
                                     case k883 =>
                                      refine' sk_seq (sk_if1 (PWK.pt (pw_and' (pt_cmp' op_lt r2_B0 (PV.k (pv_cb cr_lenQ bs.m_len bs.b_len u_len (PV.q (PK.l (pk_var (i := 5) rfl))))) pk_int) (pw_and1' (pt_neV hr.units (dv_sv (dOL (@dS K))) (dv_sv (dOL (@dS K))) sv_stays (eqv_dec (dOL (@dS K)) _ _) (PK.v (pk_var (i := 14) rfl)) (PK.v (pk_fn g_by_rows.F (slC (slC (slC (slC sl1)))) (hr.mono (by decide)) g_by_rows.m g_by_rows.k g_by_rows.b (pa_C (pk_var (i := 4) rfl) (pa_C (pk_var (i := 5) rfl) (pa_C (pk_var (i := 6) rfl) (pa_C (pk_var (i := 12) rfl) (pa_1 (pk_var (i := 13) rfl)))))))))))) ?a884 ?b885)
                                      case a884 =>
                                       refine' sk_drop 0 ?k886
                                       case k886 =>
                                        refine' sk_st (ρ2 := [.val (tLK tI) a, .val tI x_2, .val tR l_7, .val tB large_9, .val (tL tS) letters_12, .val (tL (tL tI)) z_34.1, .val (tL tI) z_34.2.1, .val tI form_26, .val (ty_Machine C_Machine) z_40.1, .val (tDt kII tI) z_40.2, .val tSx as_made_41, .val tI x_43, .val tI z_48.1, .val tI z_48.2, .val (tO (tL tS)) due_50, .un, .un]) (cs2 := []) rfl rfl ?k887
                                        case k887 =>
                                         exact sk_retF pk_bl
                                      case b885 =>
                                       refine' sk_nilX rfl ?k888
                                       case k888 =>
                                        refine' sk_for (fun _ : Unit => [.val (tLK tI) a, .val tI x_2, .val tR l_7, .val tB large_9, .val (tL tS) letters_12, .val (tL (tL tI)) z_34.1, .val (tL tI) z_34.2.1, .val tI form_26, .val (ty_Machine C_Machine) z_40.1, .val (tDt kII tI) z_40.2, .val tSx as_made_41, .val tI x_43, .val tI z_48.1, .val tI z_48.2, .val (tO (tL tS)) due_50, .un, .un]) (fun _ : Unit => [⟨l_7, cL tI w_49⟩]) () hp rfl (ik_range1 bs.m_range pk_int) (gk_name (i := 15) (by exact sc.nd)) (.same (.same (.same (.same (.same (.same (.same (.same (.same (.same (.same (.same (.same (.same (.same (.same (.same .nil))))))))))))))))) rfl ?b889 ?k890
                                        case b889 =>
                                         intro fl_56 hs_55 N_54 z_52 x_53
                                         refine' sk_st (ρ2 := [.val (tLK tI) a, .val tI x_2, .val tR l_7, .val tB large_9, .val (tL tS) letters_12, .val (tL (tL tI)) z_34.1, .val (tL tI) z_34.2.1, .val tI form_26, .val (ty_Machine C_Machine) z_40.1, .val (tDt kII tI) z_40.2, .val tSx as_made_41, .val tI x_43, .val tI z_48.1, .val tI z_48.2, .val (tO (tL tS)) due_50, .val tI x_53, .un]) (cs2 := [⟨l_7, cL tI w_49⟩]) rfl rfl ?k891
                                         case k891 =>
                                          refine' sk_setNO (i := 16) (T := tS) (by exact sc.nd) (noe_call g_parted_from.F (slC (slC sl1)) (hr.mono (by decide)) g_parted_from.m g_parted_from.k g_parted_from.b (PAK.ak (pa_C (pk_var (i := 8) rfl) (pa_C (pk_var (i := 12) rfl) (pa_1 (pk_var (i := 13) rfl))))) (fun _ => (by first | exact fun _ h => kp0 h | exact fun _ h => h | exact fun _ h => List.mem_cons.mpr (Or.inl (List.mem_singleton.mp h)))) (ε1 := fun _ => False) (fun _ h => h.elim)) ?n892 ?k893
                                          case n892 =>
                                           intro y_57
                                           refine' sk_st (ρ2 := [.val (tLK tI) a, .val tI x_2, .val tR l_7, .val tB large_9, .val (tL tS) letters_12, .val (tL (tL tI)) z_34.1, .val (tL tI) z_34.2.1, .val tI form_26, .val (ty_Machine C_Machine) z_40.1, .val (tDt kII tI) z_40.2, .val tSx as_made_41, .val tI x_43, .val tI z_48.1, .val tI z_48.2, .val (tO (tL tS)) due_50, .val tI x_53, .val (tO (tL tS)) none]) (cs2 := [⟨l_7, cL tI w_49⟩]) rfl rfl ?k894
                                           case k894 =>
                                            refine' sk_seq (sk_if1 (pt_cmp' op_ne r2_neR (PV.k (pv_cb (cr_reprO hgd hr) bs.m_repr bs.b_repr (u_reprO (dOL (@dS K)) tO_ref (Nat.le_of_ble_eq_true rfl)) (PK.v (pk_var (i := 16) rfl)))) (PV.k (pv_cb (cr_reprO hgd hr) bs.m_repr bs.b_repr (u_reprO (dOL (@dS K)) tO_ref (Nat.le_of_ble_eq_true rfl)) (PK.v (pk_var (i := 14) rfl))))) ?a895 ?b896)
                                            case a895 =>
                                             refine' sk_drop 0 ?k897
                                             case k897 =>
                                              refine' sk_st (ρ2 := [.val (tLK tI) a, .val tI x_2, .val tR l_7, .val tB large_9, .val (tL tS) letters_12, .val (tL (tL tI)) z_34.1, .val (tL tI) z_34.2.1, .val tI form_26, .val (ty_Machine C_Machine) z_40.1, .val (tDt kII tI) z_40.2, .val tSx as_made_41, .val tI x_43, .val tI z_48.1, .val tI z_48.2, .val (tO (tL tS)) due_50, .val tI x_53, .val (tO (tL tS)) none]) (cs2 := []) rfl rfl ?k898
                                              case k898 =>
                                               exact sk_retF pk_bl
                                            case b896 =>
                                             refine' sk_nilX rfl ?k899
                                             case k899 =>
                                              refine' sk_seq (sk_if1 (pt_notN nn_L (pk_var (i := 16) rfl)) ?a900 ?b901)
                                              case a900 =>
                                               exact sk_never
                                              case b901 =>
                                               refine' sk_nilX rfl ?k902
                                               case k902 =>
                                                exact sk_midX (z := ()) rfl (.same (.same (.same (.same (.same (.same (.same (.same (.same (.same (.same (.same (.same (.same (.same (.un (.un .nil))))))))))))))))) rfl
                                          case k893 =>
                                           intro y_58 a_59 found_60
                                           refine' sk_st (ρ2 := [.val (tLK tI) a, .val tI x_2, .val tR l_7, .val tB large_9, .val (tL tS) letters_12, .val (tL (tL tI)) z_34.1, .val (tL tI) z_34.2.1, .val tI form_26, .val (ty_Machine C_Machine) z_40.1, .val (tDt kII tI) z_40.2, .val tSx as_made_41, .val tI x_43, .val tI z_48.1, .val tI z_48.2, .val (tO (tL tS)) due_50, .val tI x_53, .val tR a_59]) (cs2 := [⟨l_7, cL tI w_49⟩, ⟨a_59, cL tS found_60⟩]) rfl rfl ?k903
                                           case k903 =>
                                            refine' sk_seq (sk_if1 (pt_cmp' op_ne r2_neR (PV.k (pv_cb (cr_reprO hgd hr) bs.m_repr bs.b_repr (u_reprL (@dS K) (Nat.le_of_ble_eq_true rfl)) (PK.own 1 (pk_var (i := 16) rfl) rfl))) (PV.k (pv_cb (cr_reprO hgd hr) bs.m_repr bs.b_repr (u_reprO (dOL (@dS K)) tO_ref (Nat.le_of_ble_eq_true rfl)) (PK.v (pk_var (i := 14) rfl))))) ?a904 ?b905)
                                            case a904 =>
                                             refine' sk_drop 1 ?k906
                                             case k906 =>
                                              refine' sk_st (ρ2 := [.val (tLK tI) a, .val tI x_2, .val tR l_7, .val tB large_9, .val (tL tS) letters_12, .val (tL (tL tI)) z_34.1, .val (tL tI) z_34.2.1, .val tI form_26, .val (ty_Machine C_Machine) z_40.1, .val (tDt kII tI) z_40.2, .val tSx as_made_41, .val tI x_43, .val tI z_48.1, .val tI z_48.2, .val (tO (tL tS)) due_50, .val tI x_53, .val tR a_59]) (cs2 := [⟨l_7, cL tI w_49⟩]) rfl rfl ?k907
                                              case k907 =>
                                               refine' sk_drop 0 ?k908
                                               case k908 =>
                                                refine' sk_st (ρ2 := [.val (tLK tI) a, .val tI x_2, .val tR l_7, .val tB large_9, .val (tL tS) letters_12, .val (tL (tL tI)) z_34.1, .val (tL tI) z_34.2.1, .val tI form_26, .val (ty_Machine C_Machine) z_40.1, .val (tDt kII tI) z_40.2, .val tSx as_made_41, .val tI x_43, .val tI z_48.1, .val tI z_48.2, .val (tO (tL tS)) due_50, .val tI x_53, .val tR a_59]) (cs2 := []) rfl rfl ?k909
                                                case k909 =>
                                                 exact sk_retF pk_bl
                                            case b905 =>
                                             refine' sk_nilX rfl ?k910
                                             case k910 =>
                                              refine' sk_seq (sk_if1 (pt_notN nn_R (PK.some (pk_var (i := 16) rfl))) ?a911 ?b912)
                                              case a911 =>
                                               refine' sk_expr (ek_mL PySem.F.slot_list_append PySem.F.type_list_append mt_append ml_append 1 (pk_var (i := 16) rfl) (ak_1 (PK.ek pk_str)) (fun _ => rfl) ⟨_, rfl⟩) ?k913
                                               case k913 =>
                                                intro y_61
                                                refine' sk_name 1 rfl ?k914
                                                case k914 =>
                                                 intro w_62
                                                 refine' sk_st (ρ2 := [.val (tLK tI) a, .val tI x_2, .val tR l_7, .val tB large_9, .val (tL tS) letters_12, .val (tL (tL tI)) z_34.1, .val (tL tI) z_34.2.1, .val tI form_26, .val (ty_Machine C_Machine) z_40.1, .val (tDt kII tI) z_40.2, .val tSx as_made_41, .val tI x_43, .val tI z_48.1, .val tI z_48.2, .val (tO (tL tS)) due_50, .val tI x_53, .val tR a_59]) (cs2 := [⟨l_7, cL tI w_49⟩, ⟨a_59, cL tS w_62⟩]) rfl rfl ?k915
                                                 case k915 =>
                                                  refine' sk_nilX rfl ?k916
                                                  case k916 =>
                                                   refine' sk_drop 1 ?k917
                                                   case k917 =>
                                                    refine' sk_st (ρ2 := [.val (tLK tI) a, .val tI x_2, .val tR l_7, .val tB large_9, .val (tL tS) letters_12, .val (tL (tL tI)) z_34.1, .val (tL tI) z_34.2.1, .val tI form_26, .val (ty_Machine C_Machine) z_40.1, .val (tDt kII tI) z_40.2, .val tSx as_made_41, .val tI x_43, .val tI z_48.1, .val tI z_48.2, .val (tO (tL tS)) due_50, .val tI x_53, .val tR a_59]) (cs2 := [⟨l_7, cL tI w_49⟩]) rfl rfl ?k918
                                                    case k918 =>
                                                     exact sk_midX (z := ()) rfl (.same (.same (.same (.same (.same (.same (.same (.same (.same (.same (.same (.same (.same (.same (.same (.un (.un .nil))))))))))))))))) rfl
                                              case b912 =>
                                               refine' sk_nilX rfl ?k919
                                               case k919 =>
                                                refine' sk_drop 1 ?k920
                                                case k920 =>
                                                 refine' sk_st (ρ2 := [.val (tLK tI) a, .val tI x_2, .val tR l_7, .val tB large_9, .val (tL tS) letters_12, .val (tL (tL tI)) z_34.1, .val (tL tI) z_34.2.1, .val tI form_26, .val (ty_Machine C_Machine) z_40.1, .val (tDt kII tI) z_40.2, .val tSx as_made_41, .val tI x_43, .val tI z_48.1, .val tI z_48.2, .val (tO (tL tS)) due_50, .val tI x_53, .val tR a_59]) (cs2 := [⟨l_7, cL tI w_49⟩]) rfl rfl ?k921
                                                 case k921 =>
                                                  exact sk_midX (z := ()) rfl (.same (.same (.same (.same (.same (.same (.same (.same (.same (.same (.same (.same (.same (.same (.same (.un (.un .nil))))))))))))))))) rfl
                                        case k890 =>
                                         intro z_52
                                         exact sk_midX (z := w_49) rfl (.same (.same (.same (.same (.same (.same (.same (.same (.same (.same (.same (.un (.un (.un (.un (.same (.same .nil))))))))))))))))) rfl
                              case k876 =>
                               intro z_42
                               refine' sk_seq (sk_if1 (pt_cmp' op_ne r2_neR (PV.k (pv_cb (cr_repr hgd hr) bs.m_repr bs.b_repr (u_repr (dT (dsC (dU (@dS K)) (dsC (dU (dU (@dI K))) (ds1 (dU (@dI K)))))) tT_ref (Nat.le_of_ble_eq_true rfl)) (PK.v (pk_tup (pa_C (PK.uf (pk_fld cl_Machine.c cl_Machine.n_letters (PK.ins (pk_var (i := 8) rfl)))) (pa_C (pk_fld cl_Machine.c cl_Machine.n_table (PK.ins (pk_var (i := 8) rfl))) (pa_1 (pk_fld cl_Machine.c cl_Machine.n_good (PK.ins (pk_var (i := 8) rfl)))))) (fun F vs => (lenC (lenC len1)) F vs _))))) (pk_var (i := 10) rfl)) ?a922 ?b923)
                               case a922 =>
                                refine' sk_drop 0 ?k924
                                case k924 =>
                                 refine' sk_st (ρ2 := [.val (tLK tI) a, .val tI x_2, .val tR l_7, .val tB large_9, .val (tL tS) letters_12, .val (tL (tL tI)) z_34.1, .val (tL tI) z_34.2.1, .val tI form_26, .val (ty_Machine C_Machine) z_40.1, .val (tDt kII tI) z_40.2, .val tSx as_made_41, .un, .un, .un, .un, .un, .un]) (cs2 := []) rfl rfl ?k925
                                 case k925 =>
                                  exact sk_retF pk_bl
                               case b923 =>
                                refine' sk_nilX rfl ?k926
                                case k926 =>
                                 refine' sk_drop 0 ?k927
                                 case k927 =>
                                  refine' sk_st (ρ2 := [.val (tLK tI) a, .val tI x_2, .val tR l_7, .val tB large_9, .val (tL tS) letters_12, .val (tL (tL tI)) z_34.1, .val (tL tI) z_34.2.1, .val tI form_26, .val (ty_Machine C_Machine) z_40.1, .val (tDt kII tI) z_40.2, .val tSx as_made_41, .un, .un, .un, .un, .un, .un]) (cs2 := []) rfl rfl ?k928
                                  case k928 =>
                                   exact sk_midX (z := ()) rfl (.same (.un (.un (.un (.un (.un (.un (.un (.un (.un (.un (.same (.same (.same (.same (.same (.same .nil))))))))))))))))) rfl
   case k823 =>
    intro z_1
    exact sk_retF pk_bl
  case vc =>
   intro h
   simp only [true_and, and_true, yes1, yes2]
   obtain ⟨hl, hφ⟩ := h
   have hφ : φ true := hφ _ rfl
   clear hl
   have hs := sizeLine_eq
   have nb : (if (if (a.length : Int) < 2 then (a.length : Int) else 2) > 1 then if (a.length : Int) < 2 then (a.length : Int) else 2 else 1) ≤ 2 ∧ 1 ≤ (if (if (a.length : Int) < 2 then (a.length : Int) else 2) > 1 then if (a.length : Int) < 2 then (a.length : Int) else 2 else 1) := by split <;> split <;> omega
   refine ⟨⟨by omega, by omega⟩, fun _ _ => True, trivial, fun i _ x hx _ => ?_, fun _ _ => hφ⟩
   obtain ⟨ex, hi⟩ := rng_get hx
   refine ⟨⟨by show 0 ≤ x; omega, by show x ≤ 1000000; omega⟩, fun _ c f1 => ⟨⟨f1, by decide, by decide⟩, fun r w ⟨r0, r1, f2⟩ large elarge w1 ew1 => ⟨⟨by rw [ew1]; exact f2, by decide, by decide⟩, fun q w2 ⟨q0, q1, f3⟩ => ⟨⟨f3, by omega, by omega⟩, fun ls0 w3 ⟨hN0, f4⟩ ls els w4 ew4 => ?_⟩⟩⟩⟩
   have hN : Names (1 + q) ls := by rw [els]; exact hN0
   have hll : (ls.length : Int) = 1 + q := hN.1
   refine ⟨⟨by rw [ew4]; exact f4, by decide, by decide⟩, fun r2 w5 ⟨r20, r21, f5⟩ => ⟨⟨f5, by show 1 ≤ 1 + r2; omega, by show 1 + r2 ≤ 24; omega, by show ls.length ≤ 6; omega⟩, fun m0 w6 hm0 z2 ez2 w7 ew7 => ?_⟩⟩
   have tg0 : TG ls.length z2 := by rw [ez2]; exact machine_tg hm0 (by omega) (by omega)
   have f7 : Fl w7 := by rw [ew7]; exact hm0.1
   refine ⟨fun y => Fl y.2.2 ∧ TG ls.length (y.1, y.2.1), ⟨fun _ => ⟨⟨f7, by decide, by decide⟩, fun r3 w8 ⟨r30, r31, f8⟩ => ⟨⟨f8, by show 1 ≤ 5 + r3; omega, by show 5 + r3 ≤ 24; omega, by show ls.length ≤ 6; omega⟩, fun m1 w9 hm1 z3 ez3 w10 ew10 => ⟨⟨by rw [ew10]; exact hm1.1, by decide, by decide⟩, fun r4 w11 ⟨r40, r41, f11⟩ => ⟨⟨f11, ⟨ls.length, by omega, ?_⟩, ?_, by show 0 ≤ r4; omega, by show r4 ≤ 8; omega⟩, fun m2 w12 ⟨f12, hm2⟩ z4 ez4 w13 ew13 => ⟨by show Fl w13; rw [ew13]; exact f12, ?_⟩⟩⟩⟩⟩, fun _ => ⟨f7, tg0⟩⟩, fun y ⟨f14, tg⟩ => ?_⟩
   · show TG ls.length (z3.1, z3.2)
     rw [ez3]
     exact machine_tg hm1 (by omega) (by omega)
   · have : (m1.1.length : Int) = 5 + r3 := hm1.2.1
     show z3.1.length ≤ 8
     rw [ez3]
     omega
   · show TG ls.length (z4.1, z4.2)
     rw [ez4]
     exact hm2 _ (by
       show TG ls.length (z3.1, z3.2)
       rw [ez3]
       exact machine_tg hm1 (by omega) (by omega))
   refine ⟨⟨f14, by decide, by decide⟩, fun r5 w15 ⟨r50, r51, f15⟩ fm efm w16 ew16 => ?_⟩
   refine ⟨fun y => Fl y.2.2 ∧ TG ls.length (y.1, y.2.1), ⟨fun _ => ⟨⟨by rw [ew16]; exact f15, by omega, by omega⟩, fun m3 w17 ⟨f17, hm3⟩ z5 ez5 w18 ew18 => ⟨by show Fl w18; rw [ew18]; exact f17, by show TG ls.length (z5.1, z5.2); rw [ez5]; exact hm3⟩⟩, fun _ => ⟨by show Fl w16; rw [ew16]; exact f15, tg⟩⟩, fun y2 ⟨f19, tg2⟩ => ?_⟩
   refine ⟨fun y => Fl y.2.2 ∧ TG ls.length (y.1, y.2.1), ⟨fun _ => ⟨⟨f19, by omega, by omega⟩, fun m3 w17 ⟨f17, hm3⟩ z5 ez5 w18 ew18 => ⟨by show Fl w18; rw [ew18]; exact f17, by show TG ls.length (z5.1, z5.2); rw [ez5]; exact hm3⟩⟩, fun _ => ⟨f19, tg2⟩⟩, fun y3 ⟨f20, tg3⟩ => ?_⟩
   obtain ⟨tab, good, fl⟩ := y3
   have f20 : Fl fl := f20
   have tg3 : TG ls.length (tab, good) := tg3
   have hTab : TabOk ls tab := tabok hN (by omega) (by omega) tg3
   have hG : GoodOk tab good := tg3.2.1
   have hT : TOk ls.length tab := tg3.1
   have t1 : 1 ≤ tab.length := tg3.2.2.1
   have t24 : tab.length ≤ 24 := tg3.2.2.2
   refine ⟨⟨hTab, hG⟩, fun ma ema => ⟨⟨⟨ls.length, hT⟩, t24, t1⟩, fun far hfar z4 ez4 => ?_⟩⟩
   have hF : FarT ls.length tab good (tab.length - 1) far := hfar _ hT
   have z41 : z4.1 = (ls, tab, good) := by rw [ez4]; exact ema
   have z42 : z4.2 = far := by rw [ez4]
   rw [z41, z42]
   have k1 := (sml_ma hTab hG).fits (by decide)
   have k1 : ((dT (dsC (dU (dS (K := K))) (dsC (dU (dU (dI (K := K)))) (ds1 (dU (dI (K := K))))))).d (ls, tab, good)).showable = true ∧ ((dT (dsC (dU (dS (K := K))) (dsC (dU (dU (dI (K := K)))) (ds1 (dU (dI (K := K))))))).d (ls, tab, good)).hasDict = false ∧ ((dT (dsC (dU (dS (K := K))) (dsC (dU (dU (dI (K := K)))) (ds1 (dU (dI (K := K))))))).d (ls, tab, good)).shown.length ≤ sizeLine := k1
   refine ⟨k1, fun kept ekept => ⟨⟨by decide, by decide⟩, fun _ f => Fl f, f20, fun i2 g x2 hx2 fg => ?_, fun g fg => ⟨k1, fun e => ?_, fun _ => trivial⟩⟩⟩
   rotate_left
   · have : decide (((dT (dsC (dU (dS (K := K))) (dsC (dU (dU (dI (K := K)))) (ds1 (dU (dI (K := K))))))).d (ls, tab, good)).shown = kept) = true := decide_eq_true ekept.symm
     rw [this] at e
     cases e
   refine ⟨⟨fg, by show 0 < (tab.length : Int); omega, by show (tab.length : Int) ≤ 1000000; omega⟩, fun one w20 ⟨o0, o1, f21⟩ => ⟨⟨f21, by show 0 < (tab.length : Int); omega, by show (tab.length : Int) ≤ 1000000; omega⟩, fun other w21 ⟨p0, p1, f22⟩ z7 ez7 w22 ew22 => ?_⟩⟩
   have hp : InP tab (one, other) := ⟨⟨o0, o1⟩, ⟨p0, p1⟩⟩
   have z71 : z7.1 = one := by rw [ez7]
   have z72 : z7.2 = other := by rw [ez7]
   rw [z71, z72]
   refine ⟨⟨⟨good, hF⟩, by show ls.length ≤ 6; omega, hT, t24, t1, hp⟩, fun r6 ⟨hr6, hr7⟩ due edue => ?_⟩
   have hd : due = bestR ls tab good (one, other) := edue.trans (hr6 good hF)
   have hw : ∀ l, due = some l → l.length ≤ 24 ∧ ∀ s ∈ l, s ∈ ls := fun l e => hr7 l (edue.symm.trans e)
   have hrows : due = K09.f_by_rows (ls, tab, good, one, other) := hd
   refine ⟨fun e => ⟨by show ls.length ≤ 6; omega, hT, by have h5 : (tab.length : Int) < 5 := of_decide_eq_true e; show tab.length ≤ 4; omega, t1, hp⟩, fun e => ?_, fun _ => ⟨⟨by decide, by decide⟩, fun _ _ => True, trivial, fun i3 _ x3 _ _ => ⟨⟨⟨hTab, hG⟩, hp⟩, fun r8 er8 => ?_, fun r8 er8 => (by cases er8)⟩, fun _ _ => by show Fl w22; rw [ew22]; exact f22⟩⟩
   · have : decide (due = K09.f_by_rows (ls, tab, good, one, other)) = true := decide_eq_true hrows
     rw [this] at e
     simp at e
   · have e8 : r8 = due := by
       rw [hd]
       exact (Sum.inl.inj er8).symm
     refine ⟨fun en => ?_, fun l el ad => ?_⟩
     · have ed : due = none := e8.symm.trans en
       rw [ed]
       have kn : ((dOL (dS (K := K))).d none).showable = true ∧ ((dOL (dS (K := K))).d none).hasDict = false ∧ ((dOL (dS (K := K))).d none).shown.length ≤ sizeLine := by
         refine ⟨by simp only [dOL, Option.elim, PyData.showable], by simp only [dOL, Option.elim, PyData.hasDict], ?_⟩
         rw [sizeLine_eq]
         simp only [dOL, Option.elim]
         decide +kernel
       refine ⟨⟨kn, kn⟩, fun e => ?_, fun _ => ⟨fun e => (by cases e), fun _ => trivial⟩⟩
       rw [decide_eq_true rfl] at e
       cases e
     · have ed : due = some l := e8.symm.trans el
       obtain ⟨l24, lin⟩ := hw l ed
       rw [ed]
       have k2 := (sml_words (ws := l) (n := 24) (fun s hs => hTab.w s (lin s hs)) l24).2.fits (by decide)
       have k2 : (PyData.list (l.map (dS (K := K)).d)).showable = true ∧ (PyData.list (l.map (dS (K := K)).d)).hasDict = false ∧ (PyData.list (l.map (dS (K := K)).d)).shown.length ≤ sizeLine := k2
       refine ⟨⟨k2, k2⟩, fun e => ?_, fun _ => ⟨fun _ => ⟨by rw [sizeLine_eq]; omega, fun _ _ _ _ => trivial⟩, fun _ => trivial⟩⟩
       have : decide ((PyData.list (l.map (dS (K := K)).d)).shown = ((dOL (dS (K := K))).d (some l)).shown) = true := decide_eq_true rfl
       rw [this] at e
       cases e
end
end K09
namespace K09
open PySem PySem.Spec PyProof.Rows L2 MD KP KM
theorem law_sp {K : PySem.W.Frag} {H : Hp} {a : Addr} {ns : List Int} (hl : ns.length ≤ 63) (hS : SqL K H a (ns.map V.int)) : (c_law K).sp [.ref a] H (fun v _ => v = .bl true) fun _ _ _ => False :=
  ⟨ns, H, .cons ⟨.ref a, rfl, a, ns.map V.int, rfl, hS, rl_of_ints, by rw [List.length_map, sizeLine_eq]; omega⟩ .nil, Same.refl H, fun c hc => (by cases hc), List.nodup_nil, hl, fun r er v F' H' _ hv => by
    subst er
    exact hv⟩
theorem all_mk {l : PySem.W.OpenLaw} {w : World} {K : PySem.W.Frag} {h : Heap} {mg : Str → Option Value} {fa C_Machine f_cell f_flow f_draw f_names f_Machine_init f_parted_from f_machine f_blown f_counter f_road f_by_rows f_far f_by_far f_law : Addr} (X : K.In h) (G : h.Ns mainGlobals mg) (hfa : mg "law" = some (.ref fa))
    {oc0 kV0 dc0 pm0 cd0 ct0 : Value} {od0 an0 : Option Addr} {sl0 : Array (Option Value)}
    {oc1 kV1 dc1 pm1 cd1 ct1 : Value} {od1 an1 : Option Addr} {sl1 : Array (Option Value)}
    {oc2 kV2 dc2 pm2 cd2 ct2 : Value} {od2 an2 : Option Addr} {sl2 : Array (Option Value)}
    {oc3 kV3 dc3 pm3 cd3 ct3 : Value} {od3 an3 : Option Addr} {sl3 : Array (Option Value)}
    {oc4 kV4 dc4 pm4 cd4 ct4 : Value} {od4 an4 : Option Addr} {sl4 : Array (Option Value)}
    {oc5 kV5 dc5 pm5 cd5 ct5 : Value} {od5 an5 : Option Addr} {sl5 : Array (Option Value)}
    {oc6 kV6 dc6 pm6 cd6 ct6 : Value} {od6 an6 : Option Addr} {sl6 : Array (Option Value)}
    {oc7 kV7 dc7 pm7 cd7 ct7 : Value} {od7 an7 : Option Addr} {sl7 : Array (Option Value)}
    {oc8 kV8 dc8 pm8 cd8 ct8 : Value} {od8 an8 : Option Addr} {sl8 : Array (Option Value)}
    {oc9 kV9 dc9 pm9 cd9 ct9 : Value} {od9 an9 : Option Addr} {sl9 : Array (Option Value)}
    {oc10 kV10 dc10 pm10 cd10 ct10 : Value} {od10 an10 : Option Addr} {sl10 : Array (Option Value)}
    {oc11 kV11 dc11 pm11 cd11 ct11 : Value} {od11 an11 : Option Addr} {sl11 : Array (Option Value)}
    {oc12 kV12 dc12 pm12 cd12 ct12 : Value} {od12 an12 : Option Addr} {sl12 : Array (Option Value)}
    {oc13 kV13 dc13 pm13 cd13 ct13 : Value} {od13 an13 : Option Addr} {sl13 : Array (Option Value)}
    (aC_Machine : PySem.W.nsIn K mainGlobals "Machine" = some (some (.ref C_Machine)))
    (a0 : PySem.W.nsIn K mainGlobals "_law_cell" = some (some (.ref f_cell)))
    (l0 : K.lookup f_cell = some ⟨oc0, od0, .func (PySem.W.fnOf "_law_cell" "_law_cell" (defArgs s_cell) (defBody s_cell) (defScope s_cell) .none kV0 dc0 pm0 an0 cd0 ct0), sl0⟩)
    (c0 : PySem.W.codeIn K cd0 "_law_cell" = true)
    (k0 : PySem.W.keepIn K (.ref f_cell) = true)
    (a1 : PySem.W.nsIn K mainGlobals "_law_flow" = some (some (.ref f_flow)))
    (l1 : K.lookup f_flow = some ⟨oc1, od1, .func (PySem.W.fnOf "_law_flow" "_law_flow" (defArgs s_flow) (defBody s_flow) (defScope s_flow) .none kV1 dc1 pm1 an1 cd1 ct1), sl1⟩)
    (c1 : PySem.W.codeIn K cd1 "_law_flow" = true)
    (k1 : PySem.W.keepIn K (.ref f_flow) = true)
    (a2 : PySem.W.nsIn K mainGlobals "_law_draw" = some (some (.ref f_draw)))
    (l2 : K.lookup f_draw = some ⟨oc2, od2, .func (PySem.W.fnOf "_law_draw" "_law_draw" (defArgs s_draw) (defBody s_draw) (defScope s_draw) .none kV2 dc2 pm2 an2 cd2 ct2), sl2⟩)
    (c2 : PySem.W.codeIn K cd2 "_law_draw" = true)
    (k2 : PySem.W.keepIn K (.ref f_draw) = true)
    (a3 : PySem.W.nsIn K mainGlobals "_law_names" = some (some (.ref f_names)))
    (l3 : K.lookup f_names = some ⟨oc3, od3, .func (PySem.W.fnOf "_law_names" "_law_names" (defArgs s_names) (defBody s_names) (defScope s_names) .none kV3 dc3 pm3 an3 cd3 ct3), sl3⟩)
    (c3 : PySem.W.codeIn K cd3 "_law_names" = true)
    (k3 : PySem.W.keepIn K (.ref f_names) = true)
    (a4 : PySem.W.findIn K (.ref C_Machine) "__init__" = some (some (.ref f_Machine_init)))
    (i4 : PySem.W.isFn K (.ref f_Machine_init) = true)
    (l4 : K.lookup f_Machine_init = some ⟨oc4, od4, .func (PySem.W.fnOf "__init__" "Machine.__init__" (defArgs s_Machine_init) (defBody s_Machine_init) (defScope s_Machine_init) .none kV4 dc4 pm4 an4 cd4 ct4), sl4⟩)
    (c4 : PySem.W.codeIn K cd4 "Machine.__init__" = true)
    (k4 : PySem.W.keepIn K (.ref f_Machine_init) = true)
    (a5 : PySem.W.nsIn K mainGlobals "parted_from" = some (some (.ref f_parted_from)))
    (l5 : K.lookup f_parted_from = some ⟨oc5, od5, .func (PySem.W.fnOf "parted_from" "parted_from" (defArgs s_parted_from) (defBody s_parted_from) (defScope s_parted_from) .none kV5 dc5 pm5 an5 cd5 ct5), sl5⟩)
    (c5 : PySem.W.codeIn K cd5 "parted_from" = true)
    (k5 : PySem.W.keepIn K (.ref f_parted_from) = true)
    (a6 : PySem.W.nsIn K mainGlobals "_law_machine" = some (some (.ref f_machine)))
    (l6 : K.lookup f_machine = some ⟨oc6, od6, .func (PySem.W.fnOf "_law_machine" "_law_machine" (defArgs s_machine) (defBody s_machine) (defScope s_machine) .none kV6 dc6 pm6 an6 cd6 ct6), sl6⟩)
    (c6 : PySem.W.codeIn K cd6 "_law_machine" = true)
    (k6 : PySem.W.keepIn K (.ref f_machine) = true)
    (a7 : PySem.W.nsIn K mainGlobals "_law_blown" = some (some (.ref f_blown)))
    (l7 : K.lookup f_blown = some ⟨oc7, od7, .func (PySem.W.fnOf "_law_blown" "_law_blown" (defArgs s_blown) (defBody s_blown) (defScope s_blown) .none kV7 dc7 pm7 an7 cd7 ct7), sl7⟩)
    (c7 : PySem.W.codeIn K cd7 "_law_blown" = true)
    (k7 : PySem.W.keepIn K (.ref f_blown) = true)
    (a8 : PySem.W.nsIn K mainGlobals "_law_counter" = some (some (.ref f_counter)))
    (l8 : K.lookup f_counter = some ⟨oc8, od8, .func (PySem.W.fnOf "_law_counter" "_law_counter" (defArgs s_counter) (defBody s_counter) (defScope s_counter) .none kV8 dc8 pm8 an8 cd8 ct8), sl8⟩)
    (c8 : PySem.W.codeIn K cd8 "_law_counter" = true)
    (k8 : PySem.W.keepIn K (.ref f_counter) = true)
    (a9 : PySem.W.nsIn K mainGlobals "_law_road" = some (some (.ref f_road)))
    (l9 : K.lookup f_road = some ⟨oc9, od9, .func (PySem.W.fnOf "_law_road" "_law_road" (defArgs s_road) (defBody s_road) (defScope s_road) .none kV9 dc9 pm9 an9 cd9 ct9), sl9⟩)
    (c9 : PySem.W.codeIn K cd9 "_law_road" = true)
    (k9 : PySem.W.keepIn K (.ref f_road) = true)
    (a10 : PySem.W.nsIn K mainGlobals "_law_by_rows" = some (some (.ref f_by_rows)))
    (l10 : K.lookup f_by_rows = some ⟨oc10, od10, .func (PySem.W.fnOf "_law_by_rows" "_law_by_rows" (defArgs s_by_rows) (defBody s_by_rows) (defScope s_by_rows) .none kV10 dc10 pm10 an10 cd10 ct10), sl10⟩)
    (c10 : PySem.W.codeIn K cd10 "_law_by_rows" = true)
    (k10 : PySem.W.keepIn K (.ref f_by_rows) = true)
    (a11 : PySem.W.nsIn K mainGlobals "_law_far" = some (some (.ref f_far)))
    (l11 : K.lookup f_far = some ⟨oc11, od11, .func (PySem.W.fnOf "_law_far" "_law_far" (defArgs s_far) (defBody s_far) (defScope s_far) .none kV11 dc11 pm11 an11 cd11 ct11), sl11⟩)
    (c11 : PySem.W.codeIn K cd11 "_law_far" = true)
    (k11 : PySem.W.keepIn K (.ref f_far) = true)
    (a12 : PySem.W.nsIn K mainGlobals "_law_by_far" = some (some (.ref f_by_far)))
    (l12 : K.lookup f_by_far = some ⟨oc12, od12, .func (PySem.W.fnOf "_law_by_far" "_law_by_far" (defArgs s_by_far) (defBody s_by_far) (defScope s_by_far) .none kV12 dc12 pm12 an12 cd12 ct12), sl12⟩)
    (c12 : PySem.W.codeIn K cd12 "_law_by_far" = true)
    (k12 : PySem.W.keepIn K (.ref f_by_far) = true)
    (a13 : PySem.W.nsIn K mainGlobals "law" = some (some (.ref f_law)))
    (l13 : K.lookup f_law = some ⟨oc13, od13, .func (PySem.W.fnOf "law" "law" (defArgs s_law) (defBody s_law) (defScope s_law) .none kV13 dc13 pm13 an13 cd13 ct13), sl13⟩)
    (c13 : PySem.W.codeIn K cd13 "law" = true)
    (k13 : PySem.W.keepIn K (.ref f_law) = true)
    (pg_Machine : PySem.W.plainGet K C_Machine Str.empty = true)
    (hd_Machine : PySem.W.hasDictIn K C_Machine = true)
    (po_Machine : PySem.W.plainOver K C_Machine = true)
    (sa_Machine : PySem.W.findIn K (.ref C_Machine) "__setattr__" = some (some (.builtin "object.__setattr__")))
    (mk_Machine : PySem.W.makesIn K C_Machine = true)
    (kc_Machine : PySem.W.keepIn K (.ref C_Machine) = true)
    (n_Machine_letters : PySem.W.findIn K (.ref C_Machine) "letters" = some none)
    (n_Machine_table : PySem.W.findIn K (.ref C_Machine) "table" = some none)
    (n_Machine_good : PySem.W.findIn K (.ref C_Machine) "good" = some none)
    (z_len : PySem.W.nsIn K mainGlobals "len" = some none)
    (z_range : PySem.W.nsIn K mainGlobals "range" = some none)
    (z_sorted : PySem.W.nsIn K mainGlobals "sorted" = some none)
    (z_set : PySem.W.nsIn K mainGlobals "set" = some none)
    (z_tuple : PySem.W.nsIn K mainGlobals "tuple" = some none)
    (z_list : PySem.W.nsIn K mainGlobals "list" = some none)
    (z_isinstance : PySem.W.nsIn K mainGlobals "isinstance" = some none)
    (z_all : PySem.W.nsIn K mainGlobals "all" = some none)
    (z_any : PySem.W.nsIn K mainGlobals "any" = some none)
    (z_int : PySem.W.nsIn K mainGlobals "int" = some none)
    (z_max : PySem.W.nsIn K mainGlobals "max" = some none)
    (z_min : PySem.W.nsIn K mainGlobals "min" = some none)
    (z_str : PySem.W.nsIn K mainGlobals "str" = some none)
    (z_enumerate : PySem.W.nsIn K mainGlobals "enumerate" = some none)
    (z_bool : PySem.W.nsIn K mainGlobals "bool" = some none)
    (z_dict : PySem.W.nsIn K mainGlobals "dict" = some none)
    (z_zip : PySem.W.nsIn K mainGlobals "zip" = some none)
    (z_repr : PySem.W.nsIn K mainGlobals "repr" = some none)
    : ∃ fd : FuncData, (∀ (s : Shared) (v : Value), BindsTo s fd ⟨[v], []⟩ [("_law_script", v)]) ∧ ∀ base : Heap, K.In base → base.Ns mainGlobals mg → FnG l.prog w K mg base 4 fa fd ["_law_script"] (c_law K).sp := by
  have e := hfa.symm.trans (PySem.W.mg_of X G a13)
  cases e
  have F0 := fun_mk (st := s_cell) l0 c0 k0
  have b0 := F0.binds (ps := ["_law_script", "_law_k"]) fun _ _ _ _ _ _ us hl => match us, hl with | [_, _], _ => rfl
  have F1 := fun_mk (st := s_flow) l1 c1 k1
  have b1 := F1.binds (ps := ["_law_script", "_law_k"]) fun _ _ _ _ _ _ us hl => match us, hl with | [_, _], _ => rfl
  have F2 := fun_mk (st := s_draw) l2 c2 k2
  have b2 := F2.binds (ps := ["_law_flow_here", "_law_many"]) fun _ _ _ _ _ _ us hl => match us, hl with | [_, _], _ => rfl
  have F3 := fun_mk (st := s_names) l3 c3 k3
  have b3 := F3.binds (ps := ["_law_flow_here", "_law_many"]) fun _ _ _ _ _ _ us hl => match us, hl with | [_, _], _ => rfl
  have F4 := fun_mk (st := s_Machine_init) l4 c4 k4
  have b4 := F4.binds (ps := ["self", "letters", "table", "good"]) fun _ _ _ _ _ _ us hl => match us, hl with | [_, _, _, _], _ => rfl
  have F5 := fun_mk (st := s_parted_from) l5 c5 k5
  have b5 := F5.binds (ps := ["machine", "one", "other"]) fun _ _ _ _ _ _ us hl => match us, hl with | [_, _, _], _ => rfl
  have F6 := fun_mk (st := s_machine) l6 c6 k6
  have b6 := F6.binds (ps := ["_law_flow_here", "_law_many", "_law_letters"]) fun _ _ _ _ _ _ us hl => match us, hl with | [_, _, _], _ => rfl
  have F7 := fun_mk (st := s_blown) l7 c7 k7
  have b7 := F7.binds (ps := ["_law_flow_here", "_law_table", "_law_good", "_law_more"]) fun _ _ _ _ _ _ us hl => match us, hl with | [_, _, _, _], _ => rfl
  have F8 := fun_mk (st := s_counter) l8 c8 k8
  have b8 := F8.binds (ps := ["_law_flow_here", "_law_letters"]) fun _ _ _ _ _ _ us hl => match us, hl with | [_, _], _ => rfl
  have F9 := fun_mk (st := s_road) l9 c9 k9
  have b9 := F9.binds (ps := ["_law_flow_here", "_law_letters"]) fun _ _ _ _ _ _ us hl => match us, hl with | [_, _], _ => rfl
  have F10 := fun_mk (st := s_by_rows) l10 c10 k10
  have b10 := F10.binds (ps := ["_law_letters", "_law_table", "_law_good", "_law_one", "_law_other"]) fun _ _ _ _ _ _ us hl => match us, hl with | [_, _, _, _, _], _ => rfl
  have F11 := fun_mk (st := s_far) l11 c11 k11
  have b11 := F11.binds (ps := ["_law_table", "_law_good"]) fun _ _ _ _ _ _ us hl => match us, hl with | [_, _], _ => rfl
  have F12 := fun_mk (st := s_by_far) l12 c12 k12
  have b12 := F12.binds (ps := ["_law_letters", "_law_table", "_law_far_here", "_law_one", "_law_other"]) fun _ _ _ _ _ _ us hl => match us, hl with | [_, _, _, _, _], _ => rfl
  have F13 := fun_mk (st := s_law) l13 c13 k13
  have b13 := F13.binds (ps := ["_law_script"]) fun _ _ _ _ _ _ us hl => match us, hl with | [_], _ => rfl
  have bs : Bs mg := ⟨PySem.W.mg_none_of X G z_len, by decide +kernel, PySem.W.mg_none_of X G z_range, by decide +kernel, PySem.W.mg_none_of X G z_sorted, by decide +kernel, PySem.W.mg_none_of X G z_set, by decide +kernel, PySem.W.mg_none_of X G z_tuple, by decide +kernel, PySem.W.mg_none_of X G z_list, by decide +kernel, PySem.W.mg_none_of X G z_isinstance, by decide +kernel, PySem.W.mg_none_of X G z_all, by decide +kernel, PySem.W.mg_none_of X G z_any, by decide +kernel, PySem.W.mg_none_of X G z_int, by decide +kernel, PySem.W.mg_none_of X G z_max, by decide +kernel, PySem.W.mg_none_of X G z_min, by decide +kernel, PySem.W.mg_none_of X G z_str, by decide +kernel, PySem.W.mg_none_of X G z_enumerate, by decide +kernel, PySem.W.mg_none_of X G z_bool, by decide +kernel, PySem.W.mg_none_of X G z_dict, by decide +kernel, PySem.W.mg_none_of X G z_zip, by decide +kernel, PySem.W.mg_none_of X G z_repr, by decide +kernel⟩
  have cl_Machine : Cl_Machine K C_Machine := ⟨⟨pg_Machine, hd_Machine, po_Machine, sa_Machine⟩, n_Machine_letters, n_Machine_table, n_Machine_good⟩
  have xs : Xs K mg ({ } : XA) (0 : Addr) := ⟨trivial⟩
  refine ⟨PySem.W.fnOf "law" "law" (defArgs s_law) (defBody s_law) (defScope s_law) .none kV13 dc13 pm13 an13 cd13 ct13, fun s v => .of_eq rfl, fun base _ _ => ?_⟩
  have g_cell : Cal l.prog w K mg base "_law_cell" 1 ["_law_script", "_law_k"] (c_cell K).sp f_cell _ := ⟨ok_cell bs F0, PySem.W.mg_of X G a0, k0, b0⟩
  have g_flow : Cal l.prog w K mg base "_law_flow" 2 ["_law_script", "_law_k"] (c_flow K).sp f_flow _ := ⟨ok_flow bs g_cell F1, PySem.W.mg_of X G a1, k1, b1⟩
  have g_draw : Cal l.prog w K mg base "_law_draw" 1 ["_law_flow_here", "_law_many"] (c_draw K).sp f_draw _ := ⟨ok_draw bs F2, PySem.W.mg_of X G a2, k2, b2⟩
  have g_names : Cal l.prog w K mg base "_law_names" 2 ["_law_flow_here", "_law_many"] (c_names K).sp f_names _ := ⟨ok_names bs g_draw F3, PySem.W.mg_of X G a3, k3, b3⟩
  have g_Machine_init : MkC l.prog w K mg base C_Machine "Machine" 2 ["self", "letters", "table", "good"] (c_Machine_init K C_Machine).sp f_Machine_init _ := ⟨ok_Machine_init bs cl_Machine F4, PySem.W.mg_of X G aC_Machine, ⟨mk_Machine, a4, i4, kc_Machine⟩, b4⟩
  have g_parted_from : Cal l.prog w K mg base "parted_from" 1 ["machine", "one", "other"] (c_parted_from K C_Machine ({ } : XA)).sp f_parted_from _ := ⟨ok_parted_from bs (xa := ({ } : XA)) xs cl_Machine F5, PySem.W.mg_of X G a5, k5, b5⟩
  have g_machine : Cal l.prog w K mg base "_law_machine" 2 ["_law_flow_here", "_law_many", "_law_letters"] (c_machine K).sp f_machine _ := ⟨ok_machine bs g_draw F6, PySem.W.mg_of X G a6, k6, b6⟩
  have g_blown : Cal l.prog w K mg base "_law_blown" 2 ["_law_flow_here", "_law_table", "_law_good", "_law_more"] (c_blown K).sp f_blown _ := ⟨ok_blown bs g_draw F7, PySem.W.mg_of X G a7, k7, b7⟩
  have g_counter : Cal l.prog w K mg base "_law_counter" 2 ["_law_flow_here", "_law_letters"] (c_counter K).sp f_counter _ := ⟨ok_counter bs g_draw F8, PySem.W.mg_of X G a8, k8, b8⟩
  have g_road : Cal l.prog w K mg base "_law_road" 2 ["_law_flow_here", "_law_letters"] (c_road K).sp f_road _ := ⟨ok_road bs g_draw F9, PySem.W.mg_of X G a9, k9, b9⟩
  have g_by_rows : Cal l.prog w K mg base "_law_by_rows" 1 ["_law_letters", "_law_table", "_law_good", "_law_one", "_law_other"] (c_by_rows K).sp f_by_rows _ := ⟨ok_by_rows bs F10, PySem.W.mg_of X G a10, k10, b10⟩
  have g_far : Cal l.prog w K mg base "_law_far" 1 ["_law_table", "_law_good"] (c_far K).sp f_far _ := ⟨ok_far bs F11, PySem.W.mg_of X G a11, k11, b11⟩
  have g_by_far : Cal l.prog w K mg base "_law_by_far" 1 ["_law_letters", "_law_table", "_law_far_here", "_law_one", "_law_other"] (c_by_far K).sp f_by_far _ := ⟨ok_by_far bs F12, PySem.W.mg_of X G a12, k12, b12⟩
  exact ok_law bs (xa := ({ } : XA)) xs cl_Machine g_Machine_init g_blown g_by_far g_by_rows g_counter g_draw g_far g_flow g_machine g_names g_road g_parted_from F13
theorem walk {l : PySem.W.OpenLaw} {q : Program} {loose : List Str} {XP : (Str → Option Value) → Heap → Prop} {YP : World → Heap → Prop} {d : DefRec} {K : Params → PySem.W.Frag} (hn : l.most = some 63) (hdf : d.params.defaults = [])
    (hY : ∀ (w : World) (h : Heap), YP w h → (K w.params).In h)
    (F : ∀ (w : World) (mg : Str → Option Value) (fa : Addr) (h : Heap), (K w.params).In h → h.Ns mainGlobals mg → mg d.name = some (.ref fa) →
      ∃ fd : FuncData, (∀ (s : Shared) (u : Value), BindsTo s fd ⟨[u], []⟩ [("_law_script", u)]) ∧ ∀ base : Heap, (K w.params).In base → base.Ns mainGlobals mg → FnG l.prog w (K w.params) mg base 4 fa fd ["_law_script"] (c_law (K w.params)).sp) :
    PySem.W.WalkO q loose XP YP l.row.toRowW d [] (fun f vs => PySem.call f vs) :=
  MD.walk_ofG (n := 63) (k := 4) (x := "_law_script") (sp := fun w => (c_law (K w.params)).sp) hn (by decide) hdf ⟨rfl, by decide, by decide⟩ hY F
    (fun w H a ns hl _ hS => law_sp hl hS) (fun w H s e s' z => by obtain ⟨_, _, _, _, _, _, _, _, _, _, _, _, h⟩ := z; exact h)
end K09
open PySem PySem.W PyProof.Rows in
set_option maxRecDepth 100000 in
set_option maxHeartbeats 0 in
theorem PySem.Challenge.cw_meetdesks_k09_whole_the_first_row_that_p_holds : PySem.Challenge.rw_meetdesks_k09_whole_the_first_row_that_p.Holds := by
  w_on; o_law; k_head; (case hw => w_witness2)
  k_fill
  refine K09.walk (l := PySem.Challenge.rw_meetdesks_k09_whole_the_first_row_that_p) rfl rfl (fun w h Y => PySem.W.kIn_of Y) ?F
  case F =>
    intro w mg fa h KX G hmg
    refine' K09.all_mk KX G hmg ?aC_Machine ?a0 ?l0 ?c0 ?k0 ?a1 ?l1 ?c1 ?k1 ?a2 ?l2 ?c2 ?k2 ?a3 ?l3 ?c3 ?k3 ?a4 ?i4 ?l4 ?c4 ?k4 ?a5 ?l5 ?c5 ?k5 ?a6 ?l6 ?c6 ?k6 ?a7 ?l7 ?c7 ?k7 ?a8 ?l8 ?c8 ?k8 ?a9 ?l9 ?c9 ?k9 ?a10 ?l10 ?c10 ?k10 ?a11 ?l11 ?c11 ?k11 ?a12 ?l12 ?c12 ?k12 ?a13 ?l13 ?c13 ?k13 ?pg_Machine ?hd_Machine ?po_Machine ?sa_Machine ?mk_Machine ?kc_Machine ?n_Machine_letters ?n_Machine_table ?n_Machine_good ?z_len ?z_range ?z_sorted ?z_set ?z_tuple ?z_list ?z_isinstance ?z_all ?z_any ?z_int ?z_max ?z_min ?z_str ?z_enumerate ?z_bool ?z_dict ?z_zip ?z_repr
    (case aC_Machine => k_is)
    (case a0 => k_is)
    (case l0 => k_is)
    (case c0 => k_is)
    (case k0 => k_is)
    (case a1 => k_is)
    (case l1 => k_is)
    (case c1 => k_is)
    (case k1 => k_is)
    (case a2 => k_is)
    (case l2 => k_is)
    (case c2 => k_is)
    (case k2 => k_is)
    (case a3 => k_is)
    (case l3 => k_is)
    (case c3 => k_is)
    (case k3 => k_is)
    (case a4 => k_is)
    (case i4 => k_is)
    (case l4 => k_is)
    (case c4 => k_is)
    (case k4 => k_is)
    (case a5 => k_is)
    (case l5 => k_is)
    (case c5 => k_is)
    (case k5 => k_is)
    (case a6 => k_is)
    (case l6 => k_is)
    (case c6 => k_is)
    (case k6 => k_is)
    (case a7 => k_is)
    (case l7 => k_is)
    (case c7 => k_is)
    (case k7 => k_is)
    (case a8 => k_is)
    (case l8 => k_is)
    (case c8 => k_is)
    (case k8 => k_is)
    (case a9 => k_is)
    (case l9 => k_is)
    (case c9 => k_is)
    (case k9 => k_is)
    (case a10 => k_is)
    (case l10 => k_is)
    (case c10 => k_is)
    (case k10 => k_is)
    (case a11 => k_is)
    (case l11 => k_is)
    (case c11 => k_is)
    (case k11 => k_is)
    (case a12 => k_is)
    (case l12 => k_is)
    (case c12 => k_is)
    (case k12 => k_is)
    (case a13 => k_is)
    (case l13 => k_is)
    (case c13 => k_is)
    (case k13 => k_is)
    (case pg_Machine => k_is)
    (case hd_Machine => k_is)
    (case po_Machine => k_is)
    (case sa_Machine => k_is)
    (case mk_Machine => k_is)
    (case kc_Machine => k_is)
    (case n_Machine_letters => k_is)
    (case n_Machine_table => k_is)
    (case n_Machine_good => k_is)
    (case z_len => k_is)
    (case z_range => k_is)
    (case z_sorted => k_is)
    (case z_set => k_is)
    (case z_tuple => k_is)
    (case z_list => k_is)
    (case z_isinstance => k_is)
    (case z_all => k_is)
    (case z_any => k_is)
    (case z_int => k_is)
    (case z_max => k_is)
    (case z_min => k_is)
    (case z_str => k_is)
    (case z_enumerate => k_is)
    (case z_bool => k_is)
    (case z_dict => k_is)
    (case z_zip => k_is)
    (case z_repr => k_is)
