import PyProof.Rows.All
import Wide.All
import OpenK.AllK
import Wide.FinOn
import HandS.ForMost
import HandS.Wide
import HandS.WideBits
import HandS.Flow
import HandS.Codes
import HandS.Style
import PySem.Challenge.RW_fewlines_k36_sums_of_floors
set_option Elab.async false
set_option linter.all false
set_option maxRecDepth 100000
set_option maxHeartbeats 4000000
set_option exponentiation.threshold 4000

namespace Fw
open PySem PySem.Spec PyProof.Rows L2

/-! ### what code does, to any wanted end -/
section
variable {X : Cx} {σ : L2.St} {H : Hp}
def wE (X : Cx) (e : Expr) : TE := fun σ H Q => ∀ (pins : List (Addr × Obj)) (s : Shared), L2.Inv X pins σ H s → wpAny (model X.prog X.w) X.A (eval e X.env) (EP X pins σ Q) X.xe s
def wT (X : Cx) (e : Expr) : TT := fun σ H Q => ∀ (pins : List (Addr × Obj)) (s : Shared), L2.Inv X pins σ H s → wpAny (model X.prog X.w) X.A (PySem.isTrue e X.env (eval e X.env)) (TP X pins σ Q) X.xe s
def wA (X : Cx) (es : List Expr) : TA := fun σ H Q => ∀ (pos : Pos) (pins : List (Addr × Obj)) (s : Shared), L2.Inv X pins σ H s → wpAny (model X.prog X.w) X.A (spliced (backTo pos (starEach es X.env))) (AP X pins σ Q) X.xe s
def wS (X : Cx) (st : List Stmt) : TS := fun D σ H => ∀ (pins : List (Addr × Obj)) (s : Shared), L2.Inv X pins σ H s → wpAny (model X.prog X.w) X.A (execs st X.env) (SP X pins D) X.xe s
theorem pe_w {e : Expr} : PE X e (wE X e) := ⟨fun pins s σ H Q I h => h pins s I⟩
theorem pt_w {e : Expr} : PT X e (wT X e) := ⟨fun pins s σ H Q I h => h pins s I⟩
theorem pa_w {es : List Expr} : PA X es (wA X es) := ⟨fun pos pins s σ H Q I h => h pos pins s I⟩
theorem pss_w {st : List Stmt} : PSs X st (wS X st) := ⟨fun pins s σ H D I h => h pins s I⟩
theorem we_of {e : Expr} {te : TE} {Q : VK} (h : PE X e te) (q : te σ H Q) : wE X e σ H Q := fun pins s I => h.run pins s σ H Q I q
theorem wt_of {e : Expr} {t : TT} {Q : Bool → Hp → Prop} (h : PT X e t) (q : t σ H Q) : wT X e σ H Q := fun pins s I => h.run pins s σ H Q I q
theorem wa_of {es : List Expr} {t : TA} {Q : List V → Hp → Prop} (h : PA X es t) (q : t σ H Q) : wA X es σ H Q := fun pos pins s I => h.run pos pins s σ H Q I q
theorem ws_of {st : List Stmt} {t : TS} {D : Ends} (h : PSs X st t) (q : t D σ H) : wS X st D σ H := fun pins s I => h.run pins s σ H D I q
theorem wE.mono {e : Expr} {Q Q' : VK} (h : wE X e σ H Q) (k : ∀ v H', Q v H' → Q' v H') : wE X e σ H Q' := fun pins s I =>
  thn (h pins s I) fun v s ⟨x, H1, I1, r, q⟩ => ⟨x, H1, I1, r, k _ _ q⟩
theorem wT.mono {e : Expr} {Q Q' : Bool → Hp → Prop} (h : wT X e σ H Q) (k : ∀ v H', Q v H' → Q' v H') : wT X e σ H Q' := fun pins s I =>
  thn (h pins s I) fun v s ⟨H1, I1, q⟩ => ⟨H1, I1, k _ _ q⟩
theorem wS.mono {st : List Stmt} {D D' : Ends} (h : wS X st D σ H) (k1 : ∀ σ H, D.nx σ H → D'.nx σ H) (k2 : ∀ v H, D.rt v H → D'.rt v H) (k3 : ∀ σ H, D.bk σ H → D'.bk σ H) (k4 : ∀ σ H, D.ct σ H → D'.ct σ H) : wS X st D' σ H := fun pins s I =>
  thn (h pins s I) fun f s q => by
    cases f with
    | next => obtain ⟨σ', H', I', q⟩ := q; exact ⟨σ', H', I', k1 _ _ q⟩
    | ret v => obtain ⟨x, σ', H', I', r, q⟩ := q; exact ⟨x, σ', H', I', r, k2 _ _ q⟩
    | brk => obtain ⟨σ', H', I', q⟩ := q; exact ⟨σ', H', I', k3 _ _ q⟩
    | cont => obtain ⟨σ', H', I', q⟩ := q; exact ⟨σ', H', I', k4 _ _ q⟩
end

/-! ### what stands for good (F), within what stands (H) -/
theorem same_new {H : Hp} {p : Addr} {o : HO} (h : H p = none) : Same H (upd H p o) := fun b x e => by
  rw [upd_ne (ne_of_none e h)]
  exact e
structure Grow (F H F' H' : Hp) : Prop where
  f : Same F F'
  s : Same F' H'
  h : Same H H'
  n : ∀ b o, F' b = some o → F b = some o ∨ H b = none
theorem Grow.refl {F H : Hp} (s : Same F H) : Grow F H F H := ⟨Same.refl F, s, Same.refl H, fun _ _ e => .inl e⟩
theorem Grow.trans {F H F1 H1 F2 H2 : Hp} (a : Grow F H F1 H1) (b : Grow F1 H1 F2 H2) : Grow F H F2 H2 :=
  ⟨a.f.trans b.f, b.s, a.h.trans b.h, fun c o e => (b.n c o e).elim (fun q => a.n c o q) fun q => .inr (a.h.free q)⟩
theorem Grow.new {F H : Hp} {p : Addr} {o : HO} (s : Same F H) (hp : H p = none) : Grow F H (upd F p o) (upd H p o) := by
  have hf := s.free hp
  refine ⟨same_new hf, fun b x e => ?_, same_new hp, fun b x e => ?_⟩
  · by_cases h : b = p
    · subst h; rw [upd_same] at e ⊢; exact e
    · rw [upd_ne h] at e ⊢; exact s b x e
  · by_cases h : b = p
    · subst h; exact .inr hp
    · rw [upd_ne h] at e; exact .inl e
theorem Grow.side {F H H' : Hp} (s : Same F H) (h : Same H H') : Grow F H F H' := ⟨Same.refl F, s.trans h, h, fun _ _ e => .inl e⟩

/-! ### values that tell data -/
abbrev Rp (α : Type) := Hp → V → α → Prop
class Mono {α : Type} (r : Rp α) : Prop where
  mono : ∀ {F F' : Hp} {v : V} {x : α}, Same F F' → r F v x → r F' v x
def rInt : Rp Int := fun _ v x => v = .int x
def rBool : Rp Bool := fun _ v x => v = .bl x
def rStr : Rp Str := fun _ v x => v = .str x
def rNon : Rp Unit := fun _ v _ => v = .non
/-- None, or an r -/
def rOpt {α : Type} (r : Rp α) : Rp (Option α) := fun F v o => match o with
  | none => v = .non
  | some x => r F v x
def rLst (K : PySem.W.Frag) {α : Type} (r : Rp α) : Rp (List α) := fun F v xs => ∃ a vs, v = .ref a ∧ SqL K F a vs ∧ Paired (r F) vs xs
def rTup (K : PySem.W.Frag) {α : Type} (r : Rp α) : Rp (List α) := fun F v xs => ∃ a vs, v = .ref a ∧ SqT K F a vs ∧ Paired (r F) vs xs
def rT2 (K : PySem.W.Frag) {α β : Type} (r : Rp α) (r' : Rp β) : Rp (α × β) := fun F v p => ∃ a v1 v2, v = .ref a ∧ SqT K F a [v1, v2] ∧ r F v1 p.1 ∧ r' F v2 p.2
def rT3 (K : PySem.W.Frag) {α β γ : Type} (r : Rp α) (r' : Rp β) (r'' : Rp γ) : Rp (α × β × γ) := fun F v p => ∃ a v1 v2 v3, v = .ref a ∧ SqT K F a [v1, v2, v3] ∧ r F v1 p.1 ∧ r' F v2 p.2.1 ∧ r'' F v3 p.2.2
/-- data of any depth -/
def rDat (K : PySem.W.Frag) : Rp PyData := fun F v d => Dp K F v d

theorem same_t {K : PySem.W.Frag} {H H' : Hp} {a : Addr} {xs : List V} (e : Same H H') (h : SqT K H a xs) : SqT K H' a xs := by
  rcases h with (h | ⟨o, h⟩) | h
  · exact .inl (.inl (e _ _ h))
  · exact .inl (.inr ⟨o, e _ _ h⟩)
  · exact .inr h
theorem paired_mono {α β : Type} {R R' : α → β → Prop} (k : ∀ a b, R a b → R' a b) : ∀ {xs : List α} {ys : List β}, Paired R xs ys → Paired R' xs ys
  | _, _, .nil => .nil
  | _, _, .cons h t => .cons (k _ _ h) (paired_mono k t)
mutual
theorem dp_mono {K : PySem.W.Frag} {H H' : Hp} (e : Same H H') : ∀ (d : PyData) (v : V), Dp K H v d → Dp K H' v d
  | .none, _, h => by cases h; exact .non
  | .bool b, _, h => by cases h; exact .bl b
  | .int i, _, h => by cases h; exact .int i
  | .str x, _, h => by cases h; exact .str x
  | .list ds, _, h => by cases h with | lst s a => exact .lst (e.seq s) (dpAll_mono e ds _ a)
  | .tuple ds, _, h => by cases h with | tup s a => exact .tup (same_t e s) (dpAll_mono e ds _ a)
  | .dict _, _, h => by cases h
theorem dpAll_mono {K : PySem.W.Frag} {H H' : Hp} (e : Same H H') : ∀ (ds : List PyData) (vs : List V), DpAll K H vs ds → DpAll K H' vs ds
  | [], _, h => by cases h; exact .nil
  | d :: ds, _, h => by cases h with | cons a b => exact .cons (dp_mono e d _ a) (dpAll_mono e ds _ b)
end
instance : Mono rInt := ⟨fun _ h => h⟩
instance : Mono rBool := ⟨fun _ h => h⟩
instance : Mono rStr := ⟨fun _ h => h⟩
instance : Mono rNon := ⟨fun _ h => h⟩
instance {α : Type} {r : Rp α} [Mono r] : Mono (rOpt r) := ⟨fun {F F' v x} s h => by
  cases x with
  | none => exact h
  | some x => exact Mono.mono (r := r) s h⟩
instance {K : PySem.W.Frag} {α : Type} {r : Rp α} [Mono r] : Mono (rLst K r) := ⟨fun s h => by
  obtain ⟨a, vs, e, h1, h2⟩ := h
  exact ⟨a, vs, e, s.seq h1, paired_mono (fun _ _ => Mono.mono s) h2⟩⟩
instance {K : PySem.W.Frag} {α : Type} {r : Rp α} [Mono r] : Mono (rTup K r) := ⟨fun s h => by
  obtain ⟨a, vs, e, h1, h2⟩ := h
  exact ⟨a, vs, e, same_t s h1, paired_mono (fun _ _ => Mono.mono s) h2⟩⟩
instance {K : PySem.W.Frag} {α β : Type} {r : Rp α} {r' : Rp β} [Mono r] [Mono r'] : Mono (rT2 K r r') := ⟨fun s h => by
  obtain ⟨a, v1, v2, e, h1, h2, h3⟩ := h
  exact ⟨a, v1, v2, e, same_t s h1, Mono.mono s h2, Mono.mono s h3⟩⟩
instance {K : PySem.W.Frag} {α β γ : Type} {r : Rp α} {r' : Rp β} {r'' : Rp γ} [Mono r] [Mono r'] [Mono r''] : Mono (rT3 K r r' r'') := ⟨fun s h => by
  obtain ⟨a, v1, v2, v3, e, h1, h2, h3, h4⟩ := h
  exact ⟨a, v1, v2, v3, e, same_t s h1, Mono.mono s h2, Mono.mono s h3, Mono.mono s h4⟩⟩
instance {K : PySem.W.Frag} : Mono (rDat K) := ⟨fun s h => dp_mono s _ _ h⟩

/-! ### an expression that changes nothing and gives an x -/
def EvE {α : Type} (X : Cx) (e : Expr) (σ : L2.St) (F : Hp) (r : Rp α) (x : α) : Prop :=
  ∀ F1 H1, Same F F1 → Same F1 H1 → ∀ Q : VK, (∀ v F2 H2, Grow F1 H1 F2 H2 → r F2 v x → Q v H2) → wE X e σ H1 Q
def EvT (X : Cx) (e : Expr) (σ : L2.St) (F : Hp) (b : Bool) : Prop :=
  ∀ F1 H1, Same F F1 → Same F1 H1 → ∀ Q : Bool → Hp → Prop, (∀ F2 H2, Grow F1 H1 F2 H2 → Q b H2) → wT X e σ H1 Q
/-- what a row of values tells -/
abbrev Ar (α : Type) := Hp → List V → α → Prop
class MonoA {α : Type} (r : Ar α) : Prop where
  mono : ∀ {F F' : Hp} {v : List V} {x : α}, Same F F' → r F v x → r F' v x
def EvA {α : Type} (X : Cx) (es : List Expr) (σ : L2.St) (F : Hp) (r : Ar α) (x : α) : Prop :=
  ∀ F1 H1, Same F F1 → Same F1 H1 → ∀ Q : List V → Hp → Prop, (∀ v F2 H2, Grow F1 H1 F2 H2 → r F2 v x → Q v H2) → wA X es σ H1 Q
section
variable {X : Cx} {σ : L2.St} {F F' H : Hp} {α β γ : Type} {pos : Pos} {a b c e : Expr}
theorem EvE.go {r : Rp α} {x : α} (h : EvE X e σ F r x) (s : Same F H) {Q : VK} (q : ∀ v F2 H2, Grow F H F2 H2 → r F2 v x → Q v H2) : wE X e σ H Q := h F H (Same.refl F) s Q q
theorem EvT.go {x : Bool} (h : EvT X e σ F x) (s : Same F H) {Q : Bool → Hp → Prop} (q : ∀ F2 H2, Grow F H F2 H2 → Q x H2) : wT X e σ H Q := h F H (Same.refl F) s Q q
theorem EvA.go {es : List Expr} {r : Ar α} {x : α} (h : EvA X es σ F r x) (s : Same F H) {Q : List V → Hp → Prop} (q : ∀ v F2 H2, Grow F H F2 H2 → r F2 v x → Q v H2) : wA X es σ H Q := h F H (Same.refl F) s Q q
theorem EvE.up {r : Rp α} {x : α} (h : EvE X e σ F r x) (s : Same F F') : EvE X e σ F' r x := fun F1 H1 s1 s2 Q q => h F1 H1 (s.trans s1) s2 Q q
theorem EvE.to {r : Rp α} {x y : α} (h : EvE X e σ F r x) (he : x = y) : EvE X e σ F r y := he ▸ h
theorem EvT.to {x y : Bool} (h : EvT X e σ F x) (he : x = y) : EvT X e σ F y := he ▸ h
/-- the same value, told otherwise -/
theorem EvE.re {r : Rp α} {r' : Rp β} {x : α} {y : β} (h : EvE X e σ F r x) (k : ∀ F v, r F v x → r' F v y) : EvE X e σ F r' y := fun F1 H1 s1 s2 Q q => h F1 H1 s1 s2 Q fun v F2 H2 g r => q v F2 H2 g (k F2 v r)

theorem e_var {r : Rp α} {x : α} {v : V} {n : Str} (i : Nat) (hr : r F v x) [Mono r] (hN : X.N[i]? = some n := by rfl) (hσ : σ[i]? = some (some v) := by rfl) (hv : Vis X.env.scope n := by first | exact Or.inl rfl | exact Or.inr (Or.inl rfl) | exact Or.inr (Or.inr rfl))
    (hd : (n == ("__debug__" : Str)) = false := by decide) (hcd : (n == ("__classdict__" : Str)) = false := by decide) : EvE X (.Name n pos) σ F r x := fun F1 H1 s1 s2 Q q =>
  we_of (pv i hN hv hd hcd) ⟨v, hσ, q v F1 H1 (Grow.refl s2) (Mono.mono s1 hr)⟩
/-- an int in the i-th slot -/
theorem e_vi {x : Int} {n : Str} (i : Nat) (hN : X.N[i]? = some n := by rfl) (hσ : σ[i]? = some (some (.int x)) := by rfl) (hv : Vis X.env.scope n := by first | exact Or.inl rfl | exact Or.inr (Or.inl rfl) | exact Or.inr (Or.inr rfl))
    (hd : (n == ("__debug__" : Str)) = false := by decide) (hcd : (n == ("__classdict__" : Str)) = false := by decide) : EvE X (.Name n pos) σ F rInt x := e_var i (show rInt F (.int x) x from rfl) hN hσ hv hd hcd
theorem e_int {i : Int} {j : Nat} : EvE X (.Constant (.int i) j pos) σ F rInt i := fun F1 H1 s1 s2 Q q => we_of pe_int (q _ F1 H1 (Grow.refl s2) rfl)
theorem e_bl {i : Bool} {j : Nat} : EvE X (.Constant (.bool i) j pos) σ F rBool i := fun F1 H1 s1 s2 Q q => we_of pe_bl (q _ F1 H1 (Grow.refl s2) rfl)
theorem e_str {i : Str} {j : Nat} : EvE X (.Constant (.str i) j pos) σ F rStr i := fun F1 H1 s1 s2 Q q => we_of pe_str (q _ F1 H1 (Grow.refl s2) rfl)
theorem e_non {j : Nat} : EvE X (.Constant .none j pos) σ F rNon () := fun F1 H1 s1 s2 Q q => we_of pe_non (q _ F1 H1 (Grow.refl s2) rfl)
/-- a module's int -/
theorem e_gi {x : Str} {i : Int} {t : Tok} (hm : X.mg x = some (.int i t)) (hg : Gl X x := by rfl) (hd : (x == ("__debug__" : Str)) = false := by decide) : EvE X (.Name x pos) σ F rInt i := fun F1 H1 s1 s2 Q q => we_of (pe_glob hg hm (v := .int i) ⟨t, rfl⟩ hd) (q _ F1 H1 (Grow.refl s2) rfl)

/-- two operands, then a rule on values -/
theorem e_op2 {te : TE} {r2 : R2} {ra : Rp α} {rb : Rp β} {ro : Rp γ} {x : α} {y : β} {z : γ} [Mono ra] (hp : PE X e te) (ht : te = tOp r2 (wE X a) (wE X b)) (ha : EvE X a σ F ra x) (hb : EvE X b σ F rb y)
    (hr : ∀ F2 H2 v u, Same F F2 → Same F2 H2 → ra F2 v x → rb F2 u y → ∀ Q : VK, (∀ v' F3 H3, Grow F2 H2 F3 H3 → ro F3 v' z → Q v' H3) → r2 v u H2 Q) : EvE X e σ F ro z := fun F1 H1 s1 s2 Q q => by
  subst ht
  exact we_of hp (ha F1 H1 s1 s2 _ fun v F2 H2 g2 r2' => hb F2 H2 (s1.trans g2.f) g2.s _ fun u F3 H3 g3 r3 =>
    hr F3 H3 v u ((s1.trans g2.f).trans g3.f) g3.s (Mono.mono g3.f r2') r3 Q fun v' F4 H4 g4 r4 => q v' F4 H4 ((g2.trans g3).trans g4) r4)
theorem e_bin {op : Operator} {r2 : R2} {ra : Rp α} {rb : Rp β} {ro : Rp γ} {x : α} {y : β} {z : γ} [Mono ra] (ho : OpR X (binaryOp op) r2) (ha : EvE X a σ F ra x) (hb : EvE X b σ F rb y)
    (hr : ∀ F2 H2 v u, Same F F2 → Same F2 H2 → ra F2 v x → rb F2 u y → ∀ Q : VK, (∀ v' F3 H3, Grow F2 H2 F3 H3 → ro F3 v' z → Q v' H3) → r2 v u H2 Q) : EvE X (.BinOp a op b pos) σ F ro z :=
  e_op2 (pe_op ho pe_w pe_w) rfl ha hb hr
theorem e_un {op : UnaryOp} {ru : V → Hp → VK → Prop} {ra : Rp α} {ro : Rp β} {x : α} {z : β} (ho : UnR X (unaryOp op) ru) (ha : EvE X a σ F ra x)
    (hr : ∀ F2 H2 v, Same F F2 → Same F2 H2 → ra F2 v x → ∀ Q : VK, (∀ v' F3 H3, Grow F2 H2 F3 H3 → ro F3 v' z → Q v' H3) → ru v H2 Q) : EvE X (.UnaryOp op a pos) σ F ro z := fun F1 H1 s1 s2 Q q =>
  we_of (pe_un ho pe_w) (ha F1 H1 s1 s2 _ fun v F2 H2 g2 r2' => hr F2 H2 v (s1.trans g2.f) g2.s r2' Q fun v' F4 H4 g4 r4 => q v' F4 H4 (g2.trans g4) r4)

variable {x y z : Int}
theorem e_iop0 {op : Operator} {g : Int → Int → V} {ro : Rp γ} {w : γ} (ho : OpR X (binaryOp op) (rI0 g)) (ha : EvE X a σ F rInt x) (hb : EvE X b σ F rInt y) (k : ∀ F, ro F (g x y) w) : EvE X (.BinOp a op b pos) σ F ro w :=
  e_bin ho ha hb fun F2 H2 v u _ s e1 e2 Q q => ⟨x, y, e1, e2, q _ F2 H2 (Grow.refl s) (k F2)⟩
theorem e_iop {op : Operator} {C : Int → Int → Prop} {g : Int → Int → V} {ro : Rp γ} {w : γ} (ho : OpR X (binaryOp op) (rI C g)) (ha : EvE X a σ F rInt x) (hb : EvE X b σ F rInt y) (hc : C x y) (k : ∀ F, ro F (g x y) w) : EvE X (.BinOp a op b pos) σ F ro w :=
  e_bin ho ha hb fun F2 H2 v u _ s e1 e2 Q q => ⟨x, y, e1, e2, hc, q _ F2 H2 (Grow.refl s) (k F2)⟩
theorem e_add (ha : EvE X a σ F rInt x) (hb : EvE X b σ F rInt y) : EvE X (.BinOp a .Add b pos) σ F rInt (x + y) := e_iop0 op_add ha hb fun _ => rfl
theorem e_sub (ha : EvE X a σ F rInt x) (hb : EvE X b σ F rInt y) : EvE X (.BinOp a .Sub b pos) σ F rInt (x - y) := e_iop0 op_sub ha hb fun _ => rfl
/-- a size at which all reckoning goes -/
def Lim (x : Int) : Prop := x.natAbs < 2 ^ 2000
theorem lim_of {x : Int} (h0 : -(10 ^ 300) ≤ x) (h1 : x ≤ 10 ^ 300) : Lim x := by
  have e : (10 ^ 300 : Nat) < 2 ^ 2000 := by decide +kernel
  unfold Lim
  have : x.natAbs ≤ 10 ^ 300 := by omega
  omega
theorem e_mul (ha : EvE X a σ F rInt x) (hb : EvE X b σ F rInt y) (h1 : Lim x) (h2 : Lim y) : EvE X (.BinOp a .Mult b pos) σ F rInt (x * y) := e_iop op_mulX ha hb (mulx_ok h1 h2 (by decide)) fun _ => rfl
/-- one factor is small -/
theorem e_mull (ha : EvE X a σ F rInt x) (hb : EvE X b σ F rInt y) (h : (-(2 ^ 64) < x ∧ x < 2 ^ 64) ∨ (-(2 ^ 64) < y ∧ y < 2 ^ 64)) : EvE X (.BinOp a .Mult b pos) σ F rInt (x * y) := e_iop op_mul ha hb h fun _ => rfl
theorem e_fdiv (ha : EvE X a σ F rInt x) (hb : EvE X b σ F rInt y) (h0 : 0 < y) (h1 : Lim y) : EvE X (.BinOp a .FloorDiv b pos) σ F rInt (x / y) := e_iop op_fdivW ha hb (wide_div h0 h1 (by decide) (by decide)) fun _ => rfl
theorem e_mod (ha : EvE X a σ F rInt x) (hb : EvE X b σ F rInt y) (h0 : 0 < y) : EvE X (.BinOp a .Mod b pos) σ F rInt (x % y) := e_iop op_mod ha hb h0 fun _ => rfl
theorem e_pow (ha : EvE X a σ F rInt x) (hb : EvE X b σ F rInt y) (h0 : 0 ≤ y ∧ y ≤ 1000000 ∧ x.natAbs < 2 ^ 64) : EvE X (.BinOp a .Pow b pos) σ F rInt (x ^ y.toNat) := e_iop op_pow ha hb h0 fun _ => rfl
theorem e_shl (ha : EvE X a σ F rInt x) (hb : EvE X b σ F rInt y) (h0 : 0 ≤ y ∧ y ≤ 1000000 ∧ x.natAbs < 2 ^ 64) : EvE X (.BinOp a .LShift b pos) σ F rInt (x * 2 ^ y.toNat) := e_iop op_shl ha hb h0 fun _ => rfl
theorem e_neg (ha : EvE X a σ F rInt x) : EvE X (.UnaryOp .USub a pos) σ F rInt (-x) := e_un un_neg ha fun F2 H2 v _ s e1 Q q => ⟨x, e1, q _ F2 H2 (Grow.refl s) rfl⟩

/-! tests -/
theorem e_cmp {op : CmpOp} {r2 : R2} {ra : Rp α} {rb : Rp β} {ro : Rp γ} {x : α} {y : β} {z : γ} [Mono ra] (ho : OpR X (compareOp op) r2) (hm : behindInMarks op b = false) (ha : EvE X a σ F ra x) (hb : EvE X b σ F rb y)
    (hr : ∀ F2 H2 v u, Same F F2 → Same F2 H2 → ra F2 v x → rb F2 u y → ∀ Q : VK, (∀ v' F3 H3, Grow F2 H2 F3 H3 → ro F3 v' z → Q v' H3) → r2 v u H2 Q) : EvE X (.Compare a [op] [b] pos) σ F ro z :=
  e_op2 (pe_cmpR ho pe_w pe_w hm) rfl ha hb hr
theorem t_cmp {op : CmpOp} {r2 : R2} {ra : Rp α} {rb : Rp β} {x : α} {y : β} {z : Bool} [Mono ra] (ho : OpR X (compareOp op) r2) (hm : behindInMarks op b = false) (ha : EvE X a σ F ra x) (hb : EvE X b σ F rb y)
    (hr : ∀ F2 H2 v u, Same F F2 → Same F2 H2 → ra F2 v x → rb F2 u y → ∀ Q : VK, (∀ F3 H3, Grow F2 H2 F3 H3 → Q (.bl z) H3) → r2 v u H2 Q) : EvT X (.Compare a [op] [b] pos) σ F z := fun F1 H1 s1 s2 Q q =>
  wt_of (pt_cmpR ho pe_w pe_w hm) (ha F1 H1 s1 s2 _ fun v F2 H2 g2 r2' => hb F2 H2 (s1.trans g2.f) g2.s _ fun u F3 H3 g3 r3 =>
    hr F3 H3 v u ((s1.trans g2.f).trans g3.f) g3.s (Mono.mono g3.f r2') r3 _ fun F4 H4 g4 => ⟨z, rfl, q F4 H4 ((g2.trans g3).trans g4)⟩)
theorem t_icmp {op : CmpOp} {g : Int → Int → Bool} (ho : OpR X (compareOp op) (rI0 fun i j => .bl (g i j))) (hm : behindInMarks op b = false) (ha : EvE X a σ F rInt x) (hb : EvE X b σ F rInt y) : EvT X (.Compare a [op] [b] pos) σ F (g x y) :=
  t_cmp ho hm ha hb fun F2 H2 v u _ s e1 e2 Q q => ⟨x, y, e1, e2, q F2 H2 (Grow.refl s)⟩
theorem e_icmp {op : CmpOp} {g : Int → Int → Bool} (ho : OpR X (compareOp op) (rI0 fun i j => .bl (g i j))) (hm : behindInMarks op b = false) (ha : EvE X a σ F rInt x) (hb : EvE X b σ F rInt y) : EvE X (.Compare a [op] [b] pos) σ F rBool (g x y) :=
  e_cmp ho hm ha hb fun F2 H2 v u _ s e1 e2 Q q => ⟨x, y, e1, e2, q _ F2 H2 (Grow.refl s) rfl⟩
theorem t_lt (ha : EvE X a σ F rInt x) (hb : EvE X b σ F rInt y) : EvT X (.Compare a [.Lt] [b] pos) σ F (decide (x < y)) := t_icmp op_lt (nomark _) ha hb
theorem t_le (ha : EvE X a σ F rInt x) (hb : EvE X b σ F rInt y) : EvT X (.Compare a [.LtE] [b] pos) σ F (decide (x ≤ y)) := t_icmp op_le (nomark _) ha hb
theorem t_gt (ha : EvE X a σ F rInt x) (hb : EvE X b σ F rInt y) : EvT X (.Compare a [.Gt] [b] pos) σ F (decide (y < x)) := t_icmp op_gt (nomark _) ha hb
theorem t_ge (ha : EvE X a σ F rInt x) (hb : EvE X b σ F rInt y) : EvT X (.Compare a [.GtE] [b] pos) σ F (decide (y ≤ x)) := t_icmp op_ge (nomark _) ha hb
theorem e_lt (ha : EvE X a σ F rInt x) (hb : EvE X b σ F rInt y) : EvE X (.Compare a [.Lt] [b] pos) σ F rBool (decide (x < y)) := e_icmp op_lt (nomark _) ha hb
theorem e_le (ha : EvE X a σ F rInt x) (hb : EvE X b σ F rInt y) : EvE X (.Compare a [.LtE] [b] pos) σ F rBool (decide (x ≤ y)) := e_icmp op_le (nomark _) ha hb
theorem e_gt (ha : EvE X a σ F rInt x) (hb : EvE X b σ F rInt y) : EvE X (.Compare a [.Gt] [b] pos) σ F rBool (decide (y < x)) := e_icmp op_gt (nomark _) ha hb
theorem e_ge (ha : EvE X a σ F rInt x) (hb : EvE X b σ F rInt y) : EvE X (.Compare a [.GtE] [b] pos) σ F rBool (decide (y ≤ x)) := e_icmp op_ge (nomark _) ha hb
theorem bl_int (x y : Int) : decide (V.int x = V.int y) = decide (x = y) := by
  by_cases h : x = y
  · subst h; simp
  · rw [decide_eq_false h, decide_eq_false fun e => h (V.int.inj e)]
theorem bl_bl (x y : Bool) : decide (V.bl x = V.bl y) = (x == y) := by cases x <;> cases y <;> decide
theorem bl_str (x y : Str) : decide (V.str x = V.str y) = decide (x = y) := by
  by_cases h : x = y
  · subst h; simp
  · rw [decide_eq_false h, decide_eq_false fun e => h (V.str.inj e)]
theorem t_eq (ha : EvE X a σ F rInt x) (hb : EvE X b σ F rInt y) : EvT X (.Compare a [.Eq] [b] pos) σ F (decide (x = y)) :=
  t_cmp op_eq (nomark _) ha hb fun F2 H2 v u _ s e1 e2 Q q => by subst e1 e2; exact ⟨rfl, by rw [bl_int]; exact q F2 H2 (Grow.refl s)⟩
theorem t_ne (ha : EvE X a σ F rInt x) (hb : EvE X b σ F rInt y) : EvT X (.Compare a [.NotEq] [b] pos) σ F (!decide (x = y)) :=
  t_cmp op_ne (nomark _) ha hb fun F2 H2 v u _ s e1 e2 Q q => by subst e1 e2; exact ⟨rfl, by rw [bl_int]; exact q F2 H2 (Grow.refl s)⟩
theorem e_eq (ha : EvE X a σ F rInt x) (hb : EvE X b σ F rInt y) : EvE X (.Compare a [.Eq] [b] pos) σ F rBool (decide (x = y)) :=
  e_cmp op_eq (nomark _) ha hb fun F2 H2 v u _ s e1 e2 Q q => by subst e1 e2; exact ⟨rfl, by rw [bl_int]; exact q _ F2 H2 (Grow.refl s) rfl⟩
theorem e_ne (ha : EvE X a σ F rInt x) (hb : EvE X b σ F rInt y) : EvE X (.Compare a [.NotEq] [b] pos) σ F rBool (!decide (x = y)) :=
  e_cmp op_ne (nomark _) ha hb fun F2 H2 v u _ s e1 e2 Q q => by subst e1 e2; exact ⟨rfl, by rw [bl_int]; exact q _ F2 H2 (Grow.refl s) rfl⟩
theorem t_eqB {x y : Bool} (ha : EvE X a σ F rBool x) (hb : EvE X b σ F rBool y) : EvT X (.Compare a [.Eq] [b] pos) σ F (x == y) :=
  t_cmp op_eq (nomark _) ha hb fun F2 H2 v u _ s e1 e2 Q q => by subst e1 e2; exact ⟨rfl, by rw [bl_bl]; exact q F2 H2 (Grow.refl s)⟩
theorem t_neB {x y : Bool} (ha : EvE X a σ F rBool x) (hb : EvE X b σ F rBool y) : EvT X (.Compare a [.NotEq] [b] pos) σ F (!(x == y)) :=
  t_cmp op_ne (nomark _) ha hb fun F2 H2 v u _ s e1 e2 Q q => by subst e1 e2; exact ⟨rfl, by rw [bl_bl]; exact q F2 H2 (Grow.refl s)⟩
theorem t_eqS {x y : Str} (ha : EvE X a σ F rStr x) (hb : EvE X b σ F rStr y) : EvT X (.Compare a [.Eq] [b] pos) σ F (decide (x = y)) :=
  t_cmp op_eq (nomark _) ha hb fun F2 H2 v u _ s e1 e2 Q q => by subst e1 e2; exact ⟨rfl, by rw [bl_str]; exact q F2 H2 (Grow.refl s)⟩
theorem t_neS {x y : Str} (ha : EvE X a σ F rStr x) (hb : EvE X b σ F rStr y) : EvT X (.Compare a [.NotEq] [b] pos) σ F (!decide (x = y)) :=
  t_cmp op_ne (nomark _) ha hb fun F2 H2 v u _ s e1 e2 Q q => by subst e1 e2; exact ⟨rfl, by rw [bl_str]; exact q F2 H2 (Grow.refl s)⟩
def isSm {α : Type} : Option α → Bool
  | none => false
  | some _ => true
theorem ropt_non {r : Rp α} {o : Option α} {F : Hp} {v : V} (hr : ∀ F v x, r F v x → v ≠ .non) (h : rOpt r F v o) : decide (v = .non) = !isSm o := by
  cases o with
  | none => have h : v = .non := h; subst h; rfl
  | some x => exact decide_eq_false (hr F v x h)
theorem t_isN {r : Rp α} {o : Option α} [Mono r] {j : Nat} {p2 : Pos} (ha : EvE X a σ F (rOpt r) o) (hr : ∀ F v x, r F v x → v ≠ .non) : EvT X (.Compare a [.Is] [.Constant .none j p2] pos) σ F (!isSm o) :=
  t_cmp op_isN (nomark _) ha e_non fun F2 H2 v u _ s e1 e2 Q q => ⟨e2, by rw [ropt_non hr e1]; exact q F2 H2 (Grow.refl s)⟩
theorem t_notN {r : Rp α} {o : Option α} [Mono r] {j : Nat} {p2 : Pos} (ha : EvE X a σ F (rOpt r) o) (hr : ∀ F v x, r F v x → v ≠ .non) : EvT X (.Compare a [.IsNot] [.Constant .none j p2] pos) σ F (isSm o) :=
  t_cmp op_notN (nomark _) ha e_non fun F2 H2 v u _ s e1 e2 Q q => ⟨e2, by rw [ropt_non hr e1, Bool.not_not]; exact q F2 H2 (Grow.refl s)⟩
theorem e_isN {r : Rp α} {o : Option α} [Mono r] {j : Nat} {p2 : Pos} (ha : EvE X a σ F (rOpt r) o) (hr : ∀ F v x, r F v x → v ≠ .non) : EvE X (.Compare a [.Is] [.Constant .none j p2] pos) σ F rBool (!isSm o) :=
  e_cmp op_isN (nomark _) ha e_non fun F2 H2 v u _ s e1 e2 Q q => ⟨e2, by rw [ropt_non hr e1]; exact q _ F2 H2 (Grow.refl s) rfl⟩
theorem int_non : ∀ (F : Hp) (v : V) (x : Int), rInt F v x → v ≠ .non := fun _ _ _ h e => by cases h; cases e

theorem t_val {x : Bool} (ha : EvE X a σ F rBool x) (he : ∀ whole, PySem.isTrue a X.env whole = (do let v ← whole; standAt a.pos; holding [v] (truthy v)) := by intro _; rfl) : EvT X a σ F x := fun F1 H1 s1 s2 Q q =>
  wt_of (pt_val pe_w he) (ha F1 H1 s1 s2 _ fun v F2 H2 g r => ⟨x, r, q F2 H2 g⟩)
theorem t_not {x : Bool} (ha : EvT X a σ F x) : EvT X (.UnaryOp .Not a pos) σ F (!x) := fun F1 H1 s1 s2 Q q => wt_of (pt_not pt_w) (ha F1 H1 s1 s2 _ fun F2 H2 g => q F2 H2 g)
def wW (X : Cx) (e : Expr) : TT := fun σ H Q => ∃ t, PW X e t ∧ t σ H Q
theorem pw_w' {e : Expr} : PW X e (wW X e) := ⟨fun whole pins s σ H Q I h => by obtain ⟨t, p, q⟩ := h; exact p.run whole pins s σ H Q I q⟩
/-- a row of and, or -/
def EvW (X : Cx) (e : Expr) (σ : L2.St) (F : Hp) (b : Bool) : Prop :=
  ∀ F1 H1, Same F F1 → Same F1 H1 → ∀ Q : Bool → Hp → Prop, (∀ F2 H2, Grow F1 H1 F2 H2 → Q b H2) → wW X e σ H1 Q
theorem bt {x : Bool} (h : EvW X e σ F x) : EvT X e σ F x := fun F1 H1 s1 s2 Q q => wt_of (PW.pt pw_w') (h F1 H1 s1 s2 Q q)
theorem band1 {x : Bool} (ha : EvT X a σ F x) : EvW X (.BoolOp .And [a] pos) σ F x := fun F1 H1 s1 s2 Q q => ⟨_, pw_and1 pt_w, ha F1 H1 s1 s2 Q q⟩
theorem bor1 {x : Bool} (ha : EvT X a σ F x) : EvW X (.BoolOp .Or [a] pos) σ F x := fun F1 H1 s1 s2 Q q => ⟨_, pw_or1 pt_w, ha F1 H1 s1 s2 Q q⟩
theorem band {x y : Bool} {rest : List Expr} (ha : EvT X a σ F x) (hb : x = true → EvW X (.BoolOp .And (b :: rest) pos) σ F y) : EvW X (.BoolOp .And (a :: b :: rest) pos) σ F (x && y) := fun F1 H1 s1 s2 Q q =>
  ⟨_, pw_and pt_w pw_w', ha F1 H1 s1 s2 _ fun F2 H2 g => by
    cases x with
    | true => exact hb rfl F2 H2 (s1.trans g.f) g.s _ fun F3 H3 g3 => q F3 H3 (g.trans g3)
    | false => exact q F2 H2 g⟩
theorem bor {x y : Bool} {rest : List Expr} (ha : EvT X a σ F x) (hb : x = false → EvW X (.BoolOp .Or (b :: rest) pos) σ F y) : EvW X (.BoolOp .Or (a :: b :: rest) pos) σ F (x || y) := fun F1 H1 s1 s2 Q q =>
  ⟨_, pw_or pt_w pw_w', ha F1 H1 s1 s2 _ fun F2 H2 g => by
    cases x with
    | true => exact q F2 H2 g
    | false => exact hb rfl F2 H2 (s1.trans g.f) g.s _ fun F3 H3 g3 => q F3 H3 (g.trans g3)⟩
theorem e_ifx {r : Rp α} {t : Bool} {x : α} (hc : EvT X c σ F t) (ha : t = true → EvE X a σ F r x) (hb : t = false → EvE X b σ F r x) : EvE X (.IfExp c a b pos) σ F r x := fun F1 H1 s1 s2 Q q =>
  we_of (pe_ifExp pt_w pe_w pe_w) (hc F1 H1 s1 s2 _ fun F2 H2 g => by
    cases t with
    | true => exact ha rfl F2 H2 (s1.trans g.f) g.s _ fun v F3 H3 g3 r => q v F3 H3 (g.trans g3) r
    | false => exact hb rfl F2 H2 (s1.trans g.f) g.s _ fun v F3 H3 g3 r => q v F3 H3 (g.trans g3) r)
theorem e_one {r : Rp α} {x : α} {op : BoolOp} (ha : EvE X a σ F r x) : EvE X (.BoolOp op [a] pos) σ F r x := fun F1 H1 s1 s2 Q q => we_of (pe_one pe_w) (ha F1 H1 s1 s2 Q q)
theorem e_and {x y : Bool} {rest : List Expr} (ha : EvE X a σ F rBool x) (hb : x = true → EvE X (.BoolOp .And (b :: rest) pos) σ F rBool y) : EvE X (.BoolOp .And (a :: b :: rest) pos) σ F rBool (x && y) := fun F1 H1 s1 s2 Q q =>
  we_of (pe_and pe_w pe_w) (ha F1 H1 s1 s2 _ fun v F2 H2 g r => ⟨x, r, by
    cases x with
    | true => exact hb rfl F2 H2 (s1.trans g.f) g.s _ fun v F3 H3 g3 r => q v F3 H3 (g.trans g3) r
    | false => exact q _ F2 H2 g rfl⟩)
theorem e_or {x y : Bool} {rest : List Expr} (ha : EvE X a σ F rBool x) (hb : x = false → EvE X (.BoolOp .Or (b :: rest) pos) σ F rBool y) : EvE X (.BoolOp .Or (a :: b :: rest) pos) σ F rBool (x || y) := fun F1 H1 s1 s2 Q q =>
  we_of (pe_or pe_w pe_w) (ha F1 H1 s1 s2 _ fun v F2 H2 g r => ⟨x, r, by
    cases x with
    | true => exact q _ F2 H2 g rfl
    | false => exact hb rfl F2 H2 (s1.trans g.f) g.s _ fun v F3 H3 g3 r => q v F3 H3 (g.trans g3) r⟩)
theorem e_not {x : Bool} (ha : EvE X a σ F rBool x) : EvE X (.UnaryOp .Not a pos) σ F rBool (!x) := fun F1 H1 s1 s2 Q q =>
  we_of (pe_not pe_w) (ha F1 H1 s1 s2 _ fun v F2 H2 g r => ⟨x, r, q _ F2 H2 g rfl⟩)

/-! rows of values -/
def aN : Ar Unit := fun _ vs _ => vs = []
def aC (r : Rp α) (t : Ar β) : Ar (α × β) := fun F vs p => ∃ v us, vs = v :: us ∧ r F v p.1 ∧ t F us p.2
/-- many of one sort -/
def aL (r : Rp α) : Ar (List α) := fun F vs xs => Paired (r F) vs xs
instance : MonoA aN := ⟨fun _ h => h⟩
instance {r : Rp α} {t : Ar β} [Mono r] [MonoA t] : MonoA (aC r t) := ⟨fun s h => by
  obtain ⟨v, us, e, h1, h2⟩ := h
  exact ⟨v, us, e, Mono.mono s h1, MonoA.mono s h2⟩⟩
theorem ea_nil : EvA X [] σ F aN () := fun F1 H1 s1 s2 Q q => wa_of pa_nil (q _ F1 H1 (Grow.refl s2) rfl)
theorem ea_cons {es : List Expr} {r : Rp α} {t : Ar β} {x : α} {y : β} [Mono r] (ha : EvE X a σ F r x) (hb : EvA X es σ F t y) (hs : starEach (a :: es) X.env = (false, eval a X.env) :: starEach es X.env := by rfl) : EvA X (a :: es) σ F (aC r t) (x, y) := fun F1 H1 s1 s2 Q q =>
  wa_of (pa_cons pe_w pa_w hs) (ha F1 H1 s1 s2 _ fun v F2 H2 g2 r2 => hb F2 H2 (s1.trans g2.f) g2.s _ fun vs F3 H3 g3 r3 => q _ F3 H3 (g2.trans g3) ⟨v, vs, rfl, Mono.mono g3.f r2, r3⟩)
theorem el_nil {r : Rp α} : EvA X [] σ F (aL r) [] := fun F1 H1 s1 s2 Q q => wa_of pa_nil (q _ F1 H1 (Grow.refl s2) .nil)
theorem el_cons {es : List Expr} {r : Rp α} {x : α} {xs : List α} [Mono r] (ha : EvE X a σ F r x) (hb : EvA X es σ F (aL r) xs) (hs : starEach (a :: es) X.env = (false, eval a X.env) :: starEach es X.env := by rfl) : EvA X (a :: es) σ F (aL r) (x :: xs) := fun F1 H1 s1 s2 Q q =>
  wa_of (pa_cons pe_w pa_w hs) (ha F1 H1 s1 s2 _ fun v F2 H2 g2 r2 => hb F2 H2 (s1.trans g2.f) g2.s _ fun vs F3 H3 g3 r3 => q _ F3 H3 (g2.trans g3) (.cons (Mono.mono g3.f r2) r3))
theorem paired_len {R : α → β → Prop} : ∀ {xs : List α} {ys : List β}, Paired R xs ys → xs.length = ys.length
  | _, _, .nil => rfl
  | _, _, .cons _ t => congrArg (· + 1) (paired_len t)
theorem paired_at {R : α → β → Prop} : ∀ {xs : List α} {ys : List β} {i : Nat} {y : β}, Paired R xs ys → ys[i]? = some y → ∃ x, xs[i]? = some x ∧ R x y
  | _, _, i, y, .nil, h => by simp at h
  | _, _, 0, y, .cons h t, e => by simp at e; subst e; exact ⟨_, rfl, h⟩
  | _, _, i + 1, y, .cons h t, e => by
    obtain ⟨x, h1, h2⟩ := paired_at (i := i) t (by simpa using e)
    exact ⟨x, by simpa using h1, h2⟩
theorem sz_le {n : Nat} (h : n ≤ 100000) : n ≤ sizeLine := Nat.le_trans h (by decide)
theorem e_lst {es : List Expr} {r : Rp α} {xs : List α} [Mono r] (h : EvA X es σ F (aL r) xs) (hl : xs.length ≤ 100000 := by decide) : EvE X (.List es pos) σ F (rLst X.K r) xs := fun F1 H1 s1 s2 Q q =>
  we_of (pe_lst pa_w) (h F1 H1 s1 s2 _ fun vs F2 H2 g2 r2 => ⟨by rw [paired_len r2]; exact sz_le hl, fun p hp =>
    q _ _ _ (g2.trans (Grow.new g2.s hp)) ⟨p, vs, rfl, .inl (.inl upd_same), paired_mono (fun _ _ => Mono.mono (same_new (g2.s.free hp))) r2⟩⟩)
theorem e_tupL {es : List Expr} {k : Nat} {r : Rp α} {xs : List α} [Mono r] (h : EvA X es σ F (aL r) xs) (hl : xs.length ≤ 100000 := by decide) : EvE X (.Tuple es k pos) σ F (rTup X.K r) xs := fun F1 H1 s1 s2 Q q =>
  we_of (pe_tup pa_w) (h F1 H1 s1 s2 _ fun vs F2 H2 g2 r2 => ⟨by rw [paired_len r2]; exact sz_le hl, fun p hp =>
    q _ _ _ (g2.trans (Grow.new g2.s hp)) ⟨p, vs, rfl, .inl (.inl upd_same), paired_mono (fun _ _ => Mono.mono (same_new (g2.s.free hp))) r2⟩⟩)
theorem e_t2 {k : Nat} {r : Rp α} {r' : Rp β} {x : α} {y : β} [Mono r] [Mono r'] (h : EvA X [a, b] σ F (aC r (aC r' aN)) (x, y, ())) : EvE X (.Tuple [a, b] k pos) σ F (rT2 X.K r r') (x, y) := fun F1 H1 s1 s2 Q q =>
  we_of (pe_tup pa_w) (h F1 H1 s1 s2 _ fun vs F2 H2 g2 r2 => by
    obtain ⟨v1, u1, rfl, h1, v2, u2, rfl, h2, rfl⟩ := r2
    exact ⟨sz_le (show 2 ≤ 100000 by decide), fun p hp => q _ _ _ (g2.trans (Grow.new g2.s hp)) ⟨p, v1, v2, rfl, .inl (.inl upd_same), Mono.mono (same_new (g2.s.free hp)) h1, Mono.mono (same_new (g2.s.free hp)) h2⟩⟩)
theorem e_t3 {k : Nat} {r : Rp α} {r' : Rp β} {r'' : Rp γ} {x : α} {y : β} {z : γ} [Mono r] [Mono r'] [Mono r''] (h : EvA X [a, b, c] σ F (aC r (aC r' (aC r'' aN))) (x, y, z, ())) : EvE X (.Tuple [a, b, c] k pos) σ F (rT3 X.K r r' r'') (x, y, z) := fun F1 H1 s1 s2 Q q =>
  we_of (pe_tup pa_w) (h F1 H1 s1 s2 _ fun vs F2 H2 g2 r2 => by
    obtain ⟨v1, u1, rfl, h1, v2, u2, rfl, h2, v3, u3, rfl, h3, rfl⟩ := r2
    exact ⟨sz_le (show 3 ≤ 100000 by decide), fun p hp => q _ _ _ (g2.trans (Grow.new g2.s hp)) ⟨p, v1, v2, v3, rfl, .inl (.inl upd_same), Mono.mono (same_new (g2.s.free hp)) h1, Mono.mono (same_new (g2.s.free hp)) h2, Mono.mono (same_new (g2.s.free hp)) h3⟩⟩)
end
end Fw

namespace Fw
open PySem PySem.Spec PyProof.Rows L2

/-! ### statements -/
section
variable {X : Cx} {σ : L2.St} {F F' H : Hp} {α β γ : Type} {pos : Pos} {a b c e : Expr} {rest A B : List Stmt} {D : Ends}
theorem s_nil (h : D.nx σ H) : wS X [] D σ H := ws_of pss_nil h
theorem ws_seq {st : Stmt} {t : TS} (hp : PS X st t) (h : t { D with nx := wS X rest D } σ H) : wS X (st :: rest) D σ H := ws_of (pss_cons hp pss_w) h
theorem s_set {r : Rp α} {x : α} {n : Str} {pos' : Pos} (i : Nat) (nd : X.N.Nodup) (he : EvE X e σ F r x) (s : Same F H) (k : ∀ v F2 H2, Grow F H F2 H2 → r F2 v x → wS X rest D (σ.set i (some v)) H2)
    (hi : X.N[i]? = some n := by rfl) (hx : Loc X.env.scope n := by first | exact Or.inl rfl | exact Or.inr rfl) (hs : swapsWith e (some (.Name n pos')) pos.line X.env = pure false := by rfl)
    (hf : X.fn n = true ∨ X.env.scope.names.lookup n = some .local := by first | exact .inl rfl | exact .inr rfl) : wS X (.Assign [.Name n pos'] e pos :: rest) D σ H :=
  ws_seq (ps_set (i := i) nd hi hx pe_w hs hf) (he.go s fun v F2 H2 g r2 => k v F2 H2 g r2)
theorem s_setI {x : Int} {n : Str} {pos' : Pos} (i : Nat) (nd : X.N.Nodup) (he : EvE X e σ F rInt x) (s : Same F H) (k : ∀ F2 H2, Grow F H F2 H2 → wS X rest D (σ.set i (some (.int x))) H2)
    (hi : X.N[i]? = some n := by rfl) (hx : Loc X.env.scope n := by first | exact Or.inl rfl | exact Or.inr rfl) (hs : swapsWith e (some (.Name n pos')) pos.line X.env = pure false := by rfl)
    (hf : X.fn n = true ∨ X.env.scope.names.lookup n = some .local := by first | exact .inl rfl | exact .inr rfl) : wS X (.Assign [.Name n pos'] e pos :: rest) D σ H :=
  s_set i nd he s (fun v F2 H2 g r => by cases r; exact k F2 H2 g) hi hx hs hf
/-- the same, for any way to the value -/
theorem sw_set {n : Str} {pos' : Pos} (i : Nat) (nd : X.N.Nodup) (he : wE X e σ H fun v H2 => wS X rest D (σ.set i (some v)) H2)
    (hi : X.N[i]? = some n := by rfl) (hx : Loc X.env.scope n := by first | exact Or.inl rfl | exact Or.inr rfl) (hs : swapsWith e (some (.Name n pos')) pos.line X.env = pure false := by rfl)
    (hf : X.fn n = true ∨ X.env.scope.names.lookup n = some .local := by first | exact .inl rfl | exact .inr rfl) : wS X (.Assign [.Name n pos'] e pos :: rest) D σ H :=
  ws_seq (ps_set (i := i) nd hi hx pe_w hs hf) he
theorem s_ret {r : Rp α} {x : α} (he : EvE X e σ F r x) (s : Same F H) (k : ∀ v F2 H2, Grow F H F2 H2 → r F2 v x → D.rt v H2) : wS X (.Return (some e) pos :: rest) D σ H :=
  ws_of (pss_cons (ps_ret pe_w) pss_never) (he.go s fun v F2 H2 g r2 => k v F2 H2 g r2)
theorem sw_ret (he : wE X e σ H D.rt) : wS X (.Return (some e) pos :: rest) D σ H := ws_of (pss_cons (ps_ret pe_w) pss_never) he
theorem s_if {t : Bool} (hc : EvT X c σ F t) (s : Same F H) (ha : t = true → ∀ F2 H2, Grow F H F2 H2 → wS X A { D with nx := wS X rest D } σ H2) (hb : t = false → ∀ F2 H2, Grow F H F2 H2 → wS X B { D with nx := wS X rest D } σ H2) :
    wS X (.If c A B pos :: rest) D σ H :=
  ws_seq (ps_if pt_w pss_w pss_w) (hc.go s fun F2 H2 g => by
    cases t with
    | true => exact ha rfl F2 H2 g
    | false => exact hb rfl F2 H2 g)
theorem sw_if (hc : wT X c σ H fun t H2 => if t = true then wS X A { D with nx := wS X rest D } σ H2 else wS X B { D with nx := wS X rest D } σ H2) : wS X (.If c A B pos :: rest) D σ H :=
  ws_seq (ps_if pt_w pss_w pss_w) hc
theorem s_expr {r : Rp α} {x : α} (he : EvE X e σ F r x) (s : Same F H) (k : ∀ F2 H2, Grow F H F2 H2 → wS X rest D σ H2) (hs : swapsWith e none pos.line X.env = pure false := by rfl) : wS X (.Expr e pos :: rest) D σ H :=
  ws_seq (ps_expr pe_w hs) (he.go s fun v F2 H2 g r2 => k F2 H2 g)
theorem sw_expr (he : wE X e σ H fun _ H2 => wS X rest D σ H2) (hs : swapsWith e none pos.line X.env = pure false := by rfl) : wS X (.Expr e pos :: rest) D σ H :=
  ws_seq (ps_expr pe_w hs) he
theorem s_while (W : Nat → L2.St → Hp → Prop) (m0 : Nat) (h0 : W m0 σ H) (hp : PassesOwn (model X.prog X.w) X.A X.env X.xe)
    (turn : ∀ m σ H, W m σ H → ∃ t F, Same F H ∧ EvT X c σ F t ∧ (t = true → ∀ F2 H2, Grow F H F2 H2 → wS X A { D with nx := fun σ' H' => ∃ m', m' < m ∧ W m' σ' H', ct := fun σ' H' => ∃ m', m' < m ∧ W m' σ' H', bk := wS X rest D } σ H2) ∧
      (t = false → ∀ F2 H2, Grow F H F2 H2 → wS X rest D σ H2)) : wS X (.While c A [] pos :: rest) D σ H := by
  refine ws_seq (ps_while hp pt_w pss_w) ⟨W, ⟨m0, h0⟩, fun m σ1 H1 w => ?_⟩
  obtain ⟨t, F, s, hc, h1, h2⟩ := turn m σ1 H1 w
  refine hc.go s fun F2 H2 g => ?_
  cases t with
  | true => exact ⟨_, fun _ _ q => q, h1 rfl F2 H2 g⟩
  | false => exact h2 rfl F2 H2 g
/-- a, b = x, y (plain local names) -/
theorem s_par2 {r : Rp α} {r' : Rp β} {x : α} {y : β} {n m : Str} {px py pt pt2 : Pos} {kt k2 : Nat} (i j : Nat) (nd : X.N.Nodup) (he : EvA X [a, b] σ F (aC r (aC r' aN)) (x, y, ())) (s : Same F H)
    (k : ∀ v u F2 H2, Grow F H F2 H2 → r F2 v x → r' F2 u y → wS X rest D ((σ.set i (some v)).set j (some u)) H2)
    (hc : X.calm = true := by rfl) (hi : X.N[i]? = some n := by rfl) (hj : X.N[j]? = some m := by rfl) (hij : i ≠ j := by decide)
    (hx : X.env.scope.names.lookup n = some .local := by rfl) (hy : X.env.scope.names.lookup m = some .local := by rfl)
    (hw : swappedStores [.Tuple [.Name n px, .Name m py] kt pt] (.Tuple [a, b] k2 pt2) X.env = pure (some [n, m]) := by rfl)
    (hs : swapsWithSole [.Tuple [.Name n px, .Name m py] kt pt] (.Tuple [a, b] k2 pt2) pos.line X.env = pure false := by rfl) :
    wS X (.Assign [.Tuple [.Name n px, .Name m py] kt pt] (.Tuple [a, b] k2 pt2) pos :: rest) D σ H :=
  ws_seq (ps_par hc nd hi hj hij hx hy pa_w hw hs) (he.go s fun vs F2 H2 g r2 => by
    obtain ⟨v1, u1, rfl, h1, v2, u2, rfl, h2, rfl⟩ := r2
    exact ⟨v1, v2, rfl, k v1 v2 F2 H2 g h1 h2⟩)
theorem sw_par2 {n m : Str} {px py pt pt2 : Pos} {kt k2 : Nat} (i j : Nat) (nd : X.N.Nodup) (he : wA X [a, b] σ H fun vs H2 => ∃ v u, vs = [v, u] ∧ wS X rest D ((σ.set i (some v)).set j (some u)) H2)
    (hc : X.calm = true := by rfl) (hi : X.N[i]? = some n := by rfl) (hj : X.N[j]? = some m := by rfl) (hij : i ≠ j := by decide)
    (hx : X.env.scope.names.lookup n = some .local := by rfl) (hy : X.env.scope.names.lookup m = some .local := by rfl)
    (hw : swappedStores [.Tuple [.Name n px, .Name m py] kt pt] (.Tuple [a, b] k2 pt2) X.env = pure (some [n, m]) := by rfl)
    (hs : swapsWithSole [.Tuple [.Name n px, .Name m py] kt pt] (.Tuple [a, b] k2 pt2) pos.line X.env = pure false := by rfl) :
    wS X (.Assign [.Tuple [.Name n px, .Name m py] kt pt] (.Tuple [a, b] k2 pt2) pos :: rest) D σ H :=
  ws_seq (ps_par hc nd hi hj hij hx hy pa_w hw hs) he
/-- a, b, .. = x, y, .. by a tuple -/
theorem sw_parT {ts es : List Expr} {kt k2 : Nat} {pt pt2 : Pos} {g : TGs} {n : Nat} (hg : PGs X ts g) (he : wA X es σ H fun vs H2 => vs.length = n ∧ ∀ H3, Same H2 H3 → g vs σ H3 fun σ' H' => wS X rest D σ' H')
    (hl : n ≤ 1000 := by decide) (hc : X.calm = true := by rfl) (hn : (assignEach ts X.env).length = n := by rfl) (hst : (assignEach ts X.env).findIdx? (·.1) = none := by rfl)
    (hs : swapsWithSole [.Tuple ts kt pt] (.Tuple es k2 pt2) pos.line X.env = pure false := by rfl) (hw : swappedStores [.Tuple ts kt pt] (.Tuple es k2 pt2) X.env = pure none := by rfl)
    (h1 : (assignEach [.Tuple ts kt pt] X.env).map (·.2) = [assign (.Tuple ts kt pt) X.env] := by rfl) : wS X (.Assign [.Tuple ts kt pt] (.Tuple es k2 pt2) pos :: rest) D σ H := by
  refine ws_seq (ps_asg (pe_tup pa_w) (pg_tup hc hg hn hst) hs hw h1) ?_
  show wA X es σ H _
  refine fun pos pins s I => thn (he pos pins s I) fun us s2 ⟨vs, H2, I2, r, q1, q2⟩ => ⟨vs, H2, I2, r, ?_⟩
  refine ⟨by rw [q1]; exact sz_le (by omega), fun p hp => ?_⟩
  exact ⟨p, vs, rfl, .inl (.inl upd_same), q1, q2 _ (same_new hp)⟩
end

/-! ### what a def promises -/
/-- room for k calls, and nothing is being shown -/
structure Rm (k : Nat) (A : Around) : Prop where
  room : Room k A
  gd : A.guards = some []
theorem Rm.mono {j k : Nat} {A : Around} (r : Rm k A) (h : j ≤ k) : Rm j A := ⟨r.room.mono h, r.gd⟩
theorem Rm.units {k : Nat} {A : Around} (r : Rm k A) : A.units + 64 < cLine := r.room.units
/-- the def at f keeps sp, called where nothing is being shown -/
def FnG (P : Program) (w : World) (K : PySem.W.Frag) (mg : Str → Option Value) (base : Heap) (CX : CXT) (k : Nat) (f : Addr) (fd : FuncData) (ps : List Str) (sp : Sp) : Prop :=
  (∀ vs H Q E, sp vs H Q E → vs.length = ps.length) ∧
  ∀ (A : Around) (outer : List Env) (s : Shared) (H : Hp) (args : Args) (us : List Value) (vs : List V) (Q : VK) (E : XK), Rm k A → Env0 P w K mg base A outer s H →
    BindsTo s fd args (ps.zip us) → Vals vs us → sp vs H Q E → codeAny (model P w) A (.call (.ref f) args) (CR CX outer P w H s Q E) s
/-- a body's walk makes the promise -/
theorem FnG.of_body {P : Program} {w : World} {K : PySem.W.Frag} {mg : Str → Option Value} {base : Heap} {CX : CXT} {k : Nat} {f : Addr} {n qual : Str} {st : Stmt} {fd : FuncData} {N ps : List Str} {sp : Sp}
    (F : Fun K n qual st f fd) (S : FnScope N ps (defScope st)) (len : ∀ vs H Q E, sp vs H Q E → vs.length = ps.length)
    (body : ∀ (cdv : Value) (A : Around) (outer : List Env) (s : Shared) (H : Hp) (vs : List V) (Q : VK) (E : XK), Rm k (A.deeper (envOfC qual (defScope st) s.heap.objs.size f cdv)) → sp vs H Q E →
      wS (cxOf CX P w K mg base N qual (defScope st) f cdv A outer s H E) (defBody st) { nx := fun _ H' => Q .non H', rt := Q } (start N vs) H) : FnG P w K mg base CX (k + 1) f fd ps sp := by
  refine ⟨len, fun A outer s H args us vs Q E hr e0 hb rv hsp => ?_⟩
  obtain ⟨oc, od, kV, doc, pm, an, cdv, ct, osl, rfl, lk, hcd⟩ := F.ex
  have hin : K.In s.heap := e0.mod.kin.keeps fun b o z => (e0.bs b o z).1
  have hlim : s.heap.NoLimit := e0.mod.nolimit.keeps fun b o z => (e0.bs b o z).1
  -- each parameter is a local name, or a cell that is made
  have hpar : ∀ y ∈ ps.zip us, (defScope st).names.lookup y.1 = some .local ∨ ((defScope st).names.lookup y.1 = some .cell ∧ ((cellsFrom (s.heap.objs.size + 1) (defScope st).names []).lookup y.1).isSome = true) := by
    rintro ⟨y, v⟩ hy
    exact (S.par y (List.of_mem_zip hy).1).imp (fun q => q) (fun q => ⟨q, PySem.W.cellsFrom_some _ _ _ (.inl q)⟩)
  have hbd := hb
  refine codeAny_call_function hr.room.depth (hin _ _ lk) rfl S.co S.gen rfl (PySem.W.codeRec_of hin hcd) (hbd _ _ _ _ ?_)
  refine wpAny_newFunctionEnv_cells S.kind hpar (fun env he s1 x => ?_)
  subst he
  refine ⟨hlim.keeps x.toInCall.keep, codeAny_func ?_⟩
  have J : L2.Inv (cxOf CX P w K mg base N qual (defScope st) f cdv A outer s H E) [] (start N vs) H s1 := inv_start S hr.room.hd e0 (len _ _ _ _ hsp) rv x
  have deep : Rm k (A.deeper (envOfC qual (defScope st) s.heap.objs.size f cdv)) := ⟨hr.room.deeper _, hr.gd⟩
  refine wpAny_mono (body cdv A outer s H vs Q E deep hsp [] s1 J) (fun fl s' hs => ?_) (fun e s' hs => hs)
  cases fl with
  | ret u => obtain ⟨v, σ', H', J', r', q⟩ := hs; exact ⟨v, H', J'.os, J'.bare, J'.base, J'.hok, r', q⟩
  | next => obtain ⟨σ', H', J', q⟩ := hs; exact ⟨V.non, H', J'.os, J'.bare, J'.base, J'.hok, rfl, q⟩
  | brk => obtain ⟨_, _, _, q⟩ := hs; exact q.elim
  | cont => obtain ⟨_, _, _, q⟩ := hs; exact q.elim
def Def (K : PySem.W.Frag) (mg : Str → Option Value) (n : Str) (st : Stmt) (ps : List Str) : Prop :=
  ∃ f fd, Fun K n n st f fd ∧ mg n = some (.ref f) ∧ Binds K fd ps []
/-- the def n keeps sp, by level k -/
def Cal (P : Program) (w : World) (K : PySem.W.Frag) (mg : Str → Option Value) (base : Heap) (k : Nat) (n : Str) (ps : List Str) (sp : Sp) : Prop :=
  ∃ f fd, FnG P w K mg base CX0 k f fd ps sp ∧ mg n = some (.ref f) ∧ PySem.W.keepIn K (.ref f) = true ∧ Binds K fd ps [] ∧ ∃ oc od osl, K.lookup f = some ⟨oc, od, .func fd, osl⟩
theorem Def.cal {P : Program} {w : World} {K : PySem.W.Frag} {mg : Str → Option Value} {base : Heap} {n : Str} {st : Stmt} {ps N : List Str} (k : Nat) {sp : Sp} (d : Def K mg n st ps) (S : FnScope N ps (defScope st)) (len : ∀ vs H Q E, sp vs H Q E → vs.length = ps.length)
    (hbody : ∀ (f : Addr) (cdv : Value) (A : Around) (outer : List Env) (s : Shared) (H : Hp) (vs : List V) (Q : VK) (E : XK), Rm k (A.deeper (envOfC n (defScope st) s.heap.objs.size f cdv)) → sp vs H Q E →
      wS (cxOf CX0 P w K mg base N n (defScope st) f cdv A outer s H E).nox (defBody st) { nx := fun _ H' => Q .non H', rt := Q } (start N vs) H) : Cal P w K mg base (k + 1) n ps sp := by
  obtain ⟨f, fd, h1, h2, h3⟩ := d
  have h1' := h1
  obtain ⟨⟨oc, od, kV, doc, pm, an, cdv, ct, osl, e, lk, _⟩, kp⟩ := h1'
  refine ⟨f, fd, FnG.of_body h1 S len fun cdv A outer s H vs Q E hr h => ?_, h2, kp, h3, oc, od, osl, lk⟩
  have t : PSs (cxOf CX0 P w K mg base N n (defScope st) f cdv A outer s H E).nox (defBody st) (wS (cxOf CX0 P w K mg base N n (defScope st) f cdv A outer s H E).nox (defBody st)) := pss_w
  exact ws_of t.nox (hbody f cdv A outer s H vs Q E hr h)
section
variable {X : Cx} {σ : L2.St} {F H : Hp} {α β γ : Type} {pos p : Pos} {es : List Expr} {a : Expr} {n : Str} {j k : Nat} {ps : List Str} {sp : Sp}
/-- behind the callee -/
theorem run_G {pins : List (Addr × Obj)} {s : Shared} {Q : VK} {E : XK} {CX : CXT} {f : Addr} {fd : FuncData} {args : Args} {us : List Value} {vs : List V} (G : FnG X.prog X.w X.K X.mg X.base CX j f fd ps sp) (hr : Rm j X.A) (hx : Passes CX X E)
    (I : L2.Inv X pins σ H s) (hb : BindsTo s fd args (ps.zip us)) (r : Vals vs us) (h : sp vs H Q E) : wpAny (model X.prog X.w) X.A (call (.ref f) args.pos args.kw) (EP X pins σ Q) X.xe s := by
  refine wpAny_call (codeAny_mono (G.2 X.A X.stack s H args us vs Q E hr I.env0 hb r h) (fun res s' hq => ?_))
  match res, hq with
  | .error e, hq => exact hx pins σ H s e s' I hq
  | .ok (.ret u), hq => exact I.after hq
theorem w_call {Q : VK} (C : Cal X.prog X.w X.K X.mg X.base j n ps sp) (hr : Rm k X.A) (h : wA X (a :: es) σ H fun vs H1 => sp vs H1 Q E0) (hjk : j ≤ k := by decide) (hg : Gl X n := by rfl) (hdb : (n == ("__debug__" : Str)) = false := by decide)
    (he : starEach (a :: es) X.env = (false, eval a X.env) :: starEach es X.env := by rfl) (hpl : (backTo pos (starEach es X.env)).any (·.1) = false := by rfl) : wE X (.Call (.Name n p) (a :: es) [] pos) σ H Q := by
  obtain ⟨f, fd, G, hm, hk, hb, _⟩ := C
  intro pins s I
  refine wpAny_Call_Name_kw (ld_glob I hg hm ?_ hdb)
  refine PySem.W.callWith_K (h₀ := X.base) I.ok.mod.kin hk (thn (h pos pins s I) fun us s1 ⟨vs, H1, I1, r, q⟩ => ⟨I1.kIn, ?_⟩) he hpl
  have hl : (us ++ []).length = ps.length := by rw [List.append_nil, ← r.length]; exact G.1 _ _ _ _ q
  have hb1 := hb s1 us I1.kIn hl
  rw [List.append_nil] at hb1
  exact run_G (args := ⟨us, []⟩) G (hr.mono hjk) pass0 I1 hb1 r q
/-- a promise about data: the arguments tell an a; where pre, the answer tells f a, and nothing changes -/
def spF (ar : Ar α) (ro : Rp β) (pre : α → Prop) (f : α → β) : Sp := fun vs H Q _ => ∃ F x, Same F H ∧ ar F vs x ∧ pre x ∧ ∀ v F' H', Grow F H F' H' → ro F' v (f x) → Q v H'
theorem e_callA {ar : Ar α} {ro : Rp β} {pre : α → Prop} {f : α → β} {x : α} (C : Cal X.prog X.w X.K X.mg X.base j n ps (spF ar ro pre f)) (hr : Rm k X.A) (h : EvA X (a :: es) σ F ar x) (hp : pre x) (hjk : j ≤ k := by decide) (hg : Gl X n := by rfl) (hdb : (n == ("__debug__" : Str)) = false := by decide)
    (he : starEach (a :: es) X.env = (false, eval a X.env) :: starEach es X.env := by rfl) (hpl : (backTo pos (starEach es X.env)).any (·.1) = false := by rfl) : EvE X (.Call (.Name n p) (a :: es) [] pos) σ F ro (f x) := fun F1 H1 s1 s2 Q q =>
  w_call C hr (h F1 H1 s1 s2 _ fun vs F2 H2 g r => ⟨F2, x, g.s, r, hp, fun v F3 H3 g3 r3 => q v F3 H3 (g.trans g3) r3⟩) hjk hg hdb he hpl
end
section
variable {α1 : Type} {β : Type}
def spF1 (r1 : Rp α1) (ro : Rp β) (pre : α1 → Prop) (f : α1 → β) : Sp := spF (aC r1 aN) ro (fun p => pre p.1) fun p => f p.1
theorem spF1_len {r1 : Rp α1} {ro : Rp β} {pre : α1 → Prop} {f : α1 → β} {vs : List V} {H : Hp} {Q : VK} {E : XK} (h : spF1 r1 ro pre f vs H Q E) : vs.length = 1 := by
  obtain ⟨F, x, _, h, _⟩ := h
  obtain ⟨v, us, rfl, _, rfl⟩ := h
  rfl
theorem spF1_open {r1 : Rp α1} {ro : Rp β} {pre : α1 → Prop} {f : α1 → β} {vs : List V} {H : Hp} {Q : VK} {E : XK} (h : spF1 r1 ro pre f vs H Q E) :
    ∃ F, Same F H ∧ ∃ x1 v1, vs = [v1] ∧ r1 F v1 x1 ∧ pre x1 ∧ ∀ v F' H', Grow F H F' H' → ro F' v (f x1) → Q v H' := by
  obtain ⟨F, x, s, h, hp, k⟩ := h
  obtain ⟨v1, us, rfl, h1, rfl⟩ := h
  exact ⟨F, s, x.1, v1, rfl, h1, hp, k⟩
theorem e_call1 {X : Cx} {σ : L2.St} {F : Hp} {pos p : Pos} {a1 : Expr} {n : Str} {j k : Nat} {ps : List Str} {r1 : Rp α1} {ro : Rp β} {pre : α1 → Prop} {f : α1 → β} {x1 : α1} [Mono r1]
    (C : Cal X.prog X.w X.K X.mg X.base j n ps (spF1 r1 ro pre f)) (hr : Rm k X.A) (h1 : EvE X a1 σ F r1 x1) (hp : pre x1) (hjk : j ≤ k := by decide) (hg : Gl X n := by rfl) (hdb : (n == ("__debug__" : Str)) = false := by decide)
    (hs1 : starEach [a1] X.env = (false, eval a1 X.env) :: starEach [] X.env := by rfl)
    (hpl : (backTo pos (starEach [] X.env)).any (·.1) = false := by rfl) : EvE X (.Call (.Name n p) [a1] [] pos) σ F ro (f x1) :=
  e_callA (ar := (aC r1 aN)) (pre := fun p => pre p.1) (f := fun p => f p.1) (x := (x1, ())) C hr (ea_cons (hs := hs1) h1 ea_nil) hp hjk hg hdb hs1 hpl
end
section
variable {α1 : Type} {α2 : Type} {β : Type}
def spF2 (r1 : Rp α1) (r2 : Rp α2) (ro : Rp β) (pre : α1 → α2 → Prop) (f : α1 → α2 → β) : Sp := spF (aC r1 (aC r2 aN)) ro (fun p => pre p.1 p.2.1) fun p => f p.1 p.2.1
theorem spF2_len {r1 : Rp α1} {r2 : Rp α2} {ro : Rp β} {pre : α1 → α2 → Prop} {f : α1 → α2 → β} {vs : List V} {H : Hp} {Q : VK} {E : XK} (h : spF2 r1 r2 ro pre f vs H Q E) : vs.length = 2 := by
  obtain ⟨F, x, _, h, _⟩ := h
  obtain ⟨v, us, rfl, _, ⟨v, us, rfl, _, rfl⟩⟩ := h
  rfl
theorem spF2_open {r1 : Rp α1} {r2 : Rp α2} {ro : Rp β} {pre : α1 → α2 → Prop} {f : α1 → α2 → β} {vs : List V} {H : Hp} {Q : VK} {E : XK} (h : spF2 r1 r2 ro pre f vs H Q E) :
    ∃ F, Same F H ∧ ∃ x1 x2 v1 v2, vs = [v1, v2] ∧ r1 F v1 x1 ∧ r2 F v2 x2 ∧ pre x1 x2 ∧ ∀ v F' H', Grow F H F' H' → ro F' v (f x1 x2) → Q v H' := by
  obtain ⟨F, x, s, h, hp, k⟩ := h
  obtain ⟨v1, us, rfl, h1, ⟨v2, us, rfl, h2, rfl⟩⟩ := h
  exact ⟨F, s, x.1, x.2.1, v1, v2, rfl, h1, h2, hp, k⟩
theorem e_call2 {X : Cx} {σ : L2.St} {F : Hp} {pos p : Pos} {a1 a2 : Expr} {n : Str} {j k : Nat} {ps : List Str} {r1 : Rp α1} {r2 : Rp α2} {ro : Rp β} {pre : α1 → α2 → Prop} {f : α1 → α2 → β} {x1 : α1} {x2 : α2} [Mono r1] [Mono r2]
    (C : Cal X.prog X.w X.K X.mg X.base j n ps (spF2 r1 r2 ro pre f)) (hr : Rm k X.A) (h1 : EvE X a1 σ F r1 x1) (h2 : EvE X a2 σ F r2 x2) (hp : pre x1 x2) (hjk : j ≤ k := by decide) (hg : Gl X n := by rfl) (hdb : (n == ("__debug__" : Str)) = false := by decide)
    (hs1 : starEach [a1, a2] X.env = (false, eval a1 X.env) :: starEach [a2] X.env := by rfl) (hs2 : starEach [a2] X.env = (false, eval a2 X.env) :: starEach [] X.env := by rfl)
    (hpl : (backTo pos (starEach [a2] X.env)).any (·.1) = false := by rfl) : EvE X (.Call (.Name n p) [a1, a2] [] pos) σ F ro (f x1 x2) :=
  e_callA (ar := (aC r1 (aC r2 aN))) (pre := fun p => pre p.1 p.2.1) (f := fun p => f p.1 p.2.1) (x := (x1, x2, ())) C hr (ea_cons (hs := hs1) h1 (ea_cons (hs := hs2) h2 ea_nil)) hp hjk hg hdb hs1 hpl
end
section
variable {α1 : Type} {α2 : Type} {α3 : Type} {β : Type}
def spF3 (r1 : Rp α1) (r2 : Rp α2) (r3 : Rp α3) (ro : Rp β) (pre : α1 → α2 → α3 → Prop) (f : α1 → α2 → α3 → β) : Sp := spF (aC r1 (aC r2 (aC r3 aN))) ro (fun p => pre p.1 p.2.1 p.2.2.1) fun p => f p.1 p.2.1 p.2.2.1
theorem spF3_len {r1 : Rp α1} {r2 : Rp α2} {r3 : Rp α3} {ro : Rp β} {pre : α1 → α2 → α3 → Prop} {f : α1 → α2 → α3 → β} {vs : List V} {H : Hp} {Q : VK} {E : XK} (h : spF3 r1 r2 r3 ro pre f vs H Q E) : vs.length = 3 := by
  obtain ⟨F, x, _, h, _⟩ := h
  obtain ⟨v, us, rfl, _, ⟨v, us, rfl, _, ⟨v, us, rfl, _, rfl⟩⟩⟩ := h
  rfl
theorem spF3_open {r1 : Rp α1} {r2 : Rp α2} {r3 : Rp α3} {ro : Rp β} {pre : α1 → α2 → α3 → Prop} {f : α1 → α2 → α3 → β} {vs : List V} {H : Hp} {Q : VK} {E : XK} (h : spF3 r1 r2 r3 ro pre f vs H Q E) :
    ∃ F, Same F H ∧ ∃ x1 x2 x3 v1 v2 v3, vs = [v1, v2, v3] ∧ r1 F v1 x1 ∧ r2 F v2 x2 ∧ r3 F v3 x3 ∧ pre x1 x2 x3 ∧ ∀ v F' H', Grow F H F' H' → ro F' v (f x1 x2 x3) → Q v H' := by
  obtain ⟨F, x, s, h, hp, k⟩ := h
  obtain ⟨v1, us, rfl, h1, ⟨v2, us, rfl, h2, ⟨v3, us, rfl, h3, rfl⟩⟩⟩ := h
  exact ⟨F, s, x.1, x.2.1, x.2.2.1, v1, v2, v3, rfl, h1, h2, h3, hp, k⟩
theorem e_call3 {X : Cx} {σ : L2.St} {F : Hp} {pos p : Pos} {a1 a2 a3 : Expr} {n : Str} {j k : Nat} {ps : List Str} {r1 : Rp α1} {r2 : Rp α2} {r3 : Rp α3} {ro : Rp β} {pre : α1 → α2 → α3 → Prop} {f : α1 → α2 → α3 → β} {x1 : α1} {x2 : α2} {x3 : α3} [Mono r1] [Mono r2] [Mono r3]
    (C : Cal X.prog X.w X.K X.mg X.base j n ps (spF3 r1 r2 r3 ro pre f)) (hr : Rm k X.A) (h1 : EvE X a1 σ F r1 x1) (h2 : EvE X a2 σ F r2 x2) (h3 : EvE X a3 σ F r3 x3) (hp : pre x1 x2 x3) (hjk : j ≤ k := by decide) (hg : Gl X n := by rfl) (hdb : (n == ("__debug__" : Str)) = false := by decide)
    (hs1 : starEach [a1, a2, a3] X.env = (false, eval a1 X.env) :: starEach [a2, a3] X.env := by rfl) (hs2 : starEach [a2, a3] X.env = (false, eval a2 X.env) :: starEach [a3] X.env := by rfl) (hs3 : starEach [a3] X.env = (false, eval a3 X.env) :: starEach [] X.env := by rfl)
    (hpl : (backTo pos (starEach [a2, a3] X.env)).any (·.1) = false := by rfl) : EvE X (.Call (.Name n p) [a1, a2, a3] [] pos) σ F ro (f x1 x2 x3) :=
  e_callA (ar := (aC r1 (aC r2 (aC r3 aN)))) (pre := fun p => pre p.1 p.2.1 p.2.2.1) (f := fun p => f p.1 p.2.1 p.2.2.1) (x := (x1, x2, x3, ())) C hr (ea_cons (hs := hs1) h1 (ea_cons (hs := hs2) h2 (ea_cons (hs := hs3) h3 ea_nil))) hp hjk hg hdb hs1 hpl
end
section
variable {α1 : Type} {α2 : Type} {α3 : Type} {α4 : Type} {β : Type}
def spF4 (r1 : Rp α1) (r2 : Rp α2) (r3 : Rp α3) (r4 : Rp α4) (ro : Rp β) (pre : α1 → α2 → α3 → α4 → Prop) (f : α1 → α2 → α3 → α4 → β) : Sp := spF (aC r1 (aC r2 (aC r3 (aC r4 aN)))) ro (fun p => pre p.1 p.2.1 p.2.2.1 p.2.2.2.1) fun p => f p.1 p.2.1 p.2.2.1 p.2.2.2.1
theorem spF4_len {r1 : Rp α1} {r2 : Rp α2} {r3 : Rp α3} {r4 : Rp α4} {ro : Rp β} {pre : α1 → α2 → α3 → α4 → Prop} {f : α1 → α2 → α3 → α4 → β} {vs : List V} {H : Hp} {Q : VK} {E : XK} (h : spF4 r1 r2 r3 r4 ro pre f vs H Q E) : vs.length = 4 := by
  obtain ⟨F, x, _, h, _⟩ := h
  obtain ⟨v, us, rfl, _, ⟨v, us, rfl, _, ⟨v, us, rfl, _, ⟨v, us, rfl, _, rfl⟩⟩⟩⟩ := h
  rfl
theorem spF4_open {r1 : Rp α1} {r2 : Rp α2} {r3 : Rp α3} {r4 : Rp α4} {ro : Rp β} {pre : α1 → α2 → α3 → α4 → Prop} {f : α1 → α2 → α3 → α4 → β} {vs : List V} {H : Hp} {Q : VK} {E : XK} (h : spF4 r1 r2 r3 r4 ro pre f vs H Q E) :
    ∃ F, Same F H ∧ ∃ x1 x2 x3 x4 v1 v2 v3 v4, vs = [v1, v2, v3, v4] ∧ r1 F v1 x1 ∧ r2 F v2 x2 ∧ r3 F v3 x3 ∧ r4 F v4 x4 ∧ pre x1 x2 x3 x4 ∧ ∀ v F' H', Grow F H F' H' → ro F' v (f x1 x2 x3 x4) → Q v H' := by
  obtain ⟨F, x, s, h, hp, k⟩ := h
  obtain ⟨v1, us, rfl, h1, ⟨v2, us, rfl, h2, ⟨v3, us, rfl, h3, ⟨v4, us, rfl, h4, rfl⟩⟩⟩⟩ := h
  exact ⟨F, s, x.1, x.2.1, x.2.2.1, x.2.2.2.1, v1, v2, v3, v4, rfl, h1, h2, h3, h4, hp, k⟩
theorem e_call4 {X : Cx} {σ : L2.St} {F : Hp} {pos p : Pos} {a1 a2 a3 a4 : Expr} {n : Str} {j k : Nat} {ps : List Str} {r1 : Rp α1} {r2 : Rp α2} {r3 : Rp α3} {r4 : Rp α4} {ro : Rp β} {pre : α1 → α2 → α3 → α4 → Prop} {f : α1 → α2 → α3 → α4 → β} {x1 : α1} {x2 : α2} {x3 : α3} {x4 : α4} [Mono r1] [Mono r2] [Mono r3] [Mono r4]
    (C : Cal X.prog X.w X.K X.mg X.base j n ps (spF4 r1 r2 r3 r4 ro pre f)) (hr : Rm k X.A) (h1 : EvE X a1 σ F r1 x1) (h2 : EvE X a2 σ F r2 x2) (h3 : EvE X a3 σ F r3 x3) (h4 : EvE X a4 σ F r4 x4) (hp : pre x1 x2 x3 x4) (hjk : j ≤ k := by decide) (hg : Gl X n := by rfl) (hdb : (n == ("__debug__" : Str)) = false := by decide)
    (hs1 : starEach [a1, a2, a3, a4] X.env = (false, eval a1 X.env) :: starEach [a2, a3, a4] X.env := by rfl) (hs2 : starEach [a2, a3, a4] X.env = (false, eval a2 X.env) :: starEach [a3, a4] X.env := by rfl) (hs3 : starEach [a3, a4] X.env = (false, eval a3 X.env) :: starEach [a4] X.env := by rfl) (hs4 : starEach [a4] X.env = (false, eval a4 X.env) :: starEach [] X.env := by rfl)
    (hpl : (backTo pos (starEach [a2, a3, a4] X.env)).any (·.1) = false := by rfl) : EvE X (.Call (.Name n p) [a1, a2, a3, a4] [] pos) σ F ro (f x1 x2 x3 x4) :=
  e_callA (ar := (aC r1 (aC r2 (aC r3 (aC r4 aN))))) (pre := fun p => pre p.1 p.2.1 p.2.2.1 p.2.2.2.1) (f := fun p => f p.1 p.2.1 p.2.2.1 p.2.2.2.1) (x := (x1, x2, x3, x4, ())) C hr (ea_cons (hs := hs1) h1 (ea_cons (hs := hs2) h2 (ea_cons (hs := hs3) h3 (ea_cons (hs := hs4) h4 ea_nil)))) hp hjk hg hdb hs1 hpl
end
section
variable {α1 : Type} {α2 : Type} {α3 : Type} {α4 : Type} {α5 : Type} {β : Type}
def spF5 (r1 : Rp α1) (r2 : Rp α2) (r3 : Rp α3) (r4 : Rp α4) (r5 : Rp α5) (ro : Rp β) (pre : α1 → α2 → α3 → α4 → α5 → Prop) (f : α1 → α2 → α3 → α4 → α5 → β) : Sp := spF (aC r1 (aC r2 (aC r3 (aC r4 (aC r5 aN))))) ro (fun p => pre p.1 p.2.1 p.2.2.1 p.2.2.2.1 p.2.2.2.2.1) fun p => f p.1 p.2.1 p.2.2.1 p.2.2.2.1 p.2.2.2.2.1
theorem spF5_len {r1 : Rp α1} {r2 : Rp α2} {r3 : Rp α3} {r4 : Rp α4} {r5 : Rp α5} {ro : Rp β} {pre : α1 → α2 → α3 → α4 → α5 → Prop} {f : α1 → α2 → α3 → α4 → α5 → β} {vs : List V} {H : Hp} {Q : VK} {E : XK} (h : spF5 r1 r2 r3 r4 r5 ro pre f vs H Q E) : vs.length = 5 := by
  obtain ⟨F, x, _, h, _⟩ := h
  obtain ⟨v, us, rfl, _, ⟨v, us, rfl, _, ⟨v, us, rfl, _, ⟨v, us, rfl, _, ⟨v, us, rfl, _, rfl⟩⟩⟩⟩⟩ := h
  rfl
theorem spF5_open {r1 : Rp α1} {r2 : Rp α2} {r3 : Rp α3} {r4 : Rp α4} {r5 : Rp α5} {ro : Rp β} {pre : α1 → α2 → α3 → α4 → α5 → Prop} {f : α1 → α2 → α3 → α4 → α5 → β} {vs : List V} {H : Hp} {Q : VK} {E : XK} (h : spF5 r1 r2 r3 r4 r5 ro pre f vs H Q E) :
    ∃ F, Same F H ∧ ∃ x1 x2 x3 x4 x5 v1 v2 v3 v4 v5, vs = [v1, v2, v3, v4, v5] ∧ r1 F v1 x1 ∧ r2 F v2 x2 ∧ r3 F v3 x3 ∧ r4 F v4 x4 ∧ r5 F v5 x5 ∧ pre x1 x2 x3 x4 x5 ∧ ∀ v F' H', Grow F H F' H' → ro F' v (f x1 x2 x3 x4 x5) → Q v H' := by
  obtain ⟨F, x, s, h, hp, k⟩ := h
  obtain ⟨v1, us, rfl, h1, ⟨v2, us, rfl, h2, ⟨v3, us, rfl, h3, ⟨v4, us, rfl, h4, ⟨v5, us, rfl, h5, rfl⟩⟩⟩⟩⟩ := h
  exact ⟨F, s, x.1, x.2.1, x.2.2.1, x.2.2.2.1, x.2.2.2.2.1, v1, v2, v3, v4, v5, rfl, h1, h2, h3, h4, h5, hp, k⟩
theorem e_call5 {X : Cx} {σ : L2.St} {F : Hp} {pos p : Pos} {a1 a2 a3 a4 a5 : Expr} {n : Str} {j k : Nat} {ps : List Str} {r1 : Rp α1} {r2 : Rp α2} {r3 : Rp α3} {r4 : Rp α4} {r5 : Rp α5} {ro : Rp β} {pre : α1 → α2 → α3 → α4 → α5 → Prop} {f : α1 → α2 → α3 → α4 → α5 → β} {x1 : α1} {x2 : α2} {x3 : α3} {x4 : α4} {x5 : α5} [Mono r1] [Mono r2] [Mono r3] [Mono r4] [Mono r5]
    (C : Cal X.prog X.w X.K X.mg X.base j n ps (spF5 r1 r2 r3 r4 r5 ro pre f)) (hr : Rm k X.A) (h1 : EvE X a1 σ F r1 x1) (h2 : EvE X a2 σ F r2 x2) (h3 : EvE X a3 σ F r3 x3) (h4 : EvE X a4 σ F r4 x4) (h5 : EvE X a5 σ F r5 x5) (hp : pre x1 x2 x3 x4 x5) (hjk : j ≤ k := by decide) (hg : Gl X n := by rfl) (hdb : (n == ("__debug__" : Str)) = false := by decide)
    (hs1 : starEach [a1, a2, a3, a4, a5] X.env = (false, eval a1 X.env) :: starEach [a2, a3, a4, a5] X.env := by rfl) (hs2 : starEach [a2, a3, a4, a5] X.env = (false, eval a2 X.env) :: starEach [a3, a4, a5] X.env := by rfl) (hs3 : starEach [a3, a4, a5] X.env = (false, eval a3 X.env) :: starEach [a4, a5] X.env := by rfl) (hs4 : starEach [a4, a5] X.env = (false, eval a4 X.env) :: starEach [a5] X.env := by rfl) (hs5 : starEach [a5] X.env = (false, eval a5 X.env) :: starEach [] X.env := by rfl)
    (hpl : (backTo pos (starEach [a2, a3, a4, a5] X.env)).any (·.1) = false := by rfl) : EvE X (.Call (.Name n p) [a1, a2, a3, a4, a5] [] pos) σ F ro (f x1 x2 x3 x4 x5) :=
  e_callA (ar := (aC r1 (aC r2 (aC r3 (aC r4 (aC r5 aN)))))) (pre := fun p => pre p.1 p.2.1 p.2.2.1 p.2.2.2.1 p.2.2.2.2.1) (f := fun p => f p.1 p.2.1 p.2.2.1 p.2.2.2.1 p.2.2.2.2.1) (x := (x1, x2, x3, x4, x5, ())) C hr (ea_cons (hs := hs1) h1 (ea_cons (hs := hs2) h2 (ea_cons (hs := hs3) h3 (ea_cons (hs := hs4) h4 (ea_cons (hs := hs5) h5 ea_nil))))) hp hjk hg hdb hs1 hpl
end
section
variable {α1 : Type} {α2 : Type} {α3 : Type} {α4 : Type} {α5 : Type} {α6 : Type} {β : Type}
def spF6 (r1 : Rp α1) (r2 : Rp α2) (r3 : Rp α3) (r4 : Rp α4) (r5 : Rp α5) (r6 : Rp α6) (ro : Rp β) (pre : α1 → α2 → α3 → α4 → α5 → α6 → Prop) (f : α1 → α2 → α3 → α4 → α5 → α6 → β) : Sp := spF (aC r1 (aC r2 (aC r3 (aC r4 (aC r5 (aC r6 aN)))))) ro (fun p => pre p.1 p.2.1 p.2.2.1 p.2.2.2.1 p.2.2.2.2.1 p.2.2.2.2.2.1) fun p => f p.1 p.2.1 p.2.2.1 p.2.2.2.1 p.2.2.2.2.1 p.2.2.2.2.2.1
theorem spF6_len {r1 : Rp α1} {r2 : Rp α2} {r3 : Rp α3} {r4 : Rp α4} {r5 : Rp α5} {r6 : Rp α6} {ro : Rp β} {pre : α1 → α2 → α3 → α4 → α5 → α6 → Prop} {f : α1 → α2 → α3 → α4 → α5 → α6 → β} {vs : List V} {H : Hp} {Q : VK} {E : XK} (h : spF6 r1 r2 r3 r4 r5 r6 ro pre f vs H Q E) : vs.length = 6 := by
  obtain ⟨F, x, _, h, _⟩ := h
  obtain ⟨v, us, rfl, _, ⟨v, us, rfl, _, ⟨v, us, rfl, _, ⟨v, us, rfl, _, ⟨v, us, rfl, _, ⟨v, us, rfl, _, rfl⟩⟩⟩⟩⟩⟩ := h
  rfl
theorem spF6_open {r1 : Rp α1} {r2 : Rp α2} {r3 : Rp α3} {r4 : Rp α4} {r5 : Rp α5} {r6 : Rp α6} {ro : Rp β} {pre : α1 → α2 → α3 → α4 → α5 → α6 → Prop} {f : α1 → α2 → α3 → α4 → α5 → α6 → β} {vs : List V} {H : Hp} {Q : VK} {E : XK} (h : spF6 r1 r2 r3 r4 r5 r6 ro pre f vs H Q E) :
    ∃ F, Same F H ∧ ∃ x1 x2 x3 x4 x5 x6 v1 v2 v3 v4 v5 v6, vs = [v1, v2, v3, v4, v5, v6] ∧ r1 F v1 x1 ∧ r2 F v2 x2 ∧ r3 F v3 x3 ∧ r4 F v4 x4 ∧ r5 F v5 x5 ∧ r6 F v6 x6 ∧ pre x1 x2 x3 x4 x5 x6 ∧ ∀ v F' H', Grow F H F' H' → ro F' v (f x1 x2 x3 x4 x5 x6) → Q v H' := by
  obtain ⟨F, x, s, h, hp, k⟩ := h
  obtain ⟨v1, us, rfl, h1, ⟨v2, us, rfl, h2, ⟨v3, us, rfl, h3, ⟨v4, us, rfl, h4, ⟨v5, us, rfl, h5, ⟨v6, us, rfl, h6, rfl⟩⟩⟩⟩⟩⟩ := h
  exact ⟨F, s, x.1, x.2.1, x.2.2.1, x.2.2.2.1, x.2.2.2.2.1, x.2.2.2.2.2.1, v1, v2, v3, v4, v5, v6, rfl, h1, h2, h3, h4, h5, h6, hp, k⟩
theorem e_call6 {X : Cx} {σ : L2.St} {F : Hp} {pos p : Pos} {a1 a2 a3 a4 a5 a6 : Expr} {n : Str} {j k : Nat} {ps : List Str} {r1 : Rp α1} {r2 : Rp α2} {r3 : Rp α3} {r4 : Rp α4} {r5 : Rp α5} {r6 : Rp α6} {ro : Rp β} {pre : α1 → α2 → α3 → α4 → α5 → α6 → Prop} {f : α1 → α2 → α3 → α4 → α5 → α6 → β} {x1 : α1} {x2 : α2} {x3 : α3} {x4 : α4} {x5 : α5} {x6 : α6} [Mono r1] [Mono r2] [Mono r3] [Mono r4] [Mono r5] [Mono r6]
    (C : Cal X.prog X.w X.K X.mg X.base j n ps (spF6 r1 r2 r3 r4 r5 r6 ro pre f)) (hr : Rm k X.A) (h1 : EvE X a1 σ F r1 x1) (h2 : EvE X a2 σ F r2 x2) (h3 : EvE X a3 σ F r3 x3) (h4 : EvE X a4 σ F r4 x4) (h5 : EvE X a5 σ F r5 x5) (h6 : EvE X a6 σ F r6 x6) (hp : pre x1 x2 x3 x4 x5 x6) (hjk : j ≤ k := by decide) (hg : Gl X n := by rfl) (hdb : (n == ("__debug__" : Str)) = false := by decide)
    (hs1 : starEach [a1, a2, a3, a4, a5, a6] X.env = (false, eval a1 X.env) :: starEach [a2, a3, a4, a5, a6] X.env := by rfl) (hs2 : starEach [a2, a3, a4, a5, a6] X.env = (false, eval a2 X.env) :: starEach [a3, a4, a5, a6] X.env := by rfl) (hs3 : starEach [a3, a4, a5, a6] X.env = (false, eval a3 X.env) :: starEach [a4, a5, a6] X.env := by rfl) (hs4 : starEach [a4, a5, a6] X.env = (false, eval a4 X.env) :: starEach [a5, a6] X.env := by rfl) (hs5 : starEach [a5, a6] X.env = (false, eval a5 X.env) :: starEach [a6] X.env := by rfl) (hs6 : starEach [a6] X.env = (false, eval a6 X.env) :: starEach [] X.env := by rfl)
    (hpl : (backTo pos (starEach [a2, a3, a4, a5, a6] X.env)).any (·.1) = false := by rfl) : EvE X (.Call (.Name n p) [a1, a2, a3, a4, a5, a6] [] pos) σ F ro (f x1 x2 x3 x4 x5 x6) :=
  e_callA (ar := (aC r1 (aC r2 (aC r3 (aC r4 (aC r5 (aC r6 aN))))))) (pre := fun p => pre p.1 p.2.1 p.2.2.1 p.2.2.2.1 p.2.2.2.2.1 p.2.2.2.2.2.1) (f := fun p => f p.1 p.2.1 p.2.2.1 p.2.2.2.1 p.2.2.2.2.1 p.2.2.2.2.2.1) (x := (x1, x2, x3, x4, x5, x6, ())) C hr (ea_cons (hs := hs1) h1 (ea_cons (hs := hs2) h2 (ea_cons (hs := hs3) h3 (ea_cons (hs := hs4) h4 (ea_cons (hs := hs5) h5 (ea_cons (hs := hs6) h6 ea_nil)))))) hp hjk hg hdb hs1 hpl
end
section
variable {α1 : Type} {α2 : Type} {α3 : Type} {α4 : Type} {α5 : Type} {α6 : Type} {α7 : Type} {β : Type}
def spF7 (r1 : Rp α1) (r2 : Rp α2) (r3 : Rp α3) (r4 : Rp α4) (r5 : Rp α5) (r6 : Rp α6) (r7 : Rp α7) (ro : Rp β) (pre : α1 → α2 → α3 → α4 → α5 → α6 → α7 → Prop) (f : α1 → α2 → α3 → α4 → α5 → α6 → α7 → β) : Sp := spF (aC r1 (aC r2 (aC r3 (aC r4 (aC r5 (aC r6 (aC r7 aN))))))) ro (fun p => pre p.1 p.2.1 p.2.2.1 p.2.2.2.1 p.2.2.2.2.1 p.2.2.2.2.2.1 p.2.2.2.2.2.2.1) fun p => f p.1 p.2.1 p.2.2.1 p.2.2.2.1 p.2.2.2.2.1 p.2.2.2.2.2.1 p.2.2.2.2.2.2.1
theorem spF7_len {r1 : Rp α1} {r2 : Rp α2} {r3 : Rp α3} {r4 : Rp α4} {r5 : Rp α5} {r6 : Rp α6} {r7 : Rp α7} {ro : Rp β} {pre : α1 → α2 → α3 → α4 → α5 → α6 → α7 → Prop} {f : α1 → α2 → α3 → α4 → α5 → α6 → α7 → β} {vs : List V} {H : Hp} {Q : VK} {E : XK} (h : spF7 r1 r2 r3 r4 r5 r6 r7 ro pre f vs H Q E) : vs.length = 7 := by
  obtain ⟨F, x, _, h, _⟩ := h
  obtain ⟨v, us, rfl, _, ⟨v, us, rfl, _, ⟨v, us, rfl, _, ⟨v, us, rfl, _, ⟨v, us, rfl, _, ⟨v, us, rfl, _, ⟨v, us, rfl, _, rfl⟩⟩⟩⟩⟩⟩⟩ := h
  rfl
theorem spF7_open {r1 : Rp α1} {r2 : Rp α2} {r3 : Rp α3} {r4 : Rp α4} {r5 : Rp α5} {r6 : Rp α6} {r7 : Rp α7} {ro : Rp β} {pre : α1 → α2 → α3 → α4 → α5 → α6 → α7 → Prop} {f : α1 → α2 → α3 → α4 → α5 → α6 → α7 → β} {vs : List V} {H : Hp} {Q : VK} {E : XK} (h : spF7 r1 r2 r3 r4 r5 r6 r7 ro pre f vs H Q E) :
    ∃ F, Same F H ∧ ∃ x1 x2 x3 x4 x5 x6 x7 v1 v2 v3 v4 v5 v6 v7, vs = [v1, v2, v3, v4, v5, v6, v7] ∧ r1 F v1 x1 ∧ r2 F v2 x2 ∧ r3 F v3 x3 ∧ r4 F v4 x4 ∧ r5 F v5 x5 ∧ r6 F v6 x6 ∧ r7 F v7 x7 ∧ pre x1 x2 x3 x4 x5 x6 x7 ∧ ∀ v F' H', Grow F H F' H' → ro F' v (f x1 x2 x3 x4 x5 x6 x7) → Q v H' := by
  obtain ⟨F, x, s, h, hp, k⟩ := h
  obtain ⟨v1, us, rfl, h1, ⟨v2, us, rfl, h2, ⟨v3, us, rfl, h3, ⟨v4, us, rfl, h4, ⟨v5, us, rfl, h5, ⟨v6, us, rfl, h6, ⟨v7, us, rfl, h7, rfl⟩⟩⟩⟩⟩⟩⟩ := h
  exact ⟨F, s, x.1, x.2.1, x.2.2.1, x.2.2.2.1, x.2.2.2.2.1, x.2.2.2.2.2.1, x.2.2.2.2.2.2.1, v1, v2, v3, v4, v5, v6, v7, rfl, h1, h2, h3, h4, h5, h6, h7, hp, k⟩
theorem e_call7 {X : Cx} {σ : L2.St} {F : Hp} {pos p : Pos} {a1 a2 a3 a4 a5 a6 a7 : Expr} {n : Str} {j k : Nat} {ps : List Str} {r1 : Rp α1} {r2 : Rp α2} {r3 : Rp α3} {r4 : Rp α4} {r5 : Rp α5} {r6 : Rp α6} {r7 : Rp α7} {ro : Rp β} {pre : α1 → α2 → α3 → α4 → α5 → α6 → α7 → Prop} {f : α1 → α2 → α3 → α4 → α5 → α6 → α7 → β} {x1 : α1} {x2 : α2} {x3 : α3} {x4 : α4} {x5 : α5} {x6 : α6} {x7 : α7} [Mono r1] [Mono r2] [Mono r3] [Mono r4] [Mono r5] [Mono r6] [Mono r7]
    (C : Cal X.prog X.w X.K X.mg X.base j n ps (spF7 r1 r2 r3 r4 r5 r6 r7 ro pre f)) (hr : Rm k X.A) (h1 : EvE X a1 σ F r1 x1) (h2 : EvE X a2 σ F r2 x2) (h3 : EvE X a3 σ F r3 x3) (h4 : EvE X a4 σ F r4 x4) (h5 : EvE X a5 σ F r5 x5) (h6 : EvE X a6 σ F r6 x6) (h7 : EvE X a7 σ F r7 x7) (hp : pre x1 x2 x3 x4 x5 x6 x7) (hjk : j ≤ k := by decide) (hg : Gl X n := by rfl) (hdb : (n == ("__debug__" : Str)) = false := by decide)
    (hs1 : starEach [a1, a2, a3, a4, a5, a6, a7] X.env = (false, eval a1 X.env) :: starEach [a2, a3, a4, a5, a6, a7] X.env := by rfl) (hs2 : starEach [a2, a3, a4, a5, a6, a7] X.env = (false, eval a2 X.env) :: starEach [a3, a4, a5, a6, a7] X.env := by rfl) (hs3 : starEach [a3, a4, a5, a6, a7] X.env = (false, eval a3 X.env) :: starEach [a4, a5, a6, a7] X.env := by rfl) (hs4 : starEach [a4, a5, a6, a7] X.env = (false, eval a4 X.env) :: starEach [a5, a6, a7] X.env := by rfl) (hs5 : starEach [a5, a6, a7] X.env = (false, eval a5 X.env) :: starEach [a6, a7] X.env := by rfl) (hs6 : starEach [a6, a7] X.env = (false, eval a6 X.env) :: starEach [a7] X.env := by rfl) (hs7 : starEach [a7] X.env = (false, eval a7 X.env) :: starEach [] X.env := by rfl)
    (hpl : (backTo pos (starEach [a2, a3, a4, a5, a6, a7] X.env)).any (·.1) = false := by rfl) : EvE X (.Call (.Name n p) [a1, a2, a3, a4, a5, a6, a7] [] pos) σ F ro (f x1 x2 x3 x4 x5 x6 x7) :=
  e_callA (ar := (aC r1 (aC r2 (aC r3 (aC r4 (aC r5 (aC r6 (aC r7 aN)))))))) (pre := fun p => pre p.1 p.2.1 p.2.2.1 p.2.2.2.1 p.2.2.2.2.1 p.2.2.2.2.2.1 p.2.2.2.2.2.2.1) (f := fun p => f p.1 p.2.1 p.2.2.1 p.2.2.2.1 p.2.2.2.2.1 p.2.2.2.2.2.1 p.2.2.2.2.2.2.1) (x := (x1, x2, x3, x4, x5, x6, x7, ())) C hr (ea_cons (hs := hs1) h1 (ea_cons (hs := hs2) h2 (ea_cons (hs := hs3) h3 (ea_cons (hs := hs4) h4 (ea_cons (hs := hs5) h5 (ea_cons (hs := hs6) h6 (ea_cons (hs := hs7) h7 ea_nil))))))) hp hjk hg hdb hs1 hpl
end
end Fw

namespace Fw
open PySem PySem.Spec PyProof.Rows L2

/-! ### lists, tuples: items, lengths, slices -/
section
variable {X : Cx} {σ : L2.St} {F F' H : Hp} {α β γ : Type} {pos p : Pos} {a b c e : Expr} {r : Rp α} {xs : List α} {x : α} {i : Int} {n : Str}
theorem paired_atI {R : β → α → Prop} {vs : List β} (h : Paired R vs xs) (e : atI xs i = some x) : ∃ v, atI vs i = some v ∧ R v x := by
  unfold atI at e ⊢
  rw [paired_len h]
  cases q : ixN xs.length i with
  | none => rw [q] at e; cases e
  | some j =>
    rw [q] at e
    exact paired_at h e
theorem e_ixL (ha : EvE X a σ F (rLst X.K r) xs) (hb : EvE X b σ F rInt i) (hx : atI xs i = some x) [Mono r] (hs : PlainIx b := by exact fun _ _ => rfl) : EvE X (.Subscript a b pos) σ F r x :=
  e_op2 (pe_ix ix_list pe_w pe_w hs) rfl ha hb fun F2 H2 v u _ s e1 e2 Q q => by
    obtain ⟨p, vs, rfl, h1, h2⟩ := e1
    obtain ⟨v, ev, rv⟩ := paired_atI h2 hx
    exact ⟨p, vs, i, v, rfl, e2, s.seq h1, ev, q v F2 H2 (Grow.refl s) rv⟩
theorem e_ixT (ha : EvE X a σ F (rTup X.K r) xs) (hb : EvE X b σ F rInt i) (hx : atI xs i = some x) [Mono r] (hs : PlainIx b := by exact fun _ _ => rfl) : EvE X (.Subscript a b pos) σ F r x :=
  e_op2 (pe_ix ix_tup pe_w pe_w hs) rfl ha hb fun F2 H2 v u _ s e1 e2 Q q => by
    obtain ⟨p, vs, rfl, h1, h2⟩ := e1
    obtain ⟨v, ev, rv⟩ := paired_atI h2 hx
    exact ⟨p, vs, i, v, rfl, e2, same_t s h1, ev, q v F2 H2 (Grow.refl s) rv⟩
theorem e_ix20 {r' : Rp β} {q : α × β} [Mono r] [Mono r'] {j : Nat} {p2 : Pos} (ha : EvE X a σ F (rT2 X.K r r') q) : EvE X (.Subscript a (.Constant (.int 0) j p2) pos) σ F r q.1 :=
  e_op2 (pe_ix ix_tup pe_w pe_w (fun _ _ => rfl)) rfl ha e_int fun F2 H2 v u _ s e1 e2 Q k => by
    obtain ⟨p, v1, v2, rfl, h1, h2, h3⟩ := e1
    exact ⟨p, _, 0, v1, rfl, e2, same_t s h1, rfl, k v1 F2 H2 (Grow.refl s) h2⟩
theorem e_ix21 {r' : Rp β} {q : α × β} [Mono r] [Mono r'] {j : Nat} {p2 : Pos} (ha : EvE X a σ F (rT2 X.K r r') q) : EvE X (.Subscript a (.Constant (.int 1) j p2) pos) σ F r' q.2 :=
  e_op2 (pe_ix ix_tup pe_w pe_w (fun _ _ => rfl)) rfl ha e_int fun F2 H2 v u _ s e1 e2 Q k => by
    obtain ⟨p, v1, v2, rfl, h1, h2, h3⟩ := e1
    exact ⟨p, _, 1, v2, rfl, e2, same_t s h1, rfl, k v2 F2 H2 (Grow.refl s) h3⟩
theorem e_ix30 {r' : Rp β} {r'' : Rp γ} {q : α × β × γ} [Mono r] [Mono r'] [Mono r''] {j : Nat} {p2 : Pos} (ha : EvE X a σ F (rT3 X.K r r' r'') q) : EvE X (.Subscript a (.Constant (.int 0) j p2) pos) σ F r q.1 :=
  e_op2 (pe_ix ix_tup pe_w pe_w (fun _ _ => rfl)) rfl ha e_int fun F2 H2 v u _ s e1 e2 Q k => by
    obtain ⟨p, v1, v2, v3, rfl, h1, h2, h3, h4⟩ := e1
    exact ⟨p, _, 0, v1, rfl, e2, same_t s h1, rfl, k v1 F2 H2 (Grow.refl s) h2⟩
theorem e_ix31 {r' : Rp β} {r'' : Rp γ} {q : α × β × γ} [Mono r] [Mono r'] [Mono r''] {j : Nat} {p2 : Pos} (ha : EvE X a σ F (rT3 X.K r r' r'') q) : EvE X (.Subscript a (.Constant (.int 1) j p2) pos) σ F r' q.2.1 :=
  e_op2 (pe_ix ix_tup pe_w pe_w (fun _ _ => rfl)) rfl ha e_int fun F2 H2 v u _ s e1 e2 Q k => by
    obtain ⟨p, v1, v2, v3, rfl, h1, h2, h3, h4⟩ := e1
    exact ⟨p, _, 1, v2, rfl, e2, same_t s h1, rfl, k v2 F2 H2 (Grow.refl s) h3⟩
theorem e_ix32 {r' : Rp β} {r'' : Rp γ} {q : α × β × γ} [Mono r] [Mono r'] [Mono r''] {j : Nat} {p2 : Pos} (ha : EvE X a σ F (rT3 X.K r r' r'') q) : EvE X (.Subscript a (.Constant (.int 2) j p2) pos) σ F r'' q.2.2 :=
  e_op2 (pe_ix ix_tup pe_w pe_w (fun _ _ => rfl)) rfl ha e_int fun F2 H2 v u _ s e1 e2 Q k => by
    obtain ⟨p, v1, v2, v3, rfl, h1, h2, h3, h4⟩ := e1
    exact ⟨p, _, 2, v3, rfl, e2, same_t s h1, rfl, k v3 F2 H2 (Grow.refl s) h4⟩

theorem paired_take {R : β → α → Prop} : ∀ {vs : List β} {xs : List α} (n : Nat), Paired R vs xs → Paired R (vs.take n) (xs.take n)
  | _, _, 0, _ => .nil
  | _, _, _ + 1, .nil => .nil
  | _, _, n + 1, .cons h t => .cons h (paired_take n t)
theorem paired_drop {R : β → α → Prop} : ∀ {vs : List β} {xs : List α} (n : Nat), Paired R vs xs → Paired R (vs.drop n) (xs.drop n)
  | _, _, 0, h => h
  | _, _, _ + 1, .nil => .nil
  | _, _, n + 1, .cons h t => paired_drop n t
theorem paired_app {R : β → α → Prop} : ∀ {vs us : List β} {xs ys : List α}, Paired R vs xs → Paired R us ys → Paired R (vs ++ us) (xs ++ ys)
  | _, _, _, _, .nil, h => h
  | _, _, _, _, .cons h t, k => .cons h (paired_app t k)
/-- xs[lo:hi] -/
def cutL (xs : List α) (lo hi : Option Int) : List α := (xs.drop (HT.sIx xs.length 0 lo)).take (HT.sIx xs.length xs.length hi - HT.sIx xs.length 0 lo)
theorem paired_cut {R : V → α → Prop} {vs : List V} {xs : List α} (lo hi : Option Int) (h : Paired R vs xs) : Paired R (cutV vs lo hi) (cutL xs lo hi) := by
  unfold cutV cutL
  rw [paired_len h]
  exact paired_take _ (paired_drop _ h)
def EvO (X : Cx) (e : Option Expr) (σ : L2.St) (F : Hp) (o : Option Int) : Prop :=
  ∃ t, PO X e t ∧ ∀ F1 H1, Same F F1 → Same F1 H1 → ∀ Q : Option Int → Hp → Prop, (∀ F2 H2, Grow F1 H1 F2 H2 → Q o H2) → t σ H1 Q
theorem o_none : EvO X none σ F none := ⟨_, po_none, fun F1 H1 _ s Q q => q F1 H1 (Grow.refl s)⟩
theorem o_some (h : EvE X e σ F rInt i) : EvO X (some e) σ F (some i) := ⟨_, po_some pe_w, fun F1 H1 s1 s2 Q q => h F1 H1 s1 s2 _ fun v F2 H2 g r => ⟨i, r, q F2 H2 g⟩⟩
theorem e_slice {lo hi : Option Expr} {ol oh : Option Int} {p2 : Pos} [Mono r] (ha : EvE X a σ F (rLst X.K r) xs) (hl : EvO X lo σ F ol) (hh : EvO X hi σ F oh) : EvE X (.Subscript a (.Slice lo hi none p2) pos) σ F (rLst X.K r) (cutL xs ol oh) := fun F1 H1 s1 s2 Q q => by
  obtain ⟨tl, pl, kl⟩ := hl
  obtain ⟨th, ph, kh⟩ := hh
  refine we_of (pe_slice sl_list pe_w pl ph) (ha F1 H1 s1 s2 _ fun v F2 H2 g2 r2 => kl F2 H2 (s1.trans g2.f) g2.s _ fun F3 H3 g3 => kh F3 H3 ((s1.trans g2.f).trans g3.f) g3.s _ fun F4 H4 g4 => ?_)
  obtain ⟨a, vs, rfl, h1, h2⟩ := Mono.mono (g3.f.trans g4.f) r2
  refine ⟨a, vs, rfl, g4.s.seq h1, fun p hp => q _ _ _ (((g2.trans g3).trans g4).trans (Grow.new g4.s hp)) ⟨p, _, rfl, .inl (.inl upd_same), ?_⟩⟩
  exact paired_mono (fun _ _ => Mono.mono (same_new (g4.s.free hp))) (paired_cut _ _ h2)

/-! built-ins by their names -/
theorem e_cb {es : List Expr} {id : String} {rc : List V → Hp → VK → Prop} {ar : Ar α} {x : α} {ro : Rp β} {z : β} (hc : CallR X (.builtin id) rc) (hm : X.mg n = none) (hv : bootBuiltins n = some (.builtin id)) (ha : EvA X (a :: es) σ F ar x)
    (hr : ∀ F2 H2 vs, Same F F2 → Same F2 H2 → ar F2 vs x → ∀ Q : VK, (∀ v' F3 H3, Grow F2 H2 F3 H3 → ro F3 v' z → Q v' H3) → rc vs H2 Q) (hg : Gl X n := by rfl) (hn : n ≠ "__name__" := by decide) (hdb : (n == ("__debug__" : Str)) = false := by decide)
    (he : starEach (a :: es) X.env = (false, eval a X.env) :: starEach es X.env := by rfl) (hpl : (backTo pos (starEach es X.env)).any (·.1) = false := by rfl) : EvE X (.Call (.Name n p) (a :: es) [] pos) σ F ro z := fun F1 H1 s1 s2 Q q =>
  we_of (pe_callB hc hg hm hv pa_w hn hdb he hpl) (ha F1 H1 s1 s2 _ fun vs F2 H2 g r => hr F2 H2 vs (s1.trans g.f) g.s r Q fun v F3 H3 g3 r3 => q v F3 H3 (g.trans g3) r3)
theorem e_ct {es : List Expr} {T : String} {rc : List V → Hp → VK → Prop} {ar : Ar α} {x : α} {ro : Rp β} {z : β} (hc : CallR X (.type T) rc) (hm : X.mg n = none) (hv : bootBuiltins n = some (.type T)) (ha : EvA X (a :: es) σ F ar x)
    (hr : ∀ F2 H2 vs, Same F F2 → Same F2 H2 → ar F2 vs x → ∀ Q : VK, (∀ v' F3 H3, Grow F2 H2 F3 H3 → ro F3 v' z → Q v' H3) → rc vs H2 Q) (hg : Gl X n := by rfl) (hn : n ≠ "__name__" := by decide) (hdb : (n == ("__debug__" : Str)) = false := by decide)
    (he : starEach (a :: es) X.env = (false, eval a X.env) :: starEach es X.env := by rfl) (hpl : (backTo pos (starEach es X.env)).any (·.1) = false := by rfl) : EvE X (.Call (.Name n p) (a :: es) [] pos) σ F ro z := fun F1 H1 s1 s2 Q q =>
  we_of (pe_callTy hc hg hm hv pa_w hn hdb he hpl) (ha F1 H1 s1 s2 _ fun vs F2 H2 g r => hr F2 H2 vs (s1.trans g.f) g.s r Q fun v F3 H3 g3 r3 => q v F3 H3 (g.trans g3) r3)
variable {y : Int}
theorem e_abs (hm : X.mg "abs" = none) (ha : EvE X a σ F rInt y) (hg : Gl X "abs" := by rfl) (he : starEach [a] X.env = (false, eval a X.env) :: starEach [] X.env := by rfl) : EvE X (.Call (.Name "abs" p) [a] [] pos) σ F rInt (if y < 0 then -y else y) :=
  e_cb call_abs hm (by decide +kernel) (ea_cons (hs := he) ha ea_nil) (fun F2 H2 vs _ s h Q q => by obtain ⟨v, us, rfl, rfl, rfl⟩ := h; exact ⟨y, rfl, q _ F2 H2 (Grow.refl s) rfl⟩) hg (he := he)
theorem e_max2 (hm : X.mg "max" = none) (ha : EvE X a σ F rInt i) (hb : EvE X b σ F rInt y) (hc : X.calm = true := by rfl) (hg : Gl X "max" := by rfl) (he : starEach [a, b] X.env = (false, eval a X.env) :: starEach [b] X.env := by rfl) (he2 : starEach [b] X.env = (false, eval b X.env) :: starEach [] X.env := by rfl)
    (hpl : (backTo pos (starEach [b] X.env)).any (·.1) = false := by rfl) : EvE X (.Call (.Name "max" p) [a, b] [] pos) σ F rInt (max i y) :=
  e_cb (call_max2 hc) hm (by decide +kernel) (ea_cons (hs := he) ha (ea_cons (hs := he2) hb ea_nil)) (fun F2 H2 vs _ s h Q q => by
    obtain ⟨v, us, rfl, rfl, v2, us2, rfl, rfl, rfl⟩ := h
    exact ⟨i, y, rfl, q _ F2 H2 (Grow.refl s) (by show V.int _ = V.int _; congr 1; show (if y > i then y else i) = max i y; omega)⟩) hg (he := he) (hpl := hpl)
theorem e_min2 (hm : X.mg "min" = none) (ha : EvE X a σ F rInt i) (hb : EvE X b σ F rInt y) (hc : X.calm = true := by rfl) (hg : Gl X "min" := by rfl) (he : starEach [a, b] X.env = (false, eval a X.env) :: starEach [b] X.env := by rfl) (he2 : starEach [b] X.env = (false, eval b X.env) :: starEach [] X.env := by rfl)
    (hpl : (backTo pos (starEach [b] X.env)).any (·.1) = false := by rfl) : EvE X (.Call (.Name "min" p) [a, b] [] pos) σ F rInt (min i y) :=
  e_cb (call_min2 hc) hm (by decide +kernel) (ea_cons (hs := he) ha (ea_cons (hs := he2) hb ea_nil)) (fun F2 H2 vs _ s h Q q => by
    obtain ⟨v, us, rfl, rfl, v2, us2, rfl, rfl, rfl⟩ := h
    exact ⟨i, y, rfl, q _ F2 H2 (Grow.refl s) (by show V.int _ = V.int _; congr 1; show (if y < i then y else i) = min i y; omega)⟩) hg (he := he) (hpl := hpl)
theorem e_inti (hm : X.mg "int" = none) (ha : EvE X a σ F rInt y) (hg : Gl X "int" := by rfl) (he : starEach [a] X.env = (false, eval a X.env) :: starEach [] X.env := by rfl) : EvE X (.Call (.Name "int" p) [a] [] pos) σ F rInt y :=
  e_ct call_int1 hm (by decide +kernel) (ea_cons (hs := he) ha ea_nil) (fun F2 H2 vs _ s h Q q => by obtain ⟨v, us, rfl, rfl, rfl⟩ := h; exact .inl ⟨y, rfl, q _ F2 H2 (Grow.refl s) rfl⟩) hg (he := he)
theorem e_intb {t : Bool} (hm : X.mg "int" = none) (ha : EvE X a σ F rBool t) (hg : Gl X "int" := by rfl) (he : starEach [a] X.env = (false, eval a X.env) :: starEach [] X.env := by rfl) : EvE X (.Call (.Name "int" p) [a] [] pos) σ F rInt (if t then 1 else 0) :=
  e_ct call_int1 hm (by decide +kernel) (ea_cons (hs := he) ha ea_nil) (fun F2 H2 vs _ s h Q q => by obtain ⟨v, us, rfl, rfl, rfl⟩ := h; exact .inr ⟨t, rfl, q _ F2 H2 (Grow.refl s) rfl⟩) hg (he := he)
theorem paired_ints : ∀ {vs : List V} {ns : List Int} {F : Hp}, Paired (rInt F) vs ns → vs = ns.map V.int
  | _, _, _, .nil => rfl
  | _, _, _, .cons h t => by rw [List.map_cons, ← paired_ints t, show _ = V.int _ from h]
theorem ints_paired {F : Hp} : ∀ (ns : List Int), Paired (rInt F) (ns.map V.int) ns
  | [] => .nil
  | n :: ns => .cons rfl (ints_paired ns)
theorem e_sum {ns : List Int} (hm : X.mg "sum" = none) (ha : EvE X a σ F (rLst X.K rInt) ns) (hc : X.calm = true := by rfl) (hg : Gl X "sum" := by rfl) (he : starEach [a] X.env = (false, eval a X.env) :: starEach [] X.env := by rfl) : EvE X (.Call (.Name "sum" p) [a] [] pos) σ F rInt ns.sum :=
  e_cb (cr_sum hc) hm (by decide +kernel) (ea_cons (hs := he) ha ea_nil) (fun F2 H2 vs _ s h Q q => by
    obtain ⟨v, us, rfl, ⟨a, vs, rfl, h1, h2⟩, rfl⟩ := h
    rw [paired_ints h2] at h1
    exact ⟨a, ns, rfl, s.seq h1, q _ F2 H2 (Grow.refl s) rfl⟩) hg (he := he)
theorem e_lenL (hm : X.mg "len" = none) (ha : EvE X a σ F (rLst X.K r) xs) [Mono r] (hg : Gl X "len" := by rfl) (he : starEach [a] X.env = (false, eval a X.env) :: starEach [] X.env := by rfl) : EvE X (.Call (.Name "len" p) [a] [] pos) σ F rInt (xs.length : Int) :=
  e_cb call_len_seq hm PySem.boot_len (ea_cons (hs := he) ha ea_nil) (fun F2 H2 vs _ s h Q q => by
    obtain ⟨v, us, rfl, ⟨a, vs, rfl, h1, h2⟩, rfl⟩ := h
    exact ⟨a, vs, rfl, .inl (s.seq h1), q _ F2 H2 (Grow.refl s) (by rw [paired_len h2]; rfl)⟩) hg (he := he)
theorem e_lenT (hm : X.mg "len" = none) (ha : EvE X a σ F (rTup X.K r) xs) [Mono r] (hg : Gl X "len" := by rfl) (he : starEach [a] X.env = (false, eval a X.env) :: starEach [] X.env := by rfl) : EvE X (.Call (.Name "len" p) [a] [] pos) σ F rInt (xs.length : Int) :=
  e_cb call_len_seq hm PySem.boot_len (ea_cons (hs := he) ha ea_nil) (fun F2 H2 vs _ s h Q q => by
    obtain ⟨v, us, rfl, ⟨a, vs, rfl, h1, h2⟩, rfl⟩ := h
    exact ⟨a, vs, rfl, .inr (same_t s h1), q _ F2 H2 (Grow.refl s) (by rw [paired_len h2]; rfl)⟩) hg (he := he)

/-! data of any depth -/
theorem e_di (h : EvE X e σ F rInt i) : EvE X e σ F (rDat X.K) (.int i) := h.re fun _ _ r => by cases r; exact .int i
theorem e_db {t : Bool} (h : EvE X e σ F rBool t) : EvE X e σ F (rDat X.K) (.bool t) := h.re fun _ _ r => by cases r; exact .bl t
theorem e_dn (h : EvE X e σ F rNon ()) : EvE X e σ F (rDat X.K) .none := h.re fun _ _ r => by cases r; exact .non
theorem e_ds {t : Str} (h : EvE X e σ F rStr t) : EvE X e σ F (rDat X.K) (.str t) := h.re fun _ _ r => by cases r; exact .str t
theorem dpAll_of {K : PySem.W.Frag} {F : Hp} : ∀ {vs : List V} {ds : List PyData}, Paired (rDat K F) vs ds → DpAll K F vs ds
  | _, _, .nil => .nil
  | _, _, .cons h t => .cons h (dpAll_of t)
theorem of_dpAll {K : PySem.W.Frag} {F : Hp} : ∀ {vs : List V} {ds : List PyData}, DpAll K F vs ds → Paired (rDat K F) vs ds
  | _, _, .nil => .nil
  | _, _, .cons h t => .cons h (of_dpAll t)
theorem e_dl {ds : List PyData} (h : EvE X e σ F (rLst X.K (rDat X.K)) ds) : EvE X e σ F (rDat X.K) (.list ds) := h.re fun _ _ r => by
  obtain ⟨a, vs, rfl, h1, h2⟩ := r
  exact .lst h1 (dpAll_of h2)
theorem e_dt {ds : List PyData} (h : EvE X e σ F (rTup X.K (rDat X.K)) ds) : EvE X e σ F (rDat X.K) (.tuple ds) := h.re fun _ _ r => by
  obtain ⟨a, vs, rfl, h1, h2⟩ := r
  exact .tup h1 (dpAll_of h2)
def dOpt : Option Int → PyData
  | none => .none
  | some x => .int x
theorem e_do {o : Option Int} (h : EvE X e σ F (rOpt rInt) o) : EvE X e σ F (rDat X.K) (dOpt o) := h.re fun _ _ r => by
  cases o with
  | none => cases r; exact .non
  | some x => cases r; exact .int x
theorem t_eqD {d d' : PyData} (hu : X.A.units + 64 < cLine) (ha : EvE X a σ F (rDat X.K) d) (hb : EvE X b σ F (rDat X.K) d') (h1 : SeqAt.shaped d = true) (h2 : SeqAt.shaped d' = true) : EvT X (.Compare a [.Eq] [b] pos) σ F (PyData.eqv d d') :=
  t_cmp (op_eqD hu) (nomark _) ha hb fun F2 H2 v u _ s e1 e2 Q q => ⟨d, d', dp_mono s _ _ e1, dp_mono s _ _ e2, h1, h2, q F2 H2 (Grow.refl s)⟩
theorem t_neD {d d' : PyData} (hu : X.A.units + 64 < cLine) (ha : EvE X a σ F (rDat X.K) d) (hb : EvE X b σ F (rDat X.K) d') (h1 : SeqAt.shaped d = true) (h2 : SeqAt.shaped d' = true) : EvT X (.Compare a [.NotEq] [b] pos) σ F (!PyData.eqv d d') :=
  t_cmp (op_neD hu) (nomark _) ha hb fun F2 H2 v u _ s e1 e2 Q q => ⟨d, d', dp_mono s _ _ e1, dp_mono s _ _ e2, h1, h2, q F2 H2 (Grow.refl s)⟩
theorem e_eqD {d d' : PyData} (hu : X.A.units + 64 < cLine) (ha : EvE X a σ F (rDat X.K) d) (hb : EvE X b σ F (rDat X.K) d') (h1 : SeqAt.shaped d = true) (h2 : SeqAt.shaped d' = true) : EvE X (.Compare a [.Eq] [b] pos) σ F rBool (PyData.eqv d d') :=
  e_cmp (op_eqD hu) (nomark _) ha hb fun F2 H2 v u _ s e1 e2 Q q => ⟨d, d', dp_mono s _ _ e1, dp_mono s _ _ e2, h1, h2, q _ F2 H2 (Grow.refl s) rfl⟩
theorem e_neD {d d' : PyData} (hu : X.A.units + 64 < cLine) (ha : EvE X a σ F (rDat X.K) d) (hb : EvE X b σ F (rDat X.K) d') (h1 : SeqAt.shaped d = true) (h2 : SeqAt.shaped d' = true) : EvE X (.Compare a [.NotEq] [b] pos) σ F rBool (!PyData.eqv d d') :=
  e_cmp (op_neD hu) (nomark _) ha hb fun F2 H2 v u _ s e1 e2 Q q => ⟨d, d', dp_mono s _ _ e1, dp_mono s _ _ e2, h1, h2, q _ F2 H2 (Grow.refl s) rfl⟩
end

/-! ### what is walked -/
/-- at any heap that has what F has, it yields what tells xs, one by one -/
structure SrcOk {α : Type} (J : It) (F : Hp) (r : Rp α) (xs : List α) : Prop where
  go : ∀ i F1 H, Same F F1 → Same F1 H → i < xs.length → J.go i H
  yld : ∀ i F1 H v H' x, Same F F1 → Same F1 H → xs[i]? = some x → J.yld i H v H' → ∃ F', Grow F1 H F' H' ∧ r F' v x
  stop : ∀ F1 H, Same F F1 → Same F1 H → J.stop xs.length H
def wI (X : Cx) (tg iter : Expr) : TI := fun σ H R => ∀ (pins : List (Addr × Obj)) (s : Shared), L2.Inv X pins σ H s → wpAny (model X.prog X.w) X.A (eval iter X.env) (fun v s1 => wpAny (model X.prog X.w) X.A (pyIter v) (PIE X pins σ tg R) X.xe s1) X.xe s
theorem pi_w {X : Cx} {tg iter : Expr} : PI X tg iter (wI X tg iter) := ⟨fun pins s σ H R I h => h pins s I⟩
theorem wi_of {X : Cx} {tg iter : Expr} {t : TI} {σ : L2.St} {H : Hp} {R : It → Hp → Prop} (h : PI X tg iter t) (q : t σ H R) : wI X tg iter σ H R := fun pins s I => h.run pins s σ H R I q
def EvI {α : Type} (X : Cx) (tg iter : Expr) (σ : L2.St) (F : Hp) (r : Rp α) (xs : List α) : Prop :=
  ∀ F1 H1, Same F F1 → Same F1 H1 → ∀ R : It → Hp → Prop, (∀ J F2 H2, Grow F1 H1 F2 H2 → SrcOk J F2 r xs → R J H2) → wI X tg iter σ H1 R
section
variable {X : Cx} {σ : L2.St} {F F' H : Hp} {α β γ : Type} {pos p : Pos} {a b c e tg iter : Expr} {r : Rp α} {xs : List α} {x : α} {n : Str} {rest A : List Stmt} {D : Ends}
theorem src_list {K : PySem.W.Frag} [Mono r] {l : Addr} {vs : List V} (h1 : SqL K F l vs) (h2 : Paired (r F) vs xs) : SrcOk (Itl K l) F r xs := by
  have hl := paired_len h2
  refine ⟨fun i F1 H s s1 hi => ⟨vs, vs[i]'(by omega), (s.trans s1).seq h1, List.getElem?_eq_getElem (by omega)⟩, fun i F1 H v H' x s s1 hx y => ?_, fun F1 H s s1 => ⟨vs, (s.trans s1).seq h1, by omega⟩⟩
  obtain ⟨rfl, y⟩ := y
  obtain ⟨v', e, rv⟩ := paired_at h2 hx
  have q := y vs ((s.trans s1).seq h1)
  rw [e] at q
  cases q
  exact ⟨F1, Grow.refl s1, Mono.mono s rv⟩
theorem src_tup {K : PySem.W.Frag} [Mono r] {l : Addr} {vs : List V} (h1 : SqT K F l vs) (h2 : Paired (r F) vs xs) : SrcOk (Itt K l) F r xs := by
  have hl := paired_len h2
  refine ⟨fun i F1 H s s1 hi => ⟨vs, vs[i]'(by omega), same_t (s.trans s1) h1, List.getElem?_eq_getElem (by omega)⟩, fun i F1 H v H' x s s1 hx y => ?_, fun F1 H s s1 => ⟨vs, same_t (s.trans s1) h1, by omega⟩⟩
  obtain ⟨rfl, y⟩ := y
  obtain ⟨v', e, rv⟩ := paired_at h2 hx
  have q := y vs (same_t (s.trans s1) h1)
  rw [e] at q
  cases q
  exact ⟨F1, Grow.refl s1, Mono.mono s rv⟩
/-- lo, lo + 1, .. -/
def upI (lo : Int) (n : Nat) : List Int := (List.range n).map fun (k : Nat) => lo + (k : Int)
theorem upI_len (lo : Int) (n : Nat) : (upI lo n).length = n := by simp [upI]
theorem upI_at {lo : Int} {n i : Nat} (h : i < n) : (upI lo n)[i]? = some (lo + i) := by
  unfold upI
  rw [List.getElem?_map, List.getElem?_range h]
  rfl
theorem src_rng {lo : Int} {n : Nat} : SrcOk (Itr lo n) F rInt (upI lo n) := by
  refine ⟨fun i F1 H s s1 hi => by rw [upI_len] at hi; exact hi, fun i F1 H v H' x s s1 hx y => ?_, fun F1 H s s1 => by show n ≤ _; rw [upI_len]; exact Nat.le_refl _⟩
  obtain ⟨rfl, rfl⟩ := y
  have hi : i < n := by
    have := (List.getElem?_eq_some_iff.mp hx).1
    rw [upI_len] at this
    exact this
  rw [upI_at hi] at hx
  cases hx
  exact ⟨F1, Grow.refl s1, rfl⟩
theorem i_list [Mono r] (h : EvE X iter σ F (rLst X.K r) xs) : EvI X tg iter σ F r xs := fun F1 H1 s1 s2 R q => wi_of (pi_list pe_w) (h F1 H1 s1 s2 _ fun v F2 H2 g r2 => by
  obtain ⟨l, vs, rfl, h1, h2⟩ := r2
  exact ⟨l, rfl, ⟨vs, g.s.seq h1⟩, q _ F2 H2 g (src_list h1 h2)⟩)
theorem i_tup [Mono r] (h : EvE X iter σ F (rTup X.K r) xs) : EvI X tg iter σ F r xs := fun F1 H1 s1 s2 R q => wi_of (pi_tup pe_w) (h F1 H1 s1 s2 _ fun v F2 H2 g r2 => by
  obtain ⟨l, vs, rfl, h1, h2⟩ := r2
  exact ⟨l, rfl, ⟨vs, same_t g.s h1⟩, q _ F2 H2 g (src_tup h1 h2)⟩)
theorem i_rng1 {m : Int} (hm : X.mg "range" = none) (h : EvE X a σ F rInt m) (h0 : -(2 ^ 62) ≤ m) (h1 : m < 2 ^ 62) (hg : Gl X "range" := by rfl) (hs : starEach [a] X.env = [(false, eval a X.env)] := by rfl) : EvI X tg (.Call (.Name "range" p) [a] [] pos) σ F rInt (upI 0 m.toNat) := fun F1 H1 s1 s2 R q =>
  wi_of (pi_range1 hg hm (pa_cons pe_w pa_nil hs) hs) (h F1 H1 s1 s2 _ fun v F2 H2 g r2 => by
    cases r2
    exact ⟨m, rfl, h0, h1, q _ F2 H2 g src_rng⟩)
theorem i_rng2 {m k : Int} (hm : X.mg "range" = none) (h : EvE X a σ F rInt m) (h' : EvE X b σ F rInt k) (h0 : -(2 ^ 62) ≤ m ∧ m < 2 ^ 62 ∧ -(2 ^ 62) ≤ k ∧ k < 2 ^ 62) (hg : Gl X "range" := by rfl) (hs : starEach [a, b] X.env = [(false, eval a X.env), (false, eval b X.env)] := by rfl) (hs2 : starEach [b] X.env = [(false, eval b X.env)] := by rfl) :
    EvI X tg (.Call (.Name "range" p) [a, b] [] pos) σ F rInt (upI m (k - m).toNat) := fun F1 H1 s1 s2 R q =>
  wi_of (pi_range2 hg hm (pa_cons pe_w (pa_cons pe_w pa_nil hs2) (hs.trans (by rw [hs2]))) hs hs2) (h F1 H1 s1 s2 _ fun v F2 H2 g r2 => h' F2 H2 (s1.trans g.f) g.s _ fun v' F3 H3 g3 r3 => by
    cases r2; cases r3
    exact ⟨m, k, rfl, h0, q _ F3 H3 (g.trans g3) src_rng⟩)

/-- a loop: P holds of (turns, what stands for good, names, heap) -/
theorem s_for {g : TG} (hit : EvI X tg iter σ F r xs) (s : Same F H) (hg : PG X tg g) (Pv : Nat → Hp → L2.St → Hp → Prop) (h0 : ∀ F2 H2, Grow F H F2 H2 → Pv 0 F2 σ H2)
    (turn : ∀ i F1 σ1 H1 v F2 H2 x, xs[i]? = some x → Pv i F1 σ1 H1 → Same F F1 → Grow F1 H1 F2 H2 → r F2 v x → g v σ1 H2 fun σ2 H3 => wS X A { D with nx := fun σ3 H4 => ∃ F4, Same F1 F4 ∧ Same F4 H4 ∧ Pv (i + 1) F4 σ3 H4, ct := fun σ3 H4 => ∃ F4, Same F1 F4 ∧ Same F4 H4 ∧ Pv (i + 1) F4 σ3 H4, bk := wS X rest D } σ2 H3)
    (hd : ∀ F1 σ1 H1, Same F F1 → Same F1 H1 → Pv xs.length F1 σ1 H1 → wS X rest D σ1 H1) (hp : PassesOwn (model X.prog X.w) X.A X.env X.xe) (hc : X.calm = true := by rfl) (hs : ∀ x, foldedSetIterable iter X.env x = pure x := by intro _; rfl) :
    wS X (.For tg iter A [] pos :: rest) D σ H := by
  refine ws_seq (ps_for hp hc pi_w hg pss_w hs) (hit F H (Same.refl F) s _ fun J F2 H2 g2 src => ?_)
  refine ⟨fun i m σ1 H1 => m = xs.length - i ∧ i ≤ xs.length ∧ ∃ F1, Same F2 F1 ∧ Same F1 H1 ∧ Pv i F1 σ1 H1, ⟨xs.length, by simp, Nat.zero_le _, F2, Same.refl F2, g2.s, h0 F2 H2 g2⟩, ?_⟩
  rintro i m σ1 H1 ⟨rfl, hi, F1, sf, s1, p⟩
  by_cases hlt : i < xs.length
  · refine .inr ⟨src.go i F1 H1 sf s1 hlt, fun σ3 H4 => ∃ F4, Same F1 F4 ∧ Same F4 H4 ∧ Pv (i + 1) F4 σ3 H4, fun σ' H' ⟨F4, a1, a2, a3⟩ => ⟨xs.length - (i + 1), by omega, rfl, hlt, F4, sf.trans a1, a2, a3⟩, fun v H' y => ?_⟩
    obtain ⟨F', g', rv⟩ := src.yld i F1 H1 v H' xs[i] sf s1 (List.getElem?_eq_getElem hlt) y
    exact turn i F1 σ1 H1 v F' H' xs[i] (List.getElem?_eq_getElem hlt) p (g2.f.trans sf) g' rv
  · have e : i = xs.length := by omega
    subst e
    exact .inl ⟨src.stop F1 H1 sf s1, hd F1 σ1 H1 (g2.f.trans sf) s1 p⟩
end
end Fw

namespace Fw
open PySem PySem.Spec PyProof.Rows L2

/-! ### comprehensions -/
/-- a comprehension's block -/
abbrev Blk (X : Cx) (scope : Scope) (s : Shared) (H0 : Hp) (C : Addr) (cl : List (Str × Addr)) (fp : List Addr) : Cx := X.blk s H0 scope (compEnvC scope cl C X.env) fp
def bE (X : Cx) (scope : Scope) (e : Expr) : TE := fun σ H Q => ∀ (s : Shared) (H0 : Hp) (C : Addr) (cl : List (Str × Addr)) (fp : List Addr), wE (Blk X scope s H0 C cl fp) e σ H Q
def bT (X : Cx) (scope : Scope) (e : Expr) : TT := fun σ H Q => ∀ (s : Shared) (H0 : Hp) (C : Addr) (cl : List (Str × Addr)) (fp : List Addr), wT (Blk X scope s H0 C cl fp) e σ H Q
/-- it makes a list that tells ys -/
def LcOk {β : Type} (X : Cx) (elt tg iter : Expr) (ifs : List Expr) (scope : Scope) (σ : L2.St) (F : Hp) (r' : Rp β) (ys : List β) : Prop :=
  ∃ (own : List (Str × Nat)) (wi : TI) (g : TG) (tt : TT) (te : TE), X.N.Nodup ∧ PI X tg iter wi ∧ BlkOk X.N X.env.scope scope own ∧
    (∀ (s : Shared) (H0 : Hp) (C : Addr) (cl : List (Str × Addr)) (fp : List Addr), PG (Blk X scope s H0 C cl fp) tg g) ∧
    (∀ (s : Shared) (H0 : Hp) (C : Addr) (cl : List (Str × Addr)) (fp : List Addr), PTs (Blk X scope s H0 C cl fp) ifs tt) ∧
    (∀ (s : Shared) (H0 : Hp) (C : Addr) (cl : List (Str × Addr)) (fp : List Addr), PE (Blk X scope s H0 C cl fp) elt te) ∧
    ∀ F1 H1, Same F F1 → Same F1 H1 → ∀ Q : VK, (∀ v F2 H2, Grow F1 H1 F2 H2 → rLst X.K r' F2 v ys → Q v H2) → tLc wi g tt te (own.map (·.2)) σ H1 Q
section
variable {X : Cx} {σ : L2.St} {F F' H : Hp} {α α1 α2 α3 β γ : Type} {pos p : Pos} {elt tg iter c : Expr} {ifs : List Expr} {scope : Scope} {r : Rp α} {xs : List α} {x : α} {n : Str} {r' : Rp β}
theorem e_lc {ys : List β} (h : LcOk X elt tg iter ifs scope σ F r' ys) (hc : X.calm = true := by rfl) (hs : ∀ x, foldedSetIterable iter X.env x = pure x := by intro _; rfl) : EvE X (.ListComp elt [⟨tg, iter, ifs, 0⟩] scope pos) σ F (rLst X.K r') ys := fun F1 H1 s1 s2 Q q => by
  obtain ⟨own, wi, g, tt, te, nd, h1, h2, h3, h4, h5, h6⟩ := h
  exact we_of (pe_lc hc nd h1 h2 h3 h4 h5 hs) (h6 F1 H1 s1 s2 Q q)
/-- y = [..], y a plain local name -/
theorem s_setLc {ys : List β} {rest : List Stmt} {D : Ends} {y : Str} {py spos : Pos} (i : Nat) (h : LcOk X elt tg iter ifs scope σ F r' ys) (s : Same F H) (k : ∀ v F2 H2, Grow F H F2 H2 → rLst X.K r' F2 v ys → wS X rest D (σ.set i (some v)) H2)
    (hy : X.N[i]? = some y := by rfl) (hyl : X.env.scope.names.lookup y = some .local := by rfl) (hsw : swapsWith (.ListComp elt [⟨tg, iter, ifs, 0⟩] scope pos) (some (.Name y py)) spos.line X.env = pure true := by exact sw_true rfl rfl rfl (by decide +kernel))
    (hc : X.calm = true := by rfl) (hs : ∀ x, foldedSetIterable iter X.env x = pure x := by intro _; rfl) : wS X (.Assign [.Name y py] (.ListComp elt [⟨tg, iter, ifs, 0⟩] scope pos) spos :: rest) D σ H := by
  obtain ⟨own, wi, g, tt, te, nd, h1, h2, h3, h4, h5, h6⟩ := h
  exact ws_seq (ps_setLc hc nd hy hyl hsw h1 h2 h3 h4 h5 hs) (h6 F H (Same.refl F) s _ fun v F2 H2 g r2 => k v F2 H2 g r2)

/-- the rule: Bd tells how an item is bound to names -/
theorem lc_any {own : List (Str × Nat)} {g : TG} {tt : TT} {te : TE} {pr : α → Bool} {f : α → β} [Mono r'] (nd : X.N.Nodup) (hit : EvI X tg iter σ F r xs) (ok : BlkOk X.N X.env.scope scope own)
    (hg : ∀ (s : Shared) (H0 : Hp) (C : Addr) (cl : List (Str × Addr)) (fp : List Addr), PG (Blk X scope s H0 C cl fp) tg g)
    (ht : ∀ (s : Shared) (H0 : Hp) (C : Addr) (cl : List (Str × Addr)) (fp : List Addr), PTs (Blk X scope s H0 C cl fp) ifs tt)
    (he : ∀ (s : Shared) (H0 : Hp) (C : Addr) (cl : List (Str × Addr)) (fp : List Addr), PE (Blk X scope s H0 C cl fp) elt te)
    (turn : ∀ F1 H1 v x, Same F F1 → Same F1 H1 → x ∈ xs → r F1 v x → ∀ Qn : V → Hp → Prop, ∀ Qs : Hp → Prop, (pr x = true → ∀ y F2 H2, Grow F1 H1 F2 H2 → r' F2 y (f x) → Qn y H2) → (pr x = false → ∀ F2 H2, Grow F1 H1 F2 H2 → Qs H2) →
      g v (wipe σ (own.map (·.2))) H1 fun σ2 H2 => wipe σ2 (own.map (·.2)) = wipe σ (own.map (·.2)) ∧ tt σ2 H2 fun b H3 => if b = true then te σ2 H3 Qn else Qs H3)
    (hl : xs.length ≤ 100000) : LcOk X elt tg iter ifs scope σ F r' ((xs.filter pr).map f) := by
  refine ⟨own, _, g, tt, te, nd, pi_w, ok, hg, ht, he, fun F0 H0 s1 s2 Q q => ?_⟩
  refine hit F0 H0 s1 s2 _ fun J F1 H1 g1 src D hD => ?_
  have hFD : F1 D = none := g1.s.free hD
  let ys : Nat → List β := fun i => ((xs.take i).filter pr).map f
  have ys_le : ∀ i, (ys i).length ≤ i := fun i => by
    show (((xs.take i).filter pr).map f).length ≤ i
    rw [List.length_map]
    exact Nat.le_trans (List.length_filter_le _ _) (by rw [List.length_take]; exact Nat.min_le_left _ _)
  refine ⟨fun i m H => m = xs.length - i ∧ i ≤ xs.length ∧ ∃ F2 vs, Grow F1 H1 F2 H ∧ F2 D = none ∧ H D = some (.lst vs) ∧ Paired (r' F2) vs (ys i),
    ⟨xs.length, by simp, Nat.zero_le _, F1, [], Grow.side g1.s (same_new hD), hFD, upd_same, .nil⟩, ?_⟩
  rintro i m H ⟨rfl, hi, F2, vs, g2, hF2, hH, hp⟩
  by_cases hlt : i < xs.length
  · right
    have hx : xs[i]? = some xs[i] := List.getElem?_eq_getElem hlt
    refine ⟨src.go i F2 H g2.f g2.s hlt, fun H' => ∃ F3 vs, Grow F1 H1 F3 H' ∧ F3 D = none ∧ H' D = some (.lst vs) ∧ Paired (r' F3) vs (ys (i + 1)), fun H' ⟨F3, vs', a1, a2, a3, a4⟩ => ⟨xs.length - (i + 1), by omega, rfl, hlt, F3, vs', a1, a2, a3, a4⟩, fun v H' y => ?_⟩
    obtain ⟨F3, g3, rv⟩ := src.yld i F2 H v H' xs[i] g2.f g2.s hx y
    have hys : ys (i + 1) = ys i ++ (if pr xs[i] then [f xs[i]] else []) := by
      show ((xs.take (i + 1)).filter pr).map f = _
      rw [List.take_add_one, hx, List.filter_append, List.map_append]
      congr 1
      show (([xs[i]] : List α).filter pr).map f = _
      by_cases hq : pr xs[i] = true
      · rw [if_pos hq, List.filter_cons_of_pos hq]; rfl
      · rw [if_neg hq, List.filter_cons_of_neg hq]; rfl
    have fr : ∀ {F4 H4 : Hp}, Grow F3 H' F4 H4 → F4 D = none ∧ H4 D = some (.lst vs) := fun {F4 H4} g4 => by
      have gg := g3.trans g4
      refine ⟨?_, gg.h D _ hH⟩
      cases e : F4 D with
      | none => rfl
      | some o =>
        rcases gg.n D o e with z | z
        · rw [hF2] at z; cases z
        · rw [hH] at z; cases z
    refine turn F3 H' v xs[i] (s1.trans (g1.f.trans (g2.f.trans g3.f))) g3.s (List.getElem_mem hlt) rv _ _ (fun ht y F4 H4 g4 ry => ?_) (fun hf F4 H4 g4 => ?_)
    · obtain ⟨e1, e2⟩ := fr g4
      refine ⟨vs, e2, ?_, F4, vs ++ [y], ?_, e1, upd_same, ?_⟩
      · rw [paired_len hp]
        exact Nat.lt_of_le_of_lt (Nat.le_trans (ys_le i) (Nat.le_trans hi hl)) (by decide)
      · have gg := (g2.trans g3).trans g4
        refine ⟨gg.f, fun b o z => ?_, fun b o z => ?_, gg.n⟩
        · rw [upd_ne (show b ≠ D from fun w => by subst w; rw [e1] at z; cases z)]
          exact gg.s b o z
        · rw [upd_ne (show b ≠ D from fun w => by subst w; rw [hD] at z; cases z)]
          exact gg.h b o z
      · rw [hys, if_pos ht]
        exact paired_app (paired_mono (fun _ _ => Mono.mono (g3.f.trans g4.f)) hp) (.cons ry .nil)
    · obtain ⟨e1, e2⟩ := fr g4
      refine ⟨F4, vs, (g2.trans g3).trans g4, e1, e2, ?_⟩
      rw [hys, if_neg (by rw [hf]; exact Bool.false_ne_true), List.append_nil]
      exact paired_mono (fun _ _ => Mono.mono (g3.f.trans g4.f)) hp
  · left
    have e : i = xs.length := by omega
    subst e
    refine ⟨src.stop F2 H g2.f g2.s, q _ (upd F2 D (.lst vs)) H (g1.trans ?_) ⟨D, vs, rfl, .inl (.inl upd_same), ?_⟩⟩
    · refine ⟨fun b o z => ?_, fun b o z => ?_, g2.h, fun b o z => ?_⟩
      · exact same_new hF2 b o (g2.f b o z)
      · by_cases w : b = D
        · subst w; rw [upd_same] at z; rw [← z]; exact hH
        · rw [upd_ne w] at z; exact g2.s b o z
      · by_cases w : b = D
        · subst w; exact .inr hD
        · rw [upd_ne w] at z; exact g2.n b o z
    · have : ys xs.length = (xs.filter pr).map f := by
        show ((xs.take xs.length).filter pr).map f = _
        rw [List.take_length]
      rw [← this]
      exact paired_mono (fun _ _ => Mono.mono (same_new hF2)) hp

abbrev BlkE (X : Cx) (scope : Scope) (e : Expr) (σ : L2.St) (F : Hp) (r : Rp β) (y : β) : Prop := ∀ (s : Shared) (H0 : Hp) (C : Addr) (cl : List (Str × Addr)) (fp : List Addr), EvE (Blk X scope s H0 C cl fp) e σ F r y
abbrev BlkT (X : Cx) (scope : Scope) (e : Expr) (σ : L2.St) (F : Hp) (y : Bool) : Prop := ∀ (s : Shared) (H0 : Hp) (C : Addr) (cl : List (Str × Addr)) (fp : List Addr), EvT (Blk X scope s H0 C cl fp) e σ F y
abbrev BlkG (X : Cx) (scope : Scope) (tg : Expr) (g : TG) : Prop := ∀ (s : Shared) (H0 : Hp) (C : Addr) (cl : List (Str × Addr)) (fp : List Addr), PG (Blk X scope s H0 C cl fp) tg g
theorem filter_all (xs : List α) : xs.filter (fun _ => true) = xs := by
  induction xs with
  | nil => rfl
  | cons a r ih => rw [List.filter_cons_of_pos rfl, ih]
/-- [elt for n in iter], n in the i-th slot -/
theorem lc1 {tp : Pos} {f : α → β} [Mono r'] (i : Nat) (nd : X.N.Nodup) (hg : BlkG X scope (.Name n tp) (gName i)) (hit : EvI X (.Name n tp) iter σ F r xs)
    (he : ∀ F1 v x, Same F F1 → x ∈ xs → r F1 v x → BlkE X scope elt (σ.set i (some v)) F1 r' (f x)) (hl : xs.length ≤ 100000) (ok : BlkOk X.N X.env.scope scope [(n, i)]) : LcOk X elt (.Name n tp) iter [] scope σ F r' (xs.map f) := by
  have key : LcOk X elt (.Name n tp) iter [] scope σ F r' ((xs.filter fun _ => true).map f) := by
    refine lc_any (own := [(n, i)]) (pr := fun _ => true) (f := f) (tt := tYes) (te := bE X scope elt) nd hit ok hg (fun _ _ _ _ _ => pts_nil) (fun s H0 C cl fp => ⟨fun pins s' σ H Q I h => h s H0 C cl fp pins s' I⟩) (fun F1 H1 v x s1 s2 hx rv Qn Qs qn _ => ?_) hl
    refine ⟨by show ((σ.set i none).set i (some v)).set i none = σ.set i none; rw [List.set_set, List.set_set], ?_⟩
    show bE X scope elt ((σ.set i none).set i (some v)) H1 Qn
    rw [List.set_set]
    exact fun s H0 C cl fp => he F1 v x s1 hx rv s H0 C cl fp F1 H1 (Same.refl F1) s2 Qn fun y F2 H2 g2 ry => qn rfl y F2 H2 g2 ry
  rw [filter_all] at key
  exact key
/-- [elt for n in iter if c] -/
theorem lc1f {tp : Pos} {pr : α → Bool} {f : α → β} [Mono r'] [Mono r] (i : Nat) (nd : X.N.Nodup) (hg : BlkG X scope (.Name n tp) (gName i)) (hit : EvI X (.Name n tp) iter σ F r xs)
    (ht : ∀ F1 v x, Same F F1 → x ∈ xs → r F1 v x → BlkT X scope c (σ.set i (some v)) F1 (pr x))
    (he : ∀ F1 v x, Same F F1 → x ∈ xs → pr x = true → r F1 v x → BlkE X scope elt (σ.set i (some v)) F1 r' (f x)) (hl : xs.length ≤ 100000) (ok : BlkOk X.N X.env.scope scope [(n, i)]) : LcOk X elt (.Name n tp) iter [c] scope σ F r' ((xs.filter pr).map f) := by
  refine lc_any (own := [(n, i)]) (pr := pr) (f := f) (tt := bT X scope c) (te := bE X scope elt) nd hit ok hg (fun s H0 C cl fp => pts_one ⟨fun pins s' σ H Q I h => h s H0 C cl fp pins s' I⟩) (fun s H0 C cl fp => ⟨fun pins s' σ H Q I h => h s H0 C cl fp pins s' I⟩) (fun F1 H1 v x s1 s2 hx rv Qn Qs qn qs => ?_) hl
  refine ⟨by show ((σ.set i none).set i (some v)).set i none = σ.set i none; rw [List.set_set, List.set_set], ?_⟩
  show bT X scope c ((σ.set i none).set i (some v)) H1 fun b H3 => if b = true then bE X scope elt ((σ.set i none).set i (some v)) H3 Qn else Qs H3
  rw [List.set_set]
  intro s H0 C cl fp
  refine ht F1 v x s1 hx rv s H0 C cl fp F1 H1 (Same.refl F1) s2 _ fun F2 H2 g2 => ?_
  by_cases hq : pr x = true
  · rw [hq, if_pos rfl]
    intro s H0 C cl fp
    exact he F2 v x (s1.trans g2.f) hx hq (Mono.mono g2.f rv) s H0 C cl fp F2 H2 (Same.refl F2) g2.s Qn fun y F3 H3 g3 ry => qn hq y F3 H3 (g2.trans g3) ry
  · have hq : pr x = false := by simpa using hq
    rw [hq, if_neg Bool.false_ne_true]
    exact qs hq F2 H2 g2
/-- the pair's parts to two names -/
theorem g_t2 {K : PySem.W.Frag} {r1 : Rp α1} {r2 : Rp α2} {q : α1 × α2} {i j : Nat} {v : V} {F1 H1 : Hp} {σ : L2.St} {Q : L2.St → Hp → Prop} (s : Same F1 H1) (h : rT2 K r1 r2 F1 v q) (k : ∀ v1 v2, r1 F1 v1 q.1 → r2 F1 v2 q.2 → Q ((σ.set i (some v1)).set j (some v2)) H1) :
    gTup K 2 (gCons (gName i) (gCons (gName j) gNil)) v σ H1 Q := by
  obtain ⟨a, v1, v2, rfl, h1, h2, h3⟩ := h
  exact ⟨a, _, rfl, same_t s h1, rfl, v1, _, rfl, v2, _, rfl, rfl, k v1 v2 h2 h3⟩
theorem g_t3 {K : PySem.W.Frag} {r1 : Rp α1} {r2 : Rp α2} {r3 : Rp α3} {q : α1 × α2 × α3} {i j l : Nat} {v : V} {F1 H1 : Hp} {σ : L2.St} {Q : L2.St → Hp → Prop} (s : Same F1 H1) (h : rT3 K r1 r2 r3 F1 v q)
    (k : ∀ v1 v2 v3, r1 F1 v1 q.1 → r2 F1 v2 q.2.1 → r3 F1 v3 q.2.2 → Q (((σ.set i (some v1)).set j (some v2)).set l (some v3)) H1) :
    gTup K 3 (gCons (gName i) (gCons (gName j) (gCons (gName l) gNil))) v σ H1 Q := by
  obtain ⟨a, v1, v2, v3, rfl, h1, h2, h3, h4⟩ := h
  exact ⟨a, _, rfl, same_t s h1, rfl, v1, _, rfl, v2, _, rfl, v3, _, rfl, rfl, k v1 v2 v3 h2 h3 h4⟩
end
end Fw

namespace Fw
open PySem PySem.Spec PyProof.Rows L2

/-! ### a list that changes: the pen of the laws -/
/-- at pn the pen, at most N cells begun -/
def PenAt (K : PySem.W.Frag) (F H : Hp) (pn : Addr) (N : Nat) : Prop :=
  F pn = none ∧ ∃ (ca : Addr) (ns : List Int) (q l : Int), SqL K F ca (ns.map V.int) ∧ 0 ≤ q ∧ q ≤ (N : Int) ∧ 0 ≤ l ∧ H pn = some (.lst [.ref ca, .int q, .int l])
/-- only the pen has changed -/
structure Step (pn : Addr) (F H F' H' : Hp) : Prop where
  f : Same F F'
  s : Same F' H'
  h : ∀ b o, b ≠ pn → H b = some o → H' b = some o
  t : H pn ≠ none → H' pn ≠ none
  n : ∀ b o, F' b = some o → F b = some o ∨ H b = none
theorem Step.refl {pn : Addr} {F H : Hp} (s : Same F H) : Step pn F H F H := ⟨Same.refl F, s, fun _ _ _ e => e, fun h => h, fun _ _ e => .inl e⟩
theorem Step.of {pn : Addr} {F H F' H' : Hp} (g : Grow F H F' H') : Step pn F H F' H' := ⟨g.f, g.s, fun b o _ e => g.h b o e, fun h => by
  cases e : H pn with
  | none => exact absurd e h
  | some o => rw [g.h pn o e]; exact (fun z => nomatch z), g.n⟩
theorem Step.trans {pn : Addr} {F H F1 H1 F2 H2 : Hp} (a : Step pn F H F1 H1) (b : Step pn F1 H1 F2 H2) : Step pn F H F2 H2 :=
  ⟨a.f.trans b.f, b.s, fun c o hc e => b.h c o hc (a.h c o hc e), fun h => b.t (a.t h), fun c o e => (b.n c o e).elim (fun q => a.n c o q) fun q => .inr (by
    by_cases hc : c = pn
    · subst hc
      cases z : H c with
      | none => rfl
      | some o => exact absurd q (a.t (by rw [z]; exact (fun w => nomatch w)))
    · cases z : H c with
      | none => rfl
      | some o => rw [a.h c o hc z] at q; cases q)⟩
theorem Step.grow {pn : Addr} {F H F1 H1 F2 H2 : Hp} (a : Step pn F H F1 H1) (b : Grow F1 H1 F2 H2) : Step pn F H F2 H2 := a.trans (.of b)
section
variable {K : PySem.W.Frag} {F H F' H' : Hp} {pn : Addr} {N M : Nat}
theorem PenAt.some (h : PenAt K F H pn N) : H pn ≠ none := by
  obtain ⟨_, ca, ns, q, l, _, _, _, _, e⟩ := h
  rw [e]
  exact (fun z => nomatch z)
theorem PenAt.grow (h : PenAt K F H pn N) (g : Grow F H F' H') : PenAt K F' H' pn N := by
  have hs := h.some
  obtain ⟨h0, ca, ns, q, l, h1, h2, h3, h4, e⟩ := h
  refine ⟨?_, ca, ns, q, l, g.f.seq h1, h2, h3, h4, g.h _ _ e⟩
  cases z : F' pn with
  | none => rfl
  | some o =>
    rcases g.n pn o z with w | w
    · rw [h0] at w; cases w
    · exact absurd w hs
theorem PenAt.mono (h : PenAt K F H pn N) (hn : N ≤ M) : PenAt K F H pn M := by
  obtain ⟨h0, ca, ns, q, l, h1, h2, h3, h4, e⟩ := h
  exact ⟨h0, ca, ns, q, l, h1, h2, by omega, h4, e⟩
end

/-- a list's values as they are -/
def rRaw (K : PySem.W.Frag) : Rp (List V) := fun F v vs => ∃ a, v = .ref a ∧ SqL K F a vs
instance {K : PySem.W.Frag} : Mono (rRaw K) := ⟨fun s h => by
  obtain ⟨a, e, h⟩ := h
  exact ⟨a, e, s.seq h⟩⟩
section
variable {X : Cx} {σ : L2.St} {F F' H : Hp} {α β γ : Type} {pos p : Pos} {a b c e : Expr} {r : Rp α} {n : Str} {es : List Expr} {rest : List Stmt} {D : Ends}
theorem e_ixRaw {vs : List V} {i : Int} {x : α} {v : V} [Mono r] (ha : EvE X a σ F (rRaw X.K) vs) (hb : EvE X b σ F rInt i) (hv : atI vs i = some v) (hr : r F v x) (hs : PlainIx b := by exact fun _ _ => rfl) : EvE X (.Subscript a b pos) σ F r x :=
  e_op2 (pe_ix ix_list pe_w pe_w hs) rfl ha hb fun F2 H2 v' u s0 s e1 e2 Q q => by
    obtain ⟨p, rfl, h1⟩ := e1
    exact ⟨p, vs, i, v, rfl, e2, s.seq h1, hv, q v F2 H2 (Grow.refl s) (Mono.mono s0 hr)⟩
/-- pen[j] = an int, pen the list at pn, in the ip-th slot -/
theorem s_store {tpos np cp : Pos} {nm : Str} {x : Int} {vs : List V} {pn : Addr} {cj : Nat} {i : Int} (ip j : Nat) (he : EvE X e σ H rInt x) (hpn : H pn = some (.lst vs)) (hj : ixN vs.length i = some j)
    (k : ∀ H1, Same H H1 → wS X rest D σ (upd H1 pn (.lst (vs.set j (.int x)))))
    (hσ : σ[ip]? = some (some (.ref pn)) := by rfl) (hN : X.N[ip]? = some nm := by rfl) (hv : Vis X.env.scope nm := by first | exact Or.inl rfl | exact Or.inr (Or.inl rfl) | exact Or.inr (Or.inr rfl))
    (hd : (nm == ("__debug__" : Str)) = false := by decide) (hcd : (nm == ("__classdict__" : Str)) = false := by decide)
    (hs : swapsWithSole [.Subscript (.Name nm np) (.Constant (.int i) cj cp) tpos] e pos.line X.env = pure false := by rfl) (hw : swappedStores [.Subscript (.Name nm np) (.Constant (.int i) cj cp) tpos] e X.env = pure none := by rfl)
    (h1 : (assignEach [.Subscript (.Name nm np) (.Constant (.int i) cj cp) tpos] X.env).map (·.2) = [assign (.Subscript (.Name nm np) (.Constant (.int i) cj cp) tpos) X.env] := by rfl)
    (ha : ∀ v, assign (.Subscript (.Name nm np) (.Constant (.int i) cj cp) tpos) X.env v = (do
      let ov ← holding [v] (eval (.Name nm np) X.env)
      let iv ← holding [v, ov] (eval (.Constant (.int i) cj cp) X.env)
      standAt tpos
      holding [v, ov, iv] (setItem ov iv v)
      release [v, ov, iv] []) := by intro _; rfl) : wS X (.Assign [.Subscript (.Name nm np) (.Constant (.int i) cj cp) tpos] e pos :: rest) D σ H :=
  ws_seq (ps_asg pe_w (pg_sub (pv ip hN hv hd hcd) pe_int set_list ha) hs hw h1) (he H H (Same.refl H) (Same.refl H) _ fun v F1 H1 g r => by
    cases r
    exact ⟨.ref pn, hσ, pn, vs, i, j, rfl, rfl, g.h _ _ hpn, hj, k H1 g.h⟩)

/-! rows of values, to any end -/
theorem wa_nil {Q : List V → Hp → Prop} (h : Q [] H) : wA X [] σ H Q := wa_of pa_nil h
theorem wa_cons {Q : List V → Hp → Prop} (h : wE X a σ H fun v H1 => wA X es σ H1 fun vs H2 => Q (v :: vs) H2) (hs : starEach (a :: es) X.env = (false, eval a X.env) :: starEach es X.env := by rfl) : wA X (a :: es) σ H Q := wa_of (pa_cons pe_w pa_w hs) h
theorem w_bin {op : Operator} {r2 : R2} {Q : VK} (ho : OpR X (binaryOp op) r2) (h : wE X a σ H fun v H1 => wE X b σ H1 fun u H2 => r2 v u H2 Q) : wE X (.BinOp a op b pos) σ H Q := we_of (pe_op ho pe_w pe_w) h
theorem w_var {Q : VK} {v : V} (i : Nat) (q : Q v H) (hN : X.N[i]? = some n := by rfl) (hσ : σ[i]? = some (some v) := by rfl) (hv : Vis X.env.scope n := by first | exact Or.inl rfl | exact Or.inr (Or.inl rfl) | exact Or.inr (Or.inr rfl))
    (hd : (n == ("__debug__" : Str)) = false := by decide) (hcd : (n == ("__classdict__" : Str)) = false := by decide) : wE X (.Name n pos) σ H Q := we_of (pv i hN hv hd hcd) ⟨v, hσ, q⟩
theorem w_lst {Q : VK} (h : wA X es σ H fun vs H1 => vs.length ≤ 100000 ∧ ∀ p, H1 p = none → Q (.ref p) (upd H1 p (.lst vs))) : wE X (.List es pos) σ H Q := we_of (pe_lst pa_w) (by
  show wA X es σ H _
  exact fun pos pins s I => thn (h pos pins s I) fun us s2 ⟨vs, H2, I2, r, q1, q2⟩ => ⟨vs, H2, I2, r, sz_le q1, q2⟩)
theorem wt_not {Q : Bool → Hp → Prop} (h : wT X a σ H fun t H1 => Q (!t) H1) : wT X (.UnaryOp .Not a pos) σ H Q := wt_of (pt_not pt_w) h
theorem wt_val {Q : Bool → Hp → Prop} (h : wE X a σ H fun v H1 => ∃ t, v = .bl t ∧ Q t H1) (he : ∀ whole, PySem.isTrue a X.env whole = (do let v ← whole; standAt a.pos; holding [v] (truthy v)) := by intro _; rfl) : wT X a σ H Q := wt_of (pt_val pe_w he) h
theorem wt_bw {Q : Bool → Hp → Prop} (h : wW X e σ H Q) : wT X e σ H Q := wt_of (PW.pt pw_w') h
theorem ww_or {Q : Bool → Hp → Prop} {es : List Expr} (h : wT X a σ H fun t H1 => if t = true then Q true H1 else wW X (.BoolOp .Or (b :: es) pos) σ H1 Q) : wW X (.BoolOp .Or (a :: b :: es) pos) σ H Q := ⟨_, pw_or pt_w pw_w', h⟩
theorem ww_or1 {Q : Bool → Hp → Prop} (h : wT X a σ H Q) : wW X (.BoolOp .Or [a] pos) σ H Q := ⟨_, pw_or1 pt_w, h⟩
theorem ww_and {Q : Bool → Hp → Prop} {es : List Expr} (h : wT X a σ H fun t H1 => if t = true then wW X (.BoolOp .And (b :: es) pos) σ H1 Q else Q false H1) : wW X (.BoolOp .And (a :: b :: es) pos) σ H Q := ⟨_, pw_and pt_w pw_w', h⟩
theorem ww_and1 {Q : Bool → Hp → Prop} (h : wT X a σ H Q) : wW X (.BoolOp .And [a] pos) σ H Q := ⟨_, pw_and1 pt_w, h⟩

/-! promises of defs that draw -/
/-- the first argument is the pen; at most c cells are begun; the answer y is such that post x y -/
def spP (K : PySem.W.Frag) (ar : Ar α) (ro : Rp β) (pre : α → Prop) (c : Nat) (post : α → β → Prop) : Sp := fun vs H Q _ => ∃ F pn N x us, vs = .ref pn :: us ∧ Same F H ∧ PenAt K F H pn N ∧ N + c ≤ 1000000 ∧ ar F us x ∧ pre x ∧
  ∀ y v F' H', post x y → Step pn F H F' H' → PenAt K F' H' pn (N + c) → ro F' v y → Q v H'
def spP1 (K : PySem.W.Frag) (ra : Rp α) (ro : Rp β) (pre : α → Prop) (c : Nat) (post : α → β → Prop) : Sp := spP K (aC ra aN) ro (fun p => pre p.1) c fun p => post p.1
def spP2 (K : PySem.W.Frag) (ra : Rp α) (rb : Rp γ) (ro : Rp β) (pre : α → γ → Prop) (c : Nat) (post : α → γ → β → Prop) : Sp := spP K (aC ra (aC rb aN)) ro (fun p => pre p.1 p.2.1) c fun p => post p.1 p.2.1
/-- f(pen, ..) -/
theorem w_callP {Q : VK} {np : Pos} {nm : Str} {es : List Expr} {j k : Nat} {ps : List Str} {ar : Ar α} {ro : Rp β} {pre : α → Prop} {cc : Nat} {post : α → β → Prop} {pn : Addr} (ip : Nat)
    (C : Cal X.prog X.w X.K X.mg X.base j n ps (spP X.K ar ro pre cc post)) (hr : Rm k X.A)
    (h : wA X es σ H fun us H1 => ∃ F N x, Same F H1 ∧ PenAt X.K F H1 pn N ∧ N + cc ≤ 1000000 ∧ ar F us x ∧ pre x ∧ ∀ y v F' H', post x y → Step pn F H1 F' H' → PenAt X.K F' H' pn (N + cc) → ro F' v y → Q v H')
    (hjk : j ≤ k := by decide) (hσ : σ[ip]? = some (some (.ref pn)) := by rfl) (hN : X.N[ip]? = some nm := by rfl) (hv : Vis X.env.scope nm := by first | exact Or.inl rfl | exact Or.inr (Or.inl rfl) | exact Or.inr (Or.inr rfl))
    (hd : (nm == ("__debug__" : Str)) = false := by decide) (hcd : (nm == ("__classdict__" : Str)) = false := by decide) (hg : Gl X n := by rfl) (hdb : (n == ("__debug__" : Str)) = false := by decide)
    (he : starEach (.Name nm np :: es) X.env = (false, eval (.Name nm np) X.env) :: starEach es X.env := by rfl) (hpl : (backTo pos (starEach es X.env)).any (·.1) = false := by rfl) : wE X (.Call (.Name n p) (.Name nm np :: es) [] pos) σ H Q := by
  refine w_call C hr (wa_cons (w_var ip ?_ hN hσ hv hd hcd) he) hjk hg hdb he hpl
  intro pos pins s I
  refine thn (h pos pins s I) fun us s2 ⟨vs, H2, I2, r, F, N, x, s1, hp, hc, ha, hpre, q⟩ => ⟨vs, H2, I2, r, F, pn, N, x, vs, rfl, s1, hp, hc, ha, hpre, q⟩
/-- f(pen) -/
theorem w_callP0 {Q : VK} {np : Pos} {nm : Str} {j k : Nat} {ps : List Str} {ro : Rp β} {pre : Unit → Prop} {cc N : Nat} {post : Unit → β → Prop} {pn : Addr} (ip : Nat)
    (C : Cal X.prog X.w X.K X.mg X.base j n ps (spP X.K aN ro pre cc post)) (hr : Rm k X.A) (s : Same F H) (hp : PenAt X.K F H pn N) (hc : N + cc ≤ 1000000) (hpre : pre ())
    (q : ∀ y v F' H', post () y → Step pn F H F' H' → PenAt X.K F' H' pn (N + cc) → ro F' v y → Q v H')
    (hjk : j ≤ k := by decide) (hσ : σ[ip]? = some (some (.ref pn)) := by rfl) (hN : X.N[ip]? = some nm := by rfl) (hv : Vis X.env.scope nm := by first | exact Or.inl rfl | exact Or.inr (Or.inl rfl) | exact Or.inr (Or.inr rfl))
    (hd : (nm == ("__debug__" : Str)) = false := by decide) (hcd : (nm == ("__classdict__" : Str)) = false := by decide) (hg : Gl X n := by rfl) (hdb : (n == ("__debug__" : Str)) = false := by decide)
    (he : starEach [.Name nm np] X.env = (false, eval (.Name nm np) X.env) :: starEach [] X.env := by rfl) (hpl : (backTo pos (starEach [] X.env)).any (·.1) = false := by rfl) : wE X (.Call (.Name n p) [.Name nm np] [] pos) σ H Q :=
  w_callP ip C hr (wa_nil ⟨F, N, (), s, hp, hc, rfl, hpre, q⟩) hjk hσ hN hv hd hcd hg hdb he hpl
/-- f(pen, a), a by any way -/
theorem w_callP1 {Q : VK} {np : Pos} {nm : Str} {j k : Nat} {ps : List Str} {ra : Rp α} {ro : Rp β} {pre : α → Prop} {cc : Nat} {post : α → β → Prop} {pn : Addr} (ip : Nat)
    (C : Cal X.prog X.w X.K X.mg X.base j n ps (spP1 X.K ra ro pre cc post)) (hr : Rm k X.A)
    (h : wE X a σ H fun v H1 => ∃ F N x, Same F H1 ∧ PenAt X.K F H1 pn N ∧ N + cc ≤ 1000000 ∧ ra F v x ∧ pre x ∧ ∀ y v F' H', post x y → Step pn F H1 F' H' → PenAt X.K F' H' pn (N + cc) → ro F' v y → Q v H')
    (hjk : j ≤ k := by decide) (hσ : σ[ip]? = some (some (.ref pn)) := by rfl) (hN : X.N[ip]? = some nm := by rfl) (hv : Vis X.env.scope nm := by first | exact Or.inl rfl | exact Or.inr (Or.inl rfl) | exact Or.inr (Or.inr rfl))
    (hd : (nm == ("__debug__" : Str)) = false := by decide) (hcd : (nm == ("__classdict__" : Str)) = false := by decide) (hg : Gl X n := by rfl) (hdb : (n == ("__debug__" : Str)) = false := by decide)
    (he : starEach [.Name nm np, a] X.env = (false, eval (.Name nm np) X.env) :: starEach [a] X.env := by rfl) (he2 : starEach [a] X.env = (false, eval a X.env) :: starEach [] X.env := by rfl) (hpl : (backTo pos (starEach [a] X.env)).any (·.1) = false := by rfl) : wE X (.Call (.Name n p) [.Name nm np, a] [] pos) σ H Q :=
  w_callP ip C hr (wa_cons (h.mono fun v H1 ⟨F, N, x, s1, hp, hc, ha, hpre, q⟩ => wa_nil ⟨F, N, (x, ()), s1, hp, hc, ⟨v, [], rfl, ha, rfl⟩, hpre, q⟩) he2) hjk hσ hN hv hd hcd hg hdb he hpl
theorem spP0_open {K : PySem.W.Frag} {vs : List V} {Q : VK} {E : XK} {ro : Rp β} {pre : Unit → Prop} {cc : Nat} {post : Unit → β → Prop} (h : spP K aN ro pre cc post vs H Q E) :
    ∃ F pn N, vs = [.ref pn] ∧ Same F H ∧ PenAt K F H pn N ∧ N + cc ≤ 1000000 ∧ pre () ∧ ∀ y v F' H', post () y → Step pn F H F' H' → PenAt K F' H' pn (N + cc) → ro F' v y → Q v H' := by
  obtain ⟨F, pn, N, x, us, rfl, s, hp, hc, rfl, hpre, k⟩ := h
  exact ⟨F, pn, N, rfl, s, hp, hc, hpre, k⟩
theorem spP1_open {K : PySem.W.Frag} {vs : List V} {Q : VK} {E : XK} {ra : Rp α} {ro : Rp β} {pre : α → Prop} {cc : Nat} {post : α → β → Prop} (h : spP1 K ra ro pre cc post vs H Q E) :
    ∃ F pn N x v1, vs = [.ref pn, v1] ∧ Same F H ∧ PenAt K F H pn N ∧ N + cc ≤ 1000000 ∧ ra F v1 x ∧ pre x ∧ ∀ y v F' H', post x y → Step pn F H F' H' → PenAt K F' H' pn (N + cc) → ro F' v y → Q v H' := by
  obtain ⟨F, pn, N, x, us, rfl, s, hp, hc, ⟨v, us, rfl, h1, rfl⟩, hpre, k⟩ := h
  exact ⟨F, pn, N, x.1, v, rfl, s, hp, hc, h1, hpre, k⟩
theorem spP0_len {K : PySem.W.Frag} {vs : List V} {Q : VK} {E : XK} {ro : Rp β} {pre : Unit → Prop} {cc : Nat} {post : Unit → β → Prop} (h : spP K aN ro pre cc post vs H Q E) : vs.length = 1 := by
  obtain ⟨F, pn, N, rfl, _⟩ := spP0_open h
  rfl
theorem spP1_len {K : PySem.W.Frag} {vs : List V} {Q : VK} {E : XK} {ra : Rp α} {ro : Rp β} {pre : α → Prop} {cc : Nat} {post : α → β → Prop} (h : spP1 K ra ro pre cc post vs H Q E) : vs.length = 2 := by
  obtain ⟨F, pn, N, x, v, rfl, _⟩ := spP1_open h
  rfl
/-- f(pen, a, b), a and b by any way -/
theorem w_callP2 {Q : VK} {np : Pos} {nm : Str} {j k : Nat} {ps : List Str} {ra : Rp α} {rb : Rp γ} {ro : Rp β} {pre : α → γ → Prop} {cc : Nat} {post : α → γ → β → Prop} {pn : Addr} (ip : Nat)
    (C : Cal X.prog X.w X.K X.mg X.base j n ps (spP2 X.K ra rb ro pre cc post)) (hr : Rm k X.A)
    (h : wE X a σ H fun v H1 => wE X b σ H1 fun u H1 => ∃ F N x y, Same F H1 ∧ PenAt X.K F H1 pn N ∧ N + cc ≤ 1000000 ∧ ra F v x ∧ rb F u y ∧ pre x y ∧ ∀ z v F' H', post x y z → Step pn F H1 F' H' → PenAt X.K F' H' pn (N + cc) → ro F' v z → Q v H')
    (hjk : j ≤ k := by decide) (hσ : σ[ip]? = some (some (.ref pn)) := by rfl) (hN : X.N[ip]? = some nm := by rfl) (hv : Vis X.env.scope nm := by first | exact Or.inl rfl | exact Or.inr (Or.inl rfl) | exact Or.inr (Or.inr rfl))
    (hd : (nm == ("__debug__" : Str)) = false := by decide) (hcd : (nm == ("__classdict__" : Str)) = false := by decide) (hg : Gl X n := by rfl) (hdb : (n == ("__debug__" : Str)) = false := by decide)
    (he : starEach [.Name nm np, a, b] X.env = (false, eval (.Name nm np) X.env) :: starEach [a, b] X.env := by rfl) (he2 : starEach [a, b] X.env = (false, eval a X.env) :: starEach [b] X.env := by rfl) (he3 : starEach [b] X.env = (false, eval b X.env) :: starEach [] X.env := by rfl) (hpl : (backTo pos (starEach [a, b] X.env)).any (·.1) = false := by rfl) : wE X (.Call (.Name n p) [.Name nm np, a, b] [] pos) σ H Q :=
  w_callP ip C hr (wa_cons (h.mono fun v H1 h2 => wa_cons (h2.mono fun u H2 ⟨F, N, x, y, s1, hp, hc, ha, hb, hpre, q⟩ => wa_nil ⟨F, N, (x, y, ()), s1, hp, hc, ⟨v, _, rfl, ha, u, [], rfl, hb, rfl⟩, hpre, q⟩) he3) he2) hjk hσ hN hv hd hcd hg hdb he hpl
theorem spP2_open {K : PySem.W.Frag} {vs : List V} {Q : VK} {E : XK} {ra : Rp α} {rb : Rp γ} {ro : Rp β} {pre : α → γ → Prop} {cc : Nat} {post : α → γ → β → Prop} (h : spP2 K ra rb ro pre cc post vs H Q E) :
    ∃ F pn N x y v1 v2, vs = [.ref pn, v1, v2] ∧ Same F H ∧ PenAt K F H pn N ∧ N + cc ≤ 1000000 ∧ ra F v1 x ∧ rb F v2 y ∧ pre x y ∧ ∀ z v F' H', post x y z → Step pn F H F' H' → PenAt K F' H' pn (N + cc) → ro F' v z → Q v H' := by
  obtain ⟨F, pn, N, x, us, rfl, s, hp, hc, ⟨v, us, rfl, h1, u, us, rfl, h2, rfl⟩, hpre, k⟩ := h
  exact ⟨F, pn, N, x.1, x.2.1, v, u, rfl, s, hp, hc, h1, h2, hpre, k⟩
theorem spP2_len {K : PySem.W.Frag} {vs : List V} {Q : VK} {E : XK} {ra : Rp α} {rb : Rp γ} {ro : Rp β} {pre : α → γ → Prop} {cc : Nat} {post : α → γ → β → Prop} (h : spP2 K ra rb ro pre cc post vs H Q E) : vs.length = 3 := by
  obtain ⟨F, pn, N, x, y, v, u, rfl, _⟩ := spP2_open h
  rfl
end
end Fw

namespace Fw
open PySem PySem.Spec PyProof.Rows L2

/-! ### sizes -/
def Bd (n : Nat) (x : Int) : Prop := x.natAbs < 2 ^ n
theorem Bd.lim {n : Nat} {x : Int} (h : Bd n x) (hn : n ≤ 2000 := by decide) : Lim x := Nat.lt_of_lt_of_le h (Nat.pow_le_pow_right (by decide) hn)
theorem Bd.mono {n m : Nat} {x : Int} (h : Bd n x) (hn : n ≤ m) : Bd m x := Nat.lt_of_lt_of_le h (Nat.pow_le_pow_right (by decide) hn)
theorem Bd.le {n : Nat} {x y : Int} (h : Bd n y) (h0 : 0 ≤ x) (h1 : x ≤ y) : Bd n x := Nat.lt_of_le_of_lt (by omega) h
theorem Bd.mul {n m : Nat} {x y : Int} (h : Bd n x) (k : Bd m y) : Bd (n + m) (x * y) := by
  unfold Bd at *
  rw [Int.natAbs_mul, Nat.pow_add]
  exact Nat.mul_lt_mul'' h k
theorem Bd.add {n : Nat} {x y : Int} (h : Bd n x) (k : Bd n y) : Bd (n + 1) (x + y) := by
  unfold Bd at *
  have e : 2 ^ (n + 1) = 2 ^ n + 2 ^ n := by rw [Nat.pow_succ]; omega
  omega
theorem Bd.neg {n : Nat} {x : Int} (h : Bd n x) : Bd n (-x) := by
  unfold Bd at *
  omega
theorem Bd.sub {n : Nat} {x y : Int} (h : Bd n x) (k : Bd n y) : Bd (n + 1) (x - y) := by
  rw [Int.sub_eq_add_neg]
  exact h.add k.neg
theorem bd_of {n : Nat} {x : Int} (h : x.natAbs < 2 ^ n) : Bd n x := h

section
variable {X : Cx} {σ : L2.St} {F F' H : Hp} {α β γ : Type} {pos p : Pos} {e : Expr} {rest : List Stmt} {D : Ends}
theorem e_vb {x : Bool} {n : Str} (i : Nat) (hN : X.N[i]? = some n := by rfl) (hσ : σ[i]? = some (some (.bl x)) := by rfl) (hv : Vis X.env.scope n := by first | exact Or.inl rfl | exact Or.inr (Or.inl rfl) | exact Or.inr (Or.inr rfl))
    (hd : (n == ("__debug__" : Str)) = false := by decide) (hcd : (n == ("__classdict__" : Str)) = false := by decide) : EvE X (.Name n pos) σ F rBool x := e_var i (show rBool F (.bl x) x from rfl) hN hσ hv hd hcd

/-- 2 names from 2 values -/
theorem s_parT2 {α1 : Type} {α2 : Type} {r1 : Rp α1} {x1 : α1} {r2 : Rp α2} {x2 : α2} {n1 n2 : Str} {p1 p2 pt pt2 : Pos} {a1 a2 : Expr} {kt k2 : Nat} (i1 i2 : Nat) (nd : X.N.Nodup) [Mono r1] [Mono r2] (he : EvA X [a1, a2] σ F (aC r1 (aC r2 aN)) (x1, x2, ())) (s : Same F H)
    (k : ∀ v1 v2 F2 H2, Grow F H F2 H2 → r1 F2 v1 x1 → r2 F2 v2 x2 → wS X rest D ((σ.set i1 (some v1)).set i2 (some v2)) H2)
    (hc : X.calm = true := by rfl) (hi1 : X.N[i1]? = some n1 := by rfl) (hx1 : Loc X.env.scope n1 := by first | exact Or.inl rfl | exact Or.inr rfl) (hf1 : X.fn n1 = true ∨ X.env.scope.names.lookup n1 = some .local := by first | exact .inl rfl | exact .inr rfl) (hi2 : X.N[i2]? = some n2 := by rfl) (hx2 : Loc X.env.scope n2 := by first | exact Or.inl rfl | exact Or.inr rfl) (hf2 : X.fn n2 = true ∨ X.env.scope.names.lookup n2 = some .local := by first | exact .inl rfl | exact .inr rfl)
    (hA1 : (assignEach [.Name n1 p1, .Name n2 p2] X.env).map (·.2) = assign (.Name n1 p1) X.env :: (assignEach [.Name n2 p2] X.env).map (·.2) := by rfl) (hA2 : (assignEach [.Name n2 p2] X.env).map (·.2) = assign (.Name n2 p2) X.env :: (assignEach [] X.env).map (·.2) := by rfl)
    (hn : (assignEach [.Name n1 p1, .Name n2 p2] X.env).length = 2 := by rfl) (hst : (assignEach [.Name n1 p1, .Name n2 p2] X.env).findIdx? (·.1) = none := by rfl)
    (hs : swapsWithSole [(.Tuple [.Name n1 p1, .Name n2 p2] kt pt)] (.Tuple [a1, a2] k2 pt2) pos.line X.env = pure false := by rfl) (hw : swappedStores [(.Tuple [.Name n1 p1, .Name n2 p2] kt pt)] (.Tuple [a1, a2] k2 pt2) X.env = pure none := by rfl)
    (h1 : (assignEach [(.Tuple [.Name n1 p1, .Name n2 p2] kt pt)] X.env).map (·.2) = [assign (.Tuple [.Name n1 p1, .Name n2 p2] kt pt) X.env] := by rfl) : wS X (.Assign [(.Tuple [.Name n1 p1, .Name n2 p2] kt pt)] (.Tuple [a1, a2] k2 pt2) pos :: rest) D σ H :=
  sw_parT (pgs_cons (pg_name nd hi1 hx1 hf1) (pgs_cons (pg_name nd hi2 hx2 hf2) pgs_nil hA2) hA1) (he.go s fun vs F2 H2 g r => by
    obtain ⟨v1, us, rfl, r1, ⟨v2, us, rfl, r2, rfl⟩⟩ := r
    exact ⟨rfl, fun H3 s3 => ⟨v1, _, rfl, ⟨v2, _, rfl, ⟨rfl, k v1 v2 F2 H3 (g.trans (Grow.side g.s s3)) r1 r2⟩⟩⟩⟩) (by decide) hc hn hst hs hw h1
theorem sw_parT2 {n1 n2 : Str} {p1 p2 pt pt2 : Pos} {a1 a2 : Expr} {kt k2 : Nat} (i1 i2 : Nat) (nd : X.N.Nodup)
    (he : wA X [a1, a2] σ H fun vs H2 => ∃ v1 v2, vs = [v1, v2] ∧ ∀ H3, Same H2 H3 → wS X rest D ((σ.set i1 (some v1)).set i2 (some v2)) H3)
    (hc : X.calm = true := by rfl) (hi1 : X.N[i1]? = some n1 := by rfl) (hx1 : Loc X.env.scope n1 := by first | exact Or.inl rfl | exact Or.inr rfl) (hf1 : X.fn n1 = true ∨ X.env.scope.names.lookup n1 = some .local := by first | exact .inl rfl | exact .inr rfl) (hi2 : X.N[i2]? = some n2 := by rfl) (hx2 : Loc X.env.scope n2 := by first | exact Or.inl rfl | exact Or.inr rfl) (hf2 : X.fn n2 = true ∨ X.env.scope.names.lookup n2 = some .local := by first | exact .inl rfl | exact .inr rfl)
    (hA1 : (assignEach [.Name n1 p1, .Name n2 p2] X.env).map (·.2) = assign (.Name n1 p1) X.env :: (assignEach [.Name n2 p2] X.env).map (·.2) := by rfl) (hA2 : (assignEach [.Name n2 p2] X.env).map (·.2) = assign (.Name n2 p2) X.env :: (assignEach [] X.env).map (·.2) := by rfl)
    (hn : (assignEach [.Name n1 p1, .Name n2 p2] X.env).length = 2 := by rfl) (hst : (assignEach [.Name n1 p1, .Name n2 p2] X.env).findIdx? (·.1) = none := by rfl)
    (hs : swapsWithSole [(.Tuple [.Name n1 p1, .Name n2 p2] kt pt)] (.Tuple [a1, a2] k2 pt2) pos.line X.env = pure false := by rfl) (hw : swappedStores [(.Tuple [.Name n1 p1, .Name n2 p2] kt pt)] (.Tuple [a1, a2] k2 pt2) X.env = pure none := by rfl)
    (h1 : (assignEach [(.Tuple [.Name n1 p1, .Name n2 p2] kt pt)] X.env).map (·.2) = [assign (.Tuple [.Name n1 p1, .Name n2 p2] kt pt) X.env] := by rfl) : wS X (.Assign [(.Tuple [.Name n1 p1, .Name n2 p2] kt pt)] (.Tuple [a1, a2] k2 pt2) pos :: rest) D σ H :=
  sw_parT (pgs_cons (pg_name nd hi1 hx1 hf1) (pgs_cons (pg_name nd hi2 hx2 hf2) pgs_nil hA2) hA1) (fun pos pins s I => thn (he pos pins s I) fun us s2 ⟨vs, H2, I2, r, v1, v2, ev, k⟩ => ⟨vs, H2, I2, r, by
    subst ev
    exact ⟨rfl, fun H3 s3 => ⟨v1, _, rfl, ⟨v2, _, rfl, ⟨rfl, k H3 s3⟩⟩⟩⟩⟩) (by decide) hc hn hst hs hw h1
/-- 2 names from a tuple -/
theorem s_unp2 {α1 : Type} {α2 : Type} {r1 : Rp α1} {r2 : Rp α2} {q : α1 × α2} {n1 n2 : Str} {p1 p2 pt : Pos} {kt : Nat} (i1 i2 : Nat) (nd : X.N.Nodup) (he : EvE X e σ F (rT2 X.K r1 r2) q) (s : Same F H)
    (k : ∀ v1 v2 F2 H2, Grow F H F2 H2 → r1 F2 v1 q.1 → r2 F2 v2 q.2 → wS X rest D ((σ.set i1 (some v1)).set i2 (some v2)) H2)
    (hc : X.calm = true := by rfl) (hi1 : X.N[i1]? = some n1 := by rfl) (hx1 : Loc X.env.scope n1 := by first | exact Or.inl rfl | exact Or.inr rfl) (hf1 : X.fn n1 = true ∨ X.env.scope.names.lookup n1 = some .local := by first | exact .inl rfl | exact .inr rfl) (hi2 : X.N[i2]? = some n2 := by rfl) (hx2 : Loc X.env.scope n2 := by first | exact Or.inl rfl | exact Or.inr rfl) (hf2 : X.fn n2 = true ∨ X.env.scope.names.lookup n2 = some .local := by first | exact .inl rfl | exact .inr rfl)
    (hA1 : (assignEach [.Name n1 p1, .Name n2 p2] X.env).map (·.2) = assign (.Name n1 p1) X.env :: (assignEach [.Name n2 p2] X.env).map (·.2) := by rfl) (hA2 : (assignEach [.Name n2 p2] X.env).map (·.2) = assign (.Name n2 p2) X.env :: (assignEach [] X.env).map (·.2) := by rfl)
    (hn : (assignEach [.Name n1 p1, .Name n2 p2] X.env).length = 2 := by rfl) (hst : (assignEach [.Name n1 p1, .Name n2 p2] X.env).findIdx? (·.1) = none := by rfl)
    (hs : swapsWithSole [(.Tuple [.Name n1 p1, .Name n2 p2] kt pt)] e pos.line X.env = pure false := by rfl) (hw : swappedStores [(.Tuple [.Name n1 p1, .Name n2 p2] kt pt)] e X.env = pure none := by rfl)
    (h1 : (assignEach [(.Tuple [.Name n1 p1, .Name n2 p2] kt pt)] X.env).map (·.2) = [assign (.Tuple [.Name n1 p1, .Name n2 p2] kt pt) X.env] := by rfl) : wS X (.Assign [(.Tuple [.Name n1 p1, .Name n2 p2] kt pt)] e pos :: rest) D σ H :=
  ws_seq (ps_asg pe_w (pg_tup hc (pgs_cons (pg_name nd hi1 hx1 hf1) (pgs_cons (pg_name nd hi2 hx2 hf2) pgs_nil hA2) hA1) hn hst) hs hw h1) (he.go s fun v F2 H2 g r => g_t2 g.s r fun v1 v2 r1 r2 => k v1 v2 F2 H2 g r1 r2)
/-- 3 names from 3 values -/
theorem s_parT3 {α1 : Type} {α2 : Type} {α3 : Type} {r1 : Rp α1} {x1 : α1} {r2 : Rp α2} {x2 : α2} {r3 : Rp α3} {x3 : α3} {n1 n2 n3 : Str} {p1 p2 p3 pt pt2 : Pos} {a1 a2 a3 : Expr} {kt k2 : Nat} (i1 i2 i3 : Nat) (nd : X.N.Nodup) [Mono r1] [Mono r2] [Mono r3] (he : EvA X [a1, a2, a3] σ F (aC r1 (aC r2 (aC r3 aN))) (x1, x2, x3, ())) (s : Same F H)
    (k : ∀ v1 v2 v3 F2 H2, Grow F H F2 H2 → r1 F2 v1 x1 → r2 F2 v2 x2 → r3 F2 v3 x3 → wS X rest D (((σ.set i1 (some v1)).set i2 (some v2)).set i3 (some v3)) H2)
    (hc : X.calm = true := by rfl) (hi1 : X.N[i1]? = some n1 := by rfl) (hx1 : Loc X.env.scope n1 := by first | exact Or.inl rfl | exact Or.inr rfl) (hf1 : X.fn n1 = true ∨ X.env.scope.names.lookup n1 = some .local := by first | exact .inl rfl | exact .inr rfl) (hi2 : X.N[i2]? = some n2 := by rfl) (hx2 : Loc X.env.scope n2 := by first | exact Or.inl rfl | exact Or.inr rfl) (hf2 : X.fn n2 = true ∨ X.env.scope.names.lookup n2 = some .local := by first | exact .inl rfl | exact .inr rfl) (hi3 : X.N[i3]? = some n3 := by rfl) (hx3 : Loc X.env.scope n3 := by first | exact Or.inl rfl | exact Or.inr rfl) (hf3 : X.fn n3 = true ∨ X.env.scope.names.lookup n3 = some .local := by first | exact .inl rfl | exact .inr rfl)
    (hA1 : (assignEach [.Name n1 p1, .Name n2 p2, .Name n3 p3] X.env).map (·.2) = assign (.Name n1 p1) X.env :: (assignEach [.Name n2 p2, .Name n3 p3] X.env).map (·.2) := by rfl) (hA2 : (assignEach [.Name n2 p2, .Name n3 p3] X.env).map (·.2) = assign (.Name n2 p2) X.env :: (assignEach [.Name n3 p3] X.env).map (·.2) := by rfl) (hA3 : (assignEach [.Name n3 p3] X.env).map (·.2) = assign (.Name n3 p3) X.env :: (assignEach [] X.env).map (·.2) := by rfl)
    (hn : (assignEach [.Name n1 p1, .Name n2 p2, .Name n3 p3] X.env).length = 3 := by rfl) (hst : (assignEach [.Name n1 p1, .Name n2 p2, .Name n3 p3] X.env).findIdx? (·.1) = none := by rfl)
    (hs : swapsWithSole [(.Tuple [.Name n1 p1, .Name n2 p2, .Name n3 p3] kt pt)] (.Tuple [a1, a2, a3] k2 pt2) pos.line X.env = pure false := by rfl) (hw : swappedStores [(.Tuple [.Name n1 p1, .Name n2 p2, .Name n3 p3] kt pt)] (.Tuple [a1, a2, a3] k2 pt2) X.env = pure none := by rfl)
    (h1 : (assignEach [(.Tuple [.Name n1 p1, .Name n2 p2, .Name n3 p3] kt pt)] X.env).map (·.2) = [assign (.Tuple [.Name n1 p1, .Name n2 p2, .Name n3 p3] kt pt) X.env] := by rfl) : wS X (.Assign [(.Tuple [.Name n1 p1, .Name n2 p2, .Name n3 p3] kt pt)] (.Tuple [a1, a2, a3] k2 pt2) pos :: rest) D σ H :=
  sw_parT (pgs_cons (pg_name nd hi1 hx1 hf1) (pgs_cons (pg_name nd hi2 hx2 hf2) (pgs_cons (pg_name nd hi3 hx3 hf3) pgs_nil hA3) hA2) hA1) (he.go s fun vs F2 H2 g r => by
    obtain ⟨v1, us, rfl, r1, ⟨v2, us, rfl, r2, ⟨v3, us, rfl, r3, rfl⟩⟩⟩ := r
    exact ⟨rfl, fun H3 s3 => ⟨v1, _, rfl, ⟨v2, _, rfl, ⟨v3, _, rfl, ⟨rfl, k v1 v2 v3 F2 H3 (g.trans (Grow.side g.s s3)) r1 r2 r3⟩⟩⟩⟩⟩) (by decide) hc hn hst hs hw h1
theorem sw_parT3 {n1 n2 n3 : Str} {p1 p2 p3 pt pt2 : Pos} {a1 a2 a3 : Expr} {kt k2 : Nat} (i1 i2 i3 : Nat) (nd : X.N.Nodup)
    (he : wA X [a1, a2, a3] σ H fun vs H2 => ∃ v1 v2 v3, vs = [v1, v2, v3] ∧ ∀ H3, Same H2 H3 → wS X rest D (((σ.set i1 (some v1)).set i2 (some v2)).set i3 (some v3)) H3)
    (hc : X.calm = true := by rfl) (hi1 : X.N[i1]? = some n1 := by rfl) (hx1 : Loc X.env.scope n1 := by first | exact Or.inl rfl | exact Or.inr rfl) (hf1 : X.fn n1 = true ∨ X.env.scope.names.lookup n1 = some .local := by first | exact .inl rfl | exact .inr rfl) (hi2 : X.N[i2]? = some n2 := by rfl) (hx2 : Loc X.env.scope n2 := by first | exact Or.inl rfl | exact Or.inr rfl) (hf2 : X.fn n2 = true ∨ X.env.scope.names.lookup n2 = some .local := by first | exact .inl rfl | exact .inr rfl) (hi3 : X.N[i3]? = some n3 := by rfl) (hx3 : Loc X.env.scope n3 := by first | exact Or.inl rfl | exact Or.inr rfl) (hf3 : X.fn n3 = true ∨ X.env.scope.names.lookup n3 = some .local := by first | exact .inl rfl | exact .inr rfl)
    (hA1 : (assignEach [.Name n1 p1, .Name n2 p2, .Name n3 p3] X.env).map (·.2) = assign (.Name n1 p1) X.env :: (assignEach [.Name n2 p2, .Name n3 p3] X.env).map (·.2) := by rfl) (hA2 : (assignEach [.Name n2 p2, .Name n3 p3] X.env).map (·.2) = assign (.Name n2 p2) X.env :: (assignEach [.Name n3 p3] X.env).map (·.2) := by rfl) (hA3 : (assignEach [.Name n3 p3] X.env).map (·.2) = assign (.Name n3 p3) X.env :: (assignEach [] X.env).map (·.2) := by rfl)
    (hn : (assignEach [.Name n1 p1, .Name n2 p2, .Name n3 p3] X.env).length = 3 := by rfl) (hst : (assignEach [.Name n1 p1, .Name n2 p2, .Name n3 p3] X.env).findIdx? (·.1) = none := by rfl)
    (hs : swapsWithSole [(.Tuple [.Name n1 p1, .Name n2 p2, .Name n3 p3] kt pt)] (.Tuple [a1, a2, a3] k2 pt2) pos.line X.env = pure false := by rfl) (hw : swappedStores [(.Tuple [.Name n1 p1, .Name n2 p2, .Name n3 p3] kt pt)] (.Tuple [a1, a2, a3] k2 pt2) X.env = pure none := by rfl)
    (h1 : (assignEach [(.Tuple [.Name n1 p1, .Name n2 p2, .Name n3 p3] kt pt)] X.env).map (·.2) = [assign (.Tuple [.Name n1 p1, .Name n2 p2, .Name n3 p3] kt pt) X.env] := by rfl) : wS X (.Assign [(.Tuple [.Name n1 p1, .Name n2 p2, .Name n3 p3] kt pt)] (.Tuple [a1, a2, a3] k2 pt2) pos :: rest) D σ H :=
  sw_parT (pgs_cons (pg_name nd hi1 hx1 hf1) (pgs_cons (pg_name nd hi2 hx2 hf2) (pgs_cons (pg_name nd hi3 hx3 hf3) pgs_nil hA3) hA2) hA1) (fun pos pins s I => thn (he pos pins s I) fun us s2 ⟨vs, H2, I2, r, v1, v2, v3, ev, k⟩ => ⟨vs, H2, I2, r, by
    subst ev
    exact ⟨rfl, fun H3 s3 => ⟨v1, _, rfl, ⟨v2, _, rfl, ⟨v3, _, rfl, ⟨rfl, k H3 s3⟩⟩⟩⟩⟩⟩) (by decide) hc hn hst hs hw h1
/-- 3 names from a tuple -/
theorem s_unp3 {α1 : Type} {α2 : Type} {α3 : Type} {r1 : Rp α1} {r2 : Rp α2} {r3 : Rp α3} {q : α1 × α2 × α3} {n1 n2 n3 : Str} {p1 p2 p3 pt : Pos} {kt : Nat} (i1 i2 i3 : Nat) (nd : X.N.Nodup) (he : EvE X e σ F (rT3 X.K r1 r2 r3) q) (s : Same F H)
    (k : ∀ v1 v2 v3 F2 H2, Grow F H F2 H2 → r1 F2 v1 q.1 → r2 F2 v2 q.2.1 → r3 F2 v3 q.2.2 → wS X rest D (((σ.set i1 (some v1)).set i2 (some v2)).set i3 (some v3)) H2)
    (hc : X.calm = true := by rfl) (hi1 : X.N[i1]? = some n1 := by rfl) (hx1 : Loc X.env.scope n1 := by first | exact Or.inl rfl | exact Or.inr rfl) (hf1 : X.fn n1 = true ∨ X.env.scope.names.lookup n1 = some .local := by first | exact .inl rfl | exact .inr rfl) (hi2 : X.N[i2]? = some n2 := by rfl) (hx2 : Loc X.env.scope n2 := by first | exact Or.inl rfl | exact Or.inr rfl) (hf2 : X.fn n2 = true ∨ X.env.scope.names.lookup n2 = some .local := by first | exact .inl rfl | exact .inr rfl) (hi3 : X.N[i3]? = some n3 := by rfl) (hx3 : Loc X.env.scope n3 := by first | exact Or.inl rfl | exact Or.inr rfl) (hf3 : X.fn n3 = true ∨ X.env.scope.names.lookup n3 = some .local := by first | exact .inl rfl | exact .inr rfl)
    (hA1 : (assignEach [.Name n1 p1, .Name n2 p2, .Name n3 p3] X.env).map (·.2) = assign (.Name n1 p1) X.env :: (assignEach [.Name n2 p2, .Name n3 p3] X.env).map (·.2) := by rfl) (hA2 : (assignEach [.Name n2 p2, .Name n3 p3] X.env).map (·.2) = assign (.Name n2 p2) X.env :: (assignEach [.Name n3 p3] X.env).map (·.2) := by rfl) (hA3 : (assignEach [.Name n3 p3] X.env).map (·.2) = assign (.Name n3 p3) X.env :: (assignEach [] X.env).map (·.2) := by rfl)
    (hn : (assignEach [.Name n1 p1, .Name n2 p2, .Name n3 p3] X.env).length = 3 := by rfl) (hst : (assignEach [.Name n1 p1, .Name n2 p2, .Name n3 p3] X.env).findIdx? (·.1) = none := by rfl)
    (hs : swapsWithSole [(.Tuple [.Name n1 p1, .Name n2 p2, .Name n3 p3] kt pt)] e pos.line X.env = pure false := by rfl) (hw : swappedStores [(.Tuple [.Name n1 p1, .Name n2 p2, .Name n3 p3] kt pt)] e X.env = pure none := by rfl)
    (h1 : (assignEach [(.Tuple [.Name n1 p1, .Name n2 p2, .Name n3 p3] kt pt)] X.env).map (·.2) = [assign (.Tuple [.Name n1 p1, .Name n2 p2, .Name n3 p3] kt pt) X.env] := by rfl) : wS X (.Assign [(.Tuple [.Name n1 p1, .Name n2 p2, .Name n3 p3] kt pt)] e pos :: rest) D σ H :=
  ws_seq (ps_asg pe_w (pg_tup hc (pgs_cons (pg_name nd hi1 hx1 hf1) (pgs_cons (pg_name nd hi2 hx2 hf2) (pgs_cons (pg_name nd hi3 hx3 hf3) pgs_nil hA3) hA2) hA1) hn hst) hs hw h1) (he.go s fun v F2 H2 g r => g_t3 g.s r fun v1 v2 v3 r1 r2 r3 => k v1 v2 v3 F2 H2 g r1 r2 r3)
/-- 4 names from 4 values -/
theorem s_parT4 {α1 : Type} {α2 : Type} {α3 : Type} {α4 : Type} {r1 : Rp α1} {x1 : α1} {r2 : Rp α2} {x2 : α2} {r3 : Rp α3} {x3 : α3} {r4 : Rp α4} {x4 : α4} {n1 n2 n3 n4 : Str} {p1 p2 p3 p4 pt pt2 : Pos} {a1 a2 a3 a4 : Expr} {kt k2 : Nat} (i1 i2 i3 i4 : Nat) (nd : X.N.Nodup) [Mono r1] [Mono r2] [Mono r3] [Mono r4] (he : EvA X [a1, a2, a3, a4] σ F (aC r1 (aC r2 (aC r3 (aC r4 aN)))) (x1, x2, x3, x4, ())) (s : Same F H)
    (k : ∀ v1 v2 v3 v4 F2 H2, Grow F H F2 H2 → r1 F2 v1 x1 → r2 F2 v2 x2 → r3 F2 v3 x3 → r4 F2 v4 x4 → wS X rest D ((((σ.set i1 (some v1)).set i2 (some v2)).set i3 (some v3)).set i4 (some v4)) H2)
    (hc : X.calm = true := by rfl) (hi1 : X.N[i1]? = some n1 := by rfl) (hx1 : Loc X.env.scope n1 := by first | exact Or.inl rfl | exact Or.inr rfl) (hf1 : X.fn n1 = true ∨ X.env.scope.names.lookup n1 = some .local := by first | exact .inl rfl | exact .inr rfl) (hi2 : X.N[i2]? = some n2 := by rfl) (hx2 : Loc X.env.scope n2 := by first | exact Or.inl rfl | exact Or.inr rfl) (hf2 : X.fn n2 = true ∨ X.env.scope.names.lookup n2 = some .local := by first | exact .inl rfl | exact .inr rfl) (hi3 : X.N[i3]? = some n3 := by rfl) (hx3 : Loc X.env.scope n3 := by first | exact Or.inl rfl | exact Or.inr rfl) (hf3 : X.fn n3 = true ∨ X.env.scope.names.lookup n3 = some .local := by first | exact .inl rfl | exact .inr rfl) (hi4 : X.N[i4]? = some n4 := by rfl) (hx4 : Loc X.env.scope n4 := by first | exact Or.inl rfl | exact Or.inr rfl) (hf4 : X.fn n4 = true ∨ X.env.scope.names.lookup n4 = some .local := by first | exact .inl rfl | exact .inr rfl)
    (hA1 : (assignEach [.Name n1 p1, .Name n2 p2, .Name n3 p3, .Name n4 p4] X.env).map (·.2) = assign (.Name n1 p1) X.env :: (assignEach [.Name n2 p2, .Name n3 p3, .Name n4 p4] X.env).map (·.2) := by rfl) (hA2 : (assignEach [.Name n2 p2, .Name n3 p3, .Name n4 p4] X.env).map (·.2) = assign (.Name n2 p2) X.env :: (assignEach [.Name n3 p3, .Name n4 p4] X.env).map (·.2) := by rfl) (hA3 : (assignEach [.Name n3 p3, .Name n4 p4] X.env).map (·.2) = assign (.Name n3 p3) X.env :: (assignEach [.Name n4 p4] X.env).map (·.2) := by rfl) (hA4 : (assignEach [.Name n4 p4] X.env).map (·.2) = assign (.Name n4 p4) X.env :: (assignEach [] X.env).map (·.2) := by rfl)
    (hn : (assignEach [.Name n1 p1, .Name n2 p2, .Name n3 p3, .Name n4 p4] X.env).length = 4 := by rfl) (hst : (assignEach [.Name n1 p1, .Name n2 p2, .Name n3 p3, .Name n4 p4] X.env).findIdx? (·.1) = none := by rfl)
    (hs : swapsWithSole [(.Tuple [.Name n1 p1, .Name n2 p2, .Name n3 p3, .Name n4 p4] kt pt)] (.Tuple [a1, a2, a3, a4] k2 pt2) pos.line X.env = pure false := by rfl) (hw : swappedStores [(.Tuple [.Name n1 p1, .Name n2 p2, .Name n3 p3, .Name n4 p4] kt pt)] (.Tuple [a1, a2, a3, a4] k2 pt2) X.env = pure none := by rfl)
    (h1 : (assignEach [(.Tuple [.Name n1 p1, .Name n2 p2, .Name n3 p3, .Name n4 p4] kt pt)] X.env).map (·.2) = [assign (.Tuple [.Name n1 p1, .Name n2 p2, .Name n3 p3, .Name n4 p4] kt pt) X.env] := by rfl) : wS X (.Assign [(.Tuple [.Name n1 p1, .Name n2 p2, .Name n3 p3, .Name n4 p4] kt pt)] (.Tuple [a1, a2, a3, a4] k2 pt2) pos :: rest) D σ H :=
  sw_parT (pgs_cons (pg_name nd hi1 hx1 hf1) (pgs_cons (pg_name nd hi2 hx2 hf2) (pgs_cons (pg_name nd hi3 hx3 hf3) (pgs_cons (pg_name nd hi4 hx4 hf4) pgs_nil hA4) hA3) hA2) hA1) (he.go s fun vs F2 H2 g r => by
    obtain ⟨v1, us, rfl, r1, ⟨v2, us, rfl, r2, ⟨v3, us, rfl, r3, ⟨v4, us, rfl, r4, rfl⟩⟩⟩⟩ := r
    exact ⟨rfl, fun H3 s3 => ⟨v1, _, rfl, ⟨v2, _, rfl, ⟨v3, _, rfl, ⟨v4, _, rfl, ⟨rfl, k v1 v2 v3 v4 F2 H3 (g.trans (Grow.side g.s s3)) r1 r2 r3 r4⟩⟩⟩⟩⟩⟩) (by decide) hc hn hst hs hw h1
theorem sw_parT4 {n1 n2 n3 n4 : Str} {p1 p2 p3 p4 pt pt2 : Pos} {a1 a2 a3 a4 : Expr} {kt k2 : Nat} (i1 i2 i3 i4 : Nat) (nd : X.N.Nodup)
    (he : wA X [a1, a2, a3, a4] σ H fun vs H2 => ∃ v1 v2 v3 v4, vs = [v1, v2, v3, v4] ∧ ∀ H3, Same H2 H3 → wS X rest D ((((σ.set i1 (some v1)).set i2 (some v2)).set i3 (some v3)).set i4 (some v4)) H3)
    (hc : X.calm = true := by rfl) (hi1 : X.N[i1]? = some n1 := by rfl) (hx1 : Loc X.env.scope n1 := by first | exact Or.inl rfl | exact Or.inr rfl) (hf1 : X.fn n1 = true ∨ X.env.scope.names.lookup n1 = some .local := by first | exact .inl rfl | exact .inr rfl) (hi2 : X.N[i2]? = some n2 := by rfl) (hx2 : Loc X.env.scope n2 := by first | exact Or.inl rfl | exact Or.inr rfl) (hf2 : X.fn n2 = true ∨ X.env.scope.names.lookup n2 = some .local := by first | exact .inl rfl | exact .inr rfl) (hi3 : X.N[i3]? = some n3 := by rfl) (hx3 : Loc X.env.scope n3 := by first | exact Or.inl rfl | exact Or.inr rfl) (hf3 : X.fn n3 = true ∨ X.env.scope.names.lookup n3 = some .local := by first | exact .inl rfl | exact .inr rfl) (hi4 : X.N[i4]? = some n4 := by rfl) (hx4 : Loc X.env.scope n4 := by first | exact Or.inl rfl | exact Or.inr rfl) (hf4 : X.fn n4 = true ∨ X.env.scope.names.lookup n4 = some .local := by first | exact .inl rfl | exact .inr rfl)
    (hA1 : (assignEach [.Name n1 p1, .Name n2 p2, .Name n3 p3, .Name n4 p4] X.env).map (·.2) = assign (.Name n1 p1) X.env :: (assignEach [.Name n2 p2, .Name n3 p3, .Name n4 p4] X.env).map (·.2) := by rfl) (hA2 : (assignEach [.Name n2 p2, .Name n3 p3, .Name n4 p4] X.env).map (·.2) = assign (.Name n2 p2) X.env :: (assignEach [.Name n3 p3, .Name n4 p4] X.env).map (·.2) := by rfl) (hA3 : (assignEach [.Name n3 p3, .Name n4 p4] X.env).map (·.2) = assign (.Name n3 p3) X.env :: (assignEach [.Name n4 p4] X.env).map (·.2) := by rfl) (hA4 : (assignEach [.Name n4 p4] X.env).map (·.2) = assign (.Name n4 p4) X.env :: (assignEach [] X.env).map (·.2) := by rfl)
    (hn : (assignEach [.Name n1 p1, .Name n2 p2, .Name n3 p3, .Name n4 p4] X.env).length = 4 := by rfl) (hst : (assignEach [.Name n1 p1, .Name n2 p2, .Name n3 p3, .Name n4 p4] X.env).findIdx? (·.1) = none := by rfl)
    (hs : swapsWithSole [(.Tuple [.Name n1 p1, .Name n2 p2, .Name n3 p3, .Name n4 p4] kt pt)] (.Tuple [a1, a2, a3, a4] k2 pt2) pos.line X.env = pure false := by rfl) (hw : swappedStores [(.Tuple [.Name n1 p1, .Name n2 p2, .Name n3 p3, .Name n4 p4] kt pt)] (.Tuple [a1, a2, a3, a4] k2 pt2) X.env = pure none := by rfl)
    (h1 : (assignEach [(.Tuple [.Name n1 p1, .Name n2 p2, .Name n3 p3, .Name n4 p4] kt pt)] X.env).map (·.2) = [assign (.Tuple [.Name n1 p1, .Name n2 p2, .Name n3 p3, .Name n4 p4] kt pt) X.env] := by rfl) : wS X (.Assign [(.Tuple [.Name n1 p1, .Name n2 p2, .Name n3 p3, .Name n4 p4] kt pt)] (.Tuple [a1, a2, a3, a4] k2 pt2) pos :: rest) D σ H :=
  sw_parT (pgs_cons (pg_name nd hi1 hx1 hf1) (pgs_cons (pg_name nd hi2 hx2 hf2) (pgs_cons (pg_name nd hi3 hx3 hf3) (pgs_cons (pg_name nd hi4 hx4 hf4) pgs_nil hA4) hA3) hA2) hA1) (fun pos pins s I => thn (he pos pins s I) fun us s2 ⟨vs, H2, I2, r, v1, v2, v3, v4, ev, k⟩ => ⟨vs, H2, I2, r, by
    subst ev
    exact ⟨rfl, fun H3 s3 => ⟨v1, _, rfl, ⟨v2, _, rfl, ⟨v3, _, rfl, ⟨v4, _, rfl, ⟨rfl, k H3 s3⟩⟩⟩⟩⟩⟩⟩) (by decide) hc hn hst hs hw h1
/-- 5 names from 5 values -/
theorem s_parT5 {α1 : Type} {α2 : Type} {α3 : Type} {α4 : Type} {α5 : Type} {r1 : Rp α1} {x1 : α1} {r2 : Rp α2} {x2 : α2} {r3 : Rp α3} {x3 : α3} {r4 : Rp α4} {x4 : α4} {r5 : Rp α5} {x5 : α5} {n1 n2 n3 n4 n5 : Str} {p1 p2 p3 p4 p5 pt pt2 : Pos} {a1 a2 a3 a4 a5 : Expr} {kt k2 : Nat} (i1 i2 i3 i4 i5 : Nat) (nd : X.N.Nodup) [Mono r1] [Mono r2] [Mono r3] [Mono r4] [Mono r5] (he : EvA X [a1, a2, a3, a4, a5] σ F (aC r1 (aC r2 (aC r3 (aC r4 (aC r5 aN))))) (x1, x2, x3, x4, x5, ())) (s : Same F H)
    (k : ∀ v1 v2 v3 v4 v5 F2 H2, Grow F H F2 H2 → r1 F2 v1 x1 → r2 F2 v2 x2 → r3 F2 v3 x3 → r4 F2 v4 x4 → r5 F2 v5 x5 → wS X rest D (((((σ.set i1 (some v1)).set i2 (some v2)).set i3 (some v3)).set i4 (some v4)).set i5 (some v5)) H2)
    (hc : X.calm = true := by rfl) (hi1 : X.N[i1]? = some n1 := by rfl) (hx1 : Loc X.env.scope n1 := by first | exact Or.inl rfl | exact Or.inr rfl) (hf1 : X.fn n1 = true ∨ X.env.scope.names.lookup n1 = some .local := by first | exact .inl rfl | exact .inr rfl) (hi2 : X.N[i2]? = some n2 := by rfl) (hx2 : Loc X.env.scope n2 := by first | exact Or.inl rfl | exact Or.inr rfl) (hf2 : X.fn n2 = true ∨ X.env.scope.names.lookup n2 = some .local := by first | exact .inl rfl | exact .inr rfl) (hi3 : X.N[i3]? = some n3 := by rfl) (hx3 : Loc X.env.scope n3 := by first | exact Or.inl rfl | exact Or.inr rfl) (hf3 : X.fn n3 = true ∨ X.env.scope.names.lookup n3 = some .local := by first | exact .inl rfl | exact .inr rfl) (hi4 : X.N[i4]? = some n4 := by rfl) (hx4 : Loc X.env.scope n4 := by first | exact Or.inl rfl | exact Or.inr rfl) (hf4 : X.fn n4 = true ∨ X.env.scope.names.lookup n4 = some .local := by first | exact .inl rfl | exact .inr rfl) (hi5 : X.N[i5]? = some n5 := by rfl) (hx5 : Loc X.env.scope n5 := by first | exact Or.inl rfl | exact Or.inr rfl) (hf5 : X.fn n5 = true ∨ X.env.scope.names.lookup n5 = some .local := by first | exact .inl rfl | exact .inr rfl)
    (hA1 : (assignEach [.Name n1 p1, .Name n2 p2, .Name n3 p3, .Name n4 p4, .Name n5 p5] X.env).map (·.2) = assign (.Name n1 p1) X.env :: (assignEach [.Name n2 p2, .Name n3 p3, .Name n4 p4, .Name n5 p5] X.env).map (·.2) := by rfl) (hA2 : (assignEach [.Name n2 p2, .Name n3 p3, .Name n4 p4, .Name n5 p5] X.env).map (·.2) = assign (.Name n2 p2) X.env :: (assignEach [.Name n3 p3, .Name n4 p4, .Name n5 p5] X.env).map (·.2) := by rfl) (hA3 : (assignEach [.Name n3 p3, .Name n4 p4, .Name n5 p5] X.env).map (·.2) = assign (.Name n3 p3) X.env :: (assignEach [.Name n4 p4, .Name n5 p5] X.env).map (·.2) := by rfl) (hA4 : (assignEach [.Name n4 p4, .Name n5 p5] X.env).map (·.2) = assign (.Name n4 p4) X.env :: (assignEach [.Name n5 p5] X.env).map (·.2) := by rfl) (hA5 : (assignEach [.Name n5 p5] X.env).map (·.2) = assign (.Name n5 p5) X.env :: (assignEach [] X.env).map (·.2) := by rfl)
    (hn : (assignEach [.Name n1 p1, .Name n2 p2, .Name n3 p3, .Name n4 p4, .Name n5 p5] X.env).length = 5 := by rfl) (hst : (assignEach [.Name n1 p1, .Name n2 p2, .Name n3 p3, .Name n4 p4, .Name n5 p5] X.env).findIdx? (·.1) = none := by rfl)
    (hs : swapsWithSole [(.Tuple [.Name n1 p1, .Name n2 p2, .Name n3 p3, .Name n4 p4, .Name n5 p5] kt pt)] (.Tuple [a1, a2, a3, a4, a5] k2 pt2) pos.line X.env = pure false := by rfl) (hw : swappedStores [(.Tuple [.Name n1 p1, .Name n2 p2, .Name n3 p3, .Name n4 p4, .Name n5 p5] kt pt)] (.Tuple [a1, a2, a3, a4, a5] k2 pt2) X.env = pure none := by rfl)
    (h1 : (assignEach [(.Tuple [.Name n1 p1, .Name n2 p2, .Name n3 p3, .Name n4 p4, .Name n5 p5] kt pt)] X.env).map (·.2) = [assign (.Tuple [.Name n1 p1, .Name n2 p2, .Name n3 p3, .Name n4 p4, .Name n5 p5] kt pt) X.env] := by rfl) : wS X (.Assign [(.Tuple [.Name n1 p1, .Name n2 p2, .Name n3 p3, .Name n4 p4, .Name n5 p5] kt pt)] (.Tuple [a1, a2, a3, a4, a5] k2 pt2) pos :: rest) D σ H :=
  sw_parT (pgs_cons (pg_name nd hi1 hx1 hf1) (pgs_cons (pg_name nd hi2 hx2 hf2) (pgs_cons (pg_name nd hi3 hx3 hf3) (pgs_cons (pg_name nd hi4 hx4 hf4) (pgs_cons (pg_name nd hi5 hx5 hf5) pgs_nil hA5) hA4) hA3) hA2) hA1) (he.go s fun vs F2 H2 g r => by
    obtain ⟨v1, us, rfl, r1, ⟨v2, us, rfl, r2, ⟨v3, us, rfl, r3, ⟨v4, us, rfl, r4, ⟨v5, us, rfl, r5, rfl⟩⟩⟩⟩⟩ := r
    exact ⟨rfl, fun H3 s3 => ⟨v1, _, rfl, ⟨v2, _, rfl, ⟨v3, _, rfl, ⟨v4, _, rfl, ⟨v5, _, rfl, ⟨rfl, k v1 v2 v3 v4 v5 F2 H3 (g.trans (Grow.side g.s s3)) r1 r2 r3 r4 r5⟩⟩⟩⟩⟩⟩⟩) (by decide) hc hn hst hs hw h1
theorem sw_parT5 {n1 n2 n3 n4 n5 : Str} {p1 p2 p3 p4 p5 pt pt2 : Pos} {a1 a2 a3 a4 a5 : Expr} {kt k2 : Nat} (i1 i2 i3 i4 i5 : Nat) (nd : X.N.Nodup)
    (he : wA X [a1, a2, a3, a4, a5] σ H fun vs H2 => ∃ v1 v2 v3 v4 v5, vs = [v1, v2, v3, v4, v5] ∧ ∀ H3, Same H2 H3 → wS X rest D (((((σ.set i1 (some v1)).set i2 (some v2)).set i3 (some v3)).set i4 (some v4)).set i5 (some v5)) H3)
    (hc : X.calm = true := by rfl) (hi1 : X.N[i1]? = some n1 := by rfl) (hx1 : Loc X.env.scope n1 := by first | exact Or.inl rfl | exact Or.inr rfl) (hf1 : X.fn n1 = true ∨ X.env.scope.names.lookup n1 = some .local := by first | exact .inl rfl | exact .inr rfl) (hi2 : X.N[i2]? = some n2 := by rfl) (hx2 : Loc X.env.scope n2 := by first | exact Or.inl rfl | exact Or.inr rfl) (hf2 : X.fn n2 = true ∨ X.env.scope.names.lookup n2 = some .local := by first | exact .inl rfl | exact .inr rfl) (hi3 : X.N[i3]? = some n3 := by rfl) (hx3 : Loc X.env.scope n3 := by first | exact Or.inl rfl | exact Or.inr rfl) (hf3 : X.fn n3 = true ∨ X.env.scope.names.lookup n3 = some .local := by first | exact .inl rfl | exact .inr rfl) (hi4 : X.N[i4]? = some n4 := by rfl) (hx4 : Loc X.env.scope n4 := by first | exact Or.inl rfl | exact Or.inr rfl) (hf4 : X.fn n4 = true ∨ X.env.scope.names.lookup n4 = some .local := by first | exact .inl rfl | exact .inr rfl) (hi5 : X.N[i5]? = some n5 := by rfl) (hx5 : Loc X.env.scope n5 := by first | exact Or.inl rfl | exact Or.inr rfl) (hf5 : X.fn n5 = true ∨ X.env.scope.names.lookup n5 = some .local := by first | exact .inl rfl | exact .inr rfl)
    (hA1 : (assignEach [.Name n1 p1, .Name n2 p2, .Name n3 p3, .Name n4 p4, .Name n5 p5] X.env).map (·.2) = assign (.Name n1 p1) X.env :: (assignEach [.Name n2 p2, .Name n3 p3, .Name n4 p4, .Name n5 p5] X.env).map (·.2) := by rfl) (hA2 : (assignEach [.Name n2 p2, .Name n3 p3, .Name n4 p4, .Name n5 p5] X.env).map (·.2) = assign (.Name n2 p2) X.env :: (assignEach [.Name n3 p3, .Name n4 p4, .Name n5 p5] X.env).map (·.2) := by rfl) (hA3 : (assignEach [.Name n3 p3, .Name n4 p4, .Name n5 p5] X.env).map (·.2) = assign (.Name n3 p3) X.env :: (assignEach [.Name n4 p4, .Name n5 p5] X.env).map (·.2) := by rfl) (hA4 : (assignEach [.Name n4 p4, .Name n5 p5] X.env).map (·.2) = assign (.Name n4 p4) X.env :: (assignEach [.Name n5 p5] X.env).map (·.2) := by rfl) (hA5 : (assignEach [.Name n5 p5] X.env).map (·.2) = assign (.Name n5 p5) X.env :: (assignEach [] X.env).map (·.2) := by rfl)
    (hn : (assignEach [.Name n1 p1, .Name n2 p2, .Name n3 p3, .Name n4 p4, .Name n5 p5] X.env).length = 5 := by rfl) (hst : (assignEach [.Name n1 p1, .Name n2 p2, .Name n3 p3, .Name n4 p4, .Name n5 p5] X.env).findIdx? (·.1) = none := by rfl)
    (hs : swapsWithSole [(.Tuple [.Name n1 p1, .Name n2 p2, .Name n3 p3, .Name n4 p4, .Name n5 p5] kt pt)] (.Tuple [a1, a2, a3, a4, a5] k2 pt2) pos.line X.env = pure false := by rfl) (hw : swappedStores [(.Tuple [.Name n1 p1, .Name n2 p2, .Name n3 p3, .Name n4 p4, .Name n5 p5] kt pt)] (.Tuple [a1, a2, a3, a4, a5] k2 pt2) X.env = pure none := by rfl)
    (h1 : (assignEach [(.Tuple [.Name n1 p1, .Name n2 p2, .Name n3 p3, .Name n4 p4, .Name n5 p5] kt pt)] X.env).map (·.2) = [assign (.Tuple [.Name n1 p1, .Name n2 p2, .Name n3 p3, .Name n4 p4, .Name n5 p5] kt pt) X.env] := by rfl) : wS X (.Assign [(.Tuple [.Name n1 p1, .Name n2 p2, .Name n3 p3, .Name n4 p4, .Name n5 p5] kt pt)] (.Tuple [a1, a2, a3, a4, a5] k2 pt2) pos :: rest) D σ H :=
  sw_parT (pgs_cons (pg_name nd hi1 hx1 hf1) (pgs_cons (pg_name nd hi2 hx2 hf2) (pgs_cons (pg_name nd hi3 hx3 hf3) (pgs_cons (pg_name nd hi4 hx4 hf4) (pgs_cons (pg_name nd hi5 hx5 hf5) pgs_nil hA5) hA4) hA3) hA2) hA1) (fun pos pins s I => thn (he pos pins s I) fun us s2 ⟨vs, H2, I2, r, v1, v2, v3, v4, v5, ev, k⟩ => ⟨vs, H2, I2, r, by
    subst ev
    exact ⟨rfl, fun H3 s3 => ⟨v1, _, rfl, ⟨v2, _, rfl, ⟨v3, _, rfl, ⟨v4, _, rfl, ⟨v5, _, rfl, ⟨rfl, k H3 s3⟩⟩⟩⟩⟩⟩⟩⟩) (by decide) hc hn hst hs hw h1
/-- 6 names from 6 values -/
theorem s_parT6 {α1 : Type} {α2 : Type} {α3 : Type} {α4 : Type} {α5 : Type} {α6 : Type} {r1 : Rp α1} {x1 : α1} {r2 : Rp α2} {x2 : α2} {r3 : Rp α3} {x3 : α3} {r4 : Rp α4} {x4 : α4} {r5 : Rp α5} {x5 : α5} {r6 : Rp α6} {x6 : α6} {n1 n2 n3 n4 n5 n6 : Str} {p1 p2 p3 p4 p5 p6 pt pt2 : Pos} {a1 a2 a3 a4 a5 a6 : Expr} {kt k2 : Nat} (i1 i2 i3 i4 i5 i6 : Nat) (nd : X.N.Nodup) [Mono r1] [Mono r2] [Mono r3] [Mono r4] [Mono r5] [Mono r6] (he : EvA X [a1, a2, a3, a4, a5, a6] σ F (aC r1 (aC r2 (aC r3 (aC r4 (aC r5 (aC r6 aN)))))) (x1, x2, x3, x4, x5, x6, ())) (s : Same F H)
    (k : ∀ v1 v2 v3 v4 v5 v6 F2 H2, Grow F H F2 H2 → r1 F2 v1 x1 → r2 F2 v2 x2 → r3 F2 v3 x3 → r4 F2 v4 x4 → r5 F2 v5 x5 → r6 F2 v6 x6 → wS X rest D ((((((σ.set i1 (some v1)).set i2 (some v2)).set i3 (some v3)).set i4 (some v4)).set i5 (some v5)).set i6 (some v6)) H2)
    (hc : X.calm = true := by rfl) (hi1 : X.N[i1]? = some n1 := by rfl) (hx1 : Loc X.env.scope n1 := by first | exact Or.inl rfl | exact Or.inr rfl) (hf1 : X.fn n1 = true ∨ X.env.scope.names.lookup n1 = some .local := by first | exact .inl rfl | exact .inr rfl) (hi2 : X.N[i2]? = some n2 := by rfl) (hx2 : Loc X.env.scope n2 := by first | exact Or.inl rfl | exact Or.inr rfl) (hf2 : X.fn n2 = true ∨ X.env.scope.names.lookup n2 = some .local := by first | exact .inl rfl | exact .inr rfl) (hi3 : X.N[i3]? = some n3 := by rfl) (hx3 : Loc X.env.scope n3 := by first | exact Or.inl rfl | exact Or.inr rfl) (hf3 : X.fn n3 = true ∨ X.env.scope.names.lookup n3 = some .local := by first | exact .inl rfl | exact .inr rfl) (hi4 : X.N[i4]? = some n4 := by rfl) (hx4 : Loc X.env.scope n4 := by first | exact Or.inl rfl | exact Or.inr rfl) (hf4 : X.fn n4 = true ∨ X.env.scope.names.lookup n4 = some .local := by first | exact .inl rfl | exact .inr rfl) (hi5 : X.N[i5]? = some n5 := by rfl) (hx5 : Loc X.env.scope n5 := by first | exact Or.inl rfl | exact Or.inr rfl) (hf5 : X.fn n5 = true ∨ X.env.scope.names.lookup n5 = some .local := by first | exact .inl rfl | exact .inr rfl) (hi6 : X.N[i6]? = some n6 := by rfl) (hx6 : Loc X.env.scope n6 := by first | exact Or.inl rfl | exact Or.inr rfl) (hf6 : X.fn n6 = true ∨ X.env.scope.names.lookup n6 = some .local := by first | exact .inl rfl | exact .inr rfl)
    (hA1 : (assignEach [.Name n1 p1, .Name n2 p2, .Name n3 p3, .Name n4 p4, .Name n5 p5, .Name n6 p6] X.env).map (·.2) = assign (.Name n1 p1) X.env :: (assignEach [.Name n2 p2, .Name n3 p3, .Name n4 p4, .Name n5 p5, .Name n6 p6] X.env).map (·.2) := by rfl) (hA2 : (assignEach [.Name n2 p2, .Name n3 p3, .Name n4 p4, .Name n5 p5, .Name n6 p6] X.env).map (·.2) = assign (.Name n2 p2) X.env :: (assignEach [.Name n3 p3, .Name n4 p4, .Name n5 p5, .Name n6 p6] X.env).map (·.2) := by rfl) (hA3 : (assignEach [.Name n3 p3, .Name n4 p4, .Name n5 p5, .Name n6 p6] X.env).map (·.2) = assign (.Name n3 p3) X.env :: (assignEach [.Name n4 p4, .Name n5 p5, .Name n6 p6] X.env).map (·.2) := by rfl) (hA4 : (assignEach [.Name n4 p4, .Name n5 p5, .Name n6 p6] X.env).map (·.2) = assign (.Name n4 p4) X.env :: (assignEach [.Name n5 p5, .Name n6 p6] X.env).map (·.2) := by rfl) (hA5 : (assignEach [.Name n5 p5, .Name n6 p6] X.env).map (·.2) = assign (.Name n5 p5) X.env :: (assignEach [.Name n6 p6] X.env).map (·.2) := by rfl) (hA6 : (assignEach [.Name n6 p6] X.env).map (·.2) = assign (.Name n6 p6) X.env :: (assignEach [] X.env).map (·.2) := by rfl)
    (hn : (assignEach [.Name n1 p1, .Name n2 p2, .Name n3 p3, .Name n4 p4, .Name n5 p5, .Name n6 p6] X.env).length = 6 := by rfl) (hst : (assignEach [.Name n1 p1, .Name n2 p2, .Name n3 p3, .Name n4 p4, .Name n5 p5, .Name n6 p6] X.env).findIdx? (·.1) = none := by rfl)
    (hs : swapsWithSole [(.Tuple [.Name n1 p1, .Name n2 p2, .Name n3 p3, .Name n4 p4, .Name n5 p5, .Name n6 p6] kt pt)] (.Tuple [a1, a2, a3, a4, a5, a6] k2 pt2) pos.line X.env = pure false := by rfl) (hw : swappedStores [(.Tuple [.Name n1 p1, .Name n2 p2, .Name n3 p3, .Name n4 p4, .Name n5 p5, .Name n6 p6] kt pt)] (.Tuple [a1, a2, a3, a4, a5, a6] k2 pt2) X.env = pure none := by rfl)
    (h1 : (assignEach [(.Tuple [.Name n1 p1, .Name n2 p2, .Name n3 p3, .Name n4 p4, .Name n5 p5, .Name n6 p6] kt pt)] X.env).map (·.2) = [assign (.Tuple [.Name n1 p1, .Name n2 p2, .Name n3 p3, .Name n4 p4, .Name n5 p5, .Name n6 p6] kt pt) X.env] := by rfl) : wS X (.Assign [(.Tuple [.Name n1 p1, .Name n2 p2, .Name n3 p3, .Name n4 p4, .Name n5 p5, .Name n6 p6] kt pt)] (.Tuple [a1, a2, a3, a4, a5, a6] k2 pt2) pos :: rest) D σ H :=
  sw_parT (pgs_cons (pg_name nd hi1 hx1 hf1) (pgs_cons (pg_name nd hi2 hx2 hf2) (pgs_cons (pg_name nd hi3 hx3 hf3) (pgs_cons (pg_name nd hi4 hx4 hf4) (pgs_cons (pg_name nd hi5 hx5 hf5) (pgs_cons (pg_name nd hi6 hx6 hf6) pgs_nil hA6) hA5) hA4) hA3) hA2) hA1) (he.go s fun vs F2 H2 g r => by
    obtain ⟨v1, us, rfl, r1, ⟨v2, us, rfl, r2, ⟨v3, us, rfl, r3, ⟨v4, us, rfl, r4, ⟨v5, us, rfl, r5, ⟨v6, us, rfl, r6, rfl⟩⟩⟩⟩⟩⟩ := r
    exact ⟨rfl, fun H3 s3 => ⟨v1, _, rfl, ⟨v2, _, rfl, ⟨v3, _, rfl, ⟨v4, _, rfl, ⟨v5, _, rfl, ⟨v6, _, rfl, ⟨rfl, k v1 v2 v3 v4 v5 v6 F2 H3 (g.trans (Grow.side g.s s3)) r1 r2 r3 r4 r5 r6⟩⟩⟩⟩⟩⟩⟩⟩) (by decide) hc hn hst hs hw h1
theorem sw_parT6 {n1 n2 n3 n4 n5 n6 : Str} {p1 p2 p3 p4 p5 p6 pt pt2 : Pos} {a1 a2 a3 a4 a5 a6 : Expr} {kt k2 : Nat} (i1 i2 i3 i4 i5 i6 : Nat) (nd : X.N.Nodup)
    (he : wA X [a1, a2, a3, a4, a5, a6] σ H fun vs H2 => ∃ v1 v2 v3 v4 v5 v6, vs = [v1, v2, v3, v4, v5, v6] ∧ ∀ H3, Same H2 H3 → wS X rest D ((((((σ.set i1 (some v1)).set i2 (some v2)).set i3 (some v3)).set i4 (some v4)).set i5 (some v5)).set i6 (some v6)) H3)
    (hc : X.calm = true := by rfl) (hi1 : X.N[i1]? = some n1 := by rfl) (hx1 : Loc X.env.scope n1 := by first | exact Or.inl rfl | exact Or.inr rfl) (hf1 : X.fn n1 = true ∨ X.env.scope.names.lookup n1 = some .local := by first | exact .inl rfl | exact .inr rfl) (hi2 : X.N[i2]? = some n2 := by rfl) (hx2 : Loc X.env.scope n2 := by first | exact Or.inl rfl | exact Or.inr rfl) (hf2 : X.fn n2 = true ∨ X.env.scope.names.lookup n2 = some .local := by first | exact .inl rfl | exact .inr rfl) (hi3 : X.N[i3]? = some n3 := by rfl) (hx3 : Loc X.env.scope n3 := by first | exact Or.inl rfl | exact Or.inr rfl) (hf3 : X.fn n3 = true ∨ X.env.scope.names.lookup n3 = some .local := by first | exact .inl rfl | exact .inr rfl) (hi4 : X.N[i4]? = some n4 := by rfl) (hx4 : Loc X.env.scope n4 := by first | exact Or.inl rfl | exact Or.inr rfl) (hf4 : X.fn n4 = true ∨ X.env.scope.names.lookup n4 = some .local := by first | exact .inl rfl | exact .inr rfl) (hi5 : X.N[i5]? = some n5 := by rfl) (hx5 : Loc X.env.scope n5 := by first | exact Or.inl rfl | exact Or.inr rfl) (hf5 : X.fn n5 = true ∨ X.env.scope.names.lookup n5 = some .local := by first | exact .inl rfl | exact .inr rfl) (hi6 : X.N[i6]? = some n6 := by rfl) (hx6 : Loc X.env.scope n6 := by first | exact Or.inl rfl | exact Or.inr rfl) (hf6 : X.fn n6 = true ∨ X.env.scope.names.lookup n6 = some .local := by first | exact .inl rfl | exact .inr rfl)
    (hA1 : (assignEach [.Name n1 p1, .Name n2 p2, .Name n3 p3, .Name n4 p4, .Name n5 p5, .Name n6 p6] X.env).map (·.2) = assign (.Name n1 p1) X.env :: (assignEach [.Name n2 p2, .Name n3 p3, .Name n4 p4, .Name n5 p5, .Name n6 p6] X.env).map (·.2) := by rfl) (hA2 : (assignEach [.Name n2 p2, .Name n3 p3, .Name n4 p4, .Name n5 p5, .Name n6 p6] X.env).map (·.2) = assign (.Name n2 p2) X.env :: (assignEach [.Name n3 p3, .Name n4 p4, .Name n5 p5, .Name n6 p6] X.env).map (·.2) := by rfl) (hA3 : (assignEach [.Name n3 p3, .Name n4 p4, .Name n5 p5, .Name n6 p6] X.env).map (·.2) = assign (.Name n3 p3) X.env :: (assignEach [.Name n4 p4, .Name n5 p5, .Name n6 p6] X.env).map (·.2) := by rfl) (hA4 : (assignEach [.Name n4 p4, .Name n5 p5, .Name n6 p6] X.env).map (·.2) = assign (.Name n4 p4) X.env :: (assignEach [.Name n5 p5, .Name n6 p6] X.env).map (·.2) := by rfl) (hA5 : (assignEach [.Name n5 p5, .Name n6 p6] X.env).map (·.2) = assign (.Name n5 p5) X.env :: (assignEach [.Name n6 p6] X.env).map (·.2) := by rfl) (hA6 : (assignEach [.Name n6 p6] X.env).map (·.2) = assign (.Name n6 p6) X.env :: (assignEach [] X.env).map (·.2) := by rfl)
    (hn : (assignEach [.Name n1 p1, .Name n2 p2, .Name n3 p3, .Name n4 p4, .Name n5 p5, .Name n6 p6] X.env).length = 6 := by rfl) (hst : (assignEach [.Name n1 p1, .Name n2 p2, .Name n3 p3, .Name n4 p4, .Name n5 p5, .Name n6 p6] X.env).findIdx? (·.1) = none := by rfl)
    (hs : swapsWithSole [(.Tuple [.Name n1 p1, .Name n2 p2, .Name n3 p3, .Name n4 p4, .Name n5 p5, .Name n6 p6] kt pt)] (.Tuple [a1, a2, a3, a4, a5, a6] k2 pt2) pos.line X.env = pure false := by rfl) (hw : swappedStores [(.Tuple [.Name n1 p1, .Name n2 p2, .Name n3 p3, .Name n4 p4, .Name n5 p5, .Name n6 p6] kt pt)] (.Tuple [a1, a2, a3, a4, a5, a6] k2 pt2) X.env = pure none := by rfl)
    (h1 : (assignEach [(.Tuple [.Name n1 p1, .Name n2 p2, .Name n3 p3, .Name n4 p4, .Name n5 p5, .Name n6 p6] kt pt)] X.env).map (·.2) = [assign (.Tuple [.Name n1 p1, .Name n2 p2, .Name n3 p3, .Name n4 p4, .Name n5 p5, .Name n6 p6] kt pt) X.env] := by rfl) : wS X (.Assign [(.Tuple [.Name n1 p1, .Name n2 p2, .Name n3 p3, .Name n4 p4, .Name n5 p5, .Name n6 p6] kt pt)] (.Tuple [a1, a2, a3, a4, a5, a6] k2 pt2) pos :: rest) D σ H :=
  sw_parT (pgs_cons (pg_name nd hi1 hx1 hf1) (pgs_cons (pg_name nd hi2 hx2 hf2) (pgs_cons (pg_name nd hi3 hx3 hf3) (pgs_cons (pg_name nd hi4 hx4 hf4) (pgs_cons (pg_name nd hi5 hx5 hf5) (pgs_cons (pg_name nd hi6 hx6 hf6) pgs_nil hA6) hA5) hA4) hA3) hA2) hA1) (fun pos pins s I => thn (he pos pins s I) fun us s2 ⟨vs, H2, I2, r, v1, v2, v3, v4, v5, v6, ev, k⟩ => ⟨vs, H2, I2, r, by
    subst ev
    exact ⟨rfl, fun H3 s3 => ⟨v1, _, rfl, ⟨v2, _, rfl, ⟨v3, _, rfl, ⟨v4, _, rfl, ⟨v5, _, rfl, ⟨v6, _, rfl, ⟨rfl, k H3 s3⟩⟩⟩⟩⟩⟩⟩⟩⟩) (by decide) hc hn hst hs hw h1
theorem sw_par3 {n m l : Str} {px py pz pt pt2 : Pos} {kt k2 : Nat} {a b c : Expr} (i j h : Nat) (nd : X.N.Nodup) (he : wA X [a, b, c] σ H fun vs H2 => ∃ v u w, vs = [v, u, w] ∧ wS X rest D (((σ.set i (some v)).set j (some u)).set h (some w)) H2)
    (hc : X.calm = true := by rfl) (hi : X.N[i]? = some n := by rfl) (hj : X.N[j]? = some m := by rfl) (hh : X.N[h]? = some l := by rfl) (hij : i ≠ j := by decide) (hih : i ≠ h := by decide) (hjh : j ≠ h := by decide)
    (hx : X.env.scope.names.lookup n = some .local := by rfl) (hy : X.env.scope.names.lookup m = some .local := by rfl) (hz : X.env.scope.names.lookup l = some .local := by rfl)
    (hw : swappedStores [.Tuple [.Name n px, .Name m py, .Name l pz] kt pt] (.Tuple [a, b, c] k2 pt2) X.env = pure (some [n, m, l]) := by rfl)
    (hs : swapsWithSole [.Tuple [.Name n px, .Name m py, .Name l pz] kt pt] (.Tuple [a, b, c] k2 pt2) pos.line X.env = pure false := by rfl) :
    wS X (.Assign [.Tuple [.Name n px, .Name m py, .Name l pz] kt pt] (.Tuple [a, b, c] k2 pt2) pos :: rest) D σ H :=
  ws_seq (ps_par3 hc nd hi hj hh hij hih hjh hx hy hz pa_w hw hs) he
theorem s_par3 {r : Rp α} {r' : Rp β} {r'' : Rp γ} {x : α} {y : β} {z : γ} {n m l : Str} {px py pz pt pt2 : Pos} {kt k2 : Nat} {a b c : Expr} (i j h : Nat) (nd : X.N.Nodup) [Mono r] [Mono r'] [Mono r''] (he : EvA X [a, b, c] σ F (aC r (aC r' (aC r'' aN))) (x, y, z, ())) (s : Same F H)
    (k : ∀ v u w F2 H2, Grow F H F2 H2 → r F2 v x → r' F2 u y → r'' F2 w z → wS X rest D (((σ.set i (some v)).set j (some u)).set h (some w)) H2)
    (hc : X.calm = true := by rfl) (hi : X.N[i]? = some n := by rfl) (hj : X.N[j]? = some m := by rfl) (hh : X.N[h]? = some l := by rfl) (hij : i ≠ j := by decide) (hih : i ≠ h := by decide) (hjh : j ≠ h := by decide)
    (hx : X.env.scope.names.lookup n = some .local := by rfl) (hy : X.env.scope.names.lookup m = some .local := by rfl) (hz : X.env.scope.names.lookup l = some .local := by rfl)
    (hw : swappedStores [.Tuple [.Name n px, .Name m py, .Name l pz] kt pt] (.Tuple [a, b, c] k2 pt2) X.env = pure (some [n, m, l]) := by rfl)
    (hs : swapsWithSole [.Tuple [.Name n px, .Name m py, .Name l pz] kt pt] (.Tuple [a, b, c] k2 pt2) pos.line X.env = pure false := by rfl) :
    wS X (.Assign [.Tuple [.Name n px, .Name m py, .Name l pz] kt pt] (.Tuple [a, b, c] k2 pt2) pos :: rest) D σ H :=
  sw_par3 i j h nd (he.go s fun vs F2 H2 g r2 => by
    obtain ⟨v1, u1, rfl, h1, v2, u2, rfl, h2, v3, u3, rfl, h3, rfl⟩ := r2
    exact ⟨v1, v2, v3, rfl, k v1 v2 v3 F2 H2 g h1 h2 h3⟩) hc hi hj hh hij hih hjh hx hy hz hw hs
end
end Fw

namespace Fw
open PySem PySem.Spec PyProof.Rows L2

/-! ### data that can be compared -/
theorem shaped_list {ds : List PyData} {n : Nat} (h : ∀ d ∈ ds, d.canLay0 = true ∧ d.depth ≤ n) (hn : n < 64) : SeqAt.shaped (.list ds) = true := by
  unfold SeqAt.shaped
  have h1 : ∀ ds : List PyData, (∀ d ∈ ds, d.canLay0 = true ∧ d.depth ≤ n) → PyData.canLayAll0 ds = true ∧ PyData.depthAll ds ≤ n := by
    intro ds
    induction ds with
    | nil => intro _; exact ⟨rfl, Nat.zero_le _⟩
    | cons d ds ih =>
      intro h
      obtain ⟨a1, a2⟩ := h d List.mem_cons_self
      obtain ⟨b1, b2⟩ := ih fun x hx => h x (List.mem_cons_of_mem _ hx)
      refine ⟨by show (d.canLay0 && PyData.canLayAll0 ds) = true; rw [a1, b1]; rfl, ?_⟩
      show max d.depth (PyData.depthAll ds) ≤ n
      omega
  obtain ⟨a, b⟩ := h1 ds h
  have c : (PyData.list ds).canLay0 = true := a
  have e : (PyData.list ds).depth = PyData.depthAll ds + 1 := rfl
  rw [c, e, Bool.true_and]
  exact decide_eq_true (by omega)
theorem shaped_ints (ns : List Int) : SeqAt.shaped (.list (ns.map .int)) = true := shaped_list (n := 0) (fun d hd => by
  obtain ⟨i, _, rfl⟩ := List.mem_map.mp hd
  exact ⟨rfl, Nat.le_refl 0⟩) (by decide)
theorem eqv_ints : ∀ (ns ms : List Int), PyData.eqv (.list (ns.map .int)) (.list (ms.map .int)) = decide (ns = ms)
  | [], [] => rfl
  | [], _ :: _ => rfl
  | _ :: _, [] => rfl
  | n :: ns, m :: ms => by
    have ih := eqv_ints ns ms
    show (n == m && PyData.eqvAll (ns.map .int) (ms.map .int)) = _
    rw [show PyData.eqvAll (ns.map .int) (ms.map .int) = PyData.eqv (.list (ns.map .int)) (.list (ms.map .int)) from rfl, ih]
    by_cases h : n = m
    · subst h
      by_cases k : ns = ms
      · subst k; simp
      · simp [k]
    · simp [h]

section
variable {X : Cx} {σ : L2.St} {F F' H : Hp} {α β γ : Type} {pos p : Pos} {a b c e : Expr} {rest A B : List Stmt} {D : Ends}
theorem e_ints {ns : List Int} (h : EvE X e σ F (rLst X.K rInt) ns) : EvE X e σ F (rDat X.K) (.list (ns.map .int)) := h.re fun F v r => by
  obtain ⟨a, vs, rfl, h1, h2⟩ := r
  refine .lst h1 (dpAll_of ?_)
  rw [paired_ints h2]
  clear h2 h1 h
  induction ns with
  | nil => exact .nil
  | cons n ns ih => exact .cons (.int n) ih
theorem t_eqL {ns ms : List Int} (hu : X.A.units + 64 < cLine) (ha : EvE X a σ F (rLst X.K rInt) ns) (hb : EvE X b σ F (rLst X.K rInt) ms) : EvT X (.Compare a [.Eq] [b] pos) σ F (decide (ns = ms)) := by
  rw [← eqv_ints]
  exact t_eqD hu (e_ints ha) (e_ints hb) (shaped_ints _) (shaped_ints _)
theorem t_neL {ns ms : List Int} (hu : X.A.units + 64 < cLine) (ha : EvE X a σ F (rLst X.K rInt) ns) (hb : EvE X b σ F (rLst X.K rInt) ms) : EvT X (.Compare a [.NotEq] [b] pos) σ F (!decide (ns = ms)) := by
  rw [← eqv_ints]
  exact t_neD hu (e_ints ha) (e_ints hb) (shaped_ints _) (shaped_ints _)
/-- an if whose ways meet again: J holds behind both -/
theorem s_ifJ (J : L2.St → Hp → Prop) {t : Bool} (hc : EvT X c σ F t) (s : Same F H) (ha : t = true → ∀ F2 H2, Grow F H F2 H2 → wS X A { D with nx := J } σ H2) (hb : t = false → ∀ F2 H2, Grow F H F2 H2 → wS X B { D with nx := J } σ H2)
    (k : ∀ σ2 H2, J σ2 H2 → wS X rest D σ2 H2) : wS X (.If c A B pos :: rest) D σ H :=
  s_if hc s (fun ht F2 H2 g => (ha ht F2 H2 g).mono k (fun _ _ q => q) (fun _ _ q => q) fun _ _ q => q) (fun ht F2 H2 g => (hb ht F2 H2 g).mono k (fun _ _ q => q) (fun _ _ q => q) fun _ _ q => q)
end
section
variable {X : Cx} {σ : L2.St} {F H : Hp} {α : Type} {pos p : Pos} {a e : Expr} {rest : List Stmt} {D : Ends}
/-- as s_setI, the int by a letter -/
theorem s_setIg {x : Int} {n : Str} {pos' : Pos} (i : Nat) (nd : X.N.Nodup) (he : EvE X e σ F rInt x) (s : Same F H) (k : ∀ y, y = x → ∀ F2 H2, Grow F H F2 H2 → wS X rest D (σ.set i (some (.int y))) H2)
    (hi : X.N[i]? = some n := by rfl) (hx : Loc X.env.scope n := by first | exact Or.inl rfl | exact Or.inr rfl) (hs : swapsWith e (some (.Name n pos')) pos.line X.env = pure false := by rfl)
    (hf : X.fn n = true ∨ X.env.scope.names.lookup n = some .local := by first | exact .inl rfl | exact .inr rfl) : wS X (.Assign [.Name n pos'] e pos :: rest) D σ H :=
  s_setI i nd he s (fun F2 H2 g => k x rfl F2 H2 g) hi hx hs hf
theorem e_listL {r : Rp α} {xs : List α} [Mono r] (hm : X.mg "list" = none) (ha : EvE X a σ F (rLst X.K r) xs) (hg : Gl X "list" := by rfl) (he : starEach [a] X.env = (false, eval a X.env) :: starEach [] X.env := by rfl) : EvE X (.Call (.Name "list" p) [a] [] pos) σ F (rLst X.K r) xs :=
  e_ct call_list_of hm (by decide +kernel) (ea_cons (hs := he) ha ea_nil) (fun F2 H2 vs _ s h Q q => by
    obtain ⟨v, us, rfl, ⟨a, vs, rfl, h1, h2⟩, rfl⟩ := h
    exact ⟨a, vs, rfl, .inl (s.seq h1), fun l hl => q _ _ _ (Grow.new s hl) ⟨l, vs, rfl, .inl (.inl upd_same), paired_mono (fun _ _ => Mono.mono (same_new (s.free hl))) h2⟩⟩) hg (he := he)
end
theorem mulb {x y a b : Int} (h0 : 0 ≤ x) (h1 : x ≤ a) (h2 : 0 ≤ y) (h3 : y ≤ b) : 0 ≤ x * y ∧ x * y ≤ a * b := ⟨Int.mul_nonneg h0 h2, Int.mul_le_mul h1 h3 h2 (by omega)⟩
theorem mixb {m q a b c : Int} (m0 : 0 ≤ m) (m1 : m < 2147483648) (q0 : 0 ≤ q) (q1 : q ≤ 1000000) (a0 : 0 ≤ a) (a1 : a ≤ 1000000) (b0 : 0 ≤ b) (b1 : b ≤ 1000000) (c0 : 0 ≤ c) (c1 : c ≤ 1000000) :
    (m * (2 * q + a) + b * q * q + c).natAbs < 2 ^ 64 := by
  have h1 := mulb m0 (show m ≤ 2147483648 by omega) (show 0 ≤ 2 * q + a by omega) (show 2 * q + a ≤ 3000000 by omega)
  have h2 := mulb b0 b1 q0 q1
  have h3 := mulb h2.1 h2.2 q0 q1
  omega
section
variable {X : Cx} {σ : L2.St} {F H : Hp} {α α1 α2 β γ : Type} {pos p : Pos} {a b e : Expr} {rest : List Stmt} {D : Ends} {n : Str} {j k : Nat} {ps : List Str}
/-- a def's call, the arguments by any way -/
theorem w_callF {Q : VK} {es : List Expr} {ar : Ar α} {ro : Rp β} {pre : α → Prop} {f : α → β} (C : Cal X.prog X.w X.K X.mg X.base j n ps (spF ar ro pre f)) (hr : Rm k X.A)
    (h : wA X (a :: es) σ H fun vs H1 => ∃ F x, Same F H1 ∧ ar F vs x ∧ pre x ∧ ∀ v' F' H', Grow F H1 F' H' → ro F' v' (f x) → Q v' H') (hjk : j ≤ k := by decide) (hg : Gl X n := by rfl) (hdb : (n == ("__debug__" : Str)) = false := by decide)
    (he : starEach (a :: es) X.env = (false, eval a X.env) :: starEach es X.env := by rfl) (hpl : (backTo pos (starEach es X.env)).any (·.1) = false := by rfl) : wE X (.Call (.Name n p) (a :: es) [] pos) σ H Q := w_call C hr h hjk hg hdb he hpl
theorem w_callF1 {Q : VK} {r1 : Rp α} {ro : Rp β} {pre : α → Prop} {f : α → β} (C : Cal X.prog X.w X.K X.mg X.base j n ps (spF1 r1 ro pre f)) (hr : Rm k X.A)
    (h : wE X a σ H fun v H1 => ∃ F x, Same F H1 ∧ r1 F v x ∧ pre x ∧ ∀ v' F' H', Grow F H1 F' H' → ro F' v' (f x) → Q v' H') (hjk : j ≤ k := by decide) (hg : Gl X n := by rfl) (hdb : (n == ("__debug__" : Str)) = false := by decide)
    (he : starEach [a] X.env = (false, eval a X.env) :: starEach [] X.env := by rfl) (hpl : (backTo pos (starEach [] X.env)).any (·.1) = false := by rfl) : wE X (.Call (.Name n p) [a] [] pos) σ H Q :=
  w_call C hr (wa_cons (h.mono fun v H1 ⟨F, x, s, hv, hp, q⟩ => wa_nil ⟨F, (x, ()), s, ⟨v, [], rfl, hv, rfl⟩, hp, q⟩) he) hjk hg hdb he hpl
/-- int op int, by any way -/
theorem w_iop0 {op : Operator} {g : Int → Int → V} {Q : VK} (ho : OpR X (binaryOp op) (rI0 g)) (h : wE X a σ H fun v H1 => ∃ x, v = .int x ∧ wE X b σ H1 fun u H2 => ∃ y, u = .int y ∧ Q (g x y) H2) : wE X (.BinOp a op b pos) σ H Q :=
  w_bin ho (h.mono fun v H1 ⟨x, e1, h2⟩ => h2.mono fun u H2 ⟨y, e2, q⟩ => ⟨x, y, e1, e2, q⟩)
theorem w_iop {op : Operator} {C : Int → Int → Prop} {g : Int → Int → V} {Q : VK} (ho : OpR X (binaryOp op) (rI C g)) (h : wE X a σ H fun v H1 => ∃ x, v = .int x ∧ wE X b σ H1 fun u H2 => ∃ y, u = .int y ∧ C x y ∧ Q (g x y) H2) : wE X (.BinOp a op b pos) σ H Q :=
  w_bin ho (h.mono fun v H1 ⟨x, e1, h2⟩ => h2.mono fun u H2 ⟨y, e2, c, q⟩ => ⟨x, y, e1, e2, c, q⟩)
theorem w_add {Q : VK} (h : wE X a σ H fun v H1 => ∃ x, v = .int x ∧ wE X b σ H1 fun u H2 => ∃ y, u = .int y ∧ Q (.int (x + y)) H2) : wE X (.BinOp a .Add b pos) σ H Q := w_iop0 op_add h
theorem w_sub {Q : VK} (h : wE X a σ H fun v H1 => ∃ x, v = .int x ∧ wE X b σ H1 fun u H2 => ∃ y, u = .int y ∧ Q (.int (x - y)) H2) : wE X (.BinOp a .Sub b pos) σ H Q := w_iop0 op_sub h
theorem w_mul {Q : VK} (h : wE X a σ H fun v H1 => ∃ x, v = .int x ∧ wE X b σ H1 fun u H2 => ∃ y, u = .int y ∧ (Lim x ∧ Lim y) ∧ Q (.int (x * y)) H2) : wE X (.BinOp a .Mult b pos) σ H Q :=
  w_iop op_mulX (h.mono fun v H1 ⟨x, e1, h2⟩ => ⟨x, e1, h2.mono fun u H2 ⟨y, e2, c, q⟩ => ⟨y, e2, mulx_ok c.1 c.2 (by decide), q⟩⟩)
theorem w_shl {Q : VK} (h : wE X a σ H fun v H1 => ∃ x, v = .int x ∧ wE X b σ H1 fun u H2 => ∃ y, u = .int y ∧ (0 ≤ y ∧ y ≤ 1000000 ∧ x.natAbs < 2 ^ 64) ∧ Q (.int (x * 2 ^ y.toNat)) H2) : wE X (.BinOp a .LShift b pos) σ H Q := w_iop op_shl h
/-- a value that changes nothing, within any way -/
theorem w_ev {r : Rp α} {x : α} {Q : VK} (h : EvE X e σ F r x) (s : Same F H) (q : ∀ v F2 H2, Grow F H F2 H2 → r F2 v x → Q v H2) : wE X e σ H Q := h.go s q
theorem w_evi {x : Int} {Q : VK} (h : EvE X e σ F rInt x) (s : Same F H) (q : ∀ F2 H2, Grow F H F2 H2 → Q (.int x) H2) : wE X e σ H Q := h.go s fun v F2 H2 g r => by cases r; exact q F2 H2 g
theorem w_int {i : Int} {j : Nat} {Q : VK} (q : Q (.int i) H) : wE X (.Constant (.int i) j pos) σ H Q := we_of pe_int q
theorem w_vi {x : Int} {Q : VK} (i : Nat) (q : Q (.int x) H) (hN : X.N[i]? = some n := by rfl) (hσ : σ[i]? = some (some (.int x)) := by rfl) (hv : Vis X.env.scope n := by first | exact Or.inl rfl | exact Or.inr (Or.inl rfl) | exact Or.inr (Or.inr rfl))
    (hd : (n == ("__debug__" : Str)) = false := by decide) (hcd : (n == ("__classdict__" : Str)) = false := by decide) : wE X (.Name n pos) σ H Q := w_var i q hN hσ hv hd hcd
/-- f(pen, n), n written -/
theorem w_drawc {Q : VK} {np cp : Pos} {nm : Str} {m : Int} {cj j k : Nat} {ro : Rp β} {pre : Int → Prop} {cc N : Nat} {post : Int → β → Prop} {pn : Addr} (ip : Nat)
    (C : Cal X.prog X.w X.K X.mg X.base j n ps (spP1 X.K rInt ro pre cc post)) (hr : Rm k X.A) (s : Same F H) (hp : PenAt X.K F H pn N) (hc : N + cc ≤ 1000000) (hpre : pre m)
    (q : ∀ y v F' H', post m y → Step pn F H F' H' → PenAt X.K F' H' pn (N + cc) → ro F' v y → Q v H')
    (hjk : j ≤ k := by decide) (hσ : σ[ip]? = some (some (.ref pn)) := by rfl) (hN : X.N[ip]? = some nm := by rfl) (hv : Vis X.env.scope nm := by first | exact Or.inl rfl | exact Or.inr (Or.inl rfl) | exact Or.inr (Or.inr rfl))
    (hd : (nm == ("__debug__" : Str)) = false := by decide) (hcd : (nm == ("__classdict__" : Str)) = false := by decide) (hg : Gl X n := by rfl) (hdb : (n == ("__debug__" : Str)) = false := by decide)
    (he : starEach [.Name nm np, .Constant (.int m) cj cp] X.env = (false, eval (.Name nm np) X.env) :: starEach [.Constant (.int m) cj cp] X.env := by rfl) (he2 : starEach [.Constant (.int m) cj cp] X.env = (false, eval (.Constant (.int m) cj cp) X.env) :: starEach [] X.env := by rfl) (hpl : (backTo pos (starEach [.Constant (.int m) cj cp] X.env)).any (·.1) = false := by rfl) :
    wE X (.Call (.Name n p) [.Name nm np, .Constant (.int m) cj cp] [] pos) σ H Q :=
  w_callP1 ip C hr (w_int ⟨F, N, m, s, hp, hc, rfl, hpre, q⟩) hjk hσ hN hv hd hcd hg hdb he he2 hpl
end
theorem Step.side {pn : Addr} {F H H' : Hp} (s : Same F H) (h : Same H H') : Step pn F H F H' := .of (Grow.side s h)
theorem Step.upd {pn : Addr} {F H : Hp} {o : HO} (s : Same F H) (hp : F pn = none) : Step pn F H F (upd H pn o) := by
  have hb : ∀ b u, F b = some u → b ≠ pn := fun b u e z => by subst z; rw [hp] at e; cases e
  refine ⟨Same.refl F, fun b u e => by rw [upd_ne (hb b u e)]; exact s b u e, fun b u hn e => by rw [upd_ne hn]; exact e, fun _ => by rw [upd_same]; exact (fun z => nomatch z), fun b u e => .inl e⟩

/-! ### the laws' pen -/
/-- what _law_pen hands back -/
def sp_pen (K : PySem.W.Frag) : Sp := fun vs H Q _ => ∃ F v ns, vs = [v] ∧ Same F H ∧ rLst K rInt F v ns ∧ ns.length ≤ 100000 ∧ ∀ pn F' H', Same F F' → Same F' H' → PenAt K F' H' pn 0 → Q (.ref pn) H'
abbrev sp_draw (K : PySem.W.Frag) : Sp := spP1 K rInt rInt (fun m => 0 < m ∧ Lim m) 1 (fun m y => 0 ≤ y ∧ y < m)
abbrev sp_pick (K : PySem.W.Frag) {α : Type} (r : Rp α) : Sp := spP1 K (rLst K r) r (fun xs => xs ≠ [] ∧ xs.length ≤ 100000) 1 (fun xs y => y ∈ xs)
end Fw

namespace Fw
open PySem PySem.Spec PyProof.Rows L2

/-! ### the law's own end -/
section
variable {P : Program} {w : World} {K : PySem.W.Frag} {mg mb : Str → Option Value} {k : Nat} {fa a : Addr} {fd : FuncData} {x : Str} {sp : Sp} {s₁ : Shared} {vs : List Value} {ns : List Int}
/-- the call of the law, from a heap H in which at most the script is told -/
theorem law_core {H : Hp} (KX : K.In s₁.heap) (hns : s₁.heap.Ns mainGlobals mg) (hb : s₁.heap.Ns builtinsNs mb) (hbb : ∀ x : Str, x ≠ "__name__" → mb x = bootBuiltins x) (hlim : s₁.heap.NoLimit) (hg : s₁.gens = #[])
    (ha : s₁.heap.get? a = some { cls := .type "list", data := .seq vs.toArray }) (hr : Rm k callerA)
    (G : ∀ base : Heap, K.In base → base.Ns mainGlobals mg → FnG P w K mg base CX0 k fa fd [x] sp) (hbind : ∀ (s : Shared) (u : Value), BindsTo s fd ⟨[u], []⟩ [(x, u)])
    (hO : Only H) (hok : HOk P w H s₁.heap) (hA : ∀ b, H b ≠ none → b = a) (hK : H a ≠ none → K.lookup a = none) (hsp : sp [.ref a] H (fun v _ => v = .bl true) fun _ _ _ => False) :
    codeAny (model P w) callerA (.call (.ref fa) ⟨[.ref a], []⟩) (fun r s' => r = .ok (.ret (.bool true)) ∧ OldK s₁.heap s'.heap ∧ s'.os = s₁.os ∧ AllBare s'.gens) s₁ := by
  -- a table is not the script
  have tab : ∀ {b : Addr} {o : Obj} {es : Array DictEntry} {ep : Nat}, s₁.heap.get? b = some o → o.data = .dict es ep → H b = none := by
    intro b o es ep e d
    cases q : H b with
    | none => rfl
    | some u =>
      obtain rfl := hA b (by rw [q]; exact (fun z => nomatch z))
      rw [ha] at e
      cases e
      exact (nomatch d)
  have names : ∀ {b : Addr} {m : Str → Option Value}, s₁.heap.Ns b m → (hidT s₁.heap H).Ns b m := by
    rintro b m ⟨o, es, ep, e, d, r⟩
    exact ⟨o, es, ep, hidT_get e (tab e d), d, r⟩
  have own : K.In (hidT s₁.heap H) := by
    intro b o e
    refine hidT_get (KX b o e) ?_
    cases q : H b with
    | none => rfl
    | some u =>
      obtain rfl := hA b (by rw [q]; exact (fun z => nomatch z))
      rw [hK (by rw [q]; exact (fun z => nomatch z))] at e
      cases e
  obtain ⟨mc, lim1, lim2⟩ := hlim
  have hM : Mod K mg (hidT s₁.heap H) := ⟨own, names hns, ⟨mb, names hb, hbb⟩, ⟨mc, names lim1, lim2⟩⟩
  have e0 : Env0 P w K mg (hidT s₁.heap H) callerA [] s₁ H :=
    ⟨rfl, hM, fun b o e => of_hidT e, Nat.le_of_eq (hidT_size _ _), trivial, fun b hb => (by cases hb), hok, .of_eq hg⟩
  have run := (G _ own (names hns)).2 callerA [] s₁ H ⟨[.ref a], []⟩ [.ref a] [.ref a] _ _ hr e0 (hbind s₁ (.ref a)) (.cons rfl .nil) hsp
  refine codeAny_mono run fun r s' h => ?_
  match r, h with
  | .error e, h => exact h.elim
  | .ok (.ret u), h =>
    obtain ⟨v, H', os, bare, un, hok', r', q⟩ := h
    obtain rfl : v = .bl true := q
    obtain rfl : u = Value.bool true := r'
    refine ⟨rfl, OldK.of_keep (fun b o e => ?_), os, bare⟩
    rcases hO b with z | ⟨ob, xs, z⟩
    · exact un.keep b o e z (fun y => by cases y) (fun y => by cases y)
    · have e1 := (hok b _ z).1
      have e2 := (hok' b _ (un.frzs b ob _ z)).1
      rw [e] at e1
      cases e1
      exact e2
theorem law_callG (KX : K.In s₁.heap) (hns : s₁.heap.Ns mainGlobals mg) (hb : s₁.heap.Ns builtinsNs mb) (hbb : ∀ x : Str, x ≠ "__name__" → mb x = bootBuiltins x) (hlim : s₁.heap.NoLimit) (hg : s₁.gens = #[])
    (ha : s₁.heap.get? a = some { cls := .type "list", data := .seq vs.toArray }) (hi : IntsAre vs ns) (hl : ns.length ≤ sizeLine) (hr : Rm k callerA)
    (G : ∀ base : Heap, K.In base → base.Ns mainGlobals mg → FnG P w K mg base CX0 k fa fd [x] sp) (hbind : ∀ (s : Shared) (u : Value), BindsTo s fd ⟨[u], []⟩ [(x, u)])
    (hsp : ∀ H : Hp, Only H → SqL K H a (ns.map V.int) → sp [.ref a] H (fun v _ => v = .bl true) fun _ _ _ => False) :
    codeAny (model P w) callerA (.call (.ref fa) ⟨[.ref a], []⟩) (fun r s' => r = .ok (.ret (.bool true)) ∧ OldK s₁.heap s'.heap ∧ s'.os = s₁.os ∧ AllBare s'.gens) s₁ := by
  have rv := vals_ints hi
  cases hk : K.lookup a with
  | some o =>
    -- the script stands in the written part
    have e := KX a o hk
    rw [ha] at e
    cases e
    have hO : Only (fun _ => none) := fun b => .inl rfl
    refine law_core (H := fun _ => none) KX hns hb hbb hlim hg ha hr G hbind hO (fun b u z => nomatch z) (fun b z => absurd rfl z) (fun z => absurd rfl z) (hsp _ hO (.inr ⟨_, vs.toArray, _, hk, rfl, rfl, rfl, ?_, by simpa using rv⟩))
    rw [List.size_toArray, hi.length]
    exact hl
  | none =>
    let ob : Obj := { cls := .type "list", data := .seq vs.toArray }
    let H : Hp := fun b => if b = a then some (.frz ob (.lst (ns.map V.int))) else none
    have at_a : H a = some (.frz ob (.lst (ns.map V.int))) := if_pos rfl
    have at_b : ∀ {b}, b ≠ a → H b = none := fun h => if_neg h
    have hO : Only H := fun b => (Classical.em (b = a)).elim (fun h => .inr ⟨ob, ns.map V.int, h ▸ at_a⟩) (fun h => .inl (at_b h))
    have hA : ∀ b, H b ≠ none → b = a := fun b z => Classical.byContradiction fun h => z (at_b h)
    have hok : HOk P w H s₁.heap := fun b u z => by
      obtain rfl := hA b (by rw [z]; exact (fun y => nomatch y))
      rw [at_a] at z
      cases z
      exact ⟨ha, by rw [List.length_map]; exact hl, vs, _, rv, ha⟩
    exact law_core (H := H) KX hns hb hbb hlim hg ha hr G hbind hO hok hA (fun _ => hk) (hsp _ hO (.inl (.inr ⟨ob, at_a⟩)))
end
/-- a def that lets nothing out, by its body -/
theorem ok_of {P : Program} {w : World} {K : PySem.W.Frag} {mg : Str → Option Value} {base : Heap} {k : Nat} {f : Addr} {n : Str} {st : Stmt} {fd : FuncData} {N ps : List Str} {sp : Sp}
    (F : Fun K n n st f fd) (S : FnScope N ps (defScope st)) (len : ∀ vs H Q E, sp vs H Q E → vs.length = ps.length)
    (body : ∀ (cdv : Value) (A : Around) (outer : List Env) (s : Shared) (H : Hp) (vs : List V) (Q : VK) (E : XK), Rm k (A.deeper (envOfC n (defScope st) s.heap.objs.size f cdv)) → sp vs H Q E →
      wS (cxOf CX0 P w K mg base N n (defScope st) f cdv A outer s H E).nox (defBody st) { nx := fun _ H' => Q .non H', rt := Q } (start N vs) H) : FnG P w K mg base CX0 (k + 1) f fd ps sp :=
  FnG.of_body F S len fun cdv A outer s H vs Q E hr h => ws_of (PSs.nox (X := cxOf CX0 P w K mg base N n (defScope st) f cdv A outer s H E) pss_w) (body cdv A outer s H vs Q E hr h)
/-- what a law of the pen promises -/
def spLaw (K : PySem.W.Frag) : Sp := fun vs H Q _ => ∃ (a : Addr) (ns : List Int), vs = [.ref a] ∧ SqL K H a (ns.map V.int) ∧ ns.length ≤ 63 ∧ ∀ H', Q (.bl true) H'
/-- the goal behind the head, from the law's promise -/
theorem walk_G {l : PySem.W.OpenLaw} {k : Nat} {q : Program} {loose : List Str} {XP : (Str → Option Value) → Heap → Prop} {YP : World → Heap → Prop} {d : DefRec} {K : Params → PySem.W.Frag}
    (hn : l.most = some 63) (hdf : d.params.defaults = []) (hr : Rm k callerA) (hY : ∀ (w : World) (h : Heap), YP w h → (K w.params).In h)
    (F : ∀ (w : World) (mg : Str → Option Value) (fa : Addr) (h : Heap), (K w.params).In h → h.Ns mainGlobals mg → mg d.name = some (.ref fa) →
      ∃ fd : FuncData, (∀ (s : Shared) (u : Value), BindsTo s fd ⟨[u], []⟩ [("script", u)]) ∧
        ∀ base : Heap, (K w.params).In base → base.Ns mainGlobals mg → FnG l.prog w (K w.params) mg base CX0 k fa fd ["script"] (spLaw (K w.params))) :
    PySem.W.WalkO q loose XP YP l.row.toRowW d [] (fun f vs => PySem.call f vs) := by
  refine Att.attach_call hn hdf fun w s₀ s₁ mg mb fa o pm cd doc a vs ns G Y ho hd hcd hmg hobj hints hlen hg => ?_
  obtain ⟨fd, hb, hF⟩ := F w mg fa _ (hY w _ Y) G.T.g hmg
  exact law_callG (hY w _ Y) G.T.g G.T.b G.T.builtins G.T.nolimit hg hobj hints (Nat.le_trans hlen (by decide)) hr hF hb fun H _ hS => ⟨a, ns, rfl, hS, hlen, fun _ => rfl⟩

/-! ### calls by keywords -/
section
variable {X : Cx} {σ : L2.St} {F H : Hp} {α β γ : Type} {pos p : Pos} {es : List Expr} {a e : Expr} {n nm : Str} {j k : Nat} {ps : List Str} {sp : Sp} {kws : List Keyword} {kpos : Pos}
def wK (X : Cx) (kws : List Keyword) : TA := fun σ H Q => ∀ (pos : Pos) (pins : List (Addr × Obj)) (s : Shared), L2.Inv X pins σ H s → wpAny (model X.prog X.w) X.A (evalAll ((backToKw pos (keywordEach kws X.env)).map (·.2))) (AP X pins σ Q) X.xe s
theorem pk_w : PK X kws (wK X kws) := ⟨fun pos pins s σ H Q I h => h pos pins s I⟩
theorem wk_of {t : TA} {Q : List V → Hp → Prop} (h : PK X kws t) (q : t σ H Q) : wK X kws σ H Q := fun pos pins s I => h.run pos pins s σ H Q I q
def EvK (X : Cx) (kws : List Keyword) (σ : L2.St) (F : Hp) (r : Ar α) (x : α) : Prop :=
  ∀ F1 H1, Same F F1 → Same F1 H1 → ∀ Q : List V → Hp → Prop, (∀ v F2 H2, Grow F1 H1 F2 H2 → r F2 v x → Q v H2) → wK X kws σ H1 Q
theorem ek_nil : EvK X [] σ F aN () := fun F1 H1 s1 s2 Q q => wk_of pk_nil (q _ F1 H1 (Grow.refl s2) rfl)
theorem ek_cons {r : Rp α} {t : Ar β} {x : α} {y : β} {o : Option Str} [Mono r] (ha : EvE X e σ F r x) (hb : EvK X kws σ F t y) : EvK X (⟨o, e, kpos⟩ :: kws) σ F (aC r t) (x, y) := fun F1 H1 s1 s2 Q q =>
  wk_of (pk_cons pe_w pk_w) (ha F1 H1 s1 s2 _ fun v F2 H2 g2 r2 => hb F2 H2 (s1.trans g2.f) g2.s _ fun vs F3 H3 g3 r3 => q _ F3 H3 (g2.trans g3) ⟨v, vs, rfl, Mono.mono g3.f r2, r3⟩)
/-- values by their places -/
def permV (pm : List Nat) (vs : List V) : List V := pm.map fun i => vs.getD i .non
def permU (pm : List Nat) (us : List Value) : List Value := pm.map fun i => us.getD i .none
theorem vals_getD {vs : List V} {us : List Value} (r : Vals vs us) (i : Nat) : RelV (vs.getD i .non) (us.getD i .none) := by
  rw [List.getD_eq_getElem?_getD, List.getD_eq_getElem?_getD]
  cases e : vs[i]? with
  | none =>
    rw [r.none_of e]
    rfl
  | some v =>
    obtain ⟨u, hu, rv⟩ := r.get e
    rw [hu]
    exact rv
theorem vals_perm {vs : List V} {us : List Value} (r : Vals vs us) : ∀ pm : List Nat, Vals (permV pm vs) (permU pm us)
  | [] => .nil
  | i :: pm => .cons (vals_getD r i) (vals_perm r pm)
/-- how keywords find their parameters: pm tells for each parameter the place of its keyword -/
def KwTo (n : Str) (st : Stmt) (ps ks : List Str) (pm : List Nat) : Prop := ∀ (kV doc po : Value) (an : Option Addr) (cdv ct : Value) (ws : List Value), ws.length = ks.length →
  bindArgs (PySem.W.fnOf n n (defArgs st) (defBody st) (defScope st) .none kV doc po an cdv ct) ⟨[], ks.zip ws⟩ = pure (ps.zip (permU pm ws))
/-- f(k = v, ..) -/
theorem w_callK {Q : VK} {st : Stmt} {ks : List Str} {pm : List Nat} (C : Cal X.prog X.w X.K X.mg X.base j n ps sp) (d : Def X.K X.mg n st ps) (hr : Rm k X.A) (hkw : KwTo n st ps ks pm) (hl : pm.length = ps.length)
    (h : wK X kws σ H fun zs H1 => zs.length = ks.length ∧ sp (permV pm zs) H1 Q E0) (hjk : j ≤ k := by decide) (hg : Gl X n := by rfl) (hdb : (n == ("__debug__" : Str)) = false := by decide)
    (hall : (backToKw pos (keywordEach kws X.env)).all (·.1.isSome) = true := by rfl) (hks : (backToKw pos (keywordEach kws X.env)).filterMap (·.1) = ks := by rfl)
    (hpl : ((backTo pos (starEach [] X.env)).any (·.1) || (backToKw pos (keywordEach kws X.env)).any (·.1.isNone)) = false := by rfl) : wE X (.Call (.Name n p) [] kws pos) σ H Q := by
  obtain ⟨f, fd, G, hm, hk, hb, oc, od, osl, lk⟩ := C
  obtain ⟨f', fd', h1, h2, _⟩ := d
  have ef : f' = f := by
    rw [h2] at hm
    injection hm with hm
    injection hm
  subst ef
  obtain ⟨⟨oc', od', kV, doc, po, an, cdv, ct, osl', e, lk', _⟩, _⟩ := h1
  rw [lk'] at lk
  have efd : fd' = fd := by
    injection lk with lk
    injection lk with _ _ lk _
    injection lk
  subst efd
  intro pins s I
  refine wpAny_Call_Name_kw (ld_glob I hg hm ?_ hdb)
  refine PySem.W.callWith_KW0 (h₀ := X.base) I.ok.mod.kin hk hall ?_ hpl
  refine thn (h pos pins s I) fun ws s2 ⟨zs, H2, I2, rz, l1, q2⟩ => ⟨I2.kIn, ?_⟩
  rw [hks]
  have l2 : ws.length = ks.length := by rw [← rz.length]; exact l1
  refine run_G (args := ⟨[], ks.zip ws⟩) (us := permU pm ws) (vs := permV pm zs) G (hr.mono hjk) pass0 I2 ?_ (vals_perm rz pm) q2
  rw [e]
  exact BindsTo.of_eq (hkw kV doc po an cdv ct ws l2)
theorem e_callK {st : Stmt} {ks : List Str} {pm : List Nat} {ar : Ar α} {ro : Rp β} {pre : α → Prop} {f : α → β} {x : α} {ark : Ar γ} {y : γ} (C : Cal X.prog X.w X.K X.mg X.base j n ps (spF ar ro pre f)) (d : Def X.K X.mg n st ps) (hr : Rm k X.A) (hkw : KwTo n st ps ks pm) (hl : pm.length = ps.length)
    (h : EvK X kws σ F ark y) (hx : ∀ F zs, ark F zs y → zs.length = ks.length ∧ ar F (permV pm zs) x) (hp : pre x) (hjk : j ≤ k := by decide) (hg : Gl X n := by rfl) (hdb : (n == ("__debug__" : Str)) = false := by decide)
    (hall : (backToKw pos (keywordEach kws X.env)).all (·.1.isSome) = true := by rfl) (hks : (backToKw pos (keywordEach kws X.env)).filterMap (·.1) = ks := by rfl)
    (hpl : ((backTo pos (starEach [] X.env)).any (·.1) || (backToKw pos (keywordEach kws X.env)).any (·.1.isNone)) = false := by rfl) : EvE X (.Call (.Name n p) [] kws pos) σ F ro (f x) := fun F1 H1 s1 s2 Q q =>
  w_callK C d hr hkw hl (h F1 H1 s1 s2 _ fun zs F2 H2 g r => ⟨(hx F2 zs r).1, F2, x, g.s, (hx F2 zs r).2, hp, fun v F3 H3 g3 r3 => q v F3 H3 (g.trans g3) r3⟩) hjk hg hdb hall hks hpl
end

/-! ### repr of data -/
section
variable {X : Cx} {σ : L2.St} {F H : Hp} {pos p : Pos} {a e : Expr}
mutual
theorem dp_nodict {K : PySem.W.Frag} {H : Hp} : ∀ (d : PyData) (v : V), Dp K H v d → d.hasDict = false
  | .none, _, _ => rfl
  | .bool _, _, _ => rfl
  | .int _, _, _ => rfl
  | .str _, _, _ => rfl
  | .list ds, _, h => by cases h with | lst s a => exact dpAll_nodict ds _ a
  | .tuple ds, _, h => by cases h with | tup s a => exact dpAll_nodict ds _ a
  | .dict _, _, h => by cases h
theorem dpAll_nodict {K : PySem.W.Frag} {H : Hp} : ∀ (ds : List PyData) (vs : List V), DpAll K H vs ds → PyData.hasDictAll ds = false
  | [], _, _ => rfl
  | d :: ds, _, h => by
    cases h with
    | cons a b =>
      show (d.hasDict || PyData.hasDictAll ds) = false
      rw [dp_nodict d _ a, dpAll_nodict ds _ b]
      rfl
end
/-- data that may be shown: small, not too deep -/
def Shows (d : PyData) : Prop := d.showable = true ∧ d.shown.length ≤ sizeLine ∧ d.depth < 60
theorem call_repr_data {k : Nat} (hr : Rm k X.A) : CallR X (.builtin "repr") (fun xs H Q => ∃ v d, xs = [v] ∧ Dp X.K H v d ∧ Shows d ∧ Q (.str d.shown) H) := by
  intro pins s σ H xs us Q I r h
  obtain ⟨v, d, rfl, hd, ⟨h1, h2, h3⟩, q⟩ := h
  obtain ⟨u, rfl, ru⟩ := vals1 r
  have done : ∀ (x : Str) (t : Tok), x = d.shown → EP X pins σ Q (.str x t) { s with toks := s.toks + 1 } := fun x t e => ⟨.str d.shown, H, I.tok _, ⟨t, by rw [e]⟩, q⟩
  cases hd with
  | non => cases ru; exact PySem.P.repr_of_none (done _ _ rfl)
  | bl b => cases ru; exact PySem.P.repr_of_bool (done _ _ rfl)
  | int i =>
    obtain ⟨t, rfl⟩ := ru
    exact PySem.P.repr_of_int (of_decide_eq_true h1) (done _ _ rfl)
  | str x =>
    obtain ⟨t, rfl⟩ := ru
    exact PySem.P.repr_of_str (done _ _ rfl) h2
  | lst hs ha =>
    cases ru
    obtain ⟨as, rd⟩ := Dp.reads I _ _ _ (.lst hs ha) (show RelV (.ref _) _ from rfl)
    refine repr_of_reads' rd h1 (fun z => ?_) hr.gd (by have := hr.units; omega) (fun b o e => e) (fun h' u tk k => ⟨.str _, H, I.kept k, ⟨u, rfl⟩, q⟩) h2
    rw [dp_nodict _ _ (.lst hs ha)] at z
    cases z
  | tup hs ha =>
    cases ru
    obtain ⟨as, rd⟩ := Dp.reads I _ _ _ (.tup hs ha) (show RelV (.ref _) _ from rfl)
    refine repr_of_reads' rd h1 (fun z => ?_) hr.gd (by have := hr.units; omega) (fun b o e => e) (fun h' u tk k => ⟨.str _, H, I.kept k, ⟨u, rfl⟩, q⟩) h2
    rw [dp_nodict _ _ (.tup hs ha)] at z
    cases z
theorem e_repr {k : Nat} {d : PyData} (hr : Rm k X.A) (hm : X.mg "repr" = none) (ha : EvE X a σ F (rDat X.K) d) (hd : Shows d) (hg : Gl X "repr" := by rfl) (he : starEach [a] X.env = (false, eval a X.env) :: starEach [] X.env := by rfl) : EvE X (.Call (.Name "repr" p) [a] [] pos) σ F rStr d.shown :=
  e_cb (call_repr_data hr) hm (by decide +kernel) (ea_cons (hs := he) ha ea_nil) (fun F2 H2 vs _ s h Q q => by
    obtain ⟨v, us, rfl, h1, rfl⟩ := h
    exact ⟨v, d, rfl, dp_mono s _ _ h1, hd, q _ F2 H2 (Grow.refl s) rfl⟩) hg (he := he)
end
end Fw

namespace Fw
open PySem PySem.Spec PyProof.Rows L2

/-! ### what may be shown -/
theorem log2_lt {n k : Nat} (hk : 0 < k) (h : n < 2 ^ k) : n.log2 < k := PySem.Flt.log2_lt_of hk h
theorem shown_int_len {i : Int} {b : Nat} (h : Bd b i) : (PyData.shown (.int i)).length ≤ b + 2 := by
  have h1 := PySem.int_text_length_le (a := i) (k := b + 1) (by omega) (log2_lt (by omega) (Nat.lt_of_lt_of_le h (Nat.pow_le_pow_right (by decide) (by omega))))
  show (Str.ofString (toString i)).length ≤ b + 2
  rw [PySem.ofString_length]
  omega
theorem shows_int {i : Int} (h : Bd 1900 i) : Shows (.int i) :=
  ⟨decide_eq_true (Nat.lt_of_lt_of_le (log2_lt (by decide) h) (by decide)), Nat.le_trans (shown_int_len h) (by decide), by show 0 < 60; decide⟩
theorem weight_int {i : Int} {b : Nat} (h : Bd b i) : (PyData.int i).weight ≤ b + 1 := by
  show (if i == 0 then 0 else i.natAbs.log2 + 1) ≤ b + 1
  split
  · omega
  · have := log2_lt (show 0 < b + 1 by omega) (Nat.lt_of_lt_of_le h (Nat.pow_le_pow_right (by decide) (show b ≤ b + 1 by omega)))
    omega
/-- flat data of a size -/
def Leaf (b : Nat) (d : PyData) : Prop := d.showable = true ∧ d.leavesShort (b + 10) = true ∧ d.weight ≤ b + 1 ∧ d.depth = 0
theorem leaf_int {i : Int} {b : Nat} (h : Bd b i) (hb : b ≤ 1900) : Leaf b (.int i) :=
  ⟨decide_eq_true (Nat.lt_of_lt_of_le (log2_lt (show 0 < b + 1 by omega) (Nat.lt_of_lt_of_le h (Nat.pow_le_pow_right (by decide) (by omega)))) (by omega)), decide_eq_true (by have := shown_int_len h; omega), weight_int h, rfl⟩
theorem leaf_none {b : Nat} : Leaf b .none := ⟨rfl, rfl, Nat.zero_le _, rfl⟩
theorem leaf_bool {b : Nat} {t : Bool} : Leaf b (.bool t) := ⟨rfl, rfl, Nat.zero_le _, rfl⟩
theorem leaf_opt {o : Option Int} {b : Nat} (h : ∀ x, o = some x → Bd b x) (hb : b ≤ 1900) : Leaf b (dOpt o) := by
  cases o with
  | none => exact leaf_none
  | some x => exact leaf_int (h x rfl) hb
theorem shows_leaves {b : Nat} {ds : List PyData} (h : ∀ d ∈ ds, Leaf b d) (hn : (b + 12) * (ds.length * (b + 2)) + (b + 10) ≤ 16777216) : Shows (.list ds) := by
  have all : ∀ ds : List PyData, (∀ d ∈ ds, Leaf b d) → PyData.showableAll ds = true ∧ PyData.leavesShortAll (b + 10) ds = true ∧ PyData.weightAll ds ≤ ds.length * (b + 2) ∧ PyData.depthAll ds = 0 := by
    intro ds
    induction ds with
    | nil => intro _; exact ⟨rfl, rfl, Nat.zero_le _, rfl⟩
    | cons d ds ih =>
      intro h
      obtain ⟨a1, a2, a3, a4⟩ := h d List.mem_cons_self
      obtain ⟨b1, b2, b3, b4⟩ := ih fun x hx => h x (List.mem_cons_of_mem _ hx)
      refine ⟨by show (d.showable && PyData.showableAll ds) = true; rw [a1, b1]; rfl, by show (d.leavesShort _ && PyData.leavesShortAll _ ds) = true; rw [a2, b2]; rfl, ?_, by show max d.depth (PyData.depthAll ds) = 0; rw [a4, b4]; rfl⟩
      show d.weight + 1 + PyData.weightAll ds ≤ (ds.length + 1) * (b + 2)
      rw [Nat.add_mul]
      omega
  obtain ⟨a1, a2, a3, a4⟩ := all ds h
  refine ⟨a1, ?_, ?_⟩
  · have h1 := PyData.shown_le (b + 10) (by omega) (.list ds) a2
    have h2 : (PyData.list ds).weight ≤ ds.length * (b + 2) := a3
    have h3 : (b + 10 + 2) * (PyData.list ds).weight ≤ (b + 12) * (ds.length * (b + 2)) := Nat.mul_le_mul_left _ h2
    rw [sizeLine_eq]
    omega
  · show PyData.depthAll ds + 1 < 60
    omega
theorem shaped_leaves {ds : List PyData} (h : ∀ d ∈ ds, d.canLay0 = true ∧ d.depth = 0) : SeqAt.shaped (.list ds) = true := shaped_list (n := 0) (fun d hd => ⟨(h d hd).1, Nat.le_of_eq (h d hd).2⟩) (by decide)
theorem lay_opt (o : Option Int) : (dOpt o).canLay0 = true ∧ (dOpt o).depth = 0 := by cases o <;> exact ⟨rfl, rfl⟩
theorem shaped_opt (o : Option Int) : SeqAt.shaped (dOpt o) = true := by cases o <;> rfl
theorem eqv_opt (o o' : Option Int) : PyData.eqv (dOpt o) (dOpt o') = decide (o = o') := by
  cases o with
  | none => cases o' <;> rfl
  | some x =>
    cases o' with
    | none => rfl
    | some y =>
      show (x == y) = _
      by_cases h : x = y
      · subst h; simp
      · simp [h]
theorem eqv_refl_leaf {d : PyData} (h : d.depth = 0) : PyData.eqv d d = true := by
  cases d with
  | none => rfl
  | bool b => exact beq_self_eq_true b
  | int i => exact beq_self_eq_true i
  | str x => exact beq_self_eq_true x
  | list xs => exact absurd h (Nat.succ_ne_zero _)
  | tuple xs => exact absurd h (Nat.succ_ne_zero _)
  | dict kvs => exact absurd h (Nat.succ_ne_zero _)

theorem bd_ten {n : Nat} (h : n ≤ 6) : Bd 20 ((10 : Int) ^ n) := by
  have : (10 : Int) ^ n ≤ 10 ^ 6 := by
    have h1 : (10 : Nat) ^ n ≤ 10 ^ 6 := Nat.pow_le_pow_right (by decide) h
    have e : ∀ k : Nat, (10 : Int) ^ k = ((10 ^ k : Nat) : Int) := fun k => by rw [Int.natCast_pow]; rfl
    rw [e, e]
    exact Int.ofNat_le.mpr h1
  have h0 : 0 ≤ (10 : Int) ^ n := Int.pow_nonneg (by decide)
  unfold Bd
  have e6 : (10 : Int) ^ 6 = 1000000 := by decide
  omega
/-! the numbers drawn -/
theorem pow_bd {a : Int} {n k : Nat} (h : a ≤ 10 ^ n) (h0 : 0 ≤ a) (hk : 10 ^ n < 2 ^ k) : Bd k a := by
  have e : (10 : Int) ^ n = ((10 ^ n : Nat) : Int) := by rw [Int.natCast_pow]; rfl
  rw [e] at h
  unfold Bd
  omega
theorem shl_bd {y : Int} {m : Nat} (h0 : 0 ≤ y) (h1 : y < m) : Bd m (1 * 2 ^ y.toNat) ∧ 0 < (1 : Int) * 2 ^ y.toNat := by
  rw [Int.one_mul]
  refine ⟨?_, Int.pow_pos (by decide)⟩
  have e : (2 : Int) ^ y.toNat = ((2 ^ y.toNat : Nat) : Int) := by rw [Int.natCast_pow]; rfl
  unfold Bd
  rw [e, Int.natAbs_natCast]
  exact Nat.pow_lt_pow_right (by decide) (by omega)
/-- a law's part that must be True -/
abbrev sp_right (K : PySem.W.Frag) (c : Nat) : Sp := spP K aN rBool (fun _ => True) c (fun _ y => y = true)

/-! ### more built-ins -/
section
variable {X : Cx} {σ : L2.St} {F F' H : Hp} {α β γ : Type} {pos p : Pos} {a b c e : Expr} {r : Rp α} {xs : List α} {n : Str}
theorem e_maxL {ns : List Int} {m : Int} (hm : X.mg "max" = none) (ha : EvE X a σ F (rLst X.K rInt) ns) (h1 : m ∈ ns) (h2 : ∀ y ∈ ns, y ≤ m) (hc : X.calm = true := by rfl) (hg : Gl X "max" := by rfl) (he : starEach [a] X.env = (false, eval a X.env) :: starEach [] X.env := by rfl) : EvE X (.Call (.Name "max" p) [a] [] pos) σ F rInt m :=
  e_cb (cr_max hc) hm (by decide +kernel) (ea_cons (hs := he) ha ea_nil) (fun F2 H2 vs _ s h Q q => by
    obtain ⟨v, us, rfl, ⟨a, vs, rfl, k1, k2⟩, rfl⟩ := h
    rw [paired_ints k2] at k1
    refine ⟨a, ns, rfl, s.seq k1, List.length_pos_iff.mpr (fun z => by rw [z] at h1; cases h1), fun m' hm1 hm2 => q _ F2 H2 (Grow.refl s) ?_⟩
    have := hm2 m h1
    have := h2 m' hm1
    show V.int m' = V.int m
    congr 1
    omega) hg (he := he)
theorem e_minL {ns : List Int} {m : Int} (hm : X.mg "min" = none) (ha : EvE X a σ F (rLst X.K rInt) ns) (h1 : m ∈ ns) (h2 : ∀ y ∈ ns, m ≤ y) (hc : X.calm = true := by rfl) (hg : Gl X "min" := by rfl) (he : starEach [a] X.env = (false, eval a X.env) :: starEach [] X.env := by rfl) : EvE X (.Call (.Name "min" p) [a] [] pos) σ F rInt m :=
  e_cb (cr_min hc) hm (by decide +kernel) (ea_cons (hs := he) ha ea_nil) (fun F2 H2 vs _ s h Q q => by
    obtain ⟨v, us, rfl, ⟨a, vs, rfl, k1, k2⟩, rfl⟩ := h
    rw [paired_ints k2] at k1
    refine ⟨a, ns, rfl, s.seq k1, List.length_pos_iff.mpr (fun z => by rw [z] at h1; cases h1), fun m' hm1 hm2 => q _ F2 H2 (Grow.refl s) ?_⟩
    have := hm2 m h1
    have := h2 m' hm1
    show V.int m' = V.int m
    congr 1
    omega) hg (he := he)
theorem paired_rep {β : Type} {R : β → α → Prop} {vs : List β} {xs : List α} (h : Paired R vs xs) : ∀ n : Nat, Paired R (List.replicate n vs).flatten (List.replicate n xs).flatten
  | 0 => .nil
  | n + 1 => by
    rw [List.replicate_succ, List.replicate_succ, List.flatten_cons, List.flatten_cons]
    exact paired_app h (paired_rep h n)
/-- [..] * n -/
theorem e_rep {es : List Expr} {k : Int} {lpos : Pos} [Mono r] (ha : EvA X es σ F (aL r) xs) (hb : EvE X b σ F rInt k) (h0 : 0 ≤ k) (hk : k ≤ 100000) (hl : xs.length * k.toNat ≤ 100000) (hx : xs.length ≤ 100000) :
    EvE X (.BinOp (.List es lpos) .Mult b pos) σ F (rLst X.K r) (List.replicate k.toNat xs).flatten := fun F1 H1 s1 s2 Q q => by
  refine we_of (pe_op op_rep (pe_lst pa_w) pe_w) (ha F1 H1 s1 s2 _ fun vs F2 H2 g2 r2 => ⟨by rw [paired_len r2]; exact sz_le hx, fun p hp => ?_⟩)
  have g3 := Grow.side g2.s (same_new (o := HO.lst vs) hp)
  refine hb F2 _ (s1.trans g2.f) g3.s _ fun u F4 H4 g4 r4 => ?_
  refine ⟨p, k, vs, rfl, r4, g4.h _ _ upd_same, by omega, by omega, by rw [paired_len r2]; exact sz_le hl, fun p2 hp2 => ?_⟩
  refine q _ _ _ (((g2.trans g3).trans g4).trans (Grow.new g4.s hp2)) ⟨p2, _, rfl, .inl (.inl upd_same), ?_⟩
  exact paired_mono (fun _ _ => Mono.mono (g4.f.trans (same_new (g4.s.free hp2)))) (paired_rep r2 _)
/-- a if c else b, two answers -/
theorem e_ifx2 {t : Bool} {x y : α} (hc : EvT X c σ F t) (ha : t = true → EvE X a σ F r x) (hb : t = false → EvE X b σ F r y) : EvE X (.IfExp c a b pos) σ F r (if t = true then x else y) := by
  refine e_ifx hc (fun h => ?_) (fun h => ?_)
  · rw [if_pos h]; exact ha h
  · rw [if_neg (by rw [h]; exact Bool.false_ne_true)]; exact hb h
theorem t_eqO {o o' : Option Int} (hu : X.A.units + 64 < cLine) (ha : EvE X a σ F (rOpt rInt) o) (hb : EvE X b σ F (rOpt rInt) o') : EvT X (.Compare a [.Eq] [b] pos) σ F (decide (o = o')) := by
  rw [← eqv_opt]
  exact t_eqD hu (e_do ha) (e_do hb) (shaped_opt o) (shaped_opt o')
theorem e_eqO {o o' : Option Int} (hu : X.A.units + 64 < cLine) (ha : EvE X a σ F (rOpt rInt) o) (hb : EvE X b σ F (rOpt rInt) o') : EvE X (.Compare a [.Eq] [b] pos) σ F rBool (decide (o = o')) := by
  rw [← eqv_opt]
  exact e_eqD hu (e_do ha) (e_do hb) (shaped_opt o) (shaped_opt o')
theorem e_eqS {x y : Str} (ha : EvE X a σ F rStr x) (hb : EvE X b σ F rStr y) : EvE X (.Compare a [.Eq] [b] pos) σ F rBool (decide (x = y)) :=
  e_cmp op_eq (nomark _) ha hb fun F2 H2 v u _ s e1 e2 Q q => by subst e1 e2; exact ⟨rfl, by rw [bl_str]; exact q _ F2 H2 (Grow.refl s) rfl⟩
/-- a list of ints, or of such or None, as data -/
theorem e_opts {os : List (Option Int)} (h : EvE X e σ F (rLst X.K (rOpt rInt)) os) : EvE X e σ F (rDat X.K) (.list (os.map dOpt)) := h.re fun F v r => by
  obtain ⟨a, vs, rfl, h1, h2⟩ := r
  refine .lst h1 (dpAll_of ?_)
  clear h1 h
  induction h2 with
  | nil => exact .nil
  | cons hd _ ih =>
    refine .cons ?_ ih
    rename_i a b _ _ _
    cases b with
    | none => cases hd; exact .non
    | some x => cases hd; exact .int x
end
end Fw

namespace Fw

/-- f 0 + .. + f (n - 1) -/
def sumTo (f : Nat → Int) : Nat → Int
  | 0 => 0
  | n + 1 => sumTo f n + f n

theorem sumTo_zero (f : Nat → Int) : sumTo f 0 = 0 := rfl
theorem sumTo_succ (f : Nat → Int) (n : Nat) : sumTo f (n + 1) = sumTo f n + f n := rfl
theorem sumTo_congr {f g : Nat → Int} : ∀ {n : Nat}, (∀ i, i < n → f i = g i) → sumTo f n = sumTo g n
  | 0, _ => rfl
  | n + 1, h => by rw [sumTo_succ, sumTo_succ, sumTo_congr fun i hi => h i (by omega), h n (by omega)]
theorem sumTo_front (f : Nat → Int) : ∀ n : Nat, sumTo f (n + 1) = f 0 + sumTo (fun i => f (i + 1)) n
  | 0 => by simp [sumTo]
  | n + 1 => by rw [sumTo_succ, sumTo_front f n, sumTo_succ]; omega
theorem sumTo_rev (f : Nat → Int) : ∀ n : Nat, sumTo (fun i => f (n - 1 - i)) n = sumTo f n
  | 0 => rfl
  | n + 1 => by
    rw [sumTo_front, sumTo_succ]
    have h : sumTo (fun i => f (n + 1 - 1 - (i + 1))) n = sumTo f n := by
      rw [← sumTo_rev f n]
      exact sumTo_congr fun i hi => by rw [show n + 1 - 1 - (i + 1) = n - 1 - i by omega]
    rw [h, show n + 1 - 1 - 0 = n by omega]
    omega
theorem sumTo_add (f g : Nat → Int) : ∀ n : Nat, sumTo (fun i => f i + g i) n = sumTo f n + sumTo g n
  | 0 => by simp [sumTo]
  | n + 1 => by rw [sumTo_succ, sumTo_succ, sumTo_succ, sumTo_add f g n]; omega
theorem sumTo_sub (f g : Nat → Int) : ∀ n : Nat, sumTo (fun i => f i - g i) n = sumTo f n - sumTo g n
  | 0 => by simp [sumTo]
  | n + 1 => by rw [sumTo_succ, sumTo_succ, sumTo_succ, sumTo_sub f g n]; omega
theorem sumTo_const (c : Int) : ∀ n : Nat, sumTo (fun _ => c) n = n * c
  | 0 => by simp [sumTo]
  | n + 1 => by
    rw [sumTo_succ, sumTo_const c n]
    have e : ((n + 1 : Nat) : Int) * c = n * c + c := by
      rw [Int.natCast_add, Int.add_mul]; omega
    omega
theorem sumTo_mul (c : Int) (f : Nat → Int) : ∀ n : Nat, sumTo (fun i => c * f i) n = c * sumTo f n
  | 0 => by simp [sumTo]
  | n + 1 => by rw [sumTo_succ, sumTo_mul c f n, sumTo_succ, Int.mul_add]
theorem sumTo_split (f : Nat → Int) (n : Nat) : ∀ m : Nat, sumTo f (n + m) = sumTo f n + sumTo (fun i => f (n + i)) m
  | 0 => by simp [sumTo]
  | m + 1 => by rw [← Nat.add_assoc, sumTo_succ, sumTo_split f n m, sumTo_succ]; omega
theorem sumTo_nonneg {f : Nat → Int} : ∀ {n : Nat}, (∀ i, i < n → 0 ≤ f i) → 0 ≤ sumTo f n
  | 0, _ => Int.le_refl 0
  | n + 1, h => by
    have h1 := sumTo_nonneg (n := n) fun i hi => h i (by omega)
    have h2 := h n (by omega)
    rw [sumTo_succ]; omega
theorem sumTo_le {f g : Nat → Int} : ∀ {n : Nat}, (∀ i, i < n → f i ≤ g i) → sumTo f n ≤ sumTo g n
  | 0, _ => Int.le_refl 0
  | n + 1, h => by
    have h1 := sumTo_le (n := n) fun i hi => h i (by omega)
    have h2 := h n (by omega)
    rw [sumTo_succ, sumTo_succ]; omega

/-- 0 + 1 + .. -/
theorem tri (n : Nat) : sumTo (fun i => (i : Int)) n = (n : Int) * ((n : Int) - 1) / 2 := by
  have h : ∀ n : Nat, 2 * sumTo (fun i => (i : Int)) n = (n : Int) * ((n : Int) - 1) := by
    intro n
    induction n with
    | zero => simp [sumTo]
    | succ n ih =>
      rw [sumTo_succ, Int.mul_add, ih, Int.natCast_add]
      have e : ((n : Int) + 1) * ((n : Int) + 1 - 1) = (n : Int) * ((n : Int) - 1) + 2 * n := by
        rw [show (n : Int) + 1 - 1 = n by omega, Int.add_mul, Int.mul_sub]; omega
      rw [show ((1 : Nat) : Int) = 1 by rfl, e]
  have := h n
  omega

/-- the sum of (a i + c) / b over i < n -/
def flS (n : Nat) (b a c : Int) : Int := sumTo (fun i => (a * i + c) / b) n

theorem flS_succ (n : Nat) (b a c : Int) : flS (n + 1) b a c = flS n b a c + (a * n + c) / b := rfl

theorem flS_cut {b : Int} (hb : 0 < b) (n : Nat) (a c : Int) : flS n b a c = (n : Int) * ((n : Int) - 1) / 2 * (a / b) + n * (c / b) + flS n b (a % b) (c % b) := by
  unfold flS
  rw [← tri n, ← sumTo_const, Int.mul_comm, ← sumTo_mul, ← sumTo_add, ← sumTo_add]
  refine sumTo_congr fun i _ => ?_
  have ea := Int.mul_ediv_add_emod a b
  have ec := Int.mul_ediv_add_emod c b
  have e : a * i + c = (a % b * i + c % b) + (a / b * i + c / b) * b := by
    rw [Int.add_mul]
    have e1 : a * i = a % b * i + a / b * i * b := by
      have : a / b * i * b = b * (a / b) * i := by rw [Int.mul_comm (a / b * i) b, Int.mul_assoc]
      rw [this, ← Int.add_mul]; congr 1; omega
    have e2 : c / b * b = b * (c / b) := Int.mul_comm _ _
    omega
  rw [e, Int.add_mul_ediv_right _ _ (by omega)]
  omega

/-- the points under the line, by columns of the other side -/
theorem flS_turn {b a : Int} (ha : 0 < a) (hb : 0 < b) {c : Int} (h0 : 0 ≤ c) (hc : c < b) (n : Nat) : flS n b a c = flS ((a * n + c) / b).toNat a b ((a * n + c) % b) := by
  -- the other side, counted from above
  let G : Int → Nat → Int := fun y m => sumTo (fun j => (y - (j + 1) * b) / a) m
  have hG : ∀ y : Int, 0 ≤ y → flS (y / b).toNat a b (y % b) = G y (y / b).toNat := by
    intro y hy
    have hm := Int.toNat_of_nonneg (Int.ediv_nonneg hy (Int.le_of_lt hb))
    have em := Int.mul_ediv_add_emod y b
    generalize (y / b).toNat = m at *
    show sumTo _ m = sumTo _ m
    rw [← sumTo_rev _ m]
    refine sumTo_congr fun j hj => ?_
    congr 1
    have e : ((m - 1 - j : Nat) : Int) = (m : Int) - 1 - j := by omega
    rw [e]
    have e2 : b * ((m : Int) - 1 - j) = b * m - (j + 1) * b := by
      rw [Int.add_mul, Int.mul_sub, Int.mul_sub, Int.mul_comm b j]; omega
    rw [e2]
    rw [← hm] at em
    omega
  suffices h : ∀ n : Nat, flS n b a c = G (a * n + c) ((a * n + c) / b).toNat by
    rw [h n, hG]
    have := Int.mul_nonneg (Int.le_of_lt ha) (Int.natCast_nonneg n)
    omega
  intro n
  induction n with
  | zero =>
    have e : (a * ((0 : Nat) : Int) + c) / b = 0 := by
      rw [show a * ((0 : Nat) : Int) + c = c by simp]
      exact Int.ediv_eq_zero_of_lt h0 hc
    rw [e]; rfl
  | succ n ih =>
    rw [flS_succ, ih]
    have hn := Int.mul_nonneg (Int.le_of_lt ha) (Int.natCast_nonneg n)
    have ey : a * ((n + 1 : Nat) : Int) + c = (a * n + c) + a := by
      rw [Int.natCast_add, Int.mul_add]; simp; omega
    rw [ey]
    generalize hy : a * (n : Int) + c = y at *
    have hy0 : 0 ≤ y := by omega
    have q0 := Int.toNat_of_nonneg (Int.ediv_nonneg hy0 (Int.le_of_lt hb))
    have q1 := Int.toNat_of_nonneg (Int.ediv_nonneg (show 0 ≤ y + a by omega) (Int.le_of_lt hb))
    have hle : y / b ≤ (y + a) / b := Int.ediv_le_ediv hb (by omega)
    have e0 := Int.mul_ediv_add_emod y b
    have e1 := Int.mul_ediv_add_emod (y + a) b
    have r0 := Int.emod_nonneg y (show b ≠ 0 by omega)
    have r0' := Int.emod_lt_of_pos y hb
    have r1 := Int.emod_nonneg (y + a) (show b ≠ 0 by omega)
    generalize hm : (y / b).toNat = m at *
    generalize hm1 : ((y + a) / b).toNat = m1 at *
    rw [← q0] at e0
    rw [← q1] at e1
    obtain ⟨d, rfl⟩ : ∃ d, m1 = m + d := ⟨m1 - m, by omega⟩
    show sumTo _ m + y / b = sumTo _ (m + d)
    rw [sumTo_split]
    have step : ∀ j : Nat, (y + a - ((j : Int) + 1) * b) / a = (y - ((j : Int) + 1) * b) / a + 1 := by
      intro j
      rw [show y + a - ((j : Int) + 1) * b = (y - ((j : Int) + 1) * b) + 1 * a by omega, Int.add_mul_ediv_right _ _ (by omega)]
    have t1 : sumTo (fun j : Nat => (y + a - ((j : Int) + 1) * b) / a) m = sumTo (fun j : Nat => (y - ((j : Int) + 1) * b) / a) m + m := by
      rw [sumTo_congr fun j _ => step j, sumTo_add, sumTo_const]; omega
    have t2 : sumTo (fun i : Nat => (y + a - (((m + i : Nat) : Int) + 1) * b) / a) d = 0 := by
      rw [sumTo_congr (g := fun _ => 0) fun i hi => ?_, sumTo_const]
      · simp
      · have u1 : ((m + i : Nat) : Int) + 1 ≤ ((m + d : Nat) : Int) := by omega
        have u2 : (((m + i : Nat) : Int) + 1) * b ≤ ((m + d : Nat) : Int) * b := Int.mul_le_mul_of_nonneg_right u1 (Int.le_of_lt hb)
        have u3 : ((m : Int) + 1) * b ≤ (((m + i : Nat) : Int) + 1) * b := Int.mul_le_mul_of_nonneg_right (by omega) (Int.le_of_lt hb)
        have u4 : ((m : Int) + 1) * b = b * m + b := by rw [Int.add_mul, Int.mul_comm]; omega
        have u5 : ((m + d : Nat) : Int) * b = b * ((m + d : Nat) : Int) := Int.mul_comm _ _
        exact Int.ediv_eq_zero_of_lt (by omega) (by omega)
    rw [t1, t2]
    omega

theorem flS_zero_slope {b c : Int} (h0 : 0 ≤ c) (hc : c < b) (n : Nat) : flS n b 0 c = 0 := by
  unfold flS
  rw [sumTo_congr (g := fun _ => 0) fun i _ => ?_, sumTo_const]
  · simp
  · rw [Int.zero_mul, Int.zero_add]; exact Int.ediv_eq_zero_of_lt h0 hc
end Fw

namespace Fw

def gcdI (a b : Int) : Int := (Int.gcd a b : Int)
theorem gcdI_pos {a : Int} (b : Int) (h : 0 < a) : 0 < gcdI a b := by
  unfold gcdI
  have : Int.gcd a b ≠ 0 := fun e => by
    have := Int.gcd_eq_zero_iff.mp e
    omega
  omega
theorem gcdI_step {a b : Int} (ha : 0 ≤ a) (hb : 0 < b) : gcdI b (a % b) = gcdI a b := by
  unfold gcdI
  obtain ⟨n, rfl⟩ := Int.eq_ofNat_of_zero_le ha
  obtain ⟨m, rfl⟩ := Int.eq_ofNat_of_zero_le (Int.le_of_lt hb)
  rw [← Int.natCast_emod]
  simp only [Int.gcd, Int.natAbs_natCast]
  congr 1
  rw [Nat.gcd_comm m, ← Nat.gcd_rec, Nat.gcd_comm]
theorem gcdI_zero {a : Int} (ha : 0 ≤ a) : gcdI a 0 = a := by
  unfold gcdI
  rw [Int.gcd_zero_right]
  omega
theorem gcdI_dvd_left (a b : Int) : gcdI a b ∣ a := Int.gcd_dvd_left ..
theorem gcdI_dvd_right (a b : Int) : gcdI a b ∣ b := Int.gcd_dvd_right ..
theorem gcdI_le {a b : Int} (h : 0 < a) : gcdI a b ≤ a := Int.le_of_dvd h (gcdI_dvd_left a b)

/-- how many residues are at least l -/
def gOnes (n : Nat) (b a c l : Int) : Int := sumTo (fun i => if l ≤ (a * i + c) % b then 1 else 0) n
theorem gOnes_succ (n : Nat) (b a c l : Int) : gOnes (n + 1) b a c l = gOnes n b a c l + if l ≤ (a * n + c) % b then 1 else 0 := rfl
theorem gOnes_low {b : Int} (hb : 0 < b) {l : Int} (hl : l ≤ 0) (n : Nat) (a c : Int) : gOnes n b a c l = n := by
  unfold gOnes
  rw [sumTo_congr (g := fun _ => 1) fun i _ => ?_, sumTo_const, Int.mul_one]
  rw [if_pos]
  have := Int.emod_nonneg (a * i + c) (show b ≠ 0 by omega)
  omega
theorem gOnes_high {b : Int} (hb : 0 < b) {l : Int} (hl : b ≤ l) (n : Nat) (a c : Int) : gOnes n b a c l = 0 := by
  unfold gOnes
  rw [sumTo_congr (g := fun _ => 0) fun i _ => ?_, sumTo_const, Int.mul_zero]
  rw [if_neg]
  have := Int.emod_lt_of_pos (a * i + c) hb
  omega
theorem great_one {b l x : Int} (h0 : 0 < l) (h1 : l < b) : (x + (b - l)) / b - x / b = if l ≤ x % b then 1 else 0 := by
  have e := Int.mul_ediv_add_emod x b
  have r0 := Int.emod_nonneg x (show b ≠ 0 by omega)
  have r1 := Int.emod_lt_of_pos x (show 0 < b by omega)
  generalize x / b = q at *
  generalize x % b = r at *
  subst e
  have e2 : b * q + r + (b - l) = (r + (b - l)) + q * b := by rw [Int.mul_comm]; omega
  rw [e2, Int.add_mul_ediv_right _ _ (show b ≠ 0 by omega)]
  split
  · have : (r + (b - l)) / b = 1 := by
      have e3 : r + (b - l) = (r - l) + 1 * b := by omega
      rw [e3, Int.add_mul_ediv_right _ _ (show b ≠ 0 by omega), Int.ediv_eq_zero_of_lt (by omega) (by omega)]
      rfl
    omega
  · have : (r + (b - l)) / b = 0 := Int.ediv_eq_zero_of_lt (by omega) (by omega)
    omega
theorem gOnes_fl {b l : Int} (h0 : 0 < l) (h1 : l < b) (n : Nat) (a c : Int) : gOnes n b a c l = flS n b a (c + b - l) - flS n b a c := by
  unfold gOnes flS
  rw [← sumTo_sub]
  refine sumTo_congr fun i _ => ?_
  rw [← great_one h0 h1]
  congr 2
  omega
theorem gOnes_mono {n m : Nat} (h : n ≤ m) (b a c l : Int) : gOnes n b a c l ≤ gOnes m b a c l := by
  obtain ⟨k, rfl⟩ : ∃ k, m = n + k := ⟨m - n, by omega⟩
  unfold gOnes
  rw [sumTo_split]
  have := sumTo_nonneg (n := k) (f := fun i => if l ≤ (a * ((n + i : Nat) : Int) + c) % b then 1 else 0) fun i _ => by split <;> omega
  omega
theorem gOnes_nonneg (n : Nat) (b a c l : Int) : 0 ≤ gOnes n b a c l := sumTo_nonneg fun i _ => by split <;> omega
theorem gOnes_le (n : Nat) (b a c l : Int) : gOnes n b a c l ≤ n := by
  have := sumTo_le (n := n) (f := fun i => if l ≤ (a * i + c) % b then (1 : Int) else 0) (g := fun _ => 1) fun i _ => by split <;> omega
  rw [sumTo_const] at this
  unfold gOnes
  omega

/-! ### a period -/
/-- two shifts that the same bottom divides are a period apart -/
theorem same_res {b a u : Int} (hb : 0 < b) {i j : Nat} (hij : i < j) (h1 : b ∣ a * i + u) (h2 : b ∣ a * j + u) : b / gcdI b a ≤ (j : Int) - i := by
  have hd := gcdI_pos a hb
  have h3 : b ∣ a * ((j : Int) - i) := by
    have := Int.dvd_sub h2 h1
    rw [show a * j + u - (a * i + u) = a * ((j : Int) - i) by rw [Int.mul_sub]; omega] at this
    exact this
  obtain ⟨n, hn⟩ : ∃ n : Nat, (j : Int) - i = n := ⟨j - i, by omega⟩
  rw [hn] at h3 ⊢
  have hn0 : 0 < n := by omega
  have h4 : b.natAbs ∣ a.natAbs * n := by
    have := Int.natAbs_dvd_natAbs.mpr h3
    rw [Int.natAbs_mul, Int.natAbs_natCast] at this
    exact this
  have e : gcdI b a = ((Nat.gcd b.natAbs a.natAbs : Nat) : Int) := rfl
  have hg : 0 < Nat.gcd b.natAbs a.natAbs := by rw [e] at hd; omega
  have h5 : b.natAbs / Nat.gcd b.natAbs a.natAbs ∣ (a.natAbs / Nat.gcd b.natAbs a.natAbs) * n := by
    obtain ⟨k, hk⟩ := h4
    refine ⟨k, ?_⟩
    have d1 := Nat.div_mul_cancel (Nat.gcd_dvd_left b.natAbs a.natAbs)
    have d2 := Nat.div_mul_cancel (Nat.gcd_dvd_right b.natAbs a.natAbs)
    generalize b.natAbs / Nat.gcd b.natAbs a.natAbs = b' at *
    generalize a.natAbs / Nat.gcd b.natAbs a.natAbs = a' at *
    generalize Nat.gcd b.natAbs a.natAbs = g at *
    rw [← d1, ← d2] at hk
    have : g * (a' * n) = g * (b' * k) := by
      rw [← Nat.mul_assoc, ← Nat.mul_assoc, Nat.mul_comm g a', Nat.mul_comm g b']
      exact hk
    exact Nat.eq_of_mul_eq_mul_left hg this
  have h6 : b.natAbs / Nat.gcd b.natAbs a.natAbs ∣ n := (Nat.coprime_div_gcd_div_gcd hg).dvd_of_dvd_mul_left h5
  have h7 := Nat.le_of_dvd hn0 h6
  have e2 : b / gcdI b a = ((b.natAbs / Nat.gcd b.natAbs a.natAbs : Nat) : Int) := by
    rw [e, Int.natCast_ediv]
    congr 1
    omega
  rw [e2]
  omega
theorem step_floor {b x : Int} (hb : 0 < b) : (x + 1) / b - x / b = if b ∣ x + 1 then 1 else 0 := by
  have e := Int.mul_ediv_add_emod x b
  have r0 := Int.emod_nonneg x (show b ≠ 0 by omega)
  have r1 := Int.emod_lt_of_pos x hb
  generalize x / b = q at *
  generalize x % b = r at *
  subst e
  have e2 : b * q + r + 1 = (r + 1) + q * b := by rw [Int.mul_comm]; omega
  rw [e2, Int.add_mul_ediv_right _ _ (show b ≠ 0 by omega)]
  by_cases h : r + 1 = b
  · rw [h, Int.ediv_self (by omega), if_pos]
    · omega
    · exact ⟨1 + q, by rw [Int.mul_add, Int.mul_comm b q]; omega⟩
  · rw [Int.ediv_eq_zero_of_lt (by omega) (by omega), if_neg]
    · omega
    · intro hd
      have h2 : b ∣ r + 1 := by
        have := Int.dvd_sub hd (Int.dvd_mul_left q b)
        rw [show r + 1 + q * b - q * b = r + 1 by omega] at this
        exact this
      have := Int.le_of_dvd (by omega) h2
      omega
/-- at most one of a period -/
theorem one_hit {b a u : Int} (hb : 0 < b) : ∀ n : Nat, (n : Int) ≤ b / gcdI b a → sumTo (fun i => if b ∣ a * i + u then 1 else 0) n ≤ if gcdI b a ∣ u then 1 else 0 := by
  have none_before : ∀ n : Nat, (∀ i, i < n → ¬ b ∣ a * ((i : Nat) : Int) + u) → sumTo (fun i => if b ∣ a * i + u then 1 else 0) n = 0 := fun n h => by
    rw [sumTo_congr (g := fun _ => 0) fun i hi => if_neg (h i hi), sumTo_const, Int.mul_zero]
  intro n
  induction n with
  | zero => intro _; show (0 : Int) ≤ _; split <;> omega
  | succ n ih =>
    intro hn
    rw [sumTo_succ]
    by_cases h : b ∣ a * (n : Int) + u
    · rw [if_pos h, none_before n fun i hi hd => ?_]
      · rw [if_pos]
        · omega
        · have h1 : gcdI b a ∣ a * n + u := Int.dvd_trans (gcdI_dvd_left b a) h
          have h2 : gcdI b a ∣ a * n := Int.dvd_trans (gcdI_dvd_right b a) (Int.dvd_mul_right a n)
          have := Int.dvd_sub h1 h2
          rw [show a * (n : Int) + u - a * n = u by omega] at this
          exact this
      · have := same_res hb hi hd h
        omega
    · rw [if_neg h]
      have := ih (by omega)
      omega
/-- how the sum of floors of a period grows with the shift -/
theorem flS_period {b a : Int} (hb : 0 < b) (t : Int) : ∀ k : Nat, flS (b / gcdI b a).toNat b a (t + k) - flS (b / gcdI b a).toNat b a t = (t + k) / gcdI b a - t / gcdI b a := by
  have hd := gcdI_pos a hb
  have hp : 0 ≤ b / gcdI b a := Int.ediv_nonneg (by omega) (by omega)
  have hpn : (((b / gcdI b a).toNat : Nat) : Int) = b / gcdI b a := Int.toNat_of_nonneg hp
  generalize hP : (b / gcdI b a).toNat = p at *
  -- what the floors by the divisor are ahead
  let G : Int → Int := fun t => t / gcdI b a - flS p b a t
  have up1 : ∀ t, G t ≤ G (t + 1) := by
    intro t
    show t / gcdI b a - flS p b a t ≤ (t + 1) / gcdI b a - flS p b a (t + 1)
    have h1 : flS p b a (t + 1) - flS p b a t = sumTo (fun i => if b ∣ a * i + (t + 1) then 1 else 0) p := by
      unfold flS
      rw [← sumTo_sub]
      refine sumTo_congr fun i _ => ?_
      have := step_floor (x := a * (i : Int) + t) hb
      rw [show a * (i : Int) + (t + 1) = a * i + t + 1 by omega]
      exact this
    have h2 := one_hit (a := a) (u := t + 1) hb p (by omega)
    have h3 := step_floor (x := t) hd
    omega
  have upk : ∀ (k : Nat) t, G t ≤ G (t + k) := by
    intro k
    induction k with
    | zero => intro t; rw [show t + ((0 : Nat) : Int) = t by omega]; exact Int.le_refl _
    | succ k ih =>
      intro t
      have := ih t
      have := up1 (t + k)
      rw [show t + ((k + 1 : Nat) : Int) = t + k + 1 by omega]
      omega
  have round : ∀ t, G (t + b) = G t := by
    intro t
    show (t + b) / gcdI b a - flS p b a (t + b) = t / gcdI b a - flS p b a t
    have h1 : flS p b a (t + b) = flS p b a t + p := by
      unfold flS
      rw [sumTo_congr (g := fun i => (a * i + t) / b + 1) fun i _ => ?_, sumTo_add, sumTo_const, Int.mul_one]
      rw [show a * (i : Int) + (t + b) = a * i + t + 1 * b by omega, Int.add_mul_ediv_right _ _ (by omega)]
    have h2 : (t + b) / gcdI b a = t / gcdI b a + b / gcdI b a := Int.add_ediv_of_dvd_right (gcdI_dvd_left b a)
    omega
  have rounds : ∀ (k : Nat) t, G (t + k * b) = G t := by
    intro k
    induction k with
    | zero => intro t; simp
    | succ k ih =>
      intro t
      rw [show t + ((k + 1 : Nat) : Int) * b = t + k * b + b by rw [Int.natCast_add, Int.add_mul]; omega, round, ih]
  intro k
  -- t + k lies between t and t + k * b
  have h1 := upk k t
  have h2 : G (t + k) ≤ G (t + k * b) := by
    have hkb : (k : Int) ≤ k * b := by
      have := Int.mul_le_mul_of_nonneg_left (show 1 ≤ b by omega) (Int.natCast_nonneg k)
      omega
    obtain ⟨m, hm⟩ : ∃ m : Nat, (k : Int) * b = k + m := ⟨((k : Int) * b - k).toNat, by omega⟩
    rw [hm, ← Int.add_assoc]
    exact upk m (t + k)
  rw [rounds] at h2
  have h3 : G (t + k) = G t := by omega
  have h4 : (t + k) / gcdI b a - flS p b a (t + k) = t / gcdI b a - flS p b a t := h3
  omega

/-- how many residues of a period are great -/
def eachP (b a c l : Int) : Int := b / gcdI b a - max 0 (-(-(l - c % gcdI b a) / gcdI b a))
def gRes (b a c : Int) : Int := b - gcdI b a + c % gcdI b a
theorem gOnes_period {b a c l : Int} (hb : 0 < b) (hl : l ≤ gRes b a c) : gOnes (b / gcdI b a).toNat b a c l = eachP b a c l := by
  have hd := gcdI_pos a hb
  have r0 := Int.emod_nonneg c (show gcdI b a ≠ 0 by omega)
  have r1 := Int.emod_lt_of_pos c hd
  have hdb := gcdI_dvd_left b a
  have hp : 0 ≤ b / gcdI b a := Int.ediv_nonneg (by omega) (by omega)
  unfold eachP gRes at *
  by_cases h0 : l ≤ 0
  · rw [gOnes_low hb h0, Int.toNat_of_nonneg hp]
    have : 0 ≤ -(l - c % gcdI b a) / gcdI b a := Int.ediv_nonneg (by omega) (by omega)
    omega
  · have h1 : l < b := by omega
    rw [gOnes_fl (by omega) h1]
    obtain ⟨k, hk⟩ : ∃ k : Nat, b - l = k := ⟨(b - l).toNat, by omega⟩
    have := flS_period (a := a) hb c k
    rw [show c + b - l = c + k by omega, this, ← hk]
    have e := Int.mul_ediv_add_emod c (gcdI b a)
    have eb : b = b / gcdI b a * gcdI b a := (Int.ediv_mul_cancel hdb).symm
    have e2 : (c + (b - l)) / gcdI b a = -(l - c % gcdI b a) / gcdI b a + (c / gcdI b a + b / gcdI b a) := by
      rw [← Int.add_mul_ediv_right _ _ (show gcdI b a ≠ 0 by omega)]
      congr 1
      rw [Int.add_mul, Int.mul_comm (c / gcdI b a)]
      omega
    rw [e2]
    have : -(l - c % gcdI b a) / gcdI b a ≤ 0 := by
      have h : -(l - c % gcdI b a) < 1 * gcdI b a := by omega
      have := Int.ediv_lt_of_lt_mul hd h
      omega
    omega
theorem eachP_pos {b a c l : Int} (hb : 0 < b) (hl : l ≤ gRes b a c) : 0 < eachP b a c l := by
  have hd := gcdI_pos a hb
  have hdb := gcdI_dvd_left b a
  have r0 := Int.emod_nonneg c (show gcdI b a ≠ 0 by omega)
  have eb : b = b / gcdI b a * gcdI b a := (Int.ediv_mul_cancel hdb).symm
  have hp1 : 1 ≤ b / gcdI b a := by
    have := gcdI_le (b := a) hb
    exact (Int.le_ediv_iff_mul_le hd).mpr (by omega)
  unfold eachP gRes at *
  have : -(b / gcdI b a - 1) ≤ -(l - c % gcdI b a) / gcdI b a := by
    refine (Int.le_ediv_iff_mul_le hd).mpr ?_
    rw [Int.neg_mul, Int.sub_mul]
    omega
  omega
theorem gOnes_none {b a c l : Int} (hb : 0 < b) (hl : gRes b a c < l) : gOnes (b / gcdI b a).toNat b a c l = 0 := by
  have hd := gcdI_pos a hb
  have r0 := Int.emod_nonneg c (show gcdI b a ≠ 0 by omega)
  have r1 := Int.emod_lt_of_pos c hd
  have hdb := gcdI_dvd_left b a
  have hdle := gcdI_le (b := a) hb
  unfold gRes at hl
  by_cases h1 : b ≤ l
  · exact gOnes_high hb h1 ..
  · rw [gOnes_fl (by omega) (by omega)]
    obtain ⟨k, hk⟩ : ∃ k : Nat, b - l = k := ⟨(b - l).toNat, by omega⟩
    have := flS_period (a := a) hb c k
    rw [show c + b - l = c + k by omega, this, ← hk]
    have e := Int.mul_ediv_add_emod c (gcdI b a)
    have e2 : c + (b - l) = (c % gcdI b a + (b - l)) + c / gcdI b a * gcdI b a := by
      rw [Int.mul_comm (c / gcdI b a)]; omega
    rw [e2, Int.add_mul_ediv_right _ _ (by omega), Int.ediv_eq_zero_of_lt (by omega) (by omega)]
    omega
/-- residues come again -/
theorem res_again {b a c : Int} (hb : 0 < b) (i : Int) : (a * (b / gcdI b a + i) + c) % b = (a * i + c) % b := by
  have hd := gcdI_pos a hb
  obtain ⟨k, hk⟩ := gcdI_dvd_right b a
  have hdb := Int.ediv_mul_cancel (gcdI_dvd_left b a)
  have e : a * (b / gcdI b a) = b * k := by
    generalize gcdI b a = d at hk hdb ⊢
    subst hk
    rw [Int.mul_comm d k, Int.mul_assoc, Int.mul_comm d, hdb, Int.mul_comm]
  rw [Int.mul_add, e, show b * k + a * i + c = a * i + c + b * k by omega, Int.add_mul_emod_self_left]
theorem gOnes_add {b a c l : Int} (hb : 0 < b) (m : Nat) : gOnes ((b / gcdI b a).toNat + m) b a c l = gOnes (b / gcdI b a).toNat b a c l + gOnes m b a c l := by
  have hd := gcdI_pos a hb
  have hp : 0 ≤ b / gcdI b a := Int.ediv_nonneg (by omega) (by omega)
  unfold gOnes
  rw [sumTo_split]
  congr 1
  refine sumTo_congr fun i _ => ?_
  rw [Int.natCast_add, Int.toNat_of_nonneg hp, res_again hb]
theorem gOnes_many {b a c l : Int} (hb : 0 < b) (m : Nat) : ∀ t : Nat, gOnes ((b / gcdI b a).toNat * t + m) b a c l = t * gOnes (b / gcdI b a).toNat b a c l + gOnes m b a c l
  | 0 => by simp
  | t + 1 => by
    rw [show (b / gcdI b a).toNat * (t + 1) + m = (b / gcdI b a).toNat + ((b / gcdI b a).toNat * t + m) by rw [Nat.mul_add]; omega, gOnes_add hb, gOnes_many hb m t, Int.natCast_add, Int.add_mul]
    omega

/-- the index of the at-th great residue -/
def IdxOk (b a c l at' i : Int) : Prop := 0 ≤ i ∧ gOnes i.toNat b a c l = at' ∧ l ≤ (a * i + c) % b
theorem idx_one {b a c l t i j : Int} (h : IdxOk b a c l t i) (k : IdxOk b a c l t j) : i = j := by
  have key : ∀ {i j : Int}, IdxOk b a c l t i → IdxOk b a c l t j → ¬ i < j := fun {i j} ⟨h0, h1, h2⟩ ⟨k0, k1, k2⟩ hij => by
    have := gOnes_mono (show i.toNat + 1 ≤ j.toNat by omega) b a c l
    rw [gOnes_succ, Int.toNat_of_nonneg h0, if_pos h2] at this
    omega
  have := key h k
  have := key k h
  omega
noncomputable def gIdx (b a c l t : Int) : Option Int := if gRes b a c < l then none else some (Classical.epsilon (IdxOk b a c l t))
theorem gIdx_some {b a c l t i : Int} (h : ¬ gRes b a c < l) (hi : IdxOk b a c l t i) : gIdx b a c l t = some i := by
  unfold gIdx
  rw [if_neg h]
  exact congrArg some (idx_one (Classical.epsilon_spec ⟨i, hi⟩) hi)
theorem gIdx_none {b a c l t : Int} (h : gRes b a c < l) : gIdx b a c l t = none := if_pos h
/-- there is one, by halving -/
theorem idx_ex {b a c l t : Int} (hb : 0 < b) (hl : ¬ gRes b a c < l) (ht : 0 ≤ t) : ∃ i, IdxOk b a c l t i := by
  have he := gOnes_period hb (show l ≤ gRes b a c by omega)
  have hp := eachP_pos hb (show l ≤ gRes b a c by omega)
  have big := gOnes_many (a := a) (c := c) (l := l) hb 0 (t.toNat + 1)
  have z : gOnes 0 b a c l = 0 := rfl
  rw [z, he] at big
  have h1 : t < ((t.toNat + 1 : Nat) : Int) * eachP b a c l := by
    have := Int.mul_le_mul_of_nonneg_left (show 1 ≤ eachP b a c l by omega) (Int.natCast_nonneg (t.toNat + 1))
    omega
  -- the first number of terms with more than t
  have walk : ∀ n : Nat, t < gOnes n b a c l → ∃ i, IdxOk b a c l t i := by
    intro n
    induction n with
    | zero => intro h; rw [z] at h; omega
    | succ n ih =>
      intro h
      by_cases h2 : t < gOnes n b a c l
      · exact ih h2
      · rw [gOnes_succ] at h
        by_cases h3 : l ≤ (a * (n : Int) + c) % b
        · rw [if_pos h3] at h
          exact ⟨n, Int.natCast_nonneg n, by rw [Int.toNat_natCast]; omega, h3⟩
        · rw [if_neg h3] at h
          omega
  exact walk _ (by rw [big]; omega)
theorem gIdx_spec {b a c l t i : Int} (hb : 0 < b) (ht : 0 ≤ t) (h : gIdx b a c l t = some i) : IdxOk b a c l t i := by
  unfold gIdx at h
  split at h
  · cases h
  · rename_i hl
    cases h
    exact Classical.epsilon_spec (idx_ex hb hl ht)
end Fw

namespace Fw
/-! the great ones in a row -/
def grOnes (b a c l : Int) (n : Nat) : List Int := ((List.range n).map fun (k : Nat) => (0 : Int) + (k : Int)).filter fun i => decide (l ≤ (a * i + c) % b)
theorem grOnes_succ (b a c l : Int) (n : Nat) : grOnes b a c l (n + 1) = grOnes b a c l n ++ (if l ≤ (a * n + c) % b then [(n : Int)] else []) := by
  unfold grOnes
  rw [List.range_succ, List.map_append, List.filter_append]
  congr 1
  by_cases h : l ≤ (a * (n : Int) + c) % b
  · rw [if_pos h]
    simp [h]
  · rw [if_neg h]
    simp [h]
theorem grOnes_len (b a c l : Int) : ∀ n : Nat, ((grOnes b a c l n).length : Int) = gOnes n b a c l
  | 0 => rfl
  | n + 1 => by
    rw [grOnes_succ, List.length_append, Int.natCast_add, grOnes_len b a c l n, gOnes_succ]
    by_cases h : l ≤ (a * (n : Int) + c) % b
    · rw [if_pos h, if_pos h]; rfl
    · rw [if_neg h, if_neg h]; rfl
/-- the j-th of them is the one with so many ahead -/
theorem grOnes_at {b a c l : Int} : ∀ {n i : Nat}, i < n → l ≤ (a * i + c) % b → (grOnes b a c l n)[(gOnes i b a c l).toNat]? = some (i : Int)
  | 0, i, h, _ => by omega
  | n + 1, i, h, hl => by
    rw [grOnes_succ]
    by_cases e : i = n
    · subst e
      have h1 := grOnes_len b a c l i
      rw [if_pos hl, ← h1, Int.toNat_natCast, List.getElem?_append_right (Nat.le_refl _), Nat.sub_self]
      rfl
    · have ih := grOnes_at (show i < n by omega) hl
      rw [List.getElem?_append_left]
      · exact ih
      · exact (List.getElem?_eq_some_iff.mp ih).1
theorem grOnes_idx {b a c l t i : Int} {n : Nat} (h : IdxOk b a c l t i) (hn : i < n) : (grOnes b a c l n)[t.toNat]? = some i := by
  obtain ⟨h0, h1, h2⟩ := h
  obtain ⟨k, rfl⟩ := Int.eq_ofNat_of_zero_le h0
  rw [← h1, Int.toNat_natCast]
  exact grOnes_at (by omega) h2
/-- none is greater than the greatest one -/
theorem res_le {b a c : Int} (hb : 0 < b) (i : Nat) : (a * i + c) % b ≤ gRes b a c := by
  by_cases h : (a * (i : Int) + c) % b ≤ gRes b a c
  · exact h
  · -- then some index has it, and a period too
    have hl : gRes b a c < (a * (i : Int) + c) % b := by omega
    have hd := gcdI_pos a hb
    have hp : 0 < b / gcdI b a := by
      have := gcdI_le (b := a) hb
      have h1 : 1 * gcdI b a ≤ b := by omega
      have := (Int.le_ediv_iff_mul_le hd).mpr h1
      omega
    have z := gOnes_none hb hl
    have big := gOnes_many (a := a) (c := c) (l := (a * (i : Int) + c) % b) hb 0 (i + 1)
    rw [z, Int.mul_zero] at big
    have z0 : gOnes 0 b a c ((a * (i : Int) + c) % b) = 0 := rfl
    rw [z0] at big
    have h1 : i + 1 ≤ (b / gcdI b a).toNat * (i + 1) + 0 := by
      have : 1 * (i + 1) ≤ (b / gcdI b a).toNat * (i + 1) := Nat.mul_le_mul_right _ (by omega)
      omega
    have h2 := gOnes_mono h1 b a c ((a * (i : Int) + c) % b)
    rw [big, gOnes_succ, if_pos (Int.le_refl _)] at h2
    have := gOnes_nonneg i b a c ((a * (i : Int) + c) % b)
    omega
/-- the greatest one is met within b terms -/
theorem res_met {b a c : Int} (hb : 0 < b) : ∃ i : Nat, (i : Int) < b ∧ (a * i + c) % b = gRes b a c := by
  obtain ⟨i, h0, h1, h2⟩ := idx_ex (a := a) (c := c) (l := gRes b a c) (t := 0) hb (by omega) (Int.le_refl 0)
  obtain ⟨k, rfl⟩ := Int.eq_ofNat_of_zero_le h0
  have h3 := res_le (a := a) (c := c) hb k
  refine ⟨k, ?_, by omega⟩
  -- the first one lies in the first period
  have hp := gOnes_period (a := a) (c := c) hb (Int.le_refl (gRes b a c))
  have he := eachP_pos (a := a) (c := c) hb (Int.le_refl (gRes b a c))
  have hd := gcdI_pos a hb
  have hq0 : 0 ≤ b / gcdI b a := Int.ediv_nonneg (by omega) (by omega)
  have hq : b / gcdI b a ≤ b := Int.ediv_le_self _ (by omega)
  by_cases hk : (k : Int) < b
  · exact hk
  · have := gOnes_mono (show (b / gcdI b a).toNat ≤ k by omega) b a c (gRes b a c)
    rw [Int.toNat_natCast] at h1
    omega
/-- four periods have four great ones, if there is one -/
theorem four_ones {b a c l : Int} (hb : 0 < b) (hl : l ≤ gRes b a c) : 4 ≤ gOnes (4 * b).toNat b a c l := by
  have hp := gOnes_period (a := a) (c := c) hb hl
  have he := eachP_pos (a := a) (c := c) hb hl
  have hd := gcdI_pos a hb
  have hq0 : 0 ≤ b / gcdI b a := Int.ediv_nonneg (by omega) (by omega)
  have hq : b / gcdI b a ≤ b := Int.ediv_le_self _ (by omega)
  have h1 := gOnes_many (a := a) (c := c) (l := l) hb 0 4
  have z : gOnes 0 b a c l = 0 := rfl
  rw [hp, z] at h1
  have h2 := gOnes_mono (show (b / gcdI b a).toNat * 4 + 0 ≤ (4 * b).toNat by omega) b a c l
  rw [h1] at h2
  have : ((4 : Nat) : Int) * eachP b a c l = 4 * eachP b a c l := rfl
  omega
end Fw

namespace Fw
open PySem PySem.Spec PyProof.Rows L2
def topS (i : Nat) : Stmt := PySem.Challenge.pw_fewlines_k36_sums_of_floors.main.body.getD i (.Pass ⟨0, 0, 0, 0⟩)
abbrev s_common : Stmt := topS 1
abbrev n_common : List Str := ["one", "other"]
theorem sc_common : FnScope ["one", "other"] ["one", "other"] (defScope s_common) := ⟨rfl, rfl, rfl, by decide +kernel, rfl, by decide +kernel, by decide +kernel⟩
abbrev s_up : Stmt := topS 2
abbrev n_up : List Str := ["top", "bottom"]
theorem sc_up : FnScope ["top", "bottom"] ["top", "bottom"] (defScope s_up) := ⟨rfl, rfl, rfl, by decide +kernel, rfl, by decide +kernel, by decide +kernel⟩
abbrev s_floor_sum : Stmt := topS 4
abbrev n_floor_sum : List Str := ["many", "bottom", "slope", "shift", "found", "top"]
theorem sc_floor_sum : FnScope ["many", "bottom", "slope", "shift", "found", "top"] ["many", "bottom", "slope", "shift"] (defScope s_floor_sum) := ⟨rfl, rfl, rfl, by decide +kernel, rfl, by decide +kernel, by decide +kernel⟩
abbrev s_great_ones : Stmt := topS 5
abbrev n_great_ones : List Str := ["many", "bottom", "slope", "shift", "least"]
theorem sc_great_ones : FnScope ["many", "bottom", "slope", "shift", "least"] ["many", "bottom", "slope", "shift", "least"] (defScope s_great_ones) := ⟨rfl, rfl, rfl, by decide +kernel, rfl, by decide +kernel, by decide +kernel⟩
abbrev s_greatest_residue : Stmt := topS 6
abbrev n_greatest_residue : List Str := ["bottom", "slope", "shift", "divisor"]
theorem sc_greatest_residue : FnScope ["bottom", "slope", "shift", "divisor"] ["bottom", "slope", "shift"] (defScope s_greatest_residue) := ⟨rfl, rfl, rfl, by decide +kernel, rfl, by decide +kernel, by decide +kernel⟩
abbrev s_great_index : Stmt := topS 7
abbrev n_great_index : List Str := ["bottom", "slope", "shift", "least", "at", "divisor", "period", "residue", "each", "low", "high", "middle"]
theorem sc_great_index : FnScope ["bottom", "slope", "shift", "least", "at", "divisor", "period", "residue", "each", "low", "high", "middle"] ["bottom", "slope", "shift", "least", "at"] (defScope s_great_index) := ⟨rfl, rfl, rfl, by decide +kernel, rfl, by decide +kernel, by decide +kernel⟩
abbrev s_law_pen : Stmt := topS 9
abbrev n_law_pen : List Str := ["script", "cell"]
theorem sc_law_pen : FnScope ["script", "cell"] ["script"] (defScope s_law_pen) := ⟨rfl, rfl, rfl, by decide +kernel, rfl, by decide +kernel, by decide +kernel⟩
abbrev s_law_draw : Stmt := topS 10
abbrev n_law_draw : List Str := ["pen", "many", "left", "turn", "cell", "mixed"]
theorem sc_law_draw : FnScope ["pen", "many", "left", "turn", "cell", "mixed"] ["pen", "many"] (defScope s_law_draw) := ⟨rfl, rfl, rfl, by decide +kernel, rfl, by decide +kernel, by decide +kernel⟩
abbrev s_law_pick : Stmt := topS 11
abbrev n_law_pick : List Str := ["pen", "some"]
theorem sc_law_pick : FnScope ["pen", "some"] ["pen", "some"] (defScope s_law_pick) := ⟨rfl, rfl, rfl, by decide +kernel, rfl, by decide +kernel, by decide +kernel⟩
abbrev s_law_right : Stmt := topS 12
abbrev n_law_right : List Str := ["pen", "many", "bottom", "slope", "shift", "rows", "least", "every", "found", "at", "row"]
theorem sc_law_right : FnScope ["pen", "many", "bottom", "slope", "shift", "rows", "least", "every", "found", "at", "row"] ["pen"] (defScope s_law_right) := ⟨rfl, rfl, rfl, by decide +kernel, rfl, by decide +kernel, by decide +kernel⟩
abbrev s_law : Stmt := topS 13
abbrev n_law : List Str := ["script", "pen", "turn"]
theorem sc_law : FnScope ["script", "pen", "turn"] ["script"] (defScope s_law) := ⟨rfl, rfl, rfl, by decide +kernel, rfl, by decide +kernel, by decide +kernel⟩
structure Txt (K : PySem.W.Frag) (mg : Str → Option Value) : Prop where
  common : Def K mg "common" s_common ["one", "other"]
  up : Def K mg "up" s_up ["top", "bottom"]
  floor_sum : Def K mg "floor_sum" s_floor_sum ["many", "bottom", "slope", "shift"]
  great_ones : Def K mg "great_ones" s_great_ones ["many", "bottom", "slope", "shift", "least"]
  greatest_residue : Def K mg "greatest_residue" s_greatest_residue ["bottom", "slope", "shift"]
  great_index : Def K mg "great_index" s_great_index ["bottom", "slope", "shift", "least", "at"]
  law_pen : Def K mg "_law_pen" s_law_pen ["script"]
  law_draw : Def K mg "_law_draw" s_law_draw ["pen", "many"]
  law_pick : Def K mg "_law_pick" s_law_pick ["pen", "some"]
  law_right : Def K mg "_law_right" s_law_right ["pen"]
  abs : mg "abs" = none
  int : mg "int" = none
  len : mg "len" = none
  max : mg "max" = none
  range : mg "range" = none
  repr : mg "repr" = none
  sum : mg "sum" = none
end Fw

namespace Fw
open PySem PySem.Spec PyProof.Rows L2
section
variable {P : Program} {w : World} {K : PySem.W.Frag} {mg : Str → Option Value} {base : Heap}
local macro_rules | `(tactic| walk_at "side") => `(tactic| first | assumption | omega | exact lim_of (by omega) (by omega) | decide)

/-! up -/
def m_up (t b : Int) : Int := -((-t) / b)
abbrev sp_up : Sp := spF2 rInt rInt rInt (fun _ b => 0 < b ∧ Lim b) m_up
theorem c_up (T : Txt K mg) : Cal P w K mg base 1 "up" ["top", "bottom"] sp_up := by
  refine T.up.cal 0 sc_up (fun vs H Q E h => spF2_len h) (fun f cdv A outer s H vs Q E hr h => ?_)
  obtain ⟨F, sF, top, bottom, v1, v2, rfl, rfl, rfl, ⟨hp1, hp2⟩, k⟩ := spF2_open h
  refine s_ret (e_neg (e_fdiv (e_neg (e_vi 0)) (e_vi 1) ?_ ?_)) sF (fun v F2 H2 g r => k v F2 H2 g r)
  · exact hp1
  · exact hp2

/-! common -/
abbrev sp_common : Sp := spF2 rInt rInt rInt (fun a b => 0 ≤ a ∧ 0 ≤ b) gcdI
theorem c_common (T : Txt K mg) : Cal P w K mg base 1 "common" ["one", "other"] sp_common := by
  refine T.common.cal 0 sc_common (fun vs H Q E h => spF2_len h) (fun f cdv A outer s H vs Q E hr h => ?_)
  obtain ⟨F, sF, one, other, v1, v2, rfl, rfl, rfl, ⟨hp1, hp2⟩, k⟩ := spF2_open h
  refine s_while (fun m σ H' => ∃ F' a b, Grow F H F' H' ∧ σ = [some (.int a), some (.int b)] ∧ 0 ≤ a ∧ 0 ≤ b ∧ m = b.toNat ∧ gcdI a b = gcdI one other) other.toNat ?_ PassesOwn.never ?_
  · exact ⟨F, one, other, Grow.refl sF, rfl, hp1, hp2, rfl, rfl⟩
  · rintro m σ H' ⟨F', a, b, g, rfl, ha, hb, rfl, e⟩
    refine ⟨_, F', g.s, t_ne (e_vi 1) e_int, fun ht F2 H2 g2 => ?_, fun ht F2 H2 g2 => ?_⟩
    · have hb0 : b ≠ 0 := by simpa using ht
      refine s_par2 0 1 sc_common.nd (ea_cons (e_vi 1) (ea_cons (e_mod (e_vi 0) (e_vi 1) ?_) ea_nil)) g2.s (fun v u F3 H3 g3 r1 r2 => ?_)
      · omega
      · cases r1; cases r2
        refine s_nil ⟨(a % b).toNat, ?_, F3, b, a % b, (g.trans g2).trans g3, rfl, hb, Int.emod_nonneg _ hb0, rfl, ?_⟩
        · have := Int.emod_lt_of_pos a (show 0 < b by omega)
          have := Int.emod_nonneg a hb0
          omega
        · rw [← e]
          exact gcdI_step ha (by omega)
    · have hb0 : b = 0 := by simpa using ht
      subst hb0
      refine s_ret (e_vi 0) g2.s (fun v F3 H3 g3 r => ?_)
      refine k v F3 H3 ((g.trans g2).trans g3) ?_
      cases r
      show V.int a = V.int _
      rw [← e, gcdI_zero ha]

/-! floor_sum -/
theorem bd450 {n a c b : Int} (hn0 : 0 ≤ n) (ha0 : 0 ≤ a) (hc0 : 0 ≤ c) (hn : Bd 450 n) (ha : Bd 450 a) (hc : Bd 450 c) : Bd 901 (a * n + c) := (ha.mul hn).add (hc.mono (by decide))
abbrev sp_floor_sum : Sp := spF4 rInt rInt rInt rInt rInt (fun n b a c => 0 ≤ n ∧ 0 < b ∧ 0 ≤ a ∧ 0 ≤ c ∧ Bd 450 n ∧ Bd 450 b ∧ Bd 450 a ∧ Bd 450 c) (fun n b a c => flS n.toNat b a c)
theorem c_floor_sum (T : Txt K mg) : Cal P w K mg base 1 "floor_sum" ["many", "bottom", "slope", "shift"] sp_floor_sum := by
  refine T.floor_sum.cal 0 sc_floor_sum (fun vs H Q E h => spF4_len h) (fun f cdv A outer s H vs Q E hr h => ?_)
  obtain ⟨F, sF, many, bottom, slope, shift, v_many, v_bottom, v_slope, v_shift, rfl, rfl, rfl, rfl, rfl, hp, k⟩ := spF4_open h
  obtain ⟨p1, p2, p3, p4, p5, p6, p7, p8⟩ := hp
  -- found = 0
  refine s_setI 4 sc_floor_sum.nd e_int sF (fun F1 H1 g1 => ?_)
  -- while many > 0:
  refine s_while (fun m σ H' => ∃ F' n b a c found t, Grow F H F' H' ∧ σ = [some (.int n), some (.int b), some (.int a), some (.int c), some (.int found), t] ∧
    0 ≤ n ∧ 0 ≤ b ∧ (0 < n → 0 < b) ∧ 0 ≤ a ∧ 0 ≤ c ∧ Bd 450 n ∧ Bd 450 b ∧ Bd 450 a ∧ Bd 450 c ∧ m = b.toNat ∧ found + flS n.toNat b a c = flS many.toNat bottom slope shift) bottom.toNat ?_ PassesOwn.never ?_
  · exact ⟨F1, many, bottom, slope, shift, 0, none, g1, rfl, p1, by omega, fun _ => p2, p3, p4, p5, p6, p7, p8, rfl, by omega⟩
  · rintro m σ H' ⟨F', n, b, a, c, found, t, g, rfl, hn0, hb0, hb, ha0, hc0, bn, bb, ba, bc, rfl, e⟩
    refine ⟨_, F', g.s, t_gt (e_vi 0) e_int, fun ht F2 H2 g2 => ?_, fun ht F2 H2 g2 => ?_⟩
    · have hn : 0 < n := by simpa using ht
      have hb1 := hb hn
      have qa0 : 0 ≤ a / b := Int.ediv_nonneg ha0 hb0
      have qa1 : a / b ≤ a := Int.ediv_le_self b ha0
      have qc0 : 0 ≤ c / b := Int.ediv_nonneg hc0 hb0
      have qc1 : c / b ≤ c := Int.ediv_le_self b hc0
      have bnn : Bd 900 (n * (n - 1)) := Bd.mul (n := 450) (m := 450) bn (bn.le (by omega) (by omega))
      have nn0 : 0 ≤ n * (n - 1) := Int.mul_nonneg hn0 (by omega)
      -- found = found + ..
      refine s_setI 4 sc_floor_sum.nd (e_add (e_add (e_vi 4) (e_mul (e_fdiv (e_mul (e_vi 0) (e_sub (e_vi 0) e_int) ?_ ?_) e_int ?_ ?_) (e_fdiv (e_vi 2) (e_vi 1) ?_ ?_) ?_ ?_)) (e_mul (e_vi 0) (e_fdiv (e_vi 3) (e_vi 1) ?_ ?_) ?_ ?_)) g2.s (fun F3 H3 g3 => ?_)
      · exact bn.lim
      · exact Bd.lim (bn.le (show 0 ≤ n - 1 by omega) (by omega))
      · decide
      · exact lim_of (by decide) (by decide)
      · exact hb1
      · exact bb.lim
      · exact Bd.lim (n := 900) (bnn.le (Int.ediv_nonneg nn0 (by decide)) (Int.ediv_le_self 2 nn0))
      · exact (ba.le qa0 qa1).lim
      · exact hb1
      · exact bb.lim
      · exact bn.lim
      · exact (bc.le qc0 qc1).lim
      have ra0 := Int.emod_nonneg a (show b ≠ 0 by omega)
      have ra1 := Int.emod_lt_of_pos a hb1
      have rc0 := Int.emod_nonneg c (show b ≠ 0 by omega)
      have rc1 := Int.emod_lt_of_pos c hb1
      -- slope, shift = slope % bottom, shift % bottom
      refine s_par2 2 3 sc_floor_sum.nd (ea_cons (e_mod (e_vi 2) (e_vi 1) hb1) (ea_cons (e_mod (e_vi 3) (e_vi 1) hb1) ea_nil)) g3.s (fun v u F4 H4 g4 r1 r2 => ?_)
      cases r1; cases r2
      have ba' : Bd 450 (a % b) := bb.le ra0 (by omega)
      have bc' : Bd 450 (c % b) := bb.le rc0 (by omega)
      have top0 : 0 ≤ a % b * n + c % b := by have := Int.mul_nonneg ra0 hn0; omega
      -- top = slope * many + shift
      refine s_setI 5 sc_floor_sum.nd (e_add (e_mul (e_vi 2) (e_vi 0) ba'.lim bn.lim) (e_vi 3)) g4.s (fun F5 H5 g5 => ?_)
      -- many, bottom, slope, shift = top // bottom, slope, bottom, top % bottom
      refine s_parT4 0 1 2 3 sc_floor_sum.nd (ea_cons (e_fdiv (e_vi 5) (e_vi 1) hb1 bb.lim) (ea_cons (e_vi 2) (ea_cons (e_vi 1) (ea_cons (e_mod (e_vi 5) (e_vi 1) hb1) ea_nil)))) g5.s (fun v1 v2 v3 v4 F6 H6 g6 r1 r2 r3 r4 => ?_)
      cases r1; cases r2; cases r3; cases r4
      have hm0 : 0 ≤ (a % b * n + c % b) / b := Int.ediv_nonneg top0 hb0
      have hmn : (a % b * n + c % b) / b ≤ n := by
        have h1 : a % b * n ≤ (b - 1) * n := Int.mul_le_mul_of_nonneg_right (by omega) hn0
        rw [Int.sub_mul, Int.one_mul] at h1
        have h2 : a % b * n + c % b < (n + 1) * b := by
          rw [Int.add_mul, Int.one_mul, Int.mul_comm n b]
          omega
        have := Int.ediv_lt_of_lt_mul hb1 h2
        omega
      have cut := flS_cut hb1 n.toNat a c
      rw [Int.toNat_of_nonneg hn0] at cut
      refine s_nil ⟨(a % b).toNat, by omega, F6, (a % b * n + c % b) / b, a % b, b, (a % b * n + c % b) % b, _, _, ((((g.trans g2).trans g3).trans g4).trans g5).trans g6, rfl, hm0, ra0, fun h => ?_, hb0, Int.emod_nonneg _ (by omega), bn.le hm0 hmn, ba', bb, bb.le (Int.emod_nonneg _ (by omega)) (Int.le_of_lt (Int.emod_lt_of_pos _ hb1)), rfl, ?_⟩
      · -- no slope, no columns
        by_cases z : a % b = 0
        · rw [z, Int.zero_mul, Int.zero_add, Int.ediv_eq_zero_of_lt rc0 rc1] at h
          omega
        · omega
      · rw [← e, cut]
        have key : flS n.toNat b (a % b) (c % b) = flS ((a % b * n + c % b) / b).toNat (a % b) b ((a % b * n + c % b) % b) := by
          by_cases z : a % b = 0
          · rw [z, Int.zero_mul, Int.zero_add, Int.ediv_eq_zero_of_lt rc0 rc1, flS_zero_slope rc0 rc1]
            rfl
          · have := flS_turn (show 0 < a % b by omega) hb1 rc0 rc1 n.toNat
            rw [Int.toNat_of_nonneg hn0] at this
            exact this
        rw [key]
        omega
    · have hn : n = 0 := by
        have : ¬ 0 < n := by simpa using ht
        omega
      subst hn
      refine s_ret (e_vi 4) g2.s (fun v F3 H3 g3 r => k v F3 H3 ((g.trans g2).trans g3) ?_)
      cases r
      show V.int found = V.int _
      rw [← e]
      show V.int found = V.int (found + 0)
      rw [Int.add_zero]

/-! great_ones -/
abbrev sp_great_ones : Sp := spF5 rInt rInt rInt rInt rInt rInt (fun n b a c _ => 0 ≤ n ∧ 0 < b ∧ 0 ≤ a ∧ 0 ≤ c ∧ Bd 440 n ∧ Bd 440 b ∧ Bd 440 a ∧ Bd 440 c) (fun n b a c l => gOnes n.toNat b a c l)
theorem c_great_ones (T : Txt K mg) : Cal P w K mg base 2 "great_ones" ["many", "bottom", "slope", "shift", "least"] sp_great_ones := by
  refine T.great_ones.cal 1 sc_great_ones (fun vs H Q E h => spF5_len h) (fun f cdv A outer s H vs Q E hr h => ?_)
  obtain ⟨F, sF, many, bottom, slope, shift, least, v_many, v_bottom, v_slope, v_shift, v_least, rfl, rfl, rfl, rfl, rfl, rfl, hp, k⟩ := spF5_open h
  obtain ⟨p1, p2, p3, p4, p5, p6, p7, p8⟩ := hp
  -- if least <= 0:
  refine s_if (t_le (e_vi 4) e_int) sF (fun ht1 F1 H1 g1 => ?_) (fun ht1 F1 H1 g1 => ?_)
  · have hl : least ≤ 0 := by simpa using ht1
    refine s_ret (e_vi 0) g1.s (fun v F2 H2 g2 r => k v F2 H2 (g1.trans g2) ?_)
    cases r
    show V.int many = V.int _
    rw [gOnes_low p2 hl, Int.toNat_of_nonneg p1]
  · have hl : 0 < least := by simpa using ht1
    refine s_nil ?_
    -- if least >= bottom:
    refine s_if (t_ge (e_vi 4) (e_vi 1)) g1.s (fun ht3 F3 H3 g3 => ?_) (fun ht3 F3 H3 g3 => ?_)
    · have hb : bottom ≤ least := by simpa using ht3
      refine s_ret e_int g3.s (fun v F4 H4 g4 r => k v F4 H4 ((g1.trans g3).trans g4) ?_)
      cases r
      show V.int 0 = V.int _
      rw [gOnes_high p2 hb]
    · have hb : least < bottom := by simpa using ht3
      refine s_nil ?_
      refine s_ret (e_sub (e_call4 (c_floor_sum T) hr (e_vi 0) (e_vi 1) (e_vi 2) (e_sub (e_add (e_vi 3) (e_vi 1)) (e_vi 4)) ?_) (e_call4 (c_floor_sum T) hr (e_vi 0) (e_vi 1) (e_vi 2) (e_vi 3) ?_)) g3.s (fun v F5 H5 g5 r => k v F5 H5 ((g1.trans g3).trans g5) ?_)
      · refine ⟨p1, p2, p3, by omega, p5.mono (by decide), p6.mono (by decide), p7.mono (by decide), ?_⟩
        have : Bd 441 (shift + bottom - least) := (p8.add p6).le (by omega) (by omega)
        exact this.mono (by decide)
      · exact ⟨p1, p2, p3, p4, p5.mono (by decide), p6.mono (by decide), p7.mono (by decide), p8.mono (by decide)⟩
      · cases r
        show V.int _ = V.int _
        rw [gOnes_fl hl hb]

/-! greatest_residue -/
abbrev sp_greatest_residue : Sp := spF3 rInt rInt rInt rInt (fun b a c => 0 < b ∧ 0 ≤ a ∧ 0 ≤ c) gRes
theorem c_greatest_residue (T : Txt K mg) : Cal P w K mg base 2 "greatest_residue" ["bottom", "slope", "shift"] sp_greatest_residue := by
  refine T.greatest_residue.cal 1 sc_greatest_residue (fun vs H Q E h => spF3_len h) (fun f cdv A outer s H vs Q E hr h => ?_)
  obtain ⟨F, sF, bottom, slope, shift, v_bottom, v_slope, v_shift, rfl, rfl, rfl, rfl, ⟨p1, p2, p3⟩, k⟩ := spF3_open h
  refine s_setI 3 sc_greatest_residue.nd (e_call2 (c_common T) hr (e_vi 0) (e_vi 1) ⟨by omega, by omega⟩) sF (fun F1 H1 g1 => ?_)
  exact s_ret (e_add (e_sub (e_vi 0) (e_vi 3)) (e_mod (e_vi 2) (e_vi 3) (gcdI_pos _ p1))) g1.s (fun v F2 H2 g2 r => k v F2 H2 (g1.trans g2) r)

/-! great_index -/
abbrev sp_great_index : Sp := spF5 rInt rInt rInt rInt rInt (rOpt rInt) (fun b a c _ t => 0 < b ∧ 0 ≤ a ∧ 0 ≤ c ∧ 0 ≤ t ∧ Bd 200 b ∧ Bd 400 a ∧ Bd 400 c ∧ Bd 200 t) gIdx
theorem c_great_index (T : Txt K mg) : Cal P w K mg base 3 "great_index" ["bottom", "slope", "shift", "least", "at"] sp_great_index := by
  refine T.great_index.cal 2 sc_great_index (fun vs H Q E h => spF5_len h) (fun f cdv A outer s H vs Q E hr h => ?_)
  obtain ⟨F, sF, b, a, c, l, t, v_bottom, v_slope, v_shift, v_least, v_at, rfl, rfl, rfl, rfl, rfl, rfl, ⟨p1, p2, p3, p4, p5, p6, p7, p8⟩, k⟩ := spF5_open h
  have hd := gcdI_pos a p1
  -- if greatest_residue(bottom, slope, shift) < least:
  refine s_if (t_lt (e_call3 (c_greatest_residue T) hr (e_vi 0) (e_vi 1) (e_vi 2) ⟨p1, p2, p3⟩) (e_vi 3)) sF (fun ht1 F1 H1 g1 => ?_) (fun ht1 F1 H1 g1 => ?_)
  · refine s_ret e_non g1.s (fun v F2 H2 g2 r => k v F2 H2 (g1.trans g2) ?_)
    rw [gIdx_none (by simpa using ht1)]
    exact r
  · have hl : ¬ gRes b a c < l := by simpa using ht1
    refine s_nil ?_
    -- divisor = common(bottom, slope)
    refine s_setI 5 sc_great_index.nd (e_call2 (c_common T) hr (e_vi 0) (e_vi 1) ⟨by omega, by omega⟩) g1.s (fun F3 H3 g3 => ?_)
    have bd := p5.le (Int.le_of_lt hd) (gcdI_le p1)
    -- period, residue = bottom // divisor, shift % divisor
    refine s_par2 6 7 sc_great_index.nd (ea_cons (e_fdiv (e_vi 0) (e_vi 5) hd bd.lim) (ea_cons (e_mod (e_vi 2) (e_vi 5) hd) ea_nil)) g3.s (fun v u F4 H4 g4 r1 r2 => ?_)
    cases r1; cases r2
    -- each = period - max(0, up(least - residue, divisor))
    refine s_setI 8 sc_great_index.nd (e_sub (e_vi 6) (e_max2 T.max e_int (e_call2 (c_up T) hr (e_sub (e_vi 3) (e_vi 7)) (e_vi 5) ⟨hd, bd.lim⟩))) g4.s (fun F5 H5 g5 => ?_)
    have he := gOnes_period p1 (show l ≤ gRes b a c by omega)
    have he0 := eachP_pos p1 (show l ≤ gRes b a c by omega)
    have ee : b / gcdI b a - max 0 (m_up (l - c % gcdI b a) (gcdI b a)) = eachP b a c l := rfl
    rw [ee]
    have hp0 : 0 ≤ b / gcdI b a := Int.ediv_nonneg (by omega) (by omega)
    have hp1 : b / gcdI b a ≤ b := Int.ediv_le_self _ (by omega)
    have he1 : eachP b a c l ≤ b := by
      have := gOnes_le (b / gcdI b a).toNat b a c l
      rw [he, Int.toNat_of_nonneg hp0] at this
      omega
    have bq : Bd 201 (t / eachP b a c l + 1) := (p8.le (Int.ediv_nonneg p4 (by omega)) (Int.ediv_le_self _ p4)).add (show Bd 200 1 by unfold Bd; decide)
    have q0 : 0 ≤ t / eachP b a c l := Int.ediv_nonneg p4 (by omega)
    have bh : Bd 401 (b / gcdI b a * (t / eachP b a c l + 1)) := Bd.mul (n := 200) (m := 201) (p5.le hp0 hp1) bq
    -- low, high = 0, period * (at // each + 1)
    refine s_par2 9 10 sc_great_index.nd (ea_cons e_int (ea_cons (e_mul (e_vi 6) (e_add (e_fdiv (e_vi 4) (e_vi 8) he0 (p5.le (by omega) he1).lim) e_int) (p5.le hp0 hp1).lim bq.lim) ea_nil)) g5.s (fun v u F6 H6 g6 r1 r2 => ?_)
    cases r1; cases r2
    have hg : Grow F H F6 H6 := ((((g1.trans g3).trans g4).trans g5).trans g6)
    have hh : t < gOnes (b / gcdI b a * (t / eachP b a c l + 1)).toNat b a c l := by
      have h1 := gOnes_many (a := a) (c := c) (l := l) p1 0 (t / eachP b a c l + 1).toNat
      have h2 : (b / gcdI b a).toNat * (t / eachP b a c l + 1).toNat = (b / gcdI b a * (t / eachP b a c l + 1)).toNat := (Int.toNat_mul hp0 (by omega)).symm
      have z : gOnes 0 b a c l = 0 := rfl
      rw [h2, Nat.add_zero, he, z, Int.toNat_of_nonneg (by omega)] at h1
      rw [h1]
      have := Int.lt_ediv_add_one_mul_self t he0
      omega
    refine s_while (fun m σ H' => ∃ F' lo hi tt, Grow F H F' H' ∧ σ = [some (.int b), some (.int a), some (.int c), some (.int l), some (.int t), some (.int (gcdI b a)), some (.int (b / gcdI b a)), some (.int (c % gcdI b a)), some (.int (eachP b a c l)), some (.int lo), some (.int hi), tt] ∧
      0 ≤ lo ∧ lo < hi ∧ Bd 401 hi ∧ gOnes lo.toNat b a c l ≤ t ∧ t < gOnes hi.toNat b a c l ∧ m = (hi - lo).toNat) (b / gcdI b a * (t / eachP b a c l + 1) - 0).toNat ?_ PassesOwn.never ?_
    · refine ⟨F6, 0, _, none, hg, rfl, by omega, ?_, bh, ?_, hh, rfl⟩
      · have h1 : 0 ≤ b / gcdI b a * (t / eachP b a c l + 1) := Int.mul_nonneg hp0 (by omega)
        by_cases z : b / gcdI b a * (t / eachP b a c l + 1) = 0
        · rw [z] at hh
          have z : gOnes (0 : Int).toNat b a c l = 0 := rfl
          omega
        · omega
      · have z : gOnes (0 : Int).toNat b a c l = 0 := rfl
        omega
    · rintro m σ H' ⟨F', lo, hi, tt, g, rfl, h0, h1, hb, hlo, hhi, rfl⟩
      refine ⟨_, F', g.s, t_gt (e_sub (e_vi 10) (e_vi 9)) e_int, fun ht F2 H2 g2 => ?_, fun ht F2 H2 g2 => ?_⟩
      · have hgap : 1 < hi - lo := by simpa using ht
        -- middle = (low + high) // 2
        refine s_setI 11 sc_great_index.nd (e_fdiv (e_add (e_vi 9) (e_vi 10)) e_int (by decide) (lim_of (by decide) (by decide))) g2.s (fun F7 H7 g7 => ?_)
        have m0 : lo < (lo + hi) / 2 := by omega
        have m1 : (lo + hi) / 2 < hi := by omega
        have bm : Bd 401 ((lo + hi) / 2) := hb.le (by omega) (by omega)
        -- if great_ones(middle, ..) > at:
        refine s_if (t_gt (e_call5 (c_great_ones T) hr (e_vi 11) (e_vi 0) (e_vi 1) (e_vi 2) (e_vi 3) ⟨by omega, p1, p2, p3, bm.mono (by decide), p5.mono (by decide), p6.mono (by decide), p7.mono (by decide)⟩) (e_vi 4)) g7.s (fun ht8 F8 H8 g8 => ?_) (fun ht8 F8 H8 g8 => ?_)
        · have c8 : t < gOnes ((lo + hi) / 2).toNat b a c l := by simpa using ht8
          refine s_setI 10 sc_great_index.nd (e_vi 11) g8.s (fun F9 H9 g9 => ?_)
          refine s_nil (s_nil ⟨_, ?_, F9, lo, (lo + hi) / 2, _, (((g.trans g2).trans g7).trans g8).trans g9, rfl, h0, m0, bm, hlo, c8, rfl⟩)
          omega
        · have c8 : gOnes ((lo + hi) / 2).toNat b a c l ≤ t := by simpa using ht8
          refine s_setI 9 sc_great_index.nd (e_vi 11) g8.s (fun F9 H9 g9 => ?_)
          refine s_nil (s_nil ⟨_, ?_, F9, (lo + hi) / 2, hi, _, (((g.trans g2).trans g7).trans g8).trans g9, rfl, by omega, m1, hb, c8, hhi, rfl⟩)
          omega
      · have hgap : hi - lo ≤ 1 := by simpa using ht
        -- return high - 1
        refine s_ret (e_sub (e_vi 10) e_int) g2.s (fun v F3 H3 g3 r => k v F3 H3 ((g.trans g2).trans g3) ?_)
        cases r
        have e1 : hi = lo + 1 := by omega
        subst e1
        have e2 : (lo + 1).toNat = lo.toNat + 1 := by omega
        rw [e2, gOnes_succ, Int.toNat_of_nonneg h0] at hhi
        have hge : l ≤ (a * lo + c) % b := by
          by_cases z : l ≤ (a * lo + c) % b
          · exact z
          · rw [if_neg z] at hhi
            omega
        rw [if_pos hge] at hhi
        rw [gIdx_some (i := lo) hl ⟨h0, by omega, hge⟩]
        show V.int (lo + 1 - 1) = V.int lo
        rw [Int.add_sub_cancel]
end
end Fw

namespace Fw
open PySem PySem.Spec PyProof.Rows L2
section
variable {P : Program} {w : World} {K : PySem.W.Frag} {mg : Str → Option Value} {base : Heap}
/-! _law_pen -/
theorem c_law_pen (T : Txt K mg) : Cal P w K mg base 1 "_law_pen" ["script"] (sp_pen K) := by
  refine T.law_pen.cal 0 sc_law_pen (fun vs H Q E h => ?_) (fun f cdv A outer s H vs Q E hr h => ?_)
  · obtain ⟨F, v, ns, rfl, _⟩ := h
    rfl
  obtain ⟨F, v, ns, rfl, sF, hv, hl, k⟩ := h
  refine sw_ret (w_lst (wa_cons ?_))
  refine EvE.go (e_lc (lc1 (r' := rInt) (f := fun x => x) 1 sc_law_pen.nd (fun _ _ _ _ _ => pg_name sc_law_pen.nd rfl (Or.inl rfl)) (i_list (e_slice (e_var 0 hv) o_none (o_some e_int))) (fun F1 v x s1 hx r => ?_) ?_ (blkOk_by (N := n_law_pen) (sc := defScope s_law_pen) (by decide +kernel)))) sF (fun v1 F2 H2 g2 r2 => ?_)
  · cases r
    exact fun _ _ _ _ _ => e_inti T.int (e_vi 1)
  · unfold cutL
    rw [List.length_take, List.length_drop]
    omega
  obtain ⟨a, vs, rfl, h1, h2⟩ := r2
  rw [paired_ints h2] at h1
  refine EvE.go (e_int (X := _)) g2.s (fun v3 F3 H3 g3 r3 => ?_) |> fun h => wa_cons h
  cases r3
  refine wa_cons (EvE.go (e_int (X := _)) g3.s (fun v4 F4 H4 g4 r4 => ?_))
  cases r4
  refine wa_nil ⟨by show 3 ≤ 100000; decide, fun p hp => ?_⟩
  have hf : F4 p = none := g4.s.free hp
  refine k p F4 _ (g2.f.trans (g3.f.trans g4.f)) (fun b o e => ?_) ⟨hf, a, _, 0, 0, (g3.f.trans g4.f).seq h1, by omega, by omega, by omega, upd_same⟩
  rw [upd_ne (fun z => by subst z; rw [hf] at e; cases e)]
  exact g4.s b o e

/-! _law_draw -/
theorem c_law_draw (T : Txt K mg) : Cal P w K mg base 1 "_law_draw" ["pen", "many"] (sp_draw K) := by
  refine T.law_draw.cal 0 sc_law_draw (fun vs H Q E h => spP1_len h) (fun f cdv A outer s H vs Q E hr h => ?_)
  obtain ⟨F, pn, N, many, v, rfl, sF, ⟨hpn, ca, ns, q, l, hca, q0, q1, l0, hH⟩, hN, rfl, ⟨m0, m1⟩, k⟩ := spP1_open h
  have hcH : SqL K H ca (ns.map V.int) := sF.seq hca
  have st0 : Step pn F H F H := Step.refl sF
  have rp : rRaw K H (.ref pn) [.ref ca, .int q, .int l] := ⟨pn, rfl, .inl (.inl hH)⟩
  have fin : ∀ (y : Int) (H' : Hp) (q' l' : Int), 0 ≤ y → y < many → Step pn F H F H' → H' pn = some (.lst [.ref ca, .int q', .int l']) → 0 ≤ q' → q' ≤ q + 1 → 0 ≤ l' → Q (.int y) H' := fun y H' q' l' y0 y1 st e h0 h1 h2 =>
    k y _ F H' ⟨y0, y1⟩ st ⟨hpn, ca, ns, q', l', hca, h0, by omega, h2, e⟩ rfl
  -- if pen[2] > 0:
  refine s_if (t_gt (e_ixRaw (r := rInt) (e_var 0 rp) e_int rfl rfl) e_int) (Same.refl H) (fun ht1 F1 H1 g1 => ?_) (fun ht1 F1 H1 g1 => ?_)
  · have hl : 0 < l := by simpa using ht1
    refine s_setI 2 sc_law_draw.nd (e_inti T.int (e_ixRaw (r := rInt) (e_var 0 rp) e_int rfl rfl)) g1.h (fun F2 H2 g2 => ?_)
    have hH2 : H2 pn = some (.lst [.ref ca, .int q, .int l]) := g2.h _ _ (g1.h _ _ hH)
    refine s_store 0 2 (e_fdiv (e_vi 2) (e_vi 1) m0 m1) hH2 rfl (fun H3 s3 => ?_)
    have s03 : Same H H3 := g1.h.trans (g2.h.trans s3)
    refine s_ret (e_mod (e_inti T.int (e_vi 2)) (e_vi 1) m0) (Same.refl _) (fun v F4 H4 g4 r => ?_)
    cases r
    refine fin _ H4 q (l / many) (Int.emod_nonneg _ (by omega)) (Int.emod_lt_of_pos _ m0) (((Step.side sF s03).trans (Step.upd (sF.trans s03) hpn)).trans (Step.side ((Step.upd (sF.trans s03) hpn).s) g4.h)) (g4.h _ _ upd_same) q0 (by omega) (Int.ediv_nonneg l0 (by omega))
  refine s_nil ?_
  -- turn = pen[1]
  refine s_setI 3 sc_law_draw.nd (e_ixRaw (r := rInt) (e_var 0 rp) e_int rfl rfl) g1.h (fun F2 H2 g2 => ?_)
  have hH2 : H2 pn = some (.lst [.ref ca, .int q, .int l]) := g2.h _ _ (g1.h _ _ hH)
  -- pen[1] = turn + 1
  refine s_store 0 1 (e_add (e_vi 3) e_int) hH2 rfl (fun H3 s3 => ?_)
  have s03 : Same H H3 := g1.h.trans (g2.h.trans s3)
  have st4 : Step pn F H F (upd H3 pn (.lst [.ref ca, .int (q + 1), .int l])) := (Step.side sF s03).trans (Step.upd (sF.trans s03) hpn)
  have hH4 : (upd H3 pn (.lst [.ref ca, .int (q + 1), .int l])) pn = some (.lst [.ref ca, .int (q + 1), .int l]) := upd_same
  show wS _ _ _ _ (upd H3 pn (.lst [.ref ca, .int (q + 1), .int l]))
  generalize upd H3 pn (.lst [.ref ca, .int (q + 1), .int l]) = H4 at st4 hH4
  have rp4 : rRaw K H4 (.ref pn) [.ref ca, .int (q + 1), .int l] := ⟨pn, rfl, .inl (.inl hH4)⟩
  have rc4 : rLst K rInt H4 (.ref ca) ns := ⟨ca, _, rfl, st4.s.seq (st4.f.seq hca), ints_paired ns⟩
  -- cell = ..
  refine s_setI 4 sc_law_draw.nd (e_add (e_mull e_int (e_vi 3) (by omega)) e_int) (Same.refl H4) (fun F5 H5 g5 => ?_)
  have rp5 : rRaw K H5 (.ref pn) [.ref ca, .int (q + 1), .int l] := Mono.mono g5.h rp4
  have rc5 : rLst K rInt H5 (.ref ca) ns := Mono.mono g5.h rc4
  have st5 : Step pn F H F H5 := st4.trans (Step.side st4.s g5.h)
  have hH5 := g5.h _ _ hH4
  -- if pen[0] != []: cell = ..
  refine s_ifJ (fun σ' H' => ∃ c : Int, σ' = [some (.ref pn), some (.int many), none, some (.int q), some (.int c), none] ∧ Same H5 H') (t_neL hr.units (e_ixRaw (e_var 0 rp5) e_int rfl rc5) (e_lst el_nil)) (Same.refl H5) (fun ht6 F6 H6 g6 => ?_) (fun ht6 F6 H6 g6 => ?_) ?_
  · have hne : ns ≠ [] := by simpa using ht6
    have hlen : 0 < ns.length := List.length_pos_iff.mpr hne
    have i0 := Int.emod_nonneg q (show (ns.length : Int) ≠ 0 by omega)
    have i1 := Int.emod_lt_of_pos q (show 0 < (ns.length : Int) by omega)
    obtain ⟨c, hc⟩ : ∃ c, atI ns (q % (ns.length : Int)) = some c := by
      obtain ⟨j, hj⟩ := Int.eq_ofNat_of_zero_le i0
      rw [hj] at i1 ⊢
      exact ⟨_, atI_nat (List.getElem?_eq_getElem (by omega))⟩
    refine s_setI 4 sc_law_draw.nd (e_ixL (e_ixRaw (e_var 0 rp5) e_int rfl rc5) (e_mod (e_inti T.int (e_vi 3)) (e_lenL T.len (e_ixRaw (e_var 0 rp5) e_int rfl rc5)) (by omega)) hc) g6.h (fun F7 H7 g7 => ?_)
    exact s_nil ⟨c, rfl, g6.h.trans g7.h⟩
  · exact s_nil ⟨_, rfl, g6.h⟩
  rintro σ' H6 ⟨c, rfl, s56⟩
  have rp6 : rRaw K H6 (.ref pn) [.ref ca, .int (q + 1), .int l] := Mono.mono s56 rp5
  have rc6 : rLst K rInt H6 (.ref ca) ns := Mono.mono s56 rc5
  have st6 : Step pn F H F H6 := st5.trans (Step.side st5.s s56)
  have hH6 := s56 _ _ hH5
  -- if turn < len(pen[0]) and abs(cell) >= 10 ** 18:
  refine s_if (bt (band (t_lt (e_vi 3) (e_lenL T.len (e_ixRaw (e_var 0 rp6) e_int rfl rc6))) (fun _ => band1 (t_ge (e_abs T.abs (e_vi 4)) (e_pow e_int e_int (by decide)))))) (Same.refl H6) (fun ht7 F7 H7 g7 => ?_) (fun ht7 F7 H7 g7 => ?_)
  · have hc : (10 : Int) ^ (18 : Int).toNat ≤ if c < 0 then -c else c := by
      simp only [Bool.and_eq_true, decide_eq_true_eq] at ht7
      exact ht7.2
    have e18 : (10 : Int) ^ (18 : Int).toNat = 1000000000000000000 := by decide
    rw [e18] at hc
    refine s_setIg 2 sc_law_draw.nd (e_add (e_mull e_int (e_sub (e_abs T.abs (e_inti T.int (e_vi 4))) (e_pow e_int e_int (by decide))) (.inl ⟨by decide, by decide⟩)) (e_intb T.int (e_lt (e_vi 4) e_int))) g7.h (fun big hbig F8 H8 g8 => ?_)
    have l20 : 0 ≤ big := by
      rw [hbig, e18]
      split <;> omega
    have hH8 : H8 pn = some (.lst [.ref ca, .int (q + 1), .int l]) := g8.h _ _ (g7.h _ _ hH6)
    refine s_store 0 2 (e_fdiv (e_vi 2) (e_vi 1) m0 m1) hH8 rfl (fun H9 s9 => ?_)
    have s69 : Same H6 H9 := g7.h.trans (g8.h.trans s9)
    have st9 : Step pn F H F H9 := st6.trans (Step.side st6.s s69)
    refine s_ret (e_mod (e_inti T.int (e_vi 2)) (e_vi 1) m0) (Same.refl _) (fun v F10 H10 g10 r => ?_)
    cases r
    exact fin _ H10 (q + 1) _ (Int.emod_nonneg _ (by omega)) (Int.emod_lt_of_pos _ m0) ((st9.trans (Step.upd st9.s hpn)).trans (Step.side ((Step.upd st9.s hpn).s) g10.h)) (g10.h _ _ upd_same) (by omega) (by omega) (Int.ediv_nonneg l20 (by omega))
  refine s_nil ?_
  have hq : q ≤ 1000000 := by omega
  -- mixed = ..
  refine s_setIg 5 sc_law_draw.nd (e_mod (e_inti T.int (e_pow (e_add (e_add (e_mod (e_inti T.int (e_vi 4)) e_int (by decide)) (e_mull e_int (e_vi 3) (.inl ⟨by decide, by decide⟩))) e_int) e_int ⟨by decide, by decide, by omega⟩)) e_int (by decide)) g7.h (fun mx hmx F8 H8 g8 => ?_)
  have mx0 : 0 ≤ mx := by rw [hmx]; exact Int.emod_nonneg _ (by decide)
  have mx1 : mx < 2147483648 := by
    rw [hmx]
    exact Int.lt_trans (Int.emod_lt_of_pos _ (by decide)) (by decide)
  clear hmx
  refine s_setIg 5 sc_law_draw.nd (e_mod (e_inti T.int (e_pow (e_add (e_add (e_mull (e_vi 5) (e_add (e_mull e_int (e_vi 3) (.inl ⟨by decide, by decide⟩)) e_int) (.inl ⟨by omega, by omega⟩)) (e_mull (e_mull e_int (e_vi 3) (.inl ⟨by decide, by decide⟩)) (e_vi 3) (.inr ⟨by omega, by omega⟩))) e_int) e_int
    ⟨by decide, by decide, mixb mx0 mx1 q0 hq (by decide) (by decide) (by decide) (by decide) (by decide) (by decide)⟩)) e_int (by decide)) g8.h (fun my hmy F9 H9 g9 => ?_)
  have st9 : Step pn F H F H9 := st6.trans (Step.side st6.s (g7.h.trans (g8.h.trans g9.h)))
  refine s_ret (e_mod (e_inti T.int (e_fdiv (e_vi 5) e_int (by decide) (lim_of (by decide) (by decide)))) (e_vi 1) m0) g9.h (fun v F10 H10 g10 r => ?_)
  cases r
  exact fin _ H10 (q + 1) l (Int.emod_nonneg _ (by omega)) (Int.emod_lt_of_pos _ m0) (st9.trans (Step.side st9.s g10.h)) (g10.h _ _ (g9.h _ _ (g8.h _ _ (g7.h _ _ hH6)))) (by omega) (by omega) l0

/-! _law_pick -/
theorem c_law_pick {α : Type} {r : Rp α} [Mono r] (T : Txt K mg) : Cal P w K mg base 2 "_law_pick" ["pen", "some"] (sp_pick K r) := by
  refine T.law_pick.cal 1 sc_law_pick (fun vs H Q E h => spP1_len h) (fun f cdv A outer s H vs Q E hr h => ?_)
  obtain ⟨F, pn, N, xs, v, rfl, sF, hp, hN, hv, ⟨hne, hlen⟩, k⟩ := spP1_open h
  have hpos : 0 < xs.length := List.length_pos_iff.mpr hne
  have hv' := hv
  obtain ⟨a, vs, rfl, h1, h2⟩ := hv'
  refine sw_ret (we_of (pe_ix ix_list pe_w pe_w (fun _ _ => rfl)) (w_var 1 ?_))
  refine w_callP1 0 (c_law_draw T) hr ?_
  refine EvE.go (e_lenL T.len (e_var 1 hv)) sF (fun v2 F2 H2 g2 r2 => ?_)
  refine ⟨F2, N, (xs.length : Int), g2.s, hp.grow g2, hN, r2, ⟨by omega, lim_of (by omega) (by omega)⟩, ?_⟩
  rintro y v3 F3 H3 ⟨y0, y1⟩ st hp3 r3
  cases r3
  obtain ⟨j, rfl⟩ := Int.eq_ofNat_of_zero_le y0
  have hj : j < xs.length := by omega
  obtain ⟨u, hu, ru⟩ := paired_at h2 (List.getElem?_eq_getElem hj)
  have s3 : Same F F3 := g2.f.trans st.f
  exact ⟨a, vs, (j : Int), u, rfl, rfl, st.s.seq (s3.seq h1), atI_nat hu, k xs[j] u F3 H3 (List.getElem_mem hj) ((Step.of g2).trans st) hp3 (Mono.mono s3 ru)⟩
end
end Fw

namespace Fw
open PySem PySem.Spec PyProof.Rows L2
section
variable {P : Program} {w : World} {K : PySem.W.Frag} {mg : Str → Option Value} {base : Heap}
theorem upI_zero (n : Nat) : upI 0 n = (List.range n).map fun (k : Nat) => (0 : Int) + (k : Int) := rfl
theorem mem_upI {lo x : Int} {n : Nat} (h : x ∈ upI lo n) : lo ≤ x ∧ x < lo + n := by
  obtain ⟨k, hk, rfl⟩ := List.mem_map.mp h
  have := List.mem_range.mp hk
  omega
theorem sum_upI (f : Int → Int) (m : Nat) : ((upI 0 m).map f).sum = sumTo (fun i => f (0 + i)) m := by
  unfold upI
  rw [List.map_map]
  induction m with
  | zero => rfl
  | succ m ih =>
    rw [List.range_succ, List.map_append, List.sum_append, ih, sumTo_succ]
    simp
theorem c_law_right (T : Txt K mg) : Cal P w K mg base 4 "_law_right" ["pen"] (sp_right K 20) := by
  refine T.law_right.cal 3 sc_law_right (fun vs H Q E h => spP0_len h) (fun f cdv A outer s H vs Q E hr h => ?_)
  obtain ⟨F, pn, N, rfl, sF, hp, hN, _, k⟩ := spP0_open h
  -- many, bottom, slope, shift = ..
  refine sw_parT4 1 2 3 4 sc_law_right.nd (wa_cons (w_drawc 0 (c_law_draw T) hr sF hp (by omega) ⟨by decide, lim_of (by decide) (by decide)⟩ ?_))
  rintro many v1 F1 H1 ⟨many0, many1⟩ st1 hp1 r1
  cases r1
  refine wa_cons (w_add (w_int ⟨_, rfl, w_callP1 0 (c_law_pick (r := rInt) T) hr (w_lst (wa_cons (w_int (wa_cons (w_int (wa_cons (w_int (wa_cons (w_int (wa_cons (w_int (wa_cons (w_int (wa_cons (w_drawc 0 (c_law_draw T) hr st1.s hp1 (by omega) ⟨by decide, lim_of (by decide) (by decide)⟩ ?_)))))))))))))))⟩))
  rintro y1 v2 F2 H2 ⟨y10, y11⟩ st2 hp2 r2
  cases r2
  refine wa_nil ⟨by show 7 ≤ 100000; decide, fun p hpp => ?_⟩
  have g2 := Grow.new (o := HO.lst [V.int 0, V.int 1, V.int 3, V.int 6, V.int 7, V.int 15, V.int y1]) st2.s hpp
  refine ⟨_, _, [0, 1, 3, 6, 7, 15, y1], g2.s, hp2.grow g2, by omega, ⟨p, _, rfl, .inl (.inl upd_same), ints_paired [_, _, _, _, _, _, _]⟩, ⟨by simp, by show 7 ≤ 100000; decide⟩, ?_⟩
  rintro y2 v3 F3 H3 hy2 st3 hp3 r3
  cases r3
  have hy20 : 0 ≤ y2 ∧ y2 < 40 := by
    simp only [List.mem_cons, List.not_mem_nil, or_false] at hy2
    omega
  refine ⟨y2, rfl, wa_cons (w_callP1 0 (c_law_pick (r := rInt) T) hr (w_lst (wa_cons (w_int (wa_cons (w_drawc 0 (c_law_draw T) hr st3.s hp3 (by omega) ⟨by decide, lim_of (by decide) (by decide)⟩ ?_))))))⟩
  rintro y3 v4 F4 H4 ⟨y30, y31⟩ st4 hp4 r4
  cases r4
  refine wa_cons (w_drawc 0 (c_law_draw T) hr st4.s hp4 (by omega) ⟨by decide, lim_of (by decide) (by decide)⟩ ?_)
  rintro y4 v5 F5 H5 ⟨y40, y41⟩ st5 hp5 r5
  cases r5
  refine wa_nil ⟨by show 3 ≤ 100000; decide, fun p hpp => ?_⟩
  have g5 := Grow.new (o := HO.lst [V.int 0, V.int y3, V.int y4]) st5.s hpp
  refine ⟨_, _, [0, y3, y4], g5.s, hp5.grow g5, by omega, ⟨p, _, rfl, .inl (.inl upd_same), ints_paired [_, _, _]⟩, ⟨by simp, by show 3 ≤ 100000; decide⟩, ?_⟩
  rintro slope v6 F6 H6 hslope st6 hp6 r6
  cases r6
  have slope0 : 0 ≤ slope ∧ slope < 50 := by
    simp only [List.mem_cons, List.not_mem_nil, or_false] at hslope
    omega
  refine wa_cons (w_drawc 0 (c_law_draw T) hr st6.s hp6 (by omega) ⟨by decide, lim_of (by decide) (by decide)⟩ ?_)
  rintro shift v7 F7 H7 ⟨shift0, shift1⟩ st7 hp7 r7
  cases r7
  refine wa_nil ⟨_, _, _, _, rfl, fun H8 s8 => ?_⟩
  obtain ⟨bottom, hbot⟩ : ∃ z : Int, z = 1 + y2 := ⟨_, rfl⟩
  rw [← hbot]
  have b1 : 0 < bottom := by omega
  have b2 : bottom < 41 := by omega
  have st8 : Step pn F H F7 H8 := ((((((st1.trans st2).trans (.of g2)).trans st3).trans ((st4.trans st5).trans (.of g5))).trans st6).trans st7).trans (.of (Grow.side st7.s s8))
  have hp8 := hp7.grow (Grow.side st7.s s8)
  clear st1 st2 g2 st3 st4 st5 g5 st6 st7 hp1 hp2 hp3 hp4 hp5 hp6 hp7 s8 hslope hy2 hpp y30 y31 y40 y41 y10 y11
  show wS _ _ _ [some (.ref pn), some (.int many), some (.int bottom), some (.int slope), some (.int shift), none, none, none, none, none, none] _
  have small : ∀ {x : Int} {n : Nat}, 0 ≤ x → x < 1000000 → 30 ≤ n → Bd n x := fun {x n} h0 h1 hn => Bd.mono (n := 30) (by unfold Bd; omega) hn
  have pre : ∀ {n : Int}, 0 ≤ n → n < 1000000 → 0 ≤ n ∧ 0 < bottom ∧ 0 ≤ slope ∧ 0 ≤ shift ∧ Bd 450 n ∧ Bd 450 bottom ∧ Bd 450 slope ∧ Bd 450 shift := fun h1 h2 => ⟨h1, b1, by omega, by omega, small h1 h2 (by decide), small (by omega) (by omega) (by decide), small (by omega) (by omega) (by decide), small (by omega) (by omega) (by decide)⟩
  have pre2 : ∀ {n : Int}, 0 ≤ n → n < 1000000 → 0 ≤ n ∧ 0 < bottom ∧ 0 ≤ slope ∧ 0 ≤ shift ∧ Bd 440 n ∧ Bd 440 bottom ∧ Bd 440 slope ∧ Bd 440 shift := fun h1 h2 => ⟨h1, b1, by omega, by omega, small h1 h2 (by decide), small (by omega) (by omega) (by decide), small (by omega) (by omega) (by decide), small (by omega) (by omega) (by decide)⟩
  -- rows = [slope * at + shift for at in range(many)]
  refine s_setLc 5 (lc1 (r := rInt) (r' := rInt) (f := fun at' => slope * at' + shift) 9 sc_law_right.nd (fun _ _ _ _ _ => pg_name sc_law_right.nd rfl (Or.inl rfl)) (i_rng1 T.range (e_vi 1) (by omega) (by omega)) (fun F1 v x s1 hx r => ?_) (by rw [upI_len]; omega) (blkOk_by (N := n_law_right) (sc := defScope s_law_right) (by decide +kernel))) st8.s (fun v9 F9 H9 g9 r9 => ?_)
  · cases r
    exact fun _ _ _ _ _ => e_add (e_mull (e_vi 3) (e_vi 9) (.inl ⟨by omega, by omega⟩)) (e_vi 4)
  -- the sum of floors
  have eq1 : ((upI 0 many.toNat).map (fun at' => slope * at' + shift) |>.map fun row => row / bottom).sum = flS many.toNat bottom slope shift := by
    rw [List.map_map, sum_upI]
    unfold flS
    refine sumTo_congr fun i _ => ?_
    show (slope * (0 + (i : Int)) + shift) / bottom = _
    rw [Int.zero_add]
  have fl_bd : Bd 1900 (flS many.toNat bottom slope shift) := by
    have h0 : 0 ≤ flS many.toNat bottom slope shift := sumTo_nonneg fun i _ => Int.ediv_nonneg (by have := Int.mul_nonneg slope0.1 (Int.natCast_nonneg i); omega) (by omega)
    have h1 : flS many.toNat bottom slope shift ≤ sumTo (fun _ => 10000) many.toNat := sumTo_le fun i hi => by
      have h2 : slope * (i : Int) ≤ 50 * 40 := Int.mul_le_mul (by omega) (by omega) (by omega) (by omega)
      have h3 := Int.mul_nonneg slope0.1 (Int.natCast_nonneg i)
      have h4 := Int.ediv_le_self bottom (show 0 ≤ slope * (i : Int) + shift by omega)
      omega
    rw [sumTo_const] at h1
    exact small h0 (by omega) (by decide)
  refine s_if (t_neS (e_repr hr T.repr (e_di (e_call4 (c_floor_sum T) hr (e_vi 1) (e_vi 2) (e_vi 3) (e_vi 4) (pre many0 (by omega)))) (shows_int fl_bd))
    (e_repr hr T.repr (e_di (EvE.to (e_sum T.sum (e_lc (lc1 (r := rInt) (r' := rInt) (f := fun row => row / bottom) 10 sc_law_right.nd (fun _ _ _ _ _ => pg_name sc_law_right.nd rfl (Or.inl rfl)) (i_list (e_var 5 r9)) ?_ ?_ (blkOk_by (N := n_law_right) (sc := defScope s_law_right) (by decide +kernel))))) eq1)) (shows_int fl_bd))) g9.s (fun ht F10 H10 g10 => ?_) (fun _ F10 H10 g10 => s_nil ?_)
  · rintro F1 v x s1 hx r
    cases r
    exact fun _ _ _ _ _ => e_fdiv (e_vi 10) (e_vi 2) b1 (lim_of (by omega) (by omega))
  · rw [List.length_map, upI_len]; omega
  · simp at ht
  -- by name
  refine s_if (t_ne (e_callK (pm := [3, 2, 1, 0]) (ks := ["shift", "slope", "bottom", "many"]) (c_floor_sum T) T.floor_sum hr (fun _ _ _ _ _ _ ws hl => match ws, hl with | [_, _, _, _], _ => rfl) rfl (ek_cons (e_vi 4) (ek_cons (e_vi 3) (ek_cons (e_vi 2) (ek_cons (e_vi 1) ek_nil))))
      (x := (many, bottom, slope, shift, ())) (fun F zs h => by obtain ⟨z1, _, rfl, h1, z2, _, rfl, h2, z3, _, rfl, h3, z4, _, rfl, h4, rfl⟩ := h; exact ⟨rfl, _, _, rfl, h4, _, _, rfl, h3, _, _, rfl, h2, _, _, rfl, h1, rfl⟩) (pre many0 (by omega)))
    (e_call4 (c_floor_sum T) hr (e_vi 1) (e_vi 2) (e_vi 3) (e_vi 4) (pre many0 (by omega)))) g10.s (fun ht F11 H11 g11 => ?_) (fun _ F11 H11 g11 => s_nil ?_)
  · simp at ht
  have hp11 := hp8.grow ((g9.trans g10).trans g11)
  have st11 : Step pn F H F11 H11 := st8.trans (.of ((g9.trans g10).trans g11))
  have r11 := Mono.mono (g10.f.trans g11.f) r9
  clear st8 hp8 g9 g10 g11 r9
  -- least = ..
  refine sw_set 6 sc_law_right.nd (w_callP1 0 (c_law_pick (r := rInt) T) hr (w_lst (wa_cons (w_evi (e_neg e_int) st11.s fun Fa Ha ga => wa_cons (w_int (wa_cons (w_int (wa_cons (w_evi (e_sub (e_vi 2) e_int) ga.s fun Fb Hb gb => wa_cons (w_vi 2 (wa_cons (w_evi (e_add (e_vi 2) e_int) gb.s fun Fc Hc gc => wa_cons (w_callP1 0 (c_law_draw T) hr (w_vi 2 ⟨Fc, _, bottom, gc.s, hp11.grow ((ga.trans gb).trans gc), by omega, rfl, ⟨b1, lim_of (by omega) (by omega)⟩, ?_⟩))))))))))))))
  rintro y5 v12 F12 H12 ⟨y50, y51⟩ st12 hp12 r12
  cases r12
  refine wa_nil ⟨by show 7 ≤ 100000; decide, fun p hpp => ?_⟩
  have g12 := Grow.new (o := HO.lst [V.int (-3), V.int 0, V.int 1, V.int (bottom - 1), V.int bottom, V.int (bottom + 2), V.int y5]) st12.s hpp
  refine ⟨_, _, [-3, 0, 1, bottom - 1, bottom, bottom + 2, y5], g12.s, hp12.grow g12, by omega, ⟨p, _, rfl, .inl (.inl upd_same), ints_paired [_, _, _, _, _, _, _]⟩, ⟨by simp, by show 7 ≤ 100000; decide⟩, ?_⟩
  rintro least v13 F13 H13 hleast st13 hp13 r13
  cases r13
  have hleast : -3 ≤ least ∧ least < 50 := by
    simp only [List.mem_cons, List.not_mem_nil, or_false] at hleast
    omega
  have st14 : Step pn F H F13 H13 := ((((st11.trans (.of ga)).trans (.of gb)).trans (.of gc)).trans st12).trans ((Step.of g12).trans st13)
  have r14 := Mono.mono (((ga.f.trans gb.f).trans gc.f).trans (st12.f.trans (g12.f.trans st13.f))) r11
  clear st11 hp11 st12 hp12 g12 st13 ga gb gc r11 hpp
  show wS _ _ _ [some (.ref pn), some (.int many), some (.int bottom), some (.int slope), some (.int shift), some v9, some (.int least), none, none, none, none] _
  -- how many of the rows are great
  have ones_bd : Bd 1900 (gOnes many.toNat bottom slope shift least) := by
    have h0 := gOnes_nonneg many.toNat bottom slope shift least
    have h1 := gOnes_le many.toNat bottom slope shift least
    exact small h0 (by omega) (by decide)
  have eq2 : (((((upI 0 many.toNat).map fun at' => slope * at' + shift).filter fun row => decide (least ≤ row % bottom)).map fun row => row).length : Int) = gOnes many.toNat bottom slope shift least := by
    rw [List.length_map, ← grOnes_len, List.filter_map, List.length_map]
    rfl
  refine s_if (t_neS (e_repr hr T.repr (e_di (e_call5 (c_great_ones T) hr (e_vi 1) (e_vi 2) (e_vi 3) (e_vi 4) (e_vi 6) (pre2 many0 (by omega)))) (shows_int ones_bd))
    (e_repr hr T.repr (e_di (EvE.to (e_lenL (r := rInt) T.len (e_lc (lc1f (r := rInt) (r' := rInt) (pr := fun row => decide (least ≤ row % bottom)) (f := fun row => row) 10 sc_law_right.nd (fun _ _ _ _ _ => pg_name sc_law_right.nd rfl (Or.inl rfl)) (i_list (e_var 5 r14)) ?_ ?_ ?_ (blkOk_by (N := n_law_right) (sc := defScope s_law_right) (by decide +kernel))))) eq2)) (shows_int ones_bd))) st14.s (fun ht F15 H15 g15 => ?_) (fun _ F15 H15 g15 => s_nil ?_)
  · rintro F1 v x s1 hx r
    cases r
    exact fun _ _ _ _ _ => t_ge (e_mod (e_vi 10) (e_vi 2) b1) (e_vi 6)
  · rintro F1 v x s1 hx _ r
    cases r
    exact fun _ _ _ _ _ => e_vi 10
  · rw [List.length_map, upI_len]; omega
  · simp at ht
  -- every = [at for at in range(4 * bottom) if ..]
  refine s_setLc 7 (lc1f (r := rInt) (r' := rInt) (pr := fun at' => decide (least ≤ (slope * at' + shift) % bottom)) (f := fun at' => at') 9 sc_law_right.nd (fun _ _ _ _ _ => pg_name sc_law_right.nd rfl (Or.inl rfl)) (i_rng1 T.range (e_mull e_int (e_vi 2) (.inl ⟨by decide, by decide⟩)) (by omega) (by omega)) (fun F1 v x s1 hx r => ?_) (fun F1 v x s1 hx _ r => ?_) (by rw [upI_len]; omega) (blkOk_by (N := n_law_right) (sc := defScope s_law_right) (by decide +kernel))) g15.s (fun v16 F16 H16 g16 r16 => ?_)
  · cases r
    exact fun _ _ _ _ _ => t_ge (e_mod (e_add (e_mull (e_vi 3) (e_vi 9) (.inl ⟨by omega, by omega⟩)) (e_vi 4)) (e_vi 2) b1) (e_vi 6)
  · cases r
    exact fun _ _ _ _ _ => e_vi 9
  have ev : ((upI 0 (4 * bottom).toNat).filter fun at' => decide (least ≤ (slope * at' + shift) % bottom)).map (fun at' => at') = grOnes bottom slope shift least (4 * bottom).toNat := by
    rw [List.map_id']
    rfl
  rw [ev] at r16
  -- the greatest residue
  obtain ⟨im, im1, im2⟩ := res_met (a := slope) (c := shift) b1
  refine s_if (t_ne (e_call3 (c_greatest_residue T) hr (e_vi 2) (e_vi 3) (e_vi 4) ⟨b1, by omega, by omega⟩)
    (e_maxL (m := gRes bottom slope shift) T.max (e_lc (lc1 (r := rInt) (r' := rInt) (f := fun at' => (slope * at' + shift) % bottom) 9 sc_law_right.nd (fun _ _ _ _ _ => pg_name sc_law_right.nd rfl (Or.inl rfl)) (i_rng1 T.range (e_vi 2) (by omega) (by omega)) ?_ ?_ (blkOk_by (N := n_law_right) (sc := defScope s_law_right) (by decide +kernel)))) ?_ ?_)) g16.s (fun ht F17 H17 g17 => ?_) (fun _ F17 H17 g17 => s_nil ?_)
  · rintro F1 v x s1 hx r
    cases r
    exact fun _ _ _ _ _ => e_mod (e_add (e_mull (e_vi 3) (e_vi 9) (.inl ⟨by omega, by omega⟩)) (e_vi 4)) (e_vi 2) b1
  · rw [upI_len]; omega
  · refine List.mem_map.mpr ⟨(im : Int), List.mem_map.mpr ⟨im, List.mem_range.mpr (by omega), by omega⟩, im2⟩
  · intro y hy
    obtain ⟨x, hx, rfl⟩ := List.mem_map.mp hy
    obtain ⟨j, _, rfl⟩ := List.mem_map.mp hx
    rw [Int.zero_add]
    exact res_le b1 j
  · simp at ht
  have r17 := Mono.mono g17.f r16
  have gi : ∀ {at' : Int}, 0 ≤ at' → at' < 4 → 0 < bottom ∧ 0 ≤ slope ∧ 0 ≤ shift ∧ 0 ≤ at' ∧ Bd 200 bottom ∧ Bd 400 slope ∧ Bd 400 shift ∧ Bd 200 at' := fun h0 h1 => ⟨b1, by omega, by omega, h0, small (by omega) (by omega) (by decide), small (by omega) (by omega) (by decide), small (by omega) (by omega) (by decide), small (by omega) (by omega) (by decide)⟩
  -- found = [great_index(.., at) for at in range(4)]
  refine s_setLc 8 (lc1 (r := rInt) (r' := rOpt rInt) (f := fun at' => gIdx bottom slope shift least at') 9 sc_law_right.nd (fun _ _ _ _ _ => pg_name sc_law_right.nd rfl (Or.inl rfl)) (i_rng1 T.range e_int (by decide) (by decide)) (fun F1 v x s1 hx r => ?_) (by rw [upI_len]; decide) (blkOk_by (N := n_law_right) (sc := defScope s_law_right) (by decide +kernel))) g17.s (fun v18 F18 H18 g18 r18 => ?_)
  · cases r
    have hx := mem_upI hx
    exact fun _ _ _ _ _ => e_call5 (c_great_index T) hr (e_vi 2) (e_vi 3) (e_vi 4) (e_vi 6) (e_vi 9) (gi hx.1 (by simpa using hx.2))
  have r18b := Mono.mono g18.f r17
  have e4 : (upI 0 (4 : Int).toNat).map (fun at' => gIdx bottom slope shift least at') = [gIdx bottom slope shift least 0, gIdx bottom slope shift least 1, gIdx bottom slope shift least 2, gIdx bottom slope shift least 3] := rfl
  rw [e4] at r18
  have hp18 := hp13.grow (((g15.trans g16).trans g17).trans g18)
  have st18 : Step pn F H F18 H18 := st14.trans (.of (((g15.trans g16).trans g17).trans g18))
  -- what is found
  have small_idx : ∀ {t x : Int}, 0 ≤ t → t < 4 → gIdx bottom slope shift least t = some x → Bd 100 x := by
    intro t x t0 t1 hx
    have hok := gIdx_spec b1 t0 hx
    have hl : ¬ gRes bottom slope shift < least := fun h => by rw [gIdx_none h] at hx; cases hx
    have h4 := four_ones (a := slope) (c := shift) b1 (show least ≤ gRes bottom slope shift by omega)
    have h5 : x < 4 * bottom := by
      by_cases h : x < 4 * bottom
      · exact h
      · have := gOnes_mono (show (4 * bottom).toNat ≤ x.toNat by omega) bottom slope shift least
        have := hok.2.1
        omega
    exact small hok.1 (by omega) (by decide)
  have hshow : Shows (.list ([gIdx bottom slope shift least 0, gIdx bottom slope shift least 1, gIdx bottom slope shift least 2, gIdx bottom slope shift least 3].map dOpt)) := by
    refine shows_leaves (b := 100) (fun d hd => ?_) (by show (100 + 12) * (4 * (100 + 2)) + (100 + 10) ≤ _; decide)
    simp only [List.map_cons, List.map_nil, List.mem_cons, List.not_mem_nil, or_false] at hd
    rcases hd with rfl | rfl | rfl | rfl
    · exact leaf_opt (fun x hx => small_idx (by decide) (by decide) hx) (by decide)
    · exact leaf_opt (fun x hx => small_idx (by decide) (by decide) hx) (by decide)
    · exact leaf_opt (fun x hx => small_idx (by decide) (by decide) hx) (by decide)
    · exact leaf_opt (fun x hx => small_idx (by decide) (by decide) hx) (by decide)
  -- the same by the law's own list
  have eq3 : (if (!decide (grOnes bottom slope shift least (4 * bottom).toNat = [])) = true then PyData.list ((cutL (grOnes bottom slope shift least (4 * bottom).toNat) none (some 4)).map .int) else PyData.list ((List.replicate (4 : Int).toNat [PyData.none]).flatten)) =
      .list ([gIdx bottom slope shift least 0, gIdx bottom slope shift least 1, gIdx bottom slope shift least 2, gIdx bottom slope shift least 3].map dOpt) := by
    by_cases hl : gRes bottom slope shift < least
    · have hz : grOnes bottom slope shift least (4 * bottom).toNat = [] := by
        have h1 := grOnes_len bottom slope shift least (4 * bottom).toNat
        have h2 : gOnes (4 * bottom).toNat bottom slope shift least = 0 := by
          unfold gOnes
          rw [sumTo_congr (g := fun _ => 0) fun i _ => if_neg (by have := res_le (a := slope) (c := shift) b1 i; omega), sumTo_const, Int.mul_zero]
        rw [h2] at h1
        exact List.eq_nil_of_length_eq_zero (by omega)
      rw [hz, if_neg (by decide), gIdx_none hl, gIdx_none hl, gIdx_none hl, gIdx_none hl]
      rfl
    · have h4 := four_ones (a := slope) (c := shift) b1 (show least ≤ gRes bottom slope shift by omega)
      have hlen := grOnes_len bottom slope shift least (4 * bottom).toNat
      have hne : grOnes bottom slope shift least (4 * bottom).toNat ≠ [] := fun z => by
        rw [z] at hlen
        have : (([] : List Int).length : Int) = 0 := rfl
        omega
      rw [if_pos (by rw [decide_eq_false hne]; rfl)]
      have at_ : ∀ t : Nat, t < 4 → ∃ i : Int, gIdx bottom slope shift least t = some i ∧ (grOnes bottom slope shift least (4 * bottom).toNat)[t]? = some i := by
        intro t ht
        obtain ⟨i, hi⟩ := idx_ex (t := (t : Int)) b1 hl (Int.natCast_nonneg t)
        refine ⟨i, gIdx_some hl hi, ?_⟩
        have hlt : i < ((4 * bottom).toNat : Int) := by
          by_cases h : i < ((4 * bottom).toNat : Int)
          · exact h
          · have := gOnes_mono (show (4 * bottom).toNat ≤ i.toNat by omega) bottom slope shift least
            have := hi.2.1
            omega
        have := grOnes_idx hi hlt
        rw [Int.toNat_natCast] at this
        exact this
      obtain ⟨i0, a0, c0⟩ := at_ 0 (by decide)
      obtain ⟨i1, a1, c1⟩ := at_ 1 (by decide)
      obtain ⟨i2, a2, c2⟩ := at_ 2 (by decide)
      obtain ⟨i3, a3, c3⟩ := at_ 3 (by decide)
      have a0 : gIdx bottom slope shift least 0 = some i0 := a0
      have a1 : gIdx bottom slope shift least 1 = some i1 := a1
      have a2 : gIdx bottom slope shift least 2 = some i2 := a2
      have a3 : gIdx bottom slope shift least 3 = some i3 := a3
      rw [a0, a1, a2, a3]
      congr 1
      generalize grOnes bottom slope shift least (4 * bottom).toNat = es at *
      have hc : cutL es none (some 4) = es.take 4 := by
        unfold cutL
        rw [show HT.sIx es.length es.length (some 4) = min 4 es.length from HT.sIx_nat es.length es.length 4, HT.sIx_none]
        show List.take (min 4 es.length - 0) (es.drop 0) = _
        rw [List.drop_zero, show min 4 es.length - 0 = 4 by omega]
      rw [hc]
      match es, c0, c1, c2, c3 with
      | [], c0, _, _, _ => cases c0
      | [_], _, c1, _, _ => cases c1
      | [_, _], _, _, c2, _ => cases c2
      | [_, _, _], _, _, _, c3 => cases c3
      | x0 :: x1 :: x2 :: x3 :: r, c0, c1, c2, c3 =>
        cases c0; cases c1; cases c2; cases c3
        rfl
  refine s_ret (e_and (e_eqS (e_repr hr T.repr (e_opts (e_var 8 r18)) hshow) (e_repr hr T.repr (EvE.to (e_ifx2 (t_neL hr.units (e_var 7 r18b) (e_lst el_nil)) (fun _ => e_ints (e_slice (e_var 7 r18b) o_none (o_some e_int))) (fun _ => e_dl (e_rep (el_cons (e_dn e_non) el_nil) e_int (by decide) (by decide) (by decide) (by decide)))) eq3) hshow))
    (fun _ => e_one (e_eqO hr.units (e_callK (pm := [4, 3, 2, 1, 0]) (ks := ["at", "least", "shift", "slope", "bottom"]) (c_great_index T) T.great_index hr (fun _ _ _ _ _ _ ws hl => match ws, hl with | [_, _, _, _, _], _ => rfl) rfl (ek_cons e_int (ek_cons (e_vi 6) (ek_cons (e_vi 4) (ek_cons (e_vi 3) (ek_cons (e_vi 2) ek_nil)))))
      (x := (bottom, slope, shift, least, 0, ())) (fun F zs h => by obtain ⟨z1, _, rfl, h1, z2, _, rfl, h2, z3, _, rfl, h3, z4, _, rfl, h4, z5, _, rfl, h5, rfl⟩ := h; exact ⟨rfl, _, _, rfl, h5, _, _, rfl, h4, _, _, rfl, h3, _, _, rfl, h2, _, _, rfl, h1, rfl⟩) (gi (at' := 0) (by decide) (by decide)))
      (e_ixL (e_var 8 r18) e_int rfl)))) g18.s (fun v F19 H19 g19 r => k _ v F19 H19 ?_ (st18.trans (.of g19)) ((hp18.grow g19).mono (by omega)) r)
  rw [decide_eq_true rfl, decide_eq_true rfl]
  rfl

theorem ok_law {f : Addr} {fd : FuncData} (F : Fun K "law" "law" s_law f fd) (T : Txt K mg) : FnG P w K mg base CX0 30 f fd ["script"] (spLaw K) := by
  refine ok_of F sc_law (fun vs H Q E h => ?_) (fun cdv A outer s H vs Q E hr h => ?_)
  · obtain ⟨a, ns, rfl, _⟩ := h
    rfl
  obtain ⟨a, ns, rfl, hS, hlen, k⟩ := h
  refine sw_set 1 sc_law.nd (w_call (c_law_pen T) hr (wa_cons (w_var 0 (wa_nil ⟨H, .ref a, ns, rfl, Same.refl H, ⟨a, _, rfl, hS, ints_paired ns⟩, by omega, fun pn F1 H1 s1 s2 hp => ?_⟩))))
  refine s_for (i_rng1 T.range e_int (by decide) (by decide)) s2 (pg_name (i := 2) sc_law.nd rfl (Or.inl rfl)) (fun i F' σ' H' => Same F' H' ∧ PenAt K F' H' pn (0 + 20 * i) ∧ ∃ t, σ' = [some (.ref a), some (.ref pn), t]) (fun F2 H2 g2 => ⟨g2.s, hp.grow g2, none, rfl⟩) ?_ ?_ PassesOwn.never
  · rintro i F2 σ2 H2 v F3 H3 x hx ⟨s2, hp2, t, rfl⟩ sf g3 rv
    cases rv
    have hi : i < 8 := by
      have := (List.getElem?_eq_some_iff.mp hx).1
      rw [upI_len] at this
      exact this
    refine sw_if (σ := [some (.ref a), some (.ref pn), some (.int x)]) (wt_not (wt_val (w_callP0 1 (c_law_right T) hr g3.s (hp2.grow g3) (by omega) trivial ?_)))
    rintro y v5 F5 H5 rfl st5 hp5 r5
    refine ⟨true, r5, ?_⟩
    show wS _ _ _ _ H5
    refine s_nil (s_nil ⟨F5, g3.f.trans st5.f, st5.s, st5.s, ?_, some (.int x), rfl⟩)
    have e : 0 + 20 * i + 20 = 0 + 20 * (i + 1) := by omega
    rw [← e]
    exact hp5
  · rintro F2 σ2 H2 sf s2 ⟨_, hp2, t, rfl⟩
    have gi : ∀ {b a c t : Int}, 0 < b → 0 ≤ a → 0 ≤ c → 0 ≤ t → b < 1000 → a < 1000 → c < 1000 → t < 1000 → 0 < b ∧ 0 ≤ a ∧ 0 ≤ c ∧ 0 ≤ t ∧ Bd 200 b ∧ Bd 400 a ∧ Bd 400 c ∧ Bd 200 t := fun h1 h2 h3 h4 h5 h6 h7 h8 =>
      ⟨h1, h2, h3, h4, Bd.mono (n := 10) (by unfold Bd; omega) (by decide), Bd.mono (n := 10) (by unfold Bd; omega) (by decide), Bd.mono (n := 10) (by unfold Bd; omega) (by decide), Bd.mono (n := 10) (by unfold Bd; omega) (by decide)⟩
    have go : ∀ {n b a c : Int}, 0 ≤ n → 0 < b → 0 ≤ a → 0 ≤ c → n < 1000 → b < 1000 → a < 1000 → c < 1000 → 0 ≤ n ∧ 0 < b ∧ 0 ≤ a ∧ 0 ≤ c ∧ Bd 440 n ∧ Bd 440 b ∧ Bd 440 a ∧ Bd 440 c := fun h1 h2 h3 h4 h5 h6 h7 h8 =>
      ⟨h1, h2, h3, h4, Bd.mono (n := 10) (by unfold Bd; omega) (by decide), Bd.mono (n := 10) (by unfold Bd; omega) (by decide), Bd.mono (n := 10) (by unfold Bd; omega) (by decide), Bd.mono (n := 10) (by unfold Bd; omega) (by decide)⟩
    have x1 : gIdx 4 0 3 3 5 = some 5 := gIdx_some (by decide +kernel) ⟨by decide, by decide +kernel, by decide +kernel⟩
    have x2 : gIdx 4 0 2 3 0 = none := gIdx_none (by decide +kernel)
    have x3 : gIdx 4 3 0 (-5) 7 = some 7 := gIdx_some (by decide +kernel) ⟨by decide, by decide +kernel, by decide +kernel⟩
    have x4 : gIdx 4 3 0 3 1 = some 5 := gIdx_some (by decide +kernel) ⟨by decide, by decide +kernel, by decide +kernel⟩
    have x5 : gIdx 8 12 1 6 0 = none := gIdx_none (by decide +kernel)
    refine s_if (t_neD hr.units (e_dl (e_lst (el_cons (e_do (EvE.to (e_call5 (c_great_index T) hr e_int e_int e_int e_int e_int (gi (by decide) (by decide) (by decide) (by decide) (by decide) (by decide) (by decide) (by decide))) x1))
      (el_cons (e_do (EvE.to (e_call5 (c_great_index T) hr e_int e_int e_int e_int e_int (gi (by decide) (by decide) (by decide) (by decide) (by decide) (by decide) (by decide) (by decide))) x2))
      (el_cons (e_do (EvE.to (e_call5 (c_great_index T) hr e_int e_int e_int (e_neg e_int) e_int (gi (by decide) (by decide) (by decide) (by decide) (by decide) (by decide) (by decide) (by decide))) x3))
      (el_cons (e_di (EvE.to (y := 5) (e_call5 (c_great_ones T) hr e_int e_int e_int e_int e_int (go (by decide) (by decide) (by decide) (by decide) (by decide) (by decide) (by decide) (by decide))) (by decide +kernel)))
      (el_cons (e_di (EvE.to (y := 0) (e_call5 (c_great_ones T) hr e_int e_int e_int e_int e_int (go (by decide) (by decide) (by decide) (by decide) (by decide) (by decide) (by decide) (by decide))) (by decide +kernel))) el_nil)))))))
      (e_dl (e_lst (el_cons (e_di e_int) (el_cons (e_dn e_non) (el_cons (e_di e_int) (el_cons (e_di e_int) (el_cons (e_di e_int) el_nil))))))) rfl rfl) s2 (fun ht F3 H3 g3 => ?_) (fun _ F3 H3 g3 => s_nil ?_)
    · exact absurd ht (by decide)
    refine s_ret (e_eqD hr.units (e_dl (e_lst (el_cons (e_di (EvE.to (y := 4) (e_call4 (c_floor_sum T) hr e_int e_int e_int e_int ⟨by decide, by decide, by decide, by decide, bd_of (by decide +kernel), bd_of (by decide +kernel), bd_of (by decide +kernel), bd_of (by decide +kernel)⟩) (by decide +kernel)))
      (el_cons (e_di (EvE.to (y := 1) (e_call5 (c_great_ones T) hr e_int e_int e_int e_int e_int (go (by decide) (by decide) (by decide) (by decide) (by decide) (by decide) (by decide) (by decide))) (by decide +kernel)))
      (el_cons (e_di (EvE.to (y := 5) (e_call3 (c_greatest_residue T) hr e_int e_int e_int ⟨by decide, by decide, by decide⟩) (by decide +kernel)))
      (el_cons (e_do (EvE.to (e_call5 (c_great_index T) hr e_int e_int e_int e_int e_int (gi (by decide) (by decide) (by decide) (by decide) (by decide) (by decide) (by decide) (by decide))) x4))
      (el_cons (e_do (EvE.to (e_call5 (c_great_index T) hr e_int e_int e_int e_int e_int (gi (by decide) (by decide) (by decide) (by decide) (by decide) (by decide) (by decide) (by decide))) x5)) el_nil)))))))
      (e_dl (e_lst (el_cons (e_di e_int) (el_cons (e_di e_int) (el_cons (e_di e_int) (el_cons (e_di e_int) (el_cons (e_dn e_non) el_nil))))))) rfl rfl) g3.s (fun v F4 H4 g4 r => ?_)
    cases r
    exact k _
end
end Fw

namespace Fw
open PySem PySem.Spec PyProof.Rows L2
theorem all_mk {l : PySem.W.OpenLaw} {w : World} {K : PySem.W.Frag} {h : Heap} {mg : Str → Option Value} {fa : Addr} (X : K.In h) (G : h.Ns mainGlobals mg) (hfa : mg "law" = some (.ref fa))
    {fL : Addr} {odL anL : Option Addr} {slL : Array (Option Value)} {ocL kVL dcL pmL cdL ctL : Value}
    {f0 : Addr} {od0 an0 : Option Addr} {sl0 : Array (Option Value)} {oc0 kV0 dc0 pm0 cd0 ct0 : Value}
    {f1 : Addr} {od1 an1 : Option Addr} {sl1 : Array (Option Value)} {oc1 kV1 dc1 pm1 cd1 ct1 : Value}
    {f2 : Addr} {od2 an2 : Option Addr} {sl2 : Array (Option Value)} {oc2 kV2 dc2 pm2 cd2 ct2 : Value}
    {f3 : Addr} {od3 an3 : Option Addr} {sl3 : Array (Option Value)} {oc3 kV3 dc3 pm3 cd3 ct3 : Value}
    {f4 : Addr} {od4 an4 : Option Addr} {sl4 : Array (Option Value)} {oc4 kV4 dc4 pm4 cd4 ct4 : Value}
    {f5 : Addr} {od5 an5 : Option Addr} {sl5 : Array (Option Value)} {oc5 kV5 dc5 pm5 cd5 ct5 : Value}
    {f6 : Addr} {od6 an6 : Option Addr} {sl6 : Array (Option Value)} {oc6 kV6 dc6 pm6 cd6 ct6 : Value}
    {f7 : Addr} {od7 an7 : Option Addr} {sl7 : Array (Option Value)} {oc7 kV7 dc7 pm7 cd7 ct7 : Value}
    {f8 : Addr} {od8 an8 : Option Addr} {sl8 : Array (Option Value)} {oc8 kV8 dc8 pm8 cd8 ct8 : Value}
    {f9 : Addr} {od9 an9 : Option Addr} {sl9 : Array (Option Value)} {oc9 kV9 dc9 pm9 cd9 ct9 : Value}
    (aL : PySem.W.nsIn K mainGlobals "law" = some (some (.ref fL))) (lL : K.lookup fL = some ⟨ocL, odL, .func (PySem.W.fnOf "law" "law" (defArgs s_law) (defBody s_law) (defScope s_law) .none kVL dcL pmL anL cdL ctL), slL⟩) (cL : PySem.W.codeIn K cdL "law" = true) (kL : PySem.W.keepIn K (.ref fL) = true)
    (a0 : PySem.W.nsIn K mainGlobals "common" = some (some (.ref f0))) (l0 : K.lookup f0 = some ⟨oc0, od0, .func (PySem.W.fnOf "common" "common" (defArgs s_common) (defBody s_common) (defScope s_common) .none kV0 dc0 pm0 an0 cd0 ct0), sl0⟩) (c0 : PySem.W.codeIn K cd0 "common" = true) (k0 : PySem.W.keepIn K (.ref f0) = true)
    (a1 : PySem.W.nsIn K mainGlobals "up" = some (some (.ref f1))) (l1 : K.lookup f1 = some ⟨oc1, od1, .func (PySem.W.fnOf "up" "up" (defArgs s_up) (defBody s_up) (defScope s_up) .none kV1 dc1 pm1 an1 cd1 ct1), sl1⟩) (c1 : PySem.W.codeIn K cd1 "up" = true) (k1 : PySem.W.keepIn K (.ref f1) = true)
    (a2 : PySem.W.nsIn K mainGlobals "floor_sum" = some (some (.ref f2))) (l2 : K.lookup f2 = some ⟨oc2, od2, .func (PySem.W.fnOf "floor_sum" "floor_sum" (defArgs s_floor_sum) (defBody s_floor_sum) (defScope s_floor_sum) .none kV2 dc2 pm2 an2 cd2 ct2), sl2⟩) (c2 : PySem.W.codeIn K cd2 "floor_sum" = true) (k2 : PySem.W.keepIn K (.ref f2) = true)
    (a3 : PySem.W.nsIn K mainGlobals "great_ones" = some (some (.ref f3))) (l3 : K.lookup f3 = some ⟨oc3, od3, .func (PySem.W.fnOf "great_ones" "great_ones" (defArgs s_great_ones) (defBody s_great_ones) (defScope s_great_ones) .none kV3 dc3 pm3 an3 cd3 ct3), sl3⟩) (c3 : PySem.W.codeIn K cd3 "great_ones" = true) (k3 : PySem.W.keepIn K (.ref f3) = true)
    (a4 : PySem.W.nsIn K mainGlobals "greatest_residue" = some (some (.ref f4))) (l4 : K.lookup f4 = some ⟨oc4, od4, .func (PySem.W.fnOf "greatest_residue" "greatest_residue" (defArgs s_greatest_residue) (defBody s_greatest_residue) (defScope s_greatest_residue) .none kV4 dc4 pm4 an4 cd4 ct4), sl4⟩) (c4 : PySem.W.codeIn K cd4 "greatest_residue" = true) (k4 : PySem.W.keepIn K (.ref f4) = true)
    (a5 : PySem.W.nsIn K mainGlobals "great_index" = some (some (.ref f5))) (l5 : K.lookup f5 = some ⟨oc5, od5, .func (PySem.W.fnOf "great_index" "great_index" (defArgs s_great_index) (defBody s_great_index) (defScope s_great_index) .none kV5 dc5 pm5 an5 cd5 ct5), sl5⟩) (c5 : PySem.W.codeIn K cd5 "great_index" = true) (k5 : PySem.W.keepIn K (.ref f5) = true)
    (a6 : PySem.W.nsIn K mainGlobals "_law_pen" = some (some (.ref f6))) (l6 : K.lookup f6 = some ⟨oc6, od6, .func (PySem.W.fnOf "_law_pen" "_law_pen" (defArgs s_law_pen) (defBody s_law_pen) (defScope s_law_pen) .none kV6 dc6 pm6 an6 cd6 ct6), sl6⟩) (c6 : PySem.W.codeIn K cd6 "_law_pen" = true) (k6 : PySem.W.keepIn K (.ref f6) = true)
    (a7 : PySem.W.nsIn K mainGlobals "_law_draw" = some (some (.ref f7))) (l7 : K.lookup f7 = some ⟨oc7, od7, .func (PySem.W.fnOf "_law_draw" "_law_draw" (defArgs s_law_draw) (defBody s_law_draw) (defScope s_law_draw) .none kV7 dc7 pm7 an7 cd7 ct7), sl7⟩) (c7 : PySem.W.codeIn K cd7 "_law_draw" = true) (k7 : PySem.W.keepIn K (.ref f7) = true)
    (a8 : PySem.W.nsIn K mainGlobals "_law_pick" = some (some (.ref f8))) (l8 : K.lookup f8 = some ⟨oc8, od8, .func (PySem.W.fnOf "_law_pick" "_law_pick" (defArgs s_law_pick) (defBody s_law_pick) (defScope s_law_pick) .none kV8 dc8 pm8 an8 cd8 ct8), sl8⟩) (c8 : PySem.W.codeIn K cd8 "_law_pick" = true) (k8 : PySem.W.keepIn K (.ref f8) = true)
    (a9 : PySem.W.nsIn K mainGlobals "_law_right" = some (some (.ref f9))) (l9 : K.lookup f9 = some ⟨oc9, od9, .func (PySem.W.fnOf "_law_right" "_law_right" (defArgs s_law_right) (defBody s_law_right) (defScope s_law_right) .none kV9 dc9 pm9 an9 cd9 ct9), sl9⟩) (c9 : PySem.W.codeIn K cd9 "_law_right" = true) (k9 : PySem.W.keepIn K (.ref f9) = true)
    (z0 : PySem.W.nsIn K mainGlobals "abs" = some none)
    (z1 : PySem.W.nsIn K mainGlobals "int" = some none)
    (z2 : PySem.W.nsIn K mainGlobals "len" = some none)
    (z3 : PySem.W.nsIn K mainGlobals "max" = some none)
    (z4 : PySem.W.nsIn K mainGlobals "range" = some none)
    (z5 : PySem.W.nsIn K mainGlobals "repr" = some none)
    (z6 : PySem.W.nsIn K mainGlobals "sum" = some none) :
    ∃ fd : FuncData, (∀ (s : Shared) (v : Value), BindsTo s fd ⟨[v], []⟩ [("script", v)]) ∧ ∀ base : Heap, K.In base → base.Ns mainGlobals mg → FnG l.prog w K mg base CX0 30 fa fd ["script"] (spLaw K) := by
  have e := hfa.symm.trans (PySem.W.mg_of X G aL)
  cases e
  have T : Txt K mg := ⟨⟨f0, _, fun_mk (st := s_common) l0 c0 k0, PySem.W.mg_of X G a0, (fun_mk (st := s_common) l0 c0 k0).binds (ps := ["one", "other"]) fun _ _ _ _ _ _ us hl => match us, hl with | [_, _], _ => rfl⟩,
    ⟨f1, _, fun_mk (st := s_up) l1 c1 k1, PySem.W.mg_of X G a1, (fun_mk (st := s_up) l1 c1 k1).binds (ps := ["top", "bottom"]) fun _ _ _ _ _ _ us hl => match us, hl with | [_, _], _ => rfl⟩,
    ⟨f2, _, fun_mk (st := s_floor_sum) l2 c2 k2, PySem.W.mg_of X G a2, (fun_mk (st := s_floor_sum) l2 c2 k2).binds (ps := ["many", "bottom", "slope", "shift"]) fun _ _ _ _ _ _ us hl => match us, hl with | [_, _, _, _], _ => rfl⟩,
    ⟨f3, _, fun_mk (st := s_great_ones) l3 c3 k3, PySem.W.mg_of X G a3, (fun_mk (st := s_great_ones) l3 c3 k3).binds (ps := ["many", "bottom", "slope", "shift", "least"]) fun _ _ _ _ _ _ us hl => match us, hl with | [_, _, _, _, _], _ => rfl⟩,
    ⟨f4, _, fun_mk (st := s_greatest_residue) l4 c4 k4, PySem.W.mg_of X G a4, (fun_mk (st := s_greatest_residue) l4 c4 k4).binds (ps := ["bottom", "slope", "shift"]) fun _ _ _ _ _ _ us hl => match us, hl with | [_, _, _], _ => rfl⟩,
    ⟨f5, _, fun_mk (st := s_great_index) l5 c5 k5, PySem.W.mg_of X G a5, (fun_mk (st := s_great_index) l5 c5 k5).binds (ps := ["bottom", "slope", "shift", "least", "at"]) fun _ _ _ _ _ _ us hl => match us, hl with | [_, _, _, _, _], _ => rfl⟩,
    ⟨f6, _, fun_mk (st := s_law_pen) l6 c6 k6, PySem.W.mg_of X G a6, (fun_mk (st := s_law_pen) l6 c6 k6).binds (ps := ["script"]) fun _ _ _ _ _ _ us hl => match us, hl with | [_], _ => rfl⟩,
    ⟨f7, _, fun_mk (st := s_law_draw) l7 c7 k7, PySem.W.mg_of X G a7, (fun_mk (st := s_law_draw) l7 c7 k7).binds (ps := ["pen", "many"]) fun _ _ _ _ _ _ us hl => match us, hl with | [_, _], _ => rfl⟩,
    ⟨f8, _, fun_mk (st := s_law_pick) l8 c8 k8, PySem.W.mg_of X G a8, (fun_mk (st := s_law_pick) l8 c8 k8).binds (ps := ["pen", "some"]) fun _ _ _ _ _ _ us hl => match us, hl with | [_, _], _ => rfl⟩,
    ⟨f9, _, fun_mk (st := s_law_right) l9 c9 k9, PySem.W.mg_of X G a9, (fun_mk (st := s_law_right) l9 c9 k9).binds (ps := ["pen"]) fun _ _ _ _ _ _ us hl => match us, hl with | [_], _ => rfl⟩,
    PySem.W.mg_none_of X G z0,
    PySem.W.mg_none_of X G z1,
    PySem.W.mg_none_of X G z2,
    PySem.W.mg_none_of X G z3,
    PySem.W.mg_none_of X G z4,
    PySem.W.mg_none_of X G z5,
    PySem.W.mg_none_of X G z6⟩
  exact ⟨PySem.W.fnOf "law" "law" (defArgs s_law) (defBody s_law) (defScope s_law) .none kVL dcL pmL anL cdL ctL, fun s v => .of_eq rfl, fun base _ _ =>
    (ok_law (fun_mk (st := s_law) lL cL kL) T)⟩
end Fw

open PySem PySem.W PyProof.Rows in
set_option maxRecDepth 100000 in
set_option maxHeartbeats 0 in
theorem PySem.Challenge.cw_fewlines_k36_sums_of_floors_holds : PySem.Challenge.rw_fewlines_k36_sums_of_floors.Holds := by
  w_on; o_law; k_head; (case hw => w_witness2)
  k_fill
  refine Fw.walk_G (l := PySem.Challenge.rw_fewlines_k36_sums_of_floors) (k := 30) rfl rfl ⟨⟨rfl, by decide, by decide⟩, rfl⟩ (fun w h Y => PySem.W.kIn_of Y) ?F
  case F =>
    intro w mg fa h KX G hmg
    refine' Fw.all_mk KX G hmg ?aL ?lL ?cL ?kL ?a0 ?l0 ?c0 ?k0 ?a1 ?l1 ?c1 ?k1 ?a2 ?l2 ?c2 ?k2 ?a3 ?l3 ?c3 ?k3 ?a4 ?l4 ?c4 ?k4 ?a5 ?l5 ?c5 ?k5 ?a6 ?l6 ?c6 ?k6 ?a7 ?l7 ?c7 ?k7 ?a8 ?l8 ?c8 ?k8 ?a9 ?l9 ?c9 ?k9 ?z0 ?z1 ?z2 ?z3 ?z4 ?z5 ?z6
    (case aL => k_is)
    (case lL => k_is)
    (case cL => k_is)
    (case kL => k_is)
    (case a0 => k_is)
    (case l0 => k_is)
    (case c0 => k_is)
    (case k0 => k_is)
    (case a1 => k_is)
    (case l1 => k_is)
    (case c1 => k_is)
    (case k1 => k_is)
    (case a2 => k_is)
    (case l2 => k_is)
    (case c2 => k_is)
    (case k2 => k_is)
    (case a3 => k_is)
    (case l3 => k_is)
    (case c3 => k_is)
    (case k3 => k_is)
    (case a4 => k_is)
    (case l4 => k_is)
    (case c4 => k_is)
    (case k4 => k_is)
    (case a5 => k_is)
    (case l5 => k_is)
    (case c5 => k_is)
    (case k5 => k_is)
    (case a6 => k_is)
    (case l6 => k_is)
    (case c6 => k_is)
    (case k6 => k_is)
    (case a7 => k_is)
    (case l7 => k_is)
    (case c7 => k_is)
    (case k7 => k_is)
    (case a8 => k_is)
    (case l8 => k_is)
    (case c8 => k_is)
    (case k8 => k_is)
    (case a9 => k_is)
    (case l9 => k_is)
    (case c9 => k_is)
    (case k9 => k_is)
    (case z0 => k_is)
    (case z1 => k_is)
    (case z2 => k_is)
    (case z3 => k_is)
    (case z4 => k_is)
    (case z5 => k_is)
    (case z6 => k_is)
