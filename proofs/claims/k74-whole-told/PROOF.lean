import PyProof.Rows.All
import Wide.All
import OpenK.AllK
import Wide.FinOn
import HandS.ForMost
import HandS.DictComp
import HandS.Property
import HandS.Star
import HandS.IsInst
import HandS.Style
import HandS.Wide
import HandS.DeepEq
import HandS.SortKw
import HandS.Evl
import KE.KMinKey
import PySem.Challenge.RW_roundline_k74_whole_told_and_turned
import KE.KEqNest
set_option Elab.async false
set_option linter.all false
set_option maxRecDepth 100000
set_option maxHeartbeats 4000000
/-! A calculus of weakest preconditions over the hand layer: WE, WT, .. choose the reading where they stand, so that a body is walked goal by goal. -/
namespace Rn
open PySem L2 StX

section defs
variable {ι : Type} (X : ι → Cx)
def WE0 (e : Expr) (σ : St) (H : Hp) (Q : VK) : Prop := ∃ t : TE, (∀ i, PE (X i) e t) ∧ t σ H Q
def WT0 (e : Expr) (σ : St) (H : Hp) (Q : Bool → Hp → Prop) : Prop := ∃ t : TT, (∀ i, PT (X i) e t) ∧ t σ H Q
def WW0 (e : Expr) (σ : St) (H : Hp) (Q : Bool → Hp → Prop) : Prop := ∃ t : TT, (∀ i, PW (X i) e t) ∧ t σ H Q
def WTs0 (es : List Expr) (σ : St) (H : Hp) (Q : Bool → Hp → Prop) : Prop := ∃ t : TT, (∀ i, PTs (X i) es t) ∧ t σ H Q
def WA0 (es : List Expr) (σ : St) (H : Hp) (Q : List V → Hp → Prop) : Prop := ∃ t : TA, (∀ i, PA (X i) es t) ∧ t σ H Q
def WK0 (es : List Keyword) (σ : St) (H : Hp) (Q : List V → Hp → Prop) : Prop := ∃ t : TA, (∀ i, PK (X i) es t) ∧ t σ H Q
def WO0 (e : Option Expr) (σ : St) (H : Hp) (Q : Option Int → Hp → Prop) : Prop := ∃ t : TO, (∀ i, PO (X i) e t) ∧ t σ H Q
def WS0 (st : Stmt) (nx : St → Hp → Prop) (rt : VK) (bk ct : St → Hp → Prop) (σ : St) (H : Hp) : Prop := ∃ t : TS, (∀ i, PS (X i) st t) ∧ t ⟨nx, rt, bk, ct⟩ σ H
def WB0 (sts : List Stmt) (nx : St → Hp → Prop) (rt : VK) (bk ct : St → Hp → Prop) (σ : St) (H : Hp) : Prop := ∃ t : TS, (∀ i, PSs (X i) sts t) ∧ t ⟨nx, rt, bk, ct⟩ σ H
def WG0 (tg : Expr) (v : V) (σ : St) (H : Hp) (Q : St → Hp → Prop) : Prop := ∃ t : TG, (∀ i, PG (X i) tg t) ∧ t v σ H Q
def WGs0 (tg : List Expr) (vs : List V) (σ : St) (H : Hp) (Q : St → Hp → Prop) : Prop := ∃ t : TGs, (∀ i, PGs (X i) tg t) ∧ t vs σ H Q
def WI0 (tg iter : Expr) (σ : St) (H : Hp) (R : It → Hp → Prop) : Prop := ∃ t : TI, (∀ i, PI (X i) tg iter t) ∧ t σ H R
/-! closed under weaker ends -/
structure WE (e : Expr) (σ : St) (H : Hp) (Q : VK) : Prop where
  ex : ∃ Q', WE0 X e σ H Q' ∧ ∀ v H', Q' v H' → Q v H'
structure WT (e : Expr) (σ : St) (H : Hp) (Q : Bool → Hp → Prop) : Prop where
  ex : ∃ Q', WT0 X e σ H Q' ∧ ∀ v H', Q' v H' → Q v H'
structure WW (e : Expr) (σ : St) (H : Hp) (Q : Bool → Hp → Prop) : Prop where
  ex : ∃ Q', WW0 X e σ H Q' ∧ ∀ v H', Q' v H' → Q v H'
structure WTs (e : List Expr) (σ : St) (H : Hp) (Q : Bool → Hp → Prop) : Prop where
  ex : ∃ Q', WTs0 X e σ H Q' ∧ ∀ v H', Q' v H' → Q v H'
structure WA (e : List Expr) (σ : St) (H : Hp) (Q : List V → Hp → Prop) : Prop where
  ex : ∃ Q', WA0 X e σ H Q' ∧ ∀ v H', Q' v H' → Q v H'
structure WK (e : List Keyword) (σ : St) (H : Hp) (Q : List V → Hp → Prop) : Prop where
  ex : ∃ Q', WK0 X e σ H Q' ∧ ∀ v H', Q' v H' → Q v H'
structure WO (e : Option Expr) (σ : St) (H : Hp) (Q : Option Int → Hp → Prop) : Prop where
  ex : ∃ Q', WO0 X e σ H Q' ∧ ∀ v H', Q' v H' → Q v H'
structure WG (tg : Expr) (v : V) (σ : St) (H : Hp) (Q : St → Hp → Prop) : Prop where
  ex : ∃ Q', WG0 X tg v σ H Q' ∧ ∀ v H', Q' v H' → Q v H'
structure WGs (tg : List Expr) (vs : List V) (σ : St) (H : Hp) (Q : St → Hp → Prop) : Prop where
  ex : ∃ Q', WGs0 X tg vs σ H Q' ∧ ∀ v H', Q' v H' → Q v H'
structure WI (tg iter : Expr) (σ : St) (H : Hp) (Q : It → Hp → Prop) : Prop where
  ex : ∃ Q', WI0 X tg iter σ H Q' ∧ ∀ v H', Q' v H' → Q v H'
structure WS (st : Stmt) (nx : St → Hp → Prop) (rt : VK) (bk ct : St → Hp → Prop) (σ : St) (H : Hp) : Prop where
  ex : ∃ nx' rt' bk' ct', WS0 X st nx' rt' bk' ct' σ H ∧ (∀ a b, nx' a b → nx a b) ∧ (∀ a b, rt' a b → rt a b) ∧ (∀ a b, bk' a b → bk a b) ∧ ∀ a b, ct' a b → ct a b
structure WB (st : List Stmt) (nx : St → Hp → Prop) (rt : VK) (bk ct : St → Hp → Prop) (σ : St) (H : Hp) : Prop where
  ex : ∃ nx' rt' bk' ct', WB0 X st nx' rt' bk' ct' σ H ∧ (∀ a b, nx' a b → nx a b) ∧ (∀ a b, rt' a b → rt a b) ∧ (∀ a b, bk' a b → bk a b) ∧ ∀ a b, ct' a b → ct a b
end defs

section
variable {ι : Type} {X : ι → Cx} {σ : St} {H : Hp}
theorem WE.of {e : Expr} {Q : VK} (h : WE0 X e σ H Q) : WE X e σ H Q := ⟨⟨Q, h, fun _ _ q => q⟩⟩
theorem WE.mono {e : Expr} {Q Q' : VK} (h : WE X e σ H Q) (k : ∀ v H', Q v H' → Q' v H') : WE X e σ H Q' := let ⟨⟨R, h1, h2⟩⟩ := h; ⟨⟨R, h1, fun v H' q => k v H' (h2 v H' q)⟩⟩
theorem WT.of {e : Expr} {Q : Bool → Hp → Prop} (h : WT0 X e σ H Q) : WT X e σ H Q := ⟨⟨Q, h, fun _ _ q => q⟩⟩
theorem WT.mono {e : Expr} {Q Q' : Bool → Hp → Prop} (h : WT X e σ H Q) (k : ∀ v H', Q v H' → Q' v H') : WT X e σ H Q' := let ⟨⟨R, h1, h2⟩⟩ := h; ⟨⟨R, h1, fun v H' q => k v H' (h2 v H' q)⟩⟩
theorem WW.of {e : Expr} {Q : Bool → Hp → Prop} (h : WW0 X e σ H Q) : WW X e σ H Q := ⟨⟨Q, h, fun _ _ q => q⟩⟩
theorem WW.mono {e : Expr} {Q Q' : Bool → Hp → Prop} (h : WW X e σ H Q) (k : ∀ v H', Q v H' → Q' v H') : WW X e σ H Q' := let ⟨⟨R, h1, h2⟩⟩ := h; ⟨⟨R, h1, fun v H' q => k v H' (h2 v H' q)⟩⟩
theorem WTs.of {e : List Expr} {Q : Bool → Hp → Prop} (h : WTs0 X e σ H Q) : WTs X e σ H Q := ⟨⟨Q, h, fun _ _ q => q⟩⟩
theorem WTs.mono {e : List Expr} {Q Q' : Bool → Hp → Prop} (h : WTs X e σ H Q) (k : ∀ v H', Q v H' → Q' v H') : WTs X e σ H Q' := let ⟨⟨R, h1, h2⟩⟩ := h; ⟨⟨R, h1, fun v H' q => k v H' (h2 v H' q)⟩⟩
theorem WA.of {e : List Expr} {Q : List V → Hp → Prop} (h : WA0 X e σ H Q) : WA X e σ H Q := ⟨⟨Q, h, fun _ _ q => q⟩⟩
theorem WA.mono {e : List Expr} {Q Q' : List V → Hp → Prop} (h : WA X e σ H Q) (k : ∀ v H', Q v H' → Q' v H') : WA X e σ H Q' := let ⟨⟨R, h1, h2⟩⟩ := h; ⟨⟨R, h1, fun v H' q => k v H' (h2 v H' q)⟩⟩
theorem WK.of {e : List Keyword} {Q : List V → Hp → Prop} (h : WK0 X e σ H Q) : WK X e σ H Q := ⟨⟨Q, h, fun _ _ q => q⟩⟩
theorem WK.mono {e : List Keyword} {Q Q' : List V → Hp → Prop} (h : WK X e σ H Q) (k : ∀ v H', Q v H' → Q' v H') : WK X e σ H Q' := let ⟨⟨R, h1, h2⟩⟩ := h; ⟨⟨R, h1, fun v H' q => k v H' (h2 v H' q)⟩⟩
theorem WO.of {e : Option Expr} {Q : Option Int → Hp → Prop} (h : WO0 X e σ H Q) : WO X e σ H Q := ⟨⟨Q, h, fun _ _ q => q⟩⟩
theorem WO.mono {e : Option Expr} {Q Q' : Option Int → Hp → Prop} (h : WO X e σ H Q) (k : ∀ v H', Q v H' → Q' v H') : WO X e σ H Q' := let ⟨⟨R, h1, h2⟩⟩ := h; ⟨⟨R, h1, fun v H' q => k v H' (h2 v H' q)⟩⟩
theorem WG.of {e : Expr} {v : V} {Q : St → Hp → Prop} (h : WG0 X e v σ H Q) : WG X e v σ H Q := ⟨⟨Q, h, fun _ _ q => q⟩⟩
theorem WG.mono {e : Expr} {v : V} {Q Q' : St → Hp → Prop} (h : WG X e v σ H Q) (k : ∀ v H', Q v H' → Q' v H') : WG X e v σ H Q' := let ⟨⟨R, h1, h2⟩⟩ := h; ⟨⟨R, h1, fun v H' q => k v H' (h2 v H' q)⟩⟩
theorem WGs.of {e : List Expr} {v : List V} {Q : St → Hp → Prop} (h : WGs0 X e v σ H Q) : WGs X e v σ H Q := ⟨⟨Q, h, fun _ _ q => q⟩⟩
theorem WGs.mono {e : List Expr} {v : List V} {Q Q' : St → Hp → Prop} (h : WGs X e v σ H Q) (k : ∀ v H', Q v H' → Q' v H') : WGs X e v σ H Q' := let ⟨⟨R, h1, h2⟩⟩ := h; ⟨⟨R, h1, fun v H' q => k v H' (h2 v H' q)⟩⟩
theorem WI.of {e v : Expr} {Q : It → Hp → Prop} (h : WI0 X e v σ H Q) : WI X e v σ H Q := ⟨⟨Q, h, fun _ _ q => q⟩⟩
theorem WI.mono {e v : Expr} {Q Q' : It → Hp → Prop} (h : WI X e v σ H Q) (k : ∀ v H', Q v H' → Q' v H') : WI X e v σ H Q' := let ⟨⟨R, h1, h2⟩⟩ := h; ⟨⟨R, h1, fun v H' q => k v H' (h2 v H' q)⟩⟩
theorem WS.of {e : Stmt} {nx bk ct : St → Hp → Prop} {rt : VK} (h : WS0 X e nx rt bk ct σ H) : WS X e nx rt bk ct σ H := ⟨⟨nx, rt, bk, ct, h, fun _ _ q => q, fun _ _ q => q, fun _ _ q => q, fun _ _ q => q⟩⟩
theorem WS.mono {e : Stmt} {nx bk ct nx' bk' ct' : St → Hp → Prop} {rt rt' : VK} (h : WS X e nx rt bk ct σ H) (k1 : ∀ a b, nx a b → nx' a b) (k2 : ∀ a b, rt a b → rt' a b) (k3 : ∀ a b, bk a b → bk' a b) (k4 : ∀ a b, ct a b → ct' a b) : WS X e nx' rt' bk' ct' σ H :=
  let ⟨⟨n, r, b, c, h, h1, h2, h3, h4⟩⟩ := h; ⟨⟨n, r, b, c, h, fun x y q => k1 x y (h1 x y q), fun x y q => k2 x y (h2 x y q), fun x y q => k3 x y (h3 x y q), fun x y q => k4 x y (h4 x y q)⟩⟩
theorem WB.of {e : List Stmt} {nx bk ct : St → Hp → Prop} {rt : VK} (h : WB0 X e nx rt bk ct σ H) : WB X e nx rt bk ct σ H := ⟨⟨nx, rt, bk, ct, h, fun _ _ q => q, fun _ _ q => q, fun _ _ q => q, fun _ _ q => q⟩⟩
theorem WB.mono {e : List Stmt} {nx bk ct nx' bk' ct' : St → Hp → Prop} {rt rt' : VK} (h : WB X e nx rt bk ct σ H) (k1 : ∀ a b, nx a b → nx' a b) (k2 : ∀ a b, rt a b → rt' a b) (k3 : ∀ a b, bk a b → bk' a b) (k4 : ∀ a b, ct a b → ct' a b) : WB X e nx' rt' bk' ct' σ H :=
  let ⟨⟨n, r, b, c, h, h1, h2, h3, h4⟩⟩ := h; ⟨⟨n, r, b, c, h, fun x y q => k1 x y (h1 x y q), fun x y q => k2 x y (h2 x y q), fun x y q => k3 x y (h3 x y q), fun x y q => k4 x y (h4 x y q)⟩⟩
theorem ep_mono {X : Cx} {pins : List (Addr × Obj)} {Q Q' : VK} {u : Value} {s : Shared} (h : EP X pins σ Q u s) (k : ∀ v H', Q v H' → Q' v H') : EP X pins σ Q' u s := let ⟨v, H', I, r, q⟩ := h; ⟨v, H', I, r, k _ _ q⟩
theorem tp_mono {X : Cx} {pins : List (Addr × Obj)} {Q Q' : Bool → Hp → Prop} {u : Bool} {s : Shared} (h : TP X pins σ Q u s) (k : ∀ v H', Q v H' → Q' v H') : TP X pins σ Q' u s := let ⟨H', I, q⟩ := h; ⟨H', I, k _ _ q⟩
theorem ap_mono {X : Cx} {pins : List (Addr × Obj)} {Q Q' : List V → Hp → Prop} {u : List Value} {s : Shared} (h : AP X pins σ Q u s) (k : ∀ v H', Q v H' → Q' v H') : AP X pins σ Q' u s := let ⟨v, H', I, r, q⟩ := h; ⟨v, H', I, r, k _ _ q⟩
theorem sp_mono {X : Cx} {pins : List (Addr × Obj)} {D D' : Ends} {f : Flow} {s : Shared} (h : SP X pins D f s) (k1 : ∀ a b, D.nx a b → D'.nx a b) (k2 : ∀ a b, D.rt a b → D'.rt a b) (k3 : ∀ a b, D.bk a b → D'.bk a b) (k4 : ∀ a b, D.ct a b → D'.ct a b) : SP X pins D' f s := by
  cases f with
  | next => exact let ⟨σ, H, I, q⟩ := h; ⟨σ, H, I, k1 _ _ q⟩
  | brk => exact let ⟨σ, H, I, q⟩ := h; ⟨σ, H, I, k3 _ _ q⟩
  | cont => exact let ⟨σ, H, I, q⟩ := h; ⟨σ, H, I, k4 _ _ q⟩
  | ret u => exact let ⟨v, σ, H, I, r, q⟩ := h; ⟨v, σ, H, I, r, k2 _ _ q⟩
theorem pe_W {e : Expr} (i : ι) : PE (X i) e (WE X e) := ⟨fun pins s σ H Q I ⟨⟨_, ⟨_, h, q⟩, k⟩⟩ => thn ((h i).run pins s σ H _ I q) fun _ _ z => ep_mono z k⟩
theorem pt_W {e : Expr} (i : ι) : PT (X i) e (WT X e) := ⟨fun pins s σ H Q I ⟨⟨_, ⟨_, h, q⟩, k⟩⟩ => thn ((h i).run pins s σ H _ I q) fun _ _ z => tp_mono z k⟩
theorem pw_W {e : Expr} (i : ι) : PW (X i) e (WW X e) := ⟨fun wh pins s σ H Q I ⟨⟨_, ⟨_, h, q⟩, k⟩⟩ => thn ((h i).run wh pins s σ H _ I q) fun _ _ z => tp_mono z k⟩
theorem pts_W {e : List Expr} (i : ι) : PTs (X i) e (WTs X e) := ⟨fun pins s σ H Q I ⟨⟨_, ⟨_, h, q⟩, k⟩⟩ => thn ((h i).run pins s σ H _ I q) fun _ _ z => tp_mono z k⟩
theorem pa_W {e : List Expr} (i : ι) : PA (X i) e (WA X e) := ⟨fun pos pins s σ H Q I ⟨⟨_, ⟨_, h, q⟩, k⟩⟩ => thn ((h i).run pos pins s σ H _ I q) fun _ _ z => ap_mono z k⟩
theorem pk_W {e : List Keyword} (i : ι) : PK (X i) e (WK X e) := ⟨fun pos pins s σ H Q I ⟨⟨_, ⟨_, h, q⟩, k⟩⟩ => thn ((h i).run pos pins s σ H _ I q) fun _ _ z => ap_mono z k⟩
theorem po_W {e : Option Expr} (i : ι) : PO (X i) e (WO X e) := ⟨fun pins s σ H Q I ⟨⟨_, ⟨_, h, q⟩, k⟩⟩ => thn ((h i).run pins s σ H _ I q) fun _ _ ⟨o, H', I', p, z⟩ => ⟨o, H', I', p, k _ _ z⟩⟩
theorem ps_W {st : Stmt} (i : ι) : PS (X i) st (fun D σ H => WS X st D.nx D.rt D.bk D.ct σ H) := ⟨fun pins s σ H D I ⟨⟨_, _, _, _, ⟨_, h, q⟩, k1, k2, k3, k4⟩⟩ => thn ((h i).run pins s σ H _ I q) fun _ _ z => sp_mono z k1 k2 k3 k4⟩
theorem pss_W {st : List Stmt} (i : ι) : PSs (X i) st (fun D σ H => WB X st D.nx D.rt D.bk D.ct σ H) := ⟨fun pins s σ H D I ⟨⟨_, _, _, _, ⟨_, h, q⟩, k1, k2, k3, k4⟩⟩ => thn ((h i).run pins s σ H _ I q) fun _ _ z => sp_mono z k1 k2 k3 k4⟩
theorem pg_W {tg : Expr} (i : ι) : PG (X i) tg (WG X tg) := ⟨fun pins s σ H v u Q I r ⟨⟨_, ⟨_, h, q⟩, k⟩⟩ => thn ((h i).run pins s σ H v u _ I r q) fun _ _ ⟨σ', H', I', z⟩ => ⟨σ', H', I', k _ _ z⟩⟩
theorem pgs_W {tg : List Expr} (i : ι) : PGs (X i) tg (WGs X tg) := ⟨fun pins s σ H v u Q I r ⟨⟨_, ⟨_, h, q⟩, k⟩⟩ => thn ((h i).run pins s σ H v u _ I r q) fun _ _ ⟨σ', H', I', z⟩ => ⟨σ', H', I', k _ _ z⟩⟩
theorem pi_W {tg iter : Expr} (i : ι) : PI (X i) tg iter (WI X tg iter) := ⟨fun pins s σ H R I ⟨⟨_, ⟨_, h, q⟩, k⟩⟩ => thn ((h i).run pins s σ H _ I q) fun _ _ z => thn z fun _ _ ⟨it, fp, tn, J, H', e, I', T, t0, f, r⟩ => ⟨it, fp, tn, J, H', e, I', T, t0, f, k _ _ r⟩⟩
end
/-! ### a test's two ways (the readings' own if) -/
def Br (b : Bool) (A B : Prop) : Prop := if b = true then A else B
theorem Br.mk {b : Bool} {A B : Prop} (h1 : b = true → A) (h2 : b = false → B) : Br b A B := by
  cases b with
  | true => exact h1 rfl
  | false => exact h2 rfl
theorem Br.t {b : Bool} {A B : Prop} (h : b = true) (a : A) : Br b A B := by subst h; exact a
theorem Br.f {b : Bool} {A B : Prop} (h : b = false) (a : B) : Br b A B := by subst h; exact a

section rules
variable {ι : Type} {X : ι → Cx} {σ : St} {H : Hp} {Q : VK} {QT : Bool → Hp → Prop} {QA : List V → Hp → Prop} {K : PySem.W.Frag}
/-! ### expressions -/
theorem we_var (j : Nat) {x : Str} {pos : Pos} {v : V} (q : Q v H) (hs : σ[j]? = some (some v) := by rfl) (hN : ∀ i, (X i).N[j]? = some x := by intro _; rfl)
    (hv : ∀ i, Vis (X i).env.scope x := by intro _; first | exact Or.inl rfl | exact Or.inr (Or.inl rfl) | exact Or.inr (Or.inr rfl))
    (hd : (x == ("__debug__" : Str)) = false := by decide) (hcd : (x == ("__classdict__" : Str)) = false := by decide) : WE X (.Name x pos) σ H Q :=
  .of ⟨tVar j, fun i => pe_var (hN i) (hv i) hd hcd, v, hs, q⟩
theorem we_int {n : Int} {j pos} (q : Q (.int n) H) : WE X (.Constant (.int n) j pos) σ H Q := .of ⟨_, fun _ => pe_int, q⟩
theorem we_bl {n : Bool} {j pos} (q : Q (.bl n) H) : WE X (.Constant (.bool n) j pos) σ H Q := .of ⟨_, fun _ => pe_bl, q⟩
theorem we_non {j pos} (q : Q .non H) : WE X (.Constant .none j pos) σ H Q := .of ⟨_, fun _ => pe_non, q⟩
theorem we_str {x : Str} {j pos} (q : Q (.str x) H) : WE X (.Constant (.str x) j pos) σ H Q := .of ⟨_, fun _ => pe_str, q⟩
theorem we_glob {x : Str} {v : V} {u : Value} {pos : Pos} (hm : ∀ i, (X i).mg x = some u) (r : RelV v u) (q : Q v H) (hg : ∀ i, Gl (X i) x := by intro _; rfl) (hd : (x == ("__debug__" : Str)) = false := by decide) :
    WE X (.Name x pos) σ H Q := .of ⟨_, fun i => pe_glob (hg i) (hm i) r hd, q⟩
theorem we_bltn {x : Str} {v : V} {u : Value} {pos : Pos} (hm : ∀ i, (X i).mg x = none) (hv : bootBuiltins x = some u) (r : RelV v u) (q : Q v H) (hg : ∀ i, Gl (X i) x := by intro _; rfl) (hn : x ≠ "__name__" := by decide) (hd : (x == ("__debug__" : Str)) = false := by decide) :
    WE X (.Name x pos) σ H Q := .of ⟨_, fun i => pe_bltn (hg i) (hm i) hv r hn hd, q⟩
theorem we_op {op : Operator} {r : R2} {a b : Expr} {pos : Pos} (ho : ∀ i, OpR (X i) (binaryOp op) r) (h : WE X a σ H fun x H1 => WE X b σ H1 fun y H2 => r x y H2 Q) : WE X (.BinOp a op b pos) σ H Q :=
  .of ⟨tOp r (WE X a) (WE X b), fun i => pe_op (ho i) (pe_W i) (pe_W i), h⟩
theorem we_un {op : UnaryOp} {r : V → Hp → VK → Prop} {a : Expr} {pos : Pos} (ho : ∀ i, UnR (X i) (unaryOp op) r) (h : WE X a σ H fun x H1 => r x H1 Q) : WE X (.UnaryOp op a pos) σ H Q :=
  .of ⟨tUn r (WE X a), fun i => pe_un (ho i) (pe_W i), h⟩
theorem we_cmp {op : CmpOp} {r : R2} {a b : Expr} {pos : Pos} (ho : ∀ i, OpR (X i) (compareOp op) r) (hm : behindInMarks op b = false) (h : WE X a σ H fun x H1 => WE X b σ H1 fun y H2 => r x y H2 Q) : WE X (.Compare a [op] [b] pos) σ H Q :=
  .of ⟨tOp r (WE X a) (WE X b), fun i => pe_cmpR (ho i) (pe_W i) (pe_W i) hm, h⟩
theorem we_chain {op op' : CmpOp} {r r' : R2} {a b c : Expr} {pos : Pos} (ho : ∀ i, OpR (X i) (compareOp op) r) (ho' : ∀ i, OpR (X i) (compareOp op') r')
    (h : WE X a σ H fun x H1 => WE X b σ H1 fun y H2 => r x y H2 fun z H3 => ∃ k, z = .bl k ∧ Br k (WE X c σ H3 fun w' H4 => r' y w' H4 Q) (Q (.bl false) H3))
    (hm : lastMarks [op, op'] [b, c] = false := by with_unfolding_all rfl) : WE X (.Compare a [op, op'] [b, c] pos) σ H Q :=
  .of ⟨tChain r r' (WE X a) (WE X b) (WE X c), fun i => pe_chain (ho i) (ho' i) (pe_W i) (pe_W i) (pe_W i) hm, h⟩
theorem we_one {op} {a : Expr} {pos : Pos} (h : WE X a σ H Q) : WE X (.BoolOp op [a] pos) σ H Q := .of ⟨WE X a, fun i => pe_one (pe_W i), h⟩
theorem we_and {a b : Expr} {rest : List Expr} {pos : Pos} (h : WE X a σ H fun x H1 => ∃ c, x = .bl c ∧ Br c (WE X (.BoolOp .And (b :: rest) pos) σ H1 Q) (Q (.bl false) H1)) : WE X (.BoolOp .And (a :: b :: rest) pos) σ H Q :=
  .of ⟨tAndV (WE X a) (WE X (.BoolOp .And (b :: rest) pos)), fun i => pe_and (pe_W i) (pe_W i), h⟩
theorem we_or {a b : Expr} {rest : List Expr} {pos : Pos} (h : WE X a σ H fun x H1 => ∃ c, x = .bl c ∧ Br c (Q (.bl true) H1) (WE X (.BoolOp .Or (b :: rest) pos) σ H1 Q)) : WE X (.BoolOp .Or (a :: b :: rest) pos) σ H Q :=
  .of ⟨tOrV (WE X a) (WE X (.BoolOp .Or (b :: rest) pos)), fun i => pe_or (pe_W i) (pe_W i), h⟩
theorem we_not {a : Expr} {pos : Pos} (h : WE X a σ H fun x H1 => ∃ c, x = .bl c ∧ Q (.bl (!c)) H1) : WE X (.UnaryOp .Not a pos) σ H Q := .of ⟨tNotV (WE X a), fun i => pe_not (pe_W i), h⟩
theorem we_if {c a b : Expr} {pos : Pos} (h : WT X c σ H fun k H1 => Br k (WE X a σ H1 Q) (WE X b σ H1 Q)) : WE X (.IfExp c a b pos) σ H Q := .of ⟨tIf (WT X c) (WE X a) (WE X b), fun i => pe_ifExp (pt_W i) (pe_W i) (pe_W i), h⟩
theorem we_fld {e : Expr} {f : Str} {pos : Pos} (h : WE X e σ H fun x H1 => ∃ a C dx fs v, x = .ref a ∧ H1 a = some (.ins C dx fs) ∧ Cls K C ∧ NoAttr K C f ∧ fs.lookup f = some v ∧ Q v H1) (hK : ∀ i, (X i).K = K := by intro _; rfl)
    (hb : ∀ i, attributeBase e f (X i).env (eval e (X i).env) = eval e (X i).env := by intro _; rfl) : WE X (.Attribute e f pos) σ H Q :=
  .of ⟨tFld K (WE X e) f, fun i => hK i ▸ pe_fld (pe_W i) (hb i), h⟩
/-! ### arguments -/
theorem wa_nil (q : QA [] H) : WA X [] σ H QA := .of ⟨_, fun _ => pa_nil, q⟩
theorem wa_cons {e : Expr} {es : List Expr} (h : WE X e σ H fun x H1 => WA X es σ H1 fun xs H2 => QA (x :: xs) H2) (hs : ∀ i, starEach (e :: es) (X i).env = (false, eval e (X i).env) :: starEach es (X i).env := by intro _; rfl) : WA X (e :: es) σ H QA :=
  .of ⟨tCons (WE X e) (WA X es), fun i => pa_cons (pe_W i) (pa_W i) (hs i), h⟩
theorem wa_star {e : Expr} {es : List Expr} {p : Pos} (h : WE X e σ H fun x H1 => ∃ p xs, x = V.ref p ∧ (SqT K H1 p xs ∨ SqL K H1 p xs) ∧ WA X es σ H1 fun ys H2 => QA (xs ++ ys) H2) (hK : ∀ i, (X i).K = K := by intro _; rfl)
    (hs : ∀ i, starEach (.Starred e p :: es) (X i).env = (true, eval e (X i).env) :: starEach es (X i).env := by intro _; rfl) : WA X (.Starred e p :: es) σ H QA :=
  .of ⟨tStar K (WE X e) (WA X es), fun i => hK i ▸ pa_star (pe_W i) (pa_W i) (hs i), h⟩
theorem wk_nil (q : QA [] H) : WK X [] σ H QA := .of ⟨_, fun _ => pk_nil, q⟩
theorem we_tup {es : List Expr} {x1 : Nat} {pos : Pos} (h : WA X es σ H fun xs H1 => xs.length ≤ sizeLine ∧ ∀ p, H1 p = none → Q (.ref p) (upd H1 p (.tup xs))) : WE X (.Tuple es x1 pos) σ H Q := .of ⟨tTup (WA X es), fun i => pe_tup (pa_W i), h⟩
theorem we_lst {es : List Expr} {pos : Pos} (h : WA X es σ H fun xs H1 => xs.length ≤ sizeLine ∧ ∀ p, H1 p = none → Q (.ref p) (upd H1 p (.lst xs))) : WE X (.List es pos) σ H Q := .of ⟨tLst (WA X es), fun i => pe_lst (pa_W i), h⟩
/-! ### subscripts -/
theorem we_ixL {a b : Expr} {pos : Pos} (h : WE X a σ H fun x H1 => WE X b σ H1 fun y H2 => ∃ p xs i v, x = .ref p ∧ y = .int i ∧ SqL K H2 p xs ∧ atI xs i = some v ∧ Q v H2) (hK : ∀ i, (X i).K = K := by intro _; rfl) (hs : PlainIx b := by intro _ _; rfl) :
    WE X (.Subscript a b pos) σ H Q := .of ⟨tOp (rIxL K) (WE X a) (WE X b), fun i => hK i ▸ pe_ix ix_list (pe_W i) (pe_W i) hs, h⟩
theorem we_ixT {a b : Expr} {pos : Pos} (h : WE X a σ H fun x H1 => WE X b σ H1 fun y H2 => ∃ p xs i v, x = .ref p ∧ y = .int i ∧ SqT K H2 p xs ∧ atI xs i = some v ∧ Q v H2) (hK : ∀ i, (X i).K = K := by intro _; rfl) (hs : PlainIx b := by intro _ _; rfl) :
    WE X (.Subscript a b pos) σ H Q := .of ⟨tOp (rIxT K) (WE X a) (WE X b), fun i => hK i ▸ pe_ix ix_tup (pe_W i) (pe_W i) hs, h⟩
theorem we_ixS {a b : Expr} {pos : Pos} (h : WE X a σ H fun x H1 => WE X b σ H1 fun y H2 => ∃ z i c, x = .str z ∧ y = .int i ∧ z.length ≤ sizeLine ∧ atI z.cps.toList i = some c ∧ Q (.str ⟨#[c]⟩) H2) (hs : PlainIx b := by intro _ _; rfl) :
    WE X (.Subscript a b pos) σ H Q := .of ⟨tOp rIxS (WE X a) (WE X b), fun i => pe_ix ix_str (pe_W i) (pe_W i) hs, h⟩
theorem wo_none {QO : Option Int → Hp → Prop} (q : QO none H) : WO X none σ H QO := .of ⟨_, fun _ => po_none, q⟩
theorem wo_some {e : Expr} {QO : Option Int → Hp → Prop} (h : WE X e σ H fun x H1 => ∃ i, x = .int i ∧ QO (some i) H1) : WO X (some e) σ H QO := .of ⟨tPart (WE X e), fun i => po_some (pe_W i), h⟩
theorem we_slice {r : V → Option Int → Option Int → Hp → VK → Prop} {e : Expr} {lo hi : Option Expr} {p2 p3 : Pos} (hr : ∀ i, SlR (X i) r) (h : WE X e σ H fun x H1 => WO X lo σ H1 fun l H2 => WO X hi σ H2 fun u H3 => r x l u H3 Q) :
    WE X (.Subscript e (.Slice lo hi none p2) p3) σ H Q := .of ⟨tSl r (WE X e) (WO X lo) (WO X hi), fun i => pe_slice (hr i) (pe_W i) (po_W i) (po_W i), h⟩
theorem we_dget {o i : Expr} {pos : Pos} (hu : ∀ i, (X i).A.units + 1 < cLine) (h : WE X o σ H fun x H1 => WE X i σ H1 fun y H2 => ∃ a v, x = .ref a ∧ DGet H2 a y (some v) ∧ Q v H2) (hs : NoSl i := by intro _ _; rfl) : WE X (.Subscript o i pos) σ H Q :=
  .of ⟨tDGet (WE X o) (WE X i), fun j => pe_dget (hu j) (pe_W j) (pe_W j) hs, h⟩
theorem we_dget1 {o e : Expr} {apos cpos : Pos} (hu : ∀ i, (X i).A.units + 1 < cLine) (h : WE X o σ H fun x H1 => ∃ a, x = .ref a ∧ IsD H1 a ∧ WE X e σ H1 fun y H2 => ∃ o, DGet H2 a y o ∧ Q (o.getD .non) H2)
    (m : ∀ i, M1 (X i) o "get" apos e cpos := by intro _; exact ⟨rfl, rfl, rfl, rfl⟩) : WE X (.Call (.Attribute o "get" apos) [e] [] cpos) σ H Q :=
  .of ⟨tDGet1 (WE X o) (WE X e), fun j => pe_dget1 (hu j) (pe_W j) (pe_W j) (m j), h⟩
theorem we_dpop1 {o e : Expr} {apos cpos : Pos} (h : WE X o σ H fun x H1 => ∃ a, x = .ref a ∧ IsD H1 a ∧ WE X e σ H1 fun y H2 => ∃ kvs k v, H2 a = some (.dK kvs) ∧ y = kV k ∧ valV kvs k = some v ∧ Q v (upd H2 a (.dK (dropK kvs k))))
    (m : ∀ i, M1 (X i) o "pop" apos e cpos := by intro _; exact ⟨rfl, rfl, rfl, rfl⟩) : WE X (.Call (.Attribute o "pop" apos) [e] [] cpos) σ H Q :=
  .of ⟨tDPop1 (WE X o) (WE X e), fun j => pe_dpop1 (pe_W j) (pe_W j) (m j), h⟩
theorem we_dnew {pos : Pos} (q : ∀ p, H p = none → Q (.ref p) (upd H p (.dK []))) : WE X (.Dict [] [] pos) σ H Q := .of ⟨tDNewK, fun _ => pe_dnewK, q⟩
theorem we_din {i o : Expr} {pos : Pos} (hu : ∀ i, (X i).A.units + 1 < cLine) (h : WE X i σ H fun y H1 => WE X o σ H1 fun x H2 => ∃ a r, x = .ref a ∧ DGet H2 a y r ∧ Q (.bl r.isSome) H2) (h1 : behindInMarks .In o = false := by rfl) : WE X (.Compare i [.In] [o] pos) σ H Q :=
  .of ⟨tDIn (WE X i) (WE X o), fun j => pe_cmp (pc_din (hu j) (pe_W j) (pe_W j)) h1, h⟩
theorem we_dnotin {i o : Expr} {pos : Pos} (hu : ∀ i, (X i).A.units + 1 < cLine) (h : WE X i σ H fun y H1 => WE X o σ H1 fun x H2 => ∃ a r, x = .ref a ∧ DGet H2 a y r ∧ Q (.bl (!r.isSome)) H2) (h1 : behindInMarks .NotIn o = false := by rfl) : WE X (.Compare i [.NotIn] [o] pos) σ H Q :=
  .of ⟨tDNotIn (WE X i) (WE X o), fun j => pe_cmp (pc_dnotin (hu j) (pe_W j) (pe_W j)) h1, h⟩
/-! ### built-in functions and methods -/
theorem we_bf {x : Str} {id : String} {r : List V → Hp → VK → Prop} {e : Expr} {es : List Expr} {p pos : Pos} (hc : ∀ i, CallR (X i) (.builtin id) r) (hm : ∀ i, (X i).mg x = none) (hv : bootBuiltins x = some (.builtin id)) (h : WA X (e :: es) σ H fun vs H1 => r vs H1 Q)
    (hg : ∀ i, Gl (X i) x := by intro _; rfl) (hn : x ≠ "__name__" := by decide) (hdb : (x == ("__debug__" : Str)) = false := by decide)
    (he : ∀ i, starEach (e :: es) (X i).env = (false, eval e (X i).env) :: starEach es (X i).env := by intro _; rfl) (hpl : ∀ i, (backTo pos (starEach es (X i).env)).any (·.1) = false := by intro _; rfl) : WE X (.Call (.Name x p) (e :: es) [] pos) σ H Q :=
  .of ⟨tCB r (WA X (e :: es)), fun i => pe_callB (hc i) (hg i) (hm i) hv (pa_W i) hn hdb (he i) (hpl i), h⟩
theorem we_bt {x : Str} {T : String} {r : List V → Hp → VK → Prop} {e : Expr} {es : List Expr} {p pos : Pos} (hc : ∀ i, CallR (X i) (.type T) r) (hm : ∀ i, (X i).mg x = none) (hv : bootBuiltins x = some (.type T)) (h : WA X (e :: es) σ H fun vs H1 => r vs H1 Q)
    (hg : ∀ i, Gl (X i) x := by intro _; rfl) (hn : x ≠ "__name__" := by decide) (hdb : (x == ("__debug__" : Str)) = false := by decide)
    (he : ∀ i, starEach (e :: es) (X i).env = (false, eval e (X i).env) :: starEach es (X i).env := by intro _; rfl) (hpl : ∀ i, (backTo pos (starEach es (X i).env)).any (·.1) = false := by intro _; rfl) : WE X (.Call (.Name x p) (e :: es) [] pos) σ H Q :=
  .of ⟨tCB r (WA X (e :: es)), fun i => pe_callTy (hc i) (hg i) (hm i) hv (pa_W i) hn hdb (he i) (hpl i), h⟩
theorem we_bm {T id : String} {name : Str} {r : V → List V → Hp → VK → Prop} {o e : Expr} {es : List Expr} {apos cpos : Pos} (pa : PlainAttrs T) (slot : Slot T name id) (hty : typeOf (.builtin id) = pure (.type "method_descriptor")) (hm : ∀ i, MtR (X i) id r)
    (h : WE X o σ H fun x H1 => tyV K T x H1 ∧ WA X (e :: es) σ H1 fun xs H2 => r x xs H2 Q) (hK : ∀ i, (X i).K = K := by intro _; rfl)
    (hbase : ∀ i, attributeBase o name (X i).env (eval o (X i).env) = eval o (X i).env := by intro _; rfl)
    (hfew : ∀ i, ((backTo cpos (starEach (e :: es) (X i).env)).all (fun x => !x.1) && (backToKw cpos (keywordEach [] (X i).env)).all (fun x => x.1.isSome)
      && decide ((e :: es).length + ([] : List Keyword).length + (if ([] : List Keyword).isEmpty then 0 else 1) < 30)) = true := by intro _; rfl)
    (hline : (apos.endLine == cpos.line) = true := by rfl) (hs : ∀ i, starEach (e :: es) (X i).env = (false, eval e (X i).env) :: starEach es (X i).env := by intro _; rfl) (hplain : ∀ i, (backTo cpos (starEach es (X i).env)).any (·.1) = false := by intro _; rfl) :
    WE X (.Call (.Attribute o name apos) (e :: es) [] cpos) σ H Q :=
  .of ⟨tBM K T r (WE X o) (WA X (e :: es)), fun i => hK i ▸ pe_bm pa slot hty (hm i) (pe_W i) (pa_W i) (hbase i) (hfew i) hline (hs i) (hplain i), h⟩
/-! ### the program's own defs -/
/-- the name x is a def that keeps sp, by level k -/
def Cal (P : Program) (w : World) (K : PySem.W.Frag) (mg : Str → Option Value) (base : Heap) (x : Str) (k : Nat) (sp : Sp) : Prop :=
  ∃ (f : Addr) (fd : FuncData) (ps : List Str), FnOk P w K mg base CX0 k f fd ps sp ∧ mg x = some (.ref f) ∧ PySem.W.keepIn K (.ref f) = true ∧ Binds K fd ps []
/-- .. the method m of the class at C -/
def CalM (P : Program) (w : World) (K : PySem.W.Frag) (mg : Str → Option Value) (base : Heap) (C : Addr) (m : Str) (k : Nat) (sp : Sp) : Prop :=
  ∃ (f : Addr) (fd : FuncData) (ps : List Str), FnOk P w K mg base CX0 k f fd ps sp ∧ Meth K C m f ∧ Binds K fd ps []
/-- the contexts stand over this text -/
def At (X : Cx) (P : Program) (w : World) (K : PySem.W.Frag) (mg : Str → Option Value) (base : Heap) : Prop := X.prog = P ∧ X.w = w ∧ X.K = K ∧ X.mg = mg ∧ X.base = base
variable {P : Program} {w : World} {mg : Str → Option Value} {base : Heap}
theorem we_call {x : Str} {k m : Nat} {sp : Sp} {e : Expr} {es : List Expr} {p pos : Pos} (G : Cal P w K mg base x k sp) (hr : ∀ i, Room m (X i).A) (h : WA X (e :: es) σ H fun vs H1 => sp (vs ++ []) H1 Q E0) (hkm : k ≤ m := by decide)
    (hX : ∀ i, At (X i) P w K mg base := by intro _; exact ⟨rfl, rfl, rfl, rfl, rfl⟩) (hg : ∀ i, Gl (X i) x := by intro _; rfl) (hdb : (x == ("__debug__" : Str)) = false := by decide)
    (he : ∀ i, starEach (e :: es) (X i).env = (false, eval e (X i).env) :: starEach es (X i).env := by intro _; rfl) (hpl : ∀ i, (backTo pos (starEach es (X i).env)).any (·.1) = false := by intro _; rfl) : WE X (.Call (.Name x p) (e :: es) [] pos) σ H Q := by
  obtain ⟨f, fd, ps, F, hm, hk, hb⟩ := G
  refine .of ⟨tCall sp [] E0 (WA X (e :: es)), fun i => ?_, h⟩
  obtain ⟨e1, e2, e3, e4, e5⟩ := hX i
  subst e1 e2 e3 e4 e5
  exact pe_call F ((hr i).mono hkm) (hg i) hm hk hb .nil pass0 (pa_W i) hdb (he i) (hpl i)
theorem we_meth {C : Addr} {m : Str} {k n : Nat} {sp : Sp} {o e : Expr} {es : List Expr} {apos pos : Pos} (c : Cls K C) (G : CalM P w K mg base C m k sp) (hr : ∀ i, Room n (X i).A)
    (h : WE X o σ H fun x H1 => ∃ a dx fs, x = .ref a ∧ H1 a = some (.ins C dx fs) ∧ fs.lookup m = none ∧ WA X (e :: es) σ H1 fun vs H2 => sp (x :: (vs ++ [])) H2 Q E0) (hkm : k ≤ n := by decide)
    (hX : ∀ i, At (X i) P w K mg base := by intro _; exact ⟨rfl, rfl, rfl, rfl, rfl⟩)
    (hst : ∀ i, starEach (e :: es) (X i).env = (false, eval e (X i).env) :: starEach es (X i).env := by intro _; rfl) (hpl : ∀ i, (backTo pos (starEach es (X i).env)).any (·.1) = false := by intro _; rfl)
    (ht : ∀ i, ∃ pl : Sem Bool, eval (.Call (.Attribute o m apos) (e :: es) [] pos) (X i).env = (do
      let ov ← eval o (X i).env
      standAt apos.atName
      let (f, first) ← holding [ov] (getMethod ov m pl)
      callWith pos f first (backTo pos (starEach (e :: es) (X i).env)) (backToKw pos (keywordEach [] (X i).env))) := by intro _; exact ⟨_, rfl⟩) : WE X (.Call (.Attribute o m apos) (e :: es) [] pos) σ H Q := by
  obtain ⟨f, fd, ps, F, hm, hb⟩ := G
  refine .of ⟨tMeth C m sp [] E0 (WE X o) (WA X (e :: es)), fun i => ?_, h⟩
  obtain ⟨e1, e2, e3, e4, e5⟩ := hX i
  subst e1 e2 e3 e4 e5
  obtain ⟨pl, ht⟩ := ht i
  exact pe_meth (pl := pl) (pe_W i) c hm F ((hr i).mono hkm) hb .nil pass0 (pa_W i) (hst i) (hpl i) ht
theorem we_meth0 {C : Addr} {m : Str} {k n : Nat} {sp : Sp} {o : Expr} {apos pos : Pos} (c : Cls K C) (G : CalM P w K mg base C m k sp) (hr : ∀ i, Room n (X i).A)
    (h : WE X o σ H fun x H1 => ∃ a dx fs, x = .ref a ∧ H1 a = some (.ins C dx fs) ∧ fs.lookup m = none ∧ sp (x :: ([] ++ [])) H1 Q E0) (hkm : k ≤ n := by decide)
    (hX : ∀ i, At (X i) P w K mg base := by intro _; exact ⟨rfl, rfl, rfl, rfl, rfl⟩)
    (ht : ∀ i, ∃ pl : Sem Bool, eval (.Call (.Attribute o m apos) [] [] pos) (X i).env = (do
      let ov ← eval o (X i).env
      standAt apos.atName
      let (f, first) ← holding [ov] (getMethod ov m pl)
      callWith pos f first (backTo pos (starEach [] (X i).env)) (backToKw pos (keywordEach [] (X i).env))) := by intro _; exact ⟨_, rfl⟩) : WE X (.Call (.Attribute o m apos) [] [] pos) σ H Q := by
  obtain ⟨f, fd, ps, F, hm, hb⟩ := G
  refine .of ⟨tMeth C m sp [] E0 (WE X o) tNil, fun i => ?_, h⟩
  obtain ⟨e1, e2, e3, e4, e5⟩ := hX i
  subst e1 e2 e3 e4 e5
  obtain ⟨pl, ht⟩ := ht i
  exact pe_meth0 (pl := pl) (pe_W i) c hm F ((hr i).mono hkm) hb .nil pass0 ht
/-- a class that is made by its name, its __init__ -/
def CalC (P : Program) (w : World) (K : PySem.W.Frag) (mg : Str → Option Value) (base : Heap) (x : Str) (C : Addr) (k : Nat) (sp : Sp) : Prop :=
  ∃ (f : Addr) (fd : FuncData) (ps : List Str), FnOk P w K mg base CX0 k f fd ps sp ∧ Mk K C f ∧ mg x = some (.ref C) ∧ Binds K fd ps []
theorem we_make {x : Str} {C : Addr} {k n : Nat} {sp : Sp} {e : Expr} {es : List Expr} {p pos : Pos} (G : CalC P w K mg base x C k sp) (hr : ∀ i, Room n (X i).A)
    (h : WA X (e :: es) σ H fun vs H1 => ∀ x dx, H1 x = none → H1 dx = none → dx ≠ x → sp (.ref x :: (vs ++ [])) (upd (upd H1 dx (.own x)) x (.ins C dx [])) (fun v H2 => v = .non ∧ Q (.ref x) H2) E0) (hkm : k + 1 ≤ n := by decide)
    (hX : ∀ i, At (X i) P w K mg base := by intro _; exact ⟨rfl, rfl, rfl, rfl, rfl⟩) (hg : ∀ i, Gl (X i) x := by intro _; rfl) (hdb : (x == ("__debug__" : Str)) = false := by decide)
    (he : ∀ i, starEach (e :: es) (X i).env = (false, eval e (X i).env) :: starEach es (X i).env := by intro _; rfl) (hpl : ∀ i, (backTo pos (starEach es (X i).env)).any (·.1) = false := by intro _; rfl) : WE X (.Call (.Name x p) (e :: es) [] pos) σ H Q := by
  obtain ⟨f, fd, ps, F, M, hm, hb⟩ := G
  refine .of ⟨tMake C sp [] E0 (WA X (e :: es)), fun i => ?_, h⟩
  obtain ⟨e1, e2, e3, e4, e5⟩ := hX i
  subst e1 e2 e3 e4 e5
  exact pe_make M F ((hr i).mono hkm) (hg i) hm hb .nil pass0 (pa_W i) hdb (he i) (hpl i)
/-- a property -/
def CalP (P : Program) (w : World) (K : PySem.W.Frag) (mg : Str → Option Value) (base : Heap) (C : Addr) (f : Str) (k : Nat) (sp : Sp) : Prop :=
  ∃ (p g : Addr) (fd : FuncData) (ps : List Str), FnOk P w K mg base CX0 k g fd ps sp ∧ PropOf K C f p g ∧ Binds K fd ps []
theorem we_prop {C : Addr} {f : Str} {k n : Nat} {sp : Sp} {e : Expr} {pos : Pos} (c : Cls K C) (G : CalP P w K mg base C f k sp) (hr : ∀ i, Room n (X i).A)
    (h : WE X e σ H fun x H1 => ∃ a dx fs, x = .ref a ∧ H1 a = some (.ins C dx fs) ∧ sp (.ref a :: []) H1 Q E0) (hkm : k + 1 ≤ n := by decide)
    (hX : ∀ i, At (X i) P w K mg base := by intro _; exact ⟨rfl, rfl, rfl, rfl, rfl⟩) (hb : ∀ i, attributeBase e f (X i).env (eval e (X i).env) = eval e (X i).env := by intro _; rfl) : WE X (.Attribute e f pos) σ H Q := by
  obtain ⟨p, g, fd, ps, F, hp, hbd⟩ := G
  refine .of ⟨tProp C sp [] E0 (WE X e), fun i => ?_, h⟩
  obtain ⟨e1, e2, e3, e4, e5⟩ := hX i
  subst e1 e2 e3 e4 e5
  exact pe_prop (pe_W i) c hp F ((hr i).mono hkm) hbd .nil pass0 (hb i)
/-! ### tests -/
theorem wt_cmp {op : CmpOp} {r : R2} {a b : Expr} {pos : Pos} (ho : ∀ i, OpR (X i) (compareOp op) r) (hm : behindInMarks op b = false) (h : WE X a σ H fun x H1 => WE X b σ H1 fun y H2 => r x y H2 fun z H3 => ∃ k, z = .bl k ∧ QT k H3) : WT X (.Compare a [op] [b] pos) σ H QT :=
  .of ⟨tTest (tOp r (WE X a) (WE X b)), fun i => pt_cmpR (ho i) (pe_W i) (pe_W i) hm, h⟩
theorem wt_chain {op op' : CmpOp} {r r' : R2} {a b c : Expr} {pos : Pos} (ho : ∀ i, OpR (X i) (compareOp op) r) (ho' : ∀ i, OpR (X i) (compareOp op') r')
    (h : WE X a σ H fun x H1 => WE X b σ H1 fun y H2 => r x y H2 fun z H3 => ∃ k, z = .bl k ∧ Br k (WE X c σ H3 fun w' H4 => r' y w' H4 fun z H5 => ∃ k, z = .bl k ∧ QT k H5) (∃ k, V.bl false = .bl k ∧ QT k H3))
    (hm : lastMarks [op, op'] [b, c] = false := by with_unfolding_all rfl) : WT X (.Compare a [op, op'] [b, c] pos) σ H QT :=
  .of ⟨tTest (tChain r r' (WE X a) (WE X b) (WE X c)), fun i => pt_chain (ho i) (ho' i) (pe_W i) (pe_W i) (pe_W i) hm, h⟩
theorem wt_din {i o : Expr} {pos : Pos} (hu : ∀ i, (X i).A.units + 1 < cLine) (h : WE X i σ H fun y H1 => WE X o σ H1 fun x H2 => ∃ a r, x = .ref a ∧ DGet H2 a y r ∧ ∃ c, V.bl r.isSome = .bl c ∧ QT c H2) (h1 : behindInMarks .In o = false := by rfl) : WT X (.Compare i [.In] [o] pos) σ H QT :=
  .of ⟨tB (tDIn (WE X i) (WE X o)), fun j => pt_cmp (pc_din (hu j) (pe_W j) (pe_W j)) h1, h⟩
theorem wt_dnotin {i o : Expr} {pos : Pos} (hu : ∀ i, (X i).A.units + 1 < cLine) (h : WE X i σ H fun y H1 => WE X o σ H1 fun x H2 => ∃ a r, x = .ref a ∧ DGet H2 a y r ∧ ∃ c, V.bl (!r.isSome) = .bl c ∧ QT c H2) (h1 : behindInMarks .NotIn o = false := by rfl) : WT X (.Compare i [.NotIn] [o] pos) σ H QT :=
  .of ⟨tB (tDNotIn (WE X i) (WE X o)), fun j => pt_cmp (pc_dnotin (hu j) (pe_W j) (pe_W j)) h1, h⟩
theorem wt_val {e : Expr} (h : WE X e σ H fun x H1 => ∃ c, x = .bl c ∧ QT c H1) (he : ∀ i, ∀ whole, isTrue e (X i).env whole = (do let v ← whole; standAt e.pos; holding [v] (truthy v)) := by intro _ _; rfl) : WT X e σ H QT :=
  .of ⟨tB (WE X e), fun i => pt_val (pe_W i) (he i), h⟩
theorem wt_not {a : Expr} {pos : Pos} (h : WT X a σ H fun c H1 => QT (!c) H1) : WT X (.UnaryOp .Not a pos) σ H QT := .of ⟨tNot (WT X a), fun i => pt_not (pt_W i), h⟩
theorem wt_W {e : Expr} (h : WW X e σ H QT) : WT X e σ H QT := .of ⟨WW X e, fun i => (pw_W i).pt, h⟩
theorem ww_and1 {a : Expr} {pos : Pos} (h : WT X a σ H QT) : WW X (.BoolOp .And [a] pos) σ H QT := .of ⟨WT X a, fun i => pw_and1 (pt_W i), h⟩
theorem ww_or1 {a : Expr} {pos : Pos} (h : WT X a σ H QT) : WW X (.BoolOp .Or [a] pos) σ H QT := .of ⟨WT X a, fun i => pw_or1 (pt_W i), h⟩
theorem ww_and {a b : Expr} {rest : List Expr} {pos : Pos} (h : WT X a σ H fun c H1 => Br c (WW X (.BoolOp .And (b :: rest) pos) σ H1 QT) (QT false H1)) : WW X (.BoolOp .And (a :: b :: rest) pos) σ H QT :=
  .of ⟨tAnd (WT X a) (WW X (.BoolOp .And (b :: rest) pos)), fun i => pw_and (pt_W i) (pw_W i), h⟩
theorem ww_or {a b : Expr} {rest : List Expr} {pos : Pos} (h : WT X a σ H fun c H1 => Br c (QT true H1) (WW X (.BoolOp .Or (b :: rest) pos) σ H1 QT)) : WW X (.BoolOp .Or (a :: b :: rest) pos) σ H QT :=
  .of ⟨tOr (WT X a) (WW X (.BoolOp .Or (b :: rest) pos)), fun i => pw_or (pt_W i) (pw_W i), h⟩
theorem wts_nil (q : QT true H) : WTs X [] σ H QT := .of ⟨tYes, fun _ => pts_nil, q⟩
theorem wts_one {c : Expr} (h : WT X c σ H QT) : WTs X [c] σ H QT := .of ⟨WT X c, fun i => pts_one (pt_W i), h⟩
/-! ### targets -/
variable {QG : St → Hp → Prop} {v : V}
theorem wg_name (j : Nat) {x : Str} {pos : Pos} (q : QG (σ.set j (some v)) H) (hN : ∀ i, (X i).N.Nodup) (hi : ∀ i, (X i).N[j]? = some x := by intro _; rfl) (hx : ∀ i, Loc (X i).env.scope x := by intro _; first | exact Or.inl rfl | exact Or.inr rfl)
    (hf : ∀ i, (X i).fn x = true ∨ (X i).env.scope.names.lookup x = some .local := by intro _; first | exact .inl rfl | exact .inr rfl) : WG X (.Name x pos) v σ H QG := .of ⟨gName j, fun i => pg_name (hN i) (hi i) (hx i) (hf i), q⟩
theorem wgs_nil (q : QG σ H) : WGs X [] [] σ H QG := .of ⟨gNil, fun _ => pgs_nil, rfl, q⟩
theorem wgs_cons {e : Expr} {es : List Expr} {vs : List V} (h : WG X e v σ H fun σ' H' => WGs X es vs σ' H' QG) (hs : ∀ i, (assignEach (e :: es) (X i).env).map (·.2) = assign e (X i).env :: (assignEach es (X i).env).map (·.2) := by intro _; rfl) : WGs X (e :: es) (v :: vs) σ H QG :=
  .of ⟨gCons (WG X e) (WGs X es), fun i => pgs_cons (pg_W i) (pgs_W i) (hs i), v, vs, rfl, h⟩
theorem wg_tup {es : List Expr} {kk : Nat} {pos : Pos} {a : Addr} {xs : List V} {n : Nat} (hq : SqT K H a xs) (hl : xs.length = n) (h : WGs X es xs σ H QG) (hK : ∀ i, (X i).K = K := by intro _; rfl) (hc : ∀ i, (X i).calm = true := by intro _; rfl)
    (hn : ∀ i, (assignEach es (X i).env).length = n := by intro _; rfl) (hst : ∀ i, (assignEach es (X i).env).findIdx? (·.1) = none := by intro _; rfl) : WG X (.Tuple es kk pos) (.ref a) σ H QG :=
  .of ⟨gTup K n (WGs X es), fun i => hK i ▸ pg_tup (hc i) (pgs_W i) (hn i) (hst i), a, xs, rfl, hq, hl, h⟩
theorem wg_setL {o i : Expr} {pos : Pos} (h : WE X o σ H fun o H1 => WE X i σ H1 fun i H2 => ∃ p xs k j, o = .ref p ∧ i = .int k ∧ H2 p = some (.lst xs) ∧ ixN xs.length k = some j ∧ QG σ (upd H2 p (.lst (xs.set j v))))
    (ha : ∀ j, ∀ v, assign (.Subscript o i pos) (X j).env v = (do
      let ov ← holding [v] (eval o (X j).env)
      let iv ← holding [v, ov] (eval i (X j).env)
      standAt pos
      holding [v, ov, iv] (setItem ov iv v)
      release [v, ov, iv] []) := by intro _ _; rfl) : WG X (.Subscript o i pos) v σ H QG := .of ⟨gSub (WE X o) (WE X i) rSetL, fun j => pg_sub (pe_W j) (pe_W j) set_list (ha j), h⟩
/-! ### statements -/
variable {nx bk ct : St → Hp → Prop} {rt : VK}
theorem wb_nil (q : nx σ H) : WB X [] nx rt bk ct σ H := .of ⟨tNext, fun _ => pss_nil, q⟩
theorem wb_cons {st : Stmt} {rest : List Stmt} (h : WS X st (fun σ' H' => WB X rest nx rt bk ct σ' H') rt bk ct σ H) : WB X (st :: rest) nx rt bk ct σ H :=
  .of ⟨tSeq (fun D σ H => WS X st D.nx D.rt D.bk D.ct σ H) (fun D σ H => WB X rest D.nx D.rt D.bk D.ct σ H), fun i => pss_cons (ps_W i) (pss_W i), h⟩
theorem wb_one {st : Stmt} (h : WS X st nx rt bk ct σ H) : WB X [st] nx rt bk ct σ H := .of ⟨fun D σ H => WS X st D.nx D.rt D.bk D.ct σ H, fun i => pss_one (ps_W i), h⟩
theorem ws_expr {e : Expr} {pos : Pos} (h : WE X e σ H fun _ H1 => nx σ H1) (hs : ∀ i, swapsWith e none pos.line (X i).env = pure false := by intro _; rfl) : WS X (.Expr e pos) nx rt bk ct σ H := .of ⟨tDrop (WE X e), fun i => ps_expr (pe_W i) (hs i), h⟩
theorem ws_ret {e : Expr} {pos : Pos} (h : WE X e σ H rt) : WS X (.Return (some e) pos) nx rt bk ct σ H := .of ⟨tRet (WE X e), fun i => ps_ret (pe_W i), h⟩
theorem ws_if {c : Expr} {a b : List Stmt} {pos : Pos} (h : WT X c σ H fun k H1 => Br k (WB X a nx rt bk ct σ H1) (WB X b nx rt bk ct σ H1)) : WS X (.If c a b pos) nx rt bk ct σ H :=
  .of ⟨tIfS (WT X c) (fun D σ H => WB X a D.nx D.rt D.bk D.ct σ H) (fun D σ H => WB X b D.nx D.rt D.bk D.ct σ H), fun i => ps_if (pt_W i) (pss_W i) (pss_W i), h⟩
theorem ws_set (j : Nat) {x : Str} {e : Expr} {pos pos' : Pos} (h : WE X e σ H fun v H1 => nx (σ.set j (some v)) H1) (hN : ∀ i, (X i).N.Nodup) (hi : ∀ i, (X i).N[j]? = some x := by intro _; rfl) (hx : ∀ i, Loc (X i).env.scope x := by intro _; first | exact Or.inl rfl | exact Or.inr rfl)
    (hs : ∀ i, swapsWith e (some (.Name x pos')) pos.line (X i).env = pure false := by intro _; rfl) (hf : ∀ i, (X i).fn x = true ∨ (X i).env.scope.names.lookup x = some .local := by intro _; first | exact .inl rfl | exact .inr rfl) : WS X (.Assign [.Name x pos'] e pos) nx rt bk ct σ H :=
  .of ⟨tAsg (WE X e) (gName j), fun i => L2.ps_set (hN i) (hi i) (hx i) (pe_W i) (hs i) (hf i), h⟩
theorem ws_asg {tg e : Expr} {pos : Pos} (h : WE X e σ H fun v H1 => WG X tg v σ H1 nx) (hs : ∀ i, swapsWithSole [tg] e pos.line (X i).env = pure false := by intro _; rfl) (hw : ∀ i, swappedStores [tg] e (X i).env = pure none := by intro _; rfl)
    (h1 : ∀ i, (assignEach [tg] (X i).env).map (·.2) = [assign tg (X i).env] := by intro _; rfl) : WS X (.Assign [tg] e pos) nx rt bk ct σ H := .of ⟨tAsg (WE X e) (WG X tg), fun i => ps_asg (pe_W i) (pg_W i) (hs i) (hw i) (h1 i), h⟩
theorem ws_par (i j : Nat) {x y : Str} {a b : Expr} {px py pt pos : Pos} {kt k2 pt2} (h : WA X [a, b] σ H fun vs H1 => ∃ v w, vs = [v, w] ∧ nx ((σ.set i (some v)).set j (some w)) H1) (hN : ∀ l, (X l).N.Nodup) (hij : i ≠ j := by decide)
    (hc : ∀ i, (X i).calm = true := by intro _; rfl) (hi : ∀ l, (X l).N[i]? = some x := by intro _; rfl) (hj : ∀ l, (X l).N[j]? = some y := by intro _; rfl)
    (hx : ∀ l, (X l).env.scope.names.lookup x = some .local := by intro _; rfl) (hy : ∀ l, (X l).env.scope.names.lookup y = some .local := by intro _; rfl)
    (hw : ∀ l, swappedStores [.Tuple [.Name x px, .Name y py] kt pt] (.Tuple [a, b] k2 pt2) (X l).env = pure (some [x, y]) := by intro _; rfl)
    (hs : ∀ l, swapsWithSole [.Tuple [.Name x px, .Name y py] kt pt] (.Tuple [a, b] k2 pt2) pos.line (X l).env = pure false := by intro _; rfl) :
    WS X (.Assign [.Tuple [.Name x px, .Name y py] kt pt] (.Tuple [a, b] k2 pt2) pos) nx rt bk ct σ H :=
  .of ⟨tPar i j (WA X [a, b]), fun l => ps_par (hc l) (hN l) (hi l) (hj l) hij (hx l) (hy l) (pa_W l) (hw l) (hs l), h⟩
theorem ws_par3 (i j l : Nat) {x y z : Str} {a b c : Expr} {px py pz pt pos : Pos} {kt k2 pt2} (h : WA X [a, b, c] σ H fun vs H1 => ∃ u v w, vs = [u, v, w] ∧ nx (((σ.set i (some u)).set j (some v)).set l (some w)) H1) (hN : ∀ l, (X l).N.Nodup)
    (hij : i ≠ j := by decide) (hil : i ≠ l := by decide) (hjl : j ≠ l := by decide)
    (hc : ∀ i, (X i).calm = true := by intro _; rfl) (hi : ∀ l, (X l).N[i]? = some x := by intro _; rfl) (hj : ∀ l, (X l).N[j]? = some y := by intro _; rfl) (hl : ∀ m, (X m).N[l]? = some z := by intro _; rfl)
    (hx : ∀ l, (X l).env.scope.names.lookup x = some .local := by intro _; rfl) (hy : ∀ l, (X l).env.scope.names.lookup y = some .local := by intro _; rfl) (hz : ∀ l, (X l).env.scope.names.lookup z = some .local := by intro _; rfl)
    (hw : ∀ l, swappedStores [.Tuple [.Name x px, .Name y py, .Name z pz] kt pt] (.Tuple [a, b, c] k2 pt2) (X l).env = pure (some [x, y, z]) := by intro _; rfl)
    (hs : ∀ l, swapsWithSole [.Tuple [.Name x px, .Name y py, .Name z pz] kt pt] (.Tuple [a, b, c] k2 pt2) pos.line (X l).env = pure false := by intro _; rfl) :
    WS X (.Assign [.Tuple [.Name x px, .Name y py, .Name z pz] kt pt] (.Tuple [a, b, c] k2 pt2) pos) nx rt bk ct σ H :=
  .of ⟨tPar3 i j l (WA X [a, b, c]), fun m => ps_par3 (hc m) (hN m) (hi m) (hj m) (hl m) hij hil hjl (hx m) (hy m) (hz m) (pa_W m) (hw m) (hs m), h⟩
theorem ws_augAdd (j : Nat) {x : Str} {e : Expr} {pos pos' : Pos} {n : V} (h : WE X e σ H fun y H1 => ∃ i k, n = .int i ∧ y = .int k ∧ nx (σ.set j (some (.int (i + k)))) H1) (hN : ∀ i, (X i).N.Nodup) (hσ : σ[j]? = some (some n) := by rfl) (hi : ∀ i, (X i).N[j]? = some x := by intro _; rfl)
    (hx : ∀ i, Loc (X i).env.scope x := by intro _; first | exact Or.inl rfl | exact Or.inr rfl) (hf : ∀ i, (X i).fn x = true ∨ (X i).env.scope.names.lookup x = some .local := by intro _; first | exact .inl rfl | exact .inr rfl) : WS X (.AugAssign (.Name x pos') .Add e pos) nx rt bk ct σ H :=
  .of ⟨tAug j (WE X e) (ipI fun i j => i + j), fun i => ps_aug (hN i) (hi i) (hx i) (pe_W i) ip_add (hf i), n, hσ, h⟩
end rules
end Rn
/-! Loops, comprehensions, fields, dict stores for the calculus of RnWp. -/
namespace Rn
open PySem L2 StX

section
variable {ι : Type} {X : ι → Cx} {σ : St} {H : Hp} {Q : VK} {K : PySem.W.Frag} {nx bk ct : St → Hp → Prop} {rt : VK}
/-! ### stores -/
theorem ws_fld {o value : Expr} {f : Str} {pos pos' : Pos} (h : WE X value σ H fun y H1 => WE X o σ H1 fun x H2 => ∃ a C dx fs, x = .ref a ∧ H2 a = some (.ins C dx fs) ∧ Cls K C ∧ NoAttr K C f ∧ fs.length < 1000 ∧ nx σ (upd H2 a (.ins C dx (putF f y fs))))
    (hK : ∀ i, (X i).K = K := by intro _; rfl) (hs : ∀ i, swapsWith value (some (.Attribute o f pos')) pos.line (X i).env = pure false := by intro _; rfl) : WS X (.Assign [.Attribute o f pos'] value pos) nx rt bk ct σ H :=
  .of ⟨sFld K (WE X o) (WE X value) f, fun i => hK i ▸ L2.ps_fld (pe_W i) (pe_W i) (hs i), h⟩
theorem ws_fldaug {o value : Expr} {op : Operator} {f : Str} {pos tpos : Pos} {rd : V → V → Hp → VK → Prop} (hop : ∀ i, InOp (X i) op rd)
    (h : WE X o σ H fun x H1 => ∃ a C dx fs v, x = .ref a ∧ H1 a = some (.ins C dx fs) ∧ Cls K C ∧ NoAttr K C f ∧ fs.lookup f = some v ∧
      WE X value σ H1 fun y H2 => rd v y H2 fun z H3 => ∃ dx' fs', H3 a = some (.ins C dx' fs') ∧ fs'.length < 1000 ∧ nx σ (upd H3 a (.ins C dx' (putF f z fs'))))
    (hK : ∀ i, (X i).K = K := by intro _; rfl) : WS X (.AugAssign (.Attribute o f tpos) op value pos) nx rt bk ct σ H :=
  .of ⟨sFldAug K (WE X o) (WE X value) rd f, fun i => hK i ▸ ps_fldaug (pe_W i) (pe_W i) (hop i), h⟩
theorem ws_dput {o i value : Expr} {pos pos' : Pos} (hu : ∀ i, (X i).A.units + 1 < cLine) (h : WE X value σ H fun v H1 => WE X o σ H1 fun x H2 => WE X i σ H2 fun y H3 => ∃ a H4, x = .ref a ∧ DPut H3 a y v H4 ∧ nx σ H4)
    (hs : ∀ j, swapsWith value (some (.Subscript o i pos')) pos.line (X j).env = pure false := by intro _; rfl) : WS X (.Assign [.Subscript o i pos'] value pos) nx rt bk ct σ H :=
  .of ⟨sDPut (WE X o) (WE X i) (WE X value), fun j => ps_dput (hu j) (pe_W j) (pe_W j) (pe_W j) (hs j), h⟩
/-! ### what is walked -/
variable {R : It → Hp → Prop} {tg : Expr}
theorem wi_list {l : Expr} (h : WE X l σ H fun x H1 => ∃ a, x = .ref a ∧ (∃ xs, SqL K H1 a xs) ∧ R (Itl K a) H1) (hK : ∀ i, (X i).K = K := by intro _; rfl) : WI X tg l σ H R :=
  .of ⟨iList K (WE X l), fun i => hK i ▸ pi_list (pe_W i), h⟩
theorem wi_str {l : Expr} (h : WE X l σ H fun v H1 => ∃ x, v = .str x ∧ R (Its x) H1) : WI X tg l σ H R := .of ⟨iStr (WE X l), fun i => pi_str (pe_W i), h⟩
theorem wi_keys {l : Expr} (h : WE X l σ H fun x H1 => ∃ d o kvs, x = .ref d ∧ H1 d = some (.frz o (.dK kvs)) ∧ R (Itk d o kvs) H1) : WI X tg l σ H R :=
  .of ⟨iKeys (WE X l), fun i => pi_keys (pe_W i), h.mono fun _ _ ⟨d, o, kvs, e, e1, q⟩ => ⟨d, o, e, .inl ⟨kvs, e1, q⟩⟩⟩
theorem wi_values {l : Expr} {apos cpos : Pos} (h : WE X l σ H fun x H1 => ∃ d o kvs, x = .ref d ∧ H1 d = some (.frz o (.dK kvs)) ∧ R (Itd d o kvs) H1) (hb : ∀ i, attributeBase l "values" (X i).env (eval l (X i).env) = eval l (X i).env := by intro _; rfl)
    (hline : (apos.endLine == cpos.line) = true := by rfl) : WI X tg (.Call (.Attribute l "values" apos) [] [] cpos) σ H R := .of ⟨iVals (WE X l), fun i => pi_values (pe_W i) (hb i) hline, h⟩
theorem wi_items {l : Expr} {elts : List Expr} {kk : Nat} {tpos apos cpos : Pos} (h : WE X l σ H fun x H1 => ∃ d o kvs, x = .ref d ∧ H1 d = some (.frz o (.dK kvs)) ∧ R (Iti d o kvs) H1)
    (hb : ∀ i, attributeBase l "items" (X i).env (eval l (X i).env) = eval l (X i).env := by intro _; rfl) (hline : (apos.endLine == cpos.line) = true := by rfl) : WI X (.Tuple elts kk tpos) (.Call (.Attribute l "items" apos) [] [] cpos) σ H R :=
  .of ⟨iItems (WE X l), fun i => pi_items (pe_W i) (hb i) hline, h⟩
theorem wi_range1 {a : Expr} {p pos : Pos} (hm : ∀ i, (X i).mg "range" = none) (h : WA X [a] σ H fun vs H1 => ∃ j : Int, vs = [.int j] ∧ -(2 ^ 62) ≤ j ∧ j < 2 ^ 62 ∧ R (Itr 0 j.toNat) H1) (hg : ∀ i, Gl (X i) "range" := by intro _; rfl)
    (hs : ∀ i, starEach [a] (X i).env = [(false, eval a (X i).env)] := by intro _; rfl) :
    WI X tg (.Call (.Name "range" p) [a] [] pos) σ H R := .of ⟨iRng1 (WA X [a]), fun i => pi_range1 (hg i) (hm i) (pa_W i) (hs i), h⟩
theorem wi_range2 {a b : Expr} {p pos : Pos} (hm : ∀ i, (X i).mg "range" = none) (h : WA X [a, b] σ H fun vs H1 => ∃ i j : Int, vs = [.int i, .int j] ∧ (-(2 ^ 62) ≤ i ∧ i < 2 ^ 62 ∧ -(2 ^ 62) ≤ j ∧ j < 2 ^ 62) ∧ R (Itr i (j - i).toNat) H1) (hg : ∀ i, Gl (X i) "range" := by intro _; rfl)
    (hs : ∀ i, starEach [a, b] (X i).env = [(false, eval a (X i).env), (false, eval b (X i).env)] := by intro _; rfl) (hs2 : ∀ i, starEach [b] (X i).env = [(false, eval b (X i).env)] := by intro _; rfl) :
    WI X tg (.Call (.Name "range" p) [a, b] [] pos) σ H R := .of ⟨iRng2 (WA X [a, b]), fun i => pi_range2 (hg i) (hm i) (pa_W i) (hs i) (hs2 i), h⟩
/-! ### for, while -/
/-- a for of n turns: Pv ahead of the i-th -/
theorem ws_for {iter : Expr} {body : List Stmt} {pos : Pos}
    (h : WI X tg iter σ H fun J H1 => ∃ (n : Nat) (Pv : Nat → St → Hp → Prop), Pv 0 σ H1 ∧
      (∀ i σ H, i < n → Pv i σ H → J.go i H ∧ ∀ x H', J.yld i H x H' → WG X tg x σ H' fun σ2 H2 => WB X body (Pv (i + 1)) rt nx (Pv (i + 1)) σ2 H2) ∧ ∀ σ H, Pv n σ H → J.stop n H ∧ nx σ H)
    (hp : ∀ i, PassesOwn (model (X i).prog (X i).w) (X i).A (X i).env (X i).xe := by intro _; exact PassesOwn.never) (hc : ∀ i, (X i).calm = true := by intro _; rfl)
    (hs : ∀ i x, foldedSetIterable iter (X i).env x = pure x := by intro _ _; rfl) : WS X (.For tg iter body [] pos) nx rt bk ct σ H := by
  refine .of ⟨tFor (WI X tg iter) (WG X tg) (fun D σ H => WB X body D.nx D.rt D.bk D.ct σ H), fun i => ps_for (hp i) (hc i) (pi_W i) (pg_W i) (pss_W i) (hs i), h.mono ?_⟩
  rintro J H1 ⟨n, Pv, h0, hs, hd⟩
  refine ⟨fun i m σ H => m = n - i ∧ i ≤ n ∧ Pv i σ H, ⟨n, rfl, Nat.zero_le _, h0⟩, ?_⟩
  rintro i m σ H ⟨rfl, hi, p⟩
  by_cases hlt : i < n
  · obtain ⟨g1, g2⟩ := hs i σ H hlt p
    exact .inr ⟨g1, Pv (i + 1), fun σ' H' p' => ⟨n - (i + 1), by omega, rfl, hlt, p'⟩, g2⟩
  · obtain rfl : i = n := by omega
    exact .inl (hd σ H p)
/-- a while: Pv ahead of each turn, with a number that falls -/
theorem ws_while {c : Expr} {body : List Stmt} {pos : Pos} (Pv : Nat → St → Hp → Prop) (h0 : ∃ m, Pv m σ H)
    (hs : ∀ m σ H, Pv m σ H → WT X c σ H fun b H1 => Br b (WB X body (fun σ' H' => ∃ m', m' < m ∧ Pv m' σ' H') rt nx (fun σ' H' => ∃ m', m' < m ∧ Pv m' σ' H') σ H1) (nx σ H1))
    (hp : ∀ i, PassesOwn (model (X i).prog (X i).w) (X i).A (X i).env (X i).xe := by intro _; exact PassesOwn.never) : WS X (.While c body [] pos) nx rt bk ct σ H := by
  refine .of ⟨tWhile (WT X c) (fun D σ H => WB X body D.nx D.rt D.bk D.ct σ H), fun i => ps_while (hp i) (pt_W i) (pss_W i), Pv, h0, fun m σ H p => (hs m σ H p).mono ?_⟩
  rintro b H1 q
  cases b with
  | true => exact ⟨_, fun _ _ z => z, q⟩
  | false => exact q
/-! ### under a lock -/
theorem ws_lock {st : Stmt} {d : Addr} {kvs : List (Key × V)} (hd : H d = some (.dK kvs)) (h : ∀ od, WS X st (fun σ' H' => H' d = some (.frz od (.dK kvs)) ∧ nx σ' (upd H' d (.dK kvs))) (fun v H' => H' d = some (.frz od (.dK kvs)) ∧ rt v (upd H' d (.dK kvs)))
    (fun σ' H' => H' d = some (.frz od (.dK kvs)) ∧ bk σ' (upd H' d (.dK kvs))) (fun σ' H' => H' d = some (.frz od (.dK kvs)) ∧ ct σ' (upd H' d (.dK kvs))) σ (upd H d (.frz od (.dK kvs)))) : WS X st nx rt bk ct σ H :=
  .of ⟨tLock (fun D σ H => WS X st D.nx D.rt D.bk D.ct σ H), fun i => ps_lock (ps_W i), d, .dK kvs, hd, True.intro, h⟩
theorem we_lock {e : Expr} {d : Addr} {kvs : List (Key × V)} (hd : H d = some (.dK kvs)) (h : ∀ od, WE X e σ (upd H d (.frz od (.dK kvs))) fun v H' => H' d = some (.frz od (.dK kvs)) ∧ Q v (upd H' d (.dK kvs))) : WE X e σ H Q :=
  .of ⟨tLockE (WE X e), fun i => pe_lock (pe_W i), d, .dK kvs, hd, True.intro, h⟩
/-! ### comprehensions -/
/-- the contexts of a comprehension's block -/
abbrev blkF (X : ι → Cx) (scope : Scope) : ι × Shared × Hp × Addr × List (Str × Addr) × List Addr → Cx := fun p => (X p.1).blk p.2.1 p.2.2.1 scope (compEnvC scope p.2.2.2.2.1 p.2.2.2.1 (X p.1).env) p.2.2.2.2.2
/-- a comprehension of n turns: Pv ahead of the i-th, acc made so far in the list at D -/
theorem we_lc {elt iter : Expr} {ifs : List Expr} {scope : Scope} {pos : Pos} (own : List (Str × Nat)) (hN : ∀ i, (X i).N.Nodup) (ok : ∀ i, BlkOk (X i).N (X i).env.scope scope own)
    (h : WI X tg iter σ H fun J H1 => ∀ D, H1 D = none → ∃ (n : Nat) (Pv : Nat → List V → Hp → Prop), Pv 0 [] (upd H1 D (.lst [])) ∧
      (∀ i acc H, i < n → Pv i acc H → J.go i H ∧ ∀ x H', J.yld i H x H' → WG (blkF X scope) tg x (wipe σ (own.map (·.2))) H' fun σ2 H2 => wipe σ2 (own.map (·.2)) = wipe σ (own.map (·.2)) ∧ WTs (blkF X scope) ifs σ2 H2 fun b H3 =>
        Br b (WE (blkF X scope) elt σ2 H3 fun y H4 => H4 D = some (.lst acc) ∧ acc.length < sizeLine ∧ Pv (i + 1) (acc ++ [y]) (upd H4 D (.lst (acc ++ [y])))) (Pv (i + 1) acc H3)) ∧ ∀ acc H, Pv n acc H → J.stop n H ∧ Q (.ref D) H)
    (hc : ∀ i, (X i).calm = true := by intro _; rfl) (hs : ∀ i x, foldedSetIterable iter (X i).env x = pure x := by intro _ _; rfl) : WE X (.ListComp elt [⟨tg, iter, ifs, 0⟩] scope pos) σ H Q := by
  refine .of ⟨tLc (WI X tg iter) (WG (blkF X scope) tg) (WTs (blkF X scope) ifs) (WE (blkF X scope) elt) (own.map (·.2)), fun i => pe_lc (hc i) (hN i) (pi_W i) (ok i) (fun s H C cl fp => pg_W (X := blkF X scope) (i, s, H, C, cl, fp))
    (fun s H C cl fp => pts_W (X := blkF X scope) (i, s, H, C, cl, fp)) (fun s H C cl fp => pe_W (X := blkF X scope) (i, s, H, C, cl, fp)) (hs i), h.mono ?_⟩
  rintro J H1 h D hD
  obtain ⟨n, Pv, h0, hs, hd⟩ := h D hD
  refine ⟨fun i m H => m = n - i ∧ i ≤ n ∧ ∃ acc, Pv i acc H, ⟨n, rfl, Nat.zero_le _, [], h0⟩, ?_⟩
  rintro i m H ⟨rfl, hi, acc, p⟩
  by_cases hlt : i < n
  · obtain ⟨g1, g2⟩ := hs i acc H hlt p
    refine .inr ⟨g1, fun H => ∃ acc, Pv (i + 1) acc H, fun H' p' => ⟨n - (i + 1), by omega, rfl, hlt, p'⟩, fun x H' y => (g2 x H' y).mono ?_⟩
    rintro σ2 H2 ⟨e, q⟩
    refine ⟨e, q.mono ?_⟩
    rintro b H3 q
    cases b with
    | true => exact WE.mono q fun y H4 ⟨e1, e2, p⟩ => ⟨acc, e1, e2, acc ++ [y], p⟩
    | false => exact ⟨acc, q⟩
  · obtain rfl : i = n := by omega
    exact .inl (hd acc H p)
theorem ws_setLc (j : Nat) {y : Str} {py : Pos} {elt iter : Expr} {ifs : List Expr} {scope : Scope} {pos spos : Pos} (own : List (Str × Nat)) (hN : ∀ i, (X i).N.Nodup) (ok : ∀ i, BlkOk (X i).N (X i).env.scope scope own)
    (h : WI X tg iter σ H fun J H1 => ∀ D, H1 D = none → ∃ (n : Nat) (Pv : Nat → List V → Hp → Prop), Pv 0 [] (upd H1 D (.lst [])) ∧
      (∀ i acc H, i < n → Pv i acc H → J.go i H ∧ ∀ x H', J.yld i H x H' → WG (blkF X scope) tg x (wipe σ (own.map (·.2))) H' fun σ2 H2 => wipe σ2 (own.map (·.2)) = wipe σ (own.map (·.2)) ∧ WTs (blkF X scope) ifs σ2 H2 fun b H3 =>
        Br b (WE (blkF X scope) elt σ2 H3 fun y H4 => H4 D = some (.lst acc) ∧ acc.length < sizeLine ∧ Pv (i + 1) (acc ++ [y]) (upd H4 D (.lst (acc ++ [y])))) (Pv (i + 1) acc H3)) ∧ ∀ acc H, Pv n acc H → J.stop n H ∧ nx (σ.set j (some (.ref D))) H)
    (hc : ∀ i, (X i).calm = true := by intro _; rfl) (hy : ∀ i, (X i).N[j]? = some y := by intro _; rfl) (hyl : ∀ i, (X i).env.scope.names.lookup y = some .local := by intro _; rfl)
    (hsw : ∀ i, swapsWith (.ListComp elt [⟨tg, iter, ifs, 0⟩] scope pos) (some (.Name y py)) spos.line (X i).env = pure true := by intro _; exact sw_true rfl rfl rfl (by decide +kernel))
    (hs : ∀ i x, foldedSetIterable iter (X i).env x = pure x := by intro _ _; rfl) : WS X (.Assign [.Name y py] (.ListComp elt [⟨tg, iter, ifs, 0⟩] scope pos) spos) nx rt bk ct σ H := by
  refine .of ⟨tAsg (tLc (WI X tg iter) (WG (blkF X scope) tg) (WTs (blkF X scope) ifs) (WE (blkF X scope) elt) (own.map (·.2))) (gName j), fun i => L2.ps_setLc (hc i) (hN i) (hy i) (hyl i) (hsw i) (pi_W i) (ok i) (fun s H C cl fp => pg_W (X := blkF X scope) (i, s, H, C, cl, fp))
    (fun s H C cl fp => pts_W (X := blkF X scope) (i, s, H, C, cl, fp)) (fun s H C cl fp => pe_W (X := blkF X scope) (i, s, H, C, cl, fp)) (hs i), h.mono ?_⟩
  rintro J H1 h D hD
  obtain ⟨n, Pv, h0, hs, hd⟩ := h D hD
  refine ⟨fun i m H => m = n - i ∧ i ≤ n ∧ ∃ acc, Pv i acc H, ⟨n, rfl, Nat.zero_le _, [], h0⟩, ?_⟩
  rintro i m H ⟨rfl, hi, acc, p⟩
  by_cases hlt : i < n
  · obtain ⟨g1, g2⟩ := hs i acc H hlt p
    refine .inr ⟨g1, fun H => ∃ acc, Pv (i + 1) acc H, fun H' p' => ⟨n - (i + 1), by omega, rfl, hlt, p'⟩, fun x H' y => (g2 x H' y).mono ?_⟩
    rintro σ2 H2 ⟨e, q⟩
    refine ⟨e, q.mono ?_⟩
    rintro b H3 q
    cases b with
    | true => exact WE.mono q fun y H4 ⟨e1, e2, p⟩ => ⟨acc, e1, e2, acc ++ [y], p⟩
    | false => exact ⟨acc, q⟩
  · obtain rfl : i = n := by omega
    exact .inl (hd acc H p)
/-- a dict comprehension of n turns -/
theorem we_dc {kx vx iter : Expr} {ifs : List Expr} {scope : Scope} {pos : Pos} (own : List (Str × Nat)) (hN : ∀ i, (X i).N.Nodup) (ok : ∀ i, BlkOk (X i).N (X i).env.scope scope own)
    (h : WI X tg iter σ H fun J H1 => ∀ D, H1 D = none → ∃ (n : Nat) (Pv : Nat → List (Key × V) → Hp → Prop), Pv 0 [] (upd H1 D (.dK [])) ∧
      (∀ i acc H, i < n → Pv i acc H → J.go i H ∧ ∀ x H', J.yld i H x H' → WG (blkF X scope) tg x (wipe σ (own.map (·.2))) H' fun σ2 H2 => wipe σ2 (own.map (·.2)) = wipe σ (own.map (·.2)) ∧ WTs (blkF X scope) ifs σ2 H2 fun b H3 =>
        Br b (WE (blkF X scope) kx σ2 H3 fun y H4 => WE (blkF X scope) vx σ2 H4 fun z H5 => ∃ k, y = kV k ∧ H5 D = some (.dK acc) ∧ acc.length < sizeLine ∧ Pv (i + 1) (putK acc k z) (upd H5 D (.dK (putK acc k z)))) (Pv (i + 1) acc H3)) ∧ ∀ acc H, Pv n acc H → J.stop n H ∧ Q (.ref D) H)
    (hc : ∀ i, (X i).calm = true := by intro _; rfl) (hs : ∀ i x, foldedSetIterable iter (X i).env x = pure x := by intro _ _; rfl) : WE X (.DictComp kx vx [⟨tg, iter, ifs, 0⟩] scope pos) σ H Q := by
  refine .of ⟨tDc (WI X tg iter) (WG (blkF X scope) tg) (WTs (blkF X scope) ifs) (WE (blkF X scope) kx) (WE (blkF X scope) vx) (own.map (·.2)), fun i => pe_dc (hc i) (hN i) (pi_W i) (ok i) (fun s H C cl fp => pg_W (X := blkF X scope) (i, s, H, C, cl, fp))
    (fun s H C cl fp => pts_W (X := blkF X scope) (i, s, H, C, cl, fp)) (fun s H C cl fp => pe_W (X := blkF X scope) (i, s, H, C, cl, fp)) (fun s H C cl fp => pe_W (X := blkF X scope) (i, s, H, C, cl, fp)) (hs i), h.mono ?_⟩
  rintro J H1 h D hD
  obtain ⟨n, Pv, h0, hs, hd⟩ := h D hD
  refine ⟨fun i m H => m = n - i ∧ i ≤ n ∧ ∃ acc, Pv i acc H, ⟨n, rfl, Nat.zero_le _, [], h0⟩, ?_⟩
  rintro i m H ⟨rfl, hi, acc, p⟩
  by_cases hlt : i < n
  · obtain ⟨g1, g2⟩ := hs i acc H hlt p
    refine .inr ⟨g1, fun H => ∃ acc, Pv (i + 1) acc H, fun H' p' => ⟨n - (i + 1), by omega, rfl, hlt, p'⟩, fun x H' y => (g2 x H' y).mono ?_⟩
    rintro σ2 H2 ⟨e, q⟩
    refine ⟨e, q.mono ?_⟩
    rintro b H3 q
    cases b with
    | true => exact WE.mono q fun y H4 r => WE.mono r fun z H5 ⟨k, e0, e1, e2, p⟩ => ⟨acc, k, e0, e1, e2, putK acc k z, p⟩
    | false => exact ⟨acc, q⟩
  · obtain rfl : i = n := by omega
    exact .inl (hd acc H p)
end
end Rn
/-! min(xs, default=None) of a list of ints, perhaps empty. -/
namespace Rn
open PySem L2 StX PyProof.Rows

/-- the best place so far, a further one looked at -/
def better (bt : Nat → Nat → Bool) (b : Option Nat) (i : Nat) : Option Nat := match b with
  | none => some i
  | some j => if bt i j = true then some i else some j
def heldBy (b : Option (Nat × Value)) : Array Value := match b with
  | none => #[]
  | some p => #[p.2, p.2]
def dKw : List (Str × Value) := [(Str.ofString "default", Value.none)]
theorem min_argsD (a : Value) : argsOk "min" ⟨[a], [(Str.ofString "default", Value.none)]⟩ := by unfold argsOk; kernel_rfl

section
variable {prog : Program} {w : World} {A : Around} {R : Result → Shared → Prop} {it : Addr} {fp wr : List Addr} {n : Nat} {P : Nat → Value → Prop} {St : Nat → Heap → Prop}
theorem minD_loop (wk : Walks prog w A.in1 it fp wr n P St) (bt : Nat → Nat → Bool) (cmp : CmpOf prog w A.in1 .Lt P bt) (bx : Addr) (nfp : bx ∉ fp) :
    ∀ (k i : Nat) (s : Shared) (b : Option (Nat × Value)) (c : Nat), i + k = n → St i s.heap → (∀ p, b = some p → P p.1 p.2) →
      s.heap.get? bx = some { cls := .type "list", dict := none, data := .seq (heldBy b) c, slots := #[] } →
      (∀ v h' tk, (match (List.range' i k).foldl (better bt) (b.map (·.1)) with | none => v = Value.none | some j => P j v) → (∀ a o, a ∉ wr → a ≠ bx → s.heap.get? a = some o → h'.get? a = some o) → R (.ok (.ret v)) { s with heap := h', toks := tk }) →
      codeAny (model prog w) A (.builtin "min.loop" ⟨[.ref it, .none, .ref bx], dKw⟩) R s := by
  have nwr : bx ∉ wr := fun m => nfp (wk.sub _ m)
  have nm : (toString "min" ++ toString ".loop" : String) = "min.loop" := by decide
  intro k
  induction k with
  | zero =>
    intro i s b c ei hst hP hbx fin
    refine codeAny_builtin F.entry_min_loop ?_
    rw [Around.under_plainId F.plain_min_loop _]
    show wpAny _ A.in1 (seqItems? (.ref bx) >>= _) _ _ s
    refine wpAny_bind (wpAny_seqItems hbx rfl ?_)
    show wpAny _ A.in1 (tryCatch (pyNext (.ref it)) _ >>= _) _ _ s
    have en : i = n := by omega
    refine wpAny_bind (wpAny_tryCatch (wk.done s _ _ (en ▸ hst) fun h' tk keep => ?_))
    cases b with
    | none =>
      show wpAny _ A.in1 (rule _ >>= _) _ _ _
      exact wpAny_bind (wpAny_rule (wpAny_pure (fin Value.none h' tk rfl fun a o m _ e => keep a o m e)))
    | some p =>
      have hbx' := keep bx _ nwr hbx
      show wpAny _ A.in1 (updateSeq bx (fun _ => #[]) >>= _) _ _ _
      refine wpAny_bind (wpAny_updateSeq (hz := (by show 2 ≤ sizeLine; decide)) hbx' rfl (wpAny_bind (wpAny_letGo (wpAny_pure ?_))))
      exact fin p.2 _ tk (hP p rfl) fun a o m ne e => (Heap.get?_update_other _ _ (Ne.symm ne)).trans (keep a o m e)
  | succ k ih =>
    intro i s b c ei hst hP hbx fin
    refine codeAny_builtin F.entry_min_loop ?_
    rw [Around.under_plainId F.plain_min_loop _]
    show wpAny _ A.in1 (seqItems? (.ref bx) >>= _) _ _ s
    refine wpAny_bind (wpAny_seqItems hbx rfl ?_)
    show wpAny _ A.in1 (tryCatch (pyNext (.ref it)) _ >>= _) _ _ s
    refine wpAny_bind (wpAny_tryCatch (wk.item i s _ _ (by omega) hst fun v h' tk hv hst' keep => ?_))
    have hbx' := keep bx _ nwr hbx
    have upd' : ∀ g : Array Value → Array Value, ∀ a o, a ∈ fp → h'.get? a = some o → (h'.update bx (fun ob => { ob with data := .seq (g #[]) c })).get? a = some o := fun g a o m e => (Heap.get?_update_other _ _ (fun z : bx = a => nfp (by rw [z]; exact m))).trans e
    cases b with
    | none =>
      show wpAny _ A.in1 (updateSeq bx (fun _ => #[v, v]) >>= _) _ _ _
      refine wpAny_bind (wpAny_updateSeq hbx' rfl ?_)
      rw [nm]
      refine wpAny_pure ⟨plainId_quiet F.plain_min_loop _, ih (i + 1) _ (some (i, v)) _ (by omega) (wk.frame _ _ _ hst' fun a m o e => ?_) (fun p e => ?_) (Heap.get?_update_self _ hbx' rfl) fun v' h2 tk2 q keep2 => ?_⟩
      · exact (Heap.get?_update_other _ _ (fun z : bx = a => nfp (by rw [z]; exact m))).trans e
      · cases e; exact hv
      · exact fin v' h2 tk2 (by rw [List.range'_succ]; exact q) fun a o m ne e => keep2 a o m ne ((Heap.get?_update_other _ _ (Ne.symm ne)).trans (keep a o m e))
    | some p =>
      have hp := hP p rfl
      show wpAny _ A.in1 (tryCatch (holding [v, v] (richCompare .Lt v p.2 >>= _)) _ >>= _) _ _ _
      refine wpAny_bind (wpAny_tryCatch (wpAny_holding (wpAny_bind (cmp i p.1 v p.2 _ _ _ hv hp ?_))))
      refine wpAny_bind (wpAny_holding (wpAny_truthy_bool (wpAny_bind (wpAny_letGo (wpAny_pure ?_)))))
      cases hb : bt i p.1 with
      | true =>
        simp only [if_true]
        refine wpAny_bind (wpAny_updateSeq (hz := (by show 2 ≤ sizeLine; decide)) hbx' rfl (wpAny_bind (wpAny_letGo ?_)))
        rw [nm]
        refine wpAny_pure ⟨plainId_quiet F.plain_min_loop _, ih (i + 1) _ (some (i, v)) _ (by omega) (wk.frame _ _ _ hst' fun a m o e => ?_) (fun p' e => ?_) (Heap.get?_update_self _ hbx' rfl) fun v' h2 tk2 q keep2 => ?_⟩
        · exact (Heap.get?_update_other _ _ (fun z : bx = a => nfp (by rw [z]; exact m))).trans e
        · cases e; exact hv
        · refine fin v' h2 tk2 ?_ fun a o m ne e => keep2 a o m ne ((Heap.get?_update_other _ _ (Ne.symm ne)).trans (keep a o m e))
          rw [List.range'_succ]
          show (match (List.range' (i + 1) k).foldl (better bt) (better bt (some p.1) i) with | none => v' = Value.none | some j => P j v')
          rw [show better bt (some p.1) i = some i from by unfold better; simp only [hb, if_true]]
          exact q
      | false =>
        simp only [Bool.false_eq_true, if_false]
        refine wpAny_bind (wpAny_letGo ?_)
        rw [nm]
        refine wpAny_pure ⟨plainId_quiet F.plain_min_loop _, ih (i + 1) _ (some p) c (by omega) hst' (fun p' e => by cases e; exact hp) hbx' fun v' h2 tk2 q keep2 => ?_⟩
        refine fin v' h2 tk2 ?_ fun a o m ne e => keep2 a o m ne (keep a o m e)
        rw [List.range'_succ]
        show (match (List.range' (i + 1) k).foldl (better bt) (better bt (some p.1) i) with | none => v' = Value.none | some j => P j v')
        rw [show better bt (some p.1) i = some p.1 from by unfold better; simp only [hb, Bool.false_eq_true, if_false]]
        exact q
end
/-- what the fold picks, by the numbers -/
theorem better_min (f : Nat → Int) : ∀ (k i : Nat) (b : Option Nat), match (List.range' i k).foldl (better fun x y => decide (f x < f y)) b with
    | none => k = 0 ∧ b = none
    | some j => (b = some j ∨ (i ≤ j ∧ j < i + k)) ∧ (∀ a, b = some a → f j ≤ f a) ∧ ∀ a, i ≤ a → a < i + k → f j ≤ f a := by
  intro k
  induction k with
  | zero =>
    intro i b
    cases b with
    | none => exact ⟨rfl, rfl⟩
    | some j => exact ⟨.inl rfl, fun a e => by cases e; exact Int.le_refl _, fun a h1 h2 => by omega⟩
  | succ k ih =>
    intro i b
    rw [List.range'_succ]
    show (match (List.range' (i + 1) k).foldl (better fun x y => decide (f x < f y)) (better (fun x y => decide (f x < f y)) b i) with
      | none => k + 1 = 0 ∧ b = none
      | some j => (b = some j ∨ (i ≤ j ∧ j < i + (k + 1))) ∧ (∀ a, b = some a → f j ≤ f a) ∧ ∀ a, i ≤ a → a < i + (k + 1) → f j ≤ f a)
    have q := ih (i + 1) (better (fun x y => decide (f x < f y)) b i)
    cases e : (List.range' (i + 1) k).foldl (better fun x y => decide (f x < f y)) (better (fun x y => decide (f x < f y)) b i) with
    | none =>
      rw [e] at q
      obtain ⟨_, q⟩ := q
      cases b with
      | none => cases q
      | some j =>
        unfold better at q
        simp only at q
        split at q <;> cases q
    | some j =>
      rw [e] at q
      obtain ⟨q1, q2, q3⟩ := q
      cases b with
      | none =>
        have q2' := q2 i rfl
        refine ⟨.inr ?_, (fun a e => by cases e), fun a h1 h2 => ?_⟩
        · rcases q1 with q1 | q1
          · cases q1; omega
          · omega
        · by_cases z : a = i
          · subst z; exact q2'
          · exact q3 a (by omega) (by omega)
      | some l =>
        by_cases hb : f i < f l
        · have eb : better (fun x y => decide (f x < f y)) (some l) i = some i := by unfold better; simp [hb]
          rw [eb] at q1 q2
          have q2' := q2 i rfl
          refine ⟨.inr ?_, fun a e => by cases e; omega, fun a h1 h2 => ?_⟩
          · rcases q1 with q1 | q1
            · cases q1; omega
            · omega
          · by_cases z : a = i
            · subst z; exact q2'
            · exact q3 a (by omega) (by omega)
        · have eb : better (fun x y => decide (f x < f y)) (some l) i = some l := by unfold better; simp [hb]
          rw [eb] at q1 q2
          have q2' := q2 l rfl
          refine ⟨?_, fun a e => by cases e; exact q2', fun a h1 h2 => ?_⟩
          · rcases q1 with q1 | q1
            · exact .inl q1
            · right; omega
          · by_cases z : a = i
            · subst z; omega
            · exact q3 a (by omega) (by omega)

section
variable {prog : Program} {w : World} {A : Around} {E : Value → Shared → Prop} {s : Shared} {l : Addr} {its : List Value} {ns : List Int} {Q : Value → Shared → Prop}
/-- min(l, default=None), l a list of ints -/
theorem minD_raw (hh : A.handled = none) (hl : s.heap.IsList l its.toArray) (hi : IntsAre its ns)
    (h0 : ns = [] → ∀ h' tk, (∀ b o, s.heap.get? b = some o → h'.get? b = some o) → Q .none { s with heap := h', toks := tk })
    (h1 : ∀ h' tk M t', (∀ b o, s.heap.get? b = some o → h'.get? b = some o) → M ∈ ns → (∀ a, a ∈ ns → M ≤ a) → Q (.int M t') { s with heap := h', toks := tk }) : wpAny (model prog w) A (call (.builtin "min") [.ref l] dKw) Q E s := by
  have nm : (toString "min" ++ toString ".loop" : String) = "min.loop" := by decide
  obtain ⟨xs, e⟩ := hi.allInts.items
  have hn : numsOf (intItems xs).toList = ns := by rw [← e]; exact hi.numsOf
  rw [nums_intItems] at hn
  subst hn
  rw [e] at hl
  refine kmk_tree F.kind_min F.plain_min F.entry_min (min_argsD _) ?_
  show wpAny _ A.in1 (Builtin.Builtins.bindParams "min" ["key", "default"] 0 ⟨[], dKw⟩ >>= _) _ _ s
  refine wpAny_bind (wpAny_of_eq (show Builtin.Builtins.bindParams "min" ["key", "default"] 0 ⟨[], dKw⟩ = pure [none, some .none] from rfl) ?_)
  refine wpAny_bind (wpAny_pure ?_)
  refine wpAny_bind (PySem.iter_intList hl fun s2 es st hfp hne => ?_)
  subst es
  refine wpAny_bind (wpAny_newObj_type ?_)
  rw [nm]
  have wk := Walks.list (prog := prog) (w := w) (A := A.in1) hh s.heap.objs.size l hne (intItems xs)
  refine wpAny_pure ⟨plainId_quiet F.plain_min_loop _, minD_loop wk _ (CmpOf.ints_lt (numAt xs) (fun _ _ => intItems_at)) _ (fun m => Nat.lt_irrefl _ (hfp _ m)) (intItems xs).size 0 _ none _ (Nat.zero_add _) (wk.frame _ _ _ st fun b _ o q => Heap.get?_push_of_some _ q) (fun _ q => nomatch q)
    (Heap.get?_push_size _ rfl) fun v h' tk q keep => ?_⟩
  have keep' : ∀ b o, s.heap.get? b = some o → h'.get? b = some o := fun b o z => by
    have lt := Heap.lt_size z
    refine keep b o (fun m => ?_) (fun m => ?_) (Heap.get?_push_of_some _ (Heap.get?_push_of_some _ z))
    · have eb : b = s.heap.objs.size := by simpa using m
      rw [eb] at lt
      exact absurd lt (Nat.lt_irrefl _)
    · rw [Heap.size_push] at m
      rw [m] at lt
      exact absurd lt (Nat.not_lt.mpr (Nat.le_succ _))
  have bm := better_min (numAt xs) (intItems xs).size 0 none
  have esz : (intItems xs).size = xs.size := by simp [intItems]
  cases z : (List.range' 0 (intItems xs).size).foldl (better fun x y => decide (numAt xs x < numAt xs y)) none with
  | none =>
    rw [z] at bm
    have q' : v = Value.none := by
      have q0 : (match (List.range' 0 (intItems xs).size).foldl (better fun x y => decide (numAt xs x < numAt xs y)) none with | none => v = Value.none | some j => (intItems xs)[j]? = some v) := q
      rw [z] at q0
      exact q0
    subst q'
    refine h0 ?_ h' tk keep'
    have z0 : xs.size = 0 := by rw [← esz]; exact bm.1
    have : xs.toList = [] := List.length_eq_zero_iff.mp (by rw [Array.length_toList]; exact z0)
    rw [this] <;> rfl
  | some j =>
    rw [z] at bm
    have q' : (intItems xs)[j]? = some v := by
      have q0 : (match (List.range' 0 (intItems xs).size).foldl (better fun x y => decide (numAt xs x < numAt xs y)) none with | none => v = Value.none | some j => (intItems xs)[j]? = some v) := q
      rw [z] at q0
      exact q0
    obtain ⟨t, rfl⟩ := intItems_at q'
    obtain ⟨b1, _, b3⟩ := bm
    have jlt : j < xs.size := by
      rcases b1 with b1 | b1
      · cases b1
      · rw [esz] at b1; omega
    refine h1 h' tk _ t keep' ?_ fun a ha => ?_
    · rw [numAt_eq]; exact PySem.getD_mem (by rw [List.length_map, Array.length_toList]; exact jlt)
    · obtain ⟨i, hi', rfl⟩ := mem_getD ha
      rw [List.length_map, Array.length_toList] at hi'
      rw [← numAt_eq]; exact b3 i (Nat.zero_le _) (by rw [esz]; omega)
end
/-- by values -/
def rMinD (K : PySem.W.Frag) : List V → List V → Hp → VK → Prop := fun vs zs H Q => ∃ (a : Addr) (ns : List Int), vs = [V.ref a] ∧ zs = [.non] ∧ SqL K H a (ns.map V.int) ∧ (ns = [] → Q .non H) ∧ ∀ m, m ∈ ns → (∀ y, y ∈ ns → m ≤ y) → Q (.int m) H
theorem cr_minD {X : Cx} (hc : X.calm = true) : CallRK X (.builtin "min") [Str.ofString "default"] (rMinD X.K) := by
  intro pins s σ H vs zs us ws Q I r rz h
  obtain ⟨a, ns, rfl, rfl, hs, q0, q⟩ := h
  obtain ⟨its, rv, hl, _⟩ := I.list hs
  rw [Vals.ref1 r]
  obtain ⟨w1, rfl, e1⟩ := vals1 rz
  obtain rfl : w1 = Value.none := e1
  exact minD_raw (I.ok.hd hc) hl.isList rv.ints (fun e h' tk hk => ⟨.non, H, I.kept (t' := tk) hk, rfl, q0 e⟩) fun h' tk m t' hk h1 h2 => ⟨.int _, H, I.kept hk, ⟨_, rfl⟩, q m h1 h2⟩
section
variable {ι : Type} {X : ι → Cx} {σ : L2.St} {H : Hp} {Q : VK} {K : PySem.W.Frag}
theorem wk_cons {nm : Option Str} {e : Expr} {es : List Keyword} {p : Pos} {QA : List V → Hp → Prop} (h : WE X e σ H fun x H1 => WK X es σ H1 fun xs H2 => QA (x :: xs) H2) : WK X (⟨nm, e, p⟩ :: es) σ H QA :=
  .of ⟨tCons (WE X e) (WK X es), fun i => pk_cons (pe_W i) (pk_W i), h⟩
theorem we_minD {e : Expr} {kws : List Keyword} {p pos : Pos} (hm : ∀ i, (X i).mg "min" = none) (h : WA X [e] σ H fun vs H1 => WK X kws σ H1 fun zs H2 => rMinD K vs zs H2 Q) (hK : ∀ i, (X i).K = K := by intro _; rfl) (hc : ∀ i, (X i).calm = true := by intro _; rfl)
    (hg : ∀ i, Gl (X i) "min" := by intro _; rfl) (he : ∀ i, backTo pos (starEach [e] (X i).env) = (false, eval e (X i).env) :: backTo pos (starEach [] (X i).env) := by intro _; rfl) (hpl : ∀ i, (backTo pos (starEach [e] (X i).env)).any (·.1) = false := by intro _; rfl)
    (hall : ∀ i, (backToKw pos (keywordEach kws (X i).env)).all (·.1.isSome) = true := by intro _; rfl) (hnone : ∀ i, (backToKw pos (keywordEach kws (X i).env)).any (·.1.isNone) = false := by intro _; rfl)
    (hks : ∀ i, (backToKw pos (keywordEach kws (X i).env)).filterMap (·.1) = [Str.ofString "default"] := by intro _; rfl) : WE X (.Call (.Name "min" p) [e] kws pos) σ H Q :=
  .of ⟨tCKw (rMinD K) (WA X [e]) (WK X kws), fun i => hK i ▸ pe_callBK (cr_minD (hc i)) (hg i) (hm i) (by decide +kernel) (pa_W i) (pk_W i) (by decide) (by decide) (he i) (hpl i) (hall i) (hnone i) (hks i), h⟩
end
end Rn
/-! Operators that the layer has no rule for: ** of great numbers, is of bools against anything plain, text * int; and the built-ins as the calculus meets them. -/
namespace Rn
open PySem L2 StX PyProof.Rows

/-! ### ** of an int below 2 ^ n -/
def CPowW (i j : Int) : Prop := 0 ≤ j ∧ ∃ n : Nat, i.natAbs < 2 ^ n ∧ 0 < n ∧ (n : Int) * j ≤ 2 ^ 27
theorem op_powW {X : Cx} : OpR X (binaryOp .Pow) (rI CPowW fun i j => .int (i ^ j.toNat)) := opI fun i j _ _ _ _ _ hc q => by
  obtain ⟨h0, n, h1, h2, h3⟩ := hc
  refine pow_int h0 ?_ q
  have hb : (Builtin.Int.intBits i : Int) ≤ n := by
    have := PySem.Flt.log2_lt_of h2 h1
    unfold Builtin.Int.intBits
    split <;> omega
  exact Int.le_trans (Int.mul_le_mul_of_nonneg_right hb h0) h3
/-! ### is, is not of a bool -/
def plainV : V → Bool
  | .non => true | .bl _ => true | .int _ => true | .str _ => true
  | _ => false
def rIsBl (neg : Bool) : R2 := fun x y H Q => ∃ b, y = .bl b ∧ plainV x = true ∧ Q (.bl (if neg then !decide (x = y) else decide (x = y))) H
theorem op_isBl {X : Cx} : OpR X (compareOp .Is) (rIsBl false) := by
  intro pins s σ H x y v u Q I rx ry h
  obtain ⟨b, rfl, hp, q⟩ := h
  cases ry
  cases x with
  | non => cases rx; exact wpAny_is_plain rfl ⟨.bl false, H, I, rfl, q⟩
  | bl c =>
    cases rx
    refine wpAny_is_plain rfl ⟨.bl (c == b), H, I, ?_, ?_⟩
    · show Value.bool _ = Value.bool _
      cases c <;> cases b <;> rfl
    · cases c <;> cases b <;> exact q
  | int i => obtain ⟨t, rfl⟩ := rx; exact wpAny_is_plain rfl ⟨.bl false, H, I, rfl, q⟩
  | str i => obtain ⟨t, rfl⟩ := rx; exact wpAny_is_plain rfl ⟨.bl false, H, I, rfl, q⟩
  | _ => exact absurd (show false = true from hp) Bool.false_ne_true
theorem op_isntBl {X : Cx} : OpR X (compareOp .IsNot) (rIsBl true) := by
  intro pins s σ H x y v u Q I rx ry h
  obtain ⟨b, rfl, hp, q⟩ := h
  cases ry
  cases x with
  | non => cases rx; exact wpAny_isNot_plain rfl ⟨.bl true, H, I, rfl, q⟩
  | bl c =>
    cases rx
    refine wpAny_isNot_plain rfl ⟨.bl (!(c == b)), H, I, ?_, ?_⟩
    · show Value.bool _ = Value.bool _
      cases c <;> cases b <;> rfl
    · cases c <;> cases b <;> exact q
  | int i => obtain ⟨t, rfl⟩ := rx; exact wpAny_isNot_plain rfl ⟨.bl true, H, I, rfl, q⟩
  | str i => obtain ⟨t, rfl⟩ := rx; exact wpAny_isNot_plain rfl ⟨.bl true, H, I, rfl, q⟩
  | _ => exact absurd (show false = true from hp) Bool.false_ne_true
/-! ### one sign, so often -/
theorem op_mulS {X : Cx} : OpR X (binaryOp .Mult) (fun x y H Q => ∃ (c : Nat) (n : Int), x = .str ⟨#[c]⟩ ∧ y = .int n ∧ 1 ≤ n ∧ n ≤ 8 ∧ Q (.str ⟨(List.replicate n.toNat c).toArray⟩) H) := by
  intro pins s σ H x y v u Q I rx ry h
  obtain ⟨c, n, rfl, rfl, h1, h8, q⟩ := h
  obtain ⟨t, rfl⟩ := rx
  obtain ⟨t', rfl⟩ := ry
  obtain ⟨k, rfl⟩ := Int.eq_ofNat_of_zero_le (by omega : 0 ≤ n)
  have hk : k = 1 ∨ k = 2 ∨ k = 3 ∨ k = 4 ∨ k = 5 ∨ k = 6 ∨ k = 7 ∨ k = 8 := by omega
  rcases hk with rfl | rfl | rfl | rfl | rfl | rfl | rfl | rfl <;>
    exact SB.mul ⟨by decide, fun _ _ => (by show ¬ ((1 : Int) > _); decide), fun _ _ => by rfl⟩ fun tk m => ⟨.str _, H, I.tok m, ⟨tk, rfl⟩, q⟩

section
variable {ι : Type} {X : ι → Cx} {σ : L2.St} {H : Hp} {Q : VK} {K : PySem.W.Frag}
/-! ### operators by name -/
theorem we_add {a b : Expr} {pos : Pos} (h : WE X a σ H fun x H1 => WE X b σ H1 fun y H2 => rI0 (fun i j => .int (i + j)) x y H2 Q) : WE X (.BinOp a .Add b pos) σ H Q := we_op (fun _ => op_add) h
theorem we_sub {a b : Expr} {pos : Pos} (h : WE X a σ H fun x H1 => WE X b σ H1 fun y H2 => rI0 (fun i j => .int (i - j)) x y H2 Q) : WE X (.BinOp a .Sub b pos) σ H Q := we_op (fun _ => op_sub) h
theorem we_mul {a b : Expr} {pos : Pos} (h : WE X a σ H fun x H1 => WE X b σ H1 fun y H2 => rI CMulW (fun i j => .int (i * j)) x y H2 Q) : WE X (.BinOp a .Mult b pos) σ H Q := we_op (fun _ => op_mulW) h
theorem we_mod {a b : Expr} {pos : Pos} (h : WE X a σ H fun x H1 => WE X b σ H1 fun y H2 => rI (fun _ j => 0 < j) (fun i j => .int (i % j)) x y H2 Q) : WE X (.BinOp a .Mod b pos) σ H Q := we_op (fun _ => op_mod) h
theorem we_div {a b : Expr} {pos : Pos} (h : WE X a σ H fun x H1 => WE X b σ H1 fun y H2 => rI CDivW (fun i j => .int (i / j)) x y H2 Q) : WE X (.BinOp a .FloorDiv b pos) σ H Q := we_op (fun _ => op_fdivW) h
theorem we_pow {a b : Expr} {pos : Pos} (h : WE X a σ H fun x H1 => WE X b σ H1 fun y H2 => rI CPowW (fun i j => .int (i ^ j.toNat)) x y H2 Q) : WE X (.BinOp a .Pow b pos) σ H Q := we_op (fun _ => op_powW) h
theorem we_neg {a : Expr} {pos : Pos} (h : WE X a σ H fun x H1 => rU (fun i => .int (-i)) x H1 Q) : WE X (.UnaryOp .USub a pos) σ H Q := we_un (fun _ => un_neg) h
theorem we_eq {a b : Expr} {pos : Pos} (h : WE X a σ H fun x H1 => WE X b σ H1 fun y H2 => rEq x y H2 Q) : WE X (.Compare a [.Eq] [b] pos) σ H Q := we_cmp (fun _ => op_eq) (nomark _) h
theorem wt_eq {a b : Expr} {pos : Pos} {QT : Bool → Hp → Prop} (h : WE X a σ H fun x H1 => WE X b σ H1 fun y H2 => rEq x y H2 fun z H3 => ∃ k, z = .bl k ∧ QT k H3) : WT X (.Compare a [.Eq] [b] pos) σ H QT := wt_cmp (fun _ => op_eq) (nomark _) h
theorem we_ne {a b : Expr} {pos : Pos} (h : WE X a σ H fun x H1 => WE X b σ H1 fun y H2 => rNe x y H2 Q) : WE X (.Compare a [.NotEq] [b] pos) σ H Q := we_cmp (fun _ => op_ne) (nomark _) h
theorem wt_ne {a b : Expr} {pos : Pos} {QT : Bool → Hp → Prop} (h : WE X a σ H fun x H1 => WE X b σ H1 fun y H2 => rNe x y H2 fun z H3 => ∃ k, z = .bl k ∧ QT k H3) : WT X (.Compare a [.NotEq] [b] pos) σ H QT := wt_cmp (fun _ => op_ne) (nomark _) h
theorem we_lt {a b : Expr} {pos : Pos} (h : WE X a σ H fun x H1 => WE X b σ H1 fun y H2 => rI0 (fun i j => .bl (decide (i < j))) x y H2 Q) : WE X (.Compare a [.Lt] [b] pos) σ H Q := we_cmp (fun _ => op_lt) (nomark _) h
theorem wt_lt {a b : Expr} {pos : Pos} {QT : Bool → Hp → Prop} (h : WE X a σ H fun x H1 => WE X b σ H1 fun y H2 => rI0 (fun i j => .bl (decide (i < j))) x y H2 fun z H3 => ∃ k, z = .bl k ∧ QT k H3) : WT X (.Compare a [.Lt] [b] pos) σ H QT := wt_cmp (fun _ => op_lt) (nomark _) h
theorem we_le {a b : Expr} {pos : Pos} (h : WE X a σ H fun x H1 => WE X b σ H1 fun y H2 => rI0 (fun i j => .bl (decide (i ≤ j))) x y H2 Q) : WE X (.Compare a [.LtE] [b] pos) σ H Q := we_cmp (fun _ => op_le) (nomark _) h
theorem wt_le {a b : Expr} {pos : Pos} {QT : Bool → Hp → Prop} (h : WE X a σ H fun x H1 => WE X b σ H1 fun y H2 => rI0 (fun i j => .bl (decide (i ≤ j))) x y H2 fun z H3 => ∃ k, z = .bl k ∧ QT k H3) : WT X (.Compare a [.LtE] [b] pos) σ H QT := wt_cmp (fun _ => op_le) (nomark _) h
theorem we_gt {a b : Expr} {pos : Pos} (h : WE X a σ H fun x H1 => WE X b σ H1 fun y H2 => rI0 (fun i j => .bl (decide (j < i))) x y H2 Q) : WE X (.Compare a [.Gt] [b] pos) σ H Q := we_cmp (fun _ => op_gt) (nomark _) h
theorem wt_gt {a b : Expr} {pos : Pos} {QT : Bool → Hp → Prop} (h : WE X a σ H fun x H1 => WE X b σ H1 fun y H2 => rI0 (fun i j => .bl (decide (j < i))) x y H2 fun z H3 => ∃ k, z = .bl k ∧ QT k H3) : WT X (.Compare a [.Gt] [b] pos) σ H QT := wt_cmp (fun _ => op_gt) (nomark _) h
theorem we_ge {a b : Expr} {pos : Pos} (h : WE X a σ H fun x H1 => WE X b σ H1 fun y H2 => rI0 (fun i j => .bl (decide (j ≤ i))) x y H2 Q) : WE X (.Compare a [.GtE] [b] pos) σ H Q := we_cmp (fun _ => op_ge) (nomark _) h
theorem wt_ge {a b : Expr} {pos : Pos} {QT : Bool → Hp → Prop} (h : WE X a σ H fun x H1 => WE X b σ H1 fun y H2 => rI0 (fun i j => .bl (decide (j ≤ i))) x y H2 fun z H3 => ∃ k, z = .bl k ∧ QT k H3) : WT X (.Compare a [.GtE] [b] pos) σ H QT := wt_cmp (fun _ => op_ge) (nomark _) h
theorem we_isN {a : Expr} {j pos pos'} (h : WE X a σ H fun x H1 => Q (.bl (decide (x = .non))) H1) : WE X (.Compare a [.Is] [.Constant .none j pos'] pos) σ H Q := we_cmp (fun _ => op_isN) (nomark _) (h.mono fun x H1 q => we_non ⟨rfl, q⟩)
theorem wt_isN {a : Expr} {j pos pos'} {QT : Bool → Hp → Prop} (h : WE X a σ H fun x H1 => QT ((decide (x = .non))) H1) : WT X (.Compare a [.Is] [.Constant .none j pos'] pos) σ H QT := wt_cmp (fun _ => op_isN) (nomark _) (h.mono fun x H1 q => we_non ⟨rfl, _, rfl, q⟩)
theorem we_notN {a : Expr} {j pos pos'} (h : WE X a σ H fun x H1 => Q (.bl (!decide (x = .non))) H1) : WE X (.Compare a [.IsNot] [.Constant .none j pos'] pos) σ H Q := we_cmp (fun _ => op_notN) (nomark _) (h.mono fun x H1 q => we_non ⟨rfl, q⟩)
theorem wt_notN {a : Expr} {j pos pos'} {QT : Bool → Hp → Prop} (h : WE X a σ H fun x H1 => QT ((!decide (x = .non))) H1) : WT X (.Compare a [.IsNot] [.Constant .none j pos'] pos) σ H QT := wt_cmp (fun _ => op_notN) (nomark _) (h.mono fun x H1 q => we_non ⟨rfl, _, rfl, q⟩)
theorem we_isB {a : Expr} {b : Bool} {j pos pos'} (h : WE X a σ H fun x H1 => plainV x = true ∧ Q (.bl (decide (x = .bl b))) H1) : WE X (.Compare a [.Is] [.Constant (.bool b) j pos'] pos) σ H Q := we_cmp (fun _ => op_isBl) (nomark _) (h.mono fun x H1 q => we_bl ⟨b, rfl, q.1, q.2⟩)
theorem wt_isB {a : Expr} {b : Bool} {j pos pos'} {QT : Bool → Hp → Prop} (h : WE X a σ H fun x H1 => plainV x = true ∧ QT (decide (x = .bl b)) H1) : WT X (.Compare a [.Is] [.Constant (.bool b) j pos'] pos) σ H QT := wt_cmp (fun _ => op_isBl) (nomark _) (h.mono fun x H1 q => we_bl ⟨b, rfl, q.1, _, rfl, q.2⟩)
theorem we_notB {a : Expr} {b : Bool} {j pos pos'} (h : WE X a σ H fun x H1 => plainV x = true ∧ Q (.bl (!decide (x = .bl b))) H1) : WE X (.Compare a [.IsNot] [.Constant (.bool b) j pos'] pos) σ H Q := we_cmp (fun _ => op_isntBl) (nomark _) (h.mono fun x H1 q => we_bl ⟨b, rfl, q.1, q.2⟩)
theorem wt_notB {a : Expr} {b : Bool} {j pos pos'} {QT : Bool → Hp → Prop} (h : WE X a σ H fun x H1 => plainV x = true ∧ QT (!decide (x = .bl b)) H1) : WT X (.Compare a [.IsNot] [.Constant (.bool b) j pos'] pos) σ H QT := wt_cmp (fun _ => op_isntBl) (nomark _) (h.mono fun x H1 q => we_bl ⟨b, rfl, q.1, _, rfl, q.2⟩)
/-! ### built-ins -/
theorem ba_len_seq {p : Addr} {xs : List V} (hK : ∀ i, (X i).K = K) : ∀ i, CallR (X i) (.builtin "len") (fun xs H Q => ∃ p ys, xs = [.ref p] ∧ (SqL K H p ys ∨ SqT K H p ys) ∧ Q (.int ys.length) H) := fun i => hK i ▸ call_len_seq
theorem we_len {e : Expr} {p pos : Pos} (hm : ∀ i, (X i).mg "len" = none) (h : WE X e σ H fun x H1 => ∃ p ys, x = .ref p ∧ (SqL K H1 p ys ∨ SqT K H1 p ys) ∧ Q (.int ys.length) H1) (hK : ∀ i, (X i).K = K := by intro _; rfl) (hg : ∀ i, Gl (X i) "len" := by intro _; rfl)
    (he : ∀ i, starEach [e] (X i).env = (false, eval e (X i).env) :: starEach [] (X i).env := by intro _; rfl) : WE X (.Call (.Name "len" p) [e] [] pos) σ H Q :=
  we_bf (fun i => hK i ▸ call_len_seq) hm boot_len (wa_cons (h.mono fun x H1 ⟨p, ys, e, l, q⟩ => wa_nil ⟨p, ys, by rw [e], l, q⟩) he) hg (by decide) (by decide) he (fun _ => rfl)
theorem we_lenS {e : Expr} {p pos : Pos} (hm : ∀ i, (X i).mg "len" = none) (h : WE X e σ H fun x H1 => ∃ z, x = .str z ∧ z.length ≤ sizeLine ∧ Q (.int z.length) H1) (hg : ∀ i, Gl (X i) "len" := by intro _; rfl)
    (he : ∀ i, starEach [e] (X i).env = (false, eval e (X i).env) :: starEach [] (X i).env := by intro _; rfl) : WE X (.Call (.Name "len" p) [e] [] pos) σ H Q :=
  we_bf (fun i => call_len_str) hm boot_len (wa_cons (h.mono fun x H1 ⟨z, e, l, q⟩ => wa_nil ⟨z, by rw [e], l, q⟩) he) hg (by decide) (by decide) he (fun _ => rfl)
theorem we_lenD {e : Expr} {p pos : Pos} (hm : ∀ i, (X i).mg "len" = none) (h : WE X e σ H fun x H1 => ∃ a kvs, x = .ref a ∧ H1 a = some (.dK kvs) ∧ Q (.int kvs.length) H1) (hg : ∀ i, Gl (X i) "len" := by intro _; rfl)
    (he : ∀ i, starEach [e] (X i).env = (false, eval e (X i).env) :: starEach [] (X i).env := by intro _; rfl) : WE X (.Call (.Name "len" p) [e] [] pos) σ H Q :=
  we_bf (fun i => call_lenD) hm boot_len (wa_cons (h.mono fun x H1 ⟨z, k, e, l, q⟩ => wa_nil ⟨z, k, by rw [e], l, q⟩) he) hg (by decide) (by decide) he (fun _ => rfl)
theorem we_intc {e : Expr} {p pos : Pos} (hm : ∀ i, (X i).mg "int" = none) (h : WE X e σ H fun x H1 => ∃ n, x = .int n ∧ Q (.int n) H1) (hg : ∀ i, Gl (X i) "int" := by intro _; rfl)
    (he : ∀ i, starEach [e] (X i).env = (false, eval e (X i).env) :: starEach [] (X i).env := by intro _; rfl) : WE X (.Call (.Name "int" p) [e] [] pos) σ H Q :=
  we_bt (fun i => call_int1) hm boot_int (wa_cons (h.mono fun x H1 ⟨n, e, q⟩ => wa_nil (.inl ⟨n, by rw [e], q⟩)) he) hg (by decide) (by decide) he (fun _ => rfl)
theorem we_intb {e : Expr} {p pos : Pos} (hm : ∀ i, (X i).mg "int" = none) (h : WE X e σ H fun x H1 => ∃ k, x = .bl k ∧ Q (.int (if k then 1 else 0)) H1) (hg : ∀ i, Gl (X i) "int" := by intro _; rfl)
    (he : ∀ i, starEach [e] (X i).env = (false, eval e (X i).env) :: starEach [] (X i).env := by intro _; rfl) : WE X (.Call (.Name "int" p) [e] [] pos) σ H Q :=
  we_bt (fun i => call_int1) hm boot_int (wa_cons (h.mono fun x H1 ⟨n, e, q⟩ => wa_nil (.inr ⟨n, by rw [e], q⟩)) he) hg (by decide) (by decide) he (fun _ => rfl)
theorem we_abs {e : Expr} {p pos : Pos} (hm : ∀ i, (X i).mg "abs" = none) (h : WE X e σ H fun x H1 => ∃ n, x = .int n ∧ Q (.int (n.natAbs : Int)) H1) (hg : ∀ i, Gl (X i) "abs" := by intro _; rfl)
    (he : ∀ i, starEach [e] (X i).env = (false, eval e (X i).env) :: starEach [] (X i).env := by intro _; rfl) : WE X (.Call (.Name "abs" p) [e] [] pos) σ H Q :=
  we_bf (fun i => call_abs) hm (by decide +kernel) (wa_cons (h.mono fun x H1 ⟨n, e, q⟩ => wa_nil ⟨n, by rw [e], by rw [show (if n < 0 then -n else n) = (n.natAbs : Int) from by split <;> omega]; exact q⟩) he) hg (by decide) (by decide) he (fun _ => rfl)
theorem we_max {a b : Expr} {p pos : Pos} (hm : ∀ i, (X i).mg "max" = none) (h : WE X a σ H fun x H1 => WE X b σ H1 fun y H2 => ∃ i j, x = .int i ∧ y = .int j ∧ Q (.int (max i j)) H2) (hc : ∀ i, (X i).calm = true := by intro _; rfl) (hg : ∀ i, Gl (X i) "max" := by intro _; rfl)
    (he : ∀ i, starEach [a, b] (X i).env = (false, eval a (X i).env) :: starEach [b] (X i).env := by intro _; rfl) (he2 : ∀ i, starEach [b] (X i).env = (false, eval b (X i).env) :: starEach [] (X i).env := by intro _; rfl)
    (hpl : ∀ i, (backTo pos (starEach [b] (X i).env)).any (·.1) = false := by intro _; rfl) : WE X (.Call (.Name "max" p) [a, b] [] pos) σ H Q :=
  we_bf (fun i => call_max2 (hc i)) hm (by decide +kernel) (wa_cons (h.mono fun x H1 h => wa_cons (h.mono fun y H2 ⟨i, j, e1, e2, q⟩ => wa_nil ⟨i, j, by rw [e1, e2], by rw [show (if j > i then j else i) = max i j from by rw [Int.max_def]; split <;> split <;> omega]; exact q⟩) he2) he) hg (by decide) (by decide) he hpl
theorem we_min {a b : Expr} {p pos : Pos} (hm : ∀ i, (X i).mg "min" = none) (h : WE X a σ H fun x H1 => WE X b σ H1 fun y H2 => ∃ i j, x = .int i ∧ y = .int j ∧ Q (.int (min i j)) H2) (hc : ∀ i, (X i).calm = true := by intro _; rfl) (hg : ∀ i, Gl (X i) "min" := by intro _; rfl)
    (he : ∀ i, starEach [a, b] (X i).env = (false, eval a (X i).env) :: starEach [b] (X i).env := by intro _; rfl) (he2 : ∀ i, starEach [b] (X i).env = (false, eval b (X i).env) :: starEach [] (X i).env := by intro _; rfl)
    (hpl : ∀ i, (backTo pos (starEach [b] (X i).env)).any (·.1) = false := by intro _; rfl) : WE X (.Call (.Name "min" p) [a, b] [] pos) σ H Q :=
  we_bf (fun i => call_min2 (hc i)) hm (by decide +kernel) (wa_cons (h.mono fun x H1 h => wa_cons (h.mono fun y H2 ⟨i, j, e1, e2, q⟩ => wa_nil ⟨i, j, by rw [e1, e2], by rw [show (if j < i then j else i) = min i j from by rw [Int.min_def]; split <;> split <;> omega]; exact q⟩) he2) he) hg (by decide) (by decide) he hpl
theorem we_all {e : Expr} {p pos : Pos} (hm : ∀ i, (X i).mg "all" = none) (h : WE X e σ H fun x H1 => ∃ (a : Addr) (bs : List Bool), x = .ref a ∧ SqL K H1 a (bs.map V.bl) ∧ Q (.bl (bs.all id)) H1) (hK : ∀ i, (X i).K = K := by intro _; rfl) (hc : ∀ i, (X i).calm = true := by intro _; rfl) (hg : ∀ i, Gl (X i) "all" := by intro _; rfl)
    (he : ∀ i, starEach [e] (X i).env = (false, eval e (X i).env) :: starEach [] (X i).env := by intro _; rfl) : WE X (.Call (.Name "all" p) [e] [] pos) σ H Q :=
  we_bf (fun i => hK i ▸ cr_all (hc i)) hm (by decide +kernel) (wa_cons (h.mono fun x H1 ⟨a, bs, e, l, q⟩ => wa_nil ⟨a, bs, by rw [e], l, q⟩) he) hg (by decide) (by decide) he (fun _ => rfl)
/-- isinstance(e, T) -/
theorem we_isi {e c : Expr} {p pos : Pos} (hm : ∀ i, (X i).mg "isinstance" = none) (h : WE X e σ H fun x H1 => WE X c σ H1 fun y H2 => ∃ t T b, y = .ty T ∧ TyX K H2 x (.type t) ∧ kitB t T = some b ∧ Q (.bl b) H2) (hK : ∀ i, (X i).K = K := by intro _; rfl) (hg : ∀ i, Gl (X i) "isinstance" := by intro _; rfl)
    (he : ∀ i, starEach [e, c] (X i).env = (false, eval e (X i).env) :: starEach [c] (X i).env := by intro _; rfl) (he2 : ∀ i, starEach [c] (X i).env = (false, eval c (X i).env) :: starEach [] (X i).env := by intro _; rfl)
    (hpl : ∀ i, (backTo pos (starEach [c] (X i).env)).any (·.1) = false := by intro _; rfl) : WE X (.Call (.Name "isinstance" p) [e, c] [] pos) σ H Q :=
  we_bf (fun i => hK i ▸ call_isi) hm (by decide +kernel) (wa_cons (h.mono fun x H1 h => wa_cons (h.mono fun y H2 ⟨t, T, b, e1, e2, e3, q⟩ => wa_nil ⟨x, y, _, _, b, rfl, by rw [e1]; exact .ty T, e2, kit_ty e3, q⟩) he2) he) hg (by decide) (by decide) he hpl
end
end Rn
/-! The text by places; what the top has left; heaps; the walk's steps. -/
namespace Rn
open PySem L2 StX

def top (i : Nat) : Stmt := PySem.Challenge.pw_roundline_k74_whole_told_and_turned.main.body.getD i (.Pass ⟨0, 0, 0, 0⟩)

def lettersS : Str := "abcdefghijklmnopqrstuvwxyz"
def win (far : Bool) : Str := if far then "far" else "near"
/-- what the walk asks of the top's names and classes -/
structure Txt (K : PySem.W.Frag) (mg : Str → Option Value) (CW CL : Addr) : Prop where
  len : mg "len" = none
  int : mg "int" = none
  str : mg "str" = none
  bool : mg "bool" = none
  tuple : mg "tuple" = none
  list : mg "list" = none
  dict : mg "dict" = none
  abs : mg "abs" = none
  max : mg "max" = none
  min : mg "min" = none
  all : mg "all" = none
  isinstance : mg "isinstance" = none
  range : mg "range" = none
  sorted : mg "sorted" = none
  letters : ∃ t, mg "LETTERS" = some (.str lettersS t)
  windows : ∃ a, mg "WINDOWS" = some (.ref a) ∧ ∀ H, SqT K H a [.str "near", .str "far"]
  longest : ∃ t, mg "LONGEST_THING" = some (.int 8 t)
  greatest : ∃ t, mg "GREATEST_DISTANCE" = some (.int (10 ^ 50) t)
  gpull : ∃ t, mg "GREATEST_PULL" = some (.int 40 t)
  gstep : ∃ t, mg "GREATEST_STEP" = some (.int 6 t)
  clW : Cls K CW
  wH : NoAttr K CW "half"
  wS : NoAttr K CW "stand"
  wU : NoAttr K CW "hung"
  wL : NoAttr K CW "lengths"
  clL : Cls K CL
  lL : NoAttr K CL "length"
  lW : NoAttr K CL "work"
  lD : NoAttr K CL "done"
  lE : NoAttr K CL "earlier"
  lM : NoAttr K CL "marks"

/-! ### heaps -/
/-- all but what stands at a is as it was -/
def But (P : Addr → Prop) (H H' : Hp) : Prop := ∀ b o, H b = some o → ¬ P b → H' b = some o
theorem But.refl (P : Addr → Prop) (H : Hp) : But P H H := fun _ _ h _ => h
theorem But.trans {P : Addr → Prop} {H H1 H2 : Hp} (a : But P H H1) (b : But P H1 H2) : But P H H2 := fun c o h n => b c o (a c o h n) n
theorem But.of {P : Addr → Prop} {H H' : Hp} (a : Same H H') : But P H H' := fun c o h _ => a c o h
theorem But.mono {P P' : Addr → Prop} {H H' : Hp} (a : But P H H') (k : ∀ b, P b → P' b) : But P' H H' := fun c o h n => a c o h fun z => n (k c z)
theorem Same.new {H : Hp} {p : Addr} {o : HO} (h : H p = none) : Same H (upd H p o) := fun b u e => by rw [upd_ne (ne_of_none e h)]; exact e
theorem But.upd {P : Addr → Prop} {H : Hp} {p : Addr} {o : HO} (h : P p) : But P H (upd H p o) := fun b u e n => by rw [upd_ne (fun z => n (by rw [z]; exact h))]; exact e

theorem _root_.L2.Same.seqT {K : PySem.W.Frag} {H H' : Hp} {a : Addr} {xs : List V} (e : Same H H') (h : SqT K H a xs) : SqT K H' a xs := by
  rcases h with (h | ⟨o, h⟩) | h
  · exact .inl (.inl (e _ _ h))
  · exact .inl (.inr ⟨o, e _ _ h⟩)
  · exact .inr h
theorem roomF {ι : Type} {X : ι → Cx} {k : Nat} (h : ∀ i, Room k (X i).A) : ∀ i, (X i).A.units + 1 < cLine := fun i => hu_of (h i)

/-! ### answers -/
theorem l_I0 {g : Int → Int → V} {i j : Int} {H : Hp} {Q : VK} (q : Q (g i j) H) : rI0 g (.int i) (.int j) H Q := ⟨i, j, rfl, rfl, q⟩
theorem l_I {C : Int → Int → Prop} {g : Int → Int → V} {i j : Int} {H : Hp} {Q : VK} (c : C i j) (q : Q (g i j) H) : rI C g (.int i) (.int j) H Q := ⟨i, j, rfl, rfl, c, q⟩
theorem l_U {g : Int → V} {i : Int} {H : Hp} {Q : VK} (q : Q (g i) H) : rU g (.int i) H Q := ⟨i, rfl, q⟩
theorem l_eq {x y : V} {H : Hp} {Q : VK} (q : Q (.bl (decide (x = y))) H) (hs : scal x y = true := by rfl) : rEq x y H Q := ⟨hs, q⟩
theorem l_ne {x y : V} {H : Hp} {Q : VK} (q : Q (.bl (!decide (x = y))) H) (hs : scal x y = true := by rfl) : rNe x y H Q := ⟨hs, q⟩
theorem l_bl {b : Bool} {P : Bool → Prop} (h : P b) : ∃ k, V.bl b = .bl k ∧ P k := ⟨b, rfl, h⟩
theorem l_int {b : Int} {P : Int → Prop} (h : P b) : ∃ k, V.int b = .int k ∧ P k := ⟨b, rfl, h⟩
theorem l_str {b : Str} {P : Str → Prop} (h : P b) : ∃ k, V.str b = .str k ∧ P k := ⟨b, rfl, h⟩
theorem l_int2 {a b : Int} {P : Int → Int → Prop} (h : P a b) : ∃ i j, V.int a = .int i ∧ V.int b = .int j ∧ P i j := ⟨a, b, rfl, rfl, h⟩
theorem l_vs2 {a b : V} {P : V → V → Prop} (h : P a b) : ∃ v w, [a, b] = [v, w] ∧ P v w := ⟨a, b, rfl, h⟩
theorem l_vs3 {a b c : V} {P : V → V → V → Prop} (h : P a b c) : ∃ u v w, [a, b, c] = [u, v, w] ∧ P u v w := ⟨a, b, c, rfl, h⟩
theorem l_non {P Q : Prop} {x : V} (h : Q) : x = x ∧ Q := ⟨rfl, h⟩
/-! ### a def's body -/
/-- a body's one context -/
abbrev fX (P : Program) (w : World) (K : PySem.W.Frag) (mg : Str → Option Value) (base : Heap) (N : List Str) (qual : Str) (st : Stmt) (f : Addr) (cdv : Value) (A : Around) (outer : List Env) (s : Shared) (H : Hp) (E : XK) : Unit → Cx :=
  fun _ => (cxOf CX0 P w K mg base N qual (defScope st) f cdv A outer s H E).nox
theorem fun_w {P : Program} {w : World} {K : PySem.W.Frag} {mg : Str → Option Value} {base : Heap} {x qual : Str} {st : Stmt} {f : Addr} {fd : FuncData} {N ps : List Str} {k : Nat} {sp : Sp} (F : Fun K x qual st f fd) (S : FnScope N ps (defScope st))
    (len : ∀ vs H Q E, sp vs H Q E → vs.length = ps.length)
    (hbody : ∀ (cdv : Value) (A : Around) (outer : List Env) (s : Shared) (H : Hp) (vs : List V) (Q : VK) (E : XK), (∀ i, Room k (fX P w K mg base N qual st f cdv A outer s H E i).A) → (∀ i, (fX P w K mg base N qual st f cdv A outer s H E i).N.Nodup) → sp vs H Q E →
      WB (fX P w K mg base N qual st f cdv A outer s H E) (defBody st) (fun _ H' => Q .non H') Q (fun _ _ => False) (fun _ _ => False) (start N vs) H) : FnOk P w K mg base CX0 (k + 1) f fd ps sp :=
  F.ok S len fun cdv A outer s H vs Q E hr h => by
    refine ⟨_, (pss_W (X := fX P w K mg base N qual st f cdv A outer s H E) ()), hbody cdv A outer s H vs Q E (fun _ => hr) (fun _ => S.nd) h⟩
/-! ### by the head -/
section
variable {ι : Type} {X : ι → Cx} {σ : L2.St} {H : Hp} {Q : VK} {QT : Bool → Hp → Prop}
theorem idE {e : Expr} (h : WE X e σ H Q) : WE X e σ H Q := h
theorem idT {e : Expr} (h : WT X e σ H QT) : WT X e σ H QT := h
theorem idW {e : Expr} (h : WW X e σ H QT) : WW X e σ H QT := h
theorem idNm {x : Str} {p : Pos} (h : WE X (.Name x p) σ H Q) : WE X (.Name x p) σ H Q := h
theorem idCo {c : Const} {j} {p : Pos} (h : WE X (.Constant c j p) σ H Q) : WE X (.Constant c j p) σ H Q := h
theorem idBi {a b : Expr} {o : Operator} {p : Pos} (h : WE X (.BinOp a o b p) σ H Q) : WE X (.BinOp a o b p) σ H Q := h
theorem idUn {a : Expr} {o : UnaryOp} {p : Pos} (h : WE X (.UnaryOp o a p) σ H Q) : WE X (.UnaryOp o a p) σ H Q := h
theorem idBo {o : BoolOp} {a : List Expr} {p : Pos} (h : WE X (.BoolOp o a p) σ H Q) : WE X (.BoolOp o a p) σ H Q := h
theorem idCm {a : Expr} {o : List CmpOp} {b : List Expr} {p : Pos} (h : WE X (.Compare a o b p) σ H Q) : WE X (.Compare a o b p) σ H Q := h
theorem idTC {a : Expr} {o : List CmpOp} {b : List Expr} {p : Pos} (h : WT X (.Compare a o b p) σ H QT) : WT X (.Compare a o b p) σ H QT := h
theorem idTB {o : BoolOp} {a : List Expr} {p : Pos} (h : WT X (.BoolOp o a p) σ H QT) : WT X (.BoolOp o a p) σ H QT := h
end
end Rn
/-! the walk's steps: W one step by the syntax, L an answer that rfl gives, F a field of the line's work, B a known branch -/
set_option hygiene false in
local macro_rules | `(tactic| walk_at "V") => `(tactic| first | refine we_var 0 ?_ | refine we_var 1 ?_ | refine we_var 2 ?_ | refine we_var 3 ?_ | refine we_var 4 ?_ | refine we_var 5 ?_ | refine we_var 6 ?_ | refine we_var 7 ?_ | refine we_var 8 ?_ | refine we_var 9 ?_ | refine we_var 10 ?_ | refine we_var 11 ?_)
set_option hygiene false in
local macro_rules | `(tactic| walk_at "L") => `(tactic| first | refine l_I0 ?_ | refine l_eq ?_ | refine l_ne ?_ | refine l_U ?_ | refine l_bl ?_ | refine l_int ?_ | with_reducible refine l_int2 ?_ | refine l_vs2 ?_ | refine l_vs3 ?_ | refine l_str ?_)
set_option hygiene false in
local macro_rules | `(tactic| walk_at "B") => `(tactic| first
  | refine Br.t (by rfl) ?_
  | refine Br.f (by rfl) ?_)
set_option hygiene false in
local macro_rules | `(tactic| walk_at "CE") => `(tactic| first | refine we_eqL hr ?_ | refine we_neL hr ?_ | refine we_eq ?_ | refine we_ne ?_ | refine we_lt ?_ | refine we_le ?_ | refine we_gt ?_ | refine we_ge ?_ | refine we_isN ?_ | refine we_notN ?_)
set_option hygiene false in
local macro_rules | `(tactic| walk_at "CT") => `(tactic| first | refine wt_eqU hr ?_ | refine wt_eq ?_ | refine wt_ne ?_ | refine wt_lt ?_ | refine wt_le ?_ | refine wt_gt ?_ | refine wt_ge ?_ | refine wt_isN ?_ | refine wt_notN ?_)
set_option hygiene false in
local macro_rules | `(tactic| walk_at "WE") => `(tactic| first
  | (refine idNm ?_; walk_at "V")
  | (refine idCo ?_; first | refine we_int ?_ | refine we_str ?_ | refine we_bl ?_ | refine we_non ?_)
  | (refine idBi ?_; first | refine we_add ?_ | refine we_sub ?_ | refine we_mod ?_ | refine we_mul ?_ | refine we_div ?_ | refine we_pow ?_)
  | (refine idCm ?_; walk_at "CE")
  | (refine idBo ?_; first | refine we_and ?_ | refine we_or ?_ | refine we_one ?_)
  | (refine idUn ?_; first | refine we_neg ?_ | refine we_not ?_)
  | refine we_if ?_ | refine we_fld ?_ | refine we_tup ?_ | refine we_lst ?_)
set_option hygiene false in
local macro_rules | `(tactic| walk_at "WT") => `(tactic| first
  | (refine idTC ?_; walk_at "CT")
  | (refine idTB ?_; first | refine wt_W (ww_and ?_) | refine wt_W (ww_or ?_))
  | refine wt_not ?_)
set_option hygiene false in
local macro_rules | `(tactic| walk_at "W") => `(tactic| first
  | (refine idE ?_; walk_at "WE")
  | (refine idT ?_; walk_at "WT")
  | (refine idW ?_; first | refine ww_and ?_ | refine ww_or ?_ | refine ww_and1 ?_ | refine ww_or1 ?_)
  | refine wb_one ?_ | refine wb_cons ?_ | refine wb_nil ?_
  | refine ws_ret ?_ | refine ws_if ?_ | refine ws_expr ?_
  | refine wa_nil ?_ | refine wa_cons ?_ | refine wk_nil ?_ | refine wk_cons ?_
  | refine wts_nil ?_ | refine wts_one ?_
  | walk_at "L")
set_option hygiene false in
local macro_rules | `(tactic| walk_at "F") => `(tactic| refine ⟨_, _, _, _, _, rfl, hW.ob, T.clW, (by with_reducible first | exact T.wS | exact T.wH | exact T.wU | exact T.wL), rfl, ?_⟩)
set_option hygiene false in
local macro_rules | `(tactic| walk_at "D") => `(tactic| (refine we_ixT ?_; (repeat walk_at "W"); refine ⟨_, _, _, _, rfl, rfl, SqT.of hA, rfl, ?_⟩))
set_option hygiene false in
local macro_rules | `(tactic| walk_at "M") => `(tactic| (refine we_var 0 ?_; refine ⟨_, _, _, rfl, hW.ob, rfl, ?_⟩))
set_option hygiene false in
local macro_rules | `(tactic| walk_at "A") => `(tactic| (refine we_ixT ?_; (repeat walk_at "W"); refine ⟨_, _, _, _, rfl, rfl, SqT.of (sm _ _ hA), rfl, ?_⟩))
set_option hygiene false in
local macro_rules | `(tactic| walk_at "P") => `(tactic| (refine we_ixT ?_; (repeat walk_at "W"); refine ⟨_, _, _, _, rfl, rfl, SqT.of (hS.same sm).tup, rfl, ?_⟩))
set_option hygiene false in
local macro_rules | `(tactic| walk_at "Q") => `(tactic| (refine we_ixT ?_; (repeat walk_at "W"); refine ⟨_, _, _, _, rfl, rfl, SqT.of (hT.same sm).tup, rfl, ?_⟩))
set_option hygiene false in
local macro_rules | `(tactic| walk_at "I") => `(tactic| (refine wt_inTup ?_; walk_at "A"; (repeat walk_at "W"); refine ⟨rfl, rfl, by show _ ≤ sizeLine; decide, fun Hc smc => ?_⟩; replace sm := sm.trans smc; clear smc))
set_option hygiene false in
local macro_rules | `(tactic| walk_at "G") => `(tactic| (refine ⟨l, _, rfl, sm _ _ hl, ints_flat _, fun Hc smc => ?_⟩; replace sm := sm.trans smc; clear smc; rw [hg]))
set_option hygiene false in
local macro_rules | `(tactic| walk_at "R") => `(tactic| (refine ⟨l2, _, rfl, sm _ _ hl2, ints_flat _, fun Hc smc => ?_⟩; replace sm := sm.trans smc; clear smc; rw [hm]))
set_option hygiene false in
local macro_rules | `(tactic| walk_at "N") => `(tactic| (refine we_len (fun _ => T.len) ?_; (repeat walk_at "W"); refine ⟨l2, _, rfl, .inl (SqL.of (sm _ _ hl2)), ?_⟩; rw [hm]))
set_option hygiene false in
local macro_rules | `(tactic| walk_at "E") => `(tactic| ((repeat walk_at "W"); walk_at "I"; (repeat walk_at "W"); walk_at "A"; (repeat walk_at "W"); walk_at "G"; (repeat walk_at "W"); walk_at "R"; (repeat walk_at "W"); exact k _ (sm0.trans sm)))
set_option hygiene false in
local macro_rules | `(tactic| walk_at "J") => `(tactic| (refine we_inTup ?_; walk_at "A"; (repeat walk_at "W"); refine ⟨rfl, rfl, by show _ ≤ sizeLine; decide, fun Hc smc => ?_⟩; replace sm := sm.trans smc; clear smc))
set_option hygiene false in
local macro_rules | `(tactic| walk_at "K") => `(tactic| ((repeat walk_at "W"); walk_at "A"))
set_option hygiene false in
local macro_rules | `(tactic| walk_at "H") => `(tactic| (refine wb_cons (ws_set 5 ?_ hN); (repeat walk_at "W"); refine we_intc (fun _ => T.int) ?_; (repeat walk_at "W"); walk_at "P"; (repeat walk_at "W"); refine we_intb (fun _ => T.int) ?_; (repeat walk_at "W"); walk_at "A"; (repeat walk_at "W"); walk_at "A"; (repeat walk_at "W"); rw [farB]; refine l_I (cmulF d0 d1 far) ?_; (repeat walk_at "W"); rw [show (S.stand + d * if far = true then 1 else 0) = bs d S far from rfl]; refine l_I (cmul2 d0 d1) (l_I md ?_); refine wb_cons (ws_set 6 ?_ hN); refine we_dget1 hu ?_; walk_at "P"; refine ⟨D, rfl, (hS.same sm).isD, ?_⟩; (repeat walk_at "W"); refine ⟨_, (hS.same sm).get _, ?_⟩; rw [optV_get]; refine wb_cons ?_))
set_option hygiene false in
local macro_rules | `(tactic| walk_at "Z") => `(tactic| ((repeat (first | refine we_eqSt hr ?_ | walk_at "W")); refine ⟨r', D', A', r, D, A, d, S, rfl, rfl, hT.same sm, hS.same sm, ?_⟩; (repeat walk_at "W")))
set_option hygiene false in
local macro_rules | `(tactic| walk_at "HC") => `(tactic| (refine wt_val ?_; refine we_call GH hr ?_; (repeat walk_at "W"); walk_at "A"; refine wa_nil ⟨r, D, A, d, S, t, rfl, hS.same sm, fun Hc smc => ?_⟩; replace sm := sm.trans smc; clear smc))
set_option hygiene false in
local macro_rules | `(tactic| walk_at "T") => `(tactic| ((repeat walk_at "W"); refine ws_set 8 ?_ hN; refine we_call GTu hr ?_; (repeat walk_at "W"); refine ⟨a, _, _, rfl, sm _ _ hA, hok, hnum, fun Hc smc => ?_⟩; replace sm := sm.trans smc; clear smc; refine wb_cons ?_; (repeat walk_at "W"); walk_at "Q"; (repeat walk_at "W"); refine we_intc (fun _ => T.int) ?_; (repeat walk_at "W"); walk_at "P"; (repeat walk_at "W"); refine l_I (cmul2 d0 d1) (l_I md ?_); (repeat walk_at "W"); refine Br.f (ne_int hst) (wb_nil ?_); refine wb_cons ?_; (repeat walk_at "W"); walk_at "Q"; (repeat walk_at "W"); walk_at "P"; (repeat walk_at "W"); refine we_max (fun _ => T.max) ?_; (repeat walk_at "W"); refine Br.f (ne_int hln) (wb_nil ?_); refine wb_one ?_; (repeat walk_at "W"); refine we_call GC hr ?_; (repeat walk_at "W"); exact ⟨a, r, D, r', D', _, A, A', d, S, S', _, rfl, sm _ _ hA, hS.same sm, hT.same sm, nDD, hCh, fun H2 s2 => k _ (sm.trans s2)⟩))
set_option hygiene false in
local macro_rules | `(tactic| walk_at "NC") => `(tactic| (refine wt_val ?_; refine we_call GN hr ?_; (repeat walk_at "W"); refine ⟨a, r, D, r', D', A, A', d, m, S, S', _, rfl, sm _ _ hA, hok, hS.same sm, hT.same sm, d0, d1, m0, hno, hfi, fun Hc smc => ?_⟩; replace sm := sm.trans smc; clear smc))
set_option hygiene false in
local macro_rules | `(tactic| walk_at "U") => `(tactic| ((repeat walk_at "W"); walk_at "I"; (repeat walk_at "W"); refine wt_isB ?_; (repeat walk_at "W"); refine ⟨rfl, ?_⟩; (repeat walk_at "W"); walk_at "I"; (repeat walk_at "W"); walk_at "NC"; (repeat walk_at "W"); walk_at "I"; walk_at "K"; walk_at "K"; walk_at "T"))
/-! A line in plain Lean: how it stands, what a plain deed tells. -/
namespace Rn
open PySem L2 StX

/-- how a line stands: its turn, its things by their names, the places that it was pulled by -/
structure LS where
  stand : Int
  hung : List (Str × Int)
  lengths : Int
def spot (d : Int) (S : LS) (far : Bool) : Int := (S.stand + (if far then d else 0)) % (2 * d)
def thingAt (d : Int) (S : LS) (far : Bool) : Option Str := (S.hung.find? fun p => decide (p.2 = spot d S far)).map (·.1)
def shift (d : Int) (S : LS) (n : Int) : LS := ⟨(S.stand + n) % (2 * d), S.hung, S.lengths + n.natAbs⟩
def adv (d : Int) (S : LS) (k : Nat) : LS := ⟨(S.stand + k) % (2 * d), S.hung, S.lengths + k⟩
def add (S : LS) (t : Str) (p : Int) : LS := ⟨S.stand, S.hung ++ [(t, p)], S.lengths⟩
def rem (S : LS) (t : Str) : LS := ⟨S.stand, S.hung.filter fun p => !decide (p.1 = t), S.lengths⟩
def at1 (l : List (Str × Int)) (t : Str) : Option Int := (l.find? fun p => decide (p.1 = t)).map (·.2)
def first (d sp pl s : Int) : Int := (if 0 < s then pl - sp else -(pl - sp)) % (2 * d)
/-- the least of so many rounds that fits -/
def timesTo (d sp pl s : Int) : Option Int := ((List.range s.natAbs).find? fun (r : Nat) => decide ((first d sp pl s + (r : Int) * 2 * d) % (s.natAbs : Int) = 0)).map fun (r : Nat) => (first d sp pl s + (r : Int) * 2 * d) / (s.natAbs : Int)

inductive PDeed where
  | pull (n : Int) | walk (far : Bool) (s : Int) | peg (far : Bool) (t : Str) | hang (far : Bool) (t : Str) | fetch (far : Bool) (t : Str) | take (far : Bool) | look (far : Bool)
inductive Deed where
  | plain (p : PDeed) | when (far : Bool) (o : Option Str) (p : PDeed)
def optV : Option Str → V
  | none => .non
  | some t => .str t
/-- a line whose things and places are as they should be -/
structure Good (d : Int) (S : LS) : Prop where
  s0 : 0 ≤ S.stand
  s1 : S.stand < 2 * d
  keys : (S.hung.map (·.1)).Nodup
  places : (S.hung.map (·.2)).Nodup
  rng : ∀ p ∈ S.hung, 0 ≤ p.2 ∧ p.2 < 2 * d

def Tell (d : Int) (S : LS) (r : V) (S' : LS) : PDeed → Prop
  | .pull n => r = .bl true ∧ S' = shift d S n
  | .peg far t => (r = .bl false ∧ S' = S ∧ ((at1 S.hung t).isSome = true ∨ (thingAt d S far).isSome = true)) ∨ (r = .bl true ∧ at1 S.hung t = none ∧ thingAt d S far = none ∧ S' = add S t (spot d S far))
  | .hang far t => (r = .non ∧ S' = S ∧ ((at1 S.hung t).isSome = true ∨ (S.hung.length : Int) = 2 * d)) ∨
      ∃ k : Nat, r = .int k ∧ at1 S.hung t = none ∧ (∀ j, j < k → (thingAt d (adv d S j) far).isSome = true) ∧ thingAt d (adv d S k) far = none ∧ S' = add (adv d S k) t (spot d (adv d S k) far)
  | .fetch far t => (r = .non ∧ S' = S ∧ at1 S.hung t = none) ∨ ∃ p, at1 S.hung t = some p ∧ r = .int ((p - spot d S far) % (2 * d)) ∧ S' = shift d S ((p - spot d S far) % (2 * d))
  | .walk far s => (r = .non ∧ S' = S ∧ ∀ q ∈ S.hung, timesTo d (spot d S far) q.2 s = none) ∨
      ∃ m : Int, r = .int m ∧ S' = shift d S (m * s) ∧ (∃ q ∈ S.hung, timesTo d (spot d S far) q.2 s = some m) ∧ ∀ q ∈ S.hung, ∀ m', timesTo d (spot d S far) q.2 s = some m' → m ≤ m'
  | .take far => (r = .non ∧ thingAt d S far = none ∧ S' = S) ∨ ∃ t, thingAt d S far = some t ∧ r = .str t ∧ S' = rem S t
  | .look far => r = optV (thingAt d S far) ∧ S' = S

/-! ### on the heap -/
def hk (l : List (Str × Int)) : List (Key × V) := l.map fun p => (Sum.inr p.1, V.int p.2)
theorem hk_len (l : List (Str × Int)) : (hk l).length = l.length := List.length_map _
theorem hk_val (l : List (Str × Int)) (t : Str) : valV (hk l) (Sum.inr t : Key) = (at1 l t).map V.int := by
  induction l with
  | nil => rfl
  | cons a r ih =>
    unfold valV hk at1 at *
    rw [List.map_cons, List.find?_cons, List.find?_cons]
    by_cases e : a.1 = t
    · simp [e]
    · have e2 : ¬ (Sum.inr a.1 : Key) = Sum.inr t := fun z => e (Sum.inr.inj z)
      simp only [decide_eq_false e, decide_eq_false e2]
      exact ih
theorem at1_mem {l : List (Str × Int)} {t : Str} {p : Int} (h : at1 l t = some p) : (t, p) ∈ l := by
  unfold at1 at h
  cases e : l.find? fun p => decide (p.1 = t) with
  | none => rw [e] at h; cases h
  | some q =>
    rw [e] at h
    have e1 := List.find?_some e
    have e2 := List.mem_of_find?_eq_some e
    have e3 : q.1 = t := by simpa using e1
    have e4 : q.2 = p := Option.some.inj h
    rw [← e3, ← e4]
    exact e2
theorem hk_put {l : List (Str × Int)} {t : Str} {p : Int} (h : at1 l t = none) : putK (hk l) (Sum.inr t : Key) (.int p) = hk (l ++ [(t, p)]) := by
  rw [putK_new _ (by rw [hk_val, h]; rfl)]
  unfold hk
  rw [List.map_append]
  rfl
theorem hk_drop (l : List (Str × Int)) (t : Str) : dropK (hk l) (Sum.inr t : Key) = hk (l.filter fun p => !decide (p.1 = t)) := by
  induction l with
  | nil => rfl
  | cons a r ih =>
    have ih' : dropK (hk r) (Sum.inr t : Key) = hk (r.filter fun p => !decide (p.1 = t)) := ih
    show dropK ((Sum.inr a.1, V.int a.2) :: hk r) (Sum.inr t) = hk ((a :: r).filter fun p => !decide (p.1 = t))
    by_cases e : a.1 = t
    · rw [dropK_pos (by rw [e]), List.filter_cons, if_neg (by simp [e]), ih']
    · rw [dropK_neg (fun z => e (Sum.inr.inj z)), List.filter_cons, if_pos (by simp [e]), ih']
      rfl
def wf (d : Int) (h : Addr) (S : LS) : List (Str × V) := [("half", .int d), ("stand", .int S.stand), ("hung", .ref h), ("lengths", .int S.lengths)]
/-- the object alone (its dict may be locked) -/
structure WorkO (CW : Addr) (H : Hp) (d : Int) (W h dx : Addr) (S : LS) : Prop where
  ob : H W = some (.ins CW dx (wf d h S))
  d0 : 0 < d
  d1 : d ≤ 10 ^ 50
structure WorkAt (CW : Addr) (H : Hp) (d : Int) (W h dx : Addr) (S : LS) : Prop where
  ob : H W = some (.ins CW dx (wf d h S))
  dc : H h = some (.dK (hk S.hung))
  d0 : 0 < d
  d1 : d ≤ 10 ^ 50
  good : Good d S
  few : S.hung.length ≤ 1000
theorem WorkAt.o {CW : Addr} {H : Hp} {d : Int} {W h dx : Addr} {S : LS} (a : WorkAt CW H d W h dx S) : WorkO CW H d W h dx S := ⟨a.ob, a.d0, a.d1⟩
theorem WorkO.same {CW : Addr} {H H' : Hp} {d : Int} {W h dx : Addr} {S : LS} (a : WorkO CW H d W h dx S) (e : Same H H') : WorkO CW H' d W h dx S := ⟨e _ _ a.ob, a.d0, a.d1⟩
theorem WorkAt.same {CW : Addr} {H H' : Hp} {d : Int} {W h dx : Addr} {S : LS} (a : WorkAt CW H d W h dx S) (e : Same H H') : WorkAt CW H' d W h dx S := ⟨e _ _ a.ob, e _ _ a.dc, a.d0, a.d1, a.good, a.few⟩
theorem WorkAt.ne {CW : Addr} {H : Hp} {d : Int} {W h dx : Addr} {S : LS} (a : WorkAt CW H d W h dx S) : W ≠ h := ne_of a.ob a.dc (by intro z; cases z)
theorem same_unlock {H H' : Hp} {a : Addr} {o : Obj} {u : HO} (h : H a = some u) (e : Same (upd H a (.frz o u)) H') : Same H (upd H' a u) := fun b v z => by
  by_cases q : b = a
  · subst q; rw [upd_same, ← z, h]
  · rw [upd_ne q]; exact e b v (by rw [upd_ne q]; exact z)
theorem same_in {H H' : Hp} {a : Addr} {o : Obj} {u : HO} (e : Same (upd H a (.frz o u)) H') : H' a = some (.frz o u) := e _ _ upd_same
theorem pow50 : (10 : Int) ^ 50 < 2 ^ 200 := by decide
theorem cmul2 {d : Int} (h0 : 0 < d) (h1 : d ≤ 10 ^ 50) : CMulW 2 d := wide_mul (a := 2) (b := 200) (by decide) (by have := pow50; omega) (by decide) (by decide) (by decide)
theorem nodup_le : ∀ {l m : List Int}, l.Nodup → (∀ x ∈ l, x ∈ m) → l.length ≤ m.length
  | [], _, _, _ => Nat.zero_le _
  | a :: l, m, hn, hs => by
    obtain ⟨h1, h2⟩ := List.nodup_cons.mp hn
    have ha : a ∈ m := hs a (List.mem_cons_self ..)
    have q := nodup_le (l := l) (m := m.erase a) h2 fun x hx => (List.mem_erase_of_ne (fun z => h1 (by rw [← z]; exact hx))).mpr (hs x (List.mem_cons_of_mem _ hx))
    rw [List.length_erase_of_mem ha] at q
    have : 0 < m.length := List.length_pos_of_mem ha
    rw [List.length_cons]
    omega
/-- turns of less than a round come to unlike places -/
theorem places_nodup {d x : Int} (h : 0 < d) : ∀ k : Nat, (k : Int) ≤ 2 * d → ((List.range k).map fun j : Nat => (x + (j : Int)) % (2 * d)).Nodup := by
  intro k
  induction k with
  | zero => intro _; exact List.nodup_nil
  | succ k ih =>
    intro hk
    rw [List.range_succ, List.map_append]
    have q := ih (by omega)
    refine nd_snoc q fun m => ?_
    obtain ⟨j, hj, e⟩ := List.mem_map.mp m
    have hj' := List.mem_range.mp hj
    have e1 := Int.emod_emod_of_dvd (x + (j : Int)) (Int.dvd_refl (2 * d))
    have e2 : (x + (k : Int) - (x + (j : Int))) % (2 * d) = 0 := Int.emod_eq_emod_iff_emod_sub_eq_zero.mp e.symm
    have e3 : (x + (k : Int) - (x + (j : Int))) % (2 * d) = (x + (k : Int) - (x + (j : Int))) := Int.emod_eq_of_lt (by omega) (by omega)
    omega
theorem spot_adv {d : Int} {S : LS} {far : Bool} (h : 0 < d) (k : Nat) : spot d (adv d S k) far = (S.stand + (if far then d else 0) + (k : Int)) % (2 * d) := by
  unfold spot adv
  show ((S.stand + (k : Int)) % (2 * d) + (if far then d else 0)) % (2 * d) = _
  rw [Int.emod_add_emod]
  congr 1
  omega
theorem thing_some {d : Int} {S : LS} {far : Bool} : (thingAt d S far).isSome = true ↔ spot d S far ∈ S.hung.map (·.2) := by
  unfold thingAt
  rw [Option.isSome_map, List.find?_isSome, List.mem_map]
  constructor
  · rintro ⟨p, hp, e⟩; exact ⟨p, hp, by simpa using e⟩
  · rintro ⟨p, hp, e⟩; exact ⟨p, hp, by simpa using e⟩
theorem occupied {d : Int} {S : LS} {far : Bool} (h : 0 < d) {k : Nat} (hk : (k : Int) ≤ 2 * d) (o : ∀ j, j < k → (thingAt d (adv d S j) far).isSome = true) : k ≤ S.hung.length := by
  have q := nodup_le (places_nodup (x := S.stand + (if far then d else 0)) h k hk) (m := S.hung.map (·.2)) fun x hx => by
    obtain ⟨j, hj, rfl⟩ := List.mem_map.mp hx
    have z := thing_some.mp (o j (List.mem_range.mp hj))
    rw [spot_adv h] at z
    exact z
  rwa [List.length_map, List.length_range, List.length_map] at q
/-- some place is free -/
theorem free_at {d : Int} {S : LS} (far : Bool) (g : Good d S) (h : 0 < d) (hl : (S.hung.length : Int) ≠ 2 * d) : ∃ k : Nat, (k : Int) ≤ 2 * d ∧ thingAt d (adv d S k) far = none := by
  have hle : (S.hung.length : Int) ≤ 2 * d := by
    have q := nodup_le g.places (m := (List.range (2 * d).toNat).map fun j : Nat => (j : Int)) fun x hx => by
      obtain ⟨p, hp, rfl⟩ := List.mem_map.mp hx
      obtain ⟨h0, h1⟩ := g.rng p hp
      exact List.mem_map.mpr ⟨p.2.toNat, List.mem_range.mpr (by omega), by omega⟩
    rw [List.length_map, List.length_map, List.length_range] at q
    omega
  by_cases z : ∃ k : Nat, (k : Int) ≤ 2 * d ∧ thingAt d (adv d S k) far = none
  · exact z
  · exfalso
    have o : ∀ j, j < S.hung.length + 1 → (thingAt d (adv d S j) far).isSome = true := fun j hj => by
      cases e : thingAt d (adv d S j) far with
      | none => exact absurd ⟨j, by omega, e⟩ z
      | some t => rfl
    have := occupied h (by omega) o
    omega
theorem at1_none {l : List (Str × Int)} {t : Str} (h : at1 l t = none) : t ∉ l.map (·.1) := fun m => by
  obtain ⟨p, hp, e⟩ := List.mem_map.mp m
  unfold at1 at h
  rw [Option.map_eq_none_iff, List.find?_eq_none] at h
  have := h p hp
  simp [e] at this
theorem Good.adv {d : Int} {S : LS} (g : Good d S) (h : 0 < d) (k : Nat) : Good d (adv d S k) := ⟨Int.emod_nonneg _ (by omega), Int.emod_lt_of_pos _ (by omega), g.keys, g.places, g.rng⟩
theorem Good.add {d : Int} {S : LS} {t : Str} {far : Bool} (g : Good d S) (h : 0 < d) (ht : at1 S.hung t = none) (hf : thingAt d S far = none) : Good d (add S t (spot d S far)) := by
  have np : spot d S far ∉ S.hung.map (·.2) := fun m => by
    have q := thing_some.mpr m
    rw [hf] at q
    cases q
  refine ⟨g.s0, g.s1, ?_, ?_, fun p hp => ?_⟩
  · show ((S.hung ++ [(t, spot d S far)]).map (·.1)).Nodup
    rw [List.map_append]
    exact nd_snoc g.keys (at1_none ht)
  · show ((S.hung ++ [(t, spot d S far)]).map (·.2)).Nodup
    rw [List.map_append]
    exact nd_snoc g.places np
  · rcases List.mem_append.mp hp with hp | hp
    · exact g.rng p hp
    · have : p = (t, spot d S far) := by simpa using hp
      rw [this]
      exact ⟨Int.emod_nonneg _ (by omega), Int.emod_lt_of_pos _ (by omega)⟩
theorem adv0 {d : Int} {S : LS} (g : Good d S) : adv d S 0 = S := by
  unfold adv
  have e : (S.stand + ((0 : Nat) : Int)) % (2 * d) = S.stand := by
    have := g.s0
    have := g.s1
    rw [Int.emod_eq_of_lt] <;> omega
  rw [e]
  show LS.mk S.stand S.hung (S.lengths + 0) = S
  rw [Int.add_zero]
theorem adv_succ {d : Int} {S : LS} (k : Nat) : shift d (adv d S k) 1 = adv d S (k + 1) := by
  unfold shift adv
  show LS.mk (((S.stand + (k : Int)) % (2 * d) + 1) % (2 * d)) S.hung (S.lengths + (k : Int) + 1) = _
  rw [Int.emod_add_emod]
  congr 1
  · congr 1; omega
  · omega
end Rn
/-! The line's work: its methods. -/
namespace Rn
open PySem L2 StX

section
variable {P : Program} {w : World} {K : PySem.W.Frag} {mg : Str → Option Value} {base : Heap} {CW CL : Addr}
/-! ### spot_at -/
abbrev sSpot : Stmt := inClass (top 21) 1
def spSpot (CW : Addr) : Sp := fun vs H Q _ => ∃ (d : Int) (W h dx : Addr) (S : LS) (far : Bool), vs = [.ref W, .str (win far)] ∧ WorkO CW H d W h dx S ∧ Q (.int (spot d S far)) H
theorem scSpot : FnScope ["self", "window"] ["self", "window"] (defScope sSpot) := ⟨rfl, rfl, rfl, by decide +kernel, rfl, by decide +kernel, by decide +kernel⟩
theorem ok_spot {f : Addr} {fd : FuncData} (F : Fun K "spot_at" "LineWork.spot_at" sSpot f fd) (T : Txt K mg CW CL) : FnOk P w K mg base CX0 1 f fd ["self", "window"] (spSpot CW) := by
  refine fun_w F scSpot (fun vs H Q E h => ?_) (fun cdv A outer s H vs Q E hr hN h => ?_)
  · obtain ⟨d, W, h, dx, S, far, rfl, _⟩ := h
    rfl
  · obtain ⟨d, W, h, dx, S, far, rfl, hW, k⟩ := h
    cases far
    all_goals
      repeat walk_at "W"
      walk_at "F"
      repeat walk_at "W"
    · walk_at "F"
      refine l_I (cmul2 hW.d0 hW.d1) (l_I (by have := hW.d0; omega) ?_)
      exact k
    · walk_at "F"
      repeat walk_at "W"
      walk_at "F"
      refine l_I (cmul2 hW.d0 hW.d1) (l_I (by have := hW.d0; omega) ?_)
      exact k
/-! ### thing_at -/
abbrev sThing : Stmt := inClass (top 21) 2
def spThing (CW : Addr) : Sp := fun vs H Q _ => ∃ (d : Int) (W h dx : Addr) (S : LS) (far : Bool), vs = [.ref W, .str (win far)] ∧ WorkAt CW H d W h dx S ∧ ∀ H', Same H H' → Q (optV (thingAt d S far)) H'
theorem scThing : FnScope ["self", "window", "spot", "thing", "place"] ["self", "window"] (defScope sThing) := ⟨rfl, rfl, rfl, by decide +kernel, rfl, by decide +kernel, by decide +kernel⟩
theorem ok_thing {f : Addr} {fd : FuncData} (F : Fun K "thing_at" "LineWork.thing_at" sThing f fd) (T : Txt K mg CW CL) (G : CalM P w K mg base CW "spot_at" 1 (spSpot CW)) : FnOk P w K mg base CX0 2 f fd ["self", "window"] (spThing CW) := by
  refine fun_w F scThing (fun vs H Q E h => ?_) (fun cdv A outer s H vs Q E hr hN h => ?_)
  · obtain ⟨d, W, h, dx, S, far, rfl, _⟩ := h
    rfl
  · obtain ⟨d, W, h, dx, S, far, rfl, hW, k⟩ := h
    refine wb_cons ?_
    refine ws_set 2 ?_ hN
    refine we_meth T.clW G hr ?_
    refine we_var 0 ?_
    refine ⟨_, _, _, rfl, hW.ob, rfl, ?_⟩
    repeat walk_at "W"
    refine ⟨d, W, h, dx, S, far, rfl, hW.o, ?_⟩
    refine wb_cons ?_
    refine ws_lock hW.dc fun od => ?_
    refine ws_for ?_
    refine wi_items ?_
    repeat walk_at "W"
    refine ⟨_, _, _, _, _, rfl, (by rw [upd_ne hW.ne]; exact hW.ob), T.clW, T.wU, rfl, ?_⟩
    refine ⟨h, od, hk S.hung, rfl, upd_same, S.hung.length, fun i σ H' => (∃ a b, σ = [some (.ref W), some (.str (win far)), some (.int (spot d S far)), a, b]) ∧ Same (upd H h (.frz od (.dK (hk S.hung)))) H' ∧ ∀ p ∈ S.hung.take i, ¬ p.2 = spot d S far, ?_, ?_, ?_⟩
    · exact ⟨⟨_, _, rfl⟩, Same.refl _, fun p hp => by simp at hp⟩
    · rintro i σ H1 hi ⟨⟨a, b, rfl⟩, sm, no⟩
      refine ⟨⟨same_in sm, by rw [hk_len]; exact hi⟩, ?_⟩
      rintro x H2 ⟨t, kk, v, ek, rfl, ht, rfl⟩
      obtain ⟨p, ep⟩ : ∃ p, S.hung[i]? = some p := ⟨_, List.getElem?_eq_getElem hi⟩
      have e2 : (hk S.hung)[i]? = some (Sum.inr p.1, V.int p.2) := by unfold hk; rw [List.getElem?_map, ep]; rfl
      rw [e2] at ek
      cases ek
      have sm2 : Same (upd H h (.frz od (.dK (hk S.hung)))) (upd H1 t (.tup [kV (Sum.inr p.1), V.int p.2])) := sm.trans (Same.new ht)
      refine wg_tup (SqT.of upd_same) rfl ?_
      refine wgs_cons (wg_name 3 ?_ hN)
      refine wgs_cons (wg_name 4 ?_ hN)
      refine wgs_nil ?_
      repeat walk_at "W"
      refine Br.mk (fun e => ?_) (fun e => ?_)
      · repeat walk_at "W"
        refine ⟨same_in sm2, ?_⟩
        have e' : p.2 = spot d S far := V.int.inj (of_decide_eq_true e)
        have z : thingAt d S far = some p.1 := by
          unfold thingAt
          have q : S.hung.find? (fun p => decide (p.2 = spot d S far)) = some p := by
            rw [List.find?_eq_some_iff_getElem]
            refine ⟨decide_eq_true e', i, hi, (List.getElem?_eq_some_iff.mp ep).2, fun j hj => ?_⟩
            have m : S.hung[j] ∈ S.hung.take i := by
              rw [List.mem_take_iff_getElem]
              exact ⟨j, by omega, rfl⟩
            simpa using no _ m
          rw [q] <;> rfl
        have k' := k _ (same_unlock hW.dc sm2)
        rw [z] at k'
        exact k'
      · repeat walk_at "W"
        refine ⟨⟨_, _, rfl⟩, sm2, fun q hq => ?_⟩
        rw [List.take_add_one, ep] at hq
        rcases List.mem_append.mp hq with hq | hq
        · exact no q hq
        · have : q = p := by simpa using hq
          rw [this]
          exact fun z => by rw [z] at e; simp at e
    · rintro σ H1 ⟨⟨a, b, rfl⟩, sm, no⟩
      refine ⟨⟨same_in sm, by rw [hk_len]; exact Nat.le_refl _⟩, same_in sm, ?_⟩
      repeat walk_at "W"
      have z : thingAt d S far = none := by
        unfold thingAt
        have q : S.hung.find? (fun p => decide (p.2 = spot d S far)) = none := by
          rw [List.find?_eq_none]
          intro p hp
          rw [List.take_length] at no
          simpa using no p hp
        rw [q] <;> rfl
      have k' := k _ (same_unlock hW.dc sm)
      rw [z] at k'
      exact k'
end
end Rn
/-! The line's work: what changes it. -/
namespace Rn
open PySem L2 StX

section
variable {P : Program} {w : World} {K : PySem.W.Frag} {mg : Str → Option Value} {base : Heap} {CW CL : Addr}
theorem lt2d {d x : Int} (h : 0 < d) : 0 ≤ x % (2 * d) ∧ x % (2 * d) < 2 * d := ⟨Int.emod_nonneg _ (by omega), Int.emod_lt_of_pos _ (by omega)⟩
theorem Good.shift {d : Int} {S : LS} (g : Good d S) (h : 0 < d) (n : Int) : Good d (shift d S n) := ⟨(lt2d h).1, (lt2d h).2, g.keys, g.places, g.rng⟩
/-! ### shift -/
abbrev sShift : Stmt := inClass (top 21) 3
def spShift (CW : Addr) : Sp := fun vs H Q _ => ∃ (d : Int) (W h dx : Addr) (S : LS) (n : Int), vs = [.ref W, .int n] ∧ WorkAt CW H d W h dx S ∧ ∀ H', But (· = W) H H' → WorkAt CW H' d W h dx (shift d S n) → Q .non H'
theorem scShift : FnScope ["self", "number"] ["self", "number"] (defScope sShift) := ⟨rfl, rfl, rfl, by decide +kernel, rfl, by decide +kernel, by decide +kernel⟩
theorem ok_shift {f : Addr} {fd : FuncData} (F : Fun K "shift" "LineWork.shift" sShift f fd) (T : Txt K mg CW CL) : FnOk P w K mg base CX0 1 f fd ["self", "number"] (spShift CW) := by
  refine fun_w F scShift (fun vs H Q E h => ?_) (fun cdv A outer s H vs Q E hr hN h => ?_)
  · obtain ⟨d, W, h, dx, S, far, rfl, _⟩ := h
    rfl
  · obtain ⟨d, W, h, dx, S, n, rfl, hW, k⟩ := h
    refine wb_cons ?_
    refine ws_fld ?_
    repeat walk_at "W"
    walk_at "F"
    repeat walk_at "W"
    walk_at "F"
    refine l_I (cmul2 hW.d0 hW.d1) (l_I (by have := hW.d0; omega) ?_)
    repeat walk_at "W"
    refine ⟨_, _, _, _, rfl, hW.ob, T.clW, T.wS, (by show 4 < 1000; decide), ?_⟩
    refine wb_one ?_
    refine ws_fldaug (op := .Add) (fun _ => in_add) ?_
    repeat walk_at "W"
    refine ⟨_, _, _, _, _, rfl, upd_same, T.clW, T.wL, rfl, ?_⟩
    refine we_abs (fun _ => T.abs) ?_
    repeat walk_at "W"
    refine ⟨_, _, rfl, rfl, ?_⟩
    refine ⟨_, _, upd_same, (by show 4 < 1000; decide), ?_⟩
    refine k _ (fun b o e nb => by rw [upd_ne nb, upd_ne nb]; exact e) ⟨upd_same, ?_, hW.d0, hW.d1, hW.good.shift hW.d0 n, hW.few⟩
    rw [upd_ne hW.ne.symm, upd_ne hW.ne.symm]
    exact hW.dc
/-! ### look -/
abbrev sLook : Stmt := inClass (top 21) 5
def spLook (CW : Addr) : Sp := fun vs H Q _ => ∃ (d : Int) (W h dx : Addr) (S : LS) (far tk : Bool), vs = [.ref W, .str (win far), .bl tk] ∧ WorkAt CW H d W h dx S ∧
  ∀ r S' H', But (· = h) H H' → WorkAt CW H' d W h dx S' → (if tk then Tell d S r S' (.take far) else Tell d S r S' (.look far)) → Q r H'
theorem scLook : FnScope ["self", "window", "takes", "found"] ["self", "window", "takes"] (defScope sLook) := ⟨rfl, rfl, rfl, by decide +kernel, rfl, by decide +kernel, by decide +kernel⟩
theorem thing_mem {d : Int} {S : LS} {far : Bool} {t : Str} (h : thingAt d S far = some t) : ∃ p, (t, p) ∈ S.hung ∧ p = spot d S far := by
  unfold thingAt at h
  cases e : S.hung.find? fun p => decide (p.2 = spot d S far) with
  | none => rw [e] at h; cases h
  | some q =>
    rw [e] at h
    have e1 := List.find?_some e
    have e2 := List.mem_of_find?_eq_some e
    have e4 : q.1 = t := Option.some.inj h
    refine ⟨q.2, ?_, by simpa using e1⟩
    rw [← e4]
    exact e2
theorem at1_of {l : List (Str × Int)} {t : Str} {p : Int} (h : (t, p) ∈ l) : ∃ q, at1 l t = some q := by
  unfold at1
  cases e : l.find? fun p => decide (p.1 = t) with
  | none =>
    have := List.find?_eq_none.mp e _ h
    simp at this
  | some q => exact ⟨q.2, rfl⟩
theorem nodup_filter {α β : Type} {l : List α} {f : α → β} {p : α → Bool} (h : (l.map f).Nodup) : ((l.filter p).map f).Nodup := by
  have s : List.Sublist ((l.filter p).map f) (l.map f) := (List.filter_sublist (p := p) (l := l)).map f
  exact h.sublist s
theorem Good.rem {d : Int} {S : LS} (g : Good d S) (t : Str) : Good d (rem S t) := ⟨g.s0, g.s1, nodup_filter g.keys, nodup_filter g.places, fun p hp => g.rng p (List.mem_filter.mp hp).1⟩
theorem ok_look {f : Addr} {fd : FuncData} (F : Fun K "look" "LineWork.look" sLook f fd) (T : Txt K mg CW CL) (G : CalM P w K mg base CW "thing_at" 2 (spThing CW)) : FnOk P w K mg base CX0 3 f fd ["self", "window", "takes"] (spLook CW) := by
  refine fun_w F scLook (fun vs H Q E h => ?_) (fun cdv A outer s H vs Q E hr hN h => ?_)
  · obtain ⟨d, W, h, dx, S, far, tk, rfl, _⟩ := h
    rfl
  · obtain ⟨d, W, h, dx, S, far, tk, rfl, hW, k⟩ := h
    refine wb_cons ?_
    refine ws_set 3 ?_ hN
    refine we_meth T.clW G hr ?_
    refine we_var 0 ?_
    refine ⟨_, _, _, rfl, hW.ob, rfl, ?_⟩
    repeat walk_at "W"
    refine ⟨d, W, h, dx, S, far, rfl, hW, fun H1 sm => ?_⟩
    have hW1 := hW.same sm
    repeat walk_at "W"
    refine wt_val ?_
    repeat walk_at "W"
    cases tk with
    | false =>
      repeat walk_at "W"
      exact k _ S _ (But.of sm) hW1 ⟨rfl, rfl⟩
    | true =>
      cases e : thingAt d S far with
      | none =>
        repeat walk_at "W"
        exact k _ S _ (But.of sm) hW1 (.inl ⟨rfl, e, rfl⟩)
      | some t =>
        repeat walk_at "W"
        refine we_dpop1 ?_
        repeat walk_at "W"
        refine ⟨_, _, _, _, _, rfl, hW1.ob, T.clW, T.wU, rfl, ?_⟩
        refine ⟨h, rfl, .inl ⟨_, .inl hW1.dc⟩, ?_⟩
        repeat walk_at "W"
        obtain ⟨p, hp, _⟩ := thing_mem e
        obtain ⟨q, hq⟩ := at1_of hp
        refine ⟨hk S.hung, .inr t, .int q, hW1.dc, rfl, by rw [hk_val, hq]; rfl, ?_⟩
        repeat walk_at "W"
        refine k _ (rem S t) _ (But.trans (But.of sm) (But.upd rfl)) ⟨?_, ?_, hW.d0, hW.d1, hW.good.rem t, ?_⟩ (.inr ⟨t, e, rfl, rfl⟩)
        · rw [upd_ne hW.ne]
          exact hW1.ob
        · rw [upd_same, hk_drop] <;> rfl
        · exact Nat.le_trans (List.length_filter_le _ _) hW.few
end
end Rn
/-! The line's work: peg, hang, fetch. -/
namespace Rn
open PySem L2 StX

section
variable {P : Program} {w : World} {K : PySem.W.Frag} {mg : Str → Option Value} {base : Heap} {CW CL : Addr}
/-- what peg, hang and fetch promise -/
def spAct (CW : Addr) (mk : Bool → Str → PDeed) : Sp := fun vs H Q _ => ∃ (d : Int) (W h dx : Addr) (S : LS) (far : Bool) (t : Str), vs = [.ref W, .str (win far), .str t] ∧ WorkAt CW H d W h dx S ∧ S.hung.length < 1000 ∧
  ∀ r S' H', But (fun b => b = W ∨ b = h) H H' → WorkAt CW H' d W h dx S' → Tell d S r S' (mk far t) → Q r H'
theorem hk_some {l : List (Str × Int)} {t : Str} : ((valV (hk l) (Sum.inr t : Key)).isSome) = (at1 l t).isSome := by
  rw [hk_val]
  cases at1 l t <;> rfl
/-! ### peg -/
abbrev sPeg : Stmt := inClass (top 21) 6
theorem scPeg : FnScope ["self", "window", "thing"] ["self", "window", "thing"] (defScope sPeg) := ⟨rfl, rfl, rfl, by decide +kernel, rfl, by decide +kernel, by decide +kernel⟩
theorem ok_peg {f : Addr} {fd : FuncData} (F : Fun K "peg" "LineWork.peg" sPeg f fd) (T : Txt K mg CW CL) (G : CalM P w K mg base CW "thing_at" 2 (spThing CW)) (G1 : CalM P w K mg base CW "spot_at" 1 (spSpot CW)) :
    FnOk P w K mg base CX0 3 f fd ["self", "window", "thing"] (spAct CW .peg) := by
  refine fun_w F scPeg (fun vs H Q E h => ?_) (fun cdv A outer s H vs Q E hr hN h => ?_)
  · obtain ⟨d, W, h, dx, S, far, t, rfl, _⟩ := h
    rfl
  · obtain ⟨d, W, h, dx, S, far, t, rfl, hW, few, k⟩ := h
    have hu := roomF hr
    repeat walk_at "W"
    refine wt_din hu ?_
    repeat walk_at "W"
    walk_at "F"
    refine ⟨h, _, rfl, DGet.k (k := Sum.inr t) hW.dc, ?_⟩
    repeat walk_at "W"
    rw [hk_some]
    cases e : at1 S.hung t with
    | some p =>
      repeat walk_at "W"
      exact k _ S _ (But.refl _ _) hW (.inl ⟨rfl, rfl, .inl (by rw [e]; rfl)⟩)
    | none =>
      repeat walk_at "W"
      refine we_meth T.clW G hr ?_
      refine we_var 0 ?_
      refine ⟨_, _, _, rfl, hW.ob, rfl, ?_⟩
      repeat walk_at "W"
      refine ⟨d, W, h, dx, S, far, rfl, hW, fun H1 sm => ?_⟩
      have hW1 := hW.same sm
      cases e2 : thingAt d S far with
      | some t2 =>
        repeat walk_at "W"
        exact k _ S _ (But.of sm) hW1 (.inl ⟨rfl, rfl, .inr (by rw [e2]; rfl)⟩)
      | none =>
        repeat walk_at "W"
        refine ws_dput hu ?_
        refine we_meth T.clW G1 hr ?_
        refine we_var 0 ?_
        refine ⟨_, _, _, rfl, hW1.ob, rfl, ?_⟩
        repeat walk_at "W"
        refine ⟨d, W, h, dx, S, far, rfl, hW1.o, ?_⟩
        repeat walk_at "W"
        refine ⟨_, _, _, _, _, rfl, hW1.ob, T.clW, T.wU, rfl, ?_⟩
        repeat walk_at "W"
        refine ⟨h, _, rfl, DPut.k (k := Sum.inr t) hW1.dc (by rw [hk_len]; exact small1000 (by omega)), ?_⟩
        repeat walk_at "W"
        refine k _ (add S t (spot d S far)) _ (But.trans (But.of sm) (But.upd (.inr rfl))) ⟨?_, ?_, hW.d0, hW.d1, hW.good.add hW.d0 e e2, ?_⟩ (.inr ⟨rfl, e, e2, rfl⟩)
        · rw [upd_ne hW.ne]
          exact hW1.ob
        · rw [upd_same, hk_put e] <;> rfl
        · show (S.hung ++ [(t, spot d S far)]).length ≤ 1000
          rw [List.length_append]
          exact few
/-! ### fetch -/
abbrev sFetch : Stmt := inClass (top 21) 8
theorem scFetch : FnScope ["self", "window", "thing", "number"] ["self", "window", "thing"] (defScope sFetch) := ⟨rfl, rfl, rfl, by decide +kernel, rfl, by decide +kernel, by decide +kernel⟩
theorem ok_fetch {f : Addr} {fd : FuncData} (F : Fun K "fetch" "LineWork.fetch" sFetch f fd) (T : Txt K mg CW CL) (G : CalM P w K mg base CW "shift" 1 (spShift CW)) (G1 : CalM P w K mg base CW "spot_at" 1 (spSpot CW)) :
    FnOk P w K mg base CX0 2 f fd ["self", "window", "thing"] (spAct CW .fetch) := by
  refine fun_w F scFetch (fun vs H Q E h => ?_) (fun cdv A outer s H vs Q E hr hN h => ?_)
  · obtain ⟨d, W, h, dx, S, far, t, rfl, _⟩ := h
    rfl
  · obtain ⟨d, W, h, dx, S, far, t, rfl, hW, few, k⟩ := h
    have hu := roomF hr
    repeat walk_at "W"
    refine wt_dnotin hu ?_
    repeat walk_at "W"
    walk_at "F"
    refine ⟨h, _, rfl, DGet.k (k := Sum.inr t) hW.dc, ?_⟩
    repeat walk_at "W"
    rw [hk_some]
    cases e : at1 S.hung t with
    | none =>
      repeat walk_at "W"
      exact k _ S _ (But.refl _ _) hW (.inl ⟨rfl, rfl, e⟩)
    | some p =>
      repeat walk_at "W"
      refine ws_set 3 ?_ hN
      repeat walk_at "W"
      refine we_dget hu ?_
      repeat walk_at "W"
      walk_at "F"
      repeat walk_at "W"
      have hg : DGet H h (V.str t) (some (V.int p)) := by
        have q := DGet.k (k := (Sum.inr t : Key)) hW.dc
        rw [hk_val, e] at q
        exact q
      refine ⟨h, _, rfl, hg, ?_⟩
      refine we_meth T.clW G1 hr ?_
      refine we_var 0 ?_
      refine ⟨_, _, _, rfl, hW.ob, rfl, ?_⟩
      repeat walk_at "W"
      refine ⟨d, W, h, dx, S, far, rfl, hW.o, ?_⟩
      repeat walk_at "W"
      walk_at "F"
      refine l_I (cmul2 hW.d0 hW.d1) (l_I (by have := hW.d0; omega) ?_)
      repeat walk_at "W"
      refine we_meth T.clW G hr ?_
      refine we_var 0 ?_
      refine ⟨_, _, _, rfl, hW.ob, rfl, ?_⟩
      repeat walk_at "W"
      refine ⟨d, W, h, dx, S, _, rfl, hW, fun H1 bt hW1 => ?_⟩
      repeat walk_at "W"
      exact k _ _ _ (bt.mono fun b z => .inl z) hW1 (.inr ⟨p, e, rfl, rfl⟩)
/-! ### hang -/
abbrev sHang : Stmt := inClass (top 21) 7
theorem scHang : FnScope ["self", "window", "thing", "number"] ["self", "window", "thing"] (defScope sHang) := ⟨rfl, rfl, rfl, by decide +kernel, rfl, by decide +kernel, by decide +kernel⟩
theorem ok_hang {f : Addr} {fd : FuncData} (F : Fun K "hang" "LineWork.hang" sHang f fd) (T : Txt K mg CW CL) (G : CalM P w K mg base CW "shift" 1 (spShift CW)) (G1 : CalM P w K mg base CW "spot_at" 1 (spSpot CW)) (G2 : CalM P w K mg base CW "thing_at" 2 (spThing CW)) :
    FnOk P w K mg base CX0 3 f fd ["self", "window", "thing"] (spAct CW .hang) := by
  refine fun_w F scHang (fun vs H Q E h => ?_) (fun cdv A outer s H vs Q E hr hN h => ?_)
  · obtain ⟨d, W, h, dx, S, far, t, rfl, _⟩ := h
    rfl
  · obtain ⟨d, W, h, dx, S, far, t, rfl, hW, few, k⟩ := h
    have hu := roomF hr
    repeat walk_at "W"
    refine wt_din hu ?_
    repeat walk_at "W"
    walk_at "F"
    refine ⟨h, _, rfl, DGet.k (k := Sum.inr t) hW.dc, ?_⟩
    repeat walk_at "W"
    rw [hk_some]
    cases e : at1 S.hung t with
    | some p =>
      repeat walk_at "W"
      exact k _ S _ (But.refl _ _) hW (.inl ⟨rfl, rfl, .inl (by rw [e]; rfl)⟩)
    | none =>
      repeat walk_at "W"
      refine we_lenD (fun _ => T.len) ?_
      repeat walk_at "W"
      walk_at "F"
      refine ⟨h, _, rfl, hW.dc, ?_⟩
      repeat walk_at "W"
      walk_at "F"
      refine l_I (cmul2 hW.d0 hW.d1) ?_
      repeat walk_at "W"
      rw [hk_len]
      refine Br.mk (fun z => ?_) (fun z => ?_)
      · repeat walk_at "W"
        exact k _ S _ (But.refl _ _) hW (.inl ⟨rfl, rfl, .inr (V.int.inj (of_decide_eq_true z))⟩)
      · have hne : (S.hung.length : Int) ≠ 2 * d := fun q => by rw [q] at z; simp at z
        obtain ⟨k0, hk0, fr⟩ := free_at far hW.good hW.d0 hne
        repeat walk_at "W"
        refine ws_set 3 ?_ hN
        repeat walk_at "W"
        refine ws_while (fun m σ H' => ∃ j : Nat, m = k0 - j ∧ j ≤ k0 ∧ σ = [some (.ref W), some (.str (win far)), some (.str t), some (.int (j : Int))] ∧ But (· = W) H H' ∧ WorkAt CW H' d W h dx (adv d S j) ∧ ∀ l, l < j → (thingAt d (adv d S l) far).isSome = true)
          ⟨k0, 0, rfl, Nat.zero_le _, rfl, But.refl _ _, by rw [adv0 hW.good]; exact hW, fun l hl => absurd hl (Nat.not_lt_zero l)⟩ ?_
        rintro m σ H1 ⟨j, rfl, hj, rfl, bt, hW1, oc⟩
        repeat walk_at "W"
        refine we_meth T.clW G2 hr ?_
        refine we_var 0 ?_
        refine ⟨_, _, _, rfl, hW1.ob, rfl, ?_⟩
        repeat walk_at "W"
        refine ⟨d, W, h, dx, adv d S j, far, rfl, hW1, fun H2 sm => ?_⟩
        have hW2 := hW1.same sm
        cases e2 : thingAt d (adv d S j) far with
        | some t2 =>
          have jk : j ≠ k0 := fun q => by rw [q, fr] at e2; cases e2
          repeat walk_at "W"
          refine we_meth T.clW G hr ?_
          refine we_var 0 ?_
          refine ⟨_, _, _, rfl, hW2.ob, rfl, ?_⟩
          repeat walk_at "W"
          refine ⟨d, W, h, dx, adv d S j, 1, rfl, hW2, fun H3 bt3 hW3 => ?_⟩
          repeat walk_at "W"
          refine ws_augAdd 3 ?_ hN
          repeat walk_at "W"
          refine ⟨k0 - (j + 1), by omega, j + 1, rfl, by omega, rfl, (bt.trans (But.of sm)).trans bt3, by rw [← adv_succ]; exact hW3, fun l hl => ?_⟩
          by_cases q : l = j
          · rw [q, e2]; rfl
          · exact oc l (by omega)
        | none =>
          repeat walk_at "W"
          refine ws_dput hu ?_
          refine we_meth T.clW G1 hr ?_
          refine we_var 0 ?_
          refine ⟨_, _, _, rfl, hW2.ob, rfl, ?_⟩
          repeat walk_at "W"
          refine ⟨d, W, h, dx, adv d S j, far, rfl, hW2.o, ?_⟩
          repeat walk_at "W"
          refine ⟨_, _, _, _, _, rfl, hW2.ob, T.clW, T.wU, rfl, ?_⟩
          repeat walk_at "W"
          have dc2 : H2 h = some (.dK (hk S.hung)) := hW2.dc
          refine ⟨h, _, rfl, DPut.k (k := Sum.inr t) dc2 (by rw [hk_len]; exact small1000 (by omega)), ?_⟩
          repeat walk_at "W"
          refine k _ (add (adv d S j) t (spot d (adv d S j) far)) _ (((bt.trans (But.of sm)).mono fun b z => .inl z).trans (But.upd (.inr rfl))) ⟨?_, ?_, hW.d0, hW.d1, (hW.good.adv hW.d0 j).add hW.d0 e e2, ?_⟩ (.inr ⟨j, rfl, e, oc, e2, rfl⟩)
          · rw [upd_ne hW.ne]
            exact hW2.ob
          · rw [upd_same, hk_put e] <;> rfl
          · show (S.hung ++ [(t, _)]).length ≤ 1000
            rw [List.length_append]
            exact few
end
end Rn
/-! The line's work: walk, tell. -/
namespace Rn
open PySem L2 StX

section
variable {P : Program} {w : World} {K : PySem.W.Frag} {mg : Str → Option Value} {base : Heap} {CW CL : Addr}
def optI : Option Int → V
  | none => .non
  | some n => .int n
/-! ### times_to -/
abbrev sTimes : Stmt := inClass (top 21) 10
def spTimes (CW : Addr) : Sp := fun vs H Q _ => ∃ (d : Int) (W h dx : Addr) (S : LS) (far : Bool) (pl s : Int), vs = [.ref W, .str (win far), .int pl, .int s] ∧ WorkO CW H d W h dx S ∧ s ≠ 0 ∧ s.natAbs ≤ 6 ∧ Q (optI (timesTo d (spot d S far) pl s)) H
theorem scTimes : FnScope ["self", "window", "place", "step", "gap", "first", "rounds", "length"] ["self", "window", "place", "step"] (defScope sTimes) := ⟨rfl, rfl, rfl, by decide +kernel, rfl, by decide +kernel, by decide +kernel⟩
theorem find_range {n : Nat} {p : Nat → Bool} {r : Nat} (hr : r < n) (hp : p r = true) (no : ∀ j, j < r → p j = false) : (List.range n).find? p = some r := by
  rw [List.find?_eq_some_iff_getElem]
  refine ⟨hp, r, by simpa using hr, by simp, fun j hj => ?_⟩
  simp [no j hj]
theorem find_range_none {n : Nat} {p : Nat → Bool} (no : ∀ j, j < n → p j = false) : (List.range n).find? p = none := by
  rw [List.find?_eq_none]
  intro x hx
  simp [no x (List.mem_range.mp hx)]
theorem wide6 {i : Int} (h : i.natAbs ≤ 6) : i.natAbs < 2 ^ 3 := by omega
theorem ok_times {f : Addr} {fd : FuncData} (F : Fun K "times_to" "LineWork.times_to" sTimes f fd) (T : Txt K mg CW CL) (G1 : CalM P w K mg base CW "spot_at" 1 (spSpot CW)) : FnOk P w K mg base CX0 2 f fd ["self", "window", "place", "step"] (spTimes CW) := by
  refine fun_w F scTimes (fun vs H Q E h => ?_) (fun cdv A outer s H vs Q E hr hN h => ?_)
  · obtain ⟨d, W, h, dx, S, far, pl, s, rfl, _⟩ := h
    rfl
  · obtain ⟨d, W, h, dx, S, far, pl, s, rfl, hW, hs0, hs6, k⟩ := h
    have hd := hW.d0
    have hd1 := hW.d1
    repeat walk_at "W"
    refine ws_set 4 ?_ hN
    repeat walk_at "W"
    refine we_meth T.clW G1 hr ?_
    refine we_var 0 ?_
    refine ⟨_, _, _, rfl, hW.ob, rfl, ?_⟩
    repeat walk_at "W"
    refine ⟨d, W, h, dx, S, far, rfl, hW, ?_⟩
    repeat walk_at "W"
    refine ws_set 5 ?_ hN
    repeat walk_at "W"
    suffices z : ∀ fi : Int, fi = first d (spot d S far) pl s → WB (fX P w K mg base ["self", "window", "place", "step", "gap", "first", "rounds", "length"] "LineWork.times_to" sTimes f cdv A outer ‹_› H E) ((defBody sTimes).drop 2) (fun _ H' => Q .non H') Q (fun _ _ => False) (fun _ _ => False)
        [some (.ref W), some (.str (win far)), some (.int pl), some (.int s), some (.int (pl - spot d S far)), some (.int fi), none, none] H by
      refine Br.mk (fun e => ?_) (fun e => ?_)
      · have e' : 0 < s := of_decide_eq_true e
        repeat walk_at "W"
        walk_at "F"
        refine l_I (cmul2 hd hd1) (l_I (by omega) ?_)
        exact z _ (by unfold first; rw [if_pos e'])
      · have e' : ¬ 0 < s := of_decide_eq_false e
        repeat walk_at "W"
        walk_at "F"
        refine l_I (cmul2 hd hd1) (l_I (by omega) ?_)
        exact z _ (by unfold first; rw [if_neg e'])
    intro fi efi
    have fib : 0 ≤ fi ∧ fi < 2 * d := by rw [efi]; exact lt2d hd
    refine wb_cons ?_
    refine ws_for ?_
    refine wi_range1 (fun _ => T.range) ?_
    repeat walk_at "W"
    refine we_abs (fun _ => T.abs) ?_
    repeat walk_at "W"
    refine ⟨_, rfl, by omega, by omega, ?_⟩
    refine ⟨s.natAbs, fun i σ H' => H' = H ∧ (∃ a b, σ = [some (.ref W), some (.str (win far)), some (.int pl), some (.int s), some (.int (pl - spot d S far)), some (.int fi), a, b]) ∧ ∀ j, j < i → decide ((fi + (j : Int) * 2 * d) % (s.natAbs : Int) = 0) = false, ?_, ?_, ?_⟩
    · exact ⟨rfl, ⟨_, _, rfl⟩, fun j hj => absurd hj (Nat.not_lt_zero j)⟩
    · rintro i σ H1 hi ⟨rfl, ⟨a, b, rfl⟩, no⟩
      refine ⟨by show i < (s.natAbs : Int).toNat; omega, ?_⟩
      rintro x H2 ⟨rfl, rfl⟩
      refine wg_name 6 ?_ hN
      repeat walk_at "W"
      refine ws_set 7 ?_ hN
      repeat walk_at "W"
      refine l_I (i := 0 + (i : Int)) (j := 2) (wide_mul (a := 3) (b := 2) (by omega) (by decide) (by decide) (by decide) (by decide)) ?_
      repeat walk_at "W"
      walk_at "F"
      refine l_I (i := (0 + (i : Int)) * 2) (j := d) (wide_mul (a := 4) (b := 200) (by omega) (by have := pow50; omega) (by decide) (by decide) (by decide)) ?_
      repeat walk_at "W"
      refine we_abs (fun _ => T.abs) ?_
      repeat walk_at "W"
      refine l_I (by omega) ?_
      repeat walk_at "W"
      rw [Int.zero_add]
      have eV : decide (V.int ((fi + (i : Int) * 2 * d) % (s.natAbs : Int)) = V.int 0) = decide ((fi + (i : Int) * 2 * d) % (s.natAbs : Int) = 0) := by
        rw [Bool.eq_iff_iff]; simp
      rw [eV]
      refine Br.mk (fun e => ?_) (fun e => ?_)
      · repeat walk_at "W"
        refine we_abs (fun _ => T.abs) ?_
        repeat walk_at "W"
        refine l_I (wide_div (b := 3) (by omega) (by omega) (by decide) (by decide)) ?_
        have q : timesTo d (spot d S far) pl s = some ((fi + (i : Int) * 2 * d) / (s.natAbs : Int)) := by
          unfold timesTo
          rw [← efi, find_range hi e no] <;> rfl
        rw [q] at k
        exact k
      · repeat walk_at "W"
        refine ⟨rfl, ⟨_, _, rfl⟩, fun j hj => ?_⟩
        by_cases q : j = i
        · rw [q]; exact e
        · exact no j (by omega)
    · rintro σ H1 ⟨rfl, ⟨a, b, rfl⟩, no⟩
      refine ⟨by show (s.natAbs : Int).toNat ≤ s.natAbs; omega, ?_⟩
      repeat walk_at "W"
      have q : timesTo d (spot d S far) pl s = none := by
        unfold timesTo
        rw [← efi, find_range_none no] <;> rfl
      rw [q] at k
      exact k
end
end Rn
/-! The line's work: walk. -/
namespace Rn
open PySem L2 StX

section
variable {P : Program} {w : World} {K : PySem.W.Frag} {mg : Str → Option Value} {base : Heap} {CW CL : Addr}
theorem first_rng {d sp pl s : Int} (h : 0 < d) : 0 ≤ first d sp pl s ∧ first d sp pl s < 2 * d := lt2d h
/-- what a number of steps is: the least that brings it -/
theorem times_spec {d sp pl s m : Int} (h : 0 < d) (hs : s ≠ 0) (e : timesTo d sp pl s = some m) :
    ∃ r : Nat, r < s.natAbs ∧ m * (s.natAbs : Int) = first d sp pl s + (r : Int) * 2 * d ∧ ∀ j : Nat, j < r → ¬ (first d sp pl s + (j : Int) * 2 * d) % (s.natAbs : Int) = 0 := by
  unfold timesTo at e
  cases q : (List.range s.natAbs).find? fun (r : Nat) => decide ((first d sp pl s + (r : Int) * 2 * d) % (s.natAbs : Int) = 0) with
  | none => rw [q] at e; cases e
  | some r =>
    rw [q] at e
    have e' : (first d sp pl s + (r : Int) * 2 * d) / (s.natAbs : Int) = m := Option.some.inj e
    rw [List.find?_eq_some_iff_getElem] at q
    obtain ⟨q1, i, hi, q2, q3⟩ := q
    have ir : i = r := by simpa using q2
    subst ir
    rw [List.length_range] at hi
    refine ⟨i, hi, ?_, fun j hj => ?_⟩
    · rw [← e']
      exact Int.ediv_mul_cancel (Int.dvd_of_emod_eq_zero (of_decide_eq_true q1))
    · have := q3 j hj
      simpa using this
theorem times_rng {d sp pl s m : Int} (h : 0 < d) (hs : s ≠ 0) (e : timesTo d sp pl s = some m) : 0 ≤ m ∧ m < 2 * d := by
  obtain ⟨r, hr, em, _⟩ := times_spec h hs e
  obtain ⟨f0, f1⟩ := first_rng (d := d) (sp := sp) (pl := pl) (s := s) h
  have sp0 : (0 : Int) < (s.natAbs : Int) := by omega
  have hr' : (r : Int) * (2 * d) ≤ ((s.natAbs : Int) - 1) * (2 * d) := Int.mul_le_mul_of_nonneg_right (by omega) (by omega)
  have e1 : (r : Int) * 2 * d = (r : Int) * (2 * d) := Int.mul_assoc _ _ _
  have e2 : ((s.natAbs : Int) - 1) * (2 * d) = (s.natAbs : Int) * (2 * d) - 2 * d := by rw [Int.sub_mul, Int.one_mul]
  have r0 : (0 : Int) ≤ (r : Int) * (2 * d) := Int.mul_nonneg (by omega) (by omega)
  constructor
  · refine Int.not_lt.mp fun z => ?_
    have : m * (s.natAbs : Int) < 0 := Int.mul_neg_of_neg_of_pos z sp0
    omega
  · refine Int.lt_of_mul_lt_mul_right (a := (s.natAbs : Int)) ?_ (by omega)
    rw [Int.mul_comm (2 * d)]
    omega
def intsOf (l : List (Option Int)) : List Int := l.filterMap id
theorem take_succ_map {α β : Type} {l : List α} {i : Nat} {p : α} (h : l[i]? = some p) (f : α → β) : (l.take (i + 1)).map f = (l.take i).map f ++ [f p] := by
  rw [List.take_add_one, h, List.map_append]
  rfl
abbrev sWalk : Stmt := inClass (top 21) 9
def spWalk (CW : Addr) : Sp := fun vs H Q _ => ∃ (d : Int) (W h dx : Addr) (S : LS) (far : Bool) (s : Int), vs = [.ref W, .str (win far), .int s] ∧ WorkAt CW H d W h dx S ∧ s ≠ 0 ∧ s.natAbs ≤ 6 ∧
  ∀ r S' H', But (fun b => b = W ∨ b = h) H H' → WorkAt CW H' d W h dx S' → Tell d S r S' (.walk far s) → Q r H'
theorem scWalk : FnScope ["self", "window", "step", "found", "times", "place", "one"] ["self", "window", "step"] (defScope sWalk) := ⟨rfl, rfl, rfl, by decide +kernel, rfl, by decide +kernel, by decide +kernel⟩
theorem ok_walk {f : Addr} {fd : FuncData} (F : Fun K "walk" "LineWork.walk" sWalk f fd) (T : Txt K mg CW CL) (G : CalM P w K mg base CW "shift" 1 (spShift CW)) (G1 : CalM P w K mg base CW "times_to" 2 (spTimes CW)) : FnOk P w K mg base CX0 3 f fd ["self", "window", "step"] (spWalk CW) := by
  refine fun_w F scWalk (fun vs H Q E h => ?_) (fun cdv A outer s H vs Q E hr hN h => ?_)
  · obtain ⟨d, W, h, dx, S, far, s, rfl, _⟩ := h
    rfl
  · obtain ⟨d, W, h, dx, S, far, s, rfl, hW, hs0, hs6, k⟩ := h
    repeat walk_at "W"
    refine ws_lock hW.dc fun od => ?_
    have obl : (upd H h (.frz od (.dK (hk S.hung)))) W = some (.ins CW dx (wf d h S)) := by rw [upd_ne hW.ne]; exact hW.ob
    generalize eHl : upd H h (.frz od (.dK (hk S.hung))) = Hl at obl ⊢
    refine ws_setLc 3 [("place", 5)] hN (fun _ => blkOk_by (N := ["self", "window", "step", "found", "times", "place", "one"]) (sc := defScope sWalk) (by decide +kernel)) ?_
    refine wi_values ?_
    repeat walk_at "W"
    refine ⟨_, _, _, _, _, rfl, obl, T.clW, T.wU, rfl, ?_⟩
    refine ⟨h, od, hk S.hung, rfl, by rw [← eHl, upd_same], fun D hD => ?_⟩
    refine ⟨S.hung.length, fun i acc H' => acc = (S.hung.take i).map (fun q => optI (timesTo d (spot d S far) q.2 s)) ∧ Same Hl H' ∧ H' D = some (.lst acc), ⟨rfl, Same.new hD, upd_same⟩, ?_, ?_⟩
    · rintro i acc H1 hi ⟨ea, sm, hD1⟩
      have frz1 : H1 h = some (.frz od (.dK (hk S.hung))) := sm _ _ (by rw [← eHl, upd_same])
      refine ⟨⟨frz1, by rw [hk_len]; exact hi⟩, ?_⟩
      rintro x H2 ⟨rfl, kk, ek⟩
      obtain ⟨p, ep⟩ : ∃ p, S.hung[i]? = some p := ⟨_, List.getElem?_eq_getElem hi⟩
      have e2 : (hk S.hung)[i]? = some (Sum.inr p.1, V.int p.2) := by unfold hk; rw [List.getElem?_map, ep]; rfl
      rw [e2] at ek
      cases ek
      refine wg_name 5 ?_ (fun i => hN i.1)
      refine ⟨rfl, ?_⟩
      refine wts_nil ?_
      refine Br.t rfl ?_
      refine we_meth T.clW G1 (fun i => hr i.1) ?_
      refine we_var 0 ?_
      refine ⟨_, _, _, rfl, sm _ _ obl, rfl, ?_⟩
      repeat walk_at "W"
      refine ⟨d, W, h, dx, S, far, _, _, rfl, ⟨sm _ _ obl, hW.d0, hW.d1⟩, hs0, hs6, ?_⟩
      have al : acc.length ≤ 1000 := by
        rw [ea, List.length_map, List.length_take]
        have := hW.few
        omega
      refine ⟨hD1, small1000 al, ?_, ?_, upd_same⟩
      · rw [ea, take_succ_map ep]
      · intro b o e
        rw [upd_ne (ne_of_none e hD)]
        exact sm b o e
    · rintro acc H1 ⟨ea, sm, hD1⟩
      have frz1 : H1 h = some (.frz od (.dK (hk S.hung))) := sm _ _ (by rw [← eHl, upd_same])
      refine ⟨⟨frz1, by rw [hk_len]; exact Nat.le_refl _⟩, frz1, ?_⟩
      rw [List.take_length] at ea
      have hDh : D ≠ h := fun z => by rw [z, frz1] at hD1; cases hD1
      have sm1 : Same H (upd H1 h (.dK (hk S.hung))) := same_unlock hW.dc (by rw [eHl]; exact sm)
      have hD2 : (upd H1 h (.dK (hk S.hung))) D = some (.lst acc) := by rw [upd_ne hDh]; exact hD1
      generalize upd H1 h (.dK (hk S.hung)) = H2 at sm1 hD2 ⊢
      have hW2 := hW.same sm1
      let l : List (Option Int) := S.hung.map fun q => timesTo d (spot d S far) q.2 s
      have ea' : acc = l.map optI := by rw [ea, List.map_map]; rfl
      have ll : l.length ≤ 1000 := by rw [List.length_map]; exact hW.few
      repeat walk_at "W"
      refine ws_set 4 ?_ hN
      refine we_minD (fun _ => T.min) ?_
      refine wa_cons ?_
      refine we_lc [("one", 6)] hN (fun _ => blkOk_by (N := ["self", "window", "step", "found", "times", "place", "one"]) (sc := defScope sWalk) (by decide +kernel)) ?_
      refine wi_list ?_
      repeat walk_at "W"
      refine ⟨D, rfl, ⟨acc, SqL.of hD2⟩, fun D2 hDn => ?_⟩
      refine ⟨l.length, fun i ac H' => ac = (intsOf (l.take i)).map V.int ∧ Same H2 H' ∧ H' D2 = some (.lst ac), ⟨rfl, Same.new hDn, upd_same⟩, ?_, ?_⟩
      · rintro i ac H3 hi ⟨eac, sm3, hD3⟩
        obtain ⟨o, eo⟩ : ∃ o, l[i]? = some o := ⟨_, List.getElem?_eq_getElem hi⟩
        have ei : acc[i]? = some (optI o) := by rw [ea', List.getElem?_map, eo]; rfl
        refine ⟨⟨acc, _, sm3.seq (SqL.of hD2), ei⟩, ?_⟩
        rintro x H4 ⟨rfl, hx⟩
        have hx' := hx acc (sm3.seq (SqL.of hD2))
        rw [ei] at hx'
        cases hx'
        refine wg_name 6 ?_ (fun i => hN i.1)
        refine ⟨rfl, ?_⟩
        refine wts_one ?_
        repeat walk_at "W"
        have il : (intsOf (l.take (i + 1))) = intsOf (l.take i) ++ o.toList := by
          unfold intsOf
          rw [List.take_add_one, eo, List.filterMap_append]
          cases o <;> rfl
        have al : ac.length ≤ 1000 := by
          rw [eac, List.length_map]
          refine Nat.le_trans (List.length_filterMap_le _ _) ?_
          rw [List.length_take]
          omega
        cases o with
        | none =>
          refine Br.f rfl ?_
          refine ⟨?_, sm3, hD3⟩
          rw [eac, il]
          simp
        | some n =>
          refine Br.t rfl ?_
          repeat walk_at "W"
          refine ⟨hD3, small1000 al, ?_, ?_, upd_same⟩
          · rw [eac, il]
            simp
            rfl
          · intro b u e
            rw [upd_ne (ne_of_none e hDn)]
            exact sm3 b u e
      · rintro ac H3 ⟨eac, sm3, hD3⟩
        rw [List.take_length] at eac
        refine ⟨⟨acc, sm3.seq (SqL.of hD2), by rw [ea', List.length_map]; exact Nat.le_refl _⟩, ?_⟩
        have hW3 := hW2.same sm3
        repeat walk_at "W"
        refine ⟨D2, intsOf l, rfl, rfl, by rw [← eac]; exact SqL.of hD3, fun en => ?_, fun m hm hle => ?_⟩
        · repeat walk_at "W"
          refine k _ S _ (But.of (sm1.trans sm3)) hW3 (.inl ⟨rfl, rfl, fun q hq => ?_⟩)
          cases e : timesTo d (spot d S far) q.2 s with
          | none => rfl
          | some n =>
            exfalso
            have : n ∈ intsOf l := List.mem_filterMap.mpr ⟨some n, List.mem_map.mpr ⟨q, hq, e⟩, rfl⟩
            rw [en] at this
            cases this
        · obtain ⟨o, ho, eo⟩ := List.mem_filterMap.mp hm
          obtain ⟨q, hq, eq⟩ := List.mem_map.mp ho
          have eo' : o = some m := eo
          rw [eo'] at eq
          obtain ⟨m0, m1⟩ := times_rng hW.d0 hs0 eq
          have hd1 := hW.d1
          repeat walk_at "W"
          refine we_meth T.clW G hr ?_
          refine we_var 0 ?_
          refine ⟨_, _, _, rfl, hW3.ob, rfl, ?_⟩
          repeat walk_at "W"
          refine l_I (wide_mul (a := 201) (b := 3) (by have := pow50; omega) (by omega) (by decide) (by decide) (by decide)) ?_
          repeat walk_at "W"
          refine ⟨d, W, h, dx, S, _, rfl, hW3, fun H4 bt hW4 => ?_⟩
          repeat walk_at "W"
          refine k _ _ _ (But.trans (But.of (sm1.trans sm3)) (bt.mono fun b z => .inl z)) hW4 (.inr ⟨m, rfl, rfl, ⟨q, hq, eq⟩, fun q' hq' m' em' => ?_⟩)
          exact hle m' (List.mem_filterMap.mpr ⟨some m', List.mem_map.mpr ⟨q', hq', em'⟩, rfl⟩)
end
end Rn
/-! The line's work: tell. -/
namespace Rn
open PySem L2 StX

def PDeed.tup : PDeed → List V
  | .pull n => [.str "pull", .int n]
  | .walk far s => [.str "walk", .str (win far), .int s]
  | .peg far t => [.str "peg", .str (win far), .str t]
  | .hang far t => [.str "hang", .str (win far), .str t]
  | .fetch far t => [.str "fetch", .str (win far), .str t]
  | .take far => [.str "take", .str (win far)]
  | .look far => [.str "look", .str (win far)]
def IsThing (t : Str) : Prop := 1 ≤ t.length ∧ t.length ≤ 8 ∧ ∀ c ∈ t.cps.toList, 97 ≤ c ∧ c ≤ 122
/-- a deed that may be done -/
def PDeed.ok : PDeed → Prop
  | .pull n => n ≠ 0 ∧ n.natAbs ≤ 40
  | .walk _ s => s ≠ 0 ∧ s.natAbs ≤ 6
  | .peg _ t => IsThing t
  | .hang _ t => IsThing t
  | .fetch _ t => IsThing t
  | .take _ => True
  | .look _ => True
def Deed.ok : Deed → Prop
  | .plain p => p.ok
  | .when _ o p => p.ok ∧ ∀ t, o = some t → IsThing t
def DeedAt (H : Hp) (a : Addr) : Deed → Prop
  | .plain p => H a = some (.tup p.tup)
  | .when far o p => ∃ b, H a = some (.tup [.str "when", .str (win far), optV o, .ref b]) ∧ H b = some (.tup p.tup)
theorem DeedAt.same {H H' : Hp} {a : Addr} {D : Deed} (h : DeedAt H a D) (e : Same H H') : DeedAt H' a D := by
  cases D with
  | plain p => exact e _ _ h
  | when far o p => obtain ⟨b, h1, h2⟩ := h; exact ⟨b, e _ _ h1, e _ _ h2⟩
def TellD (d : Int) (S : LS) (r : V) (S' : LS) : Deed → Prop
  | .plain p => Tell d S r S' p
  | .when far o p => (thingAt d S far = o ∧ Tell d S r S' p) ∨ (¬ thingAt d S far = o ∧ r = .str "no" ∧ S' = S)

section
variable {P : Program} {w : World} {K : PySem.W.Frag} {mg : Str → Option Value} {base : Heap} {CW CL : Addr}
abbrev sTell : Stmt := inClass (top 21) 4
def spTellP (CW : Addr) : Sp := fun vs H Q _ => ∃ (d : Int) (W h dx a : Addr) (S : LS) (p : PDeed), vs = [.ref W, .ref a] ∧ WorkAt CW H d W h dx S ∧ S.hung.length < 1000 ∧ H a = some (.tup p.tup) ∧ p.ok ∧
  ∀ r S' H', But (fun b => b = W ∨ b = h) H H' → WorkAt CW H' d W h dx S' → Tell d S r S' p → Q r H'
def spTell (CW : Addr) : Sp := fun vs H Q _ => ∃ (d : Int) (W h dx a : Addr) (S : LS) (D : Deed), vs = [.ref W, .ref a] ∧ WorkAt CW H d W h dx S ∧ S.hung.length < 1000 ∧ DeedAt H a D ∧ D.ok ∧
  ∀ r S' H', But (fun b => b = W ∨ b = h) H H' → WorkAt CW H' d W h dx S' → TellD d S r S' D → Q r H'
theorem scTell : FnScope ["self", "deed", "word"] ["self", "deed"] (defScope sTell) := ⟨rfl, rfl, rfl, by decide +kernel, rfl, by decide +kernel, by decide +kernel⟩
theorem scal_opt (a b : Option Str) : scal (optV a) (optV b) = true := by cases a <;> cases b <;> rfl
theorem optV_inj {a b : Option Str} (h : optV a = optV b) : a = b := by
  cases a <;> cases b
  · rfl
  · cases h
  · cases h
  · rw [V.str.inj h]
theorem ok_tellP {f : Addr} {fd : FuncData} (F : Fun K "tell" "LineWork.tell" sTell f fd) (T : Txt K mg CW CL) (GS : CalM P w K mg base CW "shift" 1 (spShift CW)) (GP : CalM P w K mg base CW "peg" 3 (spAct CW .peg)) (GH : CalM P w K mg base CW "hang" 3 (spAct CW .hang))
    (GF : CalM P w K mg base CW "fetch" 2 (spAct CW .fetch)) (GW : CalM P w K mg base CW "walk" 3 (spWalk CW)) (GL : CalM P w K mg base CW "look" 3 (spLook CW)) : FnOk P w K mg base CX0 4 f fd ["self", "deed"] (spTellP CW) := by
  refine fun_w F scTell (fun vs H Q E h => ?_) (fun cdv A outer s H vs Q E hr hN h => ?_)
  · obtain ⟨d, W, h, dx, a, S, p, rfl, _⟩ := h
    rfl
  · obtain ⟨d, W, h, dx, a, S, p, rfl, hW, few, hA, hok, k⟩ := h
    refine wb_cons ?_
    refine ws_set 2 ?_ hN
    cases p with
    | pull n =>
      walk_at "D"
      repeat walk_at "W"
      refine we_meth T.clW GS hr ?_
      walk_at "M"
      refine wa_cons ?_
      walk_at "D"
      repeat walk_at "W"
      refine ⟨d, W, h, dx, S, n, rfl, hW, fun H1 bt hW1 => ?_⟩
      repeat walk_at "W"
      exact k _ _ _ (bt.mono fun b z => .inl z) hW1 ⟨rfl, rfl⟩
    | walk far st =>
      walk_at "D"
      repeat walk_at "W"
      refine we_meth T.clW GW hr ?_
      walk_at "M"
      refine wa_cons ?_
      walk_at "D"
      refine wa_cons ?_
      walk_at "D"
      repeat walk_at "W"
      exact ⟨d, W, h, dx, S, far, st, rfl, hW, hok.1, hok.2, fun r S' H1 bt hW1 tl => k _ _ _ bt hW1 tl⟩
    | peg far t =>
      walk_at "D"
      repeat walk_at "W"
      refine we_meth T.clW GP hr ?_
      walk_at "M"
      refine wa_cons ?_
      walk_at "D"
      refine wa_cons ?_
      walk_at "D"
      repeat walk_at "W"
      exact ⟨d, W, h, dx, S, far, t, rfl, hW, few, fun r S' H1 bt hW1 tl => k _ _ _ bt hW1 tl⟩
    | hang far t =>
      walk_at "D"
      repeat walk_at "W"
      refine we_meth T.clW GH hr ?_
      walk_at "M"
      refine wa_cons ?_
      walk_at "D"
      refine wa_cons ?_
      walk_at "D"
      repeat walk_at "W"
      exact ⟨d, W, h, dx, S, far, t, rfl, hW, few, fun r S' H1 bt hW1 tl => k _ _ _ bt hW1 tl⟩
    | fetch far t =>
      walk_at "D"
      repeat walk_at "W"
      refine we_meth T.clW GF hr ?_
      walk_at "M"
      refine wa_cons ?_
      walk_at "D"
      refine wa_cons ?_
      walk_at "D"
      repeat walk_at "W"
      exact ⟨d, W, h, dx, S, far, t, rfl, hW, few, fun r S' H1 bt hW1 tl => k _ _ _ bt hW1 tl⟩
    | take far =>
      walk_at "D"
      repeat walk_at "W"
      refine we_meth T.clW GL hr ?_
      walk_at "M"
      refine wa_cons ?_
      walk_at "D"
      repeat walk_at "W"
      refine ⟨d, W, h, dx, S, far, true, rfl, hW, fun r S' H1 bt hW1 tl => k _ _ _ (bt.mono fun b z => .inr z) hW1 tl⟩
    | look far =>
      walk_at "D"
      repeat walk_at "W"
      refine we_meth T.clW GL hr ?_
      walk_at "M"
      refine wa_cons ?_
      walk_at "D"
      repeat walk_at "W"
      refine ⟨d, W, h, dx, S, far, false, rfl, hW, fun r S' H1 bt hW1 tl => k _ _ _ (bt.mono fun b z => .inr z) hW1 tl⟩
theorem ok_tell {f : Addr} {fd : FuncData} (F : Fun K "tell" "LineWork.tell" sTell f fd) (T : Txt K mg CW CL) (GT : CalM P w K mg base CW "thing_at" 2 (spThing CW)) (FP : FnOk P w K mg base CX0 4 f fd ["self", "deed"] (spTellP CW)) (hm : Meth K CW "tell" f) (hb : Binds K fd ["self", "deed"] []) :
    FnOk P w K mg base CX0 5 f fd ["self", "deed"] (spTell CW) := by
  have GP : CalM P w K mg base CW "tell" 4 (spTellP CW) := ⟨f, fd, _, FP, hm, hb⟩
  have plain : FnOk P w K mg base CX0 5 f fd ["self", "deed"] (fun vs H Q E => ∃ (d : Int) (W h dx a : Addr) (S : LS) (p : PDeed), vs = [.ref W, .ref a] ∧ WorkAt CW H d W h dx S ∧ S.hung.length < 1000 ∧ DeedAt H a (.plain p) ∧ (Deed.plain p).ok ∧
      ∀ r S' H', But (fun b => b = W ∨ b = h) H H' → WorkAt CW H' d W h dx S' → TellD d S r S' (.plain p) → Q r H') := (FP.mono (by decide)).imp fun vs H Q E h => h
  have whn : FnOk P w K mg base CX0 5 f fd ["self", "deed"] (fun vs H Q E => ∃ (d : Int) (W h dx a : Addr) (S : LS) (fr : Bool) (o : Option Str) (p : PDeed), vs = [.ref W, .ref a] ∧ WorkAt CW H d W h dx S ∧ S.hung.length < 1000 ∧ DeedAt H a (.when fr o p) ∧ (Deed.when fr o p).ok ∧
      ∀ r S' H', But (fun b => b = W ∨ b = h) H H' → WorkAt CW H' d W h dx S' → TellD d S r S' (.when fr o p) → Q r H') := by
    refine fun_w F scTell (fun vs H Q E h => ?_) (fun cdv A outer s H vs Q E hr hN h => ?_)
    · obtain ⟨d, W, h, dx, a, S, fr, o, p, rfl, _⟩ := h
      rfl
    · obtain ⟨d, W, h, dx, a, S, fr, o, p, rfl, hW, few, ⟨b, hA, hB⟩, hok, k⟩ := h
      refine wb_cons ?_
      refine ws_set 2 ?_ hN
      walk_at "D"
      repeat walk_at "W"
      refine we_meth T.clW GT hr ?_
      walk_at "M"
      refine wa_cons ?_
      walk_at "D"
      repeat walk_at "W"
      refine ⟨d, W, h, dx, S, fr, rfl, hW, fun H1 sm => ?_⟩
      have hW1 := hW.same sm
      have hA1 := sm _ _ hA
      refine we_ixT ?_
      repeat walk_at "W"
      refine ⟨_, _, _, _, rfl, rfl, SqT.of hA1, rfl, ?_⟩
      have no : ¬ thingAt d S fr = o → Q (.str "no") H1 := fun ne => k _ _ _ (But.of sm) hW1 (.inr ⟨ne, rfl, rfl⟩)
      repeat walk_at "W"
      refine l_eq ?_ (scal_opt _ _)
      refine l_bl ?_
      refine Br.mk (fun e => ?_) (fun e => ?_)
      · have eo : thingAt d S fr = o := optV_inj (of_decide_eq_true e)
        refine we_meth T.clW GP hr ?_
        refine we_var 0 ?_
        refine ⟨_, _, _, rfl, hW1.ob, rfl, ?_⟩
        refine wa_cons ?_
        refine we_ixT ?_
        repeat walk_at "W"
        refine ⟨_, _, _, _, rfl, rfl, SqT.of hA1, rfl, ?_⟩
        repeat walk_at "W"
        exact ⟨d, W, h, dx, b, S, p, rfl, hW1, few, sm _ _ hB, hok.1, fun r S' H2 bt hW2 tl => k _ _ _ ((But.of sm).trans bt) hW2 (.inl ⟨eo, tl⟩)⟩
      · repeat walk_at "W"
        exact no fun z => by rw [z] at e; simp at e
  refine ⟨fun vs H Q E h => ?_, fun A outer s H args us vs Q E hr e0 hb' r h => ?_⟩
  · obtain ⟨d, W, h, dx, a, S, D, rfl, _⟩ := h
    rfl
  · obtain ⟨d, W, h, dx, a, S, D, e, hW, few, hD, hok, k⟩ := h
    cases D with
    | plain p => exact plain.run A outer s H args us vs Q E hr e0 hb' r ⟨d, W, h, dx, a, S, p, e, hW, few, hD, hok, k⟩
    | when fr o p => exact whn.run A outer s H args us vs Q E hr e0 hb' r ⟨d, W, h, dx, a, S, fr, o, p, e, hW, few, hD, hok, k⟩
end
end Rn
/-! What callers may pass: is_whole .. is_deed. -/
namespace Rn
open PySem L2 StX

/-! ### data without depth -/
def fd : V → PyData
  | .non => .none | .bl b => .bool b | .int i => .int i | .str x => .str x | _ => .none
def okFlat : V → Bool
  | .non => true | .bl _ => true | .int _ => true | .str x => PyData.strOk x | _ => false
theorem dp_flat {K : PySem.W.Frag} {H : Hp} {v : V} (h : okFlat v = true) : Dp K H v (fd v) := by
  cases v <;> first | exact .non | exact .bl _ | exact .int _ | exact .str _ | cases h
theorem dpAll_flat {K : PySem.W.Frag} {H : Hp} : ∀ {vs : List V}, vs.all okFlat = true → DpAll K H vs (vs.map fd)
  | [], _ => .nil
  | v :: vs, h => by
    rw [List.all_cons, Bool.and_eq_true] at h
    exact .cons (dp_flat h.1) (dpAll_flat h.2)
theorem lay_flat {v : V} (h : okFlat v = true) : PyData.canLay0 (fd v) = true := by
  cases v with
  | str x => rw [show fd (.str x) = PyData.str x from rfl, PyData.canLay0]; exact h
  | non => rw [show fd .non = PyData.none from rfl, PyData.canLay0]
  | bl b => rw [show fd (.bl b) = PyData.bool b from rfl, PyData.canLay0]
  | int i => rw [show fd (.int i) = PyData.int i from rfl, PyData.canLay0]
  | _ => cases h
theorem layAll_flat : ∀ {vs : List V}, vs.all okFlat = true → PyData.canLayAll0 (vs.map fd) = true
  | [], _ => by rw [List.map_nil, PyData.canLayAll0]
  | v :: vs, h => by
    rw [List.all_cons, Bool.and_eq_true] at h
    rw [List.map_cons, PyData.canLayAll0, lay_flat h.1, layAll_flat h.2] <;> rfl
theorem depth_flat {v : V} (h : okFlat v = true) : PyData.depth (fd v) = 0 := by
  cases v with
  | str x => rw [show fd (.str x) = PyData.str x from rfl, PyData.depth]
  | non => rw [show fd .non = PyData.none from rfl, PyData.depth]
  | bl b => rw [show fd (.bl b) = PyData.bool b from rfl, PyData.depth]
  | int i => rw [show fd (.int i) = PyData.int i from rfl, PyData.depth]
  | _ => cases h
theorem depthAll_flat : ∀ {vs : List V}, vs.all okFlat = true → PyData.depthAll (vs.map fd) = 0
  | [], _ => by rw [List.map_nil, PyData.depthAll]
  | v :: vs, h => by
    rw [List.all_cons, Bool.and_eq_true] at h
    rw [List.map_cons, PyData.depthAll, depth_flat h.1, depthAll_flat h.2] <;> rfl
theorem shaped_tup {vs : List V} (h : vs.all okFlat = true) : SeqAt.shaped (.tuple (vs.map fd)) = true := by
  unfold SeqAt.shaped
  rw [PyData.canLay0, layAll_flat h, PyData.depth, depthAll_flat h] <;> rfl
theorem shaped_lst {vs : List V} (h : vs.all okFlat = true) : SeqAt.shaped (.list (vs.map fd)) = true := by
  unfold SeqAt.shaped
  rw [PyData.canLay0, layAll_flat h, PyData.depth, depthAll_flat h] <;> rfl
theorem eqv_tup_nil (v : V) (vs : List V) : PyData.eqv (.tuple ((v :: vs).map fd)) (.tuple (([] : List V).map fd)) = false := by
  rw [List.map_cons, List.map_nil, PyData.eqv, PyData.eqvAll]
theorem eqv_lst_nil (vs : List V) : PyData.eqv (.list (vs.map fd)) (.list (([] : List V).map fd)) = vs.isEmpty := by
  cases vs with
  | nil => rw [List.map_nil, PyData.eqv, PyData.eqvAll] <;> rfl
  | cons v vs => rw [List.map_cons, List.map_nil, PyData.eqv, PyData.eqvAll] <;> rfl

section
variable {ι : Type} {X : ι → Cx} {σ : L2.St} {H : Hp} {Q : VK} {QT : Bool → Hp → Prop} {K : PySem.W.Frag}
theorem units64 {k : Nat} (h : ∀ i, Room k (X i).A) : ∀ i, (X i).A.units + 64 < cLine := fun i => (h i).units
/-- a == (), a a tuple of flat things -/
theorem wt_eqU {a : Expr} {kk : Nat} {p pos : Pos} {k : Nat} (hr : ∀ i, Room k (X i).A) (h : WE X a σ H fun x H1 => ∃ p v vs, x = .ref p ∧ H1 p = some (.tup (v :: vs)) ∧ (v :: vs).all okFlat = true ∧ ∀ H2, Same H1 H2 → QT false H2) (hK : ∀ i, (X i).K = K := by intro _; rfl) :
    WT X (.Compare a [.Eq] [.Tuple [] kk p] pos) σ H QT :=
  wt_cmp (r := rEqD K) (fun i => hK i ▸ op_eqD (units64 hr i)) (nomark _) (h.mono fun x H1 ⟨a, v, vs, ex, ha, fl, q⟩ => we_tup (wa_nil ⟨Nat.zero_le _, fun u hu => by
    subst ex
    have sm : Same H1 (upd H1 u (.tup [])) := Same.new hu
    refine ⟨.tuple ((v :: vs).map fd), .tuple (([] : List V).map fd), .tup (SqT.of (sm _ _ ha)) (dpAll_flat fl), .tup (SqT.of upd_same) (dpAll_flat rfl), shaped_tup fl, shaped_tup rfl, _, rfl, ?_⟩
    rw [eqv_tup_nil]
    exact q _ sm⟩))
/-- a == [], a a list of flat things, the empty list made -/
theorem we_eqL {a : Expr} {p pos : Pos} {k : Nat} (hr : ∀ i, Room k (X i).A) (h : WE X a σ H fun x H1 => ∃ p vs, x = .ref p ∧ H1 p = some (.lst vs) ∧ vs.all okFlat = true ∧ ∀ H2, Same H1 H2 → Q (.bl vs.isEmpty) H2) (hK : ∀ i, (X i).K = K := by intro _; rfl) :
    WE X (.Compare a [.Eq] [.List [] p] pos) σ H Q :=
  we_cmp (r := rEqD K) (fun i => hK i ▸ op_eqD (units64 hr i)) (nomark _) (h.mono fun x H1 ⟨a, vs, ex, ha, fl, q⟩ => we_lst (wa_nil ⟨Nat.zero_le _, fun u hu => by
    subst ex
    have sm : Same H1 (upd H1 u (.lst [])) := Same.new hu
    refine ⟨.list (vs.map fd), .list (([] : List V).map fd), .lst (SqL.of (sm _ _ ha)) (dpAll_flat fl), .lst (SqL.of upd_same) (dpAll_flat rfl), shaped_lst fl, shaped_lst rfl, ?_⟩
    rw [eqv_lst_nil]
    exact q _ sm⟩))
theorem we_neL {a : Expr} {p pos : Pos} {k : Nat} (hr : ∀ i, Room k (X i).A) (h : WE X a σ H fun x H1 => ∃ p vs, x = .ref p ∧ H1 p = some (.lst vs) ∧ vs.all okFlat = true ∧ ∀ H2, Same H1 H2 → Q (.bl (!vs.isEmpty)) H2) (hK : ∀ i, (X i).K = K := by intro _; rfl) :
    WE X (.Compare a [.NotEq] [.List [] p] pos) σ H Q :=
  we_cmp (r := rNeD K) (fun i => hK i ▸ op_neD (units64 hr i)) (nomark _) (h.mono fun x H1 ⟨a, vs, ex, ha, fl, q⟩ => we_lst (wa_nil ⟨Nat.zero_le _, fun u hu => by
    subst ex
    have sm : Same H1 (upd H1 u (.lst [])) := Same.new hu
    refine ⟨.list (vs.map fd), .list (([] : List V).map fd), .lst (SqL.of (sm _ _ ha)) (dpAll_flat fl), .lst (SqL.of upd_same) (dpAll_flat rfl), shaped_lst fl, shaped_lst rfl, ?_⟩
    rw [eqv_lst_nil]
    exact q _ sm⟩))
/-- x in a tuple or list of flat things -/
theorem we_inT {a b : Expr} {pos : Pos} (h : WE X a σ H fun x H1 => WE X b σ H1 fun y H2 => ∃ p xs, y = .ref p ∧ (SqL K H2 p xs ∨ SqT K H2 p xs) ∧ flatV x = true ∧ xs.all flatV = true ∧ Q (.bl (inV x xs)) H2) (hm : behindInMarks .In b = false := by rfl) (hK : ∀ i, (X i).K = K := by intro _; rfl) :
    WE X (.Compare a [.In] [b] pos) σ H Q := we_cmp (r := rIn K false) (fun i => hK i ▸ op_in_seq) hm h
theorem wt_inT {a b : Expr} {pos : Pos} (h : WE X a σ H fun x H1 => WE X b σ H1 fun y H2 => ∃ p xs, y = .ref p ∧ (SqL K H2 p xs ∨ SqT K H2 p xs) ∧ flatV x = true ∧ xs.all flatV = true ∧ QT (inV x xs) H2) (hm : behindInMarks .In b = false := by rfl) (hK : ∀ i, (X i).K = K := by intro _; rfl) :
    WT X (.Compare a [.In] [b] pos) σ H QT := wt_cmp (r := rIn K false) (fun i => hK i ▸ op_in_seq) hm (h.mono fun x H1 h => h.mono fun y H2 ⟨p, xs, e, l, f1, f2, q⟩ => ⟨p, xs, e, l, f1, f2, _, rfl, q⟩)
end

section
variable {P : Program} {w : World} {K : PySem.W.Frag} {mg : Str → Option Value} {base : Heap} {CW CL : Addr}
/-! ### is_whole -/
abbrev sWhole : Stmt := top 13
def spWhole : Sp := fun vs H Q _ => ∃ n : Int, vs = [.int n] ∧ Q (.bl true) H
theorem scWhole : FnScope ["thing"] ["thing"] (defScope sWhole) := ⟨rfl, rfl, rfl, by decide +kernel, rfl, by decide +kernel, by decide +kernel⟩
theorem ok_whole {f : Addr} {fdt : FuncData} (F : Fun K "is_whole" "is_whole" sWhole f fdt) (T : Txt K mg CW CL) : FnOk P w K mg base CX0 1 f fdt ["thing"] spWhole := by
  refine fun_w F scWhole (fun vs H Q E h => ?_) (fun cdv A outer s H vs Q E hr hN h => ?_)
  · obtain ⟨n, rfl, _⟩ := h
    rfl
  · obtain ⟨n, rfl, k⟩ := h
    repeat walk_at "W"
    refine we_isi (fun _ => T.isinstance) ?_
    repeat walk_at "W"
    refine we_bltn (fun _ => T.int) (by decide +kernel) (v := .ty "int") rfl ?_
    refine ⟨_, _, true, rfl, .base (.int n), by decide +kernel, ?_⟩
    repeat walk_at "W"
    refine we_isi (fun _ => T.isinstance) ?_
    repeat walk_at "W"
    refine we_bltn (fun _ => T.bool) (by decide +kernel) (v := .ty "bool") rfl ?_
    refine ⟨_, _, false, rfl, .base (.int n), by decide +kernel, ?_⟩
    repeat walk_at "W"
    exact k
/-! ### is_thing -/
abbrev sThg : Stmt := top 14
def spThg : Sp := fun vs H Q _ => ∃ z : Str, vs = [.str z] ∧ IsThing z ∧ ∀ H', Same H H' → Q (.bl true) H'
theorem scThg : FnScope ["thing", "sign"] ["thing"] (defScope sThg) := ⟨rfl, rfl, rfl, by decide +kernel, rfl, by decide +kernel, by decide +kernel⟩
theorem letter_in {c : Nat} (h0 : 97 ≤ c) (h1 : c ≤ 122) : c ∈ lettersS.cps.toList := by
  have q : ∀ j, j < 26 → 97 + j ∈ lettersS.cps.toList := by decide +kernel
  have := q (c - 97) (by omega)
  rwa [show 97 + (c - 97) = c from by omega] at this
theorem ok_thg {f : Addr} {fdt : FuncData} (F : Fun K "is_thing" "is_thing" sThg f fdt) (T : Txt K mg CW CL) : FnOk P w K mg base CX0 1 f fdt ["thing"] spThg := by
  refine fun_w F scThg (fun vs H Q E h => ?_) (fun cdv A outer s H vs Q E hr hN h => ?_)
  · obtain ⟨n, rfl, _⟩ := h
    rfl
  · obtain ⟨z, rfl, ⟨z1, z8, zc⟩, k⟩ := h
    have zl : z.length ≤ sizeLine := Nat.le_trans z8 (by decide)
    obtain ⟨tl, el⟩ := T.letters
    obtain ⟨t8, e8⟩ := T.longest
    repeat walk_at "W"
    refine wt_val ?_
    refine we_isi (fun _ => T.isinstance) ?_
    repeat walk_at "W"
    refine we_bltn (fun _ => T.str) (by decide +kernel) (v := .ty "str") rfl ?_
    refine ⟨_, _, true, rfl, .base (.str z), by decide +kernel, ?_⟩
    repeat walk_at "W"
    refine wt_chain (fun _ => op_le) (fun _ => op_le) ?_
    repeat walk_at "W"
    refine we_lenS (fun _ => T.len) ?_
    repeat walk_at "W"
    refine ⟨zl, ?_⟩
    repeat walk_at "W"
    refine Br.t (decide_eq_true (by omega)) ?_
    refine we_glob (v := .int 8) (fun _ => e8) ⟨_, rfl⟩ ?_
    repeat walk_at "W"
    refine Br.f (by rw [decide_eq_true (by omega : (z.length : Int) ≤ 8)]; rfl) ?_
    repeat walk_at "W"
    refine we_all (fun _ => T.all) ?_
    refine we_lc [("sign", 1)] hN (fun _ => blkOk_by (N := ["thing", "sign"]) (sc := defScope sThg) (by decide +kernel)) ?_
    refine wi_str ?_
    repeat walk_at "W"
    intro D hD
    refine ⟨z.cps.size, fun i acc H' => acc = List.replicate i (.bl true) ∧ Same H H' ∧ H' D = some (.lst acc), ⟨rfl, Same.new hD, upd_same⟩, ?_, ?_⟩
    · rintro i acc H1 hi ⟨rfl, sm, hD1⟩
      refine ⟨hi, ?_⟩
      rintro x H2 ⟨rfl, c, ec, rfl⟩
      refine wg_name 1 ?_ (fun i => hN i.1)
      refine ⟨rfl, ?_⟩
      refine wts_nil ?_
      refine Br.t rfl ?_
      refine we_cmp (op := .In) (fun _ => op_in_sign) (by rfl) ?_
      refine we_var 1 ?_
      refine we_glob (v := .str lettersS) (fun _ => el) ⟨_, rfl⟩ ?_
      have hc := zc c (by
        have := Array.getElem?_toList (xs := z.cps) (i := i)
        rw [ec] at this
        exact List.mem_of_getElem? this)
      refine ⟨c, lettersS, rfl, rfl, hD1, by rw [List.length_replicate]; exact small1000 (by have : z.length = z.cps.size := rfl; omega), ?_, ?_, upd_same⟩
      · rw [decide_eq_true (letter_in hc.1 hc.2), List.replicate_succ']
      · intro b u e
        rw [upd_ne (ne_of_none e hD)]
        exact sm b u e
    · rintro acc H1 ⟨rfl, sm, hD1⟩
      refine ⟨Nat.le_refl _, D, List.replicate z.cps.size true, rfl, by rw [List.map_replicate]; exact SqL.of hD1, ?_⟩
      rw [show (List.replicate z.cps.size true).all id = true from by rw [List.all_replicate]; simp]
      exact k _ sm
/-! ### is_window -/
abbrev sWindow : Stmt := top 15
def spWindow : Sp := fun vs H Q _ => ∃ b : Bool, vs = [.str (win b)] ∧ Q (.bl true) H
theorem scWindow : FnScope ["thing"] ["thing"] (defScope sWindow) := ⟨rfl, rfl, rfl, by decide +kernel, rfl, by decide +kernel, by decide +kernel⟩
theorem ok_window {f : Addr} {fdt : FuncData} (F : Fun K "is_window" "is_window" sWindow f fdt) (T : Txt K mg CW CL) : FnOk P w K mg base CX0 1 f fdt ["thing"] spWindow := by
  refine fun_w F scWindow (fun vs H Q E h => ?_) (fun cdv A outer s H vs Q E hr hN h => ?_)
  · obtain ⟨n, rfl, _⟩ := h
    rfl
  · obtain ⟨b, rfl, k⟩ := h
    obtain ⟨aw, ew, sw⟩ := T.windows
    repeat walk_at "W"
    refine we_isi (fun _ => T.isinstance) ?_
    repeat walk_at "W"
    refine we_bltn (fun _ => T.str) (by decide +kernel) (v := .ty "str") rfl ?_
    refine ⟨_, _, true, rfl, .base (.str _), by decide +kernel, ?_⟩
    repeat walk_at "W"
    refine we_inT ?_
    repeat walk_at "W"
    refine we_glob (v := .ref aw) (fun _ => ew) rfl ?_
    refine ⟨aw, _, rfl, .inr (sw _), rfl, rfl, ?_⟩
    cases b
    · exact k
    · exact k
/-! ### is_distance -/
abbrev sDist : Stmt := top 16
def spDist : Sp := fun vs H Q _ => ∃ n : Int, vs = [.int n] ∧ 1 ≤ n ∧ n ≤ 10 ^ 50 ∧ Q (.bl true) H
theorem scDist : FnScope ["thing"] ["thing"] (defScope sDist) := ⟨rfl, rfl, rfl, by decide +kernel, rfl, by decide +kernel, by decide +kernel⟩
theorem ok_dist {f : Addr} {fdt : FuncData} (F : Fun K "is_distance" "is_distance" sDist f fdt) (T : Txt K mg CW CL) (G : Cal P w K mg base "is_whole" 1 spWhole) : FnOk P w K mg base CX0 2 f fdt ["thing"] spDist := by
  refine fun_w F scDist (fun vs H Q E h => ?_) (fun cdv A outer s H vs Q E hr hN h => ?_)
  · obtain ⟨n, rfl, _⟩ := h
    rfl
  · obtain ⟨n, rfl, h1, h2, k⟩ := h
    obtain ⟨tg, eg⟩ := T.greatest
    repeat walk_at "W"
    refine we_call G hr ?_
    repeat walk_at "W"
    refine ⟨n, rfl, ?_⟩
    repeat walk_at "W"
    refine we_chain (fun _ => op_le) (fun _ => op_le) ?_
    repeat walk_at "W"
    refine Br.t (decide_eq_true h1) ?_
    refine we_glob (v := .int (10 ^ 50)) (fun _ => eg) ⟨_, rfl⟩ ?_
    repeat walk_at "W"
    rw [decide_eq_true h2]
    exact k
/-! ### is_length -/
abbrev sLength : Stmt := top 17
def spLength : Sp := fun vs H Q _ => ∃ n m : Int, vs = [.int n, .int m] ∧ n ≠ 0 ∧ -m ≤ n ∧ n ≤ m ∧ Q (.bl true) H
theorem scLength : FnScope ["thing", "most"] ["thing", "most"] (defScope sLength) := ⟨rfl, rfl, rfl, by decide +kernel, rfl, by decide +kernel, by decide +kernel⟩
theorem ok_length {f : Addr} {fdt : FuncData} (F : Fun K "is_length" "is_length" sLength f fdt) (T : Txt K mg CW CL) (G : Cal P w K mg base "is_whole" 1 spWhole) : FnOk P w K mg base CX0 2 f fdt ["thing", "most"] spLength := by
  refine fun_w F scLength (fun vs H Q E h => ?_) (fun cdv A outer s H vs Q E hr hN h => ?_)
  · obtain ⟨n, m, rfl, _⟩ := h
    rfl
  · obtain ⟨n, m, rfl, h0, h1, h2, k⟩ := h
    repeat walk_at "W"
    refine we_call G hr ?_
    repeat walk_at "W"
    refine ⟨n, rfl, ?_⟩
    repeat walk_at "W"
    refine Br.t (by rw [decide_eq_false (fun z => h0 (V.int.inj z))]; rfl) ?_
    repeat walk_at "W"
    refine we_chain (fun _ => op_le) (fun _ => op_le) ?_
    repeat walk_at "W"
    refine Br.t (decide_eq_true h1) ?_
    repeat walk_at "W"
    rw [decide_eq_true h2]
    exact k
end
end Rn
/-! is_plain_deed, is_deed. -/
namespace Rn
open PySem L2 StX

section
variable {P : Program} {w : World} {K : PySem.W.Frag} {mg : Str → Option Value} {base : Heap} {CW CL : Addr}
theorem thing_ok {t : Str} (h : IsThing t) : PyData.strOk t = true := by
  unfold PyData.strOk
  rw [Array.all_eq_true_iff_forall_mem]
  intro c hc
  have := h.2.2 c (by simpa using hc)
  simpa using (by omega : c < 1114112)
theorem win_ok (b : Bool) : PyData.strOk (win b) = true := by cases b <;> decide +kernel
theorem tup_ok {p : PDeed} (h : p.ok) : p.tup.all okFlat = true := by
  have w1 : ∀ b, okFlat (.str (win b)) = true := win_ok
  cases p with
  | pull n => show (okFlat (.str "pull") && (okFlat (.int n) && true)) = true; rw [show okFlat (.int n) = true from rfl]; decide +kernel
  | walk far s => show (okFlat (.str "walk") && (okFlat (.str (win far)) && (okFlat (.int s) && true))) = true; rw [w1, show okFlat (.int s) = true from rfl]; decide +kernel
  | peg far t => show (okFlat (.str "peg") && (okFlat (.str (win far)) && (okFlat (.str t) && true))) = true; rw [w1, show okFlat (.str t) = true from thing_ok h]; decide +kernel
  | hang far t => show (okFlat (.str "hang") && (okFlat (.str (win far)) && (okFlat (.str t) && true))) = true; rw [w1, show okFlat (.str t) = true from thing_ok h]; decide +kernel
  | fetch far t => show (okFlat (.str "fetch") && (okFlat (.str (win far)) && (okFlat (.str t) && true))) = true; rw [w1, show okFlat (.str t) = true from thing_ok h]; decide +kernel
  | take far => show (okFlat (.str "take") && (okFlat (.str (win far)) && true)) = true; rw [w1]; decide +kernel
  | look far => show (okFlat (.str "look") && (okFlat (.str (win far)) && true)) = true; rw [w1]; decide +kernel
abbrev sPlainD : Stmt := top 18
def spPlainD : Sp := fun vs H Q _ => ∃ (a : Addr) (p : PDeed), vs = [.ref a] ∧ H a = some (.tup p.tup) ∧ p.ok ∧ ∀ H', Same H H' → Q (.bl true) H'
theorem scPlainD : FnScope ["thing"] ["thing"] (defScope sPlainD) := ⟨rfl, rfl, rfl, by decide +kernel, rfl, by decide +kernel, by decide +kernel⟩
theorem tup_cons (p : PDeed) : ∃ w vs, p.tup = .str w :: vs := by cases p <;> exact ⟨_, _, rfl⟩
theorem ok_plainD {f : Addr} {fdt : FuncData} (F : Fun K "is_plain_deed" "is_plain_deed" sPlainD f fdt) (T : Txt K mg CW CL) (GW : Cal P w K mg base "is_window" 1 spWindow) (GT : Cal P w K mg base "is_thing" 1 spThg) (GL : Cal P w K mg base "is_length" 2 spLength) :
    FnOk P w K mg base CX0 3 f fdt ["thing"] spPlainD := by
  refine fun_w F scPlainD (fun vs H Q E h => ?_) (fun cdv A outer s H vs Q E hr hN h => ?_)
  · obtain ⟨a, p, rfl, _⟩ := h
    rfl
  · obtain ⟨a, p, rfl, hA, hok, k⟩ := h
    have fl := tup_ok hok
    obtain ⟨wd, wr, ewd⟩ := tup_cons p
    obtain ⟨tgp, egp⟩ := T.gpull
    obtain ⟨tgs, egs⟩ := T.gstep
    cases p with
    | pull n =>
      repeat walk_at "W"
      refine wt_val ?_
      refine we_isi (fun _ => T.isinstance) ?_
      repeat walk_at "W"
      refine we_bltn (fun _ => T.tuple) (by decide +kernel) (v := .ty "tuple") rfl ?_
      refine ⟨_, _, true, rfl, .base (.tup hA), by decide +kernel, ?_⟩
      repeat walk_at "W"
      refine ⟨a, _, _, rfl, hA, fl, fun H1 sm => ?_⟩
      have hA := sm _ _ hA
      repeat walk_at "W"
      refine wt_val ?_
      refine we_isi (fun _ => T.isinstance) ?_
      walk_at "D"
      refine we_bltn (fun _ => T.str) (by decide +kernel) (v := .ty "str") rfl ?_
      refine ⟨_, _, true, rfl, .base (.str _), by decide +kernel, ?_⟩
      repeat walk_at "W"
      walk_at "D"
      repeat walk_at "W"
      refine we_len (fun _ => T.len) ?_
      repeat walk_at "W"
      refine ⟨a, _, rfl, .inr (SqT.of hA), ?_⟩
      repeat walk_at "W"
      refine we_call GL hr ?_
      refine wa_cons ?_
      walk_at "D"
      refine wa_cons ?_
      refine we_glob (v := .int 40) (fun _ => egp) ⟨_, rfl⟩ ?_
      repeat walk_at "W"
      have hok' := hok.2
      exact ⟨n, 40, rfl, hok.1, by omega, by omega, k _ sm⟩
    | walk far st =>
      repeat walk_at "W"
      refine wt_val ?_
      refine we_isi (fun _ => T.isinstance) ?_
      repeat walk_at "W"
      refine we_bltn (fun _ => T.tuple) (by decide +kernel) (v := .ty "tuple") rfl ?_
      refine ⟨_, _, true, rfl, .base (.tup hA), by decide +kernel, ?_⟩
      repeat walk_at "W"
      refine ⟨a, _, _, rfl, hA, fl, fun H1 sm => ?_⟩
      have hA := sm _ _ hA
      repeat walk_at "W"
      refine wt_val ?_
      refine we_isi (fun _ => T.isinstance) ?_
      walk_at "D"
      refine we_bltn (fun _ => T.str) (by decide +kernel) (v := .ty "str") rfl ?_
      refine ⟨_, _, true, rfl, .base (.str _), by decide +kernel, ?_⟩
      repeat walk_at "W"
      walk_at "D"
      repeat walk_at "W"
      refine we_len (fun _ => T.len) ?_
      repeat walk_at "W"
      refine ⟨a, _, rfl, .inr (SqT.of hA), ?_⟩
      repeat walk_at "W"
      refine wt_val ?_
      refine we_call GW hr ?_
      refine wa_cons ?_
      walk_at "D"
      repeat walk_at "W"
      refine ⟨far, rfl, ?_⟩
      repeat walk_at "W"
      refine wt_inT ?_
      walk_at "D"
      repeat walk_at "W"
      refine ⟨by show 2 ≤ sizeLine; decide, fun tp ht => ⟨tp, _, rfl, .inr (SqT.of upd_same), rfl, rfl, ?_⟩⟩
      have sm := sm.trans (Same.new (o := .tup [.str "take", .str "look"]) ht)
      have hA := Same.new (o := .tup [.str "take", .str "look"]) ht _ _ hA
      repeat walk_at "W"
      refine wt_inT ?_
      walk_at "D"
      repeat walk_at "W"
      refine ⟨by show 3 ≤ sizeLine; decide, fun tp ht => ⟨tp, _, rfl, .inr (SqT.of upd_same), rfl, rfl, ?_⟩⟩
      have sm := sm.trans (Same.new (o := .tup [.str "peg", .str "hang", .str "fetch"]) ht)
      have hA := Same.new (o := .tup [.str "peg", .str "hang", .str "fetch"]) ht _ _ hA
      repeat walk_at "W"
      walk_at "D"
      repeat walk_at "W"
      refine we_len (fun _ => T.len) ?_
      repeat walk_at "W"
      refine ⟨a, _, rfl, .inr (SqT.of hA), ?_⟩
      repeat walk_at "W"
      refine we_call GL hr ?_
      refine wa_cons ?_
      walk_at "D"
      refine wa_cons ?_
      refine we_glob (v := .int 6) (fun _ => egs) ⟨_, rfl⟩ ?_
      repeat walk_at "W"
      have hok' := hok.2
      exact ⟨st, 6, rfl, hok.1, by omega, by omega, k _ sm⟩
    | peg far t =>
      repeat walk_at "W"
      refine wt_val ?_
      refine we_isi (fun _ => T.isinstance) ?_
      repeat walk_at "W"
      refine we_bltn (fun _ => T.tuple) (by decide +kernel) (v := .ty "tuple") rfl ?_
      refine ⟨_, _, true, rfl, .base (.tup hA), by decide +kernel, ?_⟩
      repeat walk_at "W"
      refine ⟨a, _, _, rfl, hA, fl, fun H1 sm => ?_⟩
      have hA := sm _ _ hA
      repeat walk_at "W"
      refine wt_val ?_
      refine we_isi (fun _ => T.isinstance) ?_
      walk_at "D"
      refine we_bltn (fun _ => T.str) (by decide +kernel) (v := .ty "str") rfl ?_
      refine ⟨_, _, true, rfl, .base (.str _), by decide +kernel, ?_⟩
      repeat walk_at "W"
      walk_at "D"
      repeat walk_at "W"
      refine we_len (fun _ => T.len) ?_
      repeat walk_at "W"
      refine ⟨a, _, rfl, .inr (SqT.of hA), ?_⟩
      repeat walk_at "W"
      refine wt_val ?_
      refine we_call GW hr ?_
      refine wa_cons ?_
      walk_at "D"
      repeat walk_at "W"
      refine ⟨far, rfl, ?_⟩
      repeat walk_at "W"
      refine wt_inT ?_
      walk_at "D"
      repeat walk_at "W"
      refine ⟨by show 2 ≤ sizeLine; decide, fun tp ht => ⟨tp, _, rfl, .inr (SqT.of upd_same), rfl, rfl, ?_⟩⟩
      have sm := sm.trans (Same.new (o := .tup [.str "take", .str "look"]) ht)
      have hA := Same.new (o := .tup [.str "take", .str "look"]) ht _ _ hA
      repeat walk_at "W"
      refine wt_inT ?_
      walk_at "D"
      repeat walk_at "W"
      refine ⟨by show 3 ≤ sizeLine; decide, fun tp ht => ⟨tp, _, rfl, .inr (SqT.of upd_same), rfl, rfl, ?_⟩⟩
      have sm := sm.trans (Same.new (o := .tup [.str "peg", .str "hang", .str "fetch"]) ht)
      have hA := Same.new (o := .tup [.str "peg", .str "hang", .str "fetch"]) ht _ _ hA
      repeat walk_at "W"
      refine we_len (fun _ => T.len) ?_
      repeat walk_at "W"
      refine ⟨a, _, rfl, .inr (SqT.of hA), ?_⟩
      repeat walk_at "W"
      refine we_call GT hr ?_
      refine wa_cons ?_
      walk_at "D"
      repeat walk_at "W"
      exact ⟨t, rfl, hok, fun H2 sm2 => k _ (sm.trans sm2)⟩
    | hang far t =>
      repeat walk_at "W"
      refine wt_val ?_
      refine we_isi (fun _ => T.isinstance) ?_
      repeat walk_at "W"
      refine we_bltn (fun _ => T.tuple) (by decide +kernel) (v := .ty "tuple") rfl ?_
      refine ⟨_, _, true, rfl, .base (.tup hA), by decide +kernel, ?_⟩
      repeat walk_at "W"
      refine ⟨a, _, _, rfl, hA, fl, fun H1 sm => ?_⟩
      have hA := sm _ _ hA
      repeat walk_at "W"
      refine wt_val ?_
      refine we_isi (fun _ => T.isinstance) ?_
      walk_at "D"
      refine we_bltn (fun _ => T.str) (by decide +kernel) (v := .ty "str") rfl ?_
      refine ⟨_, _, true, rfl, .base (.str _), by decide +kernel, ?_⟩
      repeat walk_at "W"
      walk_at "D"
      repeat walk_at "W"
      refine we_len (fun _ => T.len) ?_
      repeat walk_at "W"
      refine ⟨a, _, rfl, .inr (SqT.of hA), ?_⟩
      repeat walk_at "W"
      refine wt_val ?_
      refine we_call GW hr ?_
      refine wa_cons ?_
      walk_at "D"
      repeat walk_at "W"
      refine ⟨far, rfl, ?_⟩
      repeat walk_at "W"
      refine wt_inT ?_
      walk_at "D"
      repeat walk_at "W"
      refine ⟨by show 2 ≤ sizeLine; decide, fun tp ht => ⟨tp, _, rfl, .inr (SqT.of upd_same), rfl, rfl, ?_⟩⟩
      have sm := sm.trans (Same.new (o := .tup [.str "take", .str "look"]) ht)
      have hA := Same.new (o := .tup [.str "take", .str "look"]) ht _ _ hA
      repeat walk_at "W"
      refine wt_inT ?_
      walk_at "D"
      repeat walk_at "W"
      refine ⟨by show 3 ≤ sizeLine; decide, fun tp ht => ⟨tp, _, rfl, .inr (SqT.of upd_same), rfl, rfl, ?_⟩⟩
      have sm := sm.trans (Same.new (o := .tup [.str "peg", .str "hang", .str "fetch"]) ht)
      have hA := Same.new (o := .tup [.str "peg", .str "hang", .str "fetch"]) ht _ _ hA
      repeat walk_at "W"
      refine we_len (fun _ => T.len) ?_
      repeat walk_at "W"
      refine ⟨a, _, rfl, .inr (SqT.of hA), ?_⟩
      repeat walk_at "W"
      refine we_call GT hr ?_
      refine wa_cons ?_
      walk_at "D"
      repeat walk_at "W"
      exact ⟨t, rfl, hok, fun H2 sm2 => k _ (sm.trans sm2)⟩
    | fetch far t =>
      repeat walk_at "W"
      refine wt_val ?_
      refine we_isi (fun _ => T.isinstance) ?_
      repeat walk_at "W"
      refine we_bltn (fun _ => T.tuple) (by decide +kernel) (v := .ty "tuple") rfl ?_
      refine ⟨_, _, true, rfl, .base (.tup hA), by decide +kernel, ?_⟩
      repeat walk_at "W"
      refine ⟨a, _, _, rfl, hA, fl, fun H1 sm => ?_⟩
      have hA := sm _ _ hA
      repeat walk_at "W"
      refine wt_val ?_
      refine we_isi (fun _ => T.isinstance) ?_
      walk_at "D"
      refine we_bltn (fun _ => T.str) (by decide +kernel) (v := .ty "str") rfl ?_
      refine ⟨_, _, true, rfl, .base (.str _), by decide +kernel, ?_⟩
      repeat walk_at "W"
      walk_at "D"
      repeat walk_at "W"
      refine we_len (fun _ => T.len) ?_
      repeat walk_at "W"
      refine ⟨a, _, rfl, .inr (SqT.of hA), ?_⟩
      repeat walk_at "W"
      refine wt_val ?_
      refine we_call GW hr ?_
      refine wa_cons ?_
      walk_at "D"
      repeat walk_at "W"
      refine ⟨far, rfl, ?_⟩
      repeat walk_at "W"
      refine wt_inT ?_
      walk_at "D"
      repeat walk_at "W"
      refine ⟨by show 2 ≤ sizeLine; decide, fun tp ht => ⟨tp, _, rfl, .inr (SqT.of upd_same), rfl, rfl, ?_⟩⟩
      have sm := sm.trans (Same.new (o := .tup [.str "take", .str "look"]) ht)
      have hA := Same.new (o := .tup [.str "take", .str "look"]) ht _ _ hA
      repeat walk_at "W"
      refine wt_inT ?_
      walk_at "D"
      repeat walk_at "W"
      refine ⟨by show 3 ≤ sizeLine; decide, fun tp ht => ⟨tp, _, rfl, .inr (SqT.of upd_same), rfl, rfl, ?_⟩⟩
      have sm := sm.trans (Same.new (o := .tup [.str "peg", .str "hang", .str "fetch"]) ht)
      have hA := Same.new (o := .tup [.str "peg", .str "hang", .str "fetch"]) ht _ _ hA
      repeat walk_at "W"
      refine we_len (fun _ => T.len) ?_
      repeat walk_at "W"
      refine ⟨a, _, rfl, .inr (SqT.of hA), ?_⟩
      repeat walk_at "W"
      refine we_call GT hr ?_
      refine wa_cons ?_
      walk_at "D"
      repeat walk_at "W"
      exact ⟨t, rfl, hok, fun H2 sm2 => k _ (sm.trans sm2)⟩
    | take far =>
      repeat walk_at "W"
      refine wt_val ?_
      refine we_isi (fun _ => T.isinstance) ?_
      repeat walk_at "W"
      refine we_bltn (fun _ => T.tuple) (by decide +kernel) (v := .ty "tuple") rfl ?_
      refine ⟨_, _, true, rfl, .base (.tup hA), by decide +kernel, ?_⟩
      repeat walk_at "W"
      refine ⟨a, _, _, rfl, hA, fl, fun H1 sm => ?_⟩
      have hA := sm _ _ hA
      repeat walk_at "W"
      refine wt_val ?_
      refine we_isi (fun _ => T.isinstance) ?_
      walk_at "D"
      refine we_bltn (fun _ => T.str) (by decide +kernel) (v := .ty "str") rfl ?_
      refine ⟨_, _, true, rfl, .base (.str _), by decide +kernel, ?_⟩
      repeat walk_at "W"
      walk_at "D"
      repeat walk_at "W"
      refine we_len (fun _ => T.len) ?_
      repeat walk_at "W"
      refine ⟨a, _, rfl, .inr (SqT.of hA), ?_⟩
      repeat walk_at "W"
      refine wt_val ?_
      refine we_call GW hr ?_
      refine wa_cons ?_
      walk_at "D"
      repeat walk_at "W"
      refine ⟨far, rfl, ?_⟩
      repeat walk_at "W"
      refine wt_inT ?_
      walk_at "D"
      repeat walk_at "W"
      refine ⟨by show 2 ≤ sizeLine; decide, fun tp ht => ⟨tp, _, rfl, .inr (SqT.of upd_same), rfl, rfl, ?_⟩⟩
      have sm := sm.trans (Same.new (o := .tup [.str "take", .str "look"]) ht)
      have hA := Same.new (o := .tup [.str "take", .str "look"]) ht _ _ hA
      repeat walk_at "W"
      refine we_len (fun _ => T.len) ?_
      repeat walk_at "W"
      refine ⟨a, _, rfl, .inr (SqT.of hA), ?_⟩
      repeat walk_at "W"
      exact k _ sm
    | look far =>
      repeat walk_at "W"
      refine wt_val ?_
      refine we_isi (fun _ => T.isinstance) ?_
      repeat walk_at "W"
      refine we_bltn (fun _ => T.tuple) (by decide +kernel) (v := .ty "tuple") rfl ?_
      refine ⟨_, _, true, rfl, .base (.tup hA), by decide +kernel, ?_⟩
      repeat walk_at "W"
      refine ⟨a, _, _, rfl, hA, fl, fun H1 sm => ?_⟩
      have hA := sm _ _ hA
      repeat walk_at "W"
      refine wt_val ?_
      refine we_isi (fun _ => T.isinstance) ?_
      walk_at "D"
      refine we_bltn (fun _ => T.str) (by decide +kernel) (v := .ty "str") rfl ?_
      refine ⟨_, _, true, rfl, .base (.str _), by decide +kernel, ?_⟩
      repeat walk_at "W"
      walk_at "D"
      repeat walk_at "W"
      refine we_len (fun _ => T.len) ?_
      repeat walk_at "W"
      refine ⟨a, _, rfl, .inr (SqT.of hA), ?_⟩
      repeat walk_at "W"
      refine wt_val ?_
      refine we_call GW hr ?_
      refine wa_cons ?_
      walk_at "D"
      repeat walk_at "W"
      refine ⟨far, rfl, ?_⟩
      repeat walk_at "W"
      refine wt_inT ?_
      walk_at "D"
      repeat walk_at "W"
      refine ⟨by show 2 ≤ sizeLine; decide, fun tp ht => ⟨tp, _, rfl, .inr (SqT.of upd_same), rfl, rfl, ?_⟩⟩
      have sm := sm.trans (Same.new (o := .tup [.str "take", .str "look"]) ht)
      have hA := Same.new (o := .tup [.str "take", .str "look"]) ht _ _ hA
      repeat walk_at "W"
      refine we_len (fun _ => T.len) ?_
      repeat walk_at "W"
      refine ⟨a, _, rfl, .inr (SqT.of hA), ?_⟩
      repeat walk_at "W"
      exact k _ sm
--ENDP
end
end Rn
/-! is_deed. -/
namespace Rn
open PySem L2 StX

section
variable {P : Program} {w : World} {K : PySem.W.Frag} {mg : Str → Option Value} {base : Heap} {CW CL : Addr}
abbrev sDeed : Stmt := top 19
def spDeed : Sp := fun vs H Q _ => ∃ (a : Addr) (D : Deed), vs = [.ref a] ∧ DeedAt H a D ∧ D.ok ∧ ∀ H', Same H H' → Q (.bl true) H'
theorem scDeed : FnScope ["thing"] ["thing"] (defScope sDeed) := ⟨rfl, rfl, rfl, by decide +kernel, rfl, by decide +kernel, by decide +kernel⟩
theorem tup_len (p : PDeed) : (p.tup.length : Int) ≠ 4 := by cases p <;> (unfold PDeed.tup; simp only [List.length_cons, List.length_nil]; decide)
theorem ok_deed {f : Addr} {fdt : FuncData} (F : Fun K "is_deed" "is_deed" sDeed f fdt) (T : Txt K mg CW CL) (GW : Cal P w K mg base "is_window" 1 spWindow) (GT : Cal P w K mg base "is_thing" 1 spThg) (GP : Cal P w K mg base "is_plain_deed" 3 spPlainD) :
    FnOk P w K mg base CX0 4 f fdt ["thing"] spDeed := by
  refine fun_w F scDeed (fun vs H Q E h => ?_) (fun cdv A outer s H vs Q E hr hN h => ?_)
  · obtain ⟨a, p, rfl, _⟩ := h
    rfl
  · obtain ⟨a, D, rfl, hD, hok, k⟩ := h
    cases D with
    | plain p =>
      have hA : H a = some (.tup p.tup) := hD
      repeat walk_at "W"
      refine wt_val ?_
      refine we_isi (fun _ => T.isinstance) ?_
      repeat walk_at "W"
      refine we_bltn (fun _ => T.tuple) (by decide +kernel) (v := .ty "tuple") rfl ?_
      refine ⟨_, _, true, rfl, .base (.tup hA), by decide +kernel, ?_⟩
      repeat walk_at "W"
      refine we_len (fun _ => T.len) ?_
      repeat walk_at "W"
      refine ⟨a, _, rfl, .inr (SqT.of hA), ?_⟩
      repeat walk_at "W"
      refine Br.t (by rw [decide_eq_false (fun z => tup_len p (V.int.inj z))]; rfl) ?_
      repeat walk_at "W"
      refine we_call GP hr ?_
      repeat walk_at "W"
      exact ⟨a, p, rfl, hA, hok, k⟩
    | when far o p =>
      obtain ⟨b, hA, hB⟩ := hD
      repeat walk_at "W"
      refine wt_val ?_
      refine we_isi (fun _ => T.isinstance) ?_
      repeat walk_at "W"
      refine we_bltn (fun _ => T.tuple) (by decide +kernel) (v := .ty "tuple") rfl ?_
      refine ⟨_, _, true, rfl, .base (.tup hA), by decide +kernel, ?_⟩
      repeat walk_at "W"
      refine we_len (fun _ => T.len) ?_
      repeat walk_at "W"
      refine ⟨a, _, rfl, .inr (SqT.of hA), ?_⟩
      repeat walk_at "W"
      refine wt_val ?_
      refine we_isi (fun _ => T.isinstance) ?_
      walk_at "D"
      refine we_bltn (fun _ => T.str) (by decide +kernel) (v := .ty "str") rfl ?_
      refine ⟨_, _, true, rfl, .base (.str _), by decide +kernel, ?_⟩
      repeat walk_at "W"
      walk_at "D"
      repeat walk_at "W"
      refine we_call GW hr ?_
      refine wa_cons ?_
      walk_at "D"
      repeat walk_at "W"
      refine ⟨far, rfl, ?_⟩
      repeat walk_at "W"
      walk_at "D"
      cases o with
      | none =>
        repeat walk_at "W"
        refine we_call GP hr ?_
        refine wa_cons ?_
        walk_at "D"
        repeat walk_at "W"
        exact ⟨b, p, rfl, hB, hok.1, k⟩
      | some t =>
        repeat walk_at "W"
        refine we_call GT hr ?_
        refine wa_cons ?_
        walk_at "D"
        repeat walk_at "W"
        refine ⟨t, rfl, hok.2 t rfl, fun H1 sm => ?_⟩
        have hA := sm _ _ hA
        repeat walk_at "W"
        refine we_call GP hr ?_
        refine wa_cons ?_
        walk_at "D"
        repeat walk_at "W"
        exact ⟨b, p, rfl, sm _ _ hB, hok.1, fun H2 sm2 => k _ (sm.trans sm2)⟩
end
end Rn
/-! The live line. -/
namespace Rn
open PySem L2 StX

def lf (d : Int) (W dn er mk : Addr) : List (Str × V) := [("length", .int d), ("work", .ref W), ("done", .ref dn), ("earlier", .ref er), ("marks", .ref mk)]
/-- a live line at L: its work at W, what stood earlier at er; n deeds so far -/
structure LineAt (K : PySem.W.Frag) (CW CL : Addr) (H : Hp) (d : Int) (L ldx er W h wdx : Addr) (n : Nat) (S : LS) : Prop where
  ob : ∃ dn mk xs, H L = some (.ins CL ldx (lf d W dn er mk)) ∧ SqT K H dn xs ∧ xs.length ≤ n
  ear : ∃ ys, H er = some (.lst ys) ∧ ys.length ≤ n
  work : WorkAt CW H d W h wdx S
  ne : L ≠ W
def Pl (L er W h : Addr) (b : Addr) : Prop := b = L ∨ b = er ∨ b = W ∨ b = h
theorem LineAt.same {K : PySem.W.Frag} {CW CL : Addr} {H H' : Hp} {d : Int} {L ldx er W h wdx : Addr} {n : Nat} {S : LS} (a : LineAt K CW CL H d L ldx er W h wdx n S) (e : Same H H') : LineAt K CW CL H' d L ldx er W h wdx n S := by
  obtain ⟨⟨dn, mk, xs, h1, h2, h3⟩, ⟨ys, h4, h5⟩, hw, ne⟩ := a
  exact ⟨⟨dn, mk, xs, e _ _ h1, e.seqT h2, h3⟩, ⟨ys, e _ _ h4, h5⟩, hw.same e, ne⟩

section
variable {P : Program} {w : World} {K : PySem.W.Frag} {mg : Str → Option Value} {base : Heap} {CW CL : Addr}
/-! ### LineWork.__init__ -/
abbrev sWInit : Stmt := inClass (top 21) 0
def spWInit (CW : Addr) : Sp := fun vs H Q _ => ∃ (p dx : Addr) (d : Int), vs = [.ref p, .int d] ∧ H p = some (.ins CW dx []) ∧ 0 < d ∧ d ≤ 10 ^ 50 ∧ ∀ h H', But (· = p) H H' → H h = none → WorkAt CW H' d p h dx ⟨0, [], 0⟩ → Q .non H'
theorem scWInit : FnScope ["self", "length"] ["self", "length"] (defScope sWInit) := ⟨rfl, rfl, rfl, by decide +kernel, rfl, by decide +kernel, by decide +kernel⟩
theorem ok_winit {f : Addr} {fdt : FuncData} (F : Fun K "__init__" "LineWork.__init__" sWInit f fdt) (T : Txt K mg CW CL) : FnOk P w K mg base CX0 1 f fdt ["self", "length"] (spWInit CW) := by
  refine fun_w F scWInit (fun vs H Q E h => ?_) (fun cdv A outer s H vs Q E hr hN h => ?_)
  · obtain ⟨p, dx, d, rfl, _⟩ := h
    rfl
  · obtain ⟨p, dx, d, rfl, hp, d0, d1, k⟩ := h
    refine wb_cons (ws_fld ?_)
    repeat walk_at "W"
    refine ⟨_, _, _, _, rfl, hp, T.clW, T.wH, (by show 0 < 1000; decide), ?_⟩
    refine wb_cons (ws_fld ?_)
    repeat walk_at "W"
    refine ⟨_, _, _, _, rfl, upd_same, T.clW, T.wS, (by show 1 < 1000; decide), ?_⟩
    refine wb_cons (ws_fld ?_)
    refine we_dnew fun h hh => ?_
    have hph : p ≠ h := fun z => by rw [z, upd_same] at hh; cases hh
    have hh0 : H h = none := by rw [upd_ne hph.symm, upd_ne hph.symm] at hh; exact hh
    repeat walk_at "W"
    refine ⟨_, _, _, _, rfl, (by rw [upd_ne hph]; exact upd_same), T.clW, T.wU, (by show 2 < 1000; decide), ?_⟩
    refine wb_one (ws_fld ?_)
    repeat walk_at "W"
    refine ⟨_, _, _, _, rfl, upd_same, T.clW, T.wL, (by show 3 < 1000; decide), ?_⟩
    refine k h _ (fun b o e nb => ?_) hh0 ⟨upd_same, ?_, d0, d1, ⟨Int.le_refl _, by show (0 : Int) < 2 * d; omega, List.nodup_nil, List.nodup_nil, fun p hp => by cases hp⟩, Nat.zero_le _⟩
    · rw [upd_ne nb, upd_ne nb, upd_ne (ne_of_none e hh0), upd_ne nb, upd_ne nb]
      exact e
    · rw [upd_ne hph.symm, upd_ne hph.symm, upd_same]
      rfl
/-! ### Line.__init__ -/
abbrev sLInit : Stmt := inClass (top 23) 0
def spLInit (K : PySem.W.Frag) (CW CL : Addr) : Sp := fun vs H Q _ => ∃ (p dx : Addr) (d : Int), vs = [.ref p, .int d] ∧ H p = some (.ins CL dx []) ∧ 0 < d ∧ d ≤ 10 ^ 50 ∧
  ∀ er W h wdx H', But (· = p) H H' → H er = none → H W = none → H h = none → LineAt K CW CL H' d p dx er W h wdx 0 ⟨0, [], 0⟩ → Q .non H'
theorem scLInit : FnScope ["self", "distance"] ["self", "distance"] (defScope sLInit) := ⟨rfl, rfl, rfl, by decide +kernel, rfl, by decide +kernel, by decide +kernel⟩
theorem ok_linit {f : Addr} {fdt : FuncData} (F : Fun K "__init__" "Line.__init__" sLInit f fdt) (T : Txt K mg CW CL) (GD : Cal P w K mg base "is_distance" 2 spDist) (GC : CalC P w K mg base "LineWork" CW 1 (spWInit CW)) : FnOk P w K mg base CX0 3 f fdt ["self", "distance"] (spLInit K CW CL) := by
  refine fun_w F scLInit (fun vs H Q E h => ?_) (fun cdv A outer s H vs Q E hr hN h => ?_)
  · obtain ⟨p, dx, d, rfl, _⟩ := h
    rfl
  · obtain ⟨p, dx, d, rfl, hp, d0, d1, k⟩ := h
    repeat walk_at "W"
    refine wt_val ?_
    refine we_call GD hr ?_
    repeat walk_at "W"
    refine ⟨d, rfl, by omega, d1, ?_⟩
    repeat walk_at "W"
    refine ws_fld ?_
    repeat walk_at "W"
    refine ⟨_, _, _, _, rfl, hp, T.clL, T.lL, (by show 0 < 1000; decide), ?_⟩
    refine wb_cons (ws_fld ?_)
    refine we_make GC hr ?_
    repeat walk_at "W"
    intro W wdx hW hwdx hne
    have hWp : p ≠ W := ne_of_none upd_same hW
    have hdp : p ≠ wdx := ne_of_none upd_same hwdx
    refine ⟨W, wdx, d, rfl, upd_same, d0, d1, fun h H1 bt hh hW1 => ⟨rfl, ?_⟩⟩
    -- what stood stays
    have st : ∀ b o, H b = some o → b ≠ p → H1 b = some o := fun b o e nb => by
      have e0 : (upd H p (.ins CL dx (putF "length" (.int d) []))) b = some o := by rw [upd_ne nb]; exact e
      refine bt b o ?_ (ne_of_none e0 hW)
      rw [upd_ne (ne_of_none e0 hW), upd_ne (ne_of_none e0 hwdx)]
      exact e0
    have hp1 : H1 p = some (.ins CL dx (putF "length" (.int d) [])) := bt _ _ (by rw [upd_ne hWp, upd_ne hdp, upd_same]) hWp
    have hWH : H W = none := by rw [upd_ne hWp.symm] at hW; exact hW
    have hph : p ≠ h := ne_of hp1 hW1.dc (by intro z; cases z)
    have hhH : H h = none := by
      by_cases z : h = W
      · rw [z]; exact hWH
      · have q := hh
        rw [upd_ne z] at q
        by_cases z2 : h = wdx
        · rw [z2, upd_same] at q; cases q
        · rw [upd_ne z2, upd_ne hph.symm] at q; exact q
    repeat walk_at "W"
    refine ⟨_, _, _, _, rfl, hp1, T.clL, T.lW, (by show 1 < 1000; decide), ?_⟩
    refine wb_cons (ws_fld ?_)
    repeat walk_at "W"
    refine ⟨Nat.zero_le _, fun dn hdn => ?_⟩
    have npdn : p ≠ dn := ne_of_none upd_same hdn
    repeat walk_at "W"
    refine ⟨_, _, _, _, rfl, (by rw [upd_ne npdn]; exact upd_same), T.clL, T.lD, (by show 2 < 1000; decide), ?_⟩
    refine wb_cons (ws_fld ?_)
    repeat walk_at "W"
    refine ⟨Nat.zero_le _, fun er her => ?_⟩
    have nper : p ≠ er := ne_of_none upd_same her
    repeat walk_at "W"
    refine ⟨_, _, _, _, rfl, (by rw [upd_ne nper]; exact upd_same), T.clL, T.lE, (by show 3 < 1000; decide), ?_⟩
    refine wb_one (ws_fld ?_)
    refine we_dnew fun mk hmk => ?_
    have npmk : p ≠ mk := ne_of_none upd_same hmk
    repeat walk_at "W"
    refine ⟨_, _, _, _, rfl, (by rw [upd_ne npmk]; exact upd_same), T.clL, T.lM, (by show 4 < 1000; decide), ?_⟩
    have dnH1 : H1 dn = none := by rw [upd_ne npdn.symm] at hdn; exact hdn
    have erdn : er ≠ dn := fun z => by rw [z, upd_ne npdn.symm, upd_same] at her; cases her
    have erH1 : H1 er = none := by rw [upd_ne nper.symm, upd_ne erdn, upd_ne nper.symm] at her; exact her
    have mker : mk ≠ er := fun z => by rw [z, upd_ne nper.symm, upd_same] at hmk; cases hmk
    have mkdn : mk ≠ dn := fun z => by rw [z, upd_ne npdn.symm, upd_ne erdn.symm, upd_ne npdn.symm, upd_same] at hmk; cases hmk
    have mkH1 : H1 mk = none := by rw [upd_ne npmk.symm, upd_ne mker, upd_ne npmk.symm, upd_ne mkdn, upd_ne npmk.symm] at hmk; exact hmk
    have fin : ∀ b o, H1 b = some o → b ≠ p → ∀ (o1 o2 o3 o4 o5 : HO) (o6 o7), (upd (upd (upd (upd (upd (upd (upd H1 p o1) dn o2) p o3) er o4) p o5) mk o6) p o7) b = some o := fun b o e nb o1 o2 o3 o4 o5 o6 o7 => by
      rw [upd_ne nb, upd_ne (ne_of_none e mkH1), upd_ne nb, upd_ne (ne_of_none e erH1), upd_ne nb, upd_ne (ne_of_none e dnH1), upd_ne nb]
      exact e
    have erH : H er = none := by
      cases q : H er with
      | none => rfl
      | some o => rw [st er o q nper.symm] at erH1; cases erH1
    refine k er W h wdx _ (fun b o e nb => fin b o (st b o e nb) nb _ _ _ _ _ _ _) erH hWH hhH ⟨⟨dn, mk, [], upd_same, SqT.of ?_, Nat.le_refl _⟩, ⟨[], ?_, Nat.le_refl _⟩, ⟨fin _ _ hW1.ob hWp.symm _ _ _ _ _ _ _, fin _ _ hW1.dc hph.symm _ _ _ _ _ _ _, d0, d1, hW1.good, hW1.few⟩, hWp⟩
    · rw [upd_ne npdn.symm, upd_ne mkdn.symm, upd_ne npdn.symm, upd_ne erdn.symm, upd_ne npdn.symm, upd_same]
    · rw [upd_ne nper.symm, upd_ne mker.symm, upd_ne nper.symm, upd_same]
end
end Rn
/-! The live line: turn, pulled, remember, do. -/
namespace Rn
open PySem L2 StX

section
variable {P : Program} {w : World} {K : PySem.W.Frag} {mg : Str → Option Value} {base : Heap} {CW CL : Addr}
/-! ### turn, pulled -/
def spRead (K : PySem.W.Frag) (CW CL : Addr) (g : LS → Int) : Sp := fun vs H Q _ => ∃ (d : Int) (L ldx er W h wdx : Addr) (n : Nat) (S : LS), vs = [.ref L] ∧ LineAt K CW CL H d L ldx er W h wdx n S ∧ Q (.int (g S)) H
abbrev sTurn : Stmt := inClass (top 23) 2
abbrev sPulled : Stmt := inClass (top 23) 3
theorem scTurn : FnScope ["self"] ["self"] (defScope sTurn) := ⟨rfl, rfl, rfl, by decide +kernel, rfl, by decide +kernel, by decide +kernel⟩
theorem scPulled : FnScope ["self"] ["self"] (defScope sPulled) := ⟨rfl, rfl, rfl, by decide +kernel, rfl, by decide +kernel, by decide +kernel⟩
theorem ok_turn {f : Addr} {fdt : FuncData} (F : Fun K "turn" "Line.turn" sTurn f fdt) (T : Txt K mg CW CL) : FnOk P w K mg base CX0 1 f fdt ["self"] (spRead K CW CL LS.stand) := by
  refine fun_w F scTurn (fun vs H Q E h => ?_) (fun cdv A outer s H vs Q E hr hN h => ?_)
  · obtain ⟨d, L, ldx, er, W, h, wdx, n, S, rfl, _⟩ := h
    rfl
  · obtain ⟨d, L, ldx, er, W, h, wdx, n, S, rfl, ⟨⟨dn, mk, xs, hL, _⟩, _, hW, _⟩, k⟩ := h
    repeat walk_at "W"
    refine ⟨_, _, _, _, _, rfl, hL, T.clL, T.lW, rfl, ?_⟩
    refine ⟨_, _, _, _, _, rfl, hW.ob, T.clW, T.wS, rfl, ?_⟩
    exact k
theorem ok_pulled {f : Addr} {fdt : FuncData} (F : Fun K "pulled" "Line.pulled" sPulled f fdt) (T : Txt K mg CW CL) : FnOk P w K mg base CX0 1 f fdt ["self"] (spRead K CW CL LS.lengths) := by
  refine fun_w F scPulled (fun vs H Q E h => ?_) (fun cdv A outer s H vs Q E hr hN h => ?_)
  · obtain ⟨d, L, ldx, er, W, h, wdx, n, S, rfl, _⟩ := h
    rfl
  · obtain ⟨d, L, ldx, er, W, h, wdx, n, S, rfl, ⟨⟨dn, mk, xs, hL, _⟩, _, hW, _⟩, k⟩ := h
    repeat walk_at "W"
    refine ⟨_, _, _, _, _, rfl, hL, T.clL, T.lW, rfl, ?_⟩
    refine ⟨_, _, _, _, _, rfl, hW.ob, T.clW, T.wL, rfl, ?_⟩
    exact k
/-! ### remember -/
abbrev sRem : Stmt := inClass (top 23) 6
/-- all as it was, but one thing more in the list of what stood -/
def spRem (K : PySem.W.Frag) (CW CL : Addr) : Sp := fun vs H Q _ => ∃ (d : Int) (L ldx er W h wdx dn mk : Addr) (xs ys : List V) (S : LS), vs = [.ref L] ∧ H L = some (.ins CL ldx (lf d W dn er mk)) ∧ H er = some (.lst ys) ∧ ys.length ≤ 1000 ∧ WorkAt CW H d W h wdx S ∧
  ∀ H' y, But (· = er) H H' → H' er = some (.lst (ys ++ [y])) → Q .non H'
theorem scRem : FnScope ["self"] ["self"] (defScope sRem) := ⟨rfl, rfl, rfl, by decide +kernel, rfl, by decide +kernel, by decide +kernel⟩
theorem ok_rem {f : Addr} {fdt : FuncData} (F : Fun K "remember" "Line.remember" sRem f fdt) (T : Txt K mg CW CL) : FnOk P w K mg base CX0 1 f fdt ["self"] (spRem K CW CL) := by
  refine fun_w F scRem (fun vs H Q E h => ?_) (fun cdv A outer s H vs Q E hr hN h => ?_)
  · obtain ⟨d, L, ldx, er, W, h, wdx, dn, mk, xs, ys, S, rfl, _⟩ := h
    rfl
  · obtain ⟨d, L, ldx, er, W, h, wdx, dn, mk, xs, ys, S, rfl, hL, hE, hn, hW, k⟩ := h
    repeat walk_at "W"
    refine we_bm PySem.F.plainAttrs_list PySem.F.slot_list_append PySem.F.type_list_append (fun _ => mt_append) ?_
    repeat walk_at "W"
    refine ⟨_, _, _, _, _, rfl, hL, T.clL, T.lE, rfl, ?_⟩
    refine ⟨.inl ⟨rfl, _, SqL.of hE⟩, ?_⟩
    repeat walk_at "W"
    refine ⟨_, _, _, _, _, rfl, hL, T.clL, T.lW, rfl, ?_⟩
    refine ⟨_, _, _, _, _, rfl, hW.ob, T.clW, T.wS, rfl, ?_⟩
    repeat walk_at "W"
    refine we_bt (fun _ => call_dictD) (fun _ => T.dict) (by decide +kernel) ?_
    repeat walk_at "W"
    refine ⟨_, _, _, _, _, rfl, hL, T.clL, T.lW, rfl, ?_⟩
    refine ⟨_, _, _, _, _, rfl, hW.ob, T.clW, T.wU, rfl, ?_⟩
    repeat walk_at "W"
    refine ⟨h, _, rfl, .inl hW.dc, fun q hq => ?_⟩
    have sm : Same H (upd H q (.dK (hk S.hung))) := Same.new hq
    generalize upd H q (.dK (hk S.hung)) = H1 at sm ⊢
    repeat walk_at "W"
    refine ⟨_, _, _, _, _, rfl, sm _ _ hL, T.clL, T.lW, rfl, ?_⟩
    refine ⟨_, _, _, _, _, rfl, sm _ _ hW.ob, T.clW, T.wL, rfl, ?_⟩
    repeat walk_at "W"
    refine ⟨_, _, _, _, _, rfl, sm _ _ hL, T.clL, T.lD, rfl, ?_⟩
    repeat walk_at "W"
    refine ⟨by show 4 ≤ sizeLine; decide, fun t ht => ?_⟩
    have sm2 := sm.trans (Same.new (o := .tup [.int S.stand, .ref q, .int S.lengths, .ref dn]) ht)
    generalize upd H1 t (.tup [.int S.stand, .ref q, .int S.lengths, .ref dn]) = H2 at sm2 ⊢
    repeat walk_at "W"
    refine ⟨er, ys, .ref t, rfl, rfl, sm2 _ _ hE, Nat.lt_of_le_of_lt hn (by decide), ?_⟩
    repeat walk_at "W"
    exact k _ _ ((But.of sm2).trans (But.upd rfl)) upd_same
/-! ### do -/
abbrev sDo : Stmt := inClass (top 23) 7
def spDo (K : PySem.W.Frag) (CW CL : Addr) : Sp := fun vs H Q _ => ∃ (d : Int) (L ldx er W h wdx a : Addr) (n : Nat) (S : LS) (D : Deed), vs = [.ref L, .ref a] ∧ LineAt K CW CL H d L ldx er W h wdx n S ∧ n < 1000 ∧ S.hung.length < 1000 ∧ DeedAt H a D ∧ D.ok ∧
  ∀ r S' H', But (Pl L er W h) H H' → LineAt K CW CL H' d L ldx er W h wdx (n + 1) S' → TellD d S r S' D → Q r H'
theorem scDo : FnScope ["self", "deed"] ["self", "deed"] (defScope sDo) := ⟨rfl, rfl, rfl, by decide +kernel, rfl, by decide +kernel, by decide +kernel⟩
theorem DeedAt.but {P : Addr → Prop} {H H' : Hp} {a : Addr} {D : Deed} (h : DeedAt H a D) (e : But P H H') (hP : ∀ b xs, H b = some (.tup xs) → ¬ P b) : DeedAt H' a D := by
  cases D with
  | plain p => exact e _ _ h (hP _ _ h)
  | when far o p => obtain ⟨b, h1, h2⟩ := h; exact ⟨b, e _ _ h1 (hP _ _ h1), e _ _ h2 (hP _ _ h2)⟩
theorem ok_do {f : Addr} {fdt : FuncData} (F : Fun K "do" "Line.do" sDo f fdt) (T : Txt K mg CW CL) (GD : Cal P w K mg base "is_deed" 4 spDeed) (GR : CalM P w K mg base CL "remember" 1 (spRem K CW CL)) (GT : CalM P w K mg base CW "tell" 5 (spTell CW)) :
    FnOk P w K mg base CX0 6 f fdt ["self", "deed"] (spDo K CW CL) := by
  refine fun_w F scDo (fun vs H Q E h => ?_) (fun cdv A outer s H vs Q E hr hN h => ?_)
  · obtain ⟨d, L, ldx, er, W, h, wdx, a, n, S, D, rfl, _⟩ := h
    rfl
  · obtain ⟨d, L, ldx, er, W, h, wdx, a, n, S, D, rfl, hLn, hn, few, hD, hok, k⟩ := h
    repeat walk_at "W"
    refine wt_val ?_
    refine we_call GD hr ?_
    repeat walk_at "W"
    refine ⟨a, D, rfl, hD, hok, fun H1 sm => ?_⟩
    have hL1 := hLn.same sm
    have hD1 := hD.same sm
    obtain ⟨⟨dn, mk, xs, hL, hdn, hxn⟩, ⟨ys, hE, hyn⟩, hW, nLW⟩ := hL1
    have nLer : L ≠ er := ne_of hL hE (by intro z; cases z)
    have nLh : L ≠ h := ne_of hL hW.dc (by intro z; cases z)
    have nerW : er ≠ W := ne_of hE hW.ob (by intro z; cases z)
    have nerh : er ≠ h := ne_of hE hW.dc (by intro z; cases z)
    have tupP : ∀ b zs, H1 b = some (.tup zs) → ¬ Pl L er W h b := fun b zs q z => by
      rcases z with rfl | rfl | rfl | rfl
      · rw [hL] at q; cases q
      · rw [hE] at q; cases q
      · rw [hW.ob] at q; cases q
      · rw [hW.dc] at q; cases q
    repeat walk_at "W"
    refine we_meth0 T.clL GR hr ?_
    refine we_var 0 ?_
    refine ⟨_, _, _, rfl, hL, rfl, ?_⟩
    refine ⟨d, L, ldx, er, W, h, wdx, dn, mk, xs, ys, S, rfl, hL, hE, by omega, hW, fun H2 y bt hE2 => ?_⟩
    have hL2 := bt _ _ hL nLer
    have hW2 : WorkAt CW H2 d W h wdx S := ⟨bt _ _ hW.ob nerW.symm, bt _ _ hW.dc nerh.symm, hW.d0, hW.d1, hW.good, hW.few⟩
    have hdn2 : SqT K H2 dn xs := by
      rcases hdn with (q | ⟨o, q⟩) | q
      · exact .inl (.inl (bt _ _ q (fun z => by rw [z, hE] at q; cases q)))
      · exact .inl (.inr ⟨o, bt _ _ q (fun z => by rw [z, hE] at q; cases q)⟩)
      · exact .inr q
    have hD2 : DeedAt H2 a D := hD1.but bt (fun b zs q z => tupP b zs q (.inr (.inl z)))
    repeat walk_at "W"
    refine ws_fld ?_
    repeat walk_at "W"
    refine wa_star ?_
    repeat walk_at "W"
    refine ⟨_, _, _, _, _, rfl, hL2, T.clL, T.lD, rfl, ?_⟩
    refine ⟨dn, xs, rfl, .inl hdn2, ?_⟩
    repeat walk_at "W"
    have xl : (xs ++ [V.ref a]).length ≤ n + 1 := by rw [List.length_append]; show xs.length + 1 ≤ n + 1; omega
    refine ⟨Nat.le_trans xl (Nat.le_trans (by omega : n + 1 ≤ 1000) (by decide)), fun t ht => ?_⟩
    have sm3 : Same H2 (upd H2 t (.tup (xs ++ [.ref a]))) := Same.new ht
    have ht3 : (upd H2 t (.tup (xs ++ [.ref a]))) t = some (.tup (xs ++ [.ref a])) := upd_same
    generalize upd H2 t (.tup (xs ++ [.ref a])) = H3 at sm3 ht3 ⊢
    have nLt : L ≠ t := ne_of (sm3 _ _ hL2) ht3 (by intro z; cases z)
    repeat walk_at "W"
    refine ⟨_, _, _, _, rfl, sm3 _ _ hL2, T.clL, T.lD, (by show 5 < 1000; decide), ?_⟩
    have hL4 : (upd H3 L (.ins CL ldx (putF "done" (.ref t) (lf d W dn er mk)))) L = some (.ins CL ldx (lf d W t er mk)) := upd_same
    have bt4 : But (· = L) H3 (upd H3 L (.ins CL ldx (putF "done" (.ref t) (lf d W dn er mk)))) := But.upd rfl
    generalize upd H3 L (.ins CL ldx (putF "done" (.ref t) (lf d W dn er mk))) = H4 at hL4 bt4 ⊢
    have hW4 : WorkAt CW H4 d W h wdx S := ⟨bt4 _ _ (sm3 _ _ hW2.ob) nLW.symm, bt4 _ _ (sm3 _ _ hW2.dc) nLh.symm, hW.d0, hW.d1, hW.good, hW.few⟩
    have ht4 := bt4 _ _ ht3 nLt.symm
    have hE4 := bt4 _ _ (sm3 _ _ hE2) nLer.symm
    have hD4 : DeedAt H4 a D := (hD2.same sm3).but bt4 (fun b zs q z => by rw [z, sm3 _ _ hL2] at q; cases q)
    repeat walk_at "W"
    refine we_meth T.clW GT hr ?_
    repeat walk_at "W"
    refine ⟨_, _, _, _, _, rfl, hL4, T.clL, T.lW, rfl, ?_⟩
    refine ⟨_, _, _, rfl, hW4.ob, rfl, ?_⟩
    repeat walk_at "W"
    refine ⟨d, W, h, wdx, a, S, D, rfl, hW4, few, hD4, hok, fun r S' H5 bt5 hW5 tl => ?_⟩
    have nW : ∀ b, b ≠ W → b ≠ h → ¬ (b = W ∨ b = h) := fun b n1 n2 z => z.elim n1 n2
    have nWt : t ≠ W := ne_of ht4 hW4.ob (by intro z; cases z)
    have nht : t ≠ h := ne_of ht4 hW4.dc (by intro z; cases z)
    refine k r S' H5 ?_ ⟨⟨t, mk, xs ++ [.ref a], bt5 _ _ hL4 (nW _ nLW nLh), SqT.of (bt5 _ _ ht4 (nW _ nWt nht)), xl⟩, ⟨_, bt5 _ _ hE4 (nW _ nerW nerh), by rw [List.length_append]; show ys.length + 1 ≤ n + 1; omega⟩, hW5, nLW⟩ tl
    exact ((((But.of sm).trans (bt.mono fun b z => .inr (.inl z))).trans (But.of sm3)).trans (bt4.mono fun b z => .inl z)).trans (bt5.mono fun b z => .inr (.inr z))
end
end Rn
/-! The live line: things. -/
namespace Rn
open PySem L2 StX

theorem inj_nodup {α β : Type} {f : α → β} : ∀ {l : List α}, (l.map f).Nodup → ∀ {a b : α}, a ∈ l → b ∈ l → f a = f b → a = b
  | [], _, a, _, ha, _, _ => nomatch ha
  | x :: l, h, a, b, ha, hb, e => by
    rw [List.map_cons] at h
    obtain ⟨h1, h2⟩ := List.nodup_cons.mp h
    rcases List.mem_cons.mp ha with ea | ha'
    · rcases List.mem_cons.mp hb with eb | hb'
      · rw [ea, eb]
      · exact absurd (List.mem_map.mpr ⟨b, hb', by rw [← e, ea]⟩) h1
    · rcases List.mem_cons.mp hb with eb | hb'
      · exact absurd (List.mem_map.mpr ⟨a, ha', by rw [e, eb]⟩) h1
      · exact inj_nodup h2 ha' hb' e
theorem nodup_of_map {α β : Type} {f : α → β} : ∀ {l : List α}, (l.map f).Nodup → l.Nodup
  | [], _ => List.nodup_nil
  | x :: l, h => by
    rw [List.map_cons] at h
    obtain ⟨h1, h2⟩ := List.nodup_cons.mp h
    exact List.nodup_cons.mpr ⟨fun m => h1 (List.mem_map.mpr ⟨x, m, rfl⟩), nodup_of_map h2⟩
def dm (l : List (Str × Int)) : List (Key × V) := l.map fun q => (Sum.inl q.2, V.str q.1)
def nameAt (l : List (Str × Int)) (p : Int) : Option Str := (l.find? fun q => decide (q.2 = p)).map (·.1)
theorem dm_val (l : List (Str × Int)) (p : Int) : valV (dm l) (Sum.inl p : Key) = (nameAt l p).map V.str := by
  induction l with
  | nil => rfl
  | cons a r ih =>
    unfold valV dm nameAt at *
    rw [List.map_cons, List.find?_cons, List.find?_cons]
    by_cases e : a.2 = p
    · simp [e]
    · have e2 : ¬ (Sum.inl a.2 : Key) = Sum.inl p := fun z => e (Sum.inl.inj z)
      simp only [decide_eq_false e, decide_eq_false e2]
      exact ih
theorem nameAt_mem {l : List (Str × Int)} {p : Int} {t : Str} (h : nameAt l p = some t) : (t, p) ∈ l := by
  unfold nameAt at h
  cases e : l.find? fun q => decide (q.2 = p) with
  | none => rw [e] at h; cases h
  | some q =>
    rw [e] at h
    have e1 := List.find?_some e
    have e2 := List.mem_of_find?_eq_some e
    have e3 : q.2 = p := by simpa using e1
    have e4 : q.1 = t := Option.some.inj h
    rw [← e3, ← e4]
    exact e2
theorem nameAt_of {l : List (Str × Int)} (hn : (l.map (·.2)).Nodup) {p : Int} {t : Str} (h : (t, p) ∈ l) : nameAt l p = some t := by
  cases e : nameAt l p with
  | none =>
    unfold nameAt at e
    rw [Option.map_eq_none_iff, List.find?_eq_none] at e
    have := e _ h
    simp at this
  | some t2 =>
    have := inj_nodup hn (nameAt_mem e) h rfl
    rw [(Prod.mk.inj this).1]
theorem nameAt_none {l : List (Str × Int)} {p : Int} (h : p ∉ l.map (·.2)) : nameAt l p = none := by
  cases e : nameAt l p with
  | none => rfl
  | some t => exact absurd (List.mem_map.mpr ⟨_, nameAt_mem e, rfl⟩) h
/-- the places and things of a line, place by place -/
structure DOf (S : LS) (A : List (Int × Str)) : Prop where
  nd : (A.map (·.1)).Nodup
  len : A.length = S.hung.length
  mem : ∀ p t, (p, t) ∈ A ↔ (t, p) ∈ S.hung

section
variable {P : Program} {w : World} {K : PySem.W.Frag} {mg : Str → Option Value} {base : Heap} {CW CL : Addr}
abbrev sThings : Stmt := inClass (top 23) 12
def TupsAt (H : Hp) (l : Addr) (A : List (Int × Str)) : Prop := ∃ rs : List Addr, H l = some (.lst (rs.map V.ref)) ∧ rs.length = A.length ∧ ∀ (i : Nat) (r : Addr) (q : Int × Str), rs[i]? = some r → A[i]? = some q → H r = some (.tup [.int q.1, .str q.2])
def spThings (K : PySem.W.Frag) (CW CL : Addr) : Sp := fun vs H Q _ => ∃ (d : Int) (L ldx er W h wdx : Addr) (n : Nat) (S : LS), vs = [.ref L] ∧ LineAt K CW CL H d L ldx er W h wdx n S ∧ S.hung.length < 64 ∧
  ∀ l A H', Same H H' → DOf S A → TupsAt H' l A → Q (.ref l) H'
theorem scThings : FnScope ["self", "found", "place", "thing"] ["self"] (defScope sThings) := ⟨rfl, rfl, rfl, by decide +kernel, rfl, by decide +kernel, by decide +kernel⟩
theorem ok_things {f : Addr} {fdt : FuncData} (F : Fun K "things" "Line.things" sThings f fdt) (T : Txt K mg CW CL) : FnOk P w K mg base CX0 1 f fdt ["self"] (spThings K CW CL) := by
  refine fun_w F scThings (fun vs H Q E h => ?_) (fun cdv A outer s H vs Q E hr hN h => ?_)
  · obtain ⟨d, L, ldx, er, W, h, wdx, n, S, rfl, _⟩ := h
    rfl
  · obtain ⟨d, L, ldx, er, W, h, wdx, n, S, rfl, ⟨⟨dn, mk, xs, hL, _⟩, _, hW, nLW⟩, few, k⟩ := h
    have hu := roomF hr
    have nLh : L ≠ h := ne_of hL hW.dc (by intro z; cases z)
    refine wb_cons ?_
    refine ws_lock hW.dc fun od => ?_
    have obl : (upd H h (.frz od (.dK (hk S.hung)))) W = some (.ins CW wdx (wf d h S)) := by rw [upd_ne hW.ne]; exact hW.ob
    have hLl : (upd H h (.frz od (.dK (hk S.hung)))) L = some (.ins CL ldx (lf d W dn er mk)) := by rw [upd_ne nLh]; exact hL
    generalize eHl : upd H h (.frz od (.dK (hk S.hung))) = Hl at obl hLl ⊢
    refine ws_set 1 ?_ hN
    refine we_dc [("thing", 3), ("place", 2)] hN (fun _ => blkOk_by (N := ["self", "found", "place", "thing"]) (sc := defScope sThings) (by decide +kernel)) ?_
    refine wi_items ?_
    repeat walk_at "W"
    refine ⟨_, _, _, _, _, rfl, hLl, T.clL, T.lW, rfl, ?_⟩
    refine ⟨_, _, _, _, _, rfl, obl, T.clW, T.wU, rfl, ?_⟩
    refine ⟨h, od, hk S.hung, rfl, by rw [← eHl, upd_same], fun D hD => ?_⟩
    refine ⟨S.hung.length, fun i acc H' => acc = dm (S.hung.take i) ∧ Same Hl H' ∧ H' D = some (.dK acc), ⟨rfl, Same.new hD, upd_same⟩, ?_, ?_⟩
    · rintro i acc H1 hi ⟨rfl, sm, hD1⟩
      have frz1 : H1 h = some (.frz od (.dK (hk S.hung))) := sm _ _ (by rw [← eHl, upd_same])
      refine ⟨⟨frz1, by rw [hk_len]; exact hi⟩, ?_⟩
      rintro x H2 ⟨t, kk, v, ek, rfl, ht, rfl⟩
      obtain ⟨p, ep⟩ : ∃ p, S.hung[i]? = some p := ⟨_, List.getElem?_eq_getElem hi⟩
      have e2 : (hk S.hung)[i]? = some (Sum.inr p.1, V.int p.2) := by unfold hk; rw [List.getElem?_map, ep]; rfl
      rw [e2] at ek
      cases ek
      have sm2 : Same H1 (upd H1 t (.tup [kV (Sum.inr p.1), V.int p.2])) := Same.new ht
      refine wg_tup (SqT.of upd_same) rfl ?_
      refine wgs_cons (wg_name 3 ?_ (fun i => hN i.1))
      refine wgs_cons (wg_name 2 ?_ (fun i => hN i.1))
      refine wgs_nil ?_
      refine ⟨rfl, ?_⟩
      refine wts_nil ?_
      refine Br.t rfl ?_
      refine we_var 2 ?_
      refine we_var 3 ?_
      have al : (dm (S.hung.take i)).length ≤ 1000 := by
        unfold dm
        rw [List.length_map, List.length_take]
        omega
      have hnone : valV (dm (S.hung.take i)) (Sum.inl p.2 : Key) = none := by
        rw [dm_val, nameAt_none]
        · rfl
        · intro m
          obtain ⟨q, hq, e⟩ := List.mem_map.mp m
          have hq' : q ∈ S.hung := List.mem_of_mem_take hq
          have hp' : p ∈ S.hung := List.mem_of_getElem? ep
          have := inj_nodup hW.good.places hq' hp' e
          rw [this] at hq
          rw [List.mem_take_iff_getElem] at hq
          obtain ⟨j, hj, ej⟩ := hq
          have hnd : S.hung.Nodup := by
            exact nodup_of_map hW.good.places
          have e1 : S.hung[i] = p := (List.getElem?_eq_some_iff.mp ep).2
          have := (List.getElem_inj hnd).mp (ej.trans e1.symm)
          omega
      have hput : putK (dm (S.hung.take i)) (Sum.inl p.2 : Key) (V.str p.1) = dm (S.hung.take (i + 1)) := by
        rw [putK_new _ hnone]
        unfold dm
        rw [take_succ_map ep]
      refine ⟨.inl p.2, rfl, sm2 _ _ hD1, small1000 al, hput, ?_, ?_⟩
      · intro b o e
        rw [upd_ne (ne_of_none e hD)]
        exact sm2 _ _ (sm _ _ e)
      · exact upd_same
    · rintro acc H1 ⟨rfl, sm, hD1⟩
      have frz1 : H1 h = some (.frz od (.dK (hk S.hung))) := sm _ _ (by rw [← eHl, upd_same])
      refine ⟨⟨frz1, by rw [hk_len]; exact Nat.le_refl _⟩, frz1, ?_⟩
      rw [List.take_length] at hD1
      have hDh : D ≠ h := fun z => by rw [z, frz1] at hD1; cases hD1
      have sm1 : Same H (upd H1 h (.dK (hk S.hung))) := same_unlock hW.dc (by rw [eHl]; exact sm)
      have hD2 : (upd H1 h (.dK (hk S.hung))) D = some (.dK (dm S.hung)) := by rw [upd_ne hDh]; exact hD1
      generalize upd H1 h (.dK (hk S.hung)) = H2 at sm1 hD2 ⊢
      repeat walk_at "W"
      refine we_lc [("place", 2)] hN (fun _ => blkOk_by (N := ["self", "found", "place", "thing"]) (sc := defScope sThings) (by decide +kernel)) ?_
      refine wi_list ?_
      refine we_bf (fun _ => call_sortedDI rfl) (fun _ => T.sorted) (by decide +kernel) ?_
      repeat walk_at "W"
      refine ⟨D, dm S.hung, S.hung.map (·.2), rfl, .inl hD2, by unfold dm; rw [List.map_map, List.map_map]; rfl, by rw [List.length_map]; exact few, fun ys p perm srt hp => ?_⟩
      have sm2 : Same H2 (upd H2 p (.lst (ys.map V.int))) := Same.new hp
      have hp3 : (upd H2 p (.lst (ys.map V.int))) p = some (.lst (ys.map V.int)) := upd_same
      generalize upd H2 p (.lst (ys.map V.int)) = H3 at sm2 hp3 ⊢
      refine ⟨p, rfl, ⟨_, SqL.of hp3⟩, fun R hR => ?_⟩
      have yn : ys.Nodup := perm.nodup_iff.mpr hW.good.places
      have yl : ys.length = S.hung.length := by rw [perm.length_eq, List.length_map]
      let nm : Int → Str := fun q => (nameAt S.hung q).getD ""
      have ynm : ∀ q ∈ ys, nameAt S.hung q = some (nm q) := fun q hq => by
        obtain ⟨z, hz, e⟩ := List.mem_map.mp (perm.mem_iff.mp hq)
        have hz' : (z.1, q) ∈ S.hung := by rw [← e]; exact hz
        show nameAt S.hung q = some ((nameAt S.hung q).getD "")
        rw [nameAt_of hW.good.places hz'] <;> rfl
      refine ⟨ys.length, fun i acc H' => Same H3 H' ∧ H' R = some (.lst acc) ∧ ∃ rs : List Addr, acc = rs.map V.ref ∧ rs.length = i ∧ ∀ (j : Nat) (r : Addr) (q : Int), rs[j]? = some r → ys[j]? = some q → H' r = some (.tup [.int q, .str (nm q)]),
        ⟨Same.new hR, upd_same, [], rfl, rfl, fun j r q e => by simp at e⟩, ?_, ?_⟩
      · rintro i acc H4 hi ⟨sm4, hR4, rs, rfl, rl, hrs⟩
        obtain ⟨y, ey⟩ : ∃ y, ys[i]? = some y := ⟨_, List.getElem?_eq_getElem hi⟩
        have ei : (ys.map V.int)[i]? = some (.int y) := by rw [List.getElem?_map, ey]; rfl
        refine ⟨⟨_, _, sm4.seq (SqL.of hp3), ei⟩, ?_⟩
        rintro x H5 ⟨rfl, hx⟩
        have hx' := hx _ (sm4.seq (SqL.of hp3))
        rw [ei] at hx'
        cases hx'
        refine wg_name 2 ?_ (fun i => hN i.1)
        refine ⟨rfl, ?_⟩
        refine wts_nil ?_
        refine Br.t rfl ?_
        refine we_tup ?_
        refine wa_cons ?_
        refine we_var 2 ?_
        refine wa_cons ?_
        refine we_dget (fun i => hu i.1) ?_
        refine we_var 1 ?_
        refine we_var 2 ?_
        have hg : DGet H5 D (V.int y) (some (V.str (nm y))) := by
          have q := DGet.k (k := (Sum.inl y : Key)) (sm4 _ _ (sm2 _ _ hD2))
          rw [dm_val, ynm y (List.mem_of_getElem? ey)] at q
          exact q
        refine ⟨D, _, rfl, hg, ?_⟩
        refine wa_nil ?_
        refine ⟨by show 2 ≤ sizeLine; decide, fun t ht => ?_⟩
        have nRt : R ≠ t := ne_of_none hR4 ht
        refine ⟨by rw [upd_ne nRt]; exact hR4, by rw [List.length_map]; exact small1000 (by omega), ?_, upd_same, rs ++ [t], by rw [List.map_append]; rfl, by rw [List.length_append, rl]; rfl, fun j r q e1 e2 => ?_⟩
        · intro b o e
          rw [upd_ne (ne_of_none e hR), upd_ne (ne_of_none (sm4 _ _ e) ht)]
          exact sm4 _ _ e
        · by_cases hj : j < rs.length
          · rw [List.getElem?_append_left hj] at e1
            have q1 := hrs j r q e1 e2
            have nrR : r ≠ R := ne_of q1 hR4 (by intro z; cases z)
            rw [upd_ne nrR, upd_ne (ne_of_none q1 ht)]
            exact q1
          · rw [List.getElem?_append_right (by omega)] at e1
            have j0 : j - rs.length = 0 := by
              cases z : j - rs.length with
              | zero => rfl
              | succ m => rw [z] at e1; simp at e1
            rw [j0] at e1
            have er' : t = r := Option.some.inj e1
            have ji : j = i := by omega
            rw [ji, ey] at e2
            cases e2
            rw [← er', upd_ne nRt.symm, upd_same]
      · rintro acc H4 ⟨sm4, hR4, rs, rfl, rl, hrs⟩
        refine ⟨⟨_, sm4.seq (SqL.of hp3), by rw [List.length_map]; exact Nat.le_refl _⟩, ?_⟩
        refine k R (ys.map fun q => (q, nm q)) _ (sm1.trans (sm2.trans sm4)) ⟨?_, ?_, fun q t => ?_⟩ ⟨rs, hR4, by rw [rl, List.length_map], fun j r q e1 e2 => ?_⟩
        · rw [List.map_map, show ((fun x : Int × Str => x.1) ∘ fun q => (q, nm q)) = id from rfl, List.map_id]
          exact yn
        · rw [List.length_map, yl]
        · constructor
          · intro m
            obtain ⟨z, hz, e⟩ := List.mem_map.mp m
            obtain ⟨e1, e2⟩ := Prod.mk.inj e
            rw [← e1, ← e2]
            exact nameAt_mem (ynm z hz)
          · intro m
            have hq : q ∈ ys := perm.mem_iff.mpr (List.mem_map.mpr ⟨_, m, rfl⟩)
            have e := ynm q hq
            rw [nameAt_of hW.good.places m] at e
            exact List.mem_map.mpr ⟨q, hq, by rw [Option.some.inj e]⟩
        · rw [List.getElem?_map] at e2
          cases hz : ys[j]? with
          | none =>
            rw [hz] at e2
            cases e2
          | some y =>
            rw [hz] at e2
            cases e2
            exact hrs j r y e1 hz
end
end Rn
/-! What draws come from: wells. -/
namespace Rn
open PySem L2 StX

/-- a well at p; n bounds its count -/
def WellAt (H : Hp) (p : Addr) (n : Nat) : Prop := ∃ w0 w1 w2 : Int, H p = some (.lst [.int w0, .int w1, .int w2]) ∧ 0 ≤ w0 ∧ 0 ≤ w1 ∧ w1 < 2 ^ 130 ∧ 0 ≤ w2 ∧ w2 ≤ n
theorem WellAt.mono {H : Hp} {p : Addr} {n m : Nat} (h : WellAt H p n) (k : n ≤ m) : WellAt H p m := by
  obtain ⟨a, b, c, h1, h2, h3, h4, h5, h6⟩ := h
  exact ⟨a, b, c, h1, h2, h3, h4, h5, by omega⟩
theorem WellAt.but {Pr : Addr → Prop} {H H' : Hp} {p : Addr} {n : Nat} (h : WellAt H p n) (e : But Pr H H') (np : ¬ Pr p) : WellAt H' p n := by
  obtain ⟨a, b, c, h1, h2⟩ := h
  exact ⟨a, b, c, e _ _ h1 np, h2⟩
theorem WellAt.same {H H' : Hp} {p : Addr} {n : Nat} (h : WellAt H p n) (e : Same H H') : WellAt H' p n := by
  obtain ⟨a, b, c, h1, h2⟩ := h
  exact ⟨a, b, c, e _ _ h1, h2⟩
section
variable {P : Program} {w : World} {K : PySem.W.Frag} {mg : Str → Option Value} {base : Heap} {CW CL : Addr}
/-! ### _law_well -/
abbrev sWell : Stmt := top 25
def spWell (K : PySem.W.Frag) : Sp := fun vs H Q _ => ∃ (a : Addr) (ns : List Int) (k : Nat), vs = [.ref a, .int k] ∧ SqL K H a (ns.map V.int) ∧ k ≤ 1000 ∧ ∀ p H', H p = none → Same H H' → WellAt H' p 1 → Q (.ref p) H'
theorem scWell : FnScope ["_law_script", "_law_k", "_law_cell"] ["_law_script", "_law_k"] (defScope sWell) := ⟨rfl, rfl, rfl, by decide +kernel, rfl, by decide +kernel, by decide +kernel⟩
theorem ok_well {f : Addr} {fdt : FuncData} (F : Fun K "_law_well" "_law_well" sWell f fdt) (T : Txt K mg CW CL) : FnOk P w K mg base CX0 1 f fdt ["_law_script", "_law_k"] (spWell K) := by
  refine fun_w F scWell (fun vs H Q E h => ?_) (fun cdv A outer s H vs Q E hr hN h => ?_)
  · obtain ⟨a, ns, k, rfl, _⟩ := h
    rfl
  · obtain ⟨a, ns, k, rfl, hS, hk, kk⟩ := h
    repeat walk_at "W"
    refine ws_set 2 ?_ hN
    repeat walk_at "W"
    refine we_len (fun _ => T.len) ?_
    repeat walk_at "W"
    refine ⟨a, _, rfl, .inl hS, ?_⟩
    repeat walk_at "W"
    have rest : ∀ c : Int, WB (fX P w K mg base ["_law_script", "_law_k", "_law_cell"] "_law_well" sWell f cdv A outer s H E) ((defBody sWell).drop 2) (fun _ H' => Q .non H') Q (fun _ _ => False) (fun _ _ => False) [some (.ref a), some (.int k), some (.int c)] H := fun c => by
      refine wb_one ?_
      repeat walk_at "W"
      refine we_max (fun _ => T.max) ?_
      repeat walk_at "W"
      refine we_abs (fun _ => T.abs) ?_
      repeat walk_at "W"
      refine l_I ⟨by decide, 4, by decide, by decide, by decide⟩ ?_
      repeat walk_at "W"
      refine we_intc (fun _ => T.int) ?_
      repeat walk_at "W"
      refine l_I ⟨by decide, 4, by decide, by decide, by decide⟩ ?_
      repeat walk_at "W"
      refine l_I (by decide) ?_
      repeat walk_at "W"
      refine l_I (wide_mul (a := 30) (b := 10) (by decide) (by omega) (by decide) (by decide) (by decide)) ?_
      repeat walk_at "W"
      refine ⟨by show 3 ≤ sizeLine; decide, fun p hp => ?_⟩
      have e36 : (10 : Int) ^ (36 : Int).toNat + 67 = 1000000000000000000000000000000000067 := by decide
      have e130 : (2 : Int) ^ 130 = 1361129467683753853853498429727072845824 := by decide
      rw [e36]
      have m0 := Int.emod_nonneg c (by decide : (1000000000000000000000000000000000067 : Int) ≠ 0)
      have m1 := Int.emod_lt_of_pos c (by decide : (0 : Int) < 1000000000000000000000000000000000067)
      exact kk p _ hp (Same.new hp) ⟨_, _, _, upd_same, by omega, by omega, by rw [e130]; omega, by decide, by decide⟩
    refine Br.mk (fun e => ?_) (fun e => ?_)
    · have hlt := of_decide_eq_true e
      rw [List.length_map] at hlt
      repeat walk_at "W"
      refine ws_set 2 ?_ hN
      refine we_intc (fun _ => T.int) ?_
      refine we_ixL ?_
      repeat walk_at "W"
      have hlt' : k < ns.length := by omega
      refine ⟨a, _, _, _, rfl, rfl, hS, atI_nat (j := k) (by rw [List.getElem?_map, List.getElem?_eq_getElem hlt']; rfl), ?_⟩
      repeat walk_at "L"
      exact rest _
    · repeat walk_at "L"
      refine wb_nil ?_
      exact rest 0
/-! ### _law_draw -/
abbrev sDraw : Stmt := top 26
def spDraw : Sp := fun vs H Q _ => ∃ (p : Addr) (m : Int) (n : Nat), vs = [.ref p, .int m] ∧ WellAt H p n ∧ n ≤ 1000000 ∧ 0 < m ∧ m < 2 ^ 200 ∧ ∀ r H', But (· = p) H H' → WellAt H' p (n + 1) → 0 ≤ r → r < m → Q (.int r) H'
theorem scDraw : FnScope ["_law_well_here", "_law_many", "_law_found", "_law_step", "_law_mixed"] ["_law_well_here", "_law_many"] (defScope sDraw) := ⟨rfl, rfl, rfl, by decide +kernel, rfl, by decide +kernel, by decide +kernel⟩
theorem ok_draw {f : Addr} {fdt : FuncData} (F : Fun K "_law_draw" "_law_draw" sDraw f fdt) (T : Txt K mg CW CL) : FnOk P w K mg base CX0 1 f fdt ["_law_well_here", "_law_many"] spDraw := by
  refine fun_w F scDraw (fun vs H Q E h => ?_) (fun cdv A outer s H vs Q E hr hN h => ?_)
  · obtain ⟨p, m, n, rfl, _⟩ := h
    rfl
  · obtain ⟨p, m, n, rfl, ⟨w0, w1, w2, hp, h0, h1, h1', h2, h2'⟩, hn, m0, m1, k⟩ := h
    have e130 : (2 : Int) ^ 130 = 1361129467683753853853498429727072845824 := by decide
    have e131 : (2 : Nat) ^ 131 = 2722258935367507707706996859454145691648 := by decide
    have e38 : (10 : Int) ^ (38 : Int).toNat + 133 = 100000000000000000000000000000000000133 := by decide
    have e37 : (10 : Int) ^ (37 : Int).toNat + 43 = 10000000000000000000000000000000000043 := by decide
    have e9 : (10 : Int) ^ (9 : Int).toNat = 1000000000 := by decide
    rw [e130] at h1'
    repeat walk_at "W"
    refine we_ixL ?_
    repeat walk_at "W"
    refine ⟨p, _, _, _, rfl, rfl, SqL.of hp, rfl, ?_⟩
    repeat walk_at "W"
    refine Br.mk (fun e => ?_) (fun e => ?_)
    · repeat walk_at "W"
      refine ws_set 2 ?_ hN
      repeat walk_at "W"
      refine we_intc (fun _ => T.int) ?_
      refine we_ixL ?_
      repeat walk_at "W"
      refine ⟨p, _, _, _, rfl, rfl, SqL.of hp, rfl, ?_⟩
      repeat walk_at "W"
      refine l_I m0 ?_
      repeat walk_at "W"
      refine ws_asg ?_
      repeat walk_at "W"
      refine we_ixL ?_
      repeat walk_at "W"
      refine ⟨p, _, _, _, rfl, rfl, SqL.of hp, rfl, ?_⟩
      repeat walk_at "W"
      refine l_I (wide_div (b := 200) m0 (by omega) (by decide) (by decide)) ?_
      refine wg_setL ?_
      repeat walk_at "W"
      refine ⟨p, _, 0, 0, rfl, rfl, hp, rfl, ?_⟩
      repeat walk_at "W"
      exact k _ _ (But.upd rfl) ⟨_, _, _, upd_same, Int.ediv_nonneg h0 (by omega), h1, by rw [e130]; exact h1', h2, by omega⟩ (Int.emod_nonneg _ (by omega)) (Int.emod_lt_of_pos _ m0)
    · repeat walk_at "W"
      refine ws_asg ?_
      repeat walk_at "W"
      refine we_ixL ?_
      repeat walk_at "W"
      refine ⟨p, _, _, _, rfl, rfl, SqL.of hp, rfl, ?_⟩
      repeat walk_at "W"
      refine wg_setL ?_
      repeat walk_at "W"
      refine ⟨p, _, 2, 2, rfl, rfl, hp, rfl, ?_⟩
      have bt : But (· = p) H (upd H p (.lst ([V.int w0, V.int w1, V.int w2].set 2 (V.int (w2 + 1))))) := But.upd rfl
      have hp1 : (upd H p (.lst ([V.int w0, V.int w1, V.int w2].set 2 (V.int (w2 + 1))))) p = some (.lst [.int w0, .int w1, .int (w2 + 1)]) := upd_same
      generalize upd H p (.lst ([V.int w0, V.int w1, V.int w2].set 2 (V.int (w2 + 1)))) = H1 at bt hp1 ⊢
      repeat walk_at "W"
      refine ws_set 3 ?_ hN
      repeat walk_at "W"
      refine we_ixL ?_
      repeat walk_at "W"
      refine ⟨p, _, _, _, rfl, rfl, SqL.of hp1, rfl, ?_⟩
      refine l_I (wide_mul (a := 30) (b := 30) (by decide) (by omega) (by decide) (by decide) (by decide)) ?_
      repeat walk_at "W"
      refine ws_set 4 ?_ hN
      repeat walk_at "W"
      refine we_intc (fun _ => T.int) ?_
      repeat walk_at "W"
      refine we_ixL ?_
      repeat walk_at "W"
      refine ⟨p, _, _, _, rfl, rfl, SqL.of hp1, rfl, ?_⟩
      repeat walk_at "W"
      refine l_I ⟨by decide, 131, by rw [e131]; omega, by decide, by decide⟩ ?_
      repeat walk_at "W"
      refine l_I (wide_mul (a := 3) (b := 60) (by decide) (by omega) (by decide) (by decide) (by decide)) ?_
      repeat walk_at "W"
      refine l_I ⟨by decide, 4, by decide, by decide, by decide⟩ ?_
      repeat walk_at "W"
      rw [e38]
      refine l_I (by decide) ?_
      have mm0 : ∀ z : Int, 0 ≤ z % 100000000000000000000000000000000000133 ∧ z % 100000000000000000000000000000000000133 < 100000000000000000000000000000000000133 := fun z => ⟨Int.emod_nonneg _ (by decide), Int.emod_lt_of_pos _ (by decide)⟩
      obtain ⟨q0, q1⟩ := mm0 ((w1 + 32452843 * (w2 + 1)) ^ (3 : Int).toNat + 7 * (32452843 * (w2 + 1)))
      generalize ((w1 + 32452843 * (w2 + 1)) ^ (3 : Int).toNat + 7 * (32452843 * (w2 + 1))) % 100000000000000000000000000000000000133 = mix at q0 q1 ⊢
      repeat walk_at "W"
      refine ws_set 4 ?_ hN
      repeat walk_at "W"
      refine we_intc (fun _ => T.int) ?_
      repeat walk_at "W"
      refine we_ixL ?_
      repeat walk_at "W"
      refine ⟨p, _, _, _, rfl, rfl, SqL.of hp1, rfl, ?_⟩
      refine l_I (wide_mul (a := 30) (b := 30) (by decide) (by omega) (by decide) (by decide) (by decide)) ?_
      repeat walk_at "W"
      refine l_I ⟨by decide, 131, by rw [e131]; omega, by decide, by decide⟩ ?_
      repeat walk_at "W"
      refine l_I ⟨by decide, 4, by decide, by decide, by decide⟩ ?_
      repeat walk_at "W"
      rw [e37]
      refine l_I (by decide) ?_
      repeat walk_at "W"
      refine we_intc (fun _ => T.int) ?_
      repeat walk_at "W"
      refine l_I ⟨by decide, 4, by decide, by decide, by decide⟩ ?_
      rw [e9]
      refine l_I (wide_div (b := 30) (by decide) (by decide) (by decide) (by decide)) ?_
      repeat walk_at "W"
      refine l_I m0 ?_
      exact k _ _ bt ⟨_, _, _, hp1, h0, h1, by rw [e130]; exact h1', by omega, by omega⟩ (Int.emod_nonneg _ (by omega)) (Int.emod_lt_of_pos _ m0)
end
end Rn
/-! Distances, picks, plain deeds, deeds as they are drawn. -/
namespace Rn
open PySem L2 StX

theorem at_mem {xs : List V} {r : Int} (h0 : 0 ≤ r) (h1 : r < xs.length) : ∃ v, v ∈ xs ∧ atI xs r = some v := by
  obtain ⟨k, rfl⟩ := Int.eq_ofNat_of_zero_le h0
  have hk : k < xs.length := by omega
  exact ⟨xs[k], List.getElem_mem hk, atI_nat (List.getElem?_eq_getElem hk)⟩
theorem at_win {r : Int} (h0 : 0 ≤ r) (h1 : r < 2) : ∃ b, atI [V.str "near", V.str "far"] r = some (V.str (win b)) := by
  have : r = 0 ∨ r = 1 := by omega
  rcases this with rfl | rfl
  · exact ⟨false, rfl⟩
  · exact ⟨true, rfl⟩
theorem at_sign {r : Int} (h0 : 0 ≤ r) (h1 : r < 2) : ∃ s : Int, (s = 1 ∨ s = -1) ∧ atI [V.int 1, V.int (-1)] r = some (V.int s) := by
  have : r = 0 ∨ r = 1 := by omega
  rcases this with rfl | rfl
  · exact ⟨1, .inl rfl, rfl⟩
  · exact ⟨-1, .inr rfl, rfl⟩
section
variable {ι : Type} {X : ι → Cx} {σ : L2.St} {H : Hp} {Q : VK}
theorem we_cat {a b : Expr} {pos : Pos} (h : WE X a σ H fun x H1 => WE X b σ H1 fun y H2 => rCat x y H2 Q) : WE X (.BinOp a .Add b pos) σ H Q := we_op (fun _ => op_cat) h
end
section
variable {P : Program} {w : World} {K : PySem.W.Frag} {mg : Str → Option Value} {base : Heap} {CW CL : Addr}
/-! ### _law_pick -/
abbrev sPick : Stmt := top 27
def spPick (K : PySem.W.Frag) : Sp := fun vs H Q _ => ∃ (p a : Addr) (xs : List V) (n : Nat), vs = [.ref p, .ref a] ∧ WellAt H p n ∧ n ≤ 1000000 ∧ H a = some (.lst xs) ∧ a ≠ p ∧ xs ≠ [] ∧ xs.length ≤ 1000 ∧
  ∀ v H', v ∈ xs → But (· = p) H H' → WellAt H' p (n + 1) → Q v H'
theorem scPick : FnScope ["_law_well_here", "_law_row"] ["_law_well_here", "_law_row"] (defScope sPick) := ⟨rfl, rfl, rfl, by decide +kernel, rfl, by decide +kernel, by decide +kernel⟩
theorem ok_pick {f : Addr} {fdt : FuncData} (F : Fun K "_law_pick" "_law_pick" sPick f fdt) (T : Txt K mg CW CL) (GD : Cal P w K mg base "_law_draw" 1 spDraw) : FnOk P w K mg base CX0 2 f fdt ["_law_well_here", "_law_row"] (spPick K) := by
  refine fun_w F scPick (fun vs H Q E h => ?_) (fun cdv A outer s H vs Q E hr hN h => ?_)
  · obtain ⟨p, a, xs, n, rfl, _⟩ := h
    rfl
  · obtain ⟨p, a, xs, n, rfl, hw, hn, hA, ne, nz, hl, k⟩ := h
    have lp : 0 < xs.length := List.length_pos_iff.mpr nz
    repeat walk_at "W"
    refine we_ixL ?_
    repeat walk_at "W"
    refine we_call GD hr ?_
    repeat walk_at "W"
    refine we_len (fun _ => T.len) ?_
    repeat walk_at "W"
    refine ⟨a, xs, rfl, .inl (SqL.of hA), ?_⟩
    repeat walk_at "W"
    refine ⟨p, _, n, rfl, hw, hn, by omega, by omega, fun r H1 bt hw1 r0 r1 => ?_⟩
    obtain ⟨v, hv, ev⟩ := at_mem r0 r1
    exact ⟨a, xs, _, v, rfl, rfl, SqL.of (bt _ _ hA ne), ev, k v H1 hv bt hw1⟩
/-! ### _law_distance -/
abbrev sDistance : Stmt := top 31
def spDistance : Sp := fun vs H Q _ => ∃ (p : Addr) (n : Nat), vs = [.ref p] ∧ WellAt H p n ∧ n ≤ 900000 ∧ ∀ d H', But (· = p) H H' → WellAt H' p (n + 6) → 1 ≤ d → d ≤ 10 ^ 50 → Q (.int d) H'
theorem scDistance : FnScope ["_law_well_here", "_law_some"] ["_law_well_here"] (defScope sDistance) := ⟨rfl, rfl, rfl, by decide +kernel, rfl, by decide +kernel, by decide +kernel⟩
theorem ok_distance {f : Addr} {fdt : FuncData} (F : Fun K "_law_distance" "_law_distance" sDistance f fdt) (T : Txt K mg CW CL) (GD : Cal P w K mg base "_law_draw" 1 spDraw) : FnOk P w K mg base CX0 2 f fdt ["_law_well_here"] spDistance := by
  refine fun_w F scDistance (fun vs H Q E h => ?_) (fun cdv A outer s H vs Q E hr hN h => ?_)
  · obtain ⟨p, n, rfl, _⟩ := h
    rfl
  · obtain ⟨p, n, rfl, hw, hn, k⟩ := h
    have e50 : (10 : Int) ^ (50 : Int).toNat = 10 ^ 50 := rfl
    repeat walk_at "W"
    refine ws_set 1 ?_ hN
    repeat walk_at "W"
    refine we_call GD hr ?_
    repeat walk_at "W"
    refine ⟨p, _, n, rfl, hw, by omega, by decide, by decide, fun r1 H1 b1 hw1 r10 r11 => ?_⟩
    repeat walk_at "W"
    refine we_call GD hr ?_
    repeat walk_at "W"
    refine ⟨p, _, n + 1, rfl, hw1, by omega, by decide, by decide, fun r2 H2 b2 hw2 r20 r21 => ?_⟩
    repeat walk_at "W"
    refine we_call GD hr ?_
    repeat walk_at "W"
    refine ⟨p, _, n + 1 + 1, rfl, hw2, by omega, by decide, by decide, fun r3 H3 b3 hw3 r30 r31 => ?_⟩
    repeat walk_at "W"
    refine we_call GD hr ?_
    repeat walk_at "W"
    refine l_I ⟨by decide, 4, by decide, by decide, by decide⟩ ?_
    repeat walk_at "W"
    refine ⟨p, _, n + 1 + 1 + 1, rfl, hw3, by omega, by decide, by decide, fun r4 H4 b4 hw4 r40 r41 => ?_⟩
    repeat walk_at "W"
    refine ⟨by show 4 ≤ sizeLine; decide, fun l hl => ?_⟩
    have nlp : l ≠ p := by obtain ⟨_, _, _, q, _⟩ := hw4; exact (ne_of_none q hl).symm
    have hw5 := hw4.same (Same.new (o := .lst [.int (1 + r1), .int (1 + r2), .int (1 + r3), .int (1 + r4)]) hl)
    have b5 : But (· = p) H _ := (((b1.trans b2).trans b3).trans b4).trans (But.of (Same.new (o := .lst [.int (1 + r1), .int (1 + r2), .int (1 + r3), .int (1 + r4)]) hl))
    have hl5 : (upd H4 l (.lst [.int (1 + r1), .int (1 + r2), .int (1 + r3), .int (1 + r4)])) l = some (.lst [.int (1 + r1), .int (1 + r2), .int (1 + r3), .int (1 + r4)]) := upd_same
    generalize upd H4 l (.lst [.int (1 + r1), .int (1 + r2), .int (1 + r3), .int (1 + r4)]) = H5 at hw5 b5 hl5 ⊢
    refine wb_one (ws_ret (we_ixL (we_cat ?_)))
    repeat walk_at "W"
    refine l_I ⟨by decide, 4, by decide, by decide, by decide⟩ ?_
    repeat walk_at "W"
    refine we_call GD hr ?_
    repeat walk_at "W"
    refine ⟨p, _, n + 1 + 1 + 1 + 1, rfl, hw5, by omega, by decide, by decide, fun r5 H6 b6 hw6 r50 r51 => ?_⟩
    repeat walk_at "W"
    refine ⟨by show 1 ≤ sizeLine; decide, fun l2 hl2 => ?_⟩
    have hl6 := b6 _ _ hl5 nlp
    have nl2 : l ≠ l2 := ne_of_none hl6 hl2
    refine ⟨l, l2, _, _, rfl, rfl, by rw [upd_ne nl2]; exact hl6, upd_same, by show 5 ≤ sizeLine; decide, fun l3 hl3 => ?_⟩
    have sm7 : Same H6 (upd (upd H6 l2 (.lst [.int (10 ^ (50 : Int).toNat - r5)])) l3 (.lst ([V.int (1 + r1), .int (1 + r2), .int (1 + r3), .int (1 + r4)] ++ [V.int (10 ^ (50 : Int).toNat - r5)]))) := (Same.new hl2).trans (Same.new hl3)
    have hl7 : (upd (upd H6 l2 (.lst [.int (10 ^ (50 : Int).toNat - r5)])) l3 (.lst ([V.int (1 + r1), .int (1 + r2), .int (1 + r3), .int (1 + r4)] ++ [V.int (10 ^ (50 : Int).toNat - r5)]))) l3 = some (.lst [V.int (1 + r1), .int (1 + r2), .int (1 + r3), .int (1 + r4), .int (10 ^ 50 - r5)]) := upd_same
    generalize upd (upd H6 l2 (.lst [.int (10 ^ (50 : Int).toNat - r5)])) l3 (.lst ([V.int (1 + r1), .int (1 + r2), .int (1 + r3), .int (1 + r4)] ++ [V.int (10 ^ (50 : Int).toNat - r5)])) = H7 at sm7 hl7 ⊢
    have hw7 := hw6.same sm7
    have nl3p : l3 ≠ p := by obtain ⟨_, _, _, q, _⟩ := hw6.same (Same.new (o := .lst [.int (10 ^ (50 : Int).toNat - r5)]) hl2); exact (ne_of_none q hl3).symm
    refine we_call GD hr ?_
    repeat walk_at "W"
    refine ⟨p, _, n + 1 + 1 + 1 + 1 + 1, rfl, hw7, by omega, by decide, by decide, fun r6 H8 b8 hw8 r60 r61 => ?_⟩
    obtain ⟨v, hv, ev⟩ := at_mem (xs := [V.int (1 + r1), .int (1 + r2), .int (1 + r3), .int (1 + r4), .int (10 ^ 50 - r5)]) r60 r61
    refine ⟨l3, _, _, v, rfl, rfl, SqL.of (b8 _ _ hl7 nl3p), ev, ?_⟩
    rw [e50] at r41
    have e50' : (10 : Int) ^ 50 = 100000000000000000000000000000000000000000000000000 := by decide
    have fin : ∀ d : Int, 1 ≤ d → d ≤ 10 ^ 50 → Q (.int d) H8 := fun d h1 h2 => k d H8 (((b5.trans b6).trans (But.of sm7)).trans b8) hw8 h1 h2
    rw [e50'] at fin r41 hv
    have hv' : v = V.int (1 + r1) ∨ v = V.int (1 + r2) ∨ v = V.int (1 + r3) ∨ v = V.int (1 + r4) ∨ v = V.int (100000000000000000000000000000000000000000000000000 - r5) := by simpa using hv
    rcases hv' with rfl | rfl | rfl | rfl | rfl
    all_goals exact fin _ (by omega) (by omega)
end
end Rn
/-! The things that a play is of. -/
namespace Rn
open PySem L2 StX TL

theorem at_memG {α : Type} {xs : List α} {r : Int} (h0 : 0 ≤ r) (h1 : r < xs.length) : ∃ v, v ∈ xs ∧ atI xs r = some v := by
  obtain ⟨k, rfl⟩ := Int.eq_ofNat_of_zero_le h0
  have hk : k < xs.length := by omega
  exact ⟨xs[k], List.getElem_mem hk, atI_nat (List.getElem?_eq_getElem hk)⟩
theorem at_letter {r : Int} (h0 : 0 ≤ r) (h1 : r < 26) : ∃ c, (97 ≤ c ∧ c ≤ 122) ∧ atI lettersS.cps.toList r = some c := by
  obtain ⟨c, hc, e⟩ := at_memG (xs := lettersS.cps.toList) h0 (by rw [show lettersS.cps.toList.length = 26 from by decide +kernel]; exact h1)
  have q : ∀ c ∈ lettersS.cps.toList, 97 ≤ c ∧ c ≤ 122 := by decide +kernel
  exact ⟨c, q c hc, e⟩
def words : List Str := ["sock", "no", "near", "a", "hangs", "shirtsxy", "sockz", "b"]
theorem words_ok : ∀ t ∈ words, (1 ≤ t.length ∧ t.length ≤ 8) ∧ ∀ c ∈ t.cps.toList, 97 ≤ c ∧ c ≤ 122 := by decide +kernel
theorem at_word {r : Int} (h0 : 0 ≤ r) (h1 : r < 8) : ∃ t, IsThing t ∧ atI [V.str "sock", .str "no", .str "near", .str "a", .str "hangs", .str "shirtsxy", .str "sockz", .str "b"] r = some (V.str t) := by
  obtain ⟨v, hv, e⟩ := at_memG (xs := words.map V.str) h0 h1
  obtain ⟨t, ht, rfl⟩ := List.mem_map.mp hv
  obtain ⟨⟨a, b⟩, c⟩ := words_ok t ht
  exact ⟨t, ⟨a, b, c⟩, e⟩
theorem thing_rep {c : Nat} {n : Int} (h : 97 ≤ c ∧ c ≤ 122) (h1 : 1 ≤ n) (h8 : n ≤ 8) : IsThing ⟨(List.replicate n.toNat c).toArray⟩ := by
  have e : (⟨(List.replicate n.toNat c).toArray⟩ : Str).length = n.toNat := by
    show (List.replicate n.toNat c).toArray.size = _
    rw [List.size_toArray, List.length_replicate]
  refine ⟨by rw [e]; omega, by rw [e]; omega, fun d hd => ?_⟩
  have hd' : d ∈ List.replicate n.toNat c := by simpa using hd
  rw [List.eq_of_mem_replicate hd']
  exact h
theorem thing_cut {t : Str} (h : IsThing t) : IsThing (cutS (t ++ "q") (some (-8)) none) := by
  obtain ⟨h1, h2, h3⟩ := h
  have e1 : (t ++ ("q" : Str)).length = t.length + 1 := by
    show (t ++ ("q" : Str)).cps.size = _
    rw [Str.cps_append, Array.size_append]
    rfl
  have e2 : tl (t ++ ("q" : Str)) = tl t ++ [113] := by rw [tl_append]; rfl
  have e3 : (tl (t ++ ("q" : Str))).length = t.length + 1 := by rw [← e1]; exact Array.length_toList
  have e4 : tl (cutS (t ++ "q") (some (-8)) none) = ((tl (t ++ ("q" : Str))).drop (HT.sIx (t.length + 1) 0 (some (-8)))).take (t.length + 1 - HT.sIx (t.length + 1) 0 (some (-8))) := by
    show tl ⟨_⟩ = _
    rw [tl_mk, e1] <;> rfl
  have e5 : HT.sIx (t.length + 1) 0 (some (-8)) ≤ t.length ∧ t.length + 1 - HT.sIx (t.length + 1) 0 (some (-8)) ≤ 8 := by
    have : HT.sIx (t.length + 1) 0 (some (-8)) = ((-8 : Int) + ((t.length + 1 : Nat) : Int)).toNat := rfl
    rw [this]
    omega
  have e6 : (cutS (t ++ "q") (some (-8)) none).length = (tl (cutS (t ++ "q") (some (-8)) none)).length := Array.length_toList.symm
  refine ⟨?_, ?_, fun d hd => ?_⟩
  · rw [e6, e4, List.length_take, List.length_drop, e3]; omega
  · rw [e6, e4, List.length_take, List.length_drop, e3]; omega
  · have hd' : d ∈ tl (cutS (t ++ "q") (some (-8)) none) := hd
    rw [e4, e2] at hd'
    have := List.mem_of_mem_drop (List.mem_of_mem_take hd')
    rcases List.mem_append.mp this with q | q
    · exact h3 d q
    · have : d = 113 := by simpa using q
      omega
def oneS (c : Nat) : Str := ⟨#[c]⟩
theorem join_ones : ∀ cs : List Nat, joinL [] ((cs.map oneS).map tl) = cs
  | [] => rfl
  | [c] => rfl
  | c :: d :: r => by
    show [c] ++ ([] ++ joinL [] (((d :: r).map oneS).map tl)) = _
    rw [join_ones (d :: r)] <;> rfl
theorem thing_join {cs : List Nat} (h : ∀ c ∈ cs, 97 ≤ c ∧ c ≤ 122) (h1 : 1 ≤ cs.length) (h8 : cs.length ≤ 8) : IsThing (Txt.join "" (cs.map oneS)) := by
  have e : tl (Txt.join "" (cs.map oneS)) = cs := by
    rw [join_eq, tl_join]
    exact join_ones cs
  have e6 : (Txt.join "" (cs.map oneS)).length = (tl (Txt.join "" (cs.map oneS))).length := Array.length_toList.symm
  refine ⟨by rw [e6, e]; exact h1, by rw [e6, e]; exact h8, fun d hd => ?_⟩
  have hd' : d ∈ tl (Txt.join "" (cs.map oneS)) := hd
  rw [e] at hd'
  exact h d hd'
section
variable {ι : Type} {X : ι → Cx} {σ : L2.St} {H : Hp} {Q : VK} {QT : Bool → Hp → Prop} {K : PySem.W.Frag}
theorem wt_notInT {a b : Expr} {pos : Pos} (h : WE X a σ H fun x H1 => WE X b σ H1 fun y H2 => ∃ p xs, y = .ref p ∧ (SqL K H2 p xs ∨ SqT K H2 p xs) ∧ flatV x = true ∧ xs.all flatV = true ∧ QT (!inV x xs) H2) (hm : behindInMarks .NotIn b = false := by rfl) (hK : ∀ i, (X i).K = K := by intro _; rfl) :
    WT X (.Compare a [.NotIn] [b] pos) σ H QT := wt_cmp (r := rIn K true) (fun i => hK i ▸ op_notIn_seq) hm (h.mono fun x H1 h => h.mono fun y H2 ⟨p, xs, e, l, f1, f2, q⟩ => ⟨p, xs, e, l, f1, f2, _, rfl, q⟩)
end
theorem bm_join {K : PySem.W.Frag} {X : Cx} (hK : X.K = K) : MtR X "str.join" (fun x xs H Q => ∃ a p, ∃ ys : List Str, x = .str a ∧ xs = [.ref p] ∧ (SqL K H p (ys.map V.str) ∨ SqT K H p (ys.map V.str)) ∧
    (ys.map (·.length)).sum + ys.length * a.length ≤ 16777216 ∧ Q (.str (Txt.join a ys)) H) := hK ▸ mt_join
theorem cut_list {K : PySem.W.Frag} {X : Cx} (hK : X.K = K) : SlR X (rSlL K) := hK ▸ sl_list
theorem sum_ones : ∀ cs : List Nat, ((cs.map oneS).map (·.length)).sum = cs.length
  | [] => rfl
  | c :: r => by
    show 1 + ((r.map oneS).map (·.length)).sum = r.length + 1
    rw [sum_ones r]
    omega
section
variable {P : Program} {w : World} {K : PySem.W.Frag} {mg : Str → Option Value} {base : Heap} {CW CL : Addr}
/-! ### _law_things -/
abbrev sLThings : Stmt := top 28
def spLThings : Sp := fun vs H Q _ => ∃ (p : Addr) (n : Nat), vs = [.ref p] ∧ WellAt H p n ∧ n ≤ 900000 ∧
  ∀ l (ts : List Str) H', But (· = p) H H' → WellAt H' p (n + 16) → H' l = some (.lst (ts.map V.str)) → ts ≠ [] → ts.length ≤ 4 → (∀ t ∈ ts, IsThing t) → Q (.ref l) H'
theorem scLThings : FnScope ["_law_well_here", "_law_letters", "_law_found", "_law_some", "_law_k"] ["_law_well_here"] (defScope sLThings) := ⟨rfl, rfl, rfl, by decide +kernel, rfl, by decide +kernel, by decide +kernel⟩
theorem ok_lthings {f : Addr} {fdt : FuncData} (F : Fun K "_law_things" "_law_things" sLThings f fdt) (T : Txt K mg CW CL) (GD : Cal P w K mg base "_law_draw" 1 spDraw) : FnOk P w K mg base CX0 2 f fdt ["_law_well_here"] spLThings := by
  refine fun_w F scLThings (fun vs H Q E h => ?_) (fun cdv A outer s H vs Q E hr hN h => ?_)
  · obtain ⟨p, n, rfl, _⟩ := h
    rfl
  · obtain ⟨p, n, rfl, hw, hn, k⟩ := h
    have lenl : lettersS.length ≤ sizeLine := by decide +kernel
    refine wb_cons (ws_asg ?_)
    repeat walk_at "W"
    refine ⟨by show 8 ≤ sizeLine; decide, fun F hF => ?_⟩
    have sm1 : Same H (upd H F (.lst [V.str "sock", .str "no", .str "near", .str "a", .str "hangs", .str "shirtsxy", .str "sockz", .str "b"])) := Same.new hF
    have hF1 : (upd H F (.lst [V.str "sock", .str "no", .str "near", .str "a", .str "hangs", .str "shirtsxy", .str "sockz", .str "b"])) F = some (.lst [V.str "sock", .str "no", .str "near", .str "a", .str "hangs", .str "shirtsxy", .str "sockz", .str "b"]) := upd_same
    have nFp : F ≠ p := by obtain ⟨_, _, _, q, _⟩ := hw; exact (ne_of_none q hF).symm
    generalize upd H F (.lst [V.str "sock", .str "no", .str "near", .str "a", .str "hangs", .str "shirtsxy", .str "sockz", .str "b"]) = H1 at sm1 hF1 ⊢
    repeat walk_at "W"
    refine ⟨by show 2 ≤ sizeLine; decide, fun t ht => ?_⟩
    refine wg_tup (SqT.of upd_same) rfl ?_
    refine wgs_cons (wg_name 1 ?_ hN)
    refine wgs_cons (wg_name 2 ?_ hN)
    refine wgs_nil ?_
    have sm2 : Same H1 (upd H1 t (.tup [.str "abcdefghijklmnopqrstuvwxyz", .ref F])) := Same.new ht
    have hw2 := (hw.same sm1).same sm2
    have hF2 := sm2 _ _ hF1
    have b2 : But (· = p) H (upd H1 t (.tup [.str "abcdefghijklmnopqrstuvwxyz", .ref F])) := But.of (sm1.trans sm2)
    generalize upd H1 t (.tup [.str "abcdefghijklmnopqrstuvwxyz", .ref F]) = H2 at hw2 hF2 b2 ⊢
    refine wb_cons (ws_set 3 ?_ hN)
    refine we_lst (wa_cons ?_)
    refine we_ixL ?_
    refine we_var 2 ?_
    refine we_call GD hr ?_
    repeat walk_at "W"
    refine ⟨p, _, n, rfl, hw2, by omega, by decide, by decide, fun r1 H3 b3 hw3 r10 r11 => ?_⟩
    obtain ⟨t0, ht0, ev⟩ := at_word r10 r11
    refine ⟨F, _, _, _, rfl, rfl, SqL.of (b3 _ _ hF2 nFp), ev, ?_⟩
    refine wa_cons (we_op (op := .Mult) (fun _ => op_mulS) ?_)
    refine we_ixS ?_
    refine we_var 1 ?_
    refine we_call GD hr ?_
    repeat walk_at "W"
    refine ⟨p, _, n + 1, rfl, hw3, by omega, by decide, by decide, fun r2 H4 b4 hw4 r20 r21 => ?_⟩
    obtain ⟨c, hc, ec⟩ := at_letter r20 r21
    refine ⟨lettersS, _, c, rfl, rfl, lenl, ec, ?_⟩
    repeat walk_at "W"
    refine we_call GD hr ?_
    repeat walk_at "W"
    refine ⟨p, _, n + 1 + 1, rfl, hw4, by omega, by decide, by decide, fun r3 H5 b5 hw5 r30 r31 => ?_⟩
    repeat walk_at "W"
    refine ⟨c, 1 + r3, rfl, rfl, by omega, by omega, ?_⟩
    have ht1 := thing_rep hc (by omega : 1 ≤ 1 + r3) (by omega)
    generalize (⟨(List.replicate (1 + r3).toNat c).toArray⟩ : Str) = t1 at ht1 ⊢
    refine wa_nil ⟨by show 2 ≤ sizeLine; decide, fun l hl => ?_⟩
    have b6 := (b2.trans b3).trans (b4.trans (b5.trans (But.of (Same.new (o := .lst [.str t0, .str t1]) hl))))
    have hw6 := hw5.same (Same.new (o := .lst [.str t0, .str t1]) hl)
    have hl6 : (upd H5 l (.lst [.str t0, .str t1])) l = some (.lst [.str t0, .str t1]) := upd_same
    have nlp : l ≠ p := by obtain ⟨_, _, _, q, _⟩ := hw5; exact (ne_of_none q hl).symm
    generalize upd H5 l (.lst [.str t0, .str t1]) = H6 at b6 hw6 hl6 ⊢
    refine wb_cons (ws_set 3 ?_ hN)
    refine we_cat ?_
    refine we_var 3 ?_
    refine we_lst (wa_cons ?_)
    refine we_slice (fun _ => sl_str) ?_
    refine we_op (op := .Add) (fun _ => op_add_str) ?_
    refine we_ixL ?_
    refine we_var 3 ?_
    refine we_int ?_
    refine ⟨l, _, _, _, rfl, rfl, SqL.of hl6, rfl, ?_⟩
    refine we_str ?_
    have l8 := ht1.2.1
    have e1 : (t1 ++ ("q" : Str)).length = t1.length + 1 := by
      show (t1 ++ ("q" : Str)).cps.size = _
      rw [Str.cps_append, Array.size_append]
      rfl
    have s9 : ∀ {m : Nat}, m ≤ 9 → m ≤ sizeLine := fun h => Nat.le_trans h (by decide)
    refine ⟨_, _, rfl, rfl, s9 (by show t1.length + 1 ≤ 9; omega), ?_⟩
    refine wo_some (we_neg (we_int ⟨_, rfl, ⟨-8, rfl, ?_⟩⟩))
    refine wo_none ⟨_, rfl, s9 (by rw [e1]; omega), ?_⟩
    have ht2 := thing_cut ht1
    generalize cutS (t1 ++ "q") (some (-8)) none = t2 at ht2 ⊢
    refine wa_cons ?_
    refine we_bm PySem.F.plainAttrs_str PySem.F.slot_str_join PySem.F.type_str_join (fun _ => bm_join rfl) ?_
    refine we_str ⟨rfl, ?_⟩
    refine wa_cons ?_
    refine we_lc [("_law_k", 4)] hN (fun _ => blkOk_by (N := ["_law_well_here", "_law_letters", "_law_found", "_law_some", "_law_k"]) (sc := defScope sLThings) (by decide +kernel)) ?_
    refine wi_range1 (fun _ => T.range) ?_
    repeat walk_at "W"
    refine we_call GD hr ?_
    repeat walk_at "W"
    refine ⟨p, _, n + 1 + 1 + 1, rfl, hw6, by omega, by decide, by decide, fun r4 H7 b7 hw7 r40 r41 => ?_⟩
    repeat walk_at "W"
    refine ⟨1 + r4, rfl, by omega, by omega, fun D hD => ?_⟩
    have hl7 := b7 _ _ hl6 nlp
    have nlD : l ≠ D := ne_of_none hl7 hD
    have npD : p ≠ D := by obtain ⟨_, _, _, q, _⟩ := hw7; exact ne_of_none q hD
    refine ⟨(1 + r4).toNat, fun i acc H' => But (· = p) H7 H' ∧ H' D = some (.lst acc) ∧ WellAt H' p (n + 1 + 1 + 1 + 1 + i) ∧ ∃ cs : List Nat, acc = (cs.map oneS).map V.str ∧ cs.length = i ∧ ∀ c ∈ cs, 97 ≤ c ∧ c ≤ 122,
      ⟨But.of (Same.new hD), upd_same, hw7.same (Same.new hD), [], rfl, rfl, fun c hc => by cases hc⟩, ?_, ?_⟩
    · rintro i acc H8 hi ⟨b8, hD8, hw8, cs, rfl, cl, hcs⟩
      refine ⟨hi, ?_⟩
      rintro x H9 ⟨rfl, rfl⟩
      refine wg_name 4 ?_ (fun i => hN i.1)
      refine ⟨rfl, wts_nil (Br.t rfl ?_)⟩
      refine we_ixS ?_
      refine we_var 1 ?_
      refine we_call GD (fun i => hr i.1) ?_
      repeat walk_at "W"
      refine ⟨p, _, _, rfl, hw8, by omega, by decide, by decide, fun r5 HA bA hwA r50 r51 => ?_⟩
      obtain ⟨c, hc, ec⟩ := at_letter r50 r51
      refine ⟨lettersS, _, c, rfl, rfl, lenl, ec, ?_⟩
      have hDA := bA _ _ hD8 npD.symm
      refine ⟨hDA, small1000 (by rw [List.length_map, List.length_map]; omega), ?_, upd_same, ?_, cs ++ [c], ?_, by rw [List.length_append, cl]; rfl, ?_⟩
      · intro b o e nb
        rw [upd_ne (ne_of_none e hD)]
        exact (b8.trans bA) b o e nb
      · obtain ⟨a0, a1, a2, q, z⟩ := hwA
        exact ⟨a0, a1, a2, by rw [upd_ne npD]; exact q, by omega⟩
      · rw [List.map_append, List.map_append]; rfl
      · intro d hd
        rcases List.mem_append.mp hd with q | q
        · exact hcs d q
        · have : d = c := by simpa using q
          rw [this]; exact hc
    · rintro acc H8 ⟨b8, hD8, hw8, cs, rfl, cl, hcs⟩
      refine ⟨Nat.le_refl _, ?_⟩
      refine wa_nil ⟨"", D, cs.map oneS, rfl, rfl, .inl (SqL.of hD8), ?_, ?_⟩
      · rw [sum_ones, List.length_map, show (Str.ofString "").length = 0 from rfl]; omega
      · have ht3 := thing_join hcs (by omega) (by omega)
        generalize Txt.join "" (cs.map oneS) = t3 at ht3 ⊢
        have hl8 := b8 _ _ hl7 nlp
        refine wa_nil ⟨by show 2 ≤ sizeLine; decide, fun m hm => ?_⟩
        have nlm : l ≠ m := ne_of_none hl8 hm
        refine ⟨l, m, _, _, rfl, rfl, by rw [upd_ne nlm]; exact hl8, upd_same, by show 4 ≤ sizeLine; decide, fun z hz => ?_⟩
        have smz : Same H8 (upd (upd H8 m (.lst [.str t2, .str t3])) z (.lst [.str t0, .str t1, .str t2, .str t3])) := (Same.new hm).trans (Same.new hz)
        have hz1 : (upd (upd H8 m (.lst [.str t2, .str t3])) z (.lst [.str t0, .str t1, .str t2, .str t3])) z = some (.lst [V.str t0, .str t1, .str t2, .str t3]) := upd_same
        have bz := (b6.trans b7).trans (b8.trans (But.of smz))
        have hwz := (hw8.same smz).mono (m := n + 16) (by omega)
        show WB _ _ _ _ _ _ _ (upd (upd H8 m (.lst [.str t2, .str t3])) z (.lst [.str t0, .str t1, .str t2, .str t3]))
        generalize upd (upd H8 m (.lst [.str t2, .str t3])) z (.lst [.str t0, .str t1, .str t2, .str t3]) = H9 at hz1 bz hwz ⊢
        refine wb_one (ws_ret ?_)
        refine we_lc [("_law_k", 4)] hN (fun _ => blkOk_by (N := ["_law_well_here", "_law_letters", "_law_found", "_law_some", "_law_k"]) (sc := defScope sLThings) (by decide +kernel)) ?_
        refine wi_range1 (fun _ => T.range) ?_
        repeat walk_at "W"
        refine ⟨4, rfl, by decide, by decide, fun E0 hE => ?_⟩
        have all : ∀ (i : Nat), i < 4 → ∃ t, IsThing t ∧ atI [V.str t0, .str t1, .str t2, .str t3] ((0 : Int) + i) = some (.str t) := fun i hi => by
          have : i = 0 ∨ i = 1 ∨ i = 2 ∨ i = 3 := by omega
          rcases this with rfl | rfl | rfl | rfl
          · exact ⟨t0, ht0, rfl⟩
          · exact ⟨t1, ht1, rfl⟩
          · exact ⟨t2, ht2, rfl⟩
          · exact ⟨t3, ht3, rfl⟩
        refine ⟨4, fun i acc H' => Same H9 H' ∧ H' E0 = some (.lst acc) ∧ ∃ ts : List Str, acc = ts.map V.str ∧ ts.length ≤ i ∧ (0 < i → ts ≠ []) ∧ ∀ t ∈ ts, IsThing t,
          ⟨Same.new hE, upd_same, [], rfl, Nat.le_refl _, fun h => absurd h (Nat.lt_irrefl 0), fun c hc => by cases hc⟩, ?_, ?_⟩
        · rintro i acc HB hi ⟨sB, hEB, ts, rfl, tl4, tne, hts⟩
          refine ⟨hi, ?_⟩
          rintro x HC ⟨rfl, rfl⟩
          obtain ⟨t, htt, et⟩ := all i hi
          refine wg_name 4 ?_ (fun i => hN i.1)
          refine ⟨rfl, wts_one ?_⟩
          refine wt_notInT ?_
          refine we_ixL ?_
          refine we_var 3 ?_
          refine we_var 4 ?_
          refine ⟨z, _, _, _, rfl, rfl, SqL.of (sB _ _ hz1), et, ?_⟩
          refine we_slice (fun _ => cut_list rfl) ?_
          refine we_var 3 ?_
          refine wo_none ?_
          refine wo_some (we_var 4 ⟨_, rfl, ?_⟩)
          refine ⟨z, _, rfl, SqL.of (sB _ _ hz1), fun y hy => ?_⟩
          have fl : (cutV [V.str t0, .str t1, .str t2, .str t3] none (some ((0 : Int) + i))).all flatV = true := by
            rw [List.all_eq_true]
            intro v hv
            have := List.mem_of_mem_drop (List.mem_of_mem_take hv)
            have hv' : v = V.str t0 ∨ v = V.str t1 ∨ v = V.str t2 ∨ v = V.str t3 := by simpa using this
            rcases hv' with rfl | rfl | rfl | rfl <;> rfl
          refine ⟨y, _, rfl, .inl (SqL.of upd_same), rfl, fl, ?_⟩
          have smy : Same HC (upd HC y (.lst (cutV [V.str t0, .str t1, .str t2, .str t3] none (some ((0 : Int) + i))))) := Same.new hy
          have nEy : E0 ≠ y := ne_of_none hEB hy
          refine Br.mk (fun e => ?_) (fun e => ?_)
          · generalize upd HC y (.lst (cutV [V.str t0, .str t1, .str t2, .str t3] none (some ((0 : Int) + i)))) = HD at smy ⊢
            refine we_ixL ?_
            refine we_var 3 ?_
            refine we_var 4 ?_
            refine ⟨z, _, _, _, rfl, rfl, SqL.of (smy _ _ (sB _ _ hz1)), et, ?_⟩
            refine ⟨smy _ _ hEB, small1000 (by rw [List.length_map]; omega), ?_, upd_same, ts ++ [t], by rw [List.map_append]; rfl, by rw [List.length_append]; exact Nat.add_le_add_right tl4 1, fun _ => by simp, ?_⟩
            · intro b o e
              rw [upd_ne (ne_of_none e hE)]
              exact smy _ _ (sB b o e)
            · intro d hd
              rcases List.mem_append.mp hd with q | q
              · exact hts d q
              · have : d = t := by simpa using q
                rw [this]; exact htt
          · refine ⟨sB.trans smy, smy _ _ hEB, ts, rfl, Nat.le_succ_of_le tl4, fun _ => ?_, hts⟩
            cases i with
            | zero =>
              exfalso
              have : cutV [V.str t0, .str t1, .str t2, .str t3] none (some ((0 : Int) + ((0 : Nat) : Int))) = [] := rfl
              rw [this] at e
              cases e
            | succ i => exact tne (Nat.succ_pos i)
        · rintro acc HB ⟨sB, hEB, ts, rfl, tl4, tne, hts⟩
          exact ⟨Nat.le_refl _, k E0 ts HB (bz.trans (But.of sB)) (hwz.same sB) hEB (tne (by decide)) tl4 hts⟩
end
end Rn
/-! Deeds as they are drawn. -/
namespace Rn
open PySem L2 StX

def PDeed.thing : PDeed → Option Str
  | .peg _ t => some t
  | .hang _ t => some t
  | .fetch _ t => some t
  | _ => none
theorem at_three {r : Int} (h0 : 0 ≤ r) (h1 : r < 3) : ∃ m : Int, (1 ≤ m ∧ m ≤ 40) ∧ atI [V.int 1, V.int 3, V.int 40] r = some (V.int m) := by
  have : r = 0 ∨ r = 1 ∨ r = 2 := by omega
  rcases this with rfl | rfl | rfl
  · exact ⟨1, by decide, rfl⟩
  · exact ⟨3, by decide, rfl⟩
  · exact ⟨40, by decide, rfl⟩
theorem at_six {a b c d e f : Addr} {r : Int} (h0 : 0 ≤ r) (h1 : r < 6) : ∃ x : Addr, ((x = a ∨ x = b) ∨ x = c ∨ x = d ∨ x = e ∨ x = f) ∧ atI [V.ref a, .ref b, .ref c, .ref d, .ref e, .ref f] r = some (V.ref x) := by
  have : r = 0 ∨ r = 1 ∨ r = 2 ∨ r = 3 ∨ r = 4 ∨ r = 5 := by omega
  rcases this with rfl | rfl | rfl | rfl | rfl | rfl
  · exact ⟨a, by simp, rfl⟩
  · exact ⟨b, by simp, rfl⟩
  · exact ⟨c, by simp, rfl⟩
  · exact ⟨d, by simp, rfl⟩
  · exact ⟨e, by simp, rfl⟩
  · exact ⟨f, by simp, rfl⟩
section
variable {P : Program} {w : World} {K : PySem.W.Frag} {mg : Str → Option Value} {base : Heap} {CW CL : Addr}
/-! ### _law_plain -/
abbrev sLPlain : Stmt := top 29
def spLPlain : Sp := fun vs H Q _ => ∃ (p a : Addr) (ts : List Str) (n : Nat), vs = [.ref p, .ref a] ∧ WellAt H p n ∧ n ≤ 900000 ∧ H a = some (.lst (ts.map V.str)) ∧ a ≠ p ∧ ts ≠ [] ∧ ts.length ≤ 4 ∧ (∀ t ∈ ts, IsThing t) ∧
  ∀ r (D : PDeed) H', But (· = p) H H' → WellAt H' p (n + 8) → H' r = some (.tup D.tup) → D.ok → (∀ t, D.thing = some t → t ∈ ts) → Q (.ref r) H'
theorem scLPlain : FnScope ["_law_well_here", "_law_things_here", "_law_window", "_law_thing", "_law_sign", "_law_way", "_law_some"] ["_law_well_here", "_law_things_here"] (defScope sLPlain) := ⟨rfl, rfl, rfl, by decide +kernel, rfl, by decide +kernel, by decide +kernel⟩
theorem ok_lplain {f : Addr} {fdt : FuncData} (F : Fun K "_law_plain" "_law_plain" sLPlain f fdt) (T : Txt K mg CW CL) (GD : Cal P w K mg base "_law_draw" 1 spDraw) (GP : Cal P w K mg base "_law_pick" 2 (spPick K)) : FnOk P w K mg base CX0 3 f fdt ["_law_well_here", "_law_things_here"] spLPlain := by
  refine fun_w F scLPlain (fun vs H Q E h => ?_) (fun cdv A outer s H vs Q E hr hN h => ?_)
  · obtain ⟨p, a, ts, n, rfl, _⟩ := h
    rfl
  · obtain ⟨p, a, ts, n, rfl, hw, hn, hA, nap, tne, t4, hts, k⟩ := h
    refine wb_cons (ws_par3 2 3 4 ?_ hN)
    refine wa_cons (we_ixL ?_)
    repeat walk_at "W"
    refine ⟨by show 2 ≤ sizeLine; decide, fun l hl => ?_⟩
    have sm1 : Same H (upd H l (.lst [V.str "near", .str "far"])) := Same.new hl
    have hl1 : (upd H l (.lst [V.str "near", .str "far"])) l = some (.lst [V.str "near", .str "far"]) := upd_same
    have nlp : l ≠ p := by obtain ⟨_, _, _, q, _⟩ := hw; exact (ne_of_none q hl).symm
    generalize upd H l (.lst [V.str "near", .str "far"]) = H1 at sm1 hl1 ⊢
    refine we_call GD hr ?_
    repeat walk_at "W"
    refine ⟨p, _, n, rfl, hw.same sm1, by omega, by decide, by decide, fun r1 H2 b2 hw2 r10 r11 => ?_⟩
    obtain ⟨far, ef⟩ := at_win r10 r11
    refine ⟨l, _, _, _, rfl, rfl, SqL.of (b2 _ _ hl1 nlp), ef, ?_⟩
    have hA2 := b2 _ _ (sm1 _ _ hA) nap
    refine wa_cons ?_
    refine we_call GP hr ?_
    repeat walk_at "W"
    refine ⟨p, a, _, n + 1, rfl, hw2, by omega, hA2, nap, by simpa using tne, by rw [List.length_map]; omega, fun v H3 hv b3 hw3 => ?_⟩
    obtain ⟨t, ht, rfl⟩ := List.mem_map.mp hv
    have htt := hts t ht
    refine wa_cons (we_ixL ?_)
    repeat walk_at "W"
    refine ⟨by show 2 ≤ sizeLine; decide, fun m hm => ?_⟩
    have sm4 : Same H3 (upd H3 m (.lst [V.int 1, .int (-1)])) := Same.new hm
    have hm4 : (upd H3 m (.lst [V.int 1, .int (-1)])) m = some (.lst [V.int 1, .int (-1)]) := upd_same
    have nmp : m ≠ p := by obtain ⟨_, _, _, q, _⟩ := hw3; exact (ne_of_none q hm).symm
    generalize upd H3 m (.lst [V.int 1, .int (-1)]) = H4 at sm4 hm4 ⊢
    refine we_call GD hr ?_
    repeat walk_at "W"
    refine ⟨p, _, n + 1 + 1, rfl, hw3.same sm4, by omega, by decide, by decide, fun r2 H5 b5 hw5 r20 r21 => ?_⟩
    obtain ⟨sg, hsg, es⟩ := at_sign r20 r21
    refine ⟨m, _, _, _, rfl, rfl, SqL.of (b5 _ _ hm4 nmp), es, ?_⟩
    repeat walk_at "W"
    refine ws_set 5 ?_ hN
    refine we_call GD hr ?_
    repeat walk_at "W"
    refine ⟨p, _, n + 1 + 1 + 1, rfl, hw5, by omega, by decide, by decide, fun way H6 b6 hw6 y0 y1 => ?_⟩
    have bb := ((But.of sm1).trans b2).trans ((b3.trans (But.of sm4)).trans (b5.trans b6))
    repeat walk_at "W"
    refine Br.mk (fun e => ?_) (fun e => ?_)
    · repeat walk_at "W"
      refine we_call GD hr ?_
      refine wa_cons (we_var 0 (wa_cons (we_ixL ?_)))
      repeat walk_at "W"
      refine ⟨by show 3 ≤ sizeLine; decide, fun q hq => ?_⟩
      have sm7 : Same H6 (upd H6 q (.lst [V.int 1, .int 3, .int 40])) := Same.new hq
      have hq7 : (upd H6 q (.lst [V.int 1, .int 3, .int 40])) q = some (.lst [V.int 1, .int 3, .int 40]) := upd_same
      have nqp : q ≠ p := by obtain ⟨_, _, _, z, _⟩ := hw6; exact (ne_of_none z hq).symm
      generalize upd H6 q (.lst [V.int 1, .int 3, .int 40]) = H7 at sm7 hq7 ⊢
      refine we_call GD hr ?_
      repeat walk_at "W"
      refine ⟨p, _, n + 1 + 1 + 1 + 1, rfl, hw6.same sm7, by omega, by decide, by decide, fun r3 H8 b8 hw8 r30 r31 => ?_⟩
      obtain ⟨mx, hmx, em⟩ := at_three r30 r31
      refine ⟨q, _, _, _, rfl, rfl, SqL.of (b8 _ _ hq7 nqp), em, ?_⟩
      refine wa_nil ⟨p, mx, n + 1 + 1 + 1 + 1 + 1, rfl, hw8, by omega, by omega, by omega, fun r4 H9 b9 hw9 r40 r41 => ?_⟩
      repeat walk_at "W"
      refine l_I (wide_mul (a := 2) (b := 10) (by omega) (by omega) (by decide) (by decide) (by decide)) ?_
      repeat walk_at "W"
      refine ⟨by show 2 ≤ sizeLine; decide, fun z hz => ?_⟩
      refine k z (.pull (sg * (1 + r4))) _ ((bb.trans (But.of sm7)).trans ((b8.trans b9).trans (But.of (Same.new hz)))) ((hw9.same (Same.new hz)).mono (by omega)) upd_same ?_ (fun t h => by cases h)
      rcases hsg with rfl | rfl
      · exact ⟨by omega, by omega⟩
      · exact ⟨by omega, by omega⟩
    · have y2 := of_decide_eq_false e
      repeat walk_at "W"
      refine Br.mk (fun e => ?_) (fun e => ?_)
      · repeat walk_at "W"
        refine we_call GD hr ?_
        repeat walk_at "W"
        refine ⟨p, _, n + 1 + 1 + 1 + 1, rfl, hw6, by omega, by decide, by decide, fun r3 H8 b8 hw8 r30 r31 => ?_⟩
        repeat walk_at "W"
        refine l_I (wide_mul (a := 2) (b := 10) (by omega) (by omega) (by decide) (by decide) (by decide)) ?_
        repeat walk_at "W"
        refine ⟨by show 3 ≤ sizeLine; decide, fun z hz => ?_⟩
        refine k z (.walk far (sg * (1 + r3))) _ (bb.trans (b8.trans (But.of (Same.new hz)))) ((hw8.same (Same.new hz)).mono (by omega)) upd_same ?_ (fun t h => by cases h)
        rcases hsg with rfl | rfl
        · exact ⟨by omega, by omega⟩
        · exact ⟨by omega, by omega⟩
      · have y3 : ¬ way = 2 := fun z => by rw [z] at e; simp at e
        refine wb_nil ?_
        refine wb_cons (ws_set 6 ?_ hN)
        repeat walk_at "W"
        refine ⟨by show 3 ≤ sizeLine; decide, fun a1 h1 => ?_⟩
        have s1 : Same H6 (upd H6 a1 (.tup [V.str "peg", .str (win far), .str t])) := Same.new h1
        have g1 : (upd H6 a1 (.tup [V.str "peg", .str (win far), .str t])) a1 = some (.tup (PDeed.tup (.peg far t))) := upd_same
        generalize upd H6 a1 (.tup [V.str "peg", .str (win far), .str t]) = J1 at s1 g1 ⊢
        repeat walk_at "W"
        refine ⟨by show 3 ≤ sizeLine; decide, fun a2 h2 => ?_⟩
        have s2 : Same J1 (upd J1 a2 (.tup [V.str "peg", .str (win far), .str t])) := Same.new h2
        have g2 : (upd J1 a2 (.tup [V.str "peg", .str (win far), .str t])) a2 = some (.tup (PDeed.tup (.peg far t))) := upd_same
        generalize upd J1 a2 (.tup [V.str "peg", .str (win far), .str t]) = J2 at s2 g2 ⊢
        repeat walk_at "W"
        refine ⟨by show 3 ≤ sizeLine; decide, fun a3 h3 => ?_⟩
        have s3 : Same J2 (upd J2 a3 (.tup [V.str "hang", .str (win far), .str t])) := Same.new h3
        have g3 : (upd J2 a3 (.tup [V.str "hang", .str (win far), .str t])) a3 = some (.tup (PDeed.tup (.hang far t))) := upd_same
        generalize upd J2 a3 (.tup [V.str "hang", .str (win far), .str t]) = J3 at s3 g3 ⊢
        repeat walk_at "W"
        refine ⟨by show 3 ≤ sizeLine; decide, fun a4 h4 => ?_⟩
        have s4 : Same J3 (upd J3 a4 (.tup [V.str "fetch", .str (win far), .str t])) := Same.new h4
        have g4 : (upd J3 a4 (.tup [V.str "fetch", .str (win far), .str t])) a4 = some (.tup (PDeed.tup (.fetch far t))) := upd_same
        generalize upd J3 a4 (.tup [V.str "fetch", .str (win far), .str t]) = J4 at s4 g4 ⊢
        repeat walk_at "W"
        refine ⟨by show 4 ≤ sizeLine; decide, fun b1 hb1 => ?_⟩
        have s5 : Same J4 (upd J4 b1 (.lst [V.ref a1, .ref a2, .ref a3, .ref a4])) := Same.new hb1
        have g5 : (upd J4 b1 (.lst [V.ref a1, .ref a2, .ref a3, .ref a4])) b1 = some (.lst [V.ref a1, .ref a2, .ref a3, .ref a4]) := upd_same
        generalize upd J4 b1 (.lst [V.ref a1, .ref a2, .ref a3, .ref a4]) = J5 at s5 g5 ⊢
        refine wb_one (ws_ret (we_ixL (we_cat ?_)))
        repeat walk_at "W"
        refine ⟨by show 2 ≤ sizeLine; decide, fun a5 h5 => ?_⟩
        have s6 : Same J5 (upd J5 a5 (.tup [V.str "take", .str (win far)])) := Same.new h5
        have g6 : (upd J5 a5 (.tup [V.str "take", .str (win far)])) a5 = some (.tup (PDeed.tup (.take far))) := upd_same
        generalize upd J5 a5 (.tup [V.str "take", .str (win far)]) = J6 at s6 g6 ⊢
        repeat walk_at "W"
        refine ⟨by show 2 ≤ sizeLine; decide, fun a6 h6 => ?_⟩
        have s7 : Same J6 (upd J6 a6 (.tup [V.str "look", .str (win far)])) := Same.new h6
        have g7 : (upd J6 a6 (.tup [V.str "look", .str (win far)])) a6 = some (.tup (PDeed.tup (.look far))) := upd_same
        generalize upd J6 a6 (.tup [V.str "look", .str (win far)]) = J7 at s7 g7 ⊢
        repeat walk_at "W"
        refine ⟨by show 2 ≤ sizeLine; decide, fun b2' hb2 => ?_⟩
        have s8 : Same J7 (upd J7 b2' (.lst [V.ref a5, .ref a6])) := Same.new hb2
        have g8 : (upd J7 b2' (.lst [V.ref a5, .ref a6])) b2' = some (.lst [V.ref a5, .ref a6]) := upd_same
        generalize upd J7 b2' (.lst [V.ref a5, .ref a6]) = J8 at s8 g8 ⊢
        refine ⟨b1, b2', _, _, rfl, rfl, s8 _ _ (s7 _ _ (s6 _ _ g5)), g8, by show 6 ≤ sizeLine; decide, fun b3' hb3 => ?_⟩
        have s9 : Same J8 (upd J8 b3' (.lst [V.ref a1, .ref a2, .ref a3, .ref a4, .ref a5, .ref a6])) := Same.new hb3
        have g9 : (upd J8 b3' (.lst [V.ref a1, .ref a2, .ref a3, .ref a4, .ref a5, .ref a6])) b3' = some (.lst [V.ref a1, .ref a2, .ref a3, .ref a4, .ref a5, .ref a6]) := upd_same
        show WE _ _ _ (upd J8 b3' (.lst [V.ref a1, .ref a2, .ref a3, .ref a4, .ref a5, .ref a6])) _
        generalize upd J8 b3' (.lst [V.ref a1, .ref a2, .ref a3, .ref a4, .ref a5, .ref a6]) = J9 at s9 g9 ⊢
        repeat walk_at "W"
        obtain ⟨x, hx, ex⟩ := at_six (a := a1) (b := a2) (c := a3) (d := a4) (e := a5) (f := a6) (by omega : 0 ≤ way - 3) (by omega)
        refine ⟨b3', _, _, _, rfl, rfl, SqL.of g9, ex, ?_⟩
        have u5 := s5.trans (s6.trans (s7.trans (s8.trans s9)))
        have u2 := s2.trans (s3.trans (s4.trans u5))
        have smA := s1.trans u2
        have fin : ∀ D : PDeed, J9 x = some (.tup D.tup) → D.ok → (∀ t, D.thing = some t → t ∈ ts) → Q (.ref x) J9 := fun D h1 h2 h3 => k x D J9 (bb.trans (But.of smA)) ((hw6.same smA).mono (by omega)) h1 h2 h3
        rcases hx with (rfl | rfl) | rfl | rfl | rfl | rfl
        · exact fin _ (u2 _ _ g1) htt (fun t' h => by cases h; exact ht)
        · exact fin _ (s3.trans (s4.trans u5) _ _ g2) htt (fun t' h => by cases h; exact ht)
        · exact fin _ (s4.trans u5 _ _ g3) htt (fun t' h => by cases h; exact ht)
        · exact fin _ (u5 _ _ g4) htt (fun t' h => by cases h; exact ht)
        · exact fin _ (s7.trans (s8.trans s9) _ _ g6) True.intro (fun t' h => by cases h)
        · exact fin _ (s8.trans s9 _ _ g7) True.intro (fun t' h => by cases h)
/-! ### _law_deed -/
def Deed.plainOf : Deed → PDeed
  | .plain p => p
  | .when _ _ p => p
abbrev sLDeed : Stmt := top 30
def spLDeed : Sp := fun vs H Q _ => ∃ (p a : Addr) (ts : List Str) (n : Nat), vs = [.ref p, .ref a] ∧ WellAt H p n ∧ n ≤ 800000 ∧ H a = some (.lst (ts.map V.str)) ∧ a ≠ p ∧ ts ≠ [] ∧ ts.length ≤ 4 ∧ (∀ t ∈ ts, IsThing t) ∧
  ∀ r (D : Deed) H', But (· = p) H H' → WellAt H' p (n + 20) → DeedAt H' r D → D.ok → (∀ t, D.plainOf.thing = some t → t ∈ ts) → Q (.ref r) H'
theorem scLDeed : FnScope ["_law_well_here", "_law_things_here", "_law_what"] ["_law_well_here", "_law_things_here"] (defScope sLDeed) := ⟨rfl, rfl, rfl, by decide +kernel, rfl, by decide +kernel, by decide +kernel⟩
theorem ok_ldeed {f : Addr} {fdt : FuncData} (F : Fun K "_law_deed" "_law_deed" sLDeed f fdt) (T : Txt K mg CW CL) (GD : Cal P w K mg base "_law_draw" 1 spDraw) (GP : Cal P w K mg base "_law_plain" 3 spLPlain) : FnOk P w K mg base CX0 4 f fdt ["_law_well_here", "_law_things_here"] spLDeed := by
  refine fun_w F scLDeed (fun vs H Q E h => ?_) (fun cdv A outer s H vs Q E hr hN h => ?_)
  · obtain ⟨p, a, ts, n, rfl, _⟩ := h
    rfl
  · obtain ⟨p, a, ts, n, rfl, hw, hn, hA, nap, tne, t4, hts, k⟩ := h
    repeat walk_at "W"
    refine we_call GD hr ?_
    repeat walk_at "W"
    refine ⟨p, _, n, rfl, hw, by omega, by decide, by decide, fun r1 H1 b1 hw1 r10 r11 => ?_⟩
    have hA1 := b1 _ _ hA nap
    repeat walk_at "W"
    refine Br.mk (fun e => ?_) (fun e => ?_)
    · repeat walk_at "W"
      refine we_call GP hr ?_
      repeat walk_at "W"
      exact ⟨p, a, ts, n + 1, rfl, hw1, by omega, hA1, nap, tne, t4, hts, fun r D H2 b2 hw2 hD ok us => k r (.plain D) H2 (b1.trans b2) (hw2.mono (by omega)) hD ok us⟩
    · refine wb_nil ?_
      refine wb_cons (ws_set 2 ?_ hN)
      refine we_ixL (we_cat ?_)
      repeat walk_at "W"
      refine ⟨by show 2 ≤ sizeLine; decide, fun l hl => ?_⟩
      have nal : a ≠ l := ne_of_none hA1 hl
      refine ⟨a, l, _, _, rfl, rfl, by rw [upd_ne nal]; exact hA1, upd_same, Nat.le_trans (show _ ≤ 1000 by rw [List.length_map]; show ts.length + 2 ≤ 1000; omega) (by decide), fun c hc => ?_⟩
      have sm2 : Same H1 (upd (upd H1 l (.lst [.non, .non])) c (.lst (ts.map V.str ++ [.non, .non]))) := (Same.new hl).trans (Same.new hc)
      have hc2 : (upd (upd H1 l (.lst [.non, .non])) c (.lst (ts.map V.str ++ [.non, .non]))) c = some (.lst (ts.map V.str ++ [.non, .non])) := upd_same
      generalize upd (upd H1 l (.lst [.non, .non])) c (.lst (ts.map V.str ++ [.non, .non])) = H2 at sm2 hc2 ⊢
      have hw2 := hw1.same sm2
      have hA2 := sm2 _ _ hA1
      have ncp : c ≠ p := by
        intro z
        obtain ⟨_, _, _, q, _⟩ := hw2
        rw [z, q] at hc2
        cases ts with
        | nil => exact tne rfl
        | cons t0 tr => cases hc2
      refine we_call GD hr ?_
      repeat walk_at "W"
      refine we_len (fun _ => T.len) ?_
      repeat walk_at "W"
      refine ⟨a, _, rfl, .inl (SqL.of hA2), ?_⟩
      repeat walk_at "W"
      rw [List.length_map]
      refine ⟨p, _, n + 1, rfl, hw2, by omega, by omega, by omega, fun r2 H3 b3 hw3 r20 r21 => ?_⟩
      obtain ⟨v, hv, ev⟩ := at_mem (xs := ts.map V.str ++ [V.non, .non]) r20 (by rw [List.length_append, List.length_map]; exact r21)
      refine ⟨c, _, _, v, rfl, rfl, SqL.of (b3 _ _ hc2 ncp), ev, ?_⟩
      have hA3 := b3 _ _ hA2 nap
      obtain ⟨o, rfl, ho⟩ : ∃ o : Option Str, v = optV o ∧ ∀ t, o = some t → IsThing t := by
        rcases List.mem_append.mp hv with q | q
        · obtain ⟨t, ht, rfl⟩ := List.mem_map.mp q
          exact ⟨some t, rfl, fun t' h => by cases h; exact hts t ht⟩
        · have : v = V.non := by simpa using q
          exact ⟨none, this, fun t' h => by cases h⟩
      refine wb_one (ws_ret (we_tup (wa_cons (we_str (wa_cons (we_ixL ?_))))))
      repeat walk_at "W"
      refine ⟨by show 2 ≤ sizeLine; decide, fun m hm => ?_⟩
      have sm4 : Same H3 (upd H3 m (.lst [V.str "near", .str "far"])) := Same.new hm
      have hm4 : (upd H3 m (.lst [V.str "near", .str "far"])) m = some (.lst [V.str "near", .str "far"]) := upd_same
      have nmp : m ≠ p := by obtain ⟨_, _, _, q, _⟩ := hw3; exact (ne_of_none q hm).symm
      generalize upd H3 m (.lst [V.str "near", .str "far"]) = H4 at sm4 hm4 ⊢
      refine we_call GD hr ?_
      repeat walk_at "W"
      refine ⟨p, _, n + 1 + 1, rfl, hw3.same sm4, by omega, by decide, by decide, fun r3 H5 b5 hw5 r30 r31 => ?_⟩
      obtain ⟨far, ef⟩ := at_win r30 r31
      refine ⟨m, _, _, _, rfl, rfl, SqL.of (b5 _ _ hm4 nmp), ef, ?_⟩
      have hA5 := b5 _ _ (sm4 _ _ hA3) nap
      repeat walk_at "W"
      refine we_call GP hr ?_
      repeat walk_at "W"
      refine ⟨p, a, ts, n + 1 + 1 + 1, rfl, hw5, by omega, hA5, nap, tne, t4, hts, fun r D H6 b6 hw6 hD ok us => ?_⟩
      repeat walk_at "W"
      refine ⟨by show 4 ≤ sizeLine; decide, fun z hz => ?_⟩
      have nrz : r ≠ z := ne_of_none hD hz
      exact k z (.when far o D) _ ((b1.trans (But.of sm2)).trans ((b3.trans (But.of sm4)).trans (b5.trans (b6.trans (But.of (Same.new hz)))))) ((hw6.same (Same.new hz)).mono (by omega)) ⟨r, upd_same, by rw [upd_ne nrz]; exact hD⟩ ⟨ok, ho⟩ us
end
end Rn
/-! How a line stands, read and compared. -/
namespace Rn
open PySem L2 StX PyProof.Rows

/-- == of two tuples whose items are equal, nested -/
def rEqTV (K : PySem.W.Frag) : R2 := fun x y H Q => ∃ n a b xs ys, n ≤ 60 ∧ x = .ref a ∧ y = .ref b ∧ SqT K H a xs ∧ SqT K H b ys ∧ Paired (EqV K H n) xs ys ∧ Q (.bl true) H
theorem op_eqTV {X : Cx} (hu : X.A.units + 64 < cLine) : OpR X (compareOp .Eq) (rEqTV X.K) := by
  intro pins s σ H x y v u Q I rx ry h
  obtain ⟨n, a, b, xs, ys, hn, rfl, rfl, ha, hb, hp, q⟩ := h
  cases (show v = Value.ref a from rx)
  cases (show u = Value.ref b from ry)
  obtain ⟨us, r1, p1, _⟩ := I.tuple ha
  obtain ⟨ws, r2, p2, _⟩ := I.tuple hb
  have hsz : us.toArray.size = ws.toArray.size := by
    rw [List.size_toArray, List.size_toArray, ← r1.length, ← r2.length]
    exact Paired.length hp
  refine PySem.SeqAt.rcIn_tuples (e := fun _ => true) p1 p2 (by omega) (fun j h1 h2 => ?_) ?_
  · have k := items_run (P := X.prog) (w := X.w) (A := X.A.in1) (s := s) (eqV_run I n X.A.in1 (by show X.A.units + 1 + n < cLine; omega)) hp r1 r2 j (by simpa using h1) (by simpa using h2)
    have k' : SeqAt.EqIn X.prog X.w X.A.in1 s us[j] ws[j] true := k
    simpa using k'
  · rw [show ((List.range (min us.toArray.size ws.toArray.size)).all fun _ => true) = true from List.all_eq_true.mpr fun _ _ => rfl, hsz]
    refine ⟨.bl true, H, I, ?_, q⟩
    show _ = Value.bool true
    simp

def dA (A : List (Int × Str)) : List (Key × V) := dm (A.map fun q => (q.2, q.1))
theorem dA_len (A : List (Int × Str)) : (dA A).length = A.length := by unfold dA dm; rw [List.length_map, List.length_map]
theorem dA_get {A : List (Int × Str)} {i : Nat} {q : Int × Str} (e : A[i]? = some q) : (dA A)[i]? = some (Sum.inl q.1, V.str q.2) := by
  unfold dA dm
  rw [List.getElem?_map, List.getElem?_map, e]
  rfl
theorem dA_put {A : List (Int × Str)} (nd : (A.map (·.1)).Nodup) {i : Nat} {q : Int × Str} (e : A[i]? = some q) : putK (dA (A.take i)) (Sum.inl q.1 : Key) (V.str q.2) = dA (A.take (i + 1)) := by
  have hnone : valV (dA (A.take i)) (Sum.inl q.1 : Key) = none := by
    unfold dA
    rw [dm_val, nameAt_none]
    · rfl
    · intro m
      rw [List.map_map] at m
      obtain ⟨q', hq', e'⟩ := List.mem_map.mp m
      have e1 : q'.1 = q.1 := e'
      have := inj_nodup nd (List.mem_of_mem_take hq') (List.mem_of_getElem? e) e1
      rw [this, List.mem_take_iff_getElem] at hq'
      obtain ⟨j, hj, ej⟩ := hq'
      have e2 : A[i]'(List.getElem?_eq_some_iff.mp e).1 = q := (List.getElem?_eq_some_iff.mp e).2
      have := (List.getElem_inj (nodup_of_map nd)).mp (ej.trans e2.symm)
      omega
  rw [putK_new _ hnone]
  unfold dA dm
  rw [List.map_map, List.map_map, take_succ_map e] <;> rfl
theorem dA_val {d : Int} {S : LS} {A : List (Int × Str)} (g : Good d S) (h : DOf S A) (p : Int) : valV (dA A) (Sum.inl p : Key) = (nameAt S.hung p).map V.str := by
  unfold dA
  rw [dm_val]
  congr 1
  have nd2 : ((A.map fun q => (q.2, q.1)).map (·.2)).Nodup := by
    rw [List.map_map]
    exact h.nd
  cases e : nameAt S.hung p with
  | none =>
    refine nameAt_none fun m => ?_
    rw [List.map_map] at m
    obtain ⟨q, hq, e1⟩ := List.mem_map.mp m
    have e2 : q.1 = p := e1
    have := (h.mem q.1 q.2).mp hq
    rw [e2] at this
    rw [nameAt_of g.places this] at e
    cases e
  | some t =>
    refine nameAt_of nd2 (List.mem_map.mpr ⟨(p, t), (h.mem p t).mpr (nameAt_mem e), rfl⟩)
/-- a line's stand, laid down at r -/
structure StandAt (H : Hp) (r D : Addr) (A : List (Int × Str)) (d : Int) (S : LS) : Prop where
  tup : H r = some (.tup [.int S.stand, .int S.lengths, .ref D])
  dic : H D = some (.dK (dA A))
  of : DOf S A
  good : Good d S
  few : A.length ≤ 1000
theorem StandAt.same {H H' : Hp} {r D : Addr} {A : List (Int × Str)} {d : Int} {S : LS} (h : StandAt H r D A d S) (e : Same H H') : StandAt H' r D A d S := ⟨e _ _ h.tup, e _ _ h.dic, h.of, h.good, h.few⟩
theorem StandAt.get {H : Hp} {r D : Addr} {A : List (Int × Str)} {d : Int} {S : LS} (h : StandAt H r D A d S) (p : Int) : DGet H D (.int p) ((nameAt S.hung p).map V.str) := by
  rw [← dA_val h.good h.of p]
  exact DGet.k (k := (Sum.inl p : Key)) h.dic
theorem StandAt.ne {H : Hp} {r D : Addr} {A : List (Int × Str)} {d : Int} {S : LS} (h : StandAt H r D A d S) : r ≠ D := ne_of h.tup h.dic (by intro z; cases z)
theorem StandAt.isD {H : Hp} {r D : Addr} {A : List (Int × Str)} {d : Int} {S : LS} (h : StandAt H r D A d S) : IsD H D := .inl ⟨_, .inl h.dic⟩
/-- .. under its own lock -/
theorem dget_lock {H H' : Hp} {r D : Addr} {A : List (Int × Str)} {d : Int} {S : LS} {od : Obj} (h : StandAt H r D A d S) (e : H' D = some (.frz od (.dK (dA A)))) (p : Int) : DGet H' D (.int p) ((nameAt S.hung p).map V.str) := by
  rw [← dA_val h.good h.of p]
  exact .inl ⟨_, (Sum.inl p : Key), .inr ⟨_, e⟩, rfl, rfl⟩
section
variable {ι : Type} {X : ι → Cx} {σ : L2.St} {H : Hp} {Q : VK} {QT : Bool → Hp → Prop} {K : PySem.W.Frag}
/-- two stands of one line's state, compared -/
theorem we_eqSt {a b : Expr} {pos : Pos} {k : Nat} (hr : ∀ i, Room k (X i).A) (h : WE X a σ H fun x H1 => WE X b σ H1 fun y H2 => ∃ r D A r' D' A' d S, x = .ref r ∧ y = .ref r' ∧ StandAt H2 r D A d S ∧ StandAt H2 r' D' A' d S ∧ Q (.bl true) H2) (hK : ∀ i, (X i).K = K := by intro _; rfl) :
    WE X (.Compare a [.Eq] [b] pos) σ H Q :=
  we_cmp (r := rEqTV K) (fun i => hK i ▸ op_eqTV (units64 hr i)) (nomark _) (h.mono fun x H1 h => h.mono fun y H2 ⟨r, D, A, r', D', A', d, S, e1, e2, s1, s2, q⟩ => by
    refine ⟨2, r, r', _, _, by decide, e1, e2, SqT.of s1.tup, SqT.of s2.tup, ?_, q⟩
    refine .cons (.inl ⟨rfl, rfl⟩) (.cons (.inl ⟨rfl, rfl⟩) (.cons (.inr (.inr (.inr ⟨D, D', _, _, rfl, rfl, s1.dic, s2.dic, ?_, fun p hp => ?_⟩))) .nil))
    · rw [dA_len, dA_len, s1.of.len, s2.of.len]
    · obtain ⟨q1, hq1, rfl⟩ := List.mem_map.mp hp
      obtain ⟨q0, hq0, rfl⟩ := List.mem_map.mp hq1
      refine ⟨V.str q0.2, ?_, .inl ⟨rfl, rfl⟩⟩
      show valV (dA A') (Sum.inl q0.1 : Key) = some (V.str q0.2)
      rw [dA_val s2.good s2.of, nameAt_of s2.good.places ((s1.of.mem q0.1 q0.2).mp hq0)]
      rfl)
/-- [x for x in a stand's dict if c] -/
theorem we_keysF {x : Str} {px py pos : Pos} {iter c : Expr} {scope : Scope} (j : Nat) (f : Int × Str → Bool) {D : Addr} {A : List (Int × Str)} (hN : ∀ i, (X i).N.Nodup) (ok : ∀ i, BlkOk (X i).N (X i).env.scope scope [(x, j)])
    (hD : H D = some (.dK (dA A))) (few : A.length ≤ 1000)
    (hi : ∀ od, WE X iter σ (upd H D (.frz od (.dK (dA A)))) fun x H1 => x = .ref D ∧ H1 = upd H D (.frz od (.dK (dA A))))
    (hc : ∀ od q H', q ∈ A → Same (upd H D (.frz od (.dK (dA A)))) H' → WT (blkF X scope) c ((wipe σ [j]).set j (some (.int q.1))) H' fun b H'' => b = f q ∧ Same H' H'')
    (he : ∀ (q : Int × Str) (H' : Hp), WE (blkF X scope) (.Name x px) ((wipe σ [j]).set j (some (.int q.1))) H' fun y H2 => y = .int q.1 ∧ H2 = H')
    (hg : ∀ (v : V) (H' : Hp) (Q' : L2.St → Hp → Prop), Q' ((wipe σ [j]).set j (some v)) H' → WG (blkF X scope) (.Name x py) v (wipe σ [j]) H' Q')
    (k : ∀ l H', Same H H' → H' l = some (.lst ((A.filter f).map fun q => .int q.1)) → Q (.ref l) H')
    (hw : ∀ v : V, wipe ((wipe σ [j]).set j (some v)) [j] = wipe σ [j] := by intro _; rfl)
    (hcm : ∀ i, (X i).calm = true := by intro _; rfl) (hs : ∀ i x, foldedSetIterable iter (X i).env x = pure x := by intro _ _; rfl) : WE X (.ListComp (.Name x px) [⟨.Name x py, iter, [c], 0⟩] scope pos) σ H Q := by
  refine we_lock hD fun od => ?_
  refine we_lc [(x, j)] hN ok ?_ hcm hs
  refine wi_keys ((hi od).mono ?_)
  rintro v H1 ⟨rfl, rfl⟩
  refine ⟨D, od, dA A, rfl, upd_same, fun L hL => ?_⟩
  refine ⟨A.length, fun i acc H' => acc = ((A.take i).filter f).map (fun q => V.int q.1) ∧ Same (upd H D (.frz od (.dK (dA A)))) H' ∧ H' L = some (.lst acc), ⟨rfl, Same.new hL, upd_same⟩, ?_, ?_⟩
  · rintro i acc H1 hlt ⟨rfl, sm, hL1⟩
    refine ⟨⟨same_in sm, by rw [dA_len]; exact hlt⟩, ?_⟩
    rintro y H2 ⟨rfl, kk, v, ek, rfl⟩
    obtain ⟨q, eq⟩ : ∃ q, A[i]? = some q := ⟨_, List.getElem?_eq_getElem hlt⟩
    rw [dA_get eq] at ek
    cases ek
    refine hg _ _ _ ⟨hw _, wts_one ((hc od q H2 (List.mem_of_getElem? eq) sm).mono ?_)⟩
    rintro b H3 ⟨rfl, sm3⟩
    have tk : A.take (i + 1) = A.take i ++ [q] := by rw [List.take_add_one, eq]; rfl
    have al : (((A.take i).filter f).map (fun q => V.int q.1)).length ≤ 1000 := by
      rw [List.length_map]
      refine Nat.le_trans (List.length_filter_le _ _) ?_
      rw [List.length_take]
      omega
    refine Br.mk (fun e => ?_) (fun e => ?_)
    · refine (he q H3).mono ?_
      rintro y H4 ⟨rfl, rfl⟩
      refine ⟨sm3 _ _ hL1, small1000 al, ?_, ?_, upd_same⟩
      · rw [tk, List.filter_append, List.map_append, List.filter_cons, if_pos e]
        rfl
      · intro b u z
        rw [upd_ne (ne_of_none z hL)]
        exact sm3 _ _ (sm b u z)
    · refine ⟨?_, sm.trans sm3, sm3 _ _ hL1⟩
      rw [tk, List.filter_append, List.map_append, List.filter_cons, if_neg (by rw [e]; decide)]
      simp
  · rintro acc H1 ⟨rfl, sm, hL1⟩
    refine ⟨⟨same_in sm, by rw [dA_len]; exact Nat.le_refl _⟩, same_in sm, ?_⟩
    rw [List.take_length] at hL1
    have nL : L ≠ D := fun z => by rw [z, upd_same] at hL; cases hL
    exact k L _ (same_unlock hD sm) (by rw [upd_ne nL]; exact hL1)
/-- [x for x in range(n) if c], c never so -/
theorem we_rngN {x : Str} {py pos : Pos} {iter c elt : Expr} {scope : Scope} (j : Nat) {n : Nat} (hN : ∀ i, (X i).N.Nodup) (ok : ∀ i, BlkOk (X i).N (X i).env.scope scope [(x, j)])
    (hi : ∀ R : It → Hp → Prop, R (Itr 0 n) H → WI X (.Name x py) iter σ H R)
    (hc : ∀ (i : Nat) (H' : Hp), i < n → Same H H' → WT (blkF X scope) c ((wipe σ [j]).set j (some (.int (0 + i)))) H' fun b H'' => b = false ∧ Same H' H'')
    (hg : ∀ (v : V) (H' : Hp) (Q' : L2.St → Hp → Prop), Q' ((wipe σ [j]).set j (some v)) H' → WG (blkF X scope) (.Name x py) v (wipe σ [j]) H' Q')
    (k : ∀ l H', Same H H' → H' l = some (.lst []) → Q (.ref l) H')
    (hw : ∀ v : V, wipe ((wipe σ [j]).set j (some v)) [j] = wipe σ [j] := by intro _; rfl)
    (hcm : ∀ i, (X i).calm = true := by intro _; rfl) (hs : ∀ i x, foldedSetIterable iter (X i).env x = pure x := by intro _ _; rfl) : WE X (.ListComp elt [⟨.Name x py, iter, [c], 0⟩] scope pos) σ H Q := by
  refine we_lc [(x, j)] hN ok ?_ hcm hs
  refine hi _ fun L hL => ?_
  refine ⟨n, fun i acc H' => acc = [] ∧ Same H H' ∧ H' L = some (.lst []), ⟨rfl, Same.new hL, upd_same⟩, ?_, ?_⟩
  · rintro i acc H1 hlt ⟨rfl, sm, hL1⟩
    refine ⟨hlt, ?_⟩
    rintro y H2 ⟨rfl, rfl⟩
    refine hg _ _ _ ⟨hw _, wts_one ((hc i H2 hlt sm).mono ?_)⟩
    rintro b H3 ⟨rfl, sm3⟩
    exact Br.f rfl ⟨rfl, sm.trans sm3, sm3 _ _ hL1⟩
  · rintro acc H1 ⟨rfl, sm, hL1⟩
    exact ⟨Nat.le_refl _, k L H1 sm hL1⟩
end
section
variable {P : Program} {w : World} {K : PySem.W.Frag} {mg : Str → Option Value} {base : Heap} {CW CL : Addr}
/-! ### _law_stand -/
abbrev sLStand : Stmt := top 34
def spLStand (K : PySem.W.Frag) (CW CL : Addr) : Sp := fun vs H Q _ => ∃ (d : Int) (L ldx er W h wdx : Addr) (n : Nat) (S : LS), vs = [.ref L] ∧ LineAt K CW CL H d L ldx er W h wdx n S ∧ S.hung.length < 64 ∧
  ∀ r D A H', Same H H' → H D = none → StandAt H' r D A d S → Q (.ref r) H'
theorem scLStand : FnScope ["_law_line", "_law_found", "_law_place", "_law_thing"] ["_law_line"] (defScope sLStand) := ⟨rfl, rfl, rfl, by decide +kernel, rfl, by decide +kernel, by decide +kernel⟩
theorem ok_lstand {f : Addr} {fdt : FuncData} (F : Fun K "_law_stand" "_law_stand" sLStand f fdt) (T : Txt K mg CW CL) (GT : CalM P w K mg base CL "things" 1 (spThings K CW CL)) (G1 : CalP P w K mg base CL "turn" 1 (spRead K CW CL LS.stand)) (G2 : CalP P w K mg base CL "pulled" 1 (spRead K CW CL LS.lengths)) :
    FnOk P w K mg base CX0 3 f fdt ["_law_line"] (spLStand K CW CL) := by
  refine fun_w F scLStand (fun vs H Q E h => ?_) (fun cdv A outer s H vs Q E hr hN h => ?_)
  · obtain ⟨d, L, ldx, er, W, h, wdx, n, S, rfl, _⟩ := h
    rfl
  · obtain ⟨d, L, ldx, er, W, h, wdx, n, S, rfl, hLn, few, k⟩ := h
    have hu := roomF hr
    refine wb_cons (ws_set 1 (we_dnew fun D hD => ?_) hN)
    have sm0 : Same H (upd H D (.dK [])) := Same.new hD
    have hD0 : (upd H D (.dK [])) D = some (.dK []) := upd_same
    generalize upd H D (.dK []) = H1 at sm0 hD0 ⊢
    have hL1 := hLn.same sm0
    refine wb_cons (ws_for ?_)
    refine wi_list ?_
    refine we_meth0 T.clL GT hr ?_
    refine we_var 0 ?_
    obtain ⟨dn, mk, xs, hLo, _⟩ := hL1.ob
    refine ⟨_, _, _, rfl, hLo, rfl, ?_⟩
    refine ⟨d, L, ldx, er, W, h, wdx, n, S, rfl, hL1, few, fun l A H2 sm2 hA hT => ?_⟩
    obtain ⟨rs, hl, rl, hrs⟩ := hT
    refine ⟨l, rfl, ⟨_, SqL.of hl⟩, ?_⟩
    have nlD : l ≠ D := ne_of hl (sm2 _ _ hD0) (by intro z; cases z)
    have al : A.length < 64 := by rw [hA.len]; exact few
    refine ⟨A.length, fun i σ H' => (∃ a b, σ = [some (.ref L), some (.ref D), a, b]) ∧ But (· = D) H2 H' ∧ H' D = some (.dK (dA (A.take i))), ?_, ?_, ?_⟩
    · exact ⟨⟨_, _, rfl⟩, But.refl _ _, sm2 _ _ hD0⟩
    · rintro i σ H3 hi ⟨⟨a, b, rfl⟩, b3, hD3⟩
      obtain ⟨q, eq⟩ : ∃ q, A[i]? = some q := ⟨_, List.getElem?_eq_getElem hi⟩
      obtain ⟨r, er'⟩ : ∃ r, rs[i]? = some r := ⟨_, List.getElem?_eq_getElem (by omega)⟩
      have hl3 := b3 _ _ hl nlD
      have ei : (rs.map V.ref)[i]? = some (.ref r) := by rw [List.getElem?_map, er']; rfl
      have hr2 := hrs i r q er' eq
      have nrD : r ≠ D := ne_of hr2 (sm2 _ _ hD0) (by intro z; cases z)
      have hr3 := b3 _ _ hr2 nrD
      refine ⟨⟨_, _, SqL.of hl3, ei⟩, ?_⟩
      rintro x H4 ⟨rfl, hx⟩
      have hx' := hx _ (SqL.of hl3)
      rw [ei] at hx'
      cases hx'
      refine wg_tup (SqT.of hr3) rfl ?_
      refine wgs_cons (wg_name 2 ?_ hN)
      refine wgs_cons (wg_name 3 ?_ hN)
      refine wgs_nil ?_
      refine wb_one (ws_dput hu ?_)
      refine we_var 3 ?_
      refine we_var 1 ?_
      refine we_var 2 ?_
      refine ⟨D, _, rfl, DPut.k (k := (Sum.inl q.1 : Key)) hD3 (small1000 (by rw [dA_len, List.length_take]; omega)), ⟨_, _, rfl⟩, b3.trans (But.upd rfl), ?_⟩
      rw [upd_same, dA_put hA.nd eq]
    · rintro σ H3 ⟨⟨a, b, rfl⟩, b3, hD3⟩
      rw [List.take_length] at hD3
      have same3 : Same H H3 := fun b o e => b3 b o (sm2 _ _ (sm0 _ _ e)) (ne_of_none e hD)
      refine ⟨⟨_, SqL.of (b3 _ _ hl nlD), by rw [List.length_map, rl]; exact Nat.le_refl _⟩, ?_⟩
      have hL3 := hLn.same same3
      obtain ⟨dn3, mk3, xs3, hLo3, _⟩ := hL3.ob
      refine wb_one (ws_ret (we_tup (wa_cons ?_)))
      refine we_prop T.clL G1 hr ?_
      refine we_var 0 ?_
      refine ⟨_, _, _, rfl, hLo3, d, L, ldx, er, W, h, wdx, n, S, rfl, hL3, ?_⟩
      refine wa_cons ?_
      refine we_prop T.clL G2 hr ?_
      refine we_var 0 ?_
      refine ⟨_, _, _, rfl, hLo3, d, L, ldx, er, W, h, wdx, n, S, rfl, hL3, ?_⟩
      refine wa_cons (we_var 1 (wa_nil ⟨by show 3 ≤ sizeLine; decide, fun r hr' => ?_⟩))
      have nDr : D ≠ r := ne_of_none hD3 hr'
      exact k r D A _ (same3.trans (Same.new hr')) hD ⟨upd_same, by rw [upd_ne nDr]; exact hD3, hA, hLn.work.good, by omega⟩
/-! ### _law_hangs -/
abbrev sLHangs : Stmt := top 35
def spLHangs : Sp := fun vs H Q _ => ∃ (r D : Addr) (A : List (Int × Str)) (d : Int) (S : LS) (t : Str), vs = [.ref r, .str t] ∧ StandAt H r D A d S ∧ ∀ H', Same H H' → Q (.bl (at1 S.hung t).isSome) H'
theorem scLHangs : FnScope ["_law_stand_here", "_law_thing", "_law_place"] ["_law_stand_here", "_law_thing"] (defScope sLHangs) := ⟨rfl, rfl, rfl, by decide +kernel, rfl, by decide +kernel, by decide +kernel⟩
theorem ok_lhangs {f : Addr} {fdt : FuncData} (F : Fun K "_law_hangs" "_law_hangs" sLHangs f fdt) (T : Txt K mg CW CL) : FnOk P w K mg base CX0 1 f fdt ["_law_stand_here", "_law_thing"] spLHangs := by
  refine fun_w F scLHangs (fun vs H Q E h => ?_) (fun cdv A0 outer s H vs Q E hr hN h => ?_)
  · obtain ⟨r, D, A, d, S, t, rfl, _⟩ := h
    rfl
  · obtain ⟨r, D, A, d, S, t, rfl, hS, k⟩ := h
    have hu := roomF hr
    refine wb_one (ws_ret (we_neL hr ?_))
    refine we_keysF 2 (fun q => decide (q.2 = t)) hN (fun _ => blkOk_by (N := ["_law_stand_here", "_law_thing", "_law_place"]) (sc := defScope sLHangs) (by decide +kernel)) hS.dic hS.few (fun od => ?_) (fun od q H' hq sm => ?_) (fun q H' => we_var 2 ⟨rfl, rfl⟩) (fun v H' Q' z => wg_name 2 z (fun i => hN i.1)) (fun l H' sm hl => ?_)
    · refine we_ixT ?_
      repeat walk_at "W"
      exact ⟨_, _, _, _, rfl, rfl, SqT.of (by rw [upd_ne hS.ne]; exact hS.tup), rfl, rfl, rfl⟩
    · have hA := sm _ _ (by rw [upd_ne hS.ne]; exact hS.tup)
      refine wt_eq ?_
      refine we_dget (fun i => hu i.1) ?_
      refine we_ixT ?_
      repeat walk_at "W"
      refine ⟨_, _, _, _, rfl, rfl, SqT.of hA, rfl, ?_⟩
      repeat walk_at "W"
      have g := dget_lock hS (same_in sm) q.1
      rw [nameAt_of hS.good.places ((hS.of.mem q.1 q.2).mp hq)] at g
      refine ⟨D, _, rfl, g, ?_⟩
      repeat walk_at "W"
      refine ⟨?_, Same.refl _⟩
      by_cases e : q.2 = t
      · rw [e]; simp
      · rw [decide_eq_false e, decide_eq_false (fun z => e (V.str.inj z))]
    · have fl : ((A.filter fun q => decide (q.2 = t)).map fun q => V.int q.1).all okFlat = true := by
        rw [List.all_eq_true]
        intro v hv
        obtain ⟨q, _, rfl⟩ := List.mem_map.mp hv
        rfl
      refine ⟨l, _, rfl, hl, fl, fun H2 sm2 => ?_⟩
      have ev : (!((A.filter fun q => decide (q.2 = t)).map fun q => V.int q.1).isEmpty) = (at1 S.hung t).isSome := by
        cases e : at1 S.hung t with
        | none =>
          have : (A.filter fun q => decide (q.2 = t)) = [] := by
            rw [List.filter_eq_nil_iff]
            intro q hq z
            have z' : q.2 = t := of_decide_eq_true z
            have m := (hS.of.mem q.1 q.2).mp hq
            rw [z'] at m
            exact at1_none e (List.mem_map.mpr ⟨_, m, rfl⟩)
          rw [this]
          rfl
        | some p =>
          have m := (hS.of.mem p t).mpr (at1_mem e)
          have m2 : (p, t) ∈ A.filter fun q => decide (q.2 = t) := List.mem_filter.mpr ⟨m, decide_eq_true rfl⟩
          cases z : A.filter fun q => decide (q.2 = t) with
          | nil => rw [z] at m2; cases m2
          | cons a b => rfl
      rw [ev]
      exact k _ (sm.trans sm2)
end
end Rn
/-! The law's checks: common, same, turned, is_first. -/
namespace Rn
open PySem L2 StX
section
variable {ι : Type} {X : ι → Cx} {σ : L2.St} {H : Hp} {Q : VK} {QT : Bool → Hp → Prop} {K : PySem.W.Frag}
/-- x in (a, b, ..), the tuple made there and then -/
theorem wt_inTup {a : Expr} {es : List Expr} {kk : Nat} {p pos : Pos} (h : WE X a σ H fun x H1 => WA X es σ H1 fun xs H2 => flatV x = true ∧ xs.all flatV = true ∧ xs.length ≤ sizeLine ∧ ∀ H3, Same H2 H3 → QT (inV x xs) H3)
    (hm : behindInMarks .In (.Tuple es kk p) = false := by rfl) (hK : ∀ i, (X i).K = K := by intro _; rfl) : WT X (.Compare a [.In] [.Tuple es kk p] pos) σ H QT :=
  wt_inT (h.mono fun x H1 h => we_tup (h.mono fun xs H2 ⟨f1, f2, l, q⟩ => ⟨l, fun u hu => ⟨u, xs, rfl, .inr (SqT.of upd_same), f1, f2, q _ (Same.new hu)⟩⟩)) hm hK
theorem we_inTup {a : Expr} {es : List Expr} {kk : Nat} {p pos : Pos} (h : WE X a σ H fun x H1 => WA X es σ H1 fun xs H2 => flatV x = true ∧ xs.all flatV = true ∧ xs.length ≤ sizeLine ∧ ∀ H3, Same H2 H3 → Q (.bl (inV x xs)) H3)
    (hm : behindInMarks .In (.Tuple es kk p) = false := by rfl) (hK : ∀ i, (X i).K = K := by intro _; rfl) : WE X (.Compare a [.In] [.Tuple es kk p] pos) σ H Q :=
  we_inT (h.mono fun x H1 h => we_tup (h.mono fun xs H2 ⟨f1, f2, l, q⟩ => ⟨l, fun u hu => ⟨u, xs, rfl, .inr (SqT.of upd_same), f1, f2, q _ (Same.new hu)⟩⟩)) hm hK
end

theorem farB (far : Bool) : decide (V.str (win far) = V.str "far") = far := by cases far <;> decide +kernel
/-- where a window begins to look -/
def bs (d : Int) (S : LS) (far : Bool) : Int := S.stand + d * (if far = true then 1 else 0)
theorem bs_spot (d : Int) (S : LS) (far : Bool) : bs d S far % (2 * d) = spot d S far := by
  unfold bs spot
  cases far
  · simp
  · simp
theorem cmulF {d : Int} (h0 : 0 < d) (h1 : d ≤ 10 ^ 50) (far : Bool) : CMulW d (if far = true then 1 else 0) := wide_mul (a := 200) (b := 2) (by have := pow50; omega) (by cases far <;> decide) (by decide) (by decide) (by decide)
theorem optV_get (o : Option Str) : (o.map V.str).getD .non = optV o := by cases o <;> rfl
/-- the first turns of so many are none that would do -/
def FirstOk (d : Int) (S : LS) (m : Int) : PDeed → Prop
  | .hang far _ => ∀ k : Nat, (k : Int) < min m 60 → (nameAt S.hung ((bs d S far + (0 + k)) % (2 * d))).isSome = true
  | .walk far s => ∀ k : Nat, (k : Int) < min m 60 → nameAt S.hung ((bs d S far + (0 + k) * s) % (2 * d)) = none
  | .fetch far t => ∀ k : Nat, (k : Int) < min m 60 → ¬ nameAt S.hung ((bs d S far + (0 + k)) % (2 * d)) = some t
  | _ => False
section
variable {P : Program} {w : World} {K : PySem.W.Frag} {mg : Str → Option Value} {base : Heap} {CW CL : Addr}
/-! ### _law_common -/
abbrev sCommon : Stmt := top 32
def spCommon : Sp := fun vs H Q _ => ∃ a b : Nat, vs = [.int a, .int b] ∧ Q (.int (Nat.gcd a b : Nat)) H
theorem scCommon : FnScope ["_law_one", "_law_other"] ["_law_one", "_law_other"] (defScope sCommon) := ⟨rfl, rfl, rfl, by decide +kernel, rfl, by decide +kernel, by decide +kernel⟩
theorem ok_common {f : Addr} {fdt : FuncData} (F : Fun K "_law_common" "_law_common" sCommon f fdt) (T : Txt K mg CW CL) : FnOk P w K mg base CX0 1 f fdt ["_law_one", "_law_other"] spCommon := by
  refine fun_w F scCommon (fun vs H Q E h => ?_) (fun cdv A outer s H vs Q E hr hN h => ?_)
  · obtain ⟨a, b, rfl, _⟩ := h
    rfl
  · obtain ⟨a, b, rfl, k⟩ := h
    refine wb_cons ?_
    refine ws_while (fun m σ H' => ∃ x y : Nat, σ = [some (.int x), some (.int y)] ∧ H' = H ∧ y = m ∧ Nat.gcd x y = Nat.gcd a b) ⟨b, a, b, rfl, rfl, rfl, rfl⟩ ?_
    rintro m σ H' ⟨x, y, rfl, rfl, rfl, g⟩
    repeat walk_at "W"
    refine Br.mk (fun e => ?_) (fun e => ?_)
    · have y0 : 0 < y := by
        rcases Nat.eq_zero_or_pos y with z | z
        · rw [z] at e; simp at e
        · exact z
      refine wb_one (ws_par 0 1 ?_ hN)
      repeat walk_at "W"
      refine we_intc (fun _ => T.int) ?_
      repeat walk_at "W"
      refine l_I (by omega) ?_
      repeat walk_at "W"
      refine ⟨x % y, Nat.mod_lt x y0, y, x % y, rfl, rfl, rfl, ?_⟩
      rw [← g, Nat.gcd_comm y, Nat.gcd_comm x, Nat.gcd_rec y x]
    · have y0 : y = 0 := by
        rcases Nat.eq_zero_or_pos y with z | z
        · exact z
        · exfalso
          have : ¬ (V.int (y : Int) = V.int 0) := fun q => by have := V.int.inj q; omega
          rw [decide_eq_false this] at e
          cases e
      repeat walk_at "W"
      rw [y0, Nat.gcd_zero_right] at g
      rw [g]
      exact k
/-! ### _law_same -/
theorem kit_no_NoneType (K : PySem.W.Frag) : PySem.W.kitAny K (.type "NoneType") [.type "list", .type "tuple"] = some false :=
  kitAny_cons (b := false) (kit_ty (by decide +kernel)) (fun _ => kitAny_cons (b := false) (kit_ty (by decide +kernel)) (fun _ => kitAny_nil) (fun z => nomatch z)) (fun z => nomatch z)
theorem kit_no_str (K : PySem.W.Frag) : PySem.W.kitAny K (.type "str") [.type "list", .type "tuple"] = some false :=
  kitAny_cons (b := false) (kit_ty (by decide +kernel)) (fun _ => kitAny_cons (b := false) (kit_ty (by decide +kernel)) (fun _ => kitAny_nil) (fun z => nomatch z)) (fun z => nomatch z)
abbrev sSame : Stmt := top 33
def spSame : Sp := fun vs H Q _ => ∃ o : Option Str, vs = [optV o, optV o] ∧ ∀ H', Same H H' → Q (.bl true) H'
theorem scSame : FnScope ["_law_found", "_law_due", "_law_is_kind", "_law_k"] ["_law_found", "_law_due"] (defScope sSame) := ⟨rfl, rfl, rfl, by decide +kernel, rfl, by decide +kernel, by decide +kernel⟩
theorem ok_same {f : Addr} {fdt : FuncData} (F : Fun K "_law_same" "_law_same" sSame f fdt) (T : Txt K mg CW CL) : FnOk P w K mg base CX0 1 f fdt ["_law_found", "_law_due"] spSame := by
  refine fun_w F scSame (fun vs H Q E h => ?_) (fun cdv A outer s H vs Q E hr hN h => ?_)
  · obtain ⟨o, rfl, _⟩ := h
    rfl
  · obtain ⟨o, rfl, k⟩ := h
    repeat walk_at "W"
    refine wt_val ?_
    refine we_bf (r := rIsiT K) (fun _ => call_isiT) (fun _ => T.isinstance) (by decide +kernel) ?_
    repeat walk_at "W"
    refine we_bltn (fun _ => T.list) (by decide +kernel) (v := .ty "list") rfl ?_
    repeat walk_at "W"
    refine we_bltn (fun _ => T.tuple) (by decide +kernel) (v := .ty "tuple") rfl ?_
    repeat walk_at "W"
    refine ⟨by show 2 ≤ sizeLine; decide, fun tp ht => ?_⟩
    have sm : Same H (upd H tp (.tup [.ty "list", .ty "tuple"])) := Same.new ht
    cases o with
    | none =>
      refine wa_nil ⟨.non, tp, _, .type "NoneType", [.type "list", .type "tuple"], false, rfl, upd_same, .cons (.ty _) (.cons (.ty _) .nil), .base .non, kit_no_NoneType K, ?_⟩
      repeat walk_at "W"
      exact k _ sm
    | some t =>
      refine wa_nil ⟨.str t, tp, _, .type "str", [.type "list", .type "tuple"], false, rfl, upd_same, .cons (.ty _) (.cons (.ty _) .nil), .base (.str t), kit_no_str K, ?_⟩
      repeat walk_at "W"
      refine wt_val ?_
      refine we_isi (fun _ => T.isinstance) ?_
      repeat walk_at "W"
      refine we_bltn (fun _ => T.str) (by decide +kernel) (v := .ty "str") rfl ?_
      refine ⟨_, _, true, rfl, .base (.str _), by decide +kernel, ?_⟩
      repeat walk_at "W"
      refine we_isi (fun _ => T.isinstance) ?_
      repeat walk_at "W"
      refine we_bltn (fun _ => T.str) (by decide +kernel) (v := .ty "str") rfl ?_
      refine ⟨_, _, true, rfl, .base (.str _), by decide +kernel, ?_⟩
      repeat walk_at "W"
      rw [decide_eq_true rfl]
      exact k _ sm
/-! ### _law_turned -/
abbrev sTurned : Stmt := top 36
def turned (told : V) : PDeed → Int
  | .pull n => n
  | .hang _ _ => match told with | .int m => m | _ => 0
  | .fetch _ _ => match told with | .int m => m | _ => 0
  | .walk _ s => match told with | .int m => m * s | _ => 0
  | _ => 0
/-- a number, where one was to be told -/
def Num (told : V) : PDeed → Prop
  | .hang _ _ => ∃ m : Int, told = .int m ∧ m.natAbs < 2 ^ 201
  | .fetch _ _ => ∃ m : Int, told = .int m ∧ m.natAbs < 2 ^ 201
  | .walk _ _ => ∃ m : Int, told = .int m ∧ m.natAbs < 2 ^ 201
  | _ => True
def spTurned : Sp := fun vs H Q _ => ∃ (a : Addr) (told : V) (p : PDeed), vs = [.ref a, told] ∧ H a = some (.tup p.tup) ∧ p.ok ∧ Num told p ∧ ∀ H', Same H H' → Q (.int (turned told p)) H'
theorem scTurned : FnScope ["_law_deed_here", "_law_told"] ["_law_deed_here", "_law_told"] (defScope sTurned) := ⟨rfl, rfl, rfl, by decide +kernel, rfl, by decide +kernel, by decide +kernel⟩
theorem ok_turned {f : Addr} {fdt : FuncData} (F : Fun K "_law_turned" "_law_turned" sTurned f fdt) (T : Txt K mg CW CL) : FnOk P w K mg base CX0 1 f fdt ["_law_deed_here", "_law_told"] spTurned := by
  refine fun_w F scTurned (fun vs H Q E h => ?_) (fun cdv A outer s H vs Q E hr hN h => ?_)
  · obtain ⟨a, told, p, rfl, _⟩ := h
    rfl
  · obtain ⟨a, told, p, rfl, hA, hok, hnum, k⟩ := h
    have sm : Same H H := Same.refl H
    cases p with
    | pull n =>
      repeat walk_at "W"
      walk_at "A"
      repeat walk_at "W"
      walk_at "A"
      exact k _ sm
    | hang far t =>
      obtain ⟨m, rfl, _⟩ := hnum
      repeat walk_at "W"
      walk_at "A"
      repeat walk_at "W"
      walk_at "I"
      repeat walk_at "W"
      exact k _ sm
    | fetch far t =>
      obtain ⟨m, rfl, _⟩ := hnum
      repeat walk_at "W"
      walk_at "A"
      repeat walk_at "W"
      walk_at "I"
      repeat walk_at "W"
      exact k _ sm
    | walk far st =>
      obtain ⟨m, rfl, hm⟩ := hnum
      repeat walk_at "W"
      walk_at "A"
      repeat walk_at "W"
      walk_at "I"
      repeat walk_at "W"
      walk_at "A"
      repeat walk_at "W"
      walk_at "A"
      have := hok.2
      refine l_I (wide_mul (a := 201) (b := 3) hm (by omega) (by decide) (by decide) (by decide)) ?_
      exact k _ sm
    | peg far t =>
      repeat walk_at "W"
      walk_at "A"
      repeat walk_at "W"
      walk_at "I"
      repeat walk_at "W"
      walk_at "A"
      repeat walk_at "W"
      exact k _ sm
    | take far =>
      repeat walk_at "W"
      walk_at "A"
      repeat walk_at "W"
      walk_at "I"
      repeat walk_at "W"
      walk_at "A"
      repeat walk_at "W"
      exact k _ sm
    | look far =>
      repeat walk_at "W"
      walk_at "A"
      repeat walk_at "W"
      walk_at "I"
      repeat walk_at "W"
      walk_at "A"
      repeat walk_at "W"
      exact k _ sm
/-! ### _law_is_first -/
abbrev sFirst : Stmt := top 37
def spFirst : Sp := fun vs H Q _ => ∃ (a r D : Addr) (A : List (Int × Str)) (d m : Int) (S : LS) (p : PDeed), vs = [.ref a, .int m, .ref r, .int d] ∧ H a = some (.tup p.tup) ∧ p.ok ∧ StandAt H r D A d S ∧ 0 < d ∧ d ≤ 10 ^ 50 ∧ 0 ≤ m ∧ FirstOk d S m p ∧
  ∀ H', Same H H' → Q (.bl true) H'
theorem scFirst : FnScope ["_law_deed_here", "_law_told", "_law_ahead", "_law_size", "_law_base", "_law_many", "_law_k"] ["_law_deed_here", "_law_told", "_law_ahead", "_law_size"] (defScope sFirst) := ⟨rfl, rfl, rfl, by decide +kernel, rfl, by decide +kernel, by decide +kernel⟩
theorem ok_first {f : Addr} {fdt : FuncData} (F : Fun K "_law_is_first" "_law_is_first" sFirst f fdt) (T : Txt K mg CW CL) : FnOk P w K mg base CX0 1 f fdt ["_law_deed_here", "_law_told", "_law_ahead", "_law_size"] spFirst := by
  refine fun_w F scFirst (fun vs H Q E h => ?_) (fun cdv A outer s H vs Q E hr hN h => ?_)
  · obtain ⟨a, r, D, A, d, m, S, p, rfl, _⟩ := h
    rfl
  · obtain ⟨a, r, D, A, d, m, S, p, rfl, hA, hok, hS, d0, d1, m0, hF, k⟩ := h
    have hu := roomF hr
    have sm : Same H H := Same.refl H
    have md : (0 : Int) < 2 * d := by omega
    have mn : (0 : Int) ≤ min m 60 ∧ min m 60 ≤ 60 := by omega
    have iof : ∀ i : Nat, i < (min m 60).toNat → (i : Int) < min m 60 := fun i h => by omega
    cases p with
    | hang far t =>
      repeat walk_at "W"
      refine ws_set 4 ?_ hN
      repeat walk_at "W"
      walk_at "P"
      repeat walk_at "W"
      refine we_intb (fun _ => T.int) ?_
      repeat walk_at "W"
      walk_at "A"
      repeat walk_at "W"
      rw [farB]
      refine l_I (cmulF d0 d1 far) ?_
      repeat walk_at "W"
      refine ws_set 5 ?_ hN
      refine we_min (fun _ => T.min) ?_
      repeat walk_at "W"
      walk_at "A"
      repeat walk_at "W"
      refine we_rngN 6 (n := (min m 60).toNat) hN (fun _ => blkOk_by (N := ["_law_deed_here", "_law_told", "_law_ahead", "_law_size", "_law_base", "_law_many", "_law_k"]) (sc := defScope sFirst) (by decide +kernel))
        (fun R hR => wi_range1 (fun _ => T.range) (wa_cons (we_var 5 (wa_nil ⟨_, rfl, by omega, by omega, hR⟩)))) (fun i H1 hi sm => ?_) (fun v H' Q' z => wg_name 6 z (fun i => hN i.1)) (fun l H1 sm1 hl => ?_)
      · refine wt_dnotin (fun i => hu i.1) ?_
        repeat walk_at "W"
        refine we_intc (fun _ => T.int) ?_
        repeat walk_at "W"
        refine l_I (cmul2 d0 d1) (l_I md ?_)
        walk_at "P"
        refine ⟨D, _, rfl, (hS.same sm).get _, ?_⟩
        repeat walk_at "W"
        refine ⟨?_, Same.refl _⟩
        have := hF i (iof i hi)
        rw [Option.isSome_map]
        show (!(nameAt S.hung ((bs d S far + (0 + (i : Int))) % (2 * d))).isSome) = false
        rw [this]
        rfl
      · exact ⟨l, _, rfl, hl, rfl, fun H2 sm2 => k _ (sm1.trans sm2)⟩
    | walk far st =>
      repeat walk_at "W"
      refine ws_set 4 ?_ hN
      repeat walk_at "W"
      walk_at "P"
      repeat walk_at "W"
      refine we_intb (fun _ => T.int) ?_
      repeat walk_at "W"
      walk_at "A"
      repeat walk_at "W"
      rw [farB]
      refine l_I (cmulF d0 d1 far) ?_
      repeat walk_at "W"
      refine ws_set 5 ?_ hN
      refine we_min (fun _ => T.min) ?_
      repeat walk_at "W"
      walk_at "A"
      repeat walk_at "W"
      walk_at "A"
      repeat walk_at "W"
      refine we_rngN 6 (n := (min m 60).toNat) hN (fun _ => blkOk_by (N := ["_law_deed_here", "_law_told", "_law_ahead", "_law_size", "_law_base", "_law_many", "_law_k"]) (sc := defScope sFirst) (by decide +kernel))
        (fun R hR => wi_range1 (fun _ => T.range) (wa_cons (we_var 5 (wa_nil ⟨_, rfl, by omega, by omega, hR⟩)))) (fun i H1 hi sm => ?_) (fun v H' Q' z => wg_name 6 z (fun i => hN i.1)) (fun l H1 sm1 hl => ?_)
      · refine wt_din (fun i => hu i.1) ?_
        repeat walk_at "W"
        refine we_intc (fun _ => T.int) ?_
        repeat walk_at "W"
        walk_at "A"
        have := hok.2
        refine l_I (wide_mul (a := 30) (b := 3) (by omega) (by omega) (by decide) (by decide) (by decide)) ?_
        repeat walk_at "W"
        refine l_I (cmul2 d0 d1) (l_I md ?_)
        walk_at "P"
        refine ⟨D, _, rfl, (hS.same sm).get _, ?_⟩
        repeat walk_at "W"
        refine ⟨?_, Same.refl _⟩
        have := hF i (iof i hi)
        rw [Option.isSome_map]
        show (nameAt S.hung ((bs d S far + (0 + (i : Int)) * st) % (2 * d))).isSome = false
        rw [this]
        rfl
      · exact ⟨l, _, rfl, hl, rfl, fun H2 sm2 => k _ (sm1.trans sm2)⟩
    | fetch far t =>
      repeat walk_at "W"
      refine ws_set 4 ?_ hN
      repeat walk_at "W"
      walk_at "P"
      repeat walk_at "W"
      refine we_intb (fun _ => T.int) ?_
      repeat walk_at "W"
      walk_at "A"
      repeat walk_at "W"
      rw [farB]
      refine l_I (cmulF d0 d1 far) ?_
      repeat walk_at "W"
      refine ws_set 5 ?_ hN
      refine we_min (fun _ => T.min) ?_
      repeat walk_at "W"
      walk_at "A"
      repeat walk_at "W"
      walk_at "A"
      repeat walk_at "W"
      refine we_rngN 6 (n := (min m 60).toNat) hN (fun _ => blkOk_by (N := ["_law_deed_here", "_law_told", "_law_ahead", "_law_size", "_law_base", "_law_many", "_law_k"]) (sc := defScope sFirst) (by decide +kernel))
        (fun R hR => wi_range1 (fun _ => T.range) (wa_cons (we_var 5 (wa_nil ⟨_, rfl, by omega, by omega, hR⟩)))) (fun i H1 hi sm => ?_) (fun v H' Q' z => wg_name 6 z (fun i => hN i.1)) (fun l H1 sm1 hl => ?_)
      · refine wt_eq ?_
        refine we_dget1 (fun i => hu i.1) ?_
        walk_at "P"
        refine ⟨D, rfl, (hS.same sm).isD, ?_⟩
        repeat walk_at "W"
        refine we_intc (fun _ => T.int) ?_
        repeat walk_at "W"
        refine l_I (cmul2 d0 d1) (l_I md ?_)
        refine ⟨_, (hS.same sm).get _, ?_⟩
        walk_at "A"
        have := hF i (iof i hi)
        rw [optV_get]
        refine l_eq ?_ (scal_opt _ (some t))
        repeat walk_at "W"
        refine ⟨decide_eq_false fun z => this (optV_inj (b := some t) z), Same.refl _⟩
      · exact ⟨l, _, rfl, hl, rfl, fun H2 sm2 => k _ (sm1.trans sm2)⟩
    | pull n => exact hF.elim
    | peg far t => exact hF.elim
    | take far => exact hF.elim
    | look far => exact hF.elim
end
end Rn
/-! The law's checks: number_fits, changed_things. -/
namespace Rn
open PySem L2 StX

theorem ne_self (t : Str) : (!decide ((Option.map V.str (some t)).getD V.non = V.str t)) = false := by
  rw [show (Option.map V.str (some t)).getD V.non = V.str t from rfl, decide_eq_true (rfl : V.str t = V.str t)]
  rfl
/-- a told number that fits -/
def NumOk (d : Int) (S S' : LS) (m : Int) : PDeed → Prop
  | .fetch far t => m < 2 * d ∧ nameAt S'.hung (bs d S' far % (2 * d)) = some t
  | .walk far s => (nameAt S.hung (bs d S' far % (2 * d))).isSome = true ∧ m < 2 * d / (Nat.gcd s.natAbs (2 * d).toNat : Nat)
  | .hang far t => at1 S.hung t = none ∧ nameAt S.hung (bs d S' far % (2 * d)) = none ∧ nameAt S'.hung (bs d S' far % (2 * d)) = some t ∧ m ≤ S.hung.length
  | _ => False
section
variable {P : Program} {w : World} {K : PySem.W.Frag} {mg : Str → Option Value} {base : Heap} {CW CL : Addr}
/-! ### _law_number_fits -/
abbrev sNum : Stmt := top 38
def spNum : Sp := fun vs H Q _ => ∃ (a r D r' D' : Addr) (A A' : List (Int × Str)) (d m : Int) (S S' : LS) (p : PDeed), vs = [.ref a, .int m, .ref r, .ref r', .int d] ∧ H a = some (.tup p.tup) ∧ p.ok ∧ StandAt H r D A d S ∧ StandAt H r' D' A' d S' ∧ 0 < d ∧ d ≤ 10 ^ 50 ∧ 0 ≤ m ∧
  NumOk d S S' m p ∧ FirstOk d S m p ∧ ∀ H', Same H H' → Q (.bl true) H'
theorem scNum : FnScope ["_law_deed_here", "_law_told", "_law_ahead", "_law_behind", "_law_size", "_law_here", "_law_rounds"] ["_law_deed_here", "_law_told", "_law_ahead", "_law_behind", "_law_size"] (defScope sNum) := ⟨rfl, rfl, rfl, by decide +kernel, rfl, by decide +kernel, by decide +kernel⟩
theorem ok_num {f : Addr} {fdt : FuncData} (F : Fun K "_law_number_fits" "_law_number_fits" sNum f fdt) (T : Txt K mg CW CL) (GC : Cal P w K mg base "_law_common" 1 spCommon) (GH : Cal P w K mg base "_law_hangs" 1 spLHangs) (GF : Cal P w K mg base "_law_is_first" 1 spFirst) :
    FnOk P w K mg base CX0 2 f fdt ["_law_deed_here", "_law_told", "_law_ahead", "_law_behind", "_law_size"] spNum := by
  refine fun_w F scNum (fun vs H Q E h => ?_) (fun cdv A0 outer s H vs Q E hr hN h => ?_)
  · obtain ⟨a, r, D, r', D', A, A', d, m, S, S', p, rfl, _⟩ := h
    rfl
  · obtain ⟨a, r, D, r', D', A, A', d, m, S, S', p, rfl, hA, hok, hS, hT, d0, d1, m0, hn, hF, k⟩ := h
    have hu := roomF hr
    have sm : Same H H := Same.refl H
    have md : (0 : Int) < 2 * d := by omega
    have nm : ¬ m < 0 := by omega
    have start : ∀ (far : Bool) (w1 : Str) (x : V), H a = some (.tup [V.str w1, V.str (win far), x]) → WB (fX P w K mg base ["_law_deed_here", "_law_told", "_law_ahead", "_law_behind", "_law_size", "_law_here", "_law_rounds"] "_law_number_fits" sNum f cdv A0 outer s H E) ((defBody sNum).drop 2) (fun _ H' => Q .non H') Q (fun _ _ => False) (fun _ _ => False)
        [some (.ref a), some (.int m), some (.ref r), some (.ref r'), some (.int d), some (.int (bs d S' far % (2 * d))), none] H →
        WB (fX P w K mg base ["_law_deed_here", "_law_told", "_law_ahead", "_law_behind", "_law_size", "_law_here", "_law_rounds"] "_law_number_fits" sNum f cdv A0 outer s H E) (defBody sNum) (fun _ H' => Q .non H') Q (fun _ _ => False) (fun _ _ => False)
        [some (.ref a), some (.int m), some (.ref r), some (.ref r'), some (.int d), none, none] H := fun far w1 x hA q => by
      refine wb_cons (ws_set 5 ?_ hN)
      repeat walk_at "W"
      refine we_intc (fun _ => T.int) ?_
      repeat walk_at "W"
      walk_at "Q"
      repeat walk_at "W"
      refine we_intb (fun _ => T.int) ?_
      repeat walk_at "W"
      walk_at "A"
      repeat walk_at "W"
      rw [farB]
      refine l_I (cmulF d0 d1 far) ?_
      repeat walk_at "W"
      refine l_I (cmul2 d0 d1) (l_I md ?_)
      repeat walk_at "W"
      refine wt_val ?_
      refine we_isi (fun _ => T.isinstance) ?_
      repeat walk_at "W"
      refine we_bltn (fun _ => T.int) (by decide +kernel) (v := .ty "int") rfl ?_
      refine ⟨_, _, true, rfl, .base (.int m), by decide +kernel, ?_⟩
      repeat walk_at "W"
      refine wt_val ?_
      refine we_isi (fun _ => T.isinstance) ?_
      repeat walk_at "W"
      refine we_bltn (fun _ => T.bool) (by decide +kernel) (v := .ty "bool") rfl ?_
      refine ⟨_, _, false, rfl, .base (.int m), by decide +kernel, ?_⟩
      repeat walk_at "W"
      exact Br.f (decide_eq_false nm) (wb_nil q)
    cases p with
    | fetch far t =>
      refine start far _ _ hA ?_
      refine wb_cons ?_
      repeat walk_at "W"
      walk_at "A"
      repeat walk_at "W"
      refine l_I (cmul2 d0 d1) ?_
      repeat walk_at "W"
      refine Br.f (decide_eq_false (by have := hn.1; omega)) ?_
      repeat walk_at "W"
      refine we_dget1 hu ?_
      walk_at "Q"
      refine ⟨D', rfl, (hT.same sm).isD, ?_⟩
      repeat walk_at "W"
      refine ⟨_, (hT.same sm).get _, ?_⟩
      walk_at "A"
      rw [hn.2]
      repeat walk_at "W"
      refine Br.f (ne_self t) (wb_nil ?_)
      refine wb_cons ?_
      repeat walk_at "W"
      walk_at "A"
      repeat walk_at "W"
      walk_at "A"
      repeat walk_at "W"
      refine we_call GF hr ?_
      repeat walk_at "W"
      exact ⟨a, r, D, A, d, m, S, _, rfl, hA, hok, hS, d0, d1, m0, hF, k⟩
    | walk far st =>
      have g6 := hok.2
      have gp : 0 < Nat.gcd st.natAbs (2 * d).toNat := Nat.gcd_pos_of_pos_right _ (by omega)
      have gl : Nat.gcd st.natAbs (2 * d).toNat ≤ 6 := Nat.le_trans (Nat.gcd_le_left _ (by have := hok.1; omega)) g6
      refine start far _ _ hA ?_
      refine wb_cons ?_
      repeat walk_at "W"
      walk_at "A"
      repeat walk_at "W"
      walk_at "A"
      repeat walk_at "W"
      refine ws_set 6 ?_ hN
      repeat walk_at "W"
      refine l_I (cmul2 d0 d1) ?_
      refine we_call GC hr ?_
      refine wa_cons ?_
      refine we_max (fun _ => T.max) ?_
      repeat walk_at "W"
      walk_at "A"
      repeat walk_at "W"
      walk_at "A"
      repeat walk_at "W"
      refine l_I (cmul2 d0 d1) ?_
      refine wa_nil ⟨st.natAbs, (2 * d).toNat, ?_, ?_⟩
      · have e1 : max st (-st) = (st.natAbs : Int) := by omega
        have e2 : ((2 * d).toNat : Int) = 2 * d := by omega
        rw [e1, e2]
        rfl
      · refine l_I (wide_div (b := 3) (by omega) (by omega) (by decide) (by decide)) ?_
        refine wb_one ?_
        repeat walk_at "W"
        refine wt_dnotin hu ?_
        repeat walk_at "W"
        walk_at "P"
        refine ⟨D, _, rfl, (hS.same sm).get _, ?_⟩
        rw [Option.isSome_map, hn.1]
        repeat walk_at "W"
        refine Br.f (decide_eq_false (by have := hn.2; omega)) (wb_nil ?_)
        refine wb_cons ?_
        repeat walk_at "W"
        walk_at "A"
        repeat walk_at "W"
        refine we_call GF hr ?_
        repeat walk_at "W"
        exact ⟨a, r, D, A, d, m, S, _, rfl, hA, hok, hS, d0, d1, m0, hF, k⟩
    | hang far t =>
      refine start far _ _ hA ?_
      refine wb_cons ?_
      repeat walk_at "W"
      walk_at "A"
      repeat walk_at "W"
      walk_at "A"
      repeat walk_at "W"
      walk_at "A"
      repeat walk_at "W"
      refine wt_val ?_
      refine we_call GH hr ?_
      repeat walk_at "W"
      walk_at "A"
      refine wa_nil ⟨r, D, A, d, S, t, rfl, hS, fun H1 sm => ?_⟩
      rw [hn.1]
      repeat walk_at "W"
      refine wt_din hu ?_
      repeat walk_at "W"
      walk_at "P"
      refine ⟨D, _, rfl, (hS.same sm).get _, ?_⟩
      rw [Option.isSome_map, hn.2.1]
      repeat walk_at "W"
      refine we_dget1 hu ?_
      walk_at "Q"
      refine ⟨D', rfl, (hT.same sm).isD, ?_⟩
      repeat walk_at "W"
      refine ⟨_, (hT.same sm).get _, ?_⟩
      walk_at "A"
      rw [hn.2.2.1]
      repeat walk_at "W"
      refine Br.f (ne_self t) ?_
      repeat walk_at "W"
      refine we_lenD (fun _ => T.len) ?_
      walk_at "P"
      refine ⟨D, _, rfl, (hS.same sm).dic, ?_⟩
      rw [dA_len, hS.of.len]
      repeat walk_at "W"
      refine Br.f (decide_eq_false (by have := hn.2.2.2; omega)) (wb_nil ?_)
      refine wb_one ?_
      repeat walk_at "W"
      refine we_call GF hr ?_
      repeat walk_at "W"
      exact ⟨a, r, D, A, d, m, S, _, rfl, sm _ _ hA, hok, hS.same sm, d0, d1, m0, hF, fun H2 sm2 => k _ (sm.trans sm2)⟩
    | pull n => exact hn.elim
    | peg far t => exact hn.elim
    | take far => exact hn.elim
    | look far => exact hn.elim
end
section
variable {ι : Type} {X : ι → Cx} {σ : L2.St} {H : Hp} {nx bk ct : L2.St → Hp → Prop} {rt : VK} {K : PySem.W.Frag}
/-- y = [x for x in a stand's dict if c] -/
theorem ws_keysF {x y : Str} {px py pys pos spos : Pos} {iter c : Expr} {scope : Scope} (jy j : Nat) (f : Int × Str → Bool) {D : Addr} {A : List (Int × Str)} (hN : ∀ i, (X i).N.Nodup) (ok : ∀ i, BlkOk (X i).N (X i).env.scope scope [(x, j)])
    (hD : H D = some (.dK (dA A))) (few : A.length ≤ 1000)
    (hi : ∀ od, WE X iter σ (upd H D (.frz od (.dK (dA A)))) fun x H1 => x = .ref D ∧ H1 = upd H D (.frz od (.dK (dA A))))
    (hc : ∀ od q H', q ∈ A → Same (upd H D (.frz od (.dK (dA A)))) H' → WT (blkF X scope) c ((wipe σ [j]).set j (some (.int q.1))) H' fun b H'' => b = f q ∧ Same H' H'')
    (he : ∀ (q : Int × Str) (H' : Hp), WE (blkF X scope) (.Name x px) ((wipe σ [j]).set j (some (.int q.1))) H' fun y H2 => y = .int q.1 ∧ H2 = H')
    (hg : ∀ (v : V) (H' : Hp) (Q' : L2.St → Hp → Prop), Q' ((wipe σ [j]).set j (some v)) H' → WG (blkF X scope) (.Name x py) v (wipe σ [j]) H' Q')
    (k : ∀ l H', Same H H' → H' l = some (.lst ((A.filter f).map fun q => .int q.1)) → nx (σ.set jy (some (.ref l))) H')
    (hw : ∀ v : V, wipe ((wipe σ [j]).set j (some v)) [j] = wipe σ [j] := by intro _; rfl)
    (hcm : ∀ i, (X i).calm = true := by intro _; rfl) (hy : ∀ i, (X i).N[jy]? = some y := by intro _; rfl) (hyl : ∀ i, (X i).env.scope.names.lookup y = some .local := by intro _; rfl)
    (hsw : ∀ i, swapsWith (.ListComp (.Name x px) [⟨.Name x py, iter, [c], 0⟩] scope pos) (some (.Name y pys)) spos.line (X i).env = pure true := by intro _; exact sw_true rfl rfl rfl (by decide +kernel))
    (hs : ∀ i x, foldedSetIterable iter (X i).env x = pure x := by intro _ _; rfl) : WS X (.Assign [.Name y pys] (.ListComp (.Name x px) [⟨.Name x py, iter, [c], 0⟩] scope pos) spos) nx rt bk ct σ H := by
  refine ws_lock hD fun od => ?_
  refine ws_setLc jy [(x, j)] hN ok ?_ hcm hy hyl hsw hs
  refine wi_keys ((hi od).mono ?_)
  rintro v H1 ⟨rfl, rfl⟩
  refine ⟨D, od, dA A, rfl, upd_same, fun L hL => ?_⟩
  refine ⟨A.length, fun i acc H' => acc = ((A.take i).filter f).map (fun q => V.int q.1) ∧ Same (upd H D (.frz od (.dK (dA A)))) H' ∧ H' L = some (.lst acc), ⟨rfl, Same.new hL, upd_same⟩, ?_, ?_⟩
  · rintro i acc H1 hlt ⟨rfl, sm, hL1⟩
    refine ⟨⟨same_in sm, by rw [dA_len]; exact hlt⟩, ?_⟩
    rintro y H2 ⟨rfl, kk, v, ek, rfl⟩
    obtain ⟨q, eq⟩ : ∃ q, A[i]? = some q := ⟨_, List.getElem?_eq_getElem hlt⟩
    rw [dA_get eq] at ek
    cases ek
    refine hg _ _ _ ⟨hw _, wts_one ((hc od q H2 (List.mem_of_getElem? eq) sm).mono ?_)⟩
    rintro b H3 ⟨rfl, sm3⟩
    have tk : A.take (i + 1) = A.take i ++ [q] := by rw [List.take_add_one, eq]; rfl
    have al : (((A.take i).filter f).map (fun q => V.int q.1)).length ≤ 1000 := by
      rw [List.length_map]
      refine Nat.le_trans (List.length_filter_le _ _) ?_
      rw [List.length_take]
      omega
    refine Br.mk (fun e => ?_) (fun e => ?_)
    · refine (he q H3).mono ?_
      rintro y H4 ⟨rfl, rfl⟩
      refine ⟨sm3 _ _ hL1, small1000 al, ?_, ?_, upd_same⟩
      · rw [tk, List.filter_append, List.map_append, List.filter_cons, if_pos e]
        rfl
      · intro b u z
        rw [upd_ne (ne_of_none z hL)]
        exact sm3 _ _ (sm b u z)
    · refine ⟨?_, sm.trans sm3, sm3 _ _ hL1⟩
      rw [tk, List.filter_append, List.map_append, List.filter_cons, if_neg (by rw [e]; decide)]
      simp
  · rintro acc H1 ⟨rfl, sm, hL1⟩
    refine ⟨⟨same_in sm, by rw [dA_len]; exact Nat.le_refl _⟩, same_in sm, ?_⟩
    rw [List.take_length] at hL1
    have nL : L ≠ D := fun z => by rw [z, upd_same] at hL; cases hL
    exact k L _ (same_unlock hD sm) (by rw [upd_ne nL]; exact hL1)
end
theorem dec_opt (o : Option Str) (t : Str) : decide (optV o = V.str t) = decide (o = some t) := by
  exact decide_eq_decide.mpr ⟨fun z => optV_inj (b := some t) z, fun z => by rw [z]; rfl⟩
/-- not as it stood -/
def chg (S : LS) (q : Int × Str) : Bool := !decide (nameAt S.hung q.1 = some q.2)
def ChOk (A A' : List (Int × Str)) (S S' : LS) (told : V) : PDeed → Prop
  | .peg _ t => A.filter (chg S') = [] ∧ ∃ q, A'.filter (chg S) = [(q, t)]
  | .hang _ t => A.filter (chg S') = [] ∧ ∃ q, A'.filter (chg S) = [(q, t)]
  | .take _ => A'.filter (chg S) = [] ∧ ∃ q t, A.filter (chg S') = [(q, t)] ∧ told = .str t
  | _ => A.filter (chg S') = [] ∧ A'.filter (chg S) = []
theorem ints_flat (l : List (Int × Str)) : (l.map fun q => V.int q.1).all okFlat = true := by
  rw [List.all_eq_true]
  intro v hv
  obtain ⟨q, _, rfl⟩ := List.mem_map.mp hv
  rfl
section
variable {P : Program} {w : World} {K : PySem.W.Frag} {mg : Str → Option Value} {base : Heap} {CW CL : Addr}
/-! ### _law_changed_things -/
abbrev sChg : Stmt := top 39
def spChg : Sp := fun vs H Q _ => ∃ (a r D r' D' : Addr) (told : V) (A A' : List (Int × Str)) (d : Int) (S S' : LS) (p : PDeed), vs = [.ref a, told, .ref r, .ref r'] ∧ H a = some (.tup p.tup) ∧ StandAt H r D A d S ∧ StandAt H r' D' A' d S' ∧ D ≠ D' ∧
  ChOk A A' S S' told p ∧ ∀ H', Same H H' → Q (.bl true) H'
theorem scChg : FnScope ["_law_deed_here", "_law_told", "_law_ahead", "_law_behind", "_law_place", "_law_gone", "_law_more"] ["_law_deed_here", "_law_told", "_law_ahead", "_law_behind"] (defScope sChg) := ⟨rfl, rfl, rfl, by decide +kernel, rfl, by decide +kernel, by decide +kernel⟩
theorem ok_chg {f : Addr} {fdt : FuncData} (F : Fun K "_law_changed_things" "_law_changed_things" sChg f fdt) (T : Txt K mg CW CL) : FnOk P w K mg base CX0 1 f fdt ["_law_deed_here", "_law_told", "_law_ahead", "_law_behind"] spChg := by
  refine fun_w F scChg (fun vs H Q E h => ?_) (fun cdv A0 outer s H vs Q E hr hN h => ?_)
  · obtain ⟨a, r, D, r', D', told, A, A', d, S, S', p, rfl, _⟩ := h
    rfl
  · obtain ⟨a, r, D, r', D', told, A, A', d, S, S', p, rfl, hA, hS, hT, nDD, hC, k⟩ := h
    have hu := roomF hr
    have nrD' : r ≠ D' := ne_of hS.tup hT.dic (by intro z; cases z)
    have nr'D : r' ≠ D := ne_of hT.tup hS.dic (by intro z; cases z)
    refine wb_cons ?_
    refine ws_keysF 5 4 (chg S') hN (fun _ => blkOk_by (N := ["_law_deed_here", "_law_told", "_law_ahead", "_law_behind", "_law_place", "_law_gone", "_law_more"]) (sc := defScope sChg) (by decide +kernel)) hS.dic hS.few (fun od => ?_) (fun od q H1 hq sm => ?_) (fun q H' => we_var 4 ⟨rfl, rfl⟩) (fun v H' Q' z => wg_name 4 z (fun i => hN i.1)) (fun l H1 sm1 hl => ?_)
    · refine we_ixT ?_
      repeat walk_at "W"
      exact ⟨_, _, _, _, rfl, rfl, SqT.of (by rw [upd_ne hS.ne]; exact hS.tup), rfl, rfl, rfl⟩
    · have hTl : StandAt H1 r' D' A' d S' := ⟨sm _ _ (by rw [upd_ne nr'D]; exact hT.tup), sm _ _ (by rw [upd_ne nDD.symm]; exact hT.dic), hT.of, hT.good, hT.few⟩
      refine wt_ne ?_
      refine we_dget1 (fun i => hu i.1) ?_
      refine we_ixT ?_
      repeat walk_at "W"
      refine ⟨_, _, _, _, rfl, rfl, SqT.of hTl.tup, rfl, ?_⟩
      refine ⟨D', rfl, hTl.isD, ?_⟩
      repeat walk_at "W"
      refine ⟨_, hTl.get _, ?_⟩
      refine we_dget (fun i => hu i.1) ?_
      refine we_ixT ?_
      repeat walk_at "W"
      refine ⟨_, _, _, _, rfl, rfl, SqT.of (sm _ _ (by rw [upd_ne hS.ne]; exact hS.tup)), rfl, ?_⟩
      repeat walk_at "W"
      have g := dget_lock hS (same_in sm) q.1
      rw [nameAt_of hS.good.places ((hS.of.mem q.1 q.2).mp hq)] at g
      refine ⟨D, _, rfl, g, ?_⟩
      rw [optV_get]
      refine l_ne ?_ (scal_opt _ (some q.2))
      refine ⟨_, rfl, ?_, Same.refl _⟩
      exact congrArg _ (dec_opt _ _)
    have hS1 := hS.same sm1
    have hT1 := hT.same sm1
    refine wb_cons ?_
    refine ws_keysF 6 4 (chg S) hN (fun _ => blkOk_by (N := ["_law_deed_here", "_law_told", "_law_ahead", "_law_behind", "_law_place", "_law_gone", "_law_more"]) (sc := defScope sChg) (by decide +kernel)) hT1.dic hT1.few (fun od => ?_) (fun od q H2 hq sm => ?_) (fun q H' => we_var 4 ⟨rfl, rfl⟩) (fun v H' Q' z => wg_name 4 z (fun i => hN i.1)) (fun l2 H2 sm2 hl2 => ?_)
    · refine we_ixT ?_
      repeat walk_at "W"
      exact ⟨_, _, _, _, rfl, rfl, SqT.of (by rw [upd_ne hT1.ne]; exact hT1.tup), rfl, rfl, rfl⟩
    · have hSl : StandAt H2 r D A d S := ⟨sm _ _ (by rw [upd_ne nrD']; exact hS1.tup), sm _ _ (by rw [upd_ne nDD]; exact hS1.dic), hS.of, hS.good, hS.few⟩
      refine wt_ne ?_
      refine we_dget1 (fun i => hu i.1) ?_
      refine we_ixT ?_
      repeat walk_at "W"
      refine ⟨_, _, _, _, rfl, rfl, SqT.of hSl.tup, rfl, ?_⟩
      refine ⟨D, rfl, hSl.isD, ?_⟩
      repeat walk_at "W"
      refine ⟨_, hSl.get _, ?_⟩
      refine we_dget (fun i => hu i.1) ?_
      refine we_ixT ?_
      repeat walk_at "W"
      refine ⟨_, _, _, _, rfl, rfl, SqT.of (sm _ _ (by rw [upd_ne hT1.ne]; exact hT1.tup)), rfl, ?_⟩
      repeat walk_at "W"
      have g := dget_lock hT1 (same_in sm) q.1
      rw [nameAt_of hT.good.places ((hT.of.mem q.1 q.2).mp hq)] at g
      refine ⟨D', _, rfl, g, ?_⟩
      rw [optV_get]
      refine l_ne ?_ (scal_opt _ (some q.2))
      refine ⟨_, rfl, ?_, Same.refl _⟩
      exact congrArg _ (dec_opt _ _)
    have sm0 := sm1.trans sm2
    have hl := sm2 _ _ hl
    have hA := sm0 _ _ hA
    have hS := hS.same sm0
    have hT := hT.same sm0
    have sm : Same H2 H2 := Same.refl H2
    refine wb_cons ?_
    cases p with
    | peg far t =>
      obtain ⟨hg, q, hm⟩ := hC
      repeat walk_at "W"
      walk_at "I"
      repeat walk_at "W"
      walk_at "G"
      repeat walk_at "W"
      walk_at "N"
      repeat walk_at "W"
      refine we_dget hu ?_
      walk_at "Q"
      refine we_ixL ?_
      repeat walk_at "W"
      refine ⟨l2, _, _, _, rfl, rfl, SqL.of (sm _ _ hl2), by rw [hm]; rfl, ?_⟩
      have g := (hT.same sm).get q
      rw [nameAt_of hT.good.places ((hT.of.mem q t).mp (List.mem_filter.mp (by rw [hm]; exact List.mem_singleton.mpr rfl : (q, t) ∈ A'.filter (chg S))).1)] at g
      refine ⟨D', _, rfl, g, ?_⟩
      walk_at "A"
      refine l_eq ?_
      rw [decide_eq_true (rfl : V.str t = V.str t)]
      exact k _ (sm0.trans sm)
    | hang far t =>
      obtain ⟨hg, q, hm⟩ := hC
      repeat walk_at "W"
      walk_at "I"
      repeat walk_at "W"
      walk_at "G"
      repeat walk_at "W"
      walk_at "N"
      repeat walk_at "W"
      refine we_dget hu ?_
      walk_at "Q"
      refine we_ixL ?_
      repeat walk_at "W"
      refine ⟨l2, _, _, _, rfl, rfl, SqL.of (sm _ _ hl2), by rw [hm]; rfl, ?_⟩
      have g := (hT.same sm).get q
      rw [nameAt_of hT.good.places ((hT.of.mem q t).mp (List.mem_filter.mp (by rw [hm]; exact List.mem_singleton.mpr rfl : (q, t) ∈ A'.filter (chg S))).1)] at g
      refine ⟨D', _, rfl, g, ?_⟩
      walk_at "A"
      refine l_eq ?_
      rw [decide_eq_true (rfl : V.str t = V.str t)]
      exact k _ (sm0.trans sm)
    | take far =>
      obtain ⟨hm, q, t, hg, rfl⟩ := hC
      repeat walk_at "W"
      walk_at "I"
      repeat walk_at "W"
      walk_at "A"
      repeat walk_at "W"
      walk_at "R"
      repeat walk_at "W"
      refine we_len (fun _ => T.len) ?_
      repeat walk_at "W"
      refine ⟨l, _, rfl, .inl (SqL.of (sm _ _ hl)), ?_⟩
      rw [hg]
      repeat walk_at "W"
      refine we_dget hu ?_
      walk_at "P"
      refine we_ixL ?_
      repeat walk_at "W"
      refine ⟨l, _, _, _, rfl, rfl, SqL.of (sm _ _ hl), by rw [hg]; rfl, ?_⟩
      have g := (hS.same sm).get q
      rw [nameAt_of hS.good.places ((hS.of.mem q t).mp (List.mem_filter.mp (by rw [hg]; exact List.mem_singleton.mpr rfl : (q, t) ∈ A.filter (chg S'))).1)] at g
      refine ⟨D, _, rfl, g, ?_⟩
      repeat walk_at "W"
      rw [decide_eq_true (rfl : V.str t = V.str t)]
      exact k _ (sm0.trans sm)
    | pull n =>
      obtain ⟨hg, hm⟩ := hC
      walk_at "E"
    | fetch far t =>
      obtain ⟨hg, hm⟩ := hC
      walk_at "E"
    | walk far st =>
      obtain ⟨hg, hm⟩ := hC
      walk_at "E"
    | look far =>
      obtain ⟨hg, hm⟩ := hC
      walk_at "E"
end
end Rn
/-! The law's checks: fits, right. -/
namespace Rn
open PySem L2 StX

theorem ne_int {i j : Int} (h : i = j) : (!decide (V.int i = V.int j)) = false := by
  subst h
  rw [decide_eq_true (rfl : V.int i = V.int i)]
  rfl
/-- nothing was done, as it should be -/
def Refuse (d : Int) (S : LS) (told : V) : PDeed → Prop
  | .peg far t => told = .bl false ∧ ((nameAt S.hung (bs d S far % (2 * d))).isSome = true ∨ (at1 S.hung t).isSome = true)
  | .hang far t => told = .non ∧ ((at1 S.hung t).isSome = true ∨ ¬ (S.hung.length : Int) < 2 * d)
  | .fetch far t => told = .non ∧ at1 S.hung t = none
  | .walk far s => told = .non ∧ FirstOk d S 60 (.walk far s)
  | .take far => told = .non ∧ nameAt S.hung (bs d S far % (2 * d)) = none
  | .look far => told = .non ∧ nameAt S.hung (bs d S far % (2 * d)) = none
  | .pull _ => False
/-- it was done, as it should be -/
def Done (d : Int) (S S' : LS) (told : V) : PDeed → Prop
  | .pull n => told = .bl true
  | .peg far t => told = .bl true ∧ nameAt S.hung (bs d S far % (2 * d)) = none ∧ at1 S.hung t = none ∧ nameAt S'.hung (bs d S far % (2 * d)) = some t
  | .take far => ∃ t, told = .str t ∧ nameAt S.hung (bs d S far % (2 * d)) = some t
  | .look far => ∃ t, told = .str t ∧ nameAt S.hung (bs d S far % (2 * d)) = some t
  | p => ∃ m : Int, told = .int m ∧ 0 ≤ m ∧ NumOk d S S' m p ∧ FirstOk d S m p
structure DoneAll (d : Int) (S S' : LS) (told : V) (A A' : List (Int × Str)) (p : PDeed) : Prop where
  dn : Done d S S' told p
  num : Num told p
  st : S'.stand = (S.stand + turned told p) % (2 * d)
  ln : S'.lengths = S.lengths + max (turned told p) (-turned told p)
  ch : ChOk A A' S S' told p
section
variable {P : Program} {w : World} {K : PySem.W.Frag} {mg : Str → Option Value} {base : Heap} {CW CL : Addr}
/-! ### _law_fits -/
abbrev sFits : Stmt := top 40
def FitsAt (d : Int) (S S' : LS) (told : V) (A A' : List (Int × Str)) (p : PDeed) : Prop := (Refuse d S told p ∧ S = S') ∨ DoneAll d S S' told A A' p
def spFits : Sp := fun vs H Q _ => ∃ (a r D r' D' : Addr) (told : V) (A A' : List (Int × Str)) (d : Int) (S S' : LS) (p : PDeed), vs = [.ref a, told, .ref r, .ref r', .int d] ∧ H a = some (.tup p.tup) ∧ p.ok ∧ StandAt H r D A d S ∧ StandAt H r' D' A' d S' ∧ D ≠ D' ∧ 0 < d ∧ d ≤ 10 ^ 50 ∧
  FitsAt d S S' told A A' p ∧ ∀ H', Same H H' → Q (.bl true) H'
abbrev NFits : List Str := ["_law_deed_here", "_law_told", "_law_ahead", "_law_behind", "_law_size", "_law_here", "_law_hangs_here", "_law_refused", "_law_turned_here"]
theorem scFits : FnScope ["_law_deed_here", "_law_told", "_law_ahead", "_law_behind", "_law_size", "_law_here", "_law_hangs_here", "_law_refused", "_law_turned_here"] ["_law_deed_here", "_law_told", "_law_ahead", "_law_behind", "_law_size"] (defScope sFits) := ⟨rfl, rfl, rfl, by decide +kernel, rfl, by decide +kernel, by decide +kernel⟩
theorem ok_fits {f : Addr} {fdt : FuncData} (F : Fun K "_law_fits" "_law_fits" sFits f fdt) (T : Txt K mg CW CL) (GS : Cal P w K mg base "_law_same" 1 spSame) (GH : Cal P w K mg base "_law_hangs" 1 spLHangs) (GF : Cal P w K mg base "_law_is_first" 1 spFirst) (GN : Cal P w K mg base "_law_number_fits" 2 spNum)
    (GTu : Cal P w K mg base "_law_turned" 1 spTurned) (GC : Cal P w K mg base "_law_changed_things" 1 spChg) : FnOk P w K mg base CX0 3 f fdt ["_law_deed_here", "_law_told", "_law_ahead", "_law_behind", "_law_size"] spFits := by
  refine fun_w F scFits (fun vs H Q E h => ?_) (fun cdv A0 outer s H vs Q E hr hN h => ?_)
  · obtain ⟨a, r, D, r', D', told, A, A', d, S, S', p, rfl, _⟩ := h
    rfl
  · obtain ⟨a, r, D, r', D', told, A, A', d, S, S', p, rfl, hA, hok, hS, hT, nDD, d0, d1, hFit, k⟩ := h
    have hu := roomF hr
    have sm : Same H H := Same.refl H
    have md : (0 : Int) < 2 * d := by omega
    rcases hFit with ⟨hR, rfl⟩ | ⟨hD, hnum, hst, hln, hCh⟩
    · cases p with
      | peg far t =>
        obtain ⟨rfl, ho⟩ := hR
        walk_at "H"
        repeat walk_at "W"
        walk_at "I"
        repeat walk_at "W"
        refine wt_isB ?_
        repeat walk_at "W"
        refine ⟨rfl, ?_⟩
        repeat walk_at "W"
        refine ws_set 7 ?_ hN
        repeat walk_at "W"
        walk_at "J"
        repeat walk_at "W"
        refine we_isB ?_
        repeat walk_at "W"
        refine ⟨rfl, ?_⟩
        walk_at "K"
        walk_at "K"
        repeat walk_at "W"
        cases eo : nameAt S.hung (bs d S far % (2 * d)) with
        | some u =>
          repeat walk_at "W"
          walk_at "A"
          walk_at "K"
          walk_at "K"
          walk_at "Z"
          exact k _ sm
        | none =>
          rw [eo] at ho
          have ho : (at1 S.hung t).isSome = true := ho.resolve_left (fun z => by cases z)
          repeat walk_at "W"
          walk_at "HC"
          rw [ho]
          walk_at "K"
          walk_at "K"
          walk_at "K"
          walk_at "Z"
          exact k _ sm
      | hang far t =>
        obtain ⟨rfl, ho⟩ := hR
        walk_at "H"
        repeat walk_at "W"
        walk_at "I"
        repeat walk_at "W"
        refine ws_set 7 ?_ hN
        repeat walk_at "W"
        walk_at "J"
        repeat walk_at "W"
        refine we_isB ?_
        repeat walk_at "W"
        refine ⟨rfl, ?_⟩
        walk_at "K"
        walk_at "K"
        repeat walk_at "W"
        walk_at "HC"
        cases eo : (at1 S.hung t).isSome with
        | true =>
          walk_at "K"
          walk_at "K"
          walk_at "Z"
          walk_at "J"
          repeat walk_at "W"
          exact k _ sm
        | false =>
          rw [eo] at ho
          have ho := ho.resolve_left (fun z => by cases z)
          repeat walk_at "W"
          refine we_lenD (fun _ => T.len) ?_
          walk_at "P"
          refine ⟨D, _, rfl, (hS.same sm).dic, ?_⟩
          rw [dA_len, hS.of.len]
          repeat walk_at "W"
          refine l_I (cmul2 d0 d1) ?_
          repeat walk_at "W"
          refine Br.f (decide_eq_false ho) (wb_nil ?_)
          refine wb_cons ?_
          walk_at "K"
          walk_at "K"
          walk_at "Z"
          walk_at "J"
          repeat walk_at "W"
          exact k _ sm
      | fetch far t =>
        obtain ⟨rfl, ho⟩ := hR
        walk_at "H"
        repeat walk_at "W"
        walk_at "I"
        repeat walk_at "W"
        refine ws_set 7 ?_ hN
        repeat walk_at "W"
        walk_at "J"
        repeat walk_at "W"
        refine we_isB ?_
        repeat walk_at "W"
        refine ⟨rfl, ?_⟩
        walk_at "K"
        walk_at "K"
        walk_at "K"
        repeat walk_at "W"
        walk_at "HC"
        rw [ho]
        walk_at "K"
        walk_at "Z"
        walk_at "J"
        repeat walk_at "W"
        exact k _ sm
      | walk far st =>
        obtain ⟨rfl, ho⟩ := hR
        walk_at "H"
        repeat walk_at "W"
        walk_at "I"
        repeat walk_at "W"
        refine ws_set 7 ?_ hN
        repeat walk_at "W"
        walk_at "J"
        repeat walk_at "W"
        refine we_isB ?_
        repeat walk_at "W"
        refine ⟨rfl, ?_⟩
        walk_at "K"
        walk_at "K"
        walk_at "K"
        walk_at "K"
        repeat walk_at "W"
        refine wt_val ?_
        refine we_call GF hr ?_
        repeat walk_at "W"
        refine ⟨a, r, D, A, d, 60, S, _, rfl, sm _ _ hA, hok, hS.same sm, d0, d1, by decide, ho, fun Hc smc => ?_⟩
        replace sm := sm.trans smc
        clear smc
        walk_at "Z"
        walk_at "J"
        repeat walk_at "W"
        exact k _ sm
      | take far =>
        obtain ⟨rfl, ho⟩ := hR
        walk_at "H"
        rw [ho]
        repeat walk_at "W"
        walk_at "I"
        repeat walk_at "W"
        refine wt_val ?_
        refine we_call GS hr ?_
        repeat walk_at "W"
        refine ⟨none, rfl, fun Hc smc => ?_⟩
        replace sm := sm.trans smc
        clear smc
        repeat walk_at "W"
        refine ws_set 7 ?_ hN
        repeat walk_at "W"
        walk_at "J"
        walk_at "K"
        walk_at "K"
        walk_at "K"
        walk_at "K"
        walk_at "Z"
        exact k _ sm
      | look far =>
        obtain ⟨rfl, ho⟩ := hR
        walk_at "H"
        rw [ho]
        repeat walk_at "W"
        walk_at "I"
        repeat walk_at "W"
        refine wt_val ?_
        refine we_call GS hr ?_
        repeat walk_at "W"
        refine ⟨none, rfl, fun Hc smc => ?_⟩
        replace sm := sm.trans smc
        clear smc
        repeat walk_at "W"
        refine ws_set 7 ?_ hN
        repeat walk_at "W"
        walk_at "J"
        walk_at "K"
        walk_at "K"
        walk_at "K"
        walk_at "K"
        walk_at "Z"
        exact k _ sm
      | pull n => exact hR.elim
    · cases p with
      | pull n =>
        obtain rfl := (show told = .bl true from hD)
        refine wb_cons (ws_set 5 ?_ hN)
        repeat walk_at "W"
        refine we_intc (fun _ => T.int) ?_
        repeat walk_at "W"
        walk_at "P"
        repeat walk_at "W"
        refine we_intb (fun _ => T.int) ?_
        repeat walk_at "W"
        walk_at "A"
        repeat walk_at "W"
        refine l_I (cmulF d0 d1 false) ?_
        repeat walk_at "W"
        refine l_I (cmul2 d0 d1) (l_I md ?_)
        refine wb_cons (ws_set 6 ?_ hN)
        refine we_dget1 hu ?_
        walk_at "P"
        refine ⟨D, rfl, (hS.same sm).isD, ?_⟩
        repeat walk_at "W"
        refine ⟨_, (hS.same sm).get _, ?_⟩
        refine wb_cons ?_
        repeat walk_at "W"
        walk_at "I"
        repeat walk_at "W"
        refine wt_isB ?_
        repeat walk_at "W"
        refine ⟨rfl, ?_⟩
        repeat walk_at "W"
        walk_at "I"
        repeat walk_at "W"
        walk_at "I"
        repeat walk_at "W"
        refine wt_notB ?_
        repeat walk_at "W"
        refine ⟨rfl, ?_⟩
        walk_at "K"
        walk_at "K"
        walk_at "T"
      | peg far t =>
        obtain ⟨rfl, h1, h2, h3⟩ := hD
        walk_at "H"
        rw [h1]
        repeat walk_at "W"
        walk_at "I"
        repeat walk_at "W"
        refine wt_isB ?_
        repeat walk_at "W"
        refine ⟨rfl, ?_⟩
        repeat walk_at "W"
        walk_at "I"
        repeat walk_at "W"
        walk_at "I"
        repeat walk_at "W"
        refine wt_notB ?_
        repeat walk_at "W"
        refine ⟨rfl, ?_⟩
        walk_at "K"
        repeat walk_at "W"
        walk_at "HC"
        rw [h2]
        walk_at "K"
        repeat walk_at "W"
        refine we_dget1 hu ?_
        walk_at "Q"
        refine ⟨D', rfl, (hT.same sm).isD, ?_⟩
        repeat walk_at "W"
        refine ⟨_, (hT.same sm).get _, ?_⟩
        walk_at "A"
        rw [h3]
        repeat walk_at "W"
        refine Br.f (ne_self t) (wb_nil ?_)
        refine wb_cons ?_
        walk_at "T"
      | take far =>
        obtain ⟨t, rfl, h1⟩ := hD
        walk_at "H"
        rw [h1]
        repeat walk_at "W"
        walk_at "I"
        repeat walk_at "W"
        refine wt_val ?_
        refine we_call GS hr ?_
        repeat walk_at "W"
        refine ⟨some t, rfl, fun Hc smc => ?_⟩
        replace sm := sm.trans smc
        clear smc
        repeat walk_at "W"
        refine wt_isB ?_
        repeat walk_at "W"
        refine ⟨rfl, ?_⟩
        repeat walk_at "W"
        walk_at "I"
        repeat walk_at "W"
        walk_at "I"
        walk_at "K"
        walk_at "K"
        walk_at "T"
      | look far =>
        obtain ⟨t, rfl, h1⟩ := hD
        walk_at "H"
        rw [h1]
        repeat walk_at "W"
        walk_at "I"
        repeat walk_at "W"
        refine wt_val ?_
        refine we_call GS hr ?_
        repeat walk_at "W"
        refine ⟨some t, rfl, fun Hc smc => ?_⟩
        replace sm := sm.trans smc
        clear smc
        repeat walk_at "W"
        refine wt_isB ?_
        repeat walk_at "W"
        refine ⟨rfl, ?_⟩
        repeat walk_at "W"
        walk_at "I"
        repeat walk_at "W"
        walk_at "I"
        walk_at "K"
        walk_at "K"
        walk_at "T"
      | hang far t =>
        obtain ⟨m, rfl, m0, hno, hfi⟩ := hD
        walk_at "H"
        walk_at "U"
      | fetch far t =>
        obtain ⟨m, rfl, m0, hno, hfi⟩ := hD
        walk_at "H"
        walk_at "U"
      | walk far st =>
        obtain ⟨m, rfl, m0, hno, hfi⟩ := hD
        walk_at "H"
        walk_at "U"
end
end Rn
/-! The law's checks: right. -/
namespace Rn
open PySem L2 StX

def RightAt (d : Int) (S S' : LS) (told : V) (A A' : List (Int × Str)) : Deed → Prop
  | .plain p => FitsAt d S S' told A A' p
  | .when far o p => (nameAt S.hung (bs d S far % (2 * d)) = o ∧ FitsAt d S S' told A A' p) ∨ (¬ nameAt S.hung (bs d S far % (2 * d)) = o ∧ told = .str "no" ∧ S = S')
section
variable {P : Program} {w : World} {K : PySem.W.Frag} {mg : Str → Option Value} {base : Heap} {CW CL : Addr}
abbrev sRight : Stmt := top 41
def spRight : Sp := fun vs H Q _ => ∃ (a r D r' D' : Addr) (told : V) (A A' : List (Int × Str)) (d : Int) (S S' : LS) (e : Deed), vs = [.ref a, told, .ref r, .ref r', .int d] ∧ DeedAt H a e ∧ e.ok ∧ StandAt H r D A d S ∧ StandAt H r' D' A' d S' ∧ D ≠ D' ∧ 0 < d ∧ d ≤ 10 ^ 50 ∧
  RightAt d S S' told A A' e ∧ ∀ H', Same H H' → Q (.bl true) H'
theorem scRight : FnScope ["_law_deed_here", "_law_told", "_law_ahead", "_law_behind", "_law_size", "_law_here"] ["_law_deed_here", "_law_told", "_law_ahead", "_law_behind", "_law_size"] (defScope sRight) := ⟨rfl, rfl, rfl, by decide +kernel, rfl, by decide +kernel, by decide +kernel⟩
theorem ok_right {f : Addr} {fdt : FuncData} (F : Fun K "_law_right" "_law_right" sRight f fdt) (T : Txt K mg CW CL) (GS : Cal P w K mg base "_law_same" 1 spSame) (GX : Cal P w K mg base "_law_fits" 3 spFits) :
    FnOk P w K mg base CX0 4 f fdt ["_law_deed_here", "_law_told", "_law_ahead", "_law_behind", "_law_size"] spRight := by
  refine fun_w F scRight (fun vs H Q E h => ?_) (fun cdv A0 outer s H vs Q E hr hN h => ?_)
  · obtain ⟨a, r, D, r', D', told, A, A', d, S, S', e, rfl, _⟩ := h
    rfl
  · obtain ⟨a, r, D, r', D', told, A, A', d, S, S', e, rfl, hA, hok, hS, hT, nDD, d0, d1, hR, k⟩ := h
    have hu := roomF hr
    have sm : Same H H := Same.refl H
    have md : (0 : Int) < 2 * d := by omega
    cases e with
    | plain p =>
      have hA : H a = some (.tup p.tup) := hA
      have fin : spFits [.ref a, told, .ref r, .ref r', .int d] H Q E0 := ⟨a, r, D, r', D', told, A, A', d, S, S', p, rfl, hA, hok, hS, hT, nDD, d0, d1, hR, k⟩
      cases p with
      | pull n =>
        walk_at "K"
        repeat walk_at "W"
        refine we_call GX hr ?_
        repeat walk_at "W"
        exact fin
      | walk far st =>
        walk_at "K"
        repeat walk_at "W"
        refine we_call GX hr ?_
        repeat walk_at "W"
        exact fin
      | peg far t =>
        walk_at "K"
        repeat walk_at "W"
        refine we_call GX hr ?_
        repeat walk_at "W"
        exact fin
      | hang far t =>
        walk_at "K"
        repeat walk_at "W"
        refine we_call GX hr ?_
        repeat walk_at "W"
        exact fin
      | fetch far t =>
        walk_at "K"
        repeat walk_at "W"
        refine we_call GX hr ?_
        repeat walk_at "W"
        exact fin
      | take far =>
        walk_at "K"
        repeat walk_at "W"
        refine we_call GX hr ?_
        repeat walk_at "W"
        exact fin
      | look far =>
        walk_at "K"
        repeat walk_at "W"
        refine we_call GX hr ?_
        repeat walk_at "W"
        exact fin
    | when far o p =>
      obtain ⟨b, hA, hB⟩ := hA
      walk_at "K"
      repeat walk_at "W"
      refine ws_set 5 ?_ hN
      repeat walk_at "W"
      refine we_intc (fun _ => T.int) ?_
      repeat walk_at "W"
      walk_at "P"
      repeat walk_at "W"
      refine we_intb (fun _ => T.int) ?_
      repeat walk_at "W"
      walk_at "A"
      repeat walk_at "W"
      rw [farB]
      refine l_I (cmulF d0 d1 far) ?_
      repeat walk_at "W"
      rw [show (S.stand + d * if far = true then 1 else 0) = bs d S far from rfl]
      refine l_I (cmul2 d0 d1) (l_I md ?_)
      refine wb_cons ?_
      repeat walk_at "W"
      refine we_dget1 hu ?_
      walk_at "P"
      refine ⟨D, rfl, (hS.same sm).isD, ?_⟩
      repeat walk_at "W"
      refine ⟨_, (hS.same sm).get _, ?_⟩
      rw [optV_get]
      walk_at "A"
      refine l_eq ?_ (scal_opt _ o)
      refine l_bl ?_
      refine Br.mk (fun e => ?_) (fun e => ?_)
      · have eo : nameAt S.hung (bs d S far % (2 * d)) = o := optV_inj (of_decide_eq_true e)
        have hF := hR.elim (fun z => z.2) (fun z => absurd eo z.1)
        repeat walk_at "W"
        refine we_call GX hr ?_
        repeat walk_at "W"
        walk_at "A"
        repeat walk_at "W"
        exact ⟨b, r, D, r', D', told, A, A', d, S, S', p, rfl, hB, hok.1, hS, hT, nDD, d0, d1, hF, k⟩
      · have no : ¬ nameAt S.hung (bs d S far % (2 * d)) = o := fun z => by rw [z] at e; simp at e
        obtain ⟨_, rfl, rfl⟩ := hR.resolve_left (fun z => no z.1)
        repeat walk_at "W"
        refine we_call GS hr ?_
        repeat walk_at "W"
        refine ⟨some "no", rfl, fun Hc smc => ?_⟩
        replace sm := sm.trans smc
        clear smc
        walk_at "Z"
        exact k _ sm
end
end Rn
/-! The plain law: what was told fits. -/
namespace Rn
open PySem L2 StX

/-! ### numbers of steps -/
theorem dvd_mod {n x q : Int} (h : n ∣ x - q) (q0 : 0 ≤ q) (q1 : q < n) : x % n = q := by
  have e : x % n = q % n := Int.emod_eq_emod_iff_emod_sub_eq_zero.mpr (Int.emod_eq_zero_of_dvd h)
  rw [e, Int.emod_eq_of_lt q0 q1]
theorem mod_dvd {n x q : Int} (h : x % n = q) : n ∣ x - q := by
  rw [← h]
  exact Int.dvd_self_sub_emod
theorem mod_split (x n : Int) : ∃ c, x = x % n + c * n := ⟨x / n, by have := Int.emod_add_mul_ediv x n; rw [Int.mul_comm n] at this; omega⟩
/-- how far the first way is, as a multiple -/
theorem first_split {d sp q s : Int} (hs : s ≠ 0) : ∃ c : Int, first d sp q s = (if 0 < s then q - sp else -(q - sp)) - c * (2 * d) := by
  obtain ⟨c, hc⟩ := mod_split (if 0 < s then q - sp else -(q - sp)) (2 * d)
  exact ⟨c, by unfold first; omega⟩
theorem times_sound {d sp q s m : Int} (h : 0 < d) (hs : s ≠ 0) (q0 : 0 ≤ q) (q1 : q < 2 * d) (e : timesTo d sp q s = some m) : (sp + m * s) % (2 * d) = q := by
  obtain ⟨r, _, em, _⟩ := times_spec h hs e
  obtain ⟨c, hc⟩ := first_split (d := d) (sp := sp) (q := q) hs
  have e1 : (r : Int) * 2 * d = (r : Int) * (2 * d) := Int.mul_assoc _ _ _
  refine dvd_mod ?_ q0 q1
  by_cases hp : 0 < s
  · rw [if_pos hp] at hc
    have ea : (s.natAbs : Int) = s := by omega
    rw [ea] at em
    refine ⟨(r : Int) - c, ?_⟩
    rw [Int.mul_comm (2 * d), Int.sub_mul]
    omega
  · rw [if_neg hp] at hc
    have ea : (s.natAbs : Int) = -s := by omega
    rw [ea, Int.mul_neg] at em
    refine ⟨c - (r : Int), ?_⟩
    rw [Int.mul_comm (2 * d), Int.sub_mul]
    omega
theorem times_least {d sp q s : Int} {k : Int} (h : 0 < d) (hs : s ≠ 0) (k0 : 0 ≤ k) (e : (sp + k * s) % (2 * d) = q) : ∃ m, timesTo d sp q s = some m ∧ m ≤ k := by
  obtain ⟨b, hb⟩ := mod_dvd e
  obtain ⟨c, hc⟩ := first_split (d := d) (sp := sp) (q := q) hs
  obtain ⟨f0, f1⟩ := first_rng (d := d) (sp := sp) (pl := q) (s := s) h
  have a0 : (0 : Int) < (s.natAbs : Int) := by omega
  -- k steps are so many rounds
  obtain ⟨z, hz⟩ : ∃ z : Int, k * (s.natAbs : Int) = first d sp q s + z * (2 * d) := by
    rw [Int.mul_comm (2 * d)] at hb
    by_cases hp : 0 < s
    · rw [if_pos hp] at hc
      have ea : (s.natAbs : Int) = s := by omega
      refine ⟨b + c, ?_⟩
      rw [ea, Int.add_mul]
      omega
    · rw [if_neg hp] at hc
      have ea : (s.natAbs : Int) = -s := by omega
      refine ⟨c - b, ?_⟩
      rw [ea, Int.mul_neg, Int.sub_mul]
      omega
  have kz : 0 ≤ k * (s.natAbs : Int) := Int.mul_nonneg k0 (by omega)
  have z0 : 0 ≤ z := by
    refine Int.not_lt.mp fun zn => ?_
    have : z * (2 * d) ≤ (-1) * (2 * d) := Int.mul_le_mul_of_nonneg_right (by omega) (by omega)
    omega
  obtain ⟨zn, rfl⟩ := Int.eq_ofNat_of_zero_le z0
  have hr0 : zn % s.natAbs < s.natAbs := Nat.mod_lt _ (by omega)
  have ok : (first d sp q s + ((zn % s.natAbs : Nat) : Int) * 2 * d) % (s.natAbs : Int) = 0 := by
    have e1 : ((zn % s.natAbs : Nat) : Int) * 2 * d = ((zn % s.natAbs : Nat) : Int) * (2 * d) := Int.mul_assoc _ _ _
    have e2 : (zn : Int) = ((zn % s.natAbs : Nat) : Int) + (s.natAbs : Int) * ((zn / s.natAbs : Nat) : Int) := by
      have := Nat.mod_add_div zn s.natAbs
      exact_mod_cast this.symm
    refine Int.emod_eq_zero_of_dvd ⟨k - ((zn / s.natAbs : Nat) : Int) * (2 * d), ?_⟩
    rw [e1, Int.mul_sub, Int.mul_comm (s.natAbs : Int) k, hz, ← Int.mul_assoc (s.natAbs : Int)]
    have e3 : (zn : Int) * (2 * d) = ((zn % s.natAbs : Nat) : Int) * (2 * d) + (s.natAbs : Int) * ((zn / s.natAbs : Nat) : Int) * (2 * d) := by
      rw [← Int.add_mul, ← e2]
    omega
  have ex : ∃ m, timesTo d sp q s = some m := by
    unfold timesTo
    cases qf : (List.range s.natAbs).find? fun (r : Nat) => decide ((first d sp q s + (r : Int) * 2 * d) % (s.natAbs : Int) = 0) with
    | none =>
      rw [List.find?_eq_none] at qf
      exact absurd (decide_eq_true ok) (qf _ (List.mem_range.mpr hr0))
    | some r => exact ⟨_, rfl⟩
  obtain ⟨m, em⟩ := ex
  refine ⟨m, em, ?_⟩
  obtain ⟨r, _, em2, no⟩ := times_spec h hs em
  have hr : r ≤ zn := by
    refine Nat.le_trans ?_ (Nat.mod_le zn s.natAbs)
    refine Nat.not_lt.mp fun lt => no _ lt ok
  have e1 : (r : Int) * 2 * d = (r : Int) * (2 * d) := Int.mul_assoc _ _ _
  have le : (r : Int) * (2 * d) ≤ (zn : Int) * (2 * d) := Int.mul_le_mul_of_nonneg_right (by omega) (by omega)
  refine Int.le_of_mul_le_mul_right (a := (s.natAbs : Int)) ?_ a0
  have hz' : k * (s.natAbs : Int) = first d sp q s + (zn : Int) * (2 * d) := hz
  omega
theorem times_round {d sp q s m : Int} (h : 0 < d) (hs : s ≠ 0) (q0 : 0 ≤ q) (q1 : q < 2 * d) (e : timesTo d sp q s = some m) : m < 2 * d / (Nat.gcd s.natAbs (2 * d).toNat : Nat) := by
  have gn : (Nat.gcd s.natAbs (2 * d).toNat) ∣ (2 * d).toNat := Nat.gcd_dvd_right _ _
  have ga : (Nat.gcd s.natAbs (2 * d).toNat) ∣ s.natAbs := Nat.gcd_dvd_left _ _
  have gp : 0 < Nat.gcd s.natAbs (2 * d).toNat := Nat.gcd_pos_of_pos_left _ (by omega)
  generalize Nat.gcd s.natAbs (2 * d).toNat = g at gn ga gp ⊢
  have gn' : (g : Int) ∣ 2 * d := by
    have : (g : Int) ∣ ((2 * d).toNat : Int) := Int.natCast_dvd_natCast.mpr gn
    rwa [show ((2 * d).toNat : Int) = 2 * d from by omega] at this
  have gs : (g : Int) ∣ s := Int.ofNat_dvd_left.mpr ga
  obtain ⟨P, hP⟩ := gn'
  obtain ⟨t, ht⟩ := gs
  have eP : 2 * d / (g : Int) = P := by
    rw [hP]
    exact Int.mul_ediv_cancel_left P (by omega)
  rw [eP]
  have P0 : 0 < P := by
    refine Int.not_le.mp fun z => ?_
    have : (g : Int) * P ≤ 0 := Int.mul_nonpos_of_nonneg_of_nonpos (by omega) z
    omega
  refine Int.not_le.mp fun z => ?_
  have s1 := mod_dvd (times_sound h hs q0 q1 e)
  have s2 : (sp + (m - P) * s) % (2 * d) = q := by
    refine dvd_mod ?_ q0 q1
    obtain ⟨b, hb⟩ := s1
    refine ⟨b - t, ?_⟩
    rw [Int.mul_sub, ← hb, Int.sub_mul]
    have : P * s = 2 * d * t := by
      rw [hP]
      conv => lhs; rw [ht]
      rw [Int.mul_comm (g : Int) P, Int.mul_assoc]
    omega
  obtain ⟨m', em', le⟩ := times_least h hs (by omega) s2
  rw [e] at em'
  have := Option.some.inj em'
  omega
/-! ### places -/
theorem bs_eq (d : Int) (S : LS) (far : Bool) : bs d S far = S.stand + (if far = true then d else 0) := by
  unfold bs
  cases far
  · simp
  · simp
theorem name_bs (d : Int) (S : LS) (far : Bool) : nameAt S.hung (bs d S far % (2 * d)) = thingAt d S far := by
  rw [bs_spot]
  rfl
theorem name_some {d : Int} {S : LS} (g : Good d S) {p : Int} (h : (nameAt S.hung p).isSome = true) : ∃ t, (t, p) ∈ S.hung := by
  cases e : nameAt S.hung p with
  | none => rw [e] at h; cases h
  | some t => exact ⟨t, nameAt_mem e⟩
theorem chg_iff {d : Int} {S : LS} (g : Good d S) (q : Int × Str) : chg S q = true ↔ (q.2, q.1) ∉ S.hung := by
  unfold chg
  rw [Bool.not_eq_true', decide_eq_false_iff_not]
  constructor
  · intro h m
    exact h (nameAt_of g.places m)
  · intro h z
    exact h (nameAt_mem z)
theorem filter_one {α : Type} {l : List α} {f : α → Bool} {x : α} (nd : l.Nodup) (hx : x ∈ l) (h : ∀ y ∈ l, f y = true ↔ y = x) : l.filter f = [x] := by
  induction l with
  | nil => cases hx
  | cons a r ih =>
    obtain ⟨na, nr⟩ := List.nodup_cons.mp nd
    rcases List.mem_cons.mp hx with rfl | hx
    · rw [List.filter_cons, if_pos ((h x (List.mem_cons_self ..)).mpr rfl)]
      have : r.filter f = [] := by
        rw [List.filter_eq_nil_iff]
        intro y hy z
        have := (h y (List.mem_cons_of_mem _ hy)).mp z
        rw [this] at hy
        exact na hy
      rw [this]
    · have hn : ¬ f a = true := fun z => na (by rw [(h a (List.mem_cons_self ..)).mp z]; exact hx)
      rw [List.filter_cons, if_neg hn]
      exact ih nr hx fun y hy => h y (List.mem_cons_of_mem _ hy)
theorem gone_none {d : Int} {S S' : LS} {A : List (Int × Str)} (g' : Good d S') (hA : DOf S A) (k : ∀ x ∈ S.hung, x ∈ S'.hung) : A.filter (chg S') = [] := by
  rw [List.filter_eq_nil_iff]
  intro q hq z
  exact (chg_iff g' q).mp z (k _ ((hA.mem q.1 q.2).mp hq))
theorem gone_one {d : Int} {S S' : LS} {A : List (Int × Str)} (g' : Good d S') (hA : DOf S A) {t : Str} {p : Int} (m : (t, p) ∈ S.hung) (k : ∀ x ∈ S.hung, x ∉ S'.hung ↔ x = (t, p)) : A.filter (chg S') = [(p, t)] := by
  refine filter_one (nodup_of_map hA.nd) ((hA.mem p t).mpr m) fun q hq => ?_
  rw [chg_iff g']
  have := k (q.2, q.1) ((hA.mem q.1 q.2).mp hq)
  rw [this]
  constructor
  · intro e
    obtain ⟨e1, e2⟩ := Prod.mk.inj e
    rw [← e1, ← e2]
  · intro e
    rw [e]
theorem all_taken {d : Int} {S : LS} (g : Good d S) (h : 0 < d) (hl : (S.hung.length : Int) = 2 * d) {x : Int} (x0 : 0 ≤ x) (x1 : x < 2 * d) : x ∈ S.hung.map (·.2) := by
  refine Classical.byContradiction fun nx => ?_
  have q := nodup_le (l := x :: S.hung.map (·.2)) (List.nodup_cons.mpr ⟨nx, g.places⟩) (m := (List.range (2 * d).toNat).map fun j : Nat => (j : Int)) fun y hy => by
    rcases List.mem_cons.mp hy with rfl | hy
    · exact List.mem_map.mpr ⟨y.toNat, List.mem_range.mpr (by omega), by omega⟩
    · obtain ⟨p, hp, rfl⟩ := List.mem_map.mp hy
      obtain ⟨h0, h1⟩ := g.rng p hp
      exact List.mem_map.mpr ⟨p.2.toNat, List.mem_range.mpr (by omega), by omega⟩
  rw [List.length_cons, List.length_map, List.length_map, List.length_range] at q
  omega
theorem hang_le {d : Int} {S : LS} {far : Bool} (g : Good d S) (h : 0 < d) {k : Nat} (o : ∀ j, j < k → (thingAt d (adv d S j) far).isSome = true) (z : thingAt d (adv d S k) far = none) : (k : Int) ≤ 2 * d ∧ k ≤ S.hung.length := by
  by_cases hl : (S.hung.length : Int) = 2 * d
  · exfalso
    have m := all_taken g h hl (x := spot d (adv d S k) far) (lt2d h).1 (lt2d h).2
    have q : (thingAt d (adv d S k) far).isSome = true := thing_some.mpr m
    rw [z] at q
    cases q
  · obtain ⟨k0, h0, e0⟩ := free_at far g h hl
    have kk : k ≤ k0 := Nat.not_lt.mp fun lt => by
      have := o k0 lt
      rw [e0] at this
      cases this
    have k2 : (k : Int) ≤ 2 * d := by omega
    exact ⟨k2, occupied h k2 o⟩
theorem at1_of_mem {d : Int} {S : LS} (g : Good d S) {t : Str} {p q : Int} (h : at1 S.hung t = some p) (m : (t, q) ∈ S.hung) : q = p := by
  have := inj_nodup g.keys (at1_mem h) m rfl
  exact (Prod.mk.inj this).2.symm
theorem stand_self {d : Int} {S : LS} (g : Good d S) : S.stand = (S.stand + 0) % (2 * d) := by
  rw [Int.add_zero, Int.emod_eq_of_lt g.s0 g.s1]
theorem same_turn {d x : Int} {j m : Int} (h : 0 < d) (j0 : 0 ≤ j) (jm : j < m) (m1 : m < 2 * d) (e : (x + j) % (2 * d) = (x + m) % (2 * d)) : False := by
  have e2 : (x + m - (x + j)) % (2 * d) = 0 := Int.emod_eq_emod_iff_emod_sub_eq_zero.mp e.symm
  have e3 : (x + m - (x + j)) % (2 * d) = (x + m - (x + j)) := Int.emod_eq_of_lt (by omega) (by omega)
  omega
/-! ### what was told fits -/
theorem fits_of {d : Int} {S S' : LS} {told : V} {p : PDeed} {A A' : List (Int × Str)} (g : Good d S) (g' : Good d S') (d0 : 0 < d) (d1 : d ≤ 10 ^ 50) (hok : p.ok) (hA : DOf S A) (hA' : DOf S' A') (h : Tell d S told S' p) : FitsAt d S S' told A A' p := by
  have p50 := pow50
  cases p with
  | pull n =>
    obtain ⟨rfl, rfl⟩ := h
    exact .inr ⟨rfl, True.intro, rfl, by show S.lengths + (n.natAbs : Int) = S.lengths + max n (-n); omega, gone_none g' hA fun x hx => hx, gone_none g hA' fun x hx => hx⟩
  | peg far t =>
    rcases h with ⟨rfl, rfl, ho⟩ | ⟨rfl, ha, hf, rfl⟩
    · refine .inl ⟨⟨rfl, ?_⟩, rfl⟩
      rw [name_bs]
      exact ho.symm
    · have hm : (t, spot d S far) ∈ (add S t (spot d S far)).hung := List.mem_append.mpr (.inr (List.mem_singleton.mpr rfl))
      refine .inr ⟨⟨rfl, by rw [name_bs]; exact hf, ha, ?_⟩, True.intro, (show S.stand = (S.stand + 0) % (2 * d) from stand_self g), by show S.lengths = S.lengths + max 0 (-0); omega, ?_, spot d S far, ?_⟩
      · rw [bs_spot]
        exact nameAt_of g'.places hm
      · exact gone_none g' hA fun x hx => List.mem_append.mpr (.inl hx)
      · refine gone_one g hA' hm fun x hx => ?_
        constructor
        · intro nx
          rcases List.mem_append.mp hx with q | q
          · exact absurd q nx
          · simpa using q
        · rintro rfl m
          exact at1_none ha (List.mem_map.mpr ⟨_, m, rfl⟩)
  | hang far t =>
    rcases h with ⟨rfl, rfl, ho⟩ | ⟨k, rfl, ha, ho, hf, rfl⟩
    · refine .inl ⟨⟨rfl, ?_⟩, rfl⟩
      rcases ho with ho | ho
      · exact .inl ho
      · exact .inr (by omega)
    · obtain ⟨k2, kl⟩ := hang_le g d0 ho hf
      have sp : bs d (add (adv d S k) t (spot d (adv d S k) far)) far % (2 * d) = spot d (adv d S k) far := by rw [bs_spot]; rfl
      have hm : (t, spot d (adv d S k) far) ∈ (add (adv d S k) t (spot d (adv d S k) far)).hung := List.mem_append.mpr (.inr (List.mem_singleton.mpr rfl))
      refine .inr ⟨⟨k, rfl, by omega, ⟨ha, by rw [sp]; exact hf, by rw [sp]; exact nameAt_of g'.places hm, by omega⟩, fun j hj => ?_⟩, ⟨k, rfl, by omega⟩, rfl, by show S.lengths + (k : Int) = S.lengths + max (k : Int) (-(k : Int)); omega, ?_, spot d (adv d S k) far, ?_⟩
      · have := ho j (by omega)
        have e : (bs d S far + (0 + (j : Int))) % (2 * d) = spot d (adv d S j) far := by
          rw [spot_adv d0, bs_eq, Int.zero_add]
        rw [e]
        exact this
      · exact gone_none g' hA fun x hx => List.mem_append.mpr (.inl hx)
      · refine gone_one g hA' hm fun x hx => ?_
        constructor
        · intro nx
          rcases List.mem_append.mp hx with q | q
          · exact absurd q nx
          · simpa using q
        · rintro rfl m
          exact at1_none ha (List.mem_map.mpr ⟨_, m, rfl⟩)
  | fetch far t =>
    rcases h with ⟨rfl, rfl, ho⟩ | ⟨q, ha, rfl, rfl⟩
    · exact .inl ⟨⟨rfl, ho⟩, rfl⟩
    · obtain ⟨q0, q1⟩ := g.rng _ (at1_mem ha)
      have q0' : 0 ≤ q := q0
      have q1' : q < 2 * d := q1
      obtain ⟨m0, m1⟩ := lt2d d0 (x := q - spot d S far)
      -- turned so far, the thing hangs at the window
      have key : (bs d S far + (q - spot d S far) % (2 * d)) % (2 * d) = q := by
        rw [Int.add_emod_emod]
        refine dvd_mod ?_ q0' q1'
        obtain ⟨c, hc⟩ := mod_dvd (bs_spot d S far)
        exact ⟨c, by rw [← hc]; omega⟩
      have sp : bs d (shift d S ((q - spot d S far) % (2 * d))) far % (2 * d) = q := by
        rw [bs_eq]
        show ((S.stand + (q - spot d S far) % (2 * d)) % (2 * d) + (if far = true then d else 0)) % (2 * d) = q
        rw [Int.emod_add_emod]
        generalize (q - spot d S far) % (2 * d) = M at key ⊢
        rw [← key, bs_eq]
        congr 1
        omega
      refine .inr ⟨⟨(q - spot d S far) % (2 * d), rfl, m0, ⟨m1, ?_⟩, fun j hj z => ?_⟩, ⟨_, rfl, by omega⟩, rfl, ?_, gone_none g' hA fun x hx => hx, gone_none g hA' fun x hx => hx⟩
      · rw [sp]
        exact nameAt_of g.places (at1_mem ha)
      · have e := at1_of_mem g ha (nameAt_mem z)
        rw [Int.zero_add, ← key] at e
        rw [key] at e
        refine same_turn d0 (by omega : (0 : Int) ≤ (j : Int)) (by omega : (j : Int) < (q - spot d S far) % (2 * d)) m1 (x := bs d S far) ?_
        rw [e, key]
      · show S.lengths + (((q - spot d S far) % (2 * d)).natAbs : Int) = S.lengths + max ((q - spot d S far) % (2 * d)) (-((q - spot d S far) % (2 * d)))
        omega
  | walk far s =>
    obtain ⟨s0, s6⟩ := hok
    have base : ∀ k : Int, (bs d S far + k * s) % (2 * d) = (spot d S far + k * s) % (2 * d) := fun k => by
      rw [← bs_spot, Int.emod_add_emod]
    rcases h with ⟨rfl, rfl, no⟩ | ⟨m, rfl, rfl, ⟨q, hq, eq⟩, least⟩
    · refine .inl ⟨⟨rfl, fun k hk => ?_⟩, rfl⟩
      cases z : nameAt S'.hung ((bs d S' far + (0 + (k : Int)) * s) % (2 * d)) with
      | none => rfl
      | some t =>
        exfalso
        have hm := nameAt_mem z
        obtain ⟨m, em, _⟩ := times_least d0 s0 (by omega : (0 : Int) ≤ 0 + (k : Int)) (base _).symm
        rw [no _ hm] at em
        cases em
    · obtain ⟨m0, m1⟩ := times_rng d0 s0 eq
      obtain ⟨q0, q1⟩ := g.rng _ hq
      have so := times_sound d0 s0 q0 q1 eq
      have sp : bs d (shift d S (m * s)) far % (2 * d) = q.2 := by
        rw [bs_eq]
        show ((S.stand + m * s) % (2 * d) + (if far = true then d else 0)) % (2 * d) = q.2
        rw [Int.emod_add_emod, ← so, ← base, bs_eq]
        congr 1
        omega
      refine .inr ⟨⟨m, rfl, m0, ⟨?_, times_round d0 s0 q0 q1 eq⟩, fun k hk => ?_⟩, ⟨m, rfl, by omega⟩, rfl, ?_, gone_none g' hA fun x hx => hx, gone_none g hA' fun x hx => hx⟩
      · rw [sp, nameAt_of (t := q.1) g.places hq]
        rfl
      · cases z : nameAt S.hung ((bs d S far + (0 + (k : Int)) * s) % (2 * d)) with
        | none => rfl
        | some t =>
          exfalso
          have hm := nameAt_mem z
          obtain ⟨m', em', le⟩ := times_least d0 s0 (by omega : (0 : Int) ≤ 0 + (k : Int)) (base _).symm
          have := least _ hm m' em'
          omega
      · show S.lengths + ((m * s).natAbs : Int) = S.lengths + max (m * s) (-(m * s))
        omega
  | take far =>
    rcases h with ⟨rfl, hf, rfl⟩ | ⟨t, hf, rfl, rfl⟩
    · exact .inl ⟨⟨rfl, by rw [name_bs]; exact hf⟩, rfl⟩
    · have hm : (t, spot d S far) ∈ S.hung := nameAt_mem hf
      refine .inr ⟨⟨t, rfl, by rw [name_bs]; exact hf⟩, True.intro, (show S.stand = (S.stand + 0) % (2 * d) from stand_self g), by show S.lengths = S.lengths + max 0 (-0); omega, ?_, spot d S far, t, ?_, rfl⟩
      · exact gone_none g hA' fun x hx => (List.mem_filter.mp hx).1
      · refine gone_one g' hA hm fun x hx => ?_
        constructor
        · intro nx
          by_cases e : x.1 = t
          · exact inj_nodup g.keys hx hm e
          · exact absurd (List.mem_filter.mpr ⟨hx, by simp [e]⟩) nx
        · rintro rfl m
          have := (List.mem_filter.mp m).2
          simp at this
  | look far =>
    obtain ⟨rfl, rfl⟩ := h
    cases e : thingAt d S' far with
    | none => exact .inl ⟨⟨rfl, by rw [name_bs]; exact e⟩, rfl⟩
    | some t => exact .inr ⟨⟨t, rfl, by rw [name_bs]; exact e⟩, True.intro, stand_self g, by show S'.lengths = S'.lengths + max 0 (-0); omega, gone_none g hA fun x hx => hx, gone_none g hA' fun x hx => hx⟩
theorem right_of {d : Int} {S S' : LS} {told : V} {e : Deed} {A A' : List (Int × Str)} (g : Good d S) (g' : Good d S') (d0 : 0 < d) (d1 : d ≤ 10 ^ 50) (hok : e.ok) (hA : DOf S A) (hA' : DOf S' A') (h : TellD d S told S' e) : RightAt d S S' told A A' e := by
  cases e with
  | plain p => exact fits_of g g' d0 d1 hok hA hA' h
  | when far o p =>
    rcases h with ⟨e, h⟩ | ⟨e, rfl, rfl⟩
    · exact .inl ⟨by rw [name_bs]; exact e, fits_of g g' d0 d1 hok.1 hA hA' h⟩
    · exact .inr ⟨by rw [name_bs]; exact e, rfl, rfl⟩
/-- the things that hang are of those that are named -/
def Sub (S : LS) (ts : List Str) : Prop := ∀ x ∈ S.hung, x.1 ∈ ts
theorem sub_len {d : Int} {S : LS} {ts : List Str} (g : Good d S) (h : Sub S ts) : S.hung.length ≤ ts.length := by
  have : ∀ {l m : List Str}, l.Nodup → (∀ x ∈ l, x ∈ m) → l.length ≤ m.length := by
    intro l
    induction l with
    | nil => intro m _ _; exact Nat.zero_le _
    | cons a l ih =>
      intro m hn hs
      obtain ⟨h1, h2⟩ := List.nodup_cons.mp hn
      have ha : a ∈ m := hs a (List.mem_cons_self ..)
      have q := ih (m := m.erase a) h2 fun x hx => (List.mem_erase_of_ne (fun z => h1 (by rw [← z]; exact hx))).mpr (hs x (List.mem_cons_of_mem _ hx))
      rw [List.length_erase_of_mem ha] at q
      have : 0 < m.length := List.length_pos_of_mem ha
      rw [List.length_cons]
      omega
  have q := this g.keys (m := ts) fun x hx => by
    obtain ⟨p, hp, rfl⟩ := List.mem_map.mp hx
    exact h p hp
  rwa [List.length_map] at q
theorem sub_tell {d : Int} {S S' : LS} {told : V} {p : PDeed} {ts : List Str} (h : Tell d S told S' p) (hs : Sub S ts) (hp : ∀ t, p.thing = some t → t ∈ ts) : Sub S' ts := by
  have app : ∀ {l : List (Str × Int)} {t : Str} {q : Int}, (∀ x ∈ l, x.1 ∈ ts) → t ∈ ts → ∀ x ∈ l ++ [(t, q)], x.1 ∈ ts := fun h1 h2 x hx => by
    rcases List.mem_append.mp hx with z | z
    · exact h1 x z
    · rw [List.mem_singleton.mp z]; exact h2
  cases p with
  | pull n => obtain ⟨_, rfl⟩ := h; exact hs
  | peg far t =>
    rcases h with ⟨_, rfl, _⟩ | ⟨_, _, _, rfl⟩
    · exact hs
    · exact app hs (hp t rfl)
  | hang far t =>
    rcases h with ⟨_, rfl, _⟩ | ⟨k, _, _, _, _, rfl⟩
    · exact hs
    · exact app (l := (adv d S k).hung) hs (hp t rfl)
  | fetch far t =>
    rcases h with ⟨_, rfl, _⟩ | ⟨_, _, _, rfl⟩
    · exact hs
    · exact hs
  | walk far s =>
    rcases h with ⟨_, rfl, _⟩ | ⟨_, _, rfl, _⟩
    · exact hs
    · exact hs
  | take far =>
    rcases h with ⟨_, _, rfl⟩ | ⟨t, _, _, rfl⟩
    · exact hs
    · exact fun x hx => hs x (List.mem_filter.mp hx).1
  | look far => obtain ⟨_, rfl⟩ := h; exact hs
theorem sub_tellD {d : Int} {S S' : LS} {told : V} {e : Deed} {ts : List Str} (h : TellD d S told S' e) (hs : Sub S ts) (hp : ∀ t, e.plainOf.thing = some t → t ∈ ts) : Sub S' ts := by
  cases e with
  | plain p => exact sub_tell h hs hp
  | when far o p =>
    rcases h with ⟨_, h⟩ | ⟨_, _, rfl⟩
    · exact sub_tell h hs hp
    · exact hs
end Rn
/-! The law itself. -/
namespace Rn
open PySem L2 StX

/-! ### the script, kept -/
def Kc (K : PySem.W.Frag) (a : Addr) (xs : List V) : Prop := ∃ (o : Obj) (its : Array Value) (n : Nat), K.lookup a = some o ∧ o.cls = .type "list" ∧ o.dict = none ∧ o.data = .seq its n ∧ its.size ≤ sizeLine ∧ Vals xs its.toList
theorem sq_new {K : PySem.W.Frag} {H : Hp} {a p : Addr} {xs : List V} (h : SqL K H a xs) (hp : H p = none) : a ≠ p ∨ Kc K a xs := by
  rcases h with (h | ⟨o, h⟩) | h
  · exact .inl (ne_of_none h hp)
  · exact .inl (ne_of_none h hp)
  · exact .inr h
theorem sq_but {K : PySem.W.Frag} {H H' : Hp} {a p : Addr} {xs : List V} (h : SqL K H a xs) (e : But (· = p) H H') (n : a ≠ p ∨ Kc K a xs) : SqL K H' a xs := by
  rcases n with n | n
  · rcases h with (h | ⟨o, h⟩) | h
    · exact .inl (.inl (e _ _ h n))
    · exact .inl (.inr ⟨o, e _ _ h n⟩)
    · exact .inr h
  · exact .inr n
theorem well_strs {H : Hp} {p l : Addr} {n : Nat} {ts : List Str} (h : WellAt H p n) (hl : H l = some (.lst (ts.map V.str))) (ne : ts ≠ []) : l ≠ p := by
  intro z
  obtain ⟨_, _, _, q, _⟩ := h
  rw [z, q] at hl
  cases ts with
  | nil => exact ne rfl
  | cons t r => cases hl
theorem well_refs {H : Hp} {p l : Addr} {n : Nat} {ps : List Addr} (h : WellAt H p n) (hl : H l = some (.lst (ps.map V.ref))) : l ≠ p := by
  intro z
  obtain ⟨_, _, _, q, _⟩ := h
  rw [z, q] at hl
  cases ps with
  | nil => cases hl
  | cons t r => cases hl
theorem well_some {H : Hp} {p l : Addr} {n : Nat} (h : WellAt H p n) (hl : H l = none) : p ≠ l := by
  obtain ⟨_, _, _, q, _⟩ := h
  exact ne_of_none q hl
section
variable {K : PySem.W.Frag} {CW CL : Addr}
theorem LineAt.lb {H H' : Hp} {d : Int} {L ldx er W h wdx p : Addr} {n : Nat} {S : LS} {zs : List V} (a : LineAt K CW CL H d L ldx er W h wdx n S) (e : But (· = p) H H') (q : H p = some (.lst zs)) (np : p ≠ er) : LineAt K CW CL H' d L ldx er W h wdx n S := by
  obtain ⟨⟨dn, mk, xs, h1, h2, h3⟩, ⟨ys, h4, h5⟩, wk, ne⟩ := a
  have sq : SqT K H' dn xs := by
    rcases h2 with (h2 | ⟨o, h2⟩) | h2
    · exact .inl (.inl (e _ _ h2 (ne_of h2 q (by intro z; cases z))))
    · exact .inl (.inr ⟨o, e _ _ h2 (ne_of h2 q (by intro z; cases z))⟩)
    · exact .inr h2
  exact ⟨⟨dn, mk, xs, e _ _ h1 (ne_of h1 q (by intro z; cases z)), sq, h3⟩, ⟨ys, e _ _ h4 np.symm, h5⟩, ⟨e _ _ wk.ob (ne_of wk.ob q (by intro z; cases z)), e _ _ wk.dc (ne_of wk.dc q (by intro z; cases z)), wk.d0, wk.d1, wk.good, wk.few⟩, ne⟩
theorem LineAt.well {H H' : Hp} {d : Int} {L ldx er W h wdx p : Addr} {n N : Nat} {S : LS} (a : LineAt K CW CL H d L ldx er W h wdx n S) (e : But (· = p) H H') (hw : WellAt H p N) (np : p ≠ er) : LineAt K CW CL H' d L ldx er W h wdx n S := by
  obtain ⟨w0, w1, w2, q, _⟩ := hw
  exact a.lb e q np
/-- what is neither the line's own object nor the list of what stood stays -/
theorem LineAt.not {H : Hp} {d : Int} {L ldx er W h wdx : Addr} {n : Nat} {S : LS} (a : LineAt K CW CL H d L ldx er W h wdx n S) {b : Addr} {xs : List V} (hb : H b = some (.lst xs)) (ne : b ≠ er) : ¬ Pl L er W h b := by
  obtain ⟨dn, mk, ys, h1, _⟩ := a.ob
  intro z
  rcases z with z | z | z | z
  · exact ne_of hb h1 (by intro z; cases z) z
  · exact ne z
  · exact ne_of hb a.work.ob (by intro z; cases z) z
  · exact ne_of hb a.work.dc (by intro z; cases z) z
theorem LineAt.notT {H : Hp} {d : Int} {L ldx er W h wdx : Addr} {n : Nat} {S : LS} (a : LineAt K CW CL H d L ldx er W h wdx n S) {b : Addr} {xs : List V} (hb : H b = some (.tup xs)) : ¬ Pl L er W h b := by
  obtain ⟨dn, mk, ys, h1, _⟩ := a.ob
  obtain ⟨zs, h4, _⟩ := a.ear
  intro z
  rcases z with z | z | z | z
  · exact ne_of hb h1 (by intro z; cases z) z
  · exact ne_of hb h4 (by intro z; cases z) z
  · exact ne_of hb a.work.ob (by intro z; cases z) z
  · exact ne_of hb a.work.dc (by intro z; cases z) z
theorem LineAt.notD {H : Hp} {d : Int} {L ldx er W h wdx : Addr} {n : Nat} {S : LS} (a : LineAt K CW CL H d L ldx er W h wdx n S) {b : Addr} {kvs : List (Key × V)} (hb : H b = some (.dK kvs)) (ne : b ≠ h) : ¬ Pl L er W h b := by
  obtain ⟨dn, mk, ys, h1, _⟩ := a.ob
  obtain ⟨zs, h4, _⟩ := a.ear
  intro z
  rcases z with z | z | z | z
  · exact ne_of hb h1 (by intro z; cases z) z
  · exact ne_of hb h4 (by intro z; cases z) z
  · exact ne_of hb a.work.ob (by intro z; cases z) z
  · exact ne z
theorem StandAt.but {P : Addr → Prop} {H H' : Hp} {r D : Addr} {A : List (Int × Str)} {d : Int} {S : LS} (h : StandAt H r D A d S) (e : But P H H') (n1 : ¬ P r) (n2 : ¬ P D) : StandAt H' r D A d S := ⟨e _ _ h.tup n1, e _ _ h.dic n2, h.of, h.good, h.few⟩
/-- the wells that are drawn from, in the list at wl -/
structure Wells (H : Hp) (wl er : Addr) (ps : List Addr) (N : Nat) : Prop where
  ob : H wl = some (.lst (ps.map V.ref))
  ne : wl ≠ er
  all : ∀ p ∈ ps, p ≠ er ∧ WellAt H p N
theorem Wells.same {H H' : Hp} {wl er : Addr} {ps : List Addr} {N : Nat} (a : Wells H wl er ps N) (e : Same H H') : Wells H' wl er ps N := ⟨e _ _ a.ob, a.ne, fun p hp => ⟨(a.all p hp).1, (a.all p hp).2.same e⟩⟩
theorem Wells.drawn {H H' : Hp} {wl er p : Addr} {ps : List Addr} {N M : Nat} (a : Wells H wl er ps N) (e : But (· = p) H H') (hw : WellAt H p N) (hw' : WellAt H' p M) (k : N ≤ M) : Wells H' wl er ps M := by
  refine ⟨e _ _ a.ob (well_refs hw a.ob), a.ne, fun q hq => ⟨(a.all q hq).1, ?_⟩⟩
  by_cases z : q = p
  · rw [z]; exact hw'
  · exact ((a.all q hq).2.but e z).mono k
end
section
variable {P : Program} {w : World} {K : PySem.W.Frag} {mg : Str → Option Value} {base : Heap} {CW CL : Addr}
abbrev sLaw : Stmt := top 42
def spLaw (K : PySem.W.Frag) : Sp := fun vs H Q _ => ∃ (a : Addr) (ns : List Int), vs = [.ref a] ∧ SqL K H a (ns.map V.int) ∧ ns.length ≤ 63 ∧ ∀ H', Q (.bl true) H'
theorem scLaw : FnScope ["_law_script", "_law_well_here", "_law_size", "_law_things_here", "_law_line", "_law_k", "_law_wells", "_law_spring", "_law_lap", "_law_deed_here", "_law_ahead", "_law_told"] ["_law_script"] (defScope sLaw) := ⟨rfl, rfl, rfl, by decide +kernel, rfl, by decide +kernel, by decide +kernel⟩
theorem ok_law {f : Addr} {fdt : FuncData} (F : Fun K "law" "law" sLaw f fdt) (T : Txt K mg CW CL) (GW : Cal P w K mg base "_law_well" 1 (spWell K)) (GD : Cal P w K mg base "_law_draw" 1 spDraw) (GDi : Cal P w K mg base "_law_distance" 2 spDistance) (GTh : Cal P w K mg base "_law_things" 2 spLThings)
    (GL : CalC P w K mg base "Line" CL 3 (spLInit K CW CL)) (GDe : Cal P w K mg base "_law_deed" 4 spLDeed) (GSt : Cal P w K mg base "_law_stand" 3 (spLStand K CW CL)) (GDo : CalM P w K mg base CL "do" 6 (spDo K CW CL)) (GR : Cal P w K mg base "_law_right" 4 spRight) :
    FnOk P w K mg base CX0 7 f fdt ["_law_script"] (spLaw K) := by
  refine fun_w F scLaw (fun vs H Q E h => ?_) (fun cdv A0 outer s H vs Q E hr hN h => ?_)
  · obtain ⟨a, ns, rfl, _⟩ := h
    rfl
  · obtain ⟨a, ns, rfl, hS, h63, k⟩ := h
    refine wb_cons (ws_set 1 ?_ hN)
    refine we_call GW hr ?_
    repeat walk_at "W"
    refine ⟨a, ns, 0, rfl, hS, by decide, fun p0 H1 hp0 sm1 hw1 => ?_⟩
    have nap := sq_new hS hp0
    have hS1 := sm1.seq hS
    refine wb_cons (ws_par 2 3 ?_ hN)
    refine wa_cons (we_call GDi hr ?_)
    repeat walk_at "W"
    refine ⟨p0, 1, rfl, hw1, by decide, fun d H2 b2 hw2 d0 d1 => ?_⟩
    refine wa_cons (we_call GTh hr ?_)
    repeat walk_at "W"
    refine ⟨p0, 1 + 6, rfl, hw2, by decide, fun lT ts H3 b3 hw3 hT3 tne t4 hts => ?_⟩
    have hS3 := sq_but (sq_but hS1 b2 nap) b3 nap
    repeat walk_at "W"
    refine ws_set 4 ?_ hN
    refine we_make GL hr ?_
    repeat walk_at "W"
    intro L ldx hL0 hldx0 nel
    refine ⟨L, ldx, d, rfl, upd_same, by omega, d1, fun er W h wdx H4 b4 her hW hh hLn => ⟨rfl, ?_⟩⟩
    have keep : ∀ b o, H3 b = some o → H4 b = some o := fun b o e => by
      refine b4 b o ?_ (ne_of_none e hL0)
      rw [upd_ne (ne_of_none e hL0), upd_ne (ne_of_none e hldx0)]
      exact e
    have sm4 : Same H3 H4 := keep
    have her3 : H3 er = none := by
      cases q : H3 er with
      | none => rfl
      | some o =>
        rw [upd_ne (ne_of_none q hL0), upd_ne (ne_of_none q hldx0), q] at her
        cases her
    have nTer : lT ≠ er := ne_of_none hT3 her3
    have npe : p0 ≠ er := well_some hw3 her3
    have hS4 := sm4.seq hS3
    have hw4 := hw3.same sm4
    have hT4 := sm4 _ _ hT3
    -- the first well, so many times
    refine wb_cons ?_
    refine ws_setLc 6 [("_law_k", 5)] hN (fun _ => blkOk_by (N := ["_law_script", "_law_well_here", "_law_size", "_law_things_here", "_law_line", "_law_k", "_law_wells", "_law_spring", "_law_lap", "_law_deed_here", "_law_ahead", "_law_told"]) (sc := defScope sLaw) (by decide +kernel)) ?_
    refine wi_range1 (fun _ => T.range) ?_
    repeat walk_at "W"
    refine we_call GD hr ?_
    repeat walk_at "W"
    refine ⟨p0, _, 1 + 6 + 16, rfl, hw4, by decide, by decide, by decide, fun r5 H5 b5 hw5 r50 r51 => ?_⟩
    repeat walk_at "W"
    refine ⟨1 + r5, rfl, by omega, by omega, fun wl hwl => ?_⟩
    have hS5 := sq_but hS4 b5 nap
    have hLn5 := hLn.well b5 hw4 npe
    have hT5 := b5 _ _ hT4 (well_strs hw4 hT4 tne)
    refine ⟨(1 + r5).toNat, fun i acc H' => acc = (List.replicate i p0).map V.ref ∧ Same H5 H' ∧ H' wl = some (.lst acc), ⟨rfl, Same.new hwl, upd_same⟩, ?_, ?_⟩
    · rintro i acc H6 hi ⟨rfl, sm6, hwl6⟩
      refine ⟨hi, ?_⟩
      rintro x H7 ⟨rfl, rfl⟩
      refine wg_name 5 ?_ (fun i => hN i.1)
      refine ⟨rfl, wts_nil (Br.t rfl ?_)⟩
      refine we_var 1 ?_
      refine ⟨hwl6, small1000 (by rw [List.length_map, List.length_replicate]; omega), ?_, ?_, upd_same⟩
      · rw [List.replicate_succ', List.map_append]; rfl
      · intro b u z
        rw [upd_ne (ne_of_none z hwl)]
        exact sm6 _ _ z
    rintro acc H6 ⟨rfl, sm6, hwl6⟩
    refine ⟨Nat.le_refl _, ?_⟩
    have nawl := sq_new hS5 hwl
    have nwe : wl ≠ er := fun z => by
      obtain ⟨ys, q, _⟩ := hLn5.ear
      rw [z, q] at hwl
      cases hwl
    have hS6 := sm6.seq hS5
    have hLn6 := hLn5.same sm6
    have hT6 := sm6 _ _ hT5
    have hW6 : Wells H6 wl er (List.replicate (1 + r5).toNat p0) 100 := ⟨hwl6, nwe, fun p hp => by
      rw [List.eq_of_mem_replicate hp]
      exact ⟨npe, (hw5.same sm6).mono (by omega)⟩⟩
    -- the springs
    refine wb_cons ?_
    refine ws_for ?_
    refine wi_range2 (fun _ => T.range) ?_
    repeat walk_at "W"
    refine we_min (fun _ => T.min) ?_
    repeat walk_at "W"
    refine we_len (fun _ => T.len) ?_
    repeat walk_at "W"
    refine ⟨a, _, rfl, .inl hS6, ?_⟩
    rw [List.length_map]
    refine ⟨63, (ns.length : Int), rfl, rfl, ?_⟩
    have mn : min (63 : Int) (ns.length : Int) ≤ 63 ∧ 0 ≤ min (63 : Int) (ns.length : Int) := by omega
    refine wa_nil ⟨1, min (63 : Int) (ns.length : Int), rfl, ⟨by decide, by decide, by omega, by omega⟩, ?_⟩
    refine ⟨(min (63 : Int) (ns.length : Int) - 1).toNat, fun i σ H' => ∃ (x5 x7 : Option V) (ps : List Addr), σ = [some (.ref a), some (.ref p0), some (.int d), some (.ref lT), some (.ref L), x5, some (.ref wl), x7, none, none, none, none] ∧
      SqL K H' a (ns.map V.int) ∧ LineAt K CW CL H' d L ldx er W h wdx 0 ⟨0, [], 0⟩ ∧ H' lT = some (.lst (ts.map V.str)) ∧ Wells H' wl er ps 100 ∧ ps.length ≤ 16 + 2 * i, ?_, ?_, ?_⟩
    · exact ⟨_, _, _, rfl, hS6, hLn6, hT6, hW6, by rw [List.length_replicate]; omega⟩
    · rintro i σ H7 hi ⟨x5, x7, ps, rfl, hS7, hLn7, hT7, hW7, pl⟩
      refine ⟨hi, ?_⟩
      rintro x H8 ⟨rfl, rfl⟩
      refine wg_name 5 ?_ hN
      refine wb_cons (ws_set 7 ?_ hN)
      refine we_call GW hr ?_
      repeat walk_at "W"
      refine ⟨a, ns, 1 + i, by rw [show ((1 + i : Nat) : Int) = 1 + (i : Int) from by omega]; rfl, hS7, by omega, fun p H9 hp sm9 hw9 => ?_⟩
      have nap9 := sq_new hS7 hp
      have hS9 := sm9.seq hS7
      have hLn9 := hLn7.same sm9
      have hT9 := sm9 _ _ hT7
      have hW9 := hW7.same sm9
      have npe9 : p ≠ er := by
        obtain ⟨ys, q, _⟩ := hLn7.ear
        exact (ne_of_none q hp).symm
      refine wb_one (ws_expr ?_)
      refine we_bm PySem.F.plainAttrs_list PySem.F.slot_list_extend PySem.F.type_list_extend (fun _ => mt_extend) ?_
      refine we_var 6 ?_
      refine ⟨.inl ⟨rfl, _, SqL.of hW9.ob⟩, ?_⟩
      refine wa_cons ?_
      refine we_lc [("_law_lap", 8)] hN (fun _ => blkOk_by (N := ["_law_script", "_law_well_here", "_law_size", "_law_things_here", "_law_line", "_law_k", "_law_wells", "_law_spring", "_law_lap", "_law_deed_here", "_law_ahead", "_law_told"]) (sc := defScope sLaw) (by decide +kernel)) ?_
      refine wi_range1 (fun _ => T.range) ?_
      repeat walk_at "W"
      refine we_call GD hr ?_
      repeat walk_at "W"
      refine ⟨p, _, 1, rfl, hw9, by decide, by decide, by decide, fun r HA bA hwA r0 r1 => ?_⟩
      repeat walk_at "W"
      refine ⟨1 + r, rfl, by omega, by omega, fun E0 hE => ?_⟩
      have hSA := sq_but hS9 bA nap9
      have hLnA := hLn9.well bA hw9 npe9
      have hTA := bA _ _ hT9 (well_strs hw9 hT9 tne)
      have hWA := hW9.drawn bA (hw9.mono (by omega : 1 ≤ 100)) (hwA.mono (by omega : 1 + 1 ≤ 100)) (Nat.le_refl _)
      refine ⟨(1 + r).toNat, fun j acc H' => acc = (List.replicate j p).map V.ref ∧ Same HA H' ∧ H' E0 = some (.lst acc), ⟨rfl, Same.new hE, upd_same⟩, ?_, ?_⟩
      · rintro j acc HB hj ⟨rfl, smB, hEB⟩
        refine ⟨hj, ?_⟩
        rintro x HC ⟨rfl, rfl⟩
        refine wg_name 8 ?_ (fun i => hN i.1)
        refine ⟨rfl, wts_nil (Br.t rfl ?_)⟩
        refine we_var 7 ?_
        refine ⟨hEB, small1000 (by rw [List.length_map, List.length_replicate]; omega), ?_, ?_, upd_same⟩
        · rw [List.replicate_succ', List.map_append]; rfl
        · intro b u z
          rw [upd_ne (ne_of_none z hE)]
          exact smB _ _ z
      · rintro acc HB ⟨rfl, smB, hEB⟩
        refine ⟨Nat.le_refl _, ?_⟩
        have hWB := hWA.same smB
        refine wa_nil ⟨wl, E0, _, _, rfl, rfl, hWB.ob, hEB, Nat.le_trans (show _ ≤ 1000 by rw [List.length_map, List.length_map, List.length_replicate]; omega) (by decide), ?_⟩
        rw [← List.map_append]
        have bt : But (· = wl) HB (upd HB wl (.lst ((ps ++ List.replicate (1 + r).toNat p).map V.ref))) := But.upd rfl
        have hob : (upd HB wl (.lst ((ps ++ List.replicate (1 + r).toNat p).map V.ref))) wl = some (.lst ((ps ++ List.replicate (1 + r).toNat p).map V.ref)) := upd_same
        have hpB := hwA.same smB
        have hLnB := hLnA.same smB
        have hTB := smB _ _ hTA
        have nwT : lT ≠ wl := by
          intro z
          have q := hWB.ob
          rw [← z, hTB] at q
          cases ts with
          | nil => exact tne rfl
          | cons t0 tr => cases ps with
            | nil => cases q
            | cons q0 qr => cases q
        have hSw := sq_but (smB.seq hSA) bt nawl
        have hLnw := hLnB.lb bt hWB.ob nwe
        have hTw := bt _ _ hTB nwT
        have hWw : Wells (upd HB wl (.lst ((ps ++ List.replicate (1 + r).toNat p).map V.ref))) wl er (ps ++ List.replicate (1 + r).toNat p) 100 := by
          refine ⟨hob, nwe, fun q hq => ?_⟩
          rcases List.mem_append.mp hq with z | z
          · obtain ⟨z1, z2⟩ := hWB.all q z
            exact ⟨z1, z2.but bt (well_refs z2 hWB.ob).symm⟩
          · rw [List.eq_of_mem_replicate z]
            exact ⟨npe9, (hpB.mono (by omega : 1 + 1 ≤ 100)).but bt (well_refs hpB hWB.ob).symm⟩
        exact ⟨_, _, _, rfl, hSw, hLnw, hTw, hWw, by rw [List.length_append, List.length_replicate]; omega⟩
    · rintro σ H7 ⟨x5, x7, ps, rfl, hS7, hLn7, hT7, hW7, pl⟩
      refine ⟨Nat.le_refl _, ?_⟩
      have p140 : ps.length ≤ 140 := by omega
      clear hS7 hS6 hS5 hS4 hS3 hS1
      -- the play
      refine wb_cons ?_
      refine ws_for ?_
      refine wi_list ?_
      refine we_var 6 ?_
      refine ⟨wl, rfl, ⟨_, SqL.of hW7.ob⟩, ?_⟩
      refine ⟨ps.length, fun i σ H' => ∃ (x5 x7 x9 x10 x11 : Option V) (S : LS), σ = [some (.ref a), some (.ref p0), some (.int d), some (.ref lT), some (.ref L), x5, some (.ref wl), x7, none, x9, x10, x11] ∧
        LineAt K CW CL H' d L ldx er W h wdx i S ∧ Sub S ts ∧ H' lT = some (.lst (ts.map V.str)) ∧ Wells H' wl er ps (100 + 20 * i), ?_, ?_, ?_⟩
      · exact ⟨_, _, _, _, _, _, rfl, hLn7, (fun x hx => by cases hx), hT7, hW7⟩
      · rintro i σ H8 hi ⟨y5, y7, y9, y10, y11, S, rfl, hLn8, hSub, hT8, hW8⟩
        obtain ⟨p, ep⟩ : ∃ p, ps[i]? = some p := ⟨_, List.getElem?_eq_getElem hi⟩
        have ei : (ps.map V.ref)[i]? = some (.ref p) := by rw [List.getElem?_map, ep]; rfl
        refine ⟨⟨_, _, SqL.of hW8.ob, ei⟩, ?_⟩
        rintro x H9 ⟨rfl, hx⟩
        have hx' := hx _ (SqL.of hW8.ob)
        rw [ei] at hx'
        cases hx'
        clear hx
        obtain ⟨npe8, hw8⟩ := hW8.all p (List.mem_of_getElem? ep)
        refine wg_name 7 ?_ hN
        refine wb_cons (ws_par 9 10 ?_ hN)
        refine wa_cons (we_call GDe hr ?_)
        repeat walk_at "W"
        refine ⟨p, lT, ts, 100 + 20 * i, rfl, hw8, by omega, hT8, well_strs hw8 hT8 tne, tne, t4, hts, fun rd e HA bA hwA hD ok us => ?_⟩
        have hLnA := hLn8.well bA hw8 npe8
        have hTA := bA _ _ hT8 (well_strs hw8 hT8 tne)
        have hWA := hW8.drawn bA hw8 hwA (by omega)
        have few : S.hung.length ≤ 4 := Nat.le_trans (sub_len hLn8.work.good hSub) t4
        refine wa_cons (we_call GSt hr ?_)
        repeat walk_at "W"
        refine ⟨d, L, ldx, er, W, h, wdx, i, S, rfl, hLnA, by omega, fun r1 D1 A1 HB smB hD1 hS1 => ?_⟩
        have hLnB := hLnA.same smB
        have hTB := smB _ _ hTA
        have hWB := hWA.same smB
        have hDB := hD.same smB
        have nDh : D1 ≠ h := (ne_of_none hLnA.work.dc hD1).symm
        repeat walk_at "W"
        refine ws_set 11 ?_ hN
        refine we_meth T.clL GDo hr ?_
        refine we_var 4 ?_
        obtain ⟨dn, mk, xs, hLo, _⟩ := hLnB.ob
        refine ⟨_, _, _, rfl, hLo, rfl, ?_⟩
        repeat walk_at "W"
        refine ⟨d, L, ldx, er, W, h, wdx, rd, i, S, e, rfl, hLnB, by omega, by omega, hDB, ok, fun told S' HC bC hLnC tl => ?_⟩
        have hTC := bC _ _ hTB (hLnB.not hTB nTer)
        have hWC : Wells HC wl er ps (100 + 20 * (i + 1)) := by
          refine ⟨bC _ _ hWB.ob (hLnB.not hWB.ob nwe), nwe, fun q hq => ?_⟩
          obtain ⟨z1, z2⟩ := hWB.all q hq
          refine ⟨z1, (z2.but bC ?_).mono (by omega)⟩
          obtain ⟨_, _, _, qq, _⟩ := z2
          exact hLnB.not qq z1
        have hDC := hDB.but bC (fun b zs z => hLnB.notT z)
        have hS1C := hS1.but bC (hLnB.notT hS1.tup) (hLnB.notD hS1.dic nDh)
        have hSubC := sub_tellD tl hSub us
        have fewC : S'.hung.length ≤ 4 := Nat.le_trans (sub_len hLnC.work.good hSubC) t4
        refine wb_one ?_
        repeat walk_at "W"
        refine wt_val ?_
        refine we_call GR hr ?_
        repeat walk_at "W"
        refine we_call GSt hr ?_
        repeat walk_at "W"
        refine ⟨d, L, ldx, er, W, h, wdx, i + 1, S', rfl, hLnC, by omega, fun r2 D2 A2 HD smD hD2 hS2 => ?_⟩
        repeat walk_at "W"
        refine ⟨rd, r1, D1, r2, D2, told, A1, A2, d, S, S', e, rfl, hDC.same smD, ok, hS1C.same smD, hS2, ne_of_none hS1C.dic hD2, by omega, d1, right_of hS1.good hS2.good (by omega) d1 ok hS1.of hS2.of tl, fun HE smE => ?_⟩
        repeat walk_at "W"
        exact ⟨_, _, _, _, _, S', rfl, (hLnC.same smD).same smE, hSubC, smE _ _ (smD _ _ hTC), (hWC.same smD).same smE⟩
      · rintro σ H8 ⟨y5, y7, y9, y10, y11, S, rfl, hLn8, hSub, hT8, hW8⟩
        refine ⟨⟨_, SqL.of hW8.ob, by rw [List.length_map]; exact Nat.le_refl _⟩, ?_⟩
        refine wb_one (ws_ret (we_bl ?_))
        exact k _
end
end Rn
/-! What the top has left; the walk. -/
namespace Rn
open PySem L2 StX

theorem all_mk {l : PySem.W.OpenLaw} {w : World} {K : PySem.W.Frag} {h : Heap} {mg : Str → Option Value} {fa : Addr} (X : K.In h) (G : h.Ns mainGlobals mg) (hfa : mg "law" = some (.ref fa))
    {CW CL f_wh f_tg f_wi f_di f_le f_pd f_de f_w0 f_w1 f_w2 f_w3 f_w5 f_w6 f_w7 f_w8 f_wt f_w9 f_w4 f_l0 f_l2 f_l3 f_l6 f_l7 f_lt f_we f_dr f_pi f_th f_pl f_dd f_ds f_co f_sa f_st f_ha f_tu f_fi f_nu f_ch f_ft f_ri f_la p_l2 p_l3 aw : Addr}
    {oc_wh kV_wh dc_wh pm_wh cd_wh ct_wh oc_tg kV_tg dc_tg pm_tg cd_tg ct_tg oc_wi kV_wi dc_wi pm_wi cd_wi ct_wi oc_di kV_di dc_di pm_di cd_di ct_di oc_le kV_le dc_le pm_le cd_le ct_le oc_pd kV_pd dc_pd pm_pd cd_pd ct_pd oc_de kV_de dc_de pm_de cd_de ct_de oc_w0 kV_w0 dc_w0 pm_w0 cd_w0 ct_w0 oc_w1 kV_w1 dc_w1 pm_w1 cd_w1 ct_w1 oc_w2 kV_w2 dc_w2 pm_w2 cd_w2 ct_w2 oc_w3 kV_w3 dc_w3 pm_w3 cd_w3 ct_w3 oc_w5 kV_w5 dc_w5 pm_w5 cd_w5 ct_w5 oc_w6 kV_w6 dc_w6 pm_w6 cd_w6 ct_w6 oc_w7 kV_w7 dc_w7 pm_w7 cd_w7 ct_w7 oc_w8 kV_w8 dc_w8 pm_w8 cd_w8 ct_w8 oc_wt kV_wt dc_wt pm_wt cd_wt ct_wt oc_w9 kV_w9 dc_w9 pm_w9 cd_w9 ct_w9 oc_w4 kV_w4 dc_w4 pm_w4 cd_w4 ct_w4 oc_l0 kV_l0 dc_l0 pm_l0 cd_l0 ct_l0 oc_l2 kV_l2 dc_l2 pm_l2 cd_l2 ct_l2 oc_l3 kV_l3 dc_l3 pm_l3 cd_l3 ct_l3 oc_l6 kV_l6 dc_l6 pm_l6 cd_l6 ct_l6 oc_l7 kV_l7 dc_l7 pm_l7 cd_l7 ct_l7 oc_lt kV_lt dc_lt pm_lt cd_lt ct_lt oc_we kV_we dc_we pm_we cd_we ct_we oc_dr kV_dr dc_dr pm_dr cd_dr ct_dr oc_pi kV_pi dc_pi pm_pi cd_pi ct_pi oc_th kV_th dc_th pm_th cd_th ct_th oc_pl kV_pl dc_pl pm_pl cd_pl ct_pl oc_dd kV_dd dc_dd pm_dd cd_dd ct_dd oc_ds kV_ds dc_ds pm_ds cd_ds ct_ds oc_co kV_co dc_co pm_co cd_co ct_co oc_sa kV_sa dc_sa pm_sa cd_sa ct_sa oc_st kV_st dc_st pm_st cd_st ct_st oc_ha kV_ha dc_ha pm_ha cd_ha ct_ha oc_tu kV_tu dc_tu pm_tu cd_tu ct_tu oc_fi kV_fi dc_fi pm_fi cd_fi ct_fi oc_nu kV_nu dc_nu pm_nu cd_nu ct_nu oc_ch kV_ch dc_ch pm_ch cd_ch ct_ch oc_ft kV_ft dc_ft pm_ft cd_ft ct_ft oc_ri kV_ri dc_ri pm_ri cd_ri ct_ri oc_la kV_la dc_la pm_la cd_la ct_la : Value}
    {od_wh an_wh od_tg an_tg od_wi an_wi od_di an_di od_le an_le od_pd an_pd od_de an_de od_w0 an_w0 od_w1 an_w1 od_w2 an_w2 od_w3 an_w3 od_w5 an_w5 od_w6 an_w6 od_w7 an_w7 od_w8 an_w8 od_wt an_wt od_w9 an_w9 od_w4 an_w4 od_l0 an_l0 od_l2 an_l2 od_l3 an_l3 od_l6 an_l6 od_l7 an_l7 od_lt an_lt od_we an_we od_dr an_dr od_pi an_pi od_th an_th od_pl an_pl od_dd an_dd od_ds an_ds od_co an_co od_sa an_sa od_st an_st od_ha an_ha od_tu an_tu od_fi an_fi od_nu an_nu od_ch an_ch od_ft an_ft od_ri an_ri od_la an_la odw : Option Addr} {sl_wh sl_tg sl_wi sl_di sl_le sl_pd sl_de sl_w0 sl_w1 sl_w2 sl_w3 sl_w5 sl_w6 sl_w7 sl_w8 sl_wt sl_w9 sl_w4 sl_l0 sl_l2 sl_l3 sl_l6 sl_l7 sl_lt sl_we sl_dr sl_pi sl_th sl_pl sl_dd sl_ds sl_co sl_sa sl_st sl_ha sl_tu sl_fi sl_nu sl_ch sl_ft sl_ri sl_la slw : Array (Option Value)} {rs_l2 rs_l3 : List Value} {tLe tL8 tGd tGp tGs tn tf : Tok} {nw : Nat}
    (cW : PySem.W.nsIn K mainGlobals "LineWork" = some (some (.ref CW)))
    (cL : PySem.W.nsIn K mainGlobals "Line" = some (some (.ref CL)))
    (a_wh : PySem.W.nsIn K mainGlobals "is_whole" = some (some (.ref f_wh)))
    (l_wh : K.lookup f_wh = some ⟨oc_wh, od_wh, .func (PySem.W.fnOf "is_whole" "is_whole" (defArgs sWhole) (defBody sWhole) (defScope sWhole) .none kV_wh dc_wh pm_wh an_wh cd_wh ct_wh), sl_wh⟩)
    (c_wh : PySem.W.codeIn K cd_wh "is_whole" = true)
    (k_wh : PySem.W.keepIn K (.ref f_wh) = true)
    (a_tg : PySem.W.nsIn K mainGlobals "is_thing" = some (some (.ref f_tg)))
    (l_tg : K.lookup f_tg = some ⟨oc_tg, od_tg, .func (PySem.W.fnOf "is_thing" "is_thing" (defArgs sThg) (defBody sThg) (defScope sThg) .none kV_tg dc_tg pm_tg an_tg cd_tg ct_tg), sl_tg⟩)
    (c_tg : PySem.W.codeIn K cd_tg "is_thing" = true)
    (k_tg : PySem.W.keepIn K (.ref f_tg) = true)
    (a_wi : PySem.W.nsIn K mainGlobals "is_window" = some (some (.ref f_wi)))
    (l_wi : K.lookup f_wi = some ⟨oc_wi, od_wi, .func (PySem.W.fnOf "is_window" "is_window" (defArgs sWindow) (defBody sWindow) (defScope sWindow) .none kV_wi dc_wi pm_wi an_wi cd_wi ct_wi), sl_wi⟩)
    (c_wi : PySem.W.codeIn K cd_wi "is_window" = true)
    (k_wi : PySem.W.keepIn K (.ref f_wi) = true)
    (a_di : PySem.W.nsIn K mainGlobals "is_distance" = some (some (.ref f_di)))
    (l_di : K.lookup f_di = some ⟨oc_di, od_di, .func (PySem.W.fnOf "is_distance" "is_distance" (defArgs sDist) (defBody sDist) (defScope sDist) .none kV_di dc_di pm_di an_di cd_di ct_di), sl_di⟩)
    (c_di : PySem.W.codeIn K cd_di "is_distance" = true)
    (k_di : PySem.W.keepIn K (.ref f_di) = true)
    (a_le : PySem.W.nsIn K mainGlobals "is_length" = some (some (.ref f_le)))
    (l_le : K.lookup f_le = some ⟨oc_le, od_le, .func (PySem.W.fnOf "is_length" "is_length" (defArgs sLength) (defBody sLength) (defScope sLength) .none kV_le dc_le pm_le an_le cd_le ct_le), sl_le⟩)
    (c_le : PySem.W.codeIn K cd_le "is_length" = true)
    (k_le : PySem.W.keepIn K (.ref f_le) = true)
    (a_pd : PySem.W.nsIn K mainGlobals "is_plain_deed" = some (some (.ref f_pd)))
    (l_pd : K.lookup f_pd = some ⟨oc_pd, od_pd, .func (PySem.W.fnOf "is_plain_deed" "is_plain_deed" (defArgs sPlainD) (defBody sPlainD) (defScope sPlainD) .none kV_pd dc_pd pm_pd an_pd cd_pd ct_pd), sl_pd⟩)
    (c_pd : PySem.W.codeIn K cd_pd "is_plain_deed" = true)
    (k_pd : PySem.W.keepIn K (.ref f_pd) = true)
    (a_de : PySem.W.nsIn K mainGlobals "is_deed" = some (some (.ref f_de)))
    (l_de : K.lookup f_de = some ⟨oc_de, od_de, .func (PySem.W.fnOf "is_deed" "is_deed" (defArgs sDeed) (defBody sDeed) (defScope sDeed) .none kV_de dc_de pm_de an_de cd_de ct_de), sl_de⟩)
    (c_de : PySem.W.codeIn K cd_de "is_deed" = true)
    (k_de : PySem.W.keepIn K (.ref f_de) = true)
    (a_w0 : PySem.W.findIn K (.ref CW) "__init__" = some (some (.ref f_w0)))
    (i_w0 : PySem.W.isFn K (.ref f_w0) = true)
    (l_w0 : K.lookup f_w0 = some ⟨oc_w0, od_w0, .func (PySem.W.fnOf "__init__" "LineWork.__init__" (defArgs sWInit) (defBody sWInit) (defScope sWInit) .none kV_w0 dc_w0 pm_w0 an_w0 cd_w0 ct_w0), sl_w0⟩)
    (c_w0 : PySem.W.codeIn K cd_w0 "LineWork.__init__" = true)
    (k_w0 : PySem.W.keepIn K (.ref f_w0) = true)
    (a_w1 : PySem.W.findIn K (.ref CW) "spot_at" = some (some (.ref f_w1)))
    (i_w1 : PySem.W.isFn K (.ref f_w1) = true)
    (l_w1 : K.lookup f_w1 = some ⟨oc_w1, od_w1, .func (PySem.W.fnOf "spot_at" "LineWork.spot_at" (defArgs sSpot) (defBody sSpot) (defScope sSpot) .none kV_w1 dc_w1 pm_w1 an_w1 cd_w1 ct_w1), sl_w1⟩)
    (c_w1 : PySem.W.codeIn K cd_w1 "LineWork.spot_at" = true)
    (k_w1 : PySem.W.keepIn K (.ref f_w1) = true)
    (a_w2 : PySem.W.findIn K (.ref CW) "thing_at" = some (some (.ref f_w2)))
    (i_w2 : PySem.W.isFn K (.ref f_w2) = true)
    (l_w2 : K.lookup f_w2 = some ⟨oc_w2, od_w2, .func (PySem.W.fnOf "thing_at" "LineWork.thing_at" (defArgs sThing) (defBody sThing) (defScope sThing) .none kV_w2 dc_w2 pm_w2 an_w2 cd_w2 ct_w2), sl_w2⟩)
    (c_w2 : PySem.W.codeIn K cd_w2 "LineWork.thing_at" = true)
    (k_w2 : PySem.W.keepIn K (.ref f_w2) = true)
    (a_w3 : PySem.W.findIn K (.ref CW) "shift" = some (some (.ref f_w3)))
    (i_w3 : PySem.W.isFn K (.ref f_w3) = true)
    (l_w3 : K.lookup f_w3 = some ⟨oc_w3, od_w3, .func (PySem.W.fnOf "shift" "LineWork.shift" (defArgs sShift) (defBody sShift) (defScope sShift) .none kV_w3 dc_w3 pm_w3 an_w3 cd_w3 ct_w3), sl_w3⟩)
    (c_w3 : PySem.W.codeIn K cd_w3 "LineWork.shift" = true)
    (k_w3 : PySem.W.keepIn K (.ref f_w3) = true)
    (a_w5 : PySem.W.findIn K (.ref CW) "look" = some (some (.ref f_w5)))
    (i_w5 : PySem.W.isFn K (.ref f_w5) = true)
    (l_w5 : K.lookup f_w5 = some ⟨oc_w5, od_w5, .func (PySem.W.fnOf "look" "LineWork.look" (defArgs sLook) (defBody sLook) (defScope sLook) .none kV_w5 dc_w5 pm_w5 an_w5 cd_w5 ct_w5), sl_w5⟩)
    (c_w5 : PySem.W.codeIn K cd_w5 "LineWork.look" = true)
    (k_w5 : PySem.W.keepIn K (.ref f_w5) = true)
    (a_w6 : PySem.W.findIn K (.ref CW) "peg" = some (some (.ref f_w6)))
    (i_w6 : PySem.W.isFn K (.ref f_w6) = true)
    (l_w6 : K.lookup f_w6 = some ⟨oc_w6, od_w6, .func (PySem.W.fnOf "peg" "LineWork.peg" (defArgs sPeg) (defBody sPeg) (defScope sPeg) .none kV_w6 dc_w6 pm_w6 an_w6 cd_w6 ct_w6), sl_w6⟩)
    (c_w6 : PySem.W.codeIn K cd_w6 "LineWork.peg" = true)
    (k_w6 : PySem.W.keepIn K (.ref f_w6) = true)
    (a_w7 : PySem.W.findIn K (.ref CW) "hang" = some (some (.ref f_w7)))
    (i_w7 : PySem.W.isFn K (.ref f_w7) = true)
    (l_w7 : K.lookup f_w7 = some ⟨oc_w7, od_w7, .func (PySem.W.fnOf "hang" "LineWork.hang" (defArgs sHang) (defBody sHang) (defScope sHang) .none kV_w7 dc_w7 pm_w7 an_w7 cd_w7 ct_w7), sl_w7⟩)
    (c_w7 : PySem.W.codeIn K cd_w7 "LineWork.hang" = true)
    (k_w7 : PySem.W.keepIn K (.ref f_w7) = true)
    (a_w8 : PySem.W.findIn K (.ref CW) "fetch" = some (some (.ref f_w8)))
    (i_w8 : PySem.W.isFn K (.ref f_w8) = true)
    (l_w8 : K.lookup f_w8 = some ⟨oc_w8, od_w8, .func (PySem.W.fnOf "fetch" "LineWork.fetch" (defArgs sFetch) (defBody sFetch) (defScope sFetch) .none kV_w8 dc_w8 pm_w8 an_w8 cd_w8 ct_w8), sl_w8⟩)
    (c_w8 : PySem.W.codeIn K cd_w8 "LineWork.fetch" = true)
    (k_w8 : PySem.W.keepIn K (.ref f_w8) = true)
    (a_wt : PySem.W.findIn K (.ref CW) "times_to" = some (some (.ref f_wt)))
    (i_wt : PySem.W.isFn K (.ref f_wt) = true)
    (l_wt : K.lookup f_wt = some ⟨oc_wt, od_wt, .func (PySem.W.fnOf "times_to" "LineWork.times_to" (defArgs sTimes) (defBody sTimes) (defScope sTimes) .none kV_wt dc_wt pm_wt an_wt cd_wt ct_wt), sl_wt⟩)
    (c_wt : PySem.W.codeIn K cd_wt "LineWork.times_to" = true)
    (k_wt : PySem.W.keepIn K (.ref f_wt) = true)
    (a_w9 : PySem.W.findIn K (.ref CW) "walk" = some (some (.ref f_w9)))
    (i_w9 : PySem.W.isFn K (.ref f_w9) = true)
    (l_w9 : K.lookup f_w9 = some ⟨oc_w9, od_w9, .func (PySem.W.fnOf "walk" "LineWork.walk" (defArgs sWalk) (defBody sWalk) (defScope sWalk) .none kV_w9 dc_w9 pm_w9 an_w9 cd_w9 ct_w9), sl_w9⟩)
    (c_w9 : PySem.W.codeIn K cd_w9 "LineWork.walk" = true)
    (k_w9 : PySem.W.keepIn K (.ref f_w9) = true)
    (a_w4 : PySem.W.findIn K (.ref CW) "tell" = some (some (.ref f_w4)))
    (i_w4 : PySem.W.isFn K (.ref f_w4) = true)
    (l_w4 : K.lookup f_w4 = some ⟨oc_w4, od_w4, .func (PySem.W.fnOf "tell" "LineWork.tell" (defArgs sTell) (defBody sTell) (defScope sTell) .none kV_w4 dc_w4 pm_w4 an_w4 cd_w4 ct_w4), sl_w4⟩)
    (c_w4 : PySem.W.codeIn K cd_w4 "LineWork.tell" = true)
    (k_w4 : PySem.W.keepIn K (.ref f_w4) = true)
    (a_l0 : PySem.W.findIn K (.ref CL) "__init__" = some (some (.ref f_l0)))
    (i_l0 : PySem.W.isFn K (.ref f_l0) = true)
    (l_l0 : K.lookup f_l0 = some ⟨oc_l0, od_l0, .func (PySem.W.fnOf "__init__" "Line.__init__" (defArgs sLInit) (defBody sLInit) (defScope sLInit) .none kV_l0 dc_l0 pm_l0 an_l0 cd_l0 ct_l0), sl_l0⟩)
    (c_l0 : PySem.W.codeIn K cd_l0 "Line.__init__" = true)
    (k_l0 : PySem.W.keepIn K (.ref f_l0) = true)
    (a_l2 : PySem.W.findIn K (.ref CL) "turn" = some (some (.ref p_l2)))
    (g_l2 : PySem.W.specialIn K (.ref p_l2) "__get__" = some (some (.builtin "property.__get__")))
    (t_l2 : PySem.W.takesIn K (.ref p_l2) = some true)
    (r_l2 : PySem.W.recIn K p_l2 "property" = some (.ref f_l2 :: rs_l2))
    (l_l2 : K.lookup f_l2 = some ⟨oc_l2, od_l2, .func (PySem.W.fnOf "turn" "Line.turn" (defArgs sTurn) (defBody sTurn) (defScope sTurn) .none kV_l2 dc_l2 pm_l2 an_l2 cd_l2 ct_l2), sl_l2⟩)
    (c_l2 : PySem.W.codeIn K cd_l2 "Line.turn" = true)
    (k_l2 : PySem.W.keepIn K (.ref f_l2) = true)
    (a_l3 : PySem.W.findIn K (.ref CL) "pulled" = some (some (.ref p_l3)))
    (g_l3 : PySem.W.specialIn K (.ref p_l3) "__get__" = some (some (.builtin "property.__get__")))
    (t_l3 : PySem.W.takesIn K (.ref p_l3) = some true)
    (r_l3 : PySem.W.recIn K p_l3 "property" = some (.ref f_l3 :: rs_l3))
    (l_l3 : K.lookup f_l3 = some ⟨oc_l3, od_l3, .func (PySem.W.fnOf "pulled" "Line.pulled" (defArgs sPulled) (defBody sPulled) (defScope sPulled) .none kV_l3 dc_l3 pm_l3 an_l3 cd_l3 ct_l3), sl_l3⟩)
    (c_l3 : PySem.W.codeIn K cd_l3 "Line.pulled" = true)
    (k_l3 : PySem.W.keepIn K (.ref f_l3) = true)
    (a_l6 : PySem.W.findIn K (.ref CL) "remember" = some (some (.ref f_l6)))
    (i_l6 : PySem.W.isFn K (.ref f_l6) = true)
    (l_l6 : K.lookup f_l6 = some ⟨oc_l6, od_l6, .func (PySem.W.fnOf "remember" "Line.remember" (defArgs sRem) (defBody sRem) (defScope sRem) .none kV_l6 dc_l6 pm_l6 an_l6 cd_l6 ct_l6), sl_l6⟩)
    (c_l6 : PySem.W.codeIn K cd_l6 "Line.remember" = true)
    (k_l6 : PySem.W.keepIn K (.ref f_l6) = true)
    (a_l7 : PySem.W.findIn K (.ref CL) "do" = some (some (.ref f_l7)))
    (i_l7 : PySem.W.isFn K (.ref f_l7) = true)
    (l_l7 : K.lookup f_l7 = some ⟨oc_l7, od_l7, .func (PySem.W.fnOf "do" "Line.do" (defArgs sDo) (defBody sDo) (defScope sDo) .none kV_l7 dc_l7 pm_l7 an_l7 cd_l7 ct_l7), sl_l7⟩)
    (c_l7 : PySem.W.codeIn K cd_l7 "Line.do" = true)
    (k_l7 : PySem.W.keepIn K (.ref f_l7) = true)
    (a_lt : PySem.W.findIn K (.ref CL) "things" = some (some (.ref f_lt)))
    (i_lt : PySem.W.isFn K (.ref f_lt) = true)
    (l_lt : K.lookup f_lt = some ⟨oc_lt, od_lt, .func (PySem.W.fnOf "things" "Line.things" (defArgs sThings) (defBody sThings) (defScope sThings) .none kV_lt dc_lt pm_lt an_lt cd_lt ct_lt), sl_lt⟩)
    (c_lt : PySem.W.codeIn K cd_lt "Line.things" = true)
    (k_lt : PySem.W.keepIn K (.ref f_lt) = true)
    (a_we : PySem.W.nsIn K mainGlobals "_law_well" = some (some (.ref f_we)))
    (l_we : K.lookup f_we = some ⟨oc_we, od_we, .func (PySem.W.fnOf "_law_well" "_law_well" (defArgs sWell) (defBody sWell) (defScope sWell) .none kV_we dc_we pm_we an_we cd_we ct_we), sl_we⟩)
    (c_we : PySem.W.codeIn K cd_we "_law_well" = true)
    (k_we : PySem.W.keepIn K (.ref f_we) = true)
    (a_dr : PySem.W.nsIn K mainGlobals "_law_draw" = some (some (.ref f_dr)))
    (l_dr : K.lookup f_dr = some ⟨oc_dr, od_dr, .func (PySem.W.fnOf "_law_draw" "_law_draw" (defArgs sDraw) (defBody sDraw) (defScope sDraw) .none kV_dr dc_dr pm_dr an_dr cd_dr ct_dr), sl_dr⟩)
    (c_dr : PySem.W.codeIn K cd_dr "_law_draw" = true)
    (k_dr : PySem.W.keepIn K (.ref f_dr) = true)
    (a_pi : PySem.W.nsIn K mainGlobals "_law_pick" = some (some (.ref f_pi)))
    (l_pi : K.lookup f_pi = some ⟨oc_pi, od_pi, .func (PySem.W.fnOf "_law_pick" "_law_pick" (defArgs sPick) (defBody sPick) (defScope sPick) .none kV_pi dc_pi pm_pi an_pi cd_pi ct_pi), sl_pi⟩)
    (c_pi : PySem.W.codeIn K cd_pi "_law_pick" = true)
    (k_pi : PySem.W.keepIn K (.ref f_pi) = true)
    (a_th : PySem.W.nsIn K mainGlobals "_law_things" = some (some (.ref f_th)))
    (l_th : K.lookup f_th = some ⟨oc_th, od_th, .func (PySem.W.fnOf "_law_things" "_law_things" (defArgs sLThings) (defBody sLThings) (defScope sLThings) .none kV_th dc_th pm_th an_th cd_th ct_th), sl_th⟩)
    (c_th : PySem.W.codeIn K cd_th "_law_things" = true)
    (k_th : PySem.W.keepIn K (.ref f_th) = true)
    (a_pl : PySem.W.nsIn K mainGlobals "_law_plain" = some (some (.ref f_pl)))
    (l_pl : K.lookup f_pl = some ⟨oc_pl, od_pl, .func (PySem.W.fnOf "_law_plain" "_law_plain" (defArgs sLPlain) (defBody sLPlain) (defScope sLPlain) .none kV_pl dc_pl pm_pl an_pl cd_pl ct_pl), sl_pl⟩)
    (c_pl : PySem.W.codeIn K cd_pl "_law_plain" = true)
    (k_pl : PySem.W.keepIn K (.ref f_pl) = true)
    (a_dd : PySem.W.nsIn K mainGlobals "_law_deed" = some (some (.ref f_dd)))
    (l_dd : K.lookup f_dd = some ⟨oc_dd, od_dd, .func (PySem.W.fnOf "_law_deed" "_law_deed" (defArgs sLDeed) (defBody sLDeed) (defScope sLDeed) .none kV_dd dc_dd pm_dd an_dd cd_dd ct_dd), sl_dd⟩)
    (c_dd : PySem.W.codeIn K cd_dd "_law_deed" = true)
    (k_dd : PySem.W.keepIn K (.ref f_dd) = true)
    (a_ds : PySem.W.nsIn K mainGlobals "_law_distance" = some (some (.ref f_ds)))
    (l_ds : K.lookup f_ds = some ⟨oc_ds, od_ds, .func (PySem.W.fnOf "_law_distance" "_law_distance" (defArgs sDistance) (defBody sDistance) (defScope sDistance) .none kV_ds dc_ds pm_ds an_ds cd_ds ct_ds), sl_ds⟩)
    (c_ds : PySem.W.codeIn K cd_ds "_law_distance" = true)
    (k_ds : PySem.W.keepIn K (.ref f_ds) = true)
    (a_co : PySem.W.nsIn K mainGlobals "_law_common" = some (some (.ref f_co)))
    (l_co : K.lookup f_co = some ⟨oc_co, od_co, .func (PySem.W.fnOf "_law_common" "_law_common" (defArgs sCommon) (defBody sCommon) (defScope sCommon) .none kV_co dc_co pm_co an_co cd_co ct_co), sl_co⟩)
    (c_co : PySem.W.codeIn K cd_co "_law_common" = true)
    (k_co : PySem.W.keepIn K (.ref f_co) = true)
    (a_sa : PySem.W.nsIn K mainGlobals "_law_same" = some (some (.ref f_sa)))
    (l_sa : K.lookup f_sa = some ⟨oc_sa, od_sa, .func (PySem.W.fnOf "_law_same" "_law_same" (defArgs sSame) (defBody sSame) (defScope sSame) .none kV_sa dc_sa pm_sa an_sa cd_sa ct_sa), sl_sa⟩)
    (c_sa : PySem.W.codeIn K cd_sa "_law_same" = true)
    (k_sa : PySem.W.keepIn K (.ref f_sa) = true)
    (a_st : PySem.W.nsIn K mainGlobals "_law_stand" = some (some (.ref f_st)))
    (l_st : K.lookup f_st = some ⟨oc_st, od_st, .func (PySem.W.fnOf "_law_stand" "_law_stand" (defArgs sLStand) (defBody sLStand) (defScope sLStand) .none kV_st dc_st pm_st an_st cd_st ct_st), sl_st⟩)
    (c_st : PySem.W.codeIn K cd_st "_law_stand" = true)
    (k_st : PySem.W.keepIn K (.ref f_st) = true)
    (a_ha : PySem.W.nsIn K mainGlobals "_law_hangs" = some (some (.ref f_ha)))
    (l_ha : K.lookup f_ha = some ⟨oc_ha, od_ha, .func (PySem.W.fnOf "_law_hangs" "_law_hangs" (defArgs sLHangs) (defBody sLHangs) (defScope sLHangs) .none kV_ha dc_ha pm_ha an_ha cd_ha ct_ha), sl_ha⟩)
    (c_ha : PySem.W.codeIn K cd_ha "_law_hangs" = true)
    (k_ha : PySem.W.keepIn K (.ref f_ha) = true)
    (a_tu : PySem.W.nsIn K mainGlobals "_law_turned" = some (some (.ref f_tu)))
    (l_tu : K.lookup f_tu = some ⟨oc_tu, od_tu, .func (PySem.W.fnOf "_law_turned" "_law_turned" (defArgs sTurned) (defBody sTurned) (defScope sTurned) .none kV_tu dc_tu pm_tu an_tu cd_tu ct_tu), sl_tu⟩)
    (c_tu : PySem.W.codeIn K cd_tu "_law_turned" = true)
    (k_tu : PySem.W.keepIn K (.ref f_tu) = true)
    (a_fi : PySem.W.nsIn K mainGlobals "_law_is_first" = some (some (.ref f_fi)))
    (l_fi : K.lookup f_fi = some ⟨oc_fi, od_fi, .func (PySem.W.fnOf "_law_is_first" "_law_is_first" (defArgs sFirst) (defBody sFirst) (defScope sFirst) .none kV_fi dc_fi pm_fi an_fi cd_fi ct_fi), sl_fi⟩)
    (c_fi : PySem.W.codeIn K cd_fi "_law_is_first" = true)
    (k_fi : PySem.W.keepIn K (.ref f_fi) = true)
    (a_nu : PySem.W.nsIn K mainGlobals "_law_number_fits" = some (some (.ref f_nu)))
    (l_nu : K.lookup f_nu = some ⟨oc_nu, od_nu, .func (PySem.W.fnOf "_law_number_fits" "_law_number_fits" (defArgs sNum) (defBody sNum) (defScope sNum) .none kV_nu dc_nu pm_nu an_nu cd_nu ct_nu), sl_nu⟩)
    (c_nu : PySem.W.codeIn K cd_nu "_law_number_fits" = true)
    (k_nu : PySem.W.keepIn K (.ref f_nu) = true)
    (a_ch : PySem.W.nsIn K mainGlobals "_law_changed_things" = some (some (.ref f_ch)))
    (l_ch : K.lookup f_ch = some ⟨oc_ch, od_ch, .func (PySem.W.fnOf "_law_changed_things" "_law_changed_things" (defArgs sChg) (defBody sChg) (defScope sChg) .none kV_ch dc_ch pm_ch an_ch cd_ch ct_ch), sl_ch⟩)
    (c_ch : PySem.W.codeIn K cd_ch "_law_changed_things" = true)
    (k_ch : PySem.W.keepIn K (.ref f_ch) = true)
    (a_ft : PySem.W.nsIn K mainGlobals "_law_fits" = some (some (.ref f_ft)))
    (l_ft : K.lookup f_ft = some ⟨oc_ft, od_ft, .func (PySem.W.fnOf "_law_fits" "_law_fits" (defArgs sFits) (defBody sFits) (defScope sFits) .none kV_ft dc_ft pm_ft an_ft cd_ft ct_ft), sl_ft⟩)
    (c_ft : PySem.W.codeIn K cd_ft "_law_fits" = true)
    (k_ft : PySem.W.keepIn K (.ref f_ft) = true)
    (a_ri : PySem.W.nsIn K mainGlobals "_law_right" = some (some (.ref f_ri)))
    (l_ri : K.lookup f_ri = some ⟨oc_ri, od_ri, .func (PySem.W.fnOf "_law_right" "_law_right" (defArgs sRight) (defBody sRight) (defScope sRight) .none kV_ri dc_ri pm_ri an_ri cd_ri ct_ri), sl_ri⟩)
    (c_ri : PySem.W.codeIn K cd_ri "_law_right" = true)
    (k_ri : PySem.W.keepIn K (.ref f_ri) = true)
    (a_la : PySem.W.nsIn K mainGlobals "law" = some (some (.ref f_la)))
    (l_la : K.lookup f_la = some ⟨oc_la, od_la, .func (PySem.W.fnOf "law" "law" (defArgs sLaw) (defBody sLaw) (defScope sLaw) .none kV_la dc_la pm_la an_la cd_la ct_la), sl_la⟩)
    (c_la : PySem.W.codeIn K cd_la "law" = true)
    (k_la : PySem.W.keepIn K (.ref f_la) = true)
    (pgW : PySem.W.plainGet K CW Str.empty = true)
    (hdW : PySem.W.hasDictIn K CW = true)
    (poW : PySem.W.plainOver K CW = true)
    (saW : PySem.W.findIn K (.ref CW) "__setattr__" = some (some (.builtin "object.__setattr__")))
    (mkW : PySem.W.makesIn K CW = true)
    (kcW : PySem.W.keepIn K (.ref CW) = true)
    (pgL : PySem.W.plainGet K CL Str.empty = true)
    (hdL : PySem.W.hasDictIn K CL = true)
    (poL : PySem.W.plainOver K CL = true)
    (saL : PySem.W.findIn K (.ref CL) "__setattr__" = some (some (.builtin "object.__setattr__")))
    (mkL : PySem.W.makesIn K CL = true)
    (kcL : PySem.W.keepIn K (.ref CL) = true)
    (nCW_half : PySem.W.findIn K (.ref CW) "half" = some none)
    (nCW_stand : PySem.W.findIn K (.ref CW) "stand" = some none)
    (nCW_hung : PySem.W.findIn K (.ref CW) "hung" = some none)
    (nCW_lengths : PySem.W.findIn K (.ref CW) "lengths" = some none)
    (nCL_length : PySem.W.findIn K (.ref CL) "length" = some none)
    (nCL_work : PySem.W.findIn K (.ref CL) "work" = some none)
    (nCL_done : PySem.W.findIn K (.ref CL) "done" = some none)
    (nCL_earlier : PySem.W.findIn K (.ref CL) "earlier" = some none)
    (nCL_marks : PySem.W.findIn K (.ref CL) "marks" = some none)
    (z_len : PySem.W.nsIn K mainGlobals "len" = some none)
    (z_int : PySem.W.nsIn K mainGlobals "int" = some none)
    (z_str : PySem.W.nsIn K mainGlobals "str" = some none)
    (z_bool : PySem.W.nsIn K mainGlobals "bool" = some none)
    (z_tuple : PySem.W.nsIn K mainGlobals "tuple" = some none)
    (z_list : PySem.W.nsIn K mainGlobals "list" = some none)
    (z_dict : PySem.W.nsIn K mainGlobals "dict" = some none)
    (z_abs : PySem.W.nsIn K mainGlobals "abs" = some none)
    (z_max : PySem.W.nsIn K mainGlobals "max" = some none)
    (z_min : PySem.W.nsIn K mainGlobals "min" = some none)
    (z_all : PySem.W.nsIn K mainGlobals "all" = some none)
    (z_isinstance : PySem.W.nsIn K mainGlobals "isinstance" = some none)
    (z_range : PySem.W.nsIn K mainGlobals "range" = some none)
    (z_sorted : PySem.W.nsIn K mainGlobals "sorted" = some none)
    (v_let : PySem.W.nsIn K mainGlobals "LETTERS" = some (some (.str "abcdefghijklmnopqrstuvwxyz" tLe)))
    (v_win : PySem.W.nsIn K mainGlobals "WINDOWS" = some (some (.ref aw)))
    (v_wl : K.lookup aw = some ⟨.type "tuple", odw, .seq #[.str "near" tn, .str "far" tf] nw, slw⟩)
    (v_lon : PySem.W.nsIn K mainGlobals "LONGEST_THING" = some (some (.int 8 tL8)))
    (v_gd : PySem.W.nsIn K mainGlobals "GREATEST_DISTANCE" = some (some (.int 100000000000000000000000000000000000000000000000000 tGd)))
    (v_gp : PySem.W.nsIn K mainGlobals "GREATEST_PULL" = some (some (.int 40 tGp)))
    (v_gs : PySem.W.nsIn K mainGlobals "GREATEST_STEP" = some (some (.int 6 tGs)))
    : ∃ fd : FuncData, (∀ (s : Shared) (v : Value), BindsTo s fd ⟨[v], []⟩ [("_law_script", v)]) ∧ ∀ base : Heap, K.In base → base.Ns mainGlobals mg → FnOk l.prog w K mg base CX0 7 fa fd ["_law_script"] (spLaw K) := by
  have e := hfa.symm.trans (PySem.W.mg_of X G a_la)
  cases e
  have T : Txt K mg CW CL := ⟨PySem.W.mg_none_of X G z_len, PySem.W.mg_none_of X G z_int, PySem.W.mg_none_of X G z_str, PySem.W.mg_none_of X G z_bool, PySem.W.mg_none_of X G z_tuple, PySem.W.mg_none_of X G z_list, PySem.W.mg_none_of X G z_dict, PySem.W.mg_none_of X G z_abs, PySem.W.mg_none_of X G z_max, PySem.W.mg_none_of X G z_min, PySem.W.mg_none_of X G z_all, PySem.W.mg_none_of X G z_isinstance, PySem.W.mg_none_of X G z_range, PySem.W.mg_none_of X G z_sorted, ⟨_, PySem.W.mg_of X G v_let⟩, ⟨aw, PySem.W.mg_of X G v_win, fun H => .inr ⟨_, _, _, v_wl, rfl, rfl, (by show 2 ≤ sizeLine; decide), .cons ⟨_, rfl⟩ (.cons ⟨_, rfl⟩ .nil)⟩⟩, ⟨_, PySem.W.mg_of X G v_lon⟩, ⟨_, by rw [show (10 : Int) ^ 50 = 100000000000000000000000000000000000000000000000000 from by decide]; exact PySem.W.mg_of X G v_gd⟩, ⟨_, PySem.W.mg_of X G v_gp⟩, ⟨_, PySem.W.mg_of X G v_gs⟩, ⟨pgW, hdW, poW, saW⟩, nCW_half, nCW_stand, nCW_hung, nCW_lengths, ⟨pgL, hdL, poL, saL⟩, nCL_length, nCL_work, nCL_done, nCL_earlier, nCL_marks⟩
  have F_wh := fun_mk (st := sWhole) l_wh c_wh k_wh
  have b_wh := F_wh.binds (ps := ["thing"]) fun _ _ _ _ _ _ us hl => match us, hl with | [_], _ => rfl
  have F_tg := fun_mk (st := sThg) l_tg c_tg k_tg
  have b_tg := F_tg.binds (ps := ["thing"]) fun _ _ _ _ _ _ us hl => match us, hl with | [_], _ => rfl
  have F_wi := fun_mk (st := sWindow) l_wi c_wi k_wi
  have b_wi := F_wi.binds (ps := ["thing"]) fun _ _ _ _ _ _ us hl => match us, hl with | [_], _ => rfl
  have F_di := fun_mk (st := sDist) l_di c_di k_di
  have b_di := F_di.binds (ps := ["thing"]) fun _ _ _ _ _ _ us hl => match us, hl with | [_], _ => rfl
  have F_le := fun_mk (st := sLength) l_le c_le k_le
  have b_le := F_le.binds (ps := ["thing", "most"]) fun _ _ _ _ _ _ us hl => match us, hl with | [_, _], _ => rfl
  have F_pd := fun_mk (st := sPlainD) l_pd c_pd k_pd
  have b_pd := F_pd.binds (ps := ["thing"]) fun _ _ _ _ _ _ us hl => match us, hl with | [_], _ => rfl
  have F_de := fun_mk (st := sDeed) l_de c_de k_de
  have b_de := F_de.binds (ps := ["thing"]) fun _ _ _ _ _ _ us hl => match us, hl with | [_], _ => rfl
  have F_w0 := fun_mk (st := sWInit) l_w0 c_w0 k_w0
  have b_w0 := F_w0.binds (ps := ["self", "length"]) fun _ _ _ _ _ _ us hl => match us, hl with | [_, _], _ => rfl
  have F_w1 := fun_mk (st := sSpot) l_w1 c_w1 k_w1
  have b_w1 := F_w1.binds (ps := ["self", "window"]) fun _ _ _ _ _ _ us hl => match us, hl with | [_, _], _ => rfl
  have F_w2 := fun_mk (st := sThing) l_w2 c_w2 k_w2
  have b_w2 := F_w2.binds (ps := ["self", "window"]) fun _ _ _ _ _ _ us hl => match us, hl with | [_, _], _ => rfl
  have F_w3 := fun_mk (st := sShift) l_w3 c_w3 k_w3
  have b_w3 := F_w3.binds (ps := ["self", "number"]) fun _ _ _ _ _ _ us hl => match us, hl with | [_, _], _ => rfl
  have F_w5 := fun_mk (st := sLook) l_w5 c_w5 k_w5
  have b_w5 := F_w5.binds (ps := ["self", "window", "takes"]) fun _ _ _ _ _ _ us hl => match us, hl with | [_, _, _], _ => rfl
  have F_w6 := fun_mk (st := sPeg) l_w6 c_w6 k_w6
  have b_w6 := F_w6.binds (ps := ["self", "window", "thing"]) fun _ _ _ _ _ _ us hl => match us, hl with | [_, _, _], _ => rfl
  have F_w7 := fun_mk (st := sHang) l_w7 c_w7 k_w7
  have b_w7 := F_w7.binds (ps := ["self", "window", "thing"]) fun _ _ _ _ _ _ us hl => match us, hl with | [_, _, _], _ => rfl
  have F_w8 := fun_mk (st := sFetch) l_w8 c_w8 k_w8
  have b_w8 := F_w8.binds (ps := ["self", "window", "thing"]) fun _ _ _ _ _ _ us hl => match us, hl with | [_, _, _], _ => rfl
  have F_wt := fun_mk (st := sTimes) l_wt c_wt k_wt
  have b_wt := F_wt.binds (ps := ["self", "window", "place", "step"]) fun _ _ _ _ _ _ us hl => match us, hl with | [_, _, _, _], _ => rfl
  have F_w9 := fun_mk (st := sWalk) l_w9 c_w9 k_w9
  have b_w9 := F_w9.binds (ps := ["self", "window", "step"]) fun _ _ _ _ _ _ us hl => match us, hl with | [_, _, _], _ => rfl
  have F_w4 := fun_mk (st := sTell) l_w4 c_w4 k_w4
  have b_w4 := F_w4.binds (ps := ["self", "deed"]) fun _ _ _ _ _ _ us hl => match us, hl with | [_, _], _ => rfl
  have F_l0 := fun_mk (st := sLInit) l_l0 c_l0 k_l0
  have b_l0 := F_l0.binds (ps := ["self", "distance"]) fun _ _ _ _ _ _ us hl => match us, hl with | [_, _], _ => rfl
  have F_l2 := fun_mk (st := sTurn) l_l2 c_l2 k_l2
  have b_l2 := F_l2.binds (ps := ["self"]) fun _ _ _ _ _ _ us hl => match us, hl with | [_], _ => rfl
  have F_l3 := fun_mk (st := sPulled) l_l3 c_l3 k_l3
  have b_l3 := F_l3.binds (ps := ["self"]) fun _ _ _ _ _ _ us hl => match us, hl with | [_], _ => rfl
  have F_l6 := fun_mk (st := sRem) l_l6 c_l6 k_l6
  have b_l6 := F_l6.binds (ps := ["self"]) fun _ _ _ _ _ _ us hl => match us, hl with | [_], _ => rfl
  have F_l7 := fun_mk (st := sDo) l_l7 c_l7 k_l7
  have b_l7 := F_l7.binds (ps := ["self", "deed"]) fun _ _ _ _ _ _ us hl => match us, hl with | [_, _], _ => rfl
  have F_lt := fun_mk (st := sThings) l_lt c_lt k_lt
  have b_lt := F_lt.binds (ps := ["self"]) fun _ _ _ _ _ _ us hl => match us, hl with | [_], _ => rfl
  have F_we := fun_mk (st := sWell) l_we c_we k_we
  have b_we := F_we.binds (ps := ["_law_script", "_law_k"]) fun _ _ _ _ _ _ us hl => match us, hl with | [_, _], _ => rfl
  have F_dr := fun_mk (st := sDraw) l_dr c_dr k_dr
  have b_dr := F_dr.binds (ps := ["_law_well_here", "_law_many"]) fun _ _ _ _ _ _ us hl => match us, hl with | [_, _], _ => rfl
  have F_pi := fun_mk (st := sPick) l_pi c_pi k_pi
  have b_pi := F_pi.binds (ps := ["_law_well_here", "_law_row"]) fun _ _ _ _ _ _ us hl => match us, hl with | [_, _], _ => rfl
  have F_th := fun_mk (st := sLThings) l_th c_th k_th
  have b_th := F_th.binds (ps := ["_law_well_here"]) fun _ _ _ _ _ _ us hl => match us, hl with | [_], _ => rfl
  have F_pl := fun_mk (st := sLPlain) l_pl c_pl k_pl
  have b_pl := F_pl.binds (ps := ["_law_well_here", "_law_things_here"]) fun _ _ _ _ _ _ us hl => match us, hl with | [_, _], _ => rfl
  have F_dd := fun_mk (st := sLDeed) l_dd c_dd k_dd
  have b_dd := F_dd.binds (ps := ["_law_well_here", "_law_things_here"]) fun _ _ _ _ _ _ us hl => match us, hl with | [_, _], _ => rfl
  have F_ds := fun_mk (st := sDistance) l_ds c_ds k_ds
  have b_ds := F_ds.binds (ps := ["_law_well_here"]) fun _ _ _ _ _ _ us hl => match us, hl with | [_], _ => rfl
  have F_co := fun_mk (st := sCommon) l_co c_co k_co
  have b_co := F_co.binds (ps := ["_law_one", "_law_other"]) fun _ _ _ _ _ _ us hl => match us, hl with | [_, _], _ => rfl
  have F_sa := fun_mk (st := sSame) l_sa c_sa k_sa
  have b_sa := F_sa.binds (ps := ["_law_found", "_law_due"]) fun _ _ _ _ _ _ us hl => match us, hl with | [_, _], _ => rfl
  have F_st := fun_mk (st := sLStand) l_st c_st k_st
  have b_st := F_st.binds (ps := ["_law_line"]) fun _ _ _ _ _ _ us hl => match us, hl with | [_], _ => rfl
  have F_ha := fun_mk (st := sLHangs) l_ha c_ha k_ha
  have b_ha := F_ha.binds (ps := ["_law_stand_here", "_law_thing"]) fun _ _ _ _ _ _ us hl => match us, hl with | [_, _], _ => rfl
  have F_tu := fun_mk (st := sTurned) l_tu c_tu k_tu
  have b_tu := F_tu.binds (ps := ["_law_deed_here", "_law_told"]) fun _ _ _ _ _ _ us hl => match us, hl with | [_, _], _ => rfl
  have F_fi := fun_mk (st := sFirst) l_fi c_fi k_fi
  have b_fi := F_fi.binds (ps := ["_law_deed_here", "_law_told", "_law_ahead", "_law_size"]) fun _ _ _ _ _ _ us hl => match us, hl with | [_, _, _, _], _ => rfl
  have F_nu := fun_mk (st := sNum) l_nu c_nu k_nu
  have b_nu := F_nu.binds (ps := ["_law_deed_here", "_law_told", "_law_ahead", "_law_behind", "_law_size"]) fun _ _ _ _ _ _ us hl => match us, hl with | [_, _, _, _, _], _ => rfl
  have F_ch := fun_mk (st := sChg) l_ch c_ch k_ch
  have b_ch := F_ch.binds (ps := ["_law_deed_here", "_law_told", "_law_ahead", "_law_behind"]) fun _ _ _ _ _ _ us hl => match us, hl with | [_, _, _, _], _ => rfl
  have F_ft := fun_mk (st := sFits) l_ft c_ft k_ft
  have b_ft := F_ft.binds (ps := ["_law_deed_here", "_law_told", "_law_ahead", "_law_behind", "_law_size"]) fun _ _ _ _ _ _ us hl => match us, hl with | [_, _, _, _, _], _ => rfl
  have F_ri := fun_mk (st := sRight) l_ri c_ri k_ri
  have b_ri := F_ri.binds (ps := ["_law_deed_here", "_law_told", "_law_ahead", "_law_behind", "_law_size"]) fun _ _ _ _ _ _ us hl => match us, hl with | [_, _, _, _, _], _ => rfl
  have F_la := fun_mk (st := sLaw) l_la c_la k_la
  refine ⟨PySem.W.fnOf "law" "law" (defArgs sLaw) (defBody sLaw) (defScope sLaw) .none kV_la dc_la pm_la an_la cd_la ct_la, fun s v => .of_eq rfl, fun base _ _ => ?_⟩
  have G_wh : Cal l.prog w K mg base "is_whole" 1 spWhole := ⟨_, _, _, ok_whole F_wh T , PySem.W.mg_of X G a_wh, k_wh, b_wh⟩
  have G_tg : Cal l.prog w K mg base "is_thing" 1 spThg := ⟨_, _, _, ok_thg F_tg T , PySem.W.mg_of X G a_tg, k_tg, b_tg⟩
  have G_wi : Cal l.prog w K mg base "is_window" 1 spWindow := ⟨_, _, _, ok_window F_wi T , PySem.W.mg_of X G a_wi, k_wi, b_wi⟩
  have G_di : Cal l.prog w K mg base "is_distance" 2 spDist := ⟨_, _, _, ok_dist F_di T G_wh, PySem.W.mg_of X G a_di, k_di, b_di⟩
  have G_le : Cal l.prog w K mg base "is_length" 2 spLength := ⟨_, _, _, ok_length F_le T G_wh, PySem.W.mg_of X G a_le, k_le, b_le⟩
  have G_pd : Cal l.prog w K mg base "is_plain_deed" 3 spPlainD := ⟨_, _, _, ok_plainD F_pd T G_wi G_tg G_le, PySem.W.mg_of X G a_pd, k_pd, b_pd⟩
  have G_de : Cal l.prog w K mg base "is_deed" 4 spDeed := ⟨_, _, _, ok_deed F_de T G_wi G_tg G_pd, PySem.W.mg_of X G a_de, k_de, b_de⟩
  have G_w0 : CalC l.prog w K mg base "LineWork" CW 1 (spWInit CW) := ⟨_, _, _, ok_winit F_w0 T , ⟨mkW, a_w0, i_w0, kcW⟩, PySem.W.mg_of X G cW, b_w0⟩
  have G_w1 : CalM l.prog w K mg base CW "spot_at" 1 (spSpot CW) := ⟨_, _, _, ok_spot F_w1 T , ⟨a_w1, i_w1, k_w1⟩, b_w1⟩
  have G_w2 : CalM l.prog w K mg base CW "thing_at" 2 (spThing CW) := ⟨_, _, _, ok_thing F_w2 T G_w1, ⟨a_w2, i_w2, k_w2⟩, b_w2⟩
  have G_w3 : CalM l.prog w K mg base CW "shift" 1 (spShift CW) := ⟨_, _, _, ok_shift F_w3 T , ⟨a_w3, i_w3, k_w3⟩, b_w3⟩
  have G_w5 : CalM l.prog w K mg base CW "look" 3 (spLook CW) := ⟨_, _, _, ok_look F_w5 T G_w2, ⟨a_w5, i_w5, k_w5⟩, b_w5⟩
  have G_w6 : CalM l.prog w K mg base CW "peg" 3 (spAct CW .peg) := ⟨_, _, _, ok_peg F_w6 T G_w2 G_w1, ⟨a_w6, i_w6, k_w6⟩, b_w6⟩
  have G_w7 : CalM l.prog w K mg base CW "hang" 3 (spAct CW .hang) := ⟨_, _, _, ok_hang F_w7 T G_w3 G_w1 G_w2, ⟨a_w7, i_w7, k_w7⟩, b_w7⟩
  have G_w8 : CalM l.prog w K mg base CW "fetch" 2 (spAct CW .fetch) := ⟨_, _, _, ok_fetch F_w8 T G_w3 G_w1, ⟨a_w8, i_w8, k_w8⟩, b_w8⟩
  have G_wt : CalM l.prog w K mg base CW "times_to" 2 (spTimes CW) := ⟨_, _, _, ok_times F_wt T G_w1, ⟨a_wt, i_wt, k_wt⟩, b_wt⟩
  have G_w9 : CalM l.prog w K mg base CW "walk" 3 (spWalk CW) := ⟨_, _, _, ok_walk F_w9 T G_w3 G_wt, ⟨a_w9, i_w9, k_w9⟩, b_w9⟩
  have G_w4 : CalM l.prog w K mg base CW "tell" 5 (spTell CW) := ⟨_, _, _, ok_tell F_w4 T G_w2 (ok_tellP F_w4 T G_w3 G_w6 G_w7 G_w8 G_w9 G_w5) ⟨a_w4, i_w4, k_w4⟩ b_w4, ⟨a_w4, i_w4, k_w4⟩, b_w4⟩
  have G_l0 : CalC l.prog w K mg base "Line" CL 3 (spLInit K CW CL) := ⟨_, _, _, ok_linit F_l0 T G_di G_w0, ⟨mkL, a_l0, i_l0, kcL⟩, PySem.W.mg_of X G cL, b_l0⟩
  have G_l2 : CalP l.prog w K mg base CL "turn" 1 (spRead K CW CL LS.stand) := ⟨_, _, _, _, ok_turn F_l2 T , ⟨a_l2, g_l2, t_l2, _, r_l2⟩, b_l2⟩
  have G_l3 : CalP l.prog w K mg base CL "pulled" 1 (spRead K CW CL LS.lengths) := ⟨_, _, _, _, ok_pulled F_l3 T , ⟨a_l3, g_l3, t_l3, _, r_l3⟩, b_l3⟩
  have G_l6 : CalM l.prog w K mg base CL "remember" 1 (spRem K CW CL) := ⟨_, _, _, ok_rem F_l6 T , ⟨a_l6, i_l6, k_l6⟩, b_l6⟩
  have G_l7 : CalM l.prog w K mg base CL "do" 6 (spDo K CW CL) := ⟨_, _, _, ok_do F_l7 T G_de G_l6 G_w4, ⟨a_l7, i_l7, k_l7⟩, b_l7⟩
  have G_lt : CalM l.prog w K mg base CL "things" 1 (spThings K CW CL) := ⟨_, _, _, ok_things F_lt T , ⟨a_lt, i_lt, k_lt⟩, b_lt⟩
  have G_we : Cal l.prog w K mg base "_law_well" 1 (spWell K) := ⟨_, _, _, ok_well F_we T , PySem.W.mg_of X G a_we, k_we, b_we⟩
  have G_dr : Cal l.prog w K mg base "_law_draw" 1 spDraw := ⟨_, _, _, ok_draw F_dr T , PySem.W.mg_of X G a_dr, k_dr, b_dr⟩
  have G_pi : Cal l.prog w K mg base "_law_pick" 2 (spPick K) := ⟨_, _, _, ok_pick F_pi T G_dr, PySem.W.mg_of X G a_pi, k_pi, b_pi⟩
  have G_th : Cal l.prog w K mg base "_law_things" 2 spLThings := ⟨_, _, _, ok_lthings F_th T G_dr, PySem.W.mg_of X G a_th, k_th, b_th⟩
  have G_pl : Cal l.prog w K mg base "_law_plain" 3 spLPlain := ⟨_, _, _, ok_lplain F_pl T G_dr G_pi, PySem.W.mg_of X G a_pl, k_pl, b_pl⟩
  have G_dd : Cal l.prog w K mg base "_law_deed" 4 spLDeed := ⟨_, _, _, ok_ldeed F_dd T G_dr G_pl, PySem.W.mg_of X G a_dd, k_dd, b_dd⟩
  have G_ds : Cal l.prog w K mg base "_law_distance" 2 spDistance := ⟨_, _, _, ok_distance F_ds T G_dr, PySem.W.mg_of X G a_ds, k_ds, b_ds⟩
  have G_co : Cal l.prog w K mg base "_law_common" 1 spCommon := ⟨_, _, _, ok_common F_co T , PySem.W.mg_of X G a_co, k_co, b_co⟩
  have G_sa : Cal l.prog w K mg base "_law_same" 1 spSame := ⟨_, _, _, ok_same F_sa T , PySem.W.mg_of X G a_sa, k_sa, b_sa⟩
  have G_st : Cal l.prog w K mg base "_law_stand" 3 (spLStand K CW CL) := ⟨_, _, _, ok_lstand F_st T G_lt G_l2 G_l3, PySem.W.mg_of X G a_st, k_st, b_st⟩
  have G_ha : Cal l.prog w K mg base "_law_hangs" 1 spLHangs := ⟨_, _, _, ok_lhangs F_ha T , PySem.W.mg_of X G a_ha, k_ha, b_ha⟩
  have G_tu : Cal l.prog w K mg base "_law_turned" 1 spTurned := ⟨_, _, _, ok_turned F_tu T , PySem.W.mg_of X G a_tu, k_tu, b_tu⟩
  have G_fi : Cal l.prog w K mg base "_law_is_first" 1 spFirst := ⟨_, _, _, ok_first F_fi T , PySem.W.mg_of X G a_fi, k_fi, b_fi⟩
  have G_nu : Cal l.prog w K mg base "_law_number_fits" 2 spNum := ⟨_, _, _, ok_num F_nu T G_co G_ha G_fi, PySem.W.mg_of X G a_nu, k_nu, b_nu⟩
  have G_ch : Cal l.prog w K mg base "_law_changed_things" 1 spChg := ⟨_, _, _, ok_chg F_ch T , PySem.W.mg_of X G a_ch, k_ch, b_ch⟩
  have G_ft : Cal l.prog w K mg base "_law_fits" 3 spFits := ⟨_, _, _, ok_fits F_ft T G_sa G_ha G_fi G_nu G_tu G_ch, PySem.W.mg_of X G a_ft, k_ft, b_ft⟩
  have G_ri : Cal l.prog w K mg base "_law_right" 4 spRight := ⟨_, _, _, ok_right F_ri T G_sa G_ft, PySem.W.mg_of X G a_ri, k_ri, b_ri⟩
  exact ok_law F_la T G_we G_dr G_ds G_th G_l0 G_dd G_st G_l7 G_ri
theorem walk {l : PySem.W.OpenLaw} {q : Program} {loose : List Str} {XP : (Str → Option Value) → Heap → Prop} {YP : World → Heap → Prop} {d : DefRec} {K : Params → PySem.W.Frag} (hn : l.most = some 63) (hdf : d.params.defaults = [])
    (hY : ∀ (w : World) (h : Heap), YP w h → (K w.params).In h)
    (F : ∀ (w : World) (mg : Str → Option Value) (fa : Addr) (h : Heap), (K w.params).In h → h.Ns mainGlobals mg → mg d.name = some (.ref fa) →
      ∃ fd : FuncData, (∀ (s : Shared) (u : Value), BindsTo s fd ⟨[u], []⟩ [("_law_script", u)]) ∧ ∀ base : Heap, (K w.params).In base → base.Ns mainGlobals mg → FnOk l.prog w (K w.params) mg base CX0 7 fa fd ["_law_script"] (spLaw (K w.params))) :
    PySem.W.WalkO q loose XP YP l.row.toRowW d [] (fun f vs => PySem.call f vs) :=
  L2.walk_of (n := 63) (k := 7) (x := "_law_script") (CX := fun _ => CX0) (sp := fun w => spLaw (K w.params)) hn (by decide) hdf ⟨rfl, by decide, by decide⟩ hY F (fun _ _ a ns hl _ hS => ⟨a, ns, rfl, hS, hl, fun _ => rfl⟩) fun _ _ _ _ _ z => z
end Rn
open PySem PySem.W PyProof.Rows in
set_option maxRecDepth 100000 in
set_option maxHeartbeats 0 in
theorem PySem.Challenge.cw_roundline_k74_whole_told_and_turned_holds : PySem.Challenge.rw_roundline_k74_whole_told_and_turned.Holds := by
  w_on; o_law; k_head; (case hw => w_witness2)
  k_fill
  refine Rn.walk (l := PySem.Challenge.rw_roundline_k74_whole_told_and_turned) rfl rfl (fun w h Y => PySem.W.kIn_of Y) ?F
  case F =>
    intro w mg fa h KX G hmg
    refine' Rn.all_mk KX G hmg ?cW ?cL ?a_wh ?l_wh ?c_wh ?k_wh ?a_tg ?l_tg ?c_tg ?k_tg ?a_wi ?l_wi ?c_wi ?k_wi ?a_di ?l_di ?c_di ?k_di ?a_le ?l_le ?c_le ?k_le ?a_pd ?l_pd ?c_pd ?k_pd ?a_de ?l_de ?c_de ?k_de ?a_w0 ?i_w0 ?l_w0 ?c_w0 ?k_w0 ?a_w1 ?i_w1 ?l_w1 ?c_w1 ?k_w1 ?a_w2 ?i_w2 ?l_w2 ?c_w2 ?k_w2 ?a_w3 ?i_w3 ?l_w3 ?c_w3 ?k_w3 ?a_w5 ?i_w5 ?l_w5 ?c_w5 ?k_w5 ?a_w6 ?i_w6 ?l_w6 ?c_w6 ?k_w6 ?a_w7 ?i_w7 ?l_w7 ?c_w7 ?k_w7 ?a_w8 ?i_w8 ?l_w8 ?c_w8 ?k_w8 ?a_wt ?i_wt ?l_wt ?c_wt ?k_wt ?a_w9 ?i_w9 ?l_w9 ?c_w9 ?k_w9 ?a_w4 ?i_w4 ?l_w4 ?c_w4 ?k_w4 ?a_l0 ?i_l0 ?l_l0 ?c_l0 ?k_l0 ?a_l2 ?g_l2 ?t_l2 ?r_l2 ?l_l2 ?c_l2 ?k_l2 ?a_l3 ?g_l3 ?t_l3 ?r_l3 ?l_l3 ?c_l3 ?k_l3 ?a_l6 ?i_l6 ?l_l6 ?c_l6 ?k_l6 ?a_l7 ?i_l7 ?l_l7 ?c_l7 ?k_l7 ?a_lt ?i_lt ?l_lt ?c_lt ?k_lt ?a_we ?l_we ?c_we ?k_we ?a_dr ?l_dr ?c_dr ?k_dr ?a_pi ?l_pi ?c_pi ?k_pi ?a_th ?l_th ?c_th ?k_th ?a_pl ?l_pl ?c_pl ?k_pl ?a_dd ?l_dd ?c_dd ?k_dd ?a_ds ?l_ds ?c_ds ?k_ds ?a_co ?l_co ?c_co ?k_co ?a_sa ?l_sa ?c_sa ?k_sa ?a_st ?l_st ?c_st ?k_st ?a_ha ?l_ha ?c_ha ?k_ha ?a_tu ?l_tu ?c_tu ?k_tu ?a_fi ?l_fi ?c_fi ?k_fi ?a_nu ?l_nu ?c_nu ?k_nu ?a_ch ?l_ch ?c_ch ?k_ch ?a_ft ?l_ft ?c_ft ?k_ft ?a_ri ?l_ri ?c_ri ?k_ri ?a_la ?l_la ?c_la ?k_la ?pgW ?hdW ?poW ?saW ?mkW ?kcW ?pgL ?hdL ?poL ?saL ?mkL ?kcL ?nCW_half ?nCW_stand ?nCW_hung ?nCW_lengths ?nCL_length ?nCL_work ?nCL_done ?nCL_earlier ?nCL_marks ?z_len ?z_int ?z_str ?z_bool ?z_tuple ?z_list ?z_dict ?z_abs ?z_max ?z_min ?z_all ?z_isinstance ?z_range ?z_sorted ?v_let ?v_win ?v_wl ?v_lon ?v_gd ?v_gp ?v_gs
    (case cW => k_is)
    (case cL => k_is)
    (case a_wh => k_is)
    (case l_wh => k_is)
    (case c_wh => k_is)
    (case k_wh => k_is)
    (case a_tg => k_is)
    (case l_tg => k_is)
    (case c_tg => k_is)
    (case k_tg => k_is)
    (case a_wi => k_is)
    (case l_wi => k_is)
    (case c_wi => k_is)
    (case k_wi => k_is)
    (case a_di => k_is)
    (case l_di => k_is)
    (case c_di => k_is)
    (case k_di => k_is)
    (case a_le => k_is)
    (case l_le => k_is)
    (case c_le => k_is)
    (case k_le => k_is)
    (case a_pd => k_is)
    (case l_pd => k_is)
    (case c_pd => k_is)
    (case k_pd => k_is)
    (case a_de => k_is)
    (case l_de => k_is)
    (case c_de => k_is)
    (case k_de => k_is)
    (case a_w0 => k_is)
    (case i_w0 => k_is)
    (case l_w0 => k_is)
    (case c_w0 => k_is)
    (case k_w0 => k_is)
    (case a_w1 => k_is)
    (case i_w1 => k_is)
    (case l_w1 => k_is)
    (case c_w1 => k_is)
    (case k_w1 => k_is)
    (case a_w2 => k_is)
    (case i_w2 => k_is)
    (case l_w2 => k_is)
    (case c_w2 => k_is)
    (case k_w2 => k_is)
    (case a_w3 => k_is)
    (case i_w3 => k_is)
    (case l_w3 => k_is)
    (case c_w3 => k_is)
    (case k_w3 => k_is)
    (case a_w5 => k_is)
    (case i_w5 => k_is)
    (case l_w5 => k_is)
    (case c_w5 => k_is)
    (case k_w5 => k_is)
    (case a_w6 => k_is)
    (case i_w6 => k_is)
    (case l_w6 => k_is)
    (case c_w6 => k_is)
    (case k_w6 => k_is)
    (case a_w7 => k_is)
    (case i_w7 => k_is)
    (case l_w7 => k_is)
    (case c_w7 => k_is)
    (case k_w7 => k_is)
    (case a_w8 => k_is)
    (case i_w8 => k_is)
    (case l_w8 => k_is)
    (case c_w8 => k_is)
    (case k_w8 => k_is)
    (case a_wt => k_is)
    (case i_wt => k_is)
    (case l_wt => k_is)
    (case c_wt => k_is)
    (case k_wt => k_is)
    (case a_w9 => k_is)
    (case i_w9 => k_is)
    (case l_w9 => k_is)
    (case c_w9 => k_is)
    (case k_w9 => k_is)
    (case a_w4 => k_is)
    (case i_w4 => k_is)
    (case l_w4 => k_is)
    (case c_w4 => k_is)
    (case k_w4 => k_is)
    (case a_l0 => k_is)
    (case i_l0 => k_is)
    (case l_l0 => k_is)
    (case c_l0 => k_is)
    (case k_l0 => k_is)
    (case a_l2 => k_is)
    (case g_l2 => k_is)
    (case t_l2 => k_is)
    (case r_l2 => k_is)
    (case l_l2 => k_is)
    (case c_l2 => k_is)
    (case k_l2 => k_is)
    (case a_l3 => k_is)
    (case g_l3 => k_is)
    (case t_l3 => k_is)
    (case r_l3 => k_is)
    (case l_l3 => k_is)
    (case c_l3 => k_is)
    (case k_l3 => k_is)
    (case a_l6 => k_is)
    (case i_l6 => k_is)
    (case l_l6 => k_is)
    (case c_l6 => k_is)
    (case k_l6 => k_is)
    (case a_l7 => k_is)
    (case i_l7 => k_is)
    (case l_l7 => k_is)
    (case c_l7 => k_is)
    (case k_l7 => k_is)
    (case a_lt => k_is)
    (case i_lt => k_is)
    (case l_lt => k_is)
    (case c_lt => k_is)
    (case k_lt => k_is)
    (case a_we => k_is)
    (case l_we => k_is)
    (case c_we => k_is)
    (case k_we => k_is)
    (case a_dr => k_is)
    (case l_dr => k_is)
    (case c_dr => k_is)
    (case k_dr => k_is)
    (case a_pi => k_is)
    (case l_pi => k_is)
    (case c_pi => k_is)
    (case k_pi => k_is)
    (case a_th => k_is)
    (case l_th => k_is)
    (case c_th => k_is)
    (case k_th => k_is)
    (case a_pl => k_is)
    (case l_pl => k_is)
    (case c_pl => k_is)
    (case k_pl => k_is)
    (case a_dd => k_is)
    (case l_dd => k_is)
    (case c_dd => k_is)
    (case k_dd => k_is)
    (case a_ds => k_is)
    (case l_ds => k_is)
    (case c_ds => k_is)
    (case k_ds => k_is)
    (case a_co => k_is)
    (case l_co => k_is)
    (case c_co => k_is)
    (case k_co => k_is)
    (case a_sa => k_is)
    (case l_sa => k_is)
    (case c_sa => k_is)
    (case k_sa => k_is)
    (case a_st => k_is)
    (case l_st => k_is)
    (case c_st => k_is)
    (case k_st => k_is)
    (case a_ha => k_is)
    (case l_ha => k_is)
    (case c_ha => k_is)
    (case k_ha => k_is)
    (case a_tu => k_is)
    (case l_tu => k_is)
    (case c_tu => k_is)
    (case k_tu => k_is)
    (case a_fi => k_is)
    (case l_fi => k_is)
    (case c_fi => k_is)
    (case k_fi => k_is)
    (case a_nu => k_is)
    (case l_nu => k_is)
    (case c_nu => k_is)
    (case k_nu => k_is)
    (case a_ch => k_is)
    (case l_ch => k_is)
    (case c_ch => k_is)
    (case k_ch => k_is)
    (case a_ft => k_is)
    (case l_ft => k_is)
    (case c_ft => k_is)
    (case k_ft => k_is)
    (case a_ri => k_is)
    (case l_ri => k_is)
    (case c_ri => k_is)
    (case k_ri => k_is)
    (case a_la => k_is)
    (case l_la => k_is)
    (case c_la => k_is)
    (case k_la => k_is)
    (case pgW => k_is)
    (case hdW => k_is)
    (case poW => k_is)
    (case saW => k_is)
    (case mkW => k_is)
    (case kcW => k_is)
    (case pgL => k_is)
    (case hdL => k_is)
    (case poL => k_is)
    (case saL => k_is)
    (case mkL => k_is)
    (case kcL => k_is)
    (case nCW_half => k_is)
    (case nCW_stand => k_is)
    (case nCW_hung => k_is)
    (case nCW_lengths => k_is)
    (case nCL_length => k_is)
    (case nCL_work => k_is)
    (case nCL_done => k_is)
    (case nCL_earlier => k_is)
    (case nCL_marks => k_is)
    (case z_len => k_is)
    (case z_int => k_is)
    (case z_str => k_is)
    (case z_bool => k_is)
    (case z_tuple => k_is)
    (case z_list => k_is)
    (case z_dict => k_is)
    (case z_abs => k_is)
    (case z_max => k_is)
    (case z_min => k_is)
    (case z_all => k_is)
    (case z_isinstance => k_is)
    (case z_range => k_is)
    (case z_sorted => k_is)
    (case v_let => k_is)
    (case v_win => k_is)
    (case v_wl => k_is)
    (case v_lon => k_is)
    (case v_gd => k_is)
    (case v_gp => k_is)
    (case v_gs => k_is)
