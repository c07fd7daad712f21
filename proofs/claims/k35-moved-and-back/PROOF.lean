import PyProof.Rows.All
import Wide.All
import OpenK.AllK
import Wide.FinOn
import HandS.ForMost
import HandS.Evl
import HandS.IsInst
import HandS.Defaults
import HandS.Style
import HandS.Conv
import HandS.TupAny
import PySem.Challenge.RW_kernelsay_k35_moved_and_back
import HandS.More
import KE.GoesMore
import HandS.NoneIn
import HandS.EndBits
set_option Elab.async false
set_option linter.all false
set_option maxRecDepth 100000
set_option maxHeartbeats 4000000
namespace D
open PySem L2 Evl

/-- no arg with a star -/
def plainArg : Expr → Bool
  | .Starred .. => false
  | _ => true
theorem starC {e : Expr} {es : List Expr} {env : Env} (h : plainArg e = true) : starEach (e :: es) env = (false, eval e env) :: starEach es env := by
  cases e <;> first | rfl | cases h

/-! ### data stays under an extension -/
mutual
theorem dpx {K : PySem.W.Frag} {H H' : Hp} (e : Ex H H') : ∀ (d : PyData) (v : V), Dp K H v d → Dp K H' v d
  | .none, _, h => by cases h; exact .non
  | .bool b, _, h => by cases h; exact .bl b
  | .int i, _, h => by cases h; exact .int i
  | .str x, _, h => by cases h; exact .str x
  | .list ds, _, h => by
    cases h with
    | lst hs ha => exact .lst (ex_l e hs) (dpxs e ds _ ha)
  | .tuple ds, _, h => by
    cases h with
    | tup hs ha => exact .tup (ex_t e hs) (dpxs e ds _ ha)
  | .dict _, _, h => by cases h
theorem dpxs {K : PySem.W.Frag} {H H' : Hp} (e : Ex H H') : ∀ (ds : List PyData) (vs : List V), DpAll K H vs ds → DpAll K H' vs ds
  | [], _, h => by cases h; exact .nil
  | d :: ds, _, h => by
    cases h with
    | cons h1 h2 => exact .cons (dpx e d _ h1) (dpxs e ds _ h2)
end

/-- what a slot holds: data, or a value as it is -/
inductive R where
  | d (x : PyData)
  | r (v : V)
  /-- a list of one's own -/
  | l (ds : List PyData)
def RP (K : PySem.W.Frag) (H : Hp) (v : V) : R → Prop
  | .d x => Dp K H v x
  | .r w => v = w
  | .l ds => ∃ p vs, v = .ref p ∧ H p = some (.lst vs) ∧ DpAll K H vs ds
inductive RPs (K : PySem.W.Frag) (H : Hp) : List V → List R → Prop
  | nil : RPs K H [] []
  | cons {v : V} {vs : List V} {r : R} {rs : List R} : RP K H v r → RPs K H vs rs → RPs K H (v :: vs) (r :: rs)
theorem RP.ex {K : PySem.W.Frag} {H H' : Hp} {v : V} {r : R} (e : Ex H H') (h : RP K H v r) : RP K H' v r := by
  cases r with
  | d x => exact dpx e x v h
  | r w => exact h
  | l ds =>
    obtain ⟨p, vs, e1, e2, e3⟩ := h
    exact ⟨p, vs, e1, e p _ e2, dpxs e ds vs e3⟩
theorem RP.list {K : PySem.W.Frag} {H : Hp} {v : V} {ds : List PyData} (h : RP K H v (.l ds)) : RP K H v (.d (.list ds)) := by
  obtain ⟨p, vs, rfl, e2, e3⟩ := h
  exact .lst (sq_of e2) e3
theorem RPs.ex {K : PySem.W.Frag} {H H' : Hp} (e : Ex H H') : ∀ {vs : List V} {rs : List R}, RPs K H vs rs → RPs K H' vs rs
  | _, _, .nil => .nil
  | _, _, .cons h t => .cons (h.ex e) (t.ex e)
theorem RPs.len {K : PySem.W.Frag} {H : Hp} : ∀ {vs : List V} {rs : List R}, RPs K H vs rs → vs.length = rs.length
  | _, _, .nil => rfl
  | _, _, .cons _ t => by rw [List.length_cons, List.length_cons, t.len]
theorem RPs.dp {K : PySem.W.Frag} {H : Hp} : ∀ {ds : List PyData} {vs : List V}, RPs K H vs (ds.map R.d) → DpAll K H vs ds
  | [], _, h => by cases h; exact .nil
  | d :: ds, _, h => by
    cases h with
    | cons a b => exact .cons a b.dp
theorem dpl {K : PySem.W.Frag} {H : Hp} : ∀ {vs : List V} {ds : List PyData}, DpAll K H vs ds → vs.length = ds.length
  | _, _, .nil => rfl
  | _, _, .cons _ t => by rw [List.length_cons, List.length_cons, dpl t]
theorem dpget {K : PySem.W.Frag} {H : Hp} : ∀ {vs : List V} {ds : List PyData} {i : Nat} {d : PyData}, DpAll K H vs ds → ds[i]? = some d → ∃ v, vs[i]? = some v ∧ Dp K H v d
  | _, _, _, _, .nil, h => by simp at h
  | _, _, 0, d, .cons h _, e => by simp at e; subst e; exact ⟨_, rfl, h⟩
  | _, _, i + 1, d, .cons _ t, e => by
    obtain ⟨v, h1, h2⟩ := dpget (i := i) t (by simpa using e)
    exact ⟨v, by simpa using h1, h2⟩
theorem dpget' {K : PySem.W.Frag} {H : Hp} : ∀ {vs : List V} {ds : List PyData} {i : Nat} {v : V}, DpAll K H vs ds → vs[i]? = some v → ∃ d, ds[i]? = some d ∧ Dp K H v d
  | _, _, _, _, .nil, h => by simp at h
  | _, _, 0, d, .cons h _, e => by simp at e; subst e; exact ⟨_, rfl, h⟩
  | _, _, i + 1, d, .cons _ t, e => by
    obtain ⟨v, h1, h2⟩ := dpget' (i := i) t (by simpa using e)
    exact ⟨v, by simpa using h1, h2⟩

/-- the slots -/
abbrev Rho := List (Option R)
def Sl (K : PySem.W.Frag) (H : Hp) (σ : St) (ρ : Rho) : Prop := ∀ (i : Nat) (r : R), ρ[i]? = some (some r) → ∃ v, σ[i]? = some (some v) ∧ RP K H v r
theorem Sl.ex {K : PySem.W.Frag} {H H' : Hp} {σ : St} {ρ : Rho} (e : Ex H H') (h : Sl K H σ ρ) : Sl K H' σ ρ := fun i r q =>
  let ⟨v, h1, h2⟩ := h i r q
  ⟨v, h1, h2.ex e⟩
theorem Sl.set {K : PySem.W.Frag} {H : Hp} {σ : St} {ρ : Rho} {i : Nat} {v : V} {r : R} (h : Sl K H σ ρ) (hl : i < σ.length) (q : RP K H v r) : Sl K H (σ.set i (some v)) (ρ.set i (some r)) := fun j t e => by
  by_cases hj : i = j
  · subst hj
    by_cases hr : i < ρ.length
    · rw [List.getElem?_set_self hr] at e
      cases e
      exact ⟨v, List.getElem?_set_self hl, q⟩
    · rw [List.getElem?_eq_none (by simpa using hr)] at e
      cases e
  · rw [List.getElem?_set_ne hj] at e
    obtain ⟨u, h1, h2⟩ := h j t e
    exact ⟨u, by rw [List.getElem?_set_ne hj]; exact h1, h2⟩

/-! ### what may change -/
/-- the heap without some addresses -/
def les (S : List Addr) (H : Hp) : Hp := fun a => if a ∈ S then none else H a
theorem les_sub (S : List Addr) (H : Hp) : Ex (les S H) H := fun a o h => by
  unfold les at h
  split at h
  · cases h
  · exact h
theorem les_ex {S : List Addr} {H H' : Hp} (e : Ex H H') : Ex (les S H) (les S H') := fun a o h => by
  unfold les at h ⊢
  split at h
  · cases h
  · rename_i z
    rw [if_neg z]
    exact e a o h
theorem les_out {S : List Addr} {H : Hp} {a : Addr} (h : a ∉ S) : les S H a = H a := if_neg h
theorem les_in {S : List Addr} {H : Hp} {a : Addr} (h : a ∈ S) : les S H a = none := if_pos h
structure Mem (κ : Type) where
  S : List Addr
  okG : κ → Hp → Hp → Prop
  fr : ∀ {k G G' H H'}, okG k G H → Ex G G' → (∀ a ∈ S, H' a = H a) → okG k G' H'
  th : ∀ {k G H}, okG k G H → ∀ a ∈ S, ∃ o, H a = some o
def Mem.im {κ : Type} (M : Mem κ) (H : Hp) : Hp := les M.S H
def Mem.ok {κ : Type} (M : Mem κ) (k : κ) (H : Hp) : Prop := M.okG k (M.im H) H
theorem Mem.sub {κ : Type} (M : Mem κ) (H : Hp) : Ex (M.im H) H := les_sub _ _
theorem Mem.up {κ : Type} (M : Mem κ) {k : κ} {H H2 : Hp} (h : M.ok k H) (e : Ex H H2) : M.ok k H2 ∧ Ex (M.im H) (M.im H2) := by
  refine ⟨M.fr h (les_ex e) fun a ha => ?_, les_ex e⟩
  obtain ⟨o, q⟩ := M.th h a ha
  rw [q, e a o q]
theorem Mem.new {κ : Type} (M : Mem κ) {k : κ} {H : Hp} {p : Addr} {o : HO} (h : M.ok k H) (hp : H p = none) : M.im (upd H p o) p = some o := by
  have : p ∉ M.S := fun z => by
    obtain ⟨o, q⟩ := M.th h p z
    rw [hp] at q
    cases q
  unfold Mem.im
  rw [les_out this, upd_same]
/-- nothing may change -/
def M0 : Mem Unit := ⟨[], fun _ _ _ => True, fun _ _ _ => trivial, fun _ _ h => nomatch h⟩

section
variable {κ : Type} {M : Mem κ} {X : Cx}
def Po (M : Mem κ) (X : Cx) (H : Hp) (k : κ) (r : R) (v : V) (H' : Hp) : Prop := Ex (M.im H) (M.im H') ∧ M.ok k H' ∧ RP X.K (M.im H') v r
structure SE (M : Mem κ) (X : Cx) (e : Expr) (ρ : Rho) (k : κ) (r : R) (k' : κ) : Prop where
  h : ∀ pins s σ H, Inv X pins σ H s → Sl X.K (M.im H) σ ρ → M.ok k H → wpAny (model X.prog X.w) X.A (eval e X.env) (EP X pins σ (Po M X H k' r)) X.xe s
def tS (M : Mem κ) (X : Cx) (e : Expr) : TE := fun σ H Q => ∃ ρ k r k', SE M X e ρ k r k' ∧ Sl X.K (M.im H) σ ρ ∧ M.ok k H ∧ ∀ v H', Po M X H k' r v H' → Q v H'
theorem pes {e : Expr} : PE X e (tS M X e) := ⟨fun pins s σ H Q I h => by
  obtain ⟨ρ, k, r, k', h, a, b, c⟩ := h
  exact thn (h.h pins s σ H I a b) fun u s' ⟨v, H', I', rv, p⟩ => ⟨v, H', I', rv, c v H' p⟩⟩
theorem SE.of {e : Expr} {te : TE} {ρ : Rho} {k k' : κ} {r : R} (h : PE X e te) (q : ∀ σ H, Sl X.K (M.im H) σ ρ → M.ok k H → te σ H (Po M X H k' r)) : SE M X e ρ k r k' :=
  ⟨fun pins s σ H I a b => h.run pins s σ H _ I (q σ H a b)⟩
/-- tests -/
def PoT (M : Mem κ) (H : Hp) (k : κ) (b : Bool) (c : Bool) (H' : Hp) : Prop := c = b ∧ Ex (M.im H) (M.im H') ∧ M.ok k H'
structure ST (M : Mem κ) (X : Cx) (e : Expr) (ρ : Rho) (k : κ) (b : Bool) (k' : κ) : Prop where
  h : ∀ pins s σ H, Inv X pins σ H s → Sl X.K (M.im H) σ ρ → M.ok k H → wpAny (model X.prog X.w) X.A (isTrue e X.env (eval e X.env)) (TP X pins σ (PoT M H k' b)) X.xe s
def tT (M : Mem κ) (X : Cx) (e : Expr) : TT := fun σ H Q => ∃ ρ k b k', ST M X e ρ k b k' ∧ Sl X.K (M.im H) σ ρ ∧ M.ok k H ∧ ∀ c H', PoT M H k' b c H' → Q c H'
theorem pts {e : Expr} : PT X e (tT M X e) := ⟨fun pins s σ H Q I h => by
  obtain ⟨ρ, k, r, k', h, a, b, c⟩ := h
  exact thn (h.h pins s σ H I a b) fun u s' ⟨H', I', p⟩ => ⟨H', I', c u H' p⟩⟩
theorem ST.of {e : Expr} {te : TT} {ρ : Rho} {k k' : κ} {b : Bool} (h : PT X e te) (q : ∀ σ H, Sl X.K (M.im H) σ ρ → M.ok k H → te σ H (PoT M H k' b)) : ST M X e ρ k b k' :=
  ⟨fun pins s σ H I a b => h.run pins s σ H _ I (q σ H a b)⟩
/-- .. whatever the whole is -/
structure SW (M : Mem κ) (X : Cx) (e : Expr) (ρ : Rho) (k : κ) (b : Bool) (k' : κ) : Prop where
  h : ∀ whole pins s σ H, Inv X pins σ H s → Sl X.K (M.im H) σ ρ → M.ok k H → wpAny (model X.prog X.w) X.A (isTrue e X.env whole) (TP X pins σ (PoT M H k' b)) X.xe s
def tW (M : Mem κ) (X : Cx) (e : Expr) : TT := fun σ H Q => ∃ ρ k b k', SW M X e ρ k b k' ∧ Sl X.K (M.im H) σ ρ ∧ M.ok k H ∧ ∀ c H', PoT M H k' b c H' → Q c H'
theorem pws {e : Expr} : PW X e (tW M X e) := ⟨fun wh pins s σ H Q I h => by
  obtain ⟨ρ, k, r, k', h, a, b, c⟩ := h
  exact thn (h.h wh pins s σ H I a b) fun u s' ⟨H', I', p⟩ => ⟨H', I', c u H' p⟩⟩
theorem SW.of {e : Expr} {te : TT} {ρ : Rho} {k k' : κ} {b : Bool} (h : PW X e te) (q : ∀ σ H, Sl X.K (M.im H) σ ρ → M.ok k H → te σ H (PoT M H k' b)) : SW M X e ρ k b k' :=
  ⟨fun wh pins s σ H I a b => h.run wh pins s σ H _ I (q σ H a b)⟩
theorem SW.st {e : Expr} {ρ : Rho} {k k' : κ} {b : Bool} (h : SW M X e ρ k b k') : ST M X e ρ k b k' := ⟨h.h _⟩
/-- argument lists -/
def PoA (M : Mem κ) (X : Cx) (H : Hp) (k : κ) (rs : List R) (vs : List V) (H' : Hp) : Prop := Ex (M.im H) (M.im H') ∧ M.ok k H' ∧ RPs X.K (M.im H') vs rs
structure SA (M : Mem κ) (X : Cx) (es : List Expr) (ρ : Rho) (k : κ) (rs : List R) (k' : κ) : Prop where
  h : ∀ pos pins s σ H, Inv X pins σ H s → Sl X.K (M.im H) σ ρ → M.ok k H → wpAny (model X.prog X.w) X.A (spliced (backTo pos (starEach es X.env))) (AP X pins σ (PoA M X H k' rs)) X.xe s
def tA (M : Mem κ) (X : Cx) (es : List Expr) : TA := fun σ H Q => ∃ ρ k rs k', SA M X es ρ k rs k' ∧ Sl X.K (M.im H) σ ρ ∧ M.ok k H ∧ ∀ vs H', PoA M X H k' rs vs H' → Q vs H'
theorem pas {es : List Expr} : PA X es (tA M X es) := ⟨fun pos pins s σ H Q I h => by
  obtain ⟨ρ, k, r, k', h, a, b, c⟩ := h
  exact thn (h.h pos pins s σ H I a b) fun u s' ⟨vs, H', I', rv, p⟩ => ⟨vs, H', I', rv, c vs H' p⟩⟩
theorem SA.of {es : List Expr} {te : TA} {ρ : Rho} {k k' : κ} {rs : List R} (h : PA X es te) (q : ∀ σ H, Sl X.K (M.im H) σ ρ → M.ok k H → te σ H (PoA M X H k' rs)) : SA M X es ρ k rs k' :=
  ⟨fun pos pins s σ H I a b => h.run pos pins s σ H _ I (q σ H a b)⟩

/-! ### statements -/
structure Pst (κ : Type) where
  nx : Rho → κ → Prop
  rt : R → κ → Prop
  bk : Rho → κ → Prop := fun _ _ => False
  ct : Rho → κ → Prop := fun _ _ => False
def PoS (M : Mem κ) (X : Cx) (H : Hp) (N : Rho → κ → Prop) (σ' : St) (H' : Hp) : Prop := ∃ ρ' k', σ'.length = X.N.length ∧ Ex (M.im H) (M.im H') ∧ M.ok k' H' ∧ Sl X.K (M.im H') σ' ρ' ∧ N ρ' k'
def PoR (M : Mem κ) (X : Cx) (H : Hp) (N : R → κ → Prop) (v : V) (H' : Hp) : Prop := ∃ r k', Po M X H k' r v H' ∧ N r k'
def Pst.ends (P : Pst κ) (M : Mem κ) (X : Cx) (H : Hp) : Ends := ⟨PoS M X H P.nx, PoR M X H P.rt, PoS M X H P.bk, PoS M X H P.ct⟩
structure SS (M : Mem κ) (X : Cx) (st : Stmt) (ρ : Rho) (k : κ) (P : Pst κ) : Prop where
  h : ∀ pins s σ H, Inv X pins σ H s → Sl X.K (M.im H) σ ρ → M.ok k H → wpAny (model X.prog X.w) X.A (exec st X.env) (SP X pins (P.ends M X H)) X.xe s
structure SB (M : Mem κ) (X : Cx) (st : List Stmt) (ρ : Rho) (k : κ) (P : Pst κ) : Prop where
  h : ∀ pins s σ H, Inv X pins σ H s → Sl X.K (M.im H) σ ρ → M.ok k H → wpAny (model X.prog X.w) X.A (execs st X.env) (SP X pins (P.ends M X H)) X.xe s
theorem SP.imp {pins : List (Addr × Obj)} {D D' : Ends} {f : Flow} {s : Shared} (h : SP X pins D f s) (h1 : ∀ σ H, D.nx σ H → D'.nx σ H) (h2 : ∀ v H, D.rt v H → D'.rt v H) (h3 : ∀ σ H, D.bk σ H → D'.bk σ H) (h4 : ∀ σ H, D.ct σ H → D'.ct σ H) : SP X pins D' f s := by
  cases f with
  | next => obtain ⟨σ', H', I, q⟩ := h; exact ⟨σ', H', I, h1 _ _ q⟩
  | brk => obtain ⟨σ', H', I, q⟩ := h; exact ⟨σ', H', I, h3 _ _ q⟩
  | cont => obtain ⟨σ', H', I, q⟩ := h; exact ⟨σ', H', I, h4 _ _ q⟩
  | ret u => obtain ⟨v, σ', H', I, r, q⟩ := h; exact ⟨v, σ', H', I, r, h2 _ _ q⟩
def tSS (M : Mem κ) (X : Cx) (st : Stmt) : TS := fun D σ H => ∃ ρ k P, SS M X st ρ k P ∧ Sl X.K (M.im H) σ ρ ∧ M.ok k H ∧ (∀ σ' H', PoS M X H P.nx σ' H' → D.nx σ' H') ∧ (∀ v H', PoR M X H P.rt v H' → D.rt v H') ∧ (∀ σ' H', PoS M X H P.bk σ' H' → D.bk σ' H') ∧ (∀ σ' H', PoS M X H P.ct σ' H' → D.ct σ' H')
def tSB (M : Mem κ) (X : Cx) (st : List Stmt) : TS := fun D σ H => ∃ ρ k P, SB M X st ρ k P ∧ Sl X.K (M.im H) σ ρ ∧ M.ok k H ∧ (∀ σ' H', PoS M X H P.nx σ' H' → D.nx σ' H') ∧ (∀ v H', PoR M X H P.rt v H' → D.rt v H') ∧ (∀ σ' H', PoS M X H P.bk σ' H' → D.bk σ' H') ∧ (∀ σ' H', PoS M X H P.ct σ' H' → D.ct σ' H')
theorem pss' {st : Stmt} : PS X st (tSS M X st) := ⟨fun pins s σ H D I h => by
  obtain ⟨ρ, k, P, h, a, b, c1, c2, c3, c4⟩ := h
  exact thn (h.h pins s σ H I a b) fun f s' q => SP.imp q c1 c2 c3 c4⟩
theorem psb {st : List Stmt} : PSs X st (tSB M X st) := ⟨fun pins s σ H D I h => by
  obtain ⟨ρ, k, P, h, a, b, c1, c2, c3, c4⟩ := h
  exact thn (h.h pins s σ H I a b) fun f s' q => SP.imp q c1 c2 c3 c4⟩
theorem SS.of {st : Stmt} {t : TS} {ρ : Rho} {k : κ} {P : Pst κ} (h : PS X st t) (q : ∀ σ H, σ.length = X.N.length → Sl X.K (M.im H) σ ρ → M.ok k H → t (P.ends M X H) σ H) : SS M X st ρ k P :=
  ⟨fun pins s σ H I a b => h.run pins s σ H _ I (q σ H I.len a b)⟩
theorem SB.of {st : List Stmt} {t : TS} {ρ : Rho} {k : κ} {P : Pst κ} (h : PSs X st t) (q : ∀ σ H, σ.length = X.N.length → Sl X.K (M.im H) σ ρ → M.ok k H → t (P.ends M X H) σ H) : SB M X st ρ k P :=
  ⟨fun pins s σ H I a b => h.run pins s σ H _ I (q σ H I.len a b)⟩
theorem SB.imp {st : List Stmt} {ρ : Rho} {k : κ} {P P' : Pst κ} (h : SB M X st ρ k P) (h1 : ∀ ρ k, P.nx ρ k → P'.nx ρ k) (h2 : ∀ r k, P.rt r k → P'.rt r k) (h3 : ∀ ρ k, P.bk ρ k → P'.bk ρ k) (h4 : ∀ ρ k, P.ct ρ k → P'.ct ρ k) : SB M X st ρ k P' :=
  ⟨fun pins s σ H I a b => thn (h.h pins s σ H I a b) fun f s' q => SP.imp q (fun _ _ ⟨ρ', k', l, a, b, c, d⟩ => ⟨ρ', k', l, a, b, c, h1 _ _ d⟩) (fun _ _ ⟨r, k', a, d⟩ => ⟨r, k', a, h2 _ _ d⟩)
    (fun _ _ ⟨ρ', k', l, a, b, c, d⟩ => ⟨ρ', k', l, a, b, c, h3 _ _ d⟩) (fun _ _ ⟨ρ', k', l, a, b, c, d⟩ => ⟨ρ', k', l, a, b, c, h4 _ _ d⟩)⟩
theorem PoS.trans {H H1 : Hp} {N : Rho → κ → Prop} {σ' : St} {H' : Hp} (e : Ex (M.im H) (M.im H1)) (h : PoS M X H1 N σ' H') : PoS M X H N σ' H' := by
  obtain ⟨ρ', k', l, a, b, c, d⟩ := h
  exact ⟨ρ', k', l, e.trans a, b, c, d⟩
theorem PoR.trans {H H1 : Hp} {N : R → κ → Prop} {v : V} {H' : Hp} (e : Ex (M.im H) (M.im H1)) (h : PoR M X H1 N v H') : PoR M X H N v H' := by
  obtain ⟨r, k', ⟨a, b, c⟩, d⟩ := h
  exact ⟨r, k', ⟨e.trans a, b, c⟩, d⟩

/-- blocks -/
theorem sb_nil {ρ : Rho} {k : κ} {P : Pst κ} (h : P.nx ρ k) : SB M X [] ρ k P := SB.of pss_nil fun σ H l a b => ⟨ρ, k, l, Ex.refl _, b, a, h⟩
theorem sb_cons {st : Stmt} {rest : List Stmt} {ρ : Rho} {k : κ} {P : Pst κ} (h : SS M X st ρ k { P with nx := fun ρ' k' => SB M X rest ρ' k' P }) : SB M X (st :: rest) ρ k P :=
  SB.of (pss_cons pss' psb) fun σ H l a b => by
    refine ⟨ρ, k, _, h, a, b, fun σ' H' q => ?_, fun _ _ q => q, fun _ _ q => q, fun _ _ q => q⟩
    obtain ⟨ρ', k', l', a', b', c', d'⟩ := q
    exact ⟨ρ', k', P, d', c', b', fun _ _ z => z.trans a', fun _ _ z => z.trans a', fun _ _ z => z.trans a', fun _ _ z => z.trans a'⟩
theorem sb_one {st : Stmt} {ρ : Rho} {k : κ} {P : Pst κ} (h : SS M X st ρ k P) : SB M X [st] ρ k P :=
  SB.of (pss_one pss') fun σ H l a b => ⟨ρ, k, P, h, a, b, fun _ _ q => q, fun _ _ q => q, fun _ _ q => q, fun _ _ q => q⟩
/-- name = e -/
theorem ss_set {i : Nat} {x : Str} {e : Expr} {pos' pos : Pos} {ρ : Rho} {k k' : κ} {r : R} {P : Pst κ} (hN : X.N.Nodup) (hi : X.N[i]? = some x) (hx : Loc X.env.scope x) (he : SE M X e ρ k r k') (hq : P.nx (ρ.set i (some r)) k')
    (hs : swapsWith e (some (.Name x pos')) pos.line X.env = pure false := by rfl) (hf : X.fn x = true ∨ X.env.scope.names.lookup x = some .local := by first | exact .inl rfl | exact .inr rfl | assumption) :
    SS M X (.Assign [.Name x pos'] e pos) ρ k P := by
  refine ⟨fun pins s σ H I a b => ?_⟩
  refine (ps_set (i := i) hN hi hx (pes (M := M)) hs hf).run pins s σ H _ I ?_
  refine ⟨ρ, k, r, k', he, a, b, fun v H' p => ?_⟩
  exact ⟨_, k', by rw [List.length_set]; exact I.len, p.1, p.2.1, (a.ex p.1).set (by rw [I.len]; exact (List.getElem?_eq_some_iff.mp hi).1) p.2.2, hq⟩
theorem ss_let (i : Nat) {x : Str} {e : Expr} {pos' pos : Pos} {ρ : Rho} {k k' : κ} {r : R} {P : Pst κ} (hN : X.N.Nodup) (he : SE M X e ρ k r k') (hq : P.nx (ρ.set i (some r)) k') (hi : X.N[i]? = some x := by rfl) (hx : Loc X.env.scope x := by first | exact Or.inl rfl | exact Or.inr rfl)
    (hs : swapsWith e (some (.Name x pos')) pos.line X.env = pure false := by rfl) (hf : X.fn x = true ∨ X.env.scope.names.lookup x = some .local := by first | exact .inl rfl | exact .inr rfl | assumption) :
    SS M X (.Assign [.Name x pos'] e pos) ρ k P := ss_set hN hi hx he hq hs hf
theorem ss_ret {e : Expr} {pos : Pos} {ρ : Rho} {k k' : κ} {r : R} {P : Pst κ} (he : SE M X e ρ k r k') (hq : P.rt r k') : SS M X (.Return (some e) pos) ρ k P :=
  SS.of (ps_ret pes) fun σ H l a b => ⟨ρ, k, r, k', he, a, b, fun v H' p => ⟨r, k', p, hq⟩⟩
theorem ss_expr {e : Expr} {pos : Pos} {ρ : Rho} {k k' : κ} {r : R} {P : Pst κ} (he : SE M X e ρ k r k') (hq : P.nx ρ k') (hs : swapsWith e none pos.line X.env = pure false := by rfl) : SS M X (.Expr e pos) ρ k P :=
  SS.of (ps_expr pes hs) fun σ H l a b => ⟨ρ, k, r, k', he, a, b, fun v H' p => ⟨ρ, k', l, p.1, p.2.1, a.ex p.1, hq⟩⟩
theorem ss_if {c : Expr} {A B : List Stmt} {pos : Pos} {ρ : Rho} {k k' : κ} {b : Bool} {P : Pst κ} (hc : ST M X c ρ k b k') (h : if b = true then SB M X A ρ k' P else SB M X B ρ k' P) : SS M X (.If c A B pos) ρ k P :=
  SS.of (ps_if pts psb psb) fun σ H l a q => ⟨ρ, k, b, k', hc, a, q, fun c' H' p => by
    obtain ⟨rfl, e, q'⟩ := p
    cases c' with
    | true => exact ⟨ρ, k', P, h, a.ex e, q', fun _ _ z => z.trans e, fun _ _ z => z.trans e, fun _ _ z => z.trans e, fun _ _ z => z.trans e⟩
    | false => exact ⟨ρ, k', P, h, a.ex e, q', fun _ _ z => z.trans e, fun _ _ z => z.trans e, fun _ _ z => z.trans e, fun _ _ z => z.trans e⟩⟩
theorem ss_ifT {c : Expr} {A B : List Stmt} {pos : Pos} {ρ : Rho} {k k' : κ} {b : Bool} {P : Pst κ} (hc : ST M X c ρ k b k') (hb : b = true) (h : SB M X A ρ k' P) : SS M X (.If c A B pos) ρ k P := by
  subst hb
  exact ss_if hc (by rw [if_pos rfl]; exact h)
theorem ss_ifF {c : Expr} {A B : List Stmt} {pos : Pos} {ρ : Rho} {k k' : κ} {b : Bool} {P : Pst κ} (hc : ST M X c ρ k b k') (hb : b = false) (h : SB M X B ρ k' P) : SS M X (.If c A B pos) ρ k P := by
  subst hb
  exact ss_if hc (by rw [if_neg Bool.false_ne_true]; exact h)
theorem ss_cont {pos : Pos} {ρ : Rho} {k : κ} {P : Pst κ} (h : P.ct ρ k) : SS M X (.Continue pos) ρ k P := SS.of ps_continue fun σ H l a b => ⟨ρ, k, l, Ex.refl _, b, a, h⟩
end
end D

namespace D
open PySem L2 Evl
section
variable {κ : Type} {M : Mem κ} {X : Cx} {ρ : Rho} {k k1 k2 k3 : κ} {pos : Pos}

/-! ### names and constants -/
theorem se_v (i : Nat) {x : Str} {r : R} (hr : ρ[i]? = some (some r) := by rfl) (hN : X.N[i]? = some x := by rfl) (hv : Vis X.env.scope x := by first | exact Or.inl rfl | exact Or.inr (Or.inl rfl) | exact Or.inr (Or.inr rfl)) (hd : (x == ("__debug__" : Str)) = false := by decide)
    (hcd : (x == ("__classdict__" : Str)) = false := by decide) : SE M X (.Name x pos) ρ k r k :=
  SE.of (pe_var (i := i) hN hv hd hcd) fun σ H a b => by
    obtain ⟨v, h1, h2⟩ := a i r hr
    exact ⟨v, h1, Ex.refl _, b, h2⟩
theorem se_int {i : Int} {j : Nat} : SE M X (.Constant (.int i) j pos) ρ k (.d (.int i)) k := SE.of pe_int fun σ H a b => ⟨Ex.refl _, b, .int i⟩
theorem se_str {x : Str} {j : Nat} : SE M X (.Constant (.str x) j pos) ρ k (.d (.str x)) k := SE.of pe_str fun σ H a b => ⟨Ex.refl _, b, .str x⟩
theorem se_non {j : Nat} : SE M X (.Constant .none j pos) ρ k (.d .none) k := SE.of pe_non fun σ H a b => ⟨Ex.refl _, b, .non⟩
theorem se_bl {c : Bool} {j : Nat} : SE M X (.Constant (.bool c) j pos) ρ k (.d (.bool c)) k := SE.of pe_bl fun σ H a b => ⟨Ex.refl _, b, .bl c⟩
/-- a module's name -/
structure Glb (X : Cx) (x : Str) (r : R) : Prop where
  h : ∃ v u, X.mg x = some u ∧ RelV v u ∧ ∀ H, RP X.K H v r
theorem se_g {x : Str} {r : R} (g : Glb X x r) (hg : Gl X x := by rfl) (hd : (x == ("__debug__" : Str)) = false := by decide) : SE M X (.Name x pos) ρ k r k := by
  obtain ⟨v, u, hm, hr, h⟩ := g.h
  exact SE.of (pe_glob hg hm hr hd) fun σ H a b => ⟨Ex.refl _, b, h _⟩

/-! ### several in a row -/
theorem sa_nil : SA M X [] ρ k [] k := SA.of pa_nil fun σ H a b => ⟨Ex.refl _, b, .nil⟩
theorem sa_cons {e : Expr} {es : List Expr} {r : R} {rs : List R} (h : SE M X e ρ k r k1) (hr : SA M X es ρ k1 rs k2) (hs : starEach (e :: es) X.env = (false, eval e X.env) :: starEach es X.env := by exact starC rfl) : SA M X (e :: es) ρ k (r :: rs) k2 :=
  SA.of (pa_cons (pes (M := M)) (pas (M := M)) hs) fun σ H a b => ⟨ρ, k, r, k1, h, a, b, fun v H1 p => ⟨ρ, k1, rs, k2, hr, a.ex p.1, p.2.1, fun vs H2 q => ⟨p.1.trans q.1, q.2.1, .cons (p.2.2.ex q.1) q.2.2⟩⟩⟩
theorem sa1 {e : Expr} {r : R} (h : SE M X e ρ k r k1) (hs : starEach [e] X.env = (false, eval e X.env) :: starEach [] X.env := by exact starC rfl) : SA M X [e] ρ k [r] k1 := sa_cons h sa_nil hs

/-- a new tuple, a new list -/
theorem new_tup {H : Hp} {vs : List V} {ds : List PyData} (hk : M.ok k H) (h : DpAll X.K (M.im H) vs ds) (p : Addr) (hp : H p = none) : Po M X H k (.d (.tuple ds)) (.ref p) (upd H p (.tup vs)) := by
  have e := M.up (H2 := upd H p (.tup vs)) hk (Ex.new hp)
  exact ⟨e.2, e.1, .tup (st_of (M.new hk hp)) (dpxs e.2 _ _ h)⟩
theorem new_lst {H : Hp} {vs : List V} {ds : List PyData} (hk : M.ok k H) (h : DpAll X.K (M.im H) vs ds) (p : Addr) (hp : H p = none) : Po M X H k (.d (.list ds)) (.ref p) (upd H p (.lst vs)) := by
  have e := M.up (H2 := upd H p (.lst vs)) hk (Ex.new hp)
  exact ⟨e.2, e.1, .lst (sq_of (M.new hk hp)) (dpxs e.2 _ _ h)⟩
theorem Po.back {H H1 : Hp} {r : R} {v : V} {H' : Hp} (e : Ex (M.im H) (M.im H1)) (h : Po M X H1 k r v H') : Po M X H k r v H' := ⟨e.trans h.1, h.2⟩
/-- .. data all -/
def SD (M : Mem κ) (X : Cx) (es : List Expr) (ρ : Rho) (k : κ) (ds : List PyData) (k' : κ) : Prop := SA M X es ρ k (ds.map R.d) k'
theorem sd_nil : SD M X [] ρ k [] k := sa_nil
theorem sd_cons {e : Expr} {es : List Expr} {d : PyData} {ds : List PyData} (h : SE M X e ρ k (.d d) k1) (hr : SD M X es ρ k1 ds k2) (hs : starEach (e :: es) X.env = (false, eval e X.env) :: starEach es X.env := by exact starC rfl) : SD M X (e :: es) ρ k (d :: ds) k2 := sa_cons h hr hs
theorem se_tup {es : List Expr} {ds : List PyData} {x1} (h : SD M X es ρ k ds k1) (hz : ds.length ≤ 100000 := by exact Nat.le_of_ble_eq_true rfl) : SE M X (.Tuple es x1 pos) ρ k (.d (.tuple ds)) k1 := by
  exact SE.of (pe_tup (pas (M := M))) fun σ H a b => ⟨ρ, k, _, k1, h, a, b, fun vs H1 q => ⟨by have := q.2.2.len; rw [List.length_map] at this; exact sz_of (by omega), fun p hp => (new_tup q.2.1 q.2.2.dp p hp).back q.1⟩⟩
theorem se_lst {es : List Expr} {ds : List PyData} (h : SD M X es ρ k ds k1) (hz : ds.length ≤ 100000 := by exact Nat.le_of_ble_eq_true rfl) : SE M X (.List es pos) ρ k (.d (.list ds)) k1 := by
  exact SE.of (pe_lst (pas (M := M))) fun σ H a b => ⟨ρ, k, _, k1, h, a, b, fun vs H1 q => ⟨by have := q.2.2.len; rw [List.length_map] at this; exact sz_of (by omega), fun p hp => (new_lst q.2.1 q.2.2.dp p hp).back q.1⟩⟩

/-! ### operators -/
/-- what an operation on values gives, the heap kept -/
def RR (X : Cx) (r : R2) (x y z : R) : Prop := ∀ (G H : Hp) (v w : V), Ex G H → RP X.K G v x → RP X.K G w y → ∀ Q : VK, (∀ u, RP X.K G u z → Q u H) → r v w H Q
theorem se_bin {a b : Expr} {op : Operator} {r : R2} {x y z : R} (ho : OpR X (binaryOp op) r) (hr : RR X r x y z) (ha : SE M X a ρ k x k1) (hb : SE M X b ρ k1 y k2) : SE M X (.BinOp a op b pos) ρ k z k2 :=
  SE.of (pe_op ho (pes (M := M)) (pes (M := M))) fun σ H s q => ⟨ρ, k, x, k1, ha, s, q, fun v H1 p => ⟨ρ, k1, y, k2, hb, s.ex p.1, p.2.1, fun w H2 p2 =>
    hr (M.im H2) H2 v w (M.sub H2) (p.2.2.ex p2.1) p2.2.2 _ fun u hu => ⟨p.1.trans p2.1, p2.2.1, hu⟩⟩⟩
theorem se_cmp {a b : Expr} {op : CmpOp} {r : R2} {x y z : R} (ho : OpR X (compareOp op) r) (hr : RR X r x y z) (ha : SE M X a ρ k x k1) (hb : SE M X b ρ k1 y k2) (hm : behindInMarks op b = false) : SE M X (.Compare a [op] [b] pos) ρ k z k2 :=
  SE.of (pe_cmpR ho (pes (M := M)) (pes (M := M)) hm) fun σ H s q => ⟨ρ, k, x, k1, ha, s, q, fun v H1 p => ⟨ρ, k1, y, k2, hb, s.ex p.1, p.2.1, fun w H2 p2 =>
    hr (M.im H2) H2 v w (M.sub H2) (p.2.2.ex p2.1) p2.2.2 _ fun u hu => ⟨p.1.trans p2.1, p2.2.1, hu⟩⟩⟩
theorem st_cmp {a b : Expr} {op : CmpOp} {r : R2} {x y : R} {c : Bool} (ho : OpR X (compareOp op) r) (hr : RR X r x y (.d (.bool c))) (ha : SE M X a ρ k x k1) (hb : SE M X b ρ k1 y k2) (hm : behindInMarks op b = false) : ST M X (.Compare a [op] [b] pos) ρ k c k2 :=
  ST.of (pt_cmpR ho (pes (M := M)) (pes (M := M)) hm) fun σ H s q => ⟨ρ, k, x, k1, ha, s, q, fun v H1 p => ⟨ρ, k1, y, k2, hb, s.ex p.1, p.2.1, fun w H2 p2 =>
    hr (M.im H2) H2 v w (M.sub H2) (p.2.2.ex p2.1) p2.2.2 _ fun u hu => by
      have hu' : Dp X.K (M.im H2) u (.bool c) := hu
      cases hu'
      exact ⟨c, rfl, rfl, p.1.trans p2.1, p2.2.1⟩⟩⟩
theorem rr_i {C : Int → Int → Prop} {g : Int → Int → V} {i j : Int} {z : R} (hc : C i j) (hz : ∀ G, RP X.K G (g i j) z) : RR X (rI C g) (.d (.int i)) (.d (.int j)) z := fun G H v w e hv hw Q q => by
  have hv' : Dp X.K G v (.int i) := hv
  have hw' : Dp X.K G w (.int j) := hw
  cases hv'
  cases hw'
  exact ⟨i, j, rfl, rfl, hc, q _ (hz G)⟩
theorem rr_i0 {g : Int → Int → V} {i j : Int} {z : R} (hz : ∀ G, RP X.K G (g i j) z) : RR X (rI0 g) (.d (.int i)) (.d (.int j)) z := fun G H v w e hv hw Q q => by
  have hv' : Dp X.K G v (.int i) := hv
  have hw' : Dp X.K G w (.int j) := hw
  cases hv'
  cases hw'
  exact ⟨i, j, rfl, rfl, q _ (hz G)⟩
variable {a b : Expr} {i j : Int}
theorem se_add (ha : SE M X a ρ k (.d (.int i)) k1) (hb : SE M X b ρ k1 (.d (.int j)) k2) : SE M X (.BinOp a .Add b pos) ρ k (.d (.int (i + j))) k2 := se_bin op_add (rr_i0 fun _ => .int _) ha hb
theorem se_sub (ha : SE M X a ρ k (.d (.int i)) k1) (hb : SE M X b ρ k1 (.d (.int j)) k2) : SE M X (.BinOp a .Sub b pos) ρ k (.d (.int (i - j))) k2 := se_bin op_sub (rr_i0 fun _ => .int _) ha hb
theorem se_mul (hc : CMul i j) (ha : SE M X a ρ k (.d (.int i)) k1) (hb : SE M X b ρ k1 (.d (.int j)) k2) : SE M X (.BinOp a .Mult b pos) ρ k (.d (.int (i * j))) k2 := se_bin op_mul (rr_i hc fun _ => .int _) ha hb
theorem se_mod (hc : 0 < j) (ha : SE M X a ρ k (.d (.int i)) k1) (hb : SE M X b ρ k1 (.d (.int j)) k2) : SE M X (.BinOp a .Mod b pos) ρ k (.d (.int (i % j))) k2 := se_bin op_mod (rr_i hc fun _ => .int _) ha hb
theorem se_fdiv (hc : CDiv i j) (ha : SE M X a ρ k (.d (.int i)) k1) (hb : SE M X b ρ k1 (.d (.int j)) k2) : SE M X (.BinOp a .FloorDiv b pos) ρ k (.d (.int (i / j))) k2 := se_bin op_fdiv (rr_i hc fun _ => .int _) ha hb
theorem se_pow (hc : CPow i j) (ha : SE M X a ρ k (.d (.int i)) k1) (hb : SE M X b ρ k1 (.d (.int j)) k2) : SE M X (.BinOp a .Pow b pos) ρ k (.d (.int (i ^ j.toNat))) k2 := se_bin op_pow (rr_i hc fun _ => .int _) ha hb
theorem st_lt (ha : SE M X a ρ k (.d (.int i)) k1) (hb : SE M X b ρ k1 (.d (.int j)) k2) : ST M X (.Compare a [.Lt] [b] pos) ρ k (decide (i < j)) k2 := st_cmp op_lt (rr_i0 fun _ => .bl _) ha hb (nomark _)
theorem st_le (ha : SE M X a ρ k (.d (.int i)) k1) (hb : SE M X b ρ k1 (.d (.int j)) k2) : ST M X (.Compare a [.LtE] [b] pos) ρ k (decide (i ≤ j)) k2 := st_cmp op_le (rr_i0 fun _ => .bl _) ha hb (nomark _)
theorem st_gt (ha : SE M X a ρ k (.d (.int i)) k1) (hb : SE M X b ρ k1 (.d (.int j)) k2) : ST M X (.Compare a [.Gt] [b] pos) ρ k (decide (j < i)) k2 := st_cmp op_gt (rr_i0 fun _ => .bl _) ha hb (nomark _)
theorem st_ge (ha : SE M X a ρ k (.d (.int i)) k1) (hb : SE M X b ρ k1 (.d (.int j)) k2) : ST M X (.Compare a [.GtE] [b] pos) ρ k (decide (j ≤ i)) k2 := st_cmp op_ge (rr_i0 fun _ => .bl _) ha hb (nomark _)
theorem se_lt (ha : SE M X a ρ k (.d (.int i)) k1) (hb : SE M X b ρ k1 (.d (.int j)) k2) : SE M X (.Compare a [.Lt] [b] pos) ρ k (.d (.bool (decide (i < j)))) k2 := se_cmp op_lt (rr_i0 fun _ => .bl _) ha hb (nomark _)
theorem se_le (ha : SE M X a ρ k (.d (.int i)) k1) (hb : SE M X b ρ k1 (.d (.int j)) k2) : SE M X (.Compare a [.LtE] [b] pos) ρ k (.d (.bool (decide (i ≤ j)))) k2 := se_cmp op_le (rr_i0 fun _ => .bl _) ha hb (nomark _)
theorem se_gt (ha : SE M X a ρ k (.d (.int i)) k1) (hb : SE M X b ρ k1 (.d (.int j)) k2) : SE M X (.Compare a [.Gt] [b] pos) ρ k (.d (.bool (decide (j < i)))) k2 := se_cmp op_gt (rr_i0 fun _ => .bl _) ha hb (nomark _)
theorem se_ge (ha : SE M X a ρ k (.d (.int i)) k1) (hb : SE M X b ρ k1 (.d (.int j)) k2) : SE M X (.Compare a [.GtE] [b] pos) ρ k (.d (.bool (decide (j ≤ i)))) k2 := se_cmp op_ge (rr_i0 fun _ => .bl _) ha hb (nomark _)
/-- == and != of ints, of texts -/
theorem rr_eqI : RR X rEq (.d (.int i)) (.d (.int j)) (.d (.bool (decide (i = j)))) := fun G H v w e hv hw Q q => by
  have hv' : Dp X.K G v (.int i) := hv
  have hw' : Dp X.K G w (.int j) := hw
  cases hv'
  cases hw'
  refine ⟨rfl, ?_⟩
  have z : decide (V.int i = V.int j) = decide (i = j) := by rw [dec_int, Bool.beq_eq_decide_eq]
  rw [z]
  exact q _ (.bl _)
theorem rr_neI : RR X rNe (.d (.int i)) (.d (.int j)) (.d (.bool (!decide (i = j)))) := fun G H v w e hv hw Q q => by
  have hv' : Dp X.K G v (.int i) := hv
  have hw' : Dp X.K G w (.int j) := hw
  cases hv'
  cases hw'
  refine ⟨rfl, ?_⟩
  have z : decide (V.int i = V.int j) = decide (i = j) := by rw [dec_int, Bool.beq_eq_decide_eq]
  rw [z]
  exact q _ (.bl _)
theorem rr_eqS {x y : Str} : RR X rEq (.d (.str x)) (.d (.str y)) (.d (.bool (decide (x = y)))) := fun G H v w e hv hw Q q => by
  have hv' : Dp X.K G v (.str x) := hv
  have hw' : Dp X.K G w (.str y) := hw
  cases hv'
  cases hw'
  refine ⟨rfl, ?_⟩
  have z : decide (V.str x = V.str y) = decide (x = y) := by rw [dec_str, Bool.beq_eq_decide_eq]
  rw [z]
  exact q _ (.bl _)
theorem rr_neS {x y : Str} : RR X rNe (.d (.str x)) (.d (.str y)) (.d (.bool (!decide (x = y)))) := fun G H v w e hv hw Q q => by
  have hv' : Dp X.K G v (.str x) := hv
  have hw' : Dp X.K G w (.str y) := hw
  cases hv'
  cases hw'
  refine ⟨rfl, ?_⟩
  have z : decide (V.str x = V.str y) = decide (x = y) := by rw [dec_str, Bool.beq_eq_decide_eq]
  rw [z]
  exact q _ (.bl _)
theorem st_eqI (ha : SE M X a ρ k (.d (.int i)) k1) (hb : SE M X b ρ k1 (.d (.int j)) k2) : ST M X (.Compare a [.Eq] [b] pos) ρ k (decide (i = j)) k2 := st_cmp op_eq rr_eqI ha hb (nomark _)
theorem st_neI (ha : SE M X a ρ k (.d (.int i)) k1) (hb : SE M X b ρ k1 (.d (.int j)) k2) : ST M X (.Compare a [.NotEq] [b] pos) ρ k (!decide (i = j)) k2 := st_cmp op_ne rr_neI ha hb (nomark _)
theorem se_eqI (ha : SE M X a ρ k (.d (.int i)) k1) (hb : SE M X b ρ k1 (.d (.int j)) k2) : SE M X (.Compare a [.Eq] [b] pos) ρ k (.d (.bool (decide (i = j)))) k2 := se_cmp op_eq rr_eqI ha hb (nomark _)
theorem st_eqS {x y : Str} (ha : SE M X a ρ k (.d (.str x)) k1) (hb : SE M X b ρ k1 (.d (.str y)) k2) : ST M X (.Compare a [.Eq] [b] pos) ρ k (decide (x = y)) k2 := st_cmp op_eq rr_eqS ha hb (nomark _)
theorem st_neS {x y : Str} (ha : SE M X a ρ k (.d (.str x)) k1) (hb : SE M X b ρ k1 (.d (.str y)) k2) : ST M X (.Compare a [.NotEq] [b] pos) ρ k (!decide (x = y)) k2 := st_cmp op_ne rr_neS ha hb (nomark _)
theorem se_eqS {x y : Str} (ha : SE M X a ρ k (.d (.str x)) k1) (hb : SE M X b ρ k1 (.d (.str y)) k2) : SE M X (.Compare a [.Eq] [b] pos) ρ k (.d (.bool (decide (x = y)))) k2 := se_cmp op_eq rr_eqS ha hb (nomark _)
/-- == and != of any data -/
theorem rr_eqD {x y : PyData} (sx : SeqAt.shaped x = true) (sy : SeqAt.shaped y = true) : RR X (rEqD X.K) (.d x) (.d y) (.d (.bool (PyData.eqv x y))) := fun G H v w e hv hw Q q =>
  ⟨x, y, dpx e x v hv, dpx e y w hw, sx, sy, q _ (.bl _)⟩
theorem rr_neD {x y : PyData} (sx : SeqAt.shaped x = true) (sy : SeqAt.shaped y = true) : RR X (rNeD X.K) (.d x) (.d y) (.d (.bool (!PyData.eqv x y))) := fun G H v w e hv hw Q q =>
  ⟨x, y, dpx e x v hv, dpx e y w hw, sx, sy, q _ (.bl _)⟩
theorem st_eqD {x y : PyData} (hu : X.A.units + 64 < cLine) (sx : SeqAt.shaped x = true) (sy : SeqAt.shaped y = true) (ha : SE M X a ρ k (.d x) k1) (hb : SE M X b ρ k1 (.d y) k2) : ST M X (.Compare a [.Eq] [b] pos) ρ k (PyData.eqv x y) k2 := st_cmp (op_eqD hu) (rr_eqD sx sy) ha hb (nomark _)
theorem st_neD {x y : PyData} (hu : X.A.units + 64 < cLine) (sx : SeqAt.shaped x = true) (sy : SeqAt.shaped y = true) (ha : SE M X a ρ k (.d x) k1) (hb : SE M X b ρ k1 (.d y) k2) : ST M X (.Compare a [.NotEq] [b] pos) ρ k (!PyData.eqv x y) k2 := st_cmp (op_neD hu) (rr_neD sx sy) ha hb (nomark _)
theorem se_eqD {x y : PyData} (hu : X.A.units + 64 < cLine) (sx : SeqAt.shaped x = true) (sy : SeqAt.shaped y = true) (ha : SE M X a ρ k (.d x) k1) (hb : SE M X b ρ k1 (.d y) k2) : SE M X (.Compare a [.Eq] [b] pos) ρ k (.d (.bool (PyData.eqv x y))) k2 := se_cmp (op_eqD hu) (rr_eqD sx sy) ha hb (nomark _)
/-- is of bools -/
theorem st_isB {x y : Bool} (ha : SE M X a ρ k (.d (.bool x)) k1) (hb : SE M X b ρ k1 (.d (.bool y)) k2) : ST M X (.Compare a [.Is] [b] pos) ρ k (decide (x = y)) k2 :=
  st_cmp op_isBl (fun G H v w e hv hw Q q => by
    have hv' : Dp X.K G v (.bool x) := hv
    have hw' : Dp X.K G w (.bool y) := hw
    cases hv'
    cases hw'
    exact ⟨x, y, rfl, rfl, q _ (.bl _)⟩) ha hb (nomark _)
theorem st_notB {x y : Bool} (ha : SE M X a ρ k (.d (.bool x)) k1) (hb : SE M X b ρ k1 (.d (.bool y)) k2) : ST M X (.Compare a [.IsNot] [b] pos) ρ k (!decide (x = y)) k2 :=
  st_cmp op_notBl (fun G H v w e hv hw Q q => by
    have hv' : Dp X.K G v (.bool x) := hv
    have hw' : Dp X.K G w (.bool y) := hw
    cases hv'
    cases hw'
    exact ⟨x, y, rfl, rfl, q _ (.bl _)⟩) ha hb (nomark _)
/-- is not None -/
def isNone : PyData → Bool
  | .none => true
  | _ => false
theorem dp_none {K : PySem.W.Frag} {H : Hp} {v : V} {x : PyData} (h : Dp K H v x) : decide (v = V.non) = isNone x := by
  cases h <;> rfl
theorem st_notN {x : PyData} {j' : Nat} {pos' : Pos} (ha : SE M X a ρ k (.d x) k1) : ST M X (.Compare a [.IsNot] [.Constant .none j' pos'] pos) ρ k (!isNone x) k1 :=
  st_cmp op_notN (fun G H v w e hv hw Q q => by
    have hw' : Dp X.K G w .none := hw
    cases hw'
    refine ⟨rfl, ?_⟩
    rw [dp_none (show Dp X.K G v x from hv)]
    exact q _ (.bl _)) ha se_non (nomark _)

/-- x in (..) of flat things -/
def fl : PyData → Option V
  | .none => some .non
  | .bool b => some (.bl b)
  | .int i => some (.int i)
  | .str x => some (.str x)
  | _ => none
theorem fl_dp {K : PySem.W.Frag} {H : Hp} {v u : V} {x : PyData} (h : Dp K H v x) (e : fl x = some u) : v = u := by
  cases h <;> first | (cases e; rfl) | cases e
def fls : List PyData → Option (List V)
  | [] => some []
  | d :: r => match fl d, fls r with
    | some v, some vs => some (v :: vs)
    | _, _ => none
theorem fls_dp {K : PySem.W.Frag} {H : Hp} : ∀ {vs us : List V} {ds : List PyData}, DpAll K H vs ds → fls ds = some us → vs = us
  | _, _, _, .nil, e => by cases e; rfl
  | _, us, d :: ds, .cons h t, e => by
    unfold fls at e
    cases h1 : fl d with
    | none => rw [h1] at e; cases e
    | some x =>
      cases h2 : fls ds with
      | none => rw [h1, h2] at e; cases e
      | some xs =>
        rw [h1, h2] at e
        cases e
        rw [fl_dp h h1, fls_dp t h2]
theorem rr_in {neg : Bool} {x : PyData} {ds : List PyData} {u : V} {us : List V} {c : Bool} (hx : fl x = some u) (hs : fls ds = some us) (fx : flatV u = true) (fs : us.all flatV = true) (hc : (if neg then !inV u us else inV u us) = c) : RR X (rIn X.K neg) (.d x) (.d (.tuple ds)) (.d (.bool c)) := fun G H v w e hv hw Q q => by
  have hw' : Dp X.K G w (.tuple ds) := hw
  cases hw' with
  | tup h1 h2 =>
    have e1 := fl_dp (show Dp X.K G v x from hv) hx
    have e2 := fls_dp h2 hs
    subst e1 e2
    refine ⟨_, _, rfl, Or.inr (ex_t e h1), fx, fs, ?_⟩
    rw [hc]
    exact q _ (.bl _)
theorem st_in {x : PyData} {ds : List PyData} {u : V} {us : List V} {c : Bool} (ha : SE M X a ρ k (.d x) k1) (hb : SE M X b ρ k1 (.d (.tuple ds)) k2) (hx : fl x = some u := by rfl) (hs : fls ds = some us := by rfl) (fx : flatV u = true := by rfl) (fs : us.all flatV = true := by rfl) (hm : behindInMarks .In b = false := by rfl) (hc : inV u us = c := by decide +kernel) : ST M X (.Compare a [.In] [b] pos) ρ k c k2 :=
  st_cmp op_in_seq (rr_in (neg := false) hx hs fx fs (by rw [if_neg Bool.false_ne_true]; exact hc)) ha hb hm
theorem st_notIn {x : PyData} {ds : List PyData} {u : V} {us : List V} {c : Bool} (ha : SE M X a ρ k (.d x) k1) (hb : SE M X b ρ k1 (.d (.tuple ds)) k2) (hx : fl x = some u := by rfl) (hs : fls ds = some us := by rfl) (fx : flatV u = true := by rfl) (fs : us.all flatV = true := by rfl) (hm : behindInMarks .NotIn b = false := by rfl) (hc : (!inV u us) = c := by decide +kernel) : ST M X (.Compare a [.NotIn] [b] pos) ρ k c k2 :=
  st_cmp op_notIn_seq (rr_in (neg := true) hx hs fx fs (by rw [if_pos rfl]; exact hc)) ha hb hm
/-- a text in a text -/
theorem se_inS {x y : Str} {c : Bool} (ha : SE M X a ρ k (.d (.str x)) k1) (hb : SE M X b ρ k1 (.d (.str y)) k2) (hc : (!(Builtin.Str.occurrences y x 0 y.length 1).isEmpty) = c) (hm : behindInMarks .In b = false := by rfl) : SE M X (.Compare a [.In] [b] pos) ρ k (.d (.bool c)) k2 :=
  se_cmp op_in_str (fun G H v w e hv hw Q q => by
    have hv' : Dp X.K G v (.str x) := hv
    have hw' : Dp X.K G w (.str y) := hw
    cases hv'
    cases hw'
    refine ⟨x, y, rfl, rfl, ?_⟩
    rw [hc]
    exact q _ (.bl _)) ha hb hm
theorem st_notInS {x y : Str} {c : Bool} (ha : SE M X a ρ k (.d (.str x)) k1) (hb : SE M X b ρ k1 (.d (.str y)) k2) (hc : (!(!(Builtin.Str.occurrences y x 0 y.length 1).isEmpty)) = c) (hm : behindInMarks .NotIn b = false := by rfl) : ST M X (.Compare a [.NotIn] [b] pos) ρ k c k2 :=
  st_cmp op_notin_str (fun G H v w e hv hw Q q => by
    have hv' : Dp X.K G v (.str x) := hv
    have hw' : Dp X.K G w (.str y) := hw
    cases hv'
    cases hw'
    refine ⟨x, y, rfl, rfl, ?_⟩
    rw [hc]
    exact q _ (.bl _)) ha hb hm

/-! ### items -/
theorem ixd {K : PySem.W.Frag} {H : Hp} {vs : List V} {ds : List PyData} {i : Int} {d : PyData} (h : DpAll K H vs ds) (e : atI ds i = some d) : ∃ v, atI vs i = some v ∧ Dp K H v d := by
  unfold atI at e ⊢
  rw [dpl h]
  cases q : ixN ds.length i with
  | none => rw [q] at e; cases e
  | some j =>
    rw [q] at e
    exact dpget h e
theorem se_ixT {ds : List PyData} {d : PyData} (ha : SE M X a ρ k (.d (.tuple ds)) k1) (hb : SE M X b ρ k1 (.d (.int i)) k2) (hd : atI ds i = some d := by rfl) (hs : PlainIx b := by intro _ _; rfl) : SE M X (.Subscript a b pos) ρ k (.d d) k2 :=
  SE.of (pe_ix ix_tup (pes (M := M)) (pes (M := M)) hs) fun σ H s q => ⟨ρ, k, _, k1, ha, s, q, fun v H1 p => ⟨ρ, k1, _, k2, hb, s.ex p.1, p.2.1, fun w H2 p2 => by
    have hv : Dp X.K (M.im H2) v (.tuple ds) := p.2.2.ex p2.1
    have hw : Dp X.K (M.im H2) w (.int i) := p2.2.2
    cases hw
    cases hv with
    | tup h1 h2 =>
      obtain ⟨u, e1, e2⟩ := ixd h2 hd
      exact ⟨_, _, i, u, rfl, rfl, ex_t (M.sub H2) h1, e1, p.1.trans p2.1, p2.2.1, e2⟩⟩⟩
theorem se_ixL {ds : List PyData} {d : PyData} (ha : SE M X a ρ k (.d (.list ds)) k1) (hb : SE M X b ρ k1 (.d (.int i)) k2) (hd : atI ds i = some d := by rfl) (hs : PlainIx b := by intro _ _; rfl) : SE M X (.Subscript a b pos) ρ k (.d d) k2 :=
  SE.of (pe_ix ix_list (pes (M := M)) (pes (M := M)) hs) fun σ H s q => ⟨ρ, k, _, k1, ha, s, q, fun v H1 p => ⟨ρ, k1, _, k2, hb, s.ex p.1, p.2.1, fun w H2 p2 => by
    have hv : Dp X.K (M.im H2) v (.list ds) := p.2.2.ex p2.1
    have hw : Dp X.K (M.im H2) w (.int i) := p2.2.2
    cases hw
    cases hv with
    | lst h1 h2 =>
      obtain ⟨u, e1, e2⟩ := ixd h2 hd
      exact ⟨_, _, i, u, rfl, rfl, ex_l (M.sub H2) h1, e1, p.1.trans p2.1, p2.2.1, e2⟩⟩⟩
theorem se_ixS {x : Str} {c : Nat} (ha : SE M X a ρ k (.d (.str x)) k1) (hb : SE M X b ρ k1 (.d (.int i)) k2) (hd : atI x.cps.toList i = some c) (hz : x.length ≤ 100000) (hs : PlainIx b := by intro _ _; rfl) : SE M X (.Subscript a b pos) ρ k (.d (.str ⟨#[c]⟩)) k2 :=
  SE.of (pe_ix ix_str (pes (M := M)) (pes (M := M)) hs) fun σ H s q => ⟨ρ, k, _, k1, ha, s, q, fun v H1 p => ⟨ρ, k1, _, k2, hb, s.ex p.1, p.2.1, fun w H2 p2 => by
    have hv : Dp X.K (M.im H2) v (.str x) := p.2.2.ex p2.1
    have hw : Dp X.K (M.im H2) w (.int i) := p2.2.2
    cases hw
    cases hv
    exact ⟨x, i, c, rfl, rfl, sz_of hz, hd, p.1.trans p2.1, p2.2.1, .str _⟩⟩⟩

/-! ### lists, tuples put together -/
theorem _root_.L2.DpAll.app {K : PySem.W.Frag} {H : Hp} : ∀ {vs ws : List V} {ds es : List PyData}, DpAll K H vs ds → DpAll K H ws es → DpAll K H (vs ++ ws) (ds ++ es)
  | _, _, _, _, .nil, h => h
  | _, _, _, _, .cons h t, h' => .cons h (L2.DpAll.app t h')
theorem se_catT {ds es : List PyData} (hz : ds.length + es.length ≤ 100000) (ha : SE M X a ρ k (.d (.tuple ds)) k1) (hb : SE M X b ρ k1 (.d (.tuple es)) k2) : SE M X (.BinOp a .Add b pos) ρ k (.d (.tuple (ds ++ es))) k2 :=
  SE.of (pe_op op_catA (pes (M := M)) (pes (M := M))) fun σ H s q => ⟨ρ, k, _, k1, ha, s, q, fun v H1 p => ⟨ρ, k1, _, k2, hb, s.ex p.1, p.2.1, fun w H2 p2 => by
    have hv : Dp X.K (M.im H2) v (.tuple ds) := p.2.2.ex p2.1
    have hw : Dp X.K (M.im H2) w (.tuple es) := p2.2.2
    cases hv with
    | tup h1 h2 =>
      cases hw with
      | tup h3 h4 =>
        have e0 := p.1.trans p2.1
        refine ⟨_, _, _, _, rfl, rfl, ex_t (M.sub H2) h1, ex_t (M.sub H2) h3, sz_of (by rw [dpl h2, dpl h4]; exact hz), fun z => ?_, fun _ z => ?_, fun _ _ p hp => (new_tup p2.2.1 (h2.app h4) p hp).back e0⟩
        · subst z
          cases h2
          exact ⟨e0, p2.2.1, .tup h3 h4⟩
        · subst z
          cases h4
          rw [List.append_nil]
          exact ⟨e0, p2.2.1, .tup h1 h2⟩⟩⟩
theorem own_lst {H : Hp} {vs : List V} {ds : List PyData} (hk : M.ok k H) (h : DpAll X.K (M.im H) vs ds) (p : Addr) (hp : H p = none) : Po M X H k (.l ds) (.ref p) (upd H p (.lst vs)) := by
  have e := M.up (H2 := upd H p (.lst vs)) hk (Ex.new hp)
  exact ⟨e.2, e.1, p, vs, rfl, M.new hk hp, dpxs e.2 _ _ h⟩
theorem se_own {es : List Expr} {ds : List PyData} (h : SD M X es ρ k ds k1) (hz : ds.length ≤ 100000 := by exact Nat.le_of_ble_eq_true rfl) : SE M X (.List es pos) ρ k (.l ds) k1 := by
  exact SE.of (pe_lst (pas (M := M))) fun σ H a b => ⟨ρ, k, _, k1, h, a, b, fun vs H1 q => ⟨by have := q.2.2.len; rw [List.length_map] at this; exact sz_of (by omega), fun p hp => (own_lst q.2.1 q.2.2.dp p hp).back q.1⟩⟩
/-- a list of one's own as data -/
theorem se_l {e : Expr} {ds : List PyData} (h : SE M X e ρ k (.l ds) k1) : SE M X e ρ k (.d (.list ds)) k1 := ⟨fun pins s σ H I a b =>
  thn (h.h pins s σ H I a b) fun u s' ⟨v, H', I', r, p⟩ => ⟨v, H', I', r, p.1, p.2.1, p.2.2.list⟩⟩
theorem se_catL {ds es : List PyData} (hz : ds.length + es.length ≤ 100000) (ha : SE M X a ρ k (.l ds) k1) (hb : SE M X b ρ k1 (.l es) k2) : SE M X (.BinOp a .Add b pos) ρ k (.l (ds ++ es)) k2 :=
  SE.of (pe_op op_cat (pes (M := M)) (pes (M := M))) fun σ H s q => ⟨ρ, k, _, k1, ha, s, q, fun v H1 p => ⟨ρ, k1, _, k2, hb, s.ex p.1, p.2.1, fun w H2 p2 => by
    obtain ⟨x, vs, rfl, h1, h2⟩ := RP.ex p2.1 p.2.2
    obtain ⟨y, ws, rfl, h3, h4⟩ := p2.2.2
    exact ⟨x, y, vs, ws, rfl, rfl, M.sub H2 _ _ h1, M.sub H2 _ _ h3, sz_of (by rw [dpl h2, dpl h4]; exact hz), fun p0 hp => (own_lst p2.2.1 (h2.app h4) p0 hp).back (p.1.trans p2.1)⟩⟩⟩

/-! ### slices -/
theorem _root_.L2.DpAll.cut {K : PySem.W.Frag} {H : Hp} : ∀ {vs : List V} {ds : List PyData} (n : Nat), DpAll K H vs ds → DpAll K H (vs.take n) (ds.take n) ∧ DpAll K H (vs.drop n) (ds.drop n)
  | _, _, 0, h => ⟨.nil, h⟩
  | _, _, _ + 1, .nil => ⟨.nil, .nil⟩
  | _, _, n + 1, .cons h t => ⟨.cons h (L2.DpAll.cut n t).1, (L2.DpAll.cut n t).2⟩
def cutD (ds : List PyData) (lo hi : Option Int) : List PyData := (ds.drop (HT.sIx ds.length 0 lo)).take (HT.sIx ds.length ds.length hi - HT.sIx ds.length 0 lo)
theorem dp_cut {K : PySem.W.Frag} {H : Hp} {vs : List V} {ds : List PyData} (lo hi : Option Int) (h : DpAll K H vs ds) : DpAll K H (cutV vs lo hi) (cutD ds lo hi) := by
  unfold cutV cutD
  rw [dpl h]
  exact ((h.cut _).2.cut _).1
/-- a part of a slice -/
def SO (M : Mem κ) (X : Cx) (e : Option Expr) (ρ : Rho) (k : κ) (o : Option Int) (k' : κ) : Prop := match e with
  | none => o = none ∧ k' = k
  | some e => ∃ i, o = some i ∧ SE M X e ρ k (.d (.int i)) k'
theorem so_none : SO M X none ρ k none k := ⟨rfl, rfl⟩
theorem so_some {e : Expr} (h : SE M X e ρ k (.d (.int i)) k1) : SO M X (some e) ρ k (some i) k1 := ⟨i, rfl, h⟩
def tO (M : Mem κ) (X : Cx) (e : Option Expr) : TO := fun σ H Q => ∃ ρ k o k', SO M X e ρ k o k' ∧ Sl X.K (M.im H) σ ρ ∧ M.ok k H ∧ ∀ H', Ex (M.im H) (M.im H') → M.ok k' H' → Q o H'
theorem pos' {e : Option Expr} : PO X e (tO M X e) := by
  cases e with
  | none =>
    refine ⟨fun pins s σ H Q I h => ?_⟩
    obtain ⟨ρ, k, o, k', ⟨rfl, rfl⟩, a, b, c⟩ := h
    exact po_none.run pins s σ H Q I (c H (Ex.refl _) b)
  | some e =>
    refine ⟨fun pins s σ H Q I h => ?_⟩
    obtain ⟨ρ, k, o, k', ⟨i, rfl, h⟩, a, b, c⟩ := h
    refine (po_some (pes (M := M))).run pins s σ H Q I ⟨ρ, k, _, k', h, a, b, fun v H' p => ?_⟩
    have q : Dp X.K (M.im H') v (.int i) := p.2.2
    cases q
    exact ⟨i, rfl, c H' p.1 p.2.1⟩
theorem se_slT {ds : List PyData} {lo hi : Option Expr} {l u : Option Int} {p2 : Pos} (ha : SE M X a ρ k (.d (.tuple ds)) k1) (hl : SO M X lo ρ k1 l k2) (hh : SO M X hi ρ k2 u k3) : SE M X (.Subscript a (.Slice lo hi none p2) pos) ρ k (.d (.tuple (cutD ds l u))) k3 :=
  SE.of (pe_slice sl_tupA (pes (M := M)) (pos' (M := M)) (pos' (M := M))) fun σ H s q => ⟨ρ, k, _, k1, ha, s, q, fun v H1 p => ⟨ρ, k1, l, k2, hl, s.ex p.1, p.2.1, fun H2 e2 o2 => ⟨ρ, k2, u, k3, hh, (s.ex p.1).ex e2, o2, fun H3 e3 o3 => by
    have hv : Dp X.K (M.im H3) v (.tuple ds) := p.2.2.ex (e2.trans e3)
    have e0 := p.1.trans (e2.trans e3)
    cases hv with
    | tup h1 h2 =>
      refine ⟨_, _, rfl, ex_t (M.sub H3) h1, fun z => ?_, fun _ p hp => (new_tup o3 (dp_cut l u h2) p hp).back e0⟩
      refine ⟨e0, o3, .tup h1 ?_⟩
      unfold cutD
      rw [dpl h2] at z
      rw [z.1, z.2, List.drop_zero, Nat.sub_zero, List.take_length]
      exact h2⟩⟩⟩
theorem se_slL {ds : List PyData} {lo hi : Option Expr} {l u : Option Int} {p2 : Pos} (ha : SE M X a ρ k (.d (.list ds)) k1) (hl : SO M X lo ρ k1 l k2) (hh : SO M X hi ρ k2 u k3) : SE M X (.Subscript a (.Slice lo hi none p2) pos) ρ k (.l (cutD ds l u)) k3 :=
  SE.of (pe_slice sl_list (pes (M := M)) (pos' (M := M)) (pos' (M := M))) fun σ H s q => ⟨ρ, k, _, k1, ha, s, q, fun v H1 p => ⟨ρ, k1, l, k2, hl, s.ex p.1, p.2.1, fun H2 e2 o2 => ⟨ρ, k2, u, k3, hh, (s.ex p.1).ex e2, o2, fun H3 e3 o3 => by
    have hv : Dp X.K (M.im H3) v (.list ds) := p.2.2.ex (e2.trans e3)
    have e0 := p.1.trans (e2.trans e3)
    cases hv with
    | lst h1 h2 => exact ⟨_, _, rfl, ex_l (M.sub H3) h1, fun p hp => (own_lst o3 (dp_cut l u h2) p hp).back e0⟩⟩⟩⟩
theorem _root_.L2.DpAll.rev {K : PySem.W.Frag} {H : Hp} : ∀ {vs : List V} {ds : List PyData}, DpAll K H vs ds → DpAll K H vs.reverse ds.reverse
  | _, _, .nil => .nil
  | _, _, .cons h t => by
    rw [List.reverse_cons, List.reverse_cons]
    exact (L2.DpAll.rev t).app (.cons h .nil)
theorem se_revL {ds : List PyData} {j' : Nat} {p1 p2 p3 : Pos} (ha : SE M X a ρ k (.d (.list ds)) k1) : SE M X (.Subscript a (.Slice none none (some (.UnaryOp .USub (.Constant (.int 1) j' p1) p2)) p3) pos) ρ k (.l ds.reverse) k1 :=
  SE.of (pe_revL (pes (M := M))) fun σ H s q => ⟨ρ, k, _, k1, ha, s, q, fun v H1 p => by
    have hv : Dp X.K (M.im H1) v (.list ds) := p.2.2
    cases hv with
    | lst h1 h2 => exact ⟨_, _, rfl, ex_l (M.sub H1) h1, fun p0 hp => (own_lst p.2.1 h2.rev p0 hp).back p.1⟩⟩

/-! ### and, or, not, if else -/
variable {c d : Bool} {rest : List Expr}
theorem sw_and1 (ha : ST M X a ρ k c k1) : SW M X (.BoolOp .And [a] pos) ρ k c k1 := SW.of (pw_and1 (pts (M := M))) fun σ H s q => ⟨ρ, k, c, k1, ha, s, q, fun _ _ z => z⟩
theorem sw_or1 (ha : ST M X a ρ k c k1) : SW M X (.BoolOp .Or [a] pos) ρ k c k1 := SW.of (pw_or1 (pts (M := M))) fun σ H s q => ⟨ρ, k, c, k1, ha, s, q, fun _ _ z => z⟩
theorem PoT.trans {H H1 H2 : Hp} {c d : Bool} (e : Ex (M.im H) (M.im H1)) (h : PoT M H1 k c d H2) : PoT M H k c d H2 := ⟨h.1, e.trans h.2.1, h.2.2⟩
/-- a and ..: only what is met -/
theorem sw_andF (ha : ST M X a ρ k false k1) : SW M X (.BoolOp .And (a :: b :: rest) pos) ρ k false k1 := SW.of (pw_and (pts (M := M)) (pws (M := M))) fun σ H s q => ⟨ρ, k, false, k1, ha, s, q, fun c H1 p => by
  obtain ⟨rfl, e, o⟩ := p
  rw [if_neg Bool.false_ne_true]
  exact ⟨rfl, e, o⟩⟩
theorem sw_andT (ha : ST M X a ρ k true k1) (hb : SW M X (.BoolOp .And (b :: rest) pos) ρ k1 c k2) : SW M X (.BoolOp .And (a :: b :: rest) pos) ρ k c k2 := SW.of (pw_and (pts (M := M)) (pws (M := M))) fun σ H s q => ⟨ρ, k, true, k1, ha, s, q, fun c H1 p => by
  obtain ⟨rfl, e, o⟩ := p
  rw [if_pos rfl]
  exact ⟨ρ, k1, _, k2, hb, s.ex e, o, fun _ _ z => z.trans e⟩⟩
theorem sw_orT (ha : ST M X a ρ k true k1) : SW M X (.BoolOp .Or (a :: b :: rest) pos) ρ k true k1 := SW.of (pw_or (pts (M := M)) (pws (M := M))) fun σ H s q => ⟨ρ, k, true, k1, ha, s, q, fun c H1 p => by
  obtain ⟨rfl, e, o⟩ := p
  rw [if_pos rfl]
  exact ⟨rfl, e, o⟩⟩
theorem sw_orF (ha : ST M X a ρ k false k1) (hb : SW M X (.BoolOp .Or (b :: rest) pos) ρ k1 c k2) : SW M X (.BoolOp .Or (a :: b :: rest) pos) ρ k c k2 := SW.of (pw_or (pts (M := M)) (pws (M := M))) fun σ H s q => ⟨ρ, k, false, k1, ha, s, q, fun c H1 p => by
  obtain ⟨rfl, e, o⟩ := p
  rw [if_neg Bool.false_ne_true]
  exact ⟨ρ, k1, _, k2, hb, s.ex e, o, fun _ _ z => z.trans e⟩⟩
theorem st_not (ha : ST M X a ρ k c k1) : ST M X (.UnaryOp .Not a pos) ρ k (!c) k1 := ST.of (pt_not (pts (M := M))) fun σ H s q => ⟨ρ, k, c, k1, ha, s, q, fun d H1 p => ⟨by rw [p.1], p.2⟩⟩
theorem st_is {b' : Bool} (ha : ST M X a ρ k c k1) (h : c = b') : ST M X a ρ k b' k1 := h ▸ ha
theorem se_is {x y : PyData} (ha : SE M X a ρ k (.d x) k1) (h : x = y) : SE M X a ρ k (.d y) k1 := h ▸ ha
/-- a value that is a truth -/
theorem st_val (h : SE M X a ρ k (.d (.bool c)) k1) (he : ∀ whole, isTrue a X.env whole = (do let v ← whole; standAt a.pos; holding [v] (truthy v)) := by intro _; rfl) : ST M X a ρ k c k1 := ST.of (pt_val (pes (M := M)) he) fun σ H s q => ⟨ρ, k, _, k1, h, s, q, fun v H1 p => by
  have z : Dp X.K (M.im H1) v (.bool c) := p.2.2
  cases z
  exact ⟨c, rfl, rfl, p.1, p.2.1⟩⟩
/-- .. as values -/
theorem se_one {op : BoolOp} {r : R} (h : SE M X a ρ k r k1) : SE M X (.BoolOp op [a] pos) ρ k r k1 := SE.of (pe_one (pes (M := M))) fun σ H s q => ⟨ρ, k, _, k1, h, s, q, fun _ _ z => z⟩
theorem se_andF (ha : SE M X a ρ k (.d (.bool false)) k1) : SE M X (.BoolOp .And (a :: b :: rest) pos) ρ k (.d (.bool false)) k1 := SE.of (pe_and (pes (M := M)) (pes (M := M))) fun σ H s q => ⟨ρ, k, _, k1, ha, s, q, fun v H1 p => by
  have z : Dp X.K (M.im H1) v (.bool false) := p.2.2
  cases z
  exact ⟨false, rfl, by rw [if_neg Bool.false_ne_true]; exact p⟩⟩
theorem se_andT {r : R} (ha : SE M X a ρ k (.d (.bool true)) k1) (hb : SE M X (.BoolOp .And (b :: rest) pos) ρ k1 r k2) : SE M X (.BoolOp .And (a :: b :: rest) pos) ρ k r k2 := SE.of (pe_and (pes (M := M)) (pes (M := M))) fun σ H s q => ⟨ρ, k, _, k1, ha, s, q, fun v H1 p => by
  have z : Dp X.K (M.im H1) v (.bool true) := p.2.2
  cases z
  exact ⟨true, rfl, by rw [if_pos rfl]; exact ⟨ρ, k1, r, k2, hb, s.ex p.1, p.2.1, fun _ _ z => z.back p.1⟩⟩⟩
theorem se_orT (ha : SE M X a ρ k (.d (.bool true)) k1) : SE M X (.BoolOp .Or (a :: b :: rest) pos) ρ k (.d (.bool true)) k1 := SE.of (pe_or (pes (M := M)) (pes (M := M))) fun σ H s q => ⟨ρ, k, _, k1, ha, s, q, fun v H1 p => by
  have z : Dp X.K (M.im H1) v (.bool true) := p.2.2
  cases z
  exact ⟨true, rfl, by rw [if_pos rfl]; exact p⟩⟩
theorem se_orF {r : R} (ha : SE M X a ρ k (.d (.bool false)) k1) (hb : SE M X (.BoolOp .Or (b :: rest) pos) ρ k1 r k2) : SE M X (.BoolOp .Or (a :: b :: rest) pos) ρ k r k2 := SE.of (pe_or (pes (M := M)) (pes (M := M))) fun σ H s q => ⟨ρ, k, _, k1, ha, s, q, fun v H1 p => by
  have z : Dp X.K (M.im H1) v (.bool false) := p.2.2
  cases z
  exact ⟨false, rfl, by rw [if_neg Bool.false_ne_true]; exact ⟨ρ, k1, r, k2, hb, s.ex p.1, p.2.1, fun _ _ z => z.back p.1⟩⟩⟩
theorem se_not (ha : SE M X a ρ k (.d (.bool c)) k1) : SE M X (.UnaryOp .Not a pos) ρ k (.d (.bool (!c))) k1 := SE.of (pe_not (pes (M := M))) fun σ H s q => ⟨ρ, k, _, k1, ha, s, q, fun v H1 p => by
  have z : Dp X.K (M.im H1) v (.bool c) := p.2.2
  cases z
  exact ⟨c, rfl, p.1, p.2.1, .bl _⟩⟩
theorem se_if {t : Expr} {r : R} (ht : ST M X t ρ k c k1) (h : if c = true then SE M X a ρ k1 r k2 else SE M X b ρ k1 r k2) : SE M X (.IfExp t a b pos) ρ k r k2 := SE.of (pe_ifExp (pts (M := M)) (pes (M := M)) (pes (M := M))) fun σ H s q => ⟨ρ, k, c, k1, ht, s, q, fun d H1 p => by
  obtain ⟨rfl, e, o⟩ := p
  cases d with
  | true => exact ⟨ρ, k1, r, k2, h, s.ex e, o, fun _ _ z => z.back e⟩
  | false => exact ⟨ρ, k1, r, k2, h, s.ex e, o, fun _ _ z => z.back e⟩⟩
theorem se_ifT {t : Expr} {r : R} (ht : ST M X t ρ k c k1) (hc : c = true) (h : SE M X a ρ k1 r k2) : SE M X (.IfExp t a b pos) ρ k r k2 := by
  subst hc
  exact se_if ht (by rw [if_pos rfl]; exact h)
theorem se_ifF {t : Expr} {r : R} (ht : ST M X t ρ k c k1) (hc : c = false) (h : SE M X b ρ k1 r k2) : SE M X (.IfExp t a b pos) ρ k r k2 := by
  subst hc
  exact se_if ht (by rw [if_neg Bool.false_ne_true]; exact h)
/-- a <= b <= c -/
theorem st_chain {e1 e2 e3 : Expr} {i j l : Int} (ha : SE M X e1 ρ k (.d (.int i)) k1) (hb : SE M X e2 ρ k1 (.d (.int j)) k2) (hc : SE M X e3 ρ k2 (.d (.int l)) k2) (h1 : decide (i ≤ j) = true) (hm : lastMarks [.LtE, .LtE] [e2, e3] = false := by with_unfolding_all rfl) : ST M X (.Compare e1 [.LtE, .LtE] [e2, e3] pos) ρ k (decide (j ≤ l)) k2 := by
  refine ST.of (pt_chain op_le op_le (pes (M := M)) (pes (M := M)) (pes (M := M)) hm) fun σ H s q => ?_
  refine ⟨ρ, k, _, k1, ha, s, q, fun v H1 p => ⟨ρ, k1, _, k2, hb, s.ex p.1, p.2.1, fun w H2 p2 => ?_⟩⟩
  have hv : Dp X.K (M.im H1) v (.int i) := p.2.2
  have hw : Dp X.K (M.im H2) w (.int j) := p2.2.2
  cases hv
  cases hw
  refine ⟨i, j, rfl, rfl, true, congrArg V.bl h1, ?_⟩
  rw [if_pos rfl]
  refine ⟨ρ, k2, _, k2, hc, (s.ex p.1).ex p2.1, p2.2.1, fun u H3 p3 => ?_⟩
  have hu : Dp X.K (M.im H3) u (.int l) := p3.2.2
  cases hu
  exact ⟨j, l, rfl, rfl, _, rfl, rfl, p.1.trans (p2.1.trans p3.1), p3.2.1⟩
end
end D

namespace D
open PySem L2 Evl

/-! ### what a def promises -/
def spP (K : PySem.W.Frag) (rel : List R → R → Prop) : Sp := fun vs H Q _ => ∃ (S : List Addr) (rs : List R) (r : R), rel rs r ∧ RPs K (les S H) vs rs ∧ (∀ a ∈ S, ∃ o, H a = some o) ∧ ∀ v H', Ex H H' → RP K (les S H') v r → Q v H'
/-- what a caller's own may be -/
def MS (S : List Addr) (H0 : Hp) : Mem Unit := ⟨S, fun _ _ H => ∀ a ∈ S, ∃ o, H0 a = some o ∧ H a = some o, fun h _ e a ha => by rw [e a ha]; exact h a ha, fun h a ha => let ⟨o, _, e⟩ := h a ha; ⟨o, e⟩⟩
/-- a def as it can be called -/
structure Cl (P : Program) (w : World) (K : PySem.W.Frag) (mg : Str → Option Value) (base : Heap) (n : Nat) (x : Str) (dvs : List R) (rel : List R → R → Prop) : Prop where
  h : ∃ (f : Addr) (fd : FuncData) (ps : List Str) (ds : List Value) (ws : List V), FnOk P w K mg base CX0 n f fd ps (spP K rel) ∧ mg x = some (.ref f) ∧ PySem.W.keepIn K (.ref f) = true ∧ Binds K fd ps ds ∧ Vals ws ds ∧ ∀ H, RPs K H ws dvs
theorem RPs.app {K : PySem.W.Frag} {H : Hp} : ∀ {vs ws : List V} {rs qs : List R}, RPs K H vs rs → RPs K H ws qs → RPs K H (vs ++ ws) (rs ++ qs)
  | _, _, _, _, .nil, h => h
  | _, _, _, _, .cons h t, h' => .cons h (RPs.app t h')
section
variable {κ : Type} {M : Mem κ} {X : Cx} {ρ : Rho} {k k1 k2 k3 : κ} {pos : Pos}
theorem se_call {n m : Nat} {x : Str} {dvs : List R} {rel : List R → R → Prop} {e : Expr} {es : List Expr} {rs : List R} {r : R} {p : Pos} (c : Cl X.prog X.w X.K X.mg X.base n x dvs rel) (hr : Room m X.A) (hn : n ≤ m) (ha : SA M X (e :: es) ρ k rs k1) (h : rel (rs ++ dvs) r)
    (hg : Gl X x := by rfl) (hdb : (x == ("__debug__" : Str)) = false := by decide) (he : starEach (e :: es) X.env = (false, eval e X.env) :: starEach es X.env := by exact starC rfl) (hpl : (backTo pos (starEach es X.env)).any (·.1) = false := by rfl) :
    SE M X (.Call (.Name x p) (e :: es) [] pos) ρ k r k1 := by
  obtain ⟨f, fd, ps, ds, ws, F, hm, hk, hb, hd, hw⟩ := c.h
  refine SE.of (pe_call F (hr.mono hn) hg hm hk hb hd pass0 (pas (M := M)) hdb he hpl) fun σ H s q => ⟨ρ, k, rs, k1, ha, s, q, fun vs H1 p => ?_⟩
  refine ⟨M.S, rs ++ dvs, r, h, p.2.2.app (hw _), fun a ha => M.th p.2.1 a ha, fun v H' e hv => ?_⟩
  have u := M.up p.2.1 e
  exact ⟨p.1.trans u.2, u.1, hv⟩
theorem start_sl {K : PySem.W.Frag} {H : Hp} {N : List Str} {vs : List V} {rs : List R} (h : RPs K H vs rs) : Sl K H (L2.start N vs) (rs.map some ++ List.replicate (N.length - rs.length) none) := fun i r e => by
  have go : ∀ {vs : List V} {rs : List R} {tl : List (Option V)} {tl' : List (Option R)} {i : Nat} {r : R}, RPs K H vs rs → (∀ (i : Nat) (r : R), tl'[i]? ≠ some (some r)) → (rs.map some ++ tl')[i]? = some (some r) → ∃ v, (vs.map some ++ tl)[i]? = some (some v) ∧ RP K H v r := by
    intro vs rs tl tl' i r h
    induction h generalizing i with
    | nil => intro n e; exact absurd e (n i r)
    | cons a b ih =>
      intro n e
      cases i with
      | zero =>
        have e' : some (some _) = some (some r) := e
        cases e'
        exact ⟨_, rfl, a⟩
      | succ i => exact ih n e
  refine go h (fun i r z => ?_) e
  rw [List.getElem?_replicate] at z
  split at z <;> cases z
/-- the context of a def's body -/
abbrev CXB (P : Program) (w : World) (K : PySem.W.Frag) (mg : Str → Option Value) (base : Heap) (N : List Str) (qual : Str) (scope : Scope) (f : Addr) (cdv : Value) (A : Around) (outer : List Env) (s : Shared) (H : Hp) (E : XK) : Cx := (cxOf CX0 P w K mg base N qual scope f cdv A outer s H E).nox
section
variable {P : Program} {w : World} {K : PySem.W.Frag} {mg : Str → Option Value} {base : Heap}
abbrev P1 (r : R) : Pst Unit := ⟨fun _ _ => r = .d .none, fun q _ => q = r, fun _ _ => False, fun _ _ => False⟩
theorem body_reads {X : Cx} {sts : List Stmt} {S : List Addr} {vs : List V} {rs : List R} {r : R} {H : Hp} {Q : VK} {E : XK} (hX : X.K = K) (hv : RPs K (les S H) vs rs) (hS : ∀ a ∈ S, ∃ o, H a = some o) (hq : ∀ v H', Ex H H' → RP K (les S H') v r → Q v H')
    (hb : SB (MS S H) X sts (rs.map some ++ List.replicate (X.N.length - rs.length) none) () (P1 r)) : tSB (MS S H) X sts { nx := fun _ H' => Q .non H', rt := Q } (L2.start X.N vs) H := by
  subst hX
  have ex : ∀ {H'}, Ex (les S H) (les S H') → (MS S H).ok () H' → Ex H H' := fun {H'} e o a u h => by
    by_cases ha : a ∈ S
    · obtain ⟨u', e1, e2⟩ := o a ha
      rw [h] at e1
      cases e1
      exact e2
    · have := e a u (by rw [les_out ha]; exact h)
      rw [les_out ha] at this
      exact this
  refine ⟨_, (), _, hb, start_sl hv, fun a ha => let ⟨o, e⟩ := hS a ha; ⟨o, e, e⟩, fun σ' H' q => ?_, fun v H' q => ?_, fun σ' H' q => ?_, fun σ' H' q => ?_⟩
  · obtain ⟨ρ', k', l, e, o, sl, n⟩ := q
    have n' : r = .d .none := n
    subst n'
    exact hq _ _ (ex e o) .non
  · obtain ⟨r', k', ⟨e, o, rp⟩, n⟩ := q
    have n' : r' = r := n
    subst n'
    exact hq _ _ (ex e o) rp
  · obtain ⟨ρ', k', l, e, o, sl, n⟩ := q
    exact n.elim
  · obtain ⟨ρ', k', l, e, o, sl, n⟩ := q
    exact n.elim
/-- THE RULE for a def of the text -/
theorem fn_pure {x : Str} {st : Stmt} {f : Addr} {fd : FuncData} {N ps : List Str} {n : Nat} {rel : List R → R → Prop} (F : Fun K x x st f fd) (S : FnScope N ps (defScope st)) (hl : ∀ rs r, rel rs r → rs.length = ps.length)
    (hb : ∀ (cdv : Value) (A : Around) (outer : List Env) (s : Shared) (H : Hp) (E : XK) (rs : List R) (r : R) (S : List Addr) (H0 : Hp), Room n (CXB P w K mg base N x (defScope st) f cdv A outer s H E).A → rel rs r →
      SB (MS S H0) (CXB P w K mg base N x (defScope st) f cdv A outer s H E) (defBody st) (rs.map some ++ List.replicate (N.length - rs.length) none) () (P1 r)) :
    FnOk P w K mg base CX0 (n + 1) f fd ps (spP K rel) := by
  refine F.ok S (fun vs H Q E h => ?_) fun cdv A outer s H vs Q E hr h => ?_
  · obtain ⟨S, rs, r, h1, h2, _⟩ := h
    rw [h2.len, hl rs r h1]
  · obtain ⟨S, rs, r, h1, h2, h3, h4⟩ := h
    exact ⟨_, psb (M := MS S H), body_reads (K := K) (E := E) rfl h2 h3 h4 (hb cdv A outer s H E rs r S H hr h1)⟩
/-- .. with defaults -/
theorem fn_pureD {x : Str} {st : Stmt} {f : Addr} {fd : FuncData} {N ps : List Str} {n : Nat} {dvs : List V} {rel : List R → R → Prop} (F : FunD K x x (defArgs st) (defBody st) (defScope st) dvs [] f fd) (S : FnScope N ps (defScope st)) (hl : ∀ rs r, rel rs r → rs.length = ps.length)
    (hb : ∀ (cdv : Value) (A : Around) (outer : List Env) (s : Shared) (H : Hp) (E : XK) (rs : List R) (r : R) (S : List Addr) (H0 : Hp), Room n (CXB P w K mg base N x (defScope st) f cdv A outer s H E).A → rel rs r →
      SB (MS S H0) (CXB P w K mg base N x (defScope st) f cdv A outer s H E) (defBody st) (rs.map some ++ List.replicate (N.length - rs.length) none) () (P1 r)) :
    FnOk P w K mg base CX0 (n + 1) f fd ps (spP K rel) := by
  refine F.ok S (fun vs H Q E h => ?_) fun cdv A outer s H vs Q E hr h => ?_
  · obtain ⟨S, rs, r, h1, h2, _⟩ := h
    rw [h2.len, hl rs r h1]
  · obtain ⟨S, rs, r, h1, h2, h3, h4⟩ := h
    exact ⟨_, PSs.nox (psb (M := MS S H)), body_reads (K := K) (E := E) rfl h2 h3 h4 (hb cdv A outer s H E rs r S H hr h1)⟩
theorem cl_of {x : Str} {f : Addr} {fd : FuncData} {ps : List Str} {n : Nat} {rel : List R → R → Prop} (F : FnOk P w K mg base CX0 n f fd ps (spP K rel)) (hm : mg x = some (.ref f)) (hk : PySem.W.keepIn K (.ref f) = true) (hb : Binds K fd ps []) : Cl P w K mg base n x [] rel :=
  ⟨f, fd, ps, [], [], F, hm, hk, hb, .nil, fun _ => .nil⟩
end

/-! ### a list, a dict of one's own that changes -/
def own {β : Type} (M : Mem κ) (p : Addr) (c : β → Hp → HO → Prop) (mono : ∀ {b G G' o}, c b G o → Ex G G' → c b G' o) : Mem (κ × β) :=
  ⟨p :: M.S, fun k G H => M.okG k.1 G H ∧ ∃ o, H p = some o ∧ c k.2 G o, fun h e q => by
    obtain ⟨h1, o, h2, h3⟩ := h
    exact ⟨M.fr h1 e fun a ha => q a (List.mem_cons_of_mem _ ha), o, by rw [q p List.mem_cons_self]; exact h2, mono h3 e⟩, fun h a ha => by
    obtain ⟨h1, o, h2, h3⟩ := h
    rcases List.mem_cons.mp ha with e | e
    · rw [e]
      exact ⟨o, h2⟩
    · exact M.th h1 a e⟩
def lstC (K : PySem.W.Frag) (ds : List PyData) (G : Hp) (o : HO) : Prop := ∃ vs, o = .lst vs ∧ DpAll K G vs ds
theorem lstC_mono {K : PySem.W.Frag} {ds : List PyData} {G G' : Hp} {o : HO} (h : lstC K ds G o) (e : Ex G G') : lstC K ds G' o := let ⟨vs, h1, h2⟩ := h; ⟨vs, h1, dpxs e _ _ h2⟩
def dctC (kvs : List (Key × V)) (_ : Hp) (o : HO) : Prop := o = .dK kvs
theorem dctC_mono {kvs : List (Key × V)} {G G' : Hp} {o : HO} (h : dctC kvs G o) (_ : Ex G G') : dctC kvs G' o := h
abbrev oL (K : PySem.W.Frag) (M : Mem κ) (p : Addr) : Mem (κ × List PyData) := own M p (lstC K) lstC_mono
abbrev oD (M : Mem κ) (p : Addr) : Mem (κ × List (Key × V)) := own M p dctC dctC_mono
theorem own_notin {β : Type} {p : Addr} {H : Hp} (h : M.ok k H) (hp : H p = none) : p ∉ M.S := fun z => by
  obtain ⟨o, q⟩ := M.th h p z
  rw [hp] at q
  cases q
theorem own_in {β : Type} {p : Addr} {c : β → Hp → HO → Prop} {mono : ∀ {b G G' o}, c b G o → Ex G G' → c b G' o} {H : Hp} {o : HO} (h : M.ok k H) (hp : H p = none) : Ex (M.im H) ((own M p c mono).im (upd H p o)) := fun a u e => by
  have ha : a ∉ M.S := fun z => by
    have e' : les M.S H a = some u := e
    rw [les_in z] at e'
    cases e'
  have e2 : H a = some u := M.sub H a u e
  have hne : a ≠ p := ne_of_none e2 hp
  show les (p :: M.S) (upd H p o) a = some u
  rw [les_out (by simp [hne, ha]), upd_ne hne]
  exact e2
theorem own_start {β : Type} {p : Addr} {c : β → Hp → HO → Prop} {mono : ∀ {b G G' o}, c b G o → Ex G G' → c b G' o} {H : Hp} {o : HO} {b : β} (h : M.ok k H) (hp : H p = none) (hc : c b (M.im H) o) : (own M p c mono).ok (k, b) (upd H p o) := by
  have e := own_in (c := c) (mono := mono) (o := o) h hp
  refine ⟨M.fr h e fun a ha => ?_, o, upd_same, mono hc e⟩
  have hn := own_notin (β := β) h hp
  rw [upd_ne (fun z => hn (by rw [← z]; exact ha))]
theorem own_back {β : Type} {p : Addr} {c : β → Hp → HO → Prop} {mono : ∀ {b G G' o}, c b G o → Ex G G' → c b G' o} {H : Hp} : Ex ((own M p c mono).im H) (M.im H) := fun a u e => by
  have e' : les (p :: M.S) H a = some u := e
  by_cases h : a ∈ p :: M.S
  · rw [les_in h] at e'
    cases e'
  · show les M.S H a = some u
    rw [les_out h] at e'
    rw [les_out (fun z => h (List.mem_cons_of_mem _ z))]
    exact e'
theorem own_ok {β : Type} {p : Addr} {c : β → Hp → HO → Prop} {mono : ∀ {b G G' o}, c b G o → Ex G G' → c b G' o} {H : Hp} {b : β} (h : (own M p c mono).ok (k, b) H) : M.ok k H := M.fr h.1 own_back fun _ _ => rfl
/-- what is handed back, without the cell -/
def conv (p : Addr) (ds : List PyData) : R → R
  | .r v => if v = .ref p then .l ds else .r v
  | r => r
def PL (P : Pst κ) (p : Addr) : Pst (κ × List PyData) := ⟨fun _ _ => False, fun r kk => P.rt (conv p kk.2 r) kk.1, fun _ _ => False, fun _ _ => False⟩
theorem conv_rp {p : Addr} {H : Hp} {ds : List PyData} {v : V} {r : R} (hn : p ∉ M.S) (h : (oL X.K M p).ok (k, ds) H) (q : RP X.K ((oL X.K M p).im H) v r) : RP X.K (M.im H) v (conv p ds r) := by
  cases r with
  | d x => exact RP.ex (r := .d x) own_back q
  | l es => exact RP.ex (r := .l es) own_back q
  | r w =>
    have q' : v = w := q
    subst q'
    show RP X.K (M.im H) v (if v = .ref p then .l ds else .r v)
    by_cases z : v = .ref p
    · rw [if_pos z]
      obtain ⟨_, o, h2, vs, h3, h4⟩ := h
      subst h3
      refine ⟨p, vs, z, ?_, dpxs own_back _ _ h4⟩
      show les M.S H p = some (.lst vs)
      rw [les_out hn]
      exact h2
    · rw [if_neg z]
      exact rfl
/-- the rest of a block, a new list in a slot -/
theorem own_rest {p : Addr} {H0 H : Hp} {vs : List V} {ds : List PyData} {rest : List Stmt} {σ' : St} {ρ' : Rho} {P : Pst κ} (h : M.ok k H) (hp : H p = none) (hv : DpAll X.K (M.im H) vs ds) (e0 : Ex (M.im H0) (M.im H)) (hs : Sl X.K (M.im H) σ' ρ') {i : Nat} (hi : i < σ'.length)
    (hr : SB (oL X.K M p) X rest (ρ'.set i (some (.r (.ref p)))) (k, ds) (PL P p)) : tSB (oL X.K M p) X rest (P.ends M X H0) (σ'.set i (some (.ref p))) (upd H p (.lst vs)) := by
  have ei : Ex (M.im H) ((oL X.K M p).im (upd H p (.lst vs))) := own_in h hp
  have ok := own_start (c := lstC X.K) (mono := lstC_mono) (o := .lst vs) (b := ds) h hp ⟨vs, rfl, hv⟩
  have hn := own_notin (β := Unit) h hp
  refine ⟨_, _, _, hr, (hs.ex ei).set hi rfl, ok, fun _ _ q => ?_, fun v H' q => ?_, fun _ _ q => ?_, fun _ _ q => ?_⟩
  · obtain ⟨_, _, _, _, _, _, n⟩ := q
    exact n.elim
  · obtain ⟨r, kk, ⟨e, o, rp⟩, n⟩ := q
    exact ⟨_, kk.1, ⟨e0.trans (ei.trans (e.trans own_back)), own_ok o, conv_rp hn o rp⟩, n⟩
  · obtain ⟨_, _, _, _, _, _, n⟩ := q
    exact n.elim
  · obtain ⟨_, _, _, _, _, _, n⟩ := q
    exact n.elim
/-- x = [..], and what follows changes it -/
theorem sb_own {i : Nat} {x : Str} {es : List Expr} {pos' p1 : Pos} {ds : List PyData} {rest : List Stmt} {P : Pst κ} (hN : X.N.Nodup) (hi : X.N[i]? = some x) (hx : Loc X.env.scope x) (he : SD M X es ρ k ds k1) (hr : ∀ p, p ∉ M.S → SB (oL X.K M p) X rest (ρ.set i (some (.r (.ref p)))) (k1, ds) (PL P p))
    (hz : ds.length ≤ 100000 := by exact Nat.le_of_ble_eq_true rfl) (hs : swapsWith (.List es p1) (some (.Name x pos')) pos.line X.env = pure false := by rfl) (hf : X.fn x = true ∨ X.env.scope.names.lookup x = some .local := by first | exact .inl rfl | exact .inr rfl | assumption) :
    SB M X (.Assign [.Name x pos'] (.List es p1) pos :: rest) ρ k P := by
  refine ⟨fun pins s σ H I a b => ?_⟩
  refine thn ((ps_set (i := i) hN hi hx (pe_lst (pas (M := M))) hs hf).run pins s σ H ⟨fun σ' H' => ∃ p, tSB (oL X.K M p) X rest (P.ends M X H) σ' H', fun _ _ => False, fun _ _ => False, fun _ _ => False⟩ I ?_) (fun f s1 q => ?_) |> fun z => wpAny_execs_cons z
  · refine ⟨ρ, k, _, k1, he, a, b, fun vs H1 q => ⟨by have := q.2.2.len; rw [List.length_map] at this; exact sz_of (by omega), fun p hp => ⟨p, ?_⟩⟩⟩
    exact own_rest q.2.1 hp q.2.2.dp q.1 (a.ex q.1) (by rw [I.len]; exact (List.getElem?_eq_some_iff.mp hi).1) (hr p (own_notin (β := Unit) q.2.1 hp))
  · cases f with
    | next =>
      obtain ⟨σ', H', I', p, q⟩ := q
      exact psb.run pins s1 σ' H' _ I' q
    | ret v => obtain ⟨_, _, _, _, _, q⟩ := q; exact q.elim
    | brk => obtain ⟨_, _, _, q⟩ := q; exact q.elim
    | cont => obtain ⟨_, _, _, q⟩ := q; exact q.elim
end
end D

namespace D
open PySem L2 Evl
section
variable {κ : Type} {M : Mem κ} {X : Cx} {ρ : Rho} {k k1 k2 k3 : κ} {pos : Pos}

/-! ### loops -/
theorem PoS.mono {H : Hp} {N N' : Rho → κ → Prop} (h : ∀ ρ k, N ρ k → N' ρ k) {σ' : St} {H' : Hp} (q : PoS M X H N σ' H') : PoS M X H N' σ' H' :=
  let ⟨ρ', k', l, a, b, c, d⟩ := q
  ⟨ρ', k', l, a, b, c, h _ _ d⟩
theorem ss_while {c : Expr} {body : List Stmt} {P : Pst κ} (hp : PassesOwn (model X.prog X.w) X.A X.env X.xe) (W : Nat → Rho → κ → Prop) (m0 : Nat) (h0 : W m0 ρ k)
    (turn : ∀ m ρ k, W m ρ k → (∃ k1, ST M X c ρ k false k1 ∧ P.nx ρ k1) ∨ ∃ k1, ST M X c ρ k true k1 ∧ SB M X body ρ k1 { nx := fun ρ' k' => ∃ m', m' < m ∧ W m' ρ' k', ct := fun ρ' k' => ∃ m', m' < m ∧ W m' ρ' k', bk := P.nx, rt := P.rt }) :
    SS M X (.While c body [] pos) ρ k P := by
  refine SS.of (ps_while hp (pts (M := M)) (psb (M := M))) fun σ0 H0 l0 a0 b0 => ?_
  refine ⟨fun m σ H => PoS M X H0 (W m) σ H, ⟨m0, ρ, k, l0, Ex.refl _, b0, a0, h0⟩, ?_⟩
  rintro m σ H ⟨ρ1, k1, l1, e, b, a, w⟩
  rcases turn m ρ1 k1 w with ⟨k2, hc, hn⟩ | ⟨k2, hc, hb⟩
  · refine ⟨ρ1, k1, false, k2, hc, a, b, fun c' H1 p => ?_⟩
    obtain ⟨rfl, e1, o1⟩ := p
    rw [if_neg Bool.false_ne_true]
    exact ⟨ρ1, k2, l1, e.trans e1, o1, a.ex e1, hn⟩
  · refine ⟨ρ1, k1, true, k2, hc, a, b, fun c' H1 p => ?_⟩
    obtain ⟨rfl, e1, o1⟩ := p
    rw [if_pos rfl]
    refine ⟨fun σ' H' => ∃ m', m' < m ∧ PoS M X H0 (W m') σ' H', fun σ' H' z => z, ρ1, k2, _, hb, a.ex e1, o1, fun σ' H' q => ?_, fun v H' q => q.trans (e.trans e1), fun σ' H' q => q.trans (e.trans e1), fun σ' H' q => ?_⟩
    · obtain ⟨ρ', k', l', x1, x2, x3, m', hm, w'⟩ := q
      exact ⟨m', hm, ρ', k', l', (e.trans e1).trans x1, x2, x3, w'⟩
    · obtain ⟨ρ', k', l', x1, x2, x3, m', hm, w'⟩ := q
      exact ⟨m', hm, ρ', k', l', (e.trans e1).trans x1, x2, x3, w'⟩

/-- what a target makes of the slots -/
def TGt (M : Mem κ) (X : Cx) (tg : Expr) (f : PyData → Rho → Option Rho) : Prop :=
  ∃ g : TG, PG X tg g ∧ ∀ (σ : St) (H : Hp) (v : V) (d : PyData) (ρ ρ' : Rho) (Q : St → Hp → Prop), σ.length = X.N.length → Sl X.K (M.im H) σ ρ → Dp X.K (M.im H) v d → f d ρ = some ρ' → (∀ σ', σ'.length = X.N.length → Sl X.K (M.im H) σ' ρ' → Q σ' H) → g v σ H Q
def f1 (i : Nat) : PyData → Rho → Option Rho := fun d ρ => some (ρ.set i (some (.d d)))
theorem tg_name {i : Nat} {x : Str} {p : Pos} (hN : X.N.Nodup) (hi : X.N[i]? = some x := by rfl) (hx : Loc X.env.scope x := by first | exact Or.inl rfl | exact Or.inr rfl) (hf : X.fn x = true ∨ X.env.scope.names.lookup x = some .local := by first | exact .inl rfl | exact .inr rfl | assumption) : TGt M X (.Name x p) (f1 i) := by
  refine ⟨gName i, pg_name hN hi hx hf, fun σ H v d ρ ρ' Q hl hs hd e q => ?_⟩
  cases e
  exact q _ (by rw [List.length_set]; exact hl) (hs.set (by rw [hl]; exact (List.getElem?_eq_some_iff.mp hi).1) hd)
def f2 (i j : Nat) : PyData → Rho → Option Rho
  | .tuple [a, b], ρ => some ((ρ.set i (some (.d a))).set j (some (.d b)))
  | _, _ => none
theorem tg_two {i j : Nat} {x y : Str} {px py p : Pos} {kt : Nat} (hc : X.calm = true) (hN : X.N.Nodup) (hi : X.N[i]? = some x := by rfl) (hj : X.N[j]? = some y := by rfl) (hx : Loc X.env.scope x := by first | exact Or.inl rfl | exact Or.inr rfl) (hy : Loc X.env.scope y := by first | exact Or.inl rfl | exact Or.inr rfl)
    (hf : X.fn x = true ∨ X.env.scope.names.lookup x = some .local := by first | exact .inl rfl | exact .inr rfl | assumption) (hg : X.fn y = true ∨ X.env.scope.names.lookup y = some .local := by first | exact .inl rfl | exact .inr rfl | assumption)
    (hs2 : (assignEach ([.Name y py] : List Expr) X.env).map (·.2) = assign (.Name y py) X.env :: (assignEach [] X.env).map (·.2) := by rfl) (hs1 : (assignEach ([.Name x px, .Name y py] : List Expr) X.env).map (·.2) = assign (.Name x px) X.env :: (assignEach [.Name y py] X.env).map (·.2) := by rfl)
    (hn : (assignEach ([.Name x px, .Name y py] : List Expr) X.env).length = 2 := by rfl) (hst : (assignEach ([.Name x px, .Name y py] : List Expr) X.env).findIdx? (·.1) = none := by rfl) :
    TGt M X (.Tuple [.Name x px, .Name y py] kt p) (f2 i j) := by
  refine ⟨_, pg_tup hc (pgs_cons (pg_name (i := i) hN hi hx hf) (pgs_cons (pg_name (i := j) hN hj hy hg) pgs_nil hs2) hs1) hn hst, fun σ H v d ρ ρ' Q hl hs hd e q => ?_⟩
  match d, hd, e with
  | .tuple [da, db], hd, e =>
    cases e
    cases hd with
    | tup h1 h2 =>
      cases h2 with
      | cons a1 h3 =>
        cases h3 with
        | cons a2 h4 =>
          cases h4
          refine ⟨_, _, rfl, ex_t (M.sub H) h1, rfl, _, _, rfl, _, _, rfl, rfl, ?_⟩
          exact q _ (by rw [List.length_set, List.length_set]; exact hl) ((hs.set (by rw [hl]; exact (List.getElem?_eq_some_iff.mp hi).1) (r := .d da) a1).set (by rw [List.length_set, hl]; exact (List.getElem?_eq_some_iff.mp hj).1) (r := .d db) a2)
def f3 (i j l : Nat) : PyData → Rho → Option Rho
  | .tuple [a, b, c], ρ => some (((ρ.set i (some (.d a))).set j (some (.d b))).set l (some (.d c)))
  | _, _ => none
theorem tg_three {i j l : Nat} {x y z : Str} {px py pz p : Pos} {kt : Nat} (hc : X.calm = true) (hN : X.N.Nodup) (hi : X.N[i]? = some x := by rfl) (hj : X.N[j]? = some y := by rfl) (hk : X.N[l]? = some z := by rfl) (hx : Loc X.env.scope x := by first | exact Or.inl rfl | exact Or.inr rfl) (hy : Loc X.env.scope y := by first | exact Or.inl rfl | exact Or.inr rfl) (hz : Loc X.env.scope z := by first | exact Or.inl rfl | exact Or.inr rfl)
    (hf : X.fn x = true ∨ X.env.scope.names.lookup x = some .local := by first | exact .inl rfl | exact .inr rfl | assumption) (hg : X.fn y = true ∨ X.env.scope.names.lookup y = some .local := by first | exact .inl rfl | exact .inr rfl | assumption) (hh : X.fn z = true ∨ X.env.scope.names.lookup z = some .local := by first | exact .inl rfl | exact .inr rfl | assumption)
    (hs3 : (assignEach ([.Name z pz] : List Expr) X.env).map (·.2) = assign (.Name z pz) X.env :: (assignEach [] X.env).map (·.2) := by rfl) (hs2 : (assignEach ([.Name y py, .Name z pz] : List Expr) X.env).map (·.2) = assign (.Name y py) X.env :: (assignEach [.Name z pz] X.env).map (·.2) := by rfl)
    (hs1 : (assignEach ([.Name x px, .Name y py, .Name z pz] : List Expr) X.env).map (·.2) = assign (.Name x px) X.env :: (assignEach [.Name y py, .Name z pz] X.env).map (·.2) := by rfl)
    (hn : (assignEach ([.Name x px, .Name y py, .Name z pz] : List Expr) X.env).length = 3 := by rfl) (hst : (assignEach ([.Name x px, .Name y py, .Name z pz] : List Expr) X.env).findIdx? (·.1) = none := by rfl) :
    TGt M X (.Tuple [.Name x px, .Name y py, .Name z pz] kt p) (f3 i j l) := by
  refine ⟨_, pg_tup hc (pgs_cons (pg_name (i := i) hN hi hx hf) (pgs_cons (pg_name (i := j) hN hj hy hg) (pgs_cons (pg_name (i := l) hN hk hz hh) pgs_nil hs3) hs2) hs1) hn hst, fun σ H v d ρ ρ' Q hl hs hd e q => ?_⟩
  match d, hd, e with
  | .tuple [da, db, dc], hd, e =>
    cases e
    cases hd with
    | tup h1 h2 =>
      cases h2 with
      | cons a1 h3 =>
        cases h3 with
        | cons a2 h4 =>
          cases h4 with
          | cons a3 h5 =>
            cases h5
            refine ⟨_, _, rfl, ex_t (M.sub H) h1, rfl, _, _, rfl, _, _, rfl, _, _, rfl, rfl, ?_⟩
            exact q _ (by rw [List.length_set, List.length_set, List.length_set]; exact hl) (((hs.set (by rw [hl]; exact (List.getElem?_eq_some_iff.mp hi).1) (r := .d da) a1).set (by rw [List.length_set, hl]; exact (List.getElem?_eq_some_iff.mp hj).1) (r := .d db) a2).set (by rw [List.length_set, List.length_set, hl]; exact (List.getElem?_eq_some_iff.mp hk).1) (r := .d dc) a3)
/-- target = e -/
theorem ss_asg {tg e : Expr} {f : PyData → Rho → Option Rho} {d : PyData} {ρ' : Rho} {P : Pst κ} (ht : TGt M X tg f) (he : SE M X e ρ k (.d d) k1) (hq : P.nx ρ' k1) (hf : f d ρ = some ρ' := by rfl) (hs : swapsWithSole [tg] e pos.line X.env = pure false := by rfl) (hw : swappedStores [tg] e X.env = pure none := by rfl)
    (h1 : (assignEach [tg] X.env).map (·.2) = [assign tg X.env] := by rfl) : SS M X (.Assign [tg] e pos) ρ k P := by
  obtain ⟨g, hg, hG⟩ := ht
  refine ⟨fun pins s σ H I a b => ?_⟩
  refine (ps_asg (pes (M := M)) hg hs hw h1).run pins s σ H _ I ?_
  refine ⟨ρ, k, _, k1, he, a, b, fun v H1 p => ?_⟩
  exact hG σ H1 v d ρ ρ' _ I.len (a.ex p.1) p.2.2 hf fun σ' hl hs => ⟨ρ', k1, hl, p.1, p.2.1, hs, hq⟩

/-- for over a list that the body leaves as it is -/
theorem ss_forL {tg iter : Expr} {body : List Stmt} {f : PyData → Rho → Option Rho} {ds : List PyData} {P : Pst κ} (hp : PassesOwn (model X.prog X.w) X.A X.env X.xe) (hc : X.calm = true) (ht : TGt M X tg f) (he : SE M X iter ρ k (.d (.list ds)) k1) (W : Nat → Rho → κ → Prop) (h0 : W 0 ρ k1)
    (turn : ∀ i d ρ k, ds[i]? = some d → W i ρ k → ∃ ρ', f d ρ = some ρ' ∧ SB M X body ρ' k { nx := W (i + 1), ct := W (i + 1), bk := P.nx, rt := P.rt }) (hd : ∀ ρ k, W ds.length ρ k → P.nx ρ k)
    (hs : ∀ x, foldedSetIterable iter X.env x = pure x := by intro _; rfl) : SS M X (.For tg iter body [] pos) ρ k P := by
  obtain ⟨g, hg, hG⟩ := ht
  refine ⟨fun pins s σ0 H0 I a0 b0 => ?_⟩
  refine (ps_for hp hc (pi_list (pes (M := M))) hg (psb (M := M)) hs).run pins s σ0 H0 _ I ?_
  refine ⟨ρ, k, _, k1, he, a0, b0, fun v H1 p => ?_⟩
  have hv : Dp X.K (M.im H1) v (.list ds) := p.2.2
  cases hv with
  | @lst la xs _ h1 h2 =>
    have hL : ∀ {H}, Ex (M.im H1) (M.im H) → SqL X.K H la xs := fun e => ex_l (M.sub _) (ex_l e h1)
    have hlen := dpl h2
    refine ⟨la, rfl, ⟨xs, hL (Ex.refl _)⟩, for_list (xs := xs) (fun i σ H => Ex (M.im H1) (M.im H) ∧ PoS M X H0 (W i) σ H) ⟨Ex.refl _, ρ, k1, I.len, p.1, p.2.1, a0.ex p.1, h0⟩ (fun i σ H _ q => hL q.1) ?_ ?_⟩
    · rintro i x σ H hx ⟨e1, ρ1, k2, hl, e, o, sl, w⟩
      obtain ⟨d, hd1, hd2⟩ := dpget' h2 hx
      obtain ⟨ρ', hf, hb⟩ := turn i d ρ1 k2 hd1 w
      refine hG σ H x d ρ1 ρ' _ hl sl (dpx e1 d x hd2) hf fun σ' hl' hs' => ?_
      refine ⟨ρ', k2, _, hb, hs', o, fun σ'' H'' q => ?_, fun v H'' q => q.trans e, fun σ'' H'' q => q.trans e, fun σ'' H'' q => ?_⟩
      · obtain ⟨ρ3, k3, l3, x1, x2, x3, x4⟩ := q
        exact ⟨e1.trans x1, ρ3, k3, l3, e.trans x1, x2, x3, x4⟩
      · obtain ⟨ρ3, k3, l3, x1, x2, x3, x4⟩ := q
        exact ⟨e1.trans x1, ρ3, k3, l3, e.trans x1, x2, x3, x4⟩
    · rintro σ H ⟨_, q⟩
      rw [hlen] at q
      exact q.mono hd
theorem ss_forT {tg iter : Expr} {body : List Stmt} {f : PyData → Rho → Option Rho} {ds : List PyData} {P : Pst κ} (hp : PassesOwn (model X.prog X.w) X.A X.env X.xe) (hc : X.calm = true) (ht : TGt M X tg f) (he : SE M X iter ρ k (.d (.tuple ds)) k1) (W : Nat → Rho → κ → Prop) (h0 : W 0 ρ k1)
    (turn : ∀ i d ρ k, ds[i]? = some d → W i ρ k → ∃ ρ', f d ρ = some ρ' ∧ SB M X body ρ' k { nx := W (i + 1), ct := W (i + 1), bk := P.nx, rt := P.rt }) (hd : ∀ ρ k, W ds.length ρ k → P.nx ρ k)
    (hs : ∀ x, foldedSetIterable iter X.env x = pure x := by intro _; rfl) : SS M X (.For tg iter body [] pos) ρ k P := by
  obtain ⟨g, hg, hG⟩ := ht
  refine ⟨fun pins s σ0 H0 I a0 b0 => ?_⟩
  refine (ps_for hp hc (pi_tup (pes (M := M))) hg (psb (M := M)) hs).run pins s σ0 H0 _ I ?_
  refine ⟨ρ, k, _, k1, he, a0, b0, fun v H1 p => ?_⟩
  have hv : Dp X.K (M.im H1) v (.tuple ds) := p.2.2
  cases hv with
  | @tup la xs _ h1 h2 =>
    have hL : ∀ {H}, Ex (M.im H1) (M.im H) → SqT X.K H la xs := fun e => ex_t (M.sub _) (ex_t e h1)
    have hlen := dpl h2
    refine ⟨la, rfl, ⟨xs, hL (Ex.refl _)⟩, for_tup (xs := xs) (fun i σ H => Ex (M.im H1) (M.im H) ∧ PoS M X H0 (W i) σ H) ⟨Ex.refl _, ρ, k1, I.len, p.1, p.2.1, a0.ex p.1, h0⟩ (fun i σ H _ q => hL q.1) ?_ ?_⟩
    · rintro i x σ H hx ⟨e1, ρ1, k2, hl, e, o, sl, w⟩
      obtain ⟨d, hd1, hd2⟩ := dpget' h2 hx
      obtain ⟨ρ', hf, hb⟩ := turn i d ρ1 k2 hd1 w
      refine hG σ H x d ρ1 ρ' _ hl sl (dpx e1 d x hd2) hf fun σ' hl' hs' => ?_
      refine ⟨ρ', k2, _, hb, hs', o, fun σ'' H'' q => ?_, fun v H'' q => q.trans e, fun σ'' H'' q => q.trans e, fun σ'' H'' q => ?_⟩
      · obtain ⟨ρ3, k3, l3, x1, x2, x3, x4⟩ := q
        exact ⟨e1.trans x1, ρ3, k3, l3, e.trans x1, x2, x3, x4⟩
      · obtain ⟨ρ3, k3, l3, x1, x2, x3, x4⟩ := q
        exact ⟨e1.trans x1, ρ3, k3, l3, e.trans x1, x2, x3, x4⟩
    · rintro σ H ⟨_, q⟩
      rw [hlen] at q
      exact q.mono hd
/-- for over range(n), range(a, b) -/
theorem ss_forR1 {tg a : Expr} {body : List Stmt} {f : PyData → Rho → Option Rho} {n : Int} {P : Pst κ} {p1 p2 : Pos} (hp : PassesOwn (model X.prog X.w) X.A X.env X.xe) (hc : X.calm = true) (hm : X.mg "range" = none) (ht : TGt M X tg f) (he : SA M X [a] ρ k [.d (.int n)] k1) (hn : 0 ≤ n ∧ n ≤ 100000) (W : Nat → Rho → κ → Prop) (h0 : W 0 ρ k1)
    (turn : ∀ (i : Nat) ρ k, (i : Int) < n → W i ρ k → ∃ ρ', f (.int (i : Int)) ρ = some ρ' ∧ SB M X body ρ' k { nx := W (i + 1), ct := W (i + 1), bk := P.nx, rt := P.rt }) (hd : ∀ ρ k, W n.toNat ρ k → P.nx ρ k)
    (hg : Gl X "range" := by rfl) (hs' : starEach [a] X.env = [(false, eval a X.env)] := by exact starC rfl) (hs : ∀ x, foldedSetIterable (.Call (.Name "range" p1) [a] [] p2) X.env x = pure x := by intro _; rfl) : SS M X (.For tg (.Call (.Name "range" p1) [a] [] p2) body [] pos) ρ k P := by
  obtain ⟨g, hg', hG⟩ := ht
  refine ⟨fun pins s σ0 H0 I a0 b0 => ?_⟩
  refine (ps_for hp hc (pi_range1 hg hm (pas (M := M)) hs') hg' (psb (M := M)) hs).run pins s σ0 H0 _ I ?_
  refine ⟨ρ, k, _, k1, he, a0, b0, fun vs H1 p => ?_⟩
  have hv : RPs X.K (M.im H1) vs [.d (.int n)] := p.2.2
  cases hv with
  | cons hv1 hv2 =>
    cases hv2
    have hv1' : Dp X.K (M.im H1) _ (.int n) := hv1
    cases hv1'
    refine ⟨n, rfl, by omega, by omega, for_range (lo := 0) (n := n.toNat) (fun i σ H => PoS M X H0 (W i) σ H) ⟨ρ, k1, I.len, p.1, p.2.1, a0.ex p.1, h0⟩ ?_ ?_⟩
    · rintro i σ H hi ⟨ρ1, k2, hl, e, o, sl, w⟩
      have e0 : (0 : Int) + (i : Int) = (i : Int) := Int.zero_add _
      obtain ⟨ρ', hf, hb⟩ := turn i ρ1 k2 (by omega) w
      rw [e0]
      refine hG σ H (.int i) (.int i) ρ1 ρ' _ hl sl (.int _) hf fun σ' hl' hs' => ?_
      exact ⟨ρ', k2, _, hb, hs', o, fun σ'' H'' q => q.trans e, fun v H'' q => q.trans e, fun σ'' H'' q => q.trans e, fun σ'' H'' q => q.trans e⟩
    · intro σ H q
      exact q.mono hd
theorem ss_forR2 {tg a b : Expr} {body : List Stmt} {f : PyData → Rho → Option Rho} {lo n : Int} {P : Pst κ} {p1 p2 : Pos} (hp : PassesOwn (model X.prog X.w) X.A X.env X.xe) (hc : X.calm = true) (hm : X.mg "range" = none) (ht : TGt M X tg f) (he : SA M X [a, b] ρ k [.d (.int lo), .d (.int n)] k1) (hn : 0 ≤ lo ∧ lo ≤ 100000 ∧ 0 ≤ n ∧ n ≤ 100000) (W : Nat → Rho → κ → Prop) (h0 : W 0 ρ k1)
    (turn : ∀ (i : Nat) ρ k, lo + (i : Int) < n → W i ρ k → ∃ ρ', f (.int (lo + (i : Int))) ρ = some ρ' ∧ SB M X body ρ' k { nx := W (i + 1), ct := W (i + 1), bk := P.nx, rt := P.rt }) (hd : ∀ ρ k, W (n - lo).toNat ρ k → P.nx ρ k)
    (hg : Gl X "range" := by rfl) (hs' : starEach [a, b] X.env = [(false, eval a X.env), (false, eval b X.env)] := by rfl) (hs2 : starEach [b] X.env = [(false, eval b X.env)] := by exact starC rfl) (hs : ∀ x, foldedSetIterable (.Call (.Name "range" p1) [a, b] [] p2) X.env x = pure x := by intro _; rfl) : SS M X (.For tg (.Call (.Name "range" p1) [a, b] [] p2) body [] pos) ρ k P := by
  obtain ⟨g, hg', hG⟩ := ht
  refine ⟨fun pins s σ0 H0 I a0 b0 => ?_⟩
  refine (ps_for hp hc (pi_range2 hg hm (pas (M := M)) hs' hs2) hg' (psb (M := M)) hs).run pins s σ0 H0 _ I ?_
  refine ⟨ρ, k, _, k1, he, a0, b0, fun vs H1 p => ?_⟩
  have hv : RPs X.K (M.im H1) vs [.d (.int lo), .d (.int n)] := p.2.2
  cases hv with
  | cons hv1 hv2 =>
    cases hv2 with
    | cons hv2 hv3 =>
      cases hv3
      have hv1' : Dp X.K (M.im H1) _ (.int lo) := hv1
      have hv2' : Dp X.K (M.im H1) _ (.int n) := hv2
      cases hv1'
      cases hv2'
      refine ⟨lo, n, rfl, ⟨by omega, by omega, by omega, by omega⟩, for_range (lo := lo) (n := (n - lo).toNat) (fun i σ H => PoS M X H0 (W i) σ H) ⟨ρ, k1, I.len, p.1, p.2.1, a0.ex p.1, h0⟩ ?_ ?_⟩
      · rintro i σ H hi ⟨ρ1, k2, hl, e, o, sl, w⟩
        obtain ⟨ρ', hf, hb⟩ := turn i ρ1 k2 (by omega) w
        refine hG σ H (.int (lo + i)) (.int (lo + i)) ρ1 ρ' _ hl sl (.int _) hf fun σ' hl' hs' => ?_
        exact ⟨ρ', k2, _, hb, hs', o, fun σ'' H'' q => q.trans e, fun v H'' q => q.trans e, fun σ'' H'' q => q.trans e, fun σ'' H'' q => q.trans e⟩
      · intro σ H q
        exact q.mono hd
/-- a, b = x, y with plain local names -/
theorem ss_par2 (i j : Nat) {x y : Str} {a b : Expr} {px py pt : Pos} {kt k2' : Nat} {pt2 : Pos} {r1 r2 : R} {P : Pst κ} (hc : X.calm = true) (hN : X.N.Nodup) (ha : SA M X [a, b] ρ k [r1, r2] k1) (hq : P.nx ((ρ.set i (some r1)).set j (some r2)) k1) (hi : X.N[i]? = some x := by rfl) (hj : X.N[j]? = some y := by rfl) (hij : i ≠ j := by decide)
    (hx : X.env.scope.names.lookup x = some .local := by rfl) (hy : X.env.scope.names.lookup y = some .local := by rfl)
    (hw : swappedStores [.Tuple [.Name x px, .Name y py] kt pt] (.Tuple [a, b] k2' pt2) X.env = pure (some [x, y]) := by rfl)
    (hs : swapsWithSole [.Tuple [.Name x px, .Name y py] kt pt] (.Tuple [a, b] k2' pt2) pos.line X.env = pure false := by rfl) : SS M X (.Assign [.Tuple [.Name x px, .Name y py] kt pt] (.Tuple [a, b] k2' pt2) pos) ρ k P := by
  refine ⟨fun pins s σ H I a0 b0 => ?_⟩
  refine (ps_par (i := i) (j := j) hc hN hi hj hij hx hy (pas (M := M)) hw hs).run pins s σ H _ I ?_
  refine ⟨ρ, k, _, k1, ha, a0, b0, fun vs H1 p => ?_⟩
  have h := p.2.2
  cases h with
  | cons h1 h =>
    cases h with
    | cons h2 h =>
      cases h
      refine ⟨_, _, rfl, _, k1, by rw [List.length_set, List.length_set]; exact I.len, p.1, p.2.1, ?_, hq⟩
      exact ((a0.ex p.1).set (by rw [I.len]; exact (List.getElem?_eq_some_iff.mp hi).1) h1).set (by rw [List.length_set, I.len]; exact (List.getElem?_eq_some_iff.mp hj).1) h2
end
end D

namespace D
open PySem L2 Evl
section
variable {κ : Type} {M : Mem κ} {X : Cx} {ρ : Rho} {k k1 k2 k3 : κ} {pos : Pos}

/-! ### built-ins -/
theorem se_bi {id : String} {x : Str} {r : List V → Hp → VK → Prop} {e : Expr} {es : List Expr} {rs : List R} {z : R} {p : Pos} (hc : CallR X (.builtin id) r) (hm : X.mg x = none) (hv : bootBuiltins x = some (.builtin id)) (ha : SA M X (e :: es) ρ k rs k1)
    (h : ∀ H vs, M.ok k1 H → RPs X.K (M.im H) vs rs → ∀ Q : VK, (∀ v H', Po M X H k1 z v H' → Q v H') → r vs H Q) (hg : Gl X x := by rfl) (hn : x ≠ "__name__" := by decide) (hdb : (x == ("__debug__" : Str)) = false := by decide)
    (he : starEach (e :: es) X.env = (false, eval e X.env) :: starEach es X.env := by exact starC rfl) (hpl : (backTo pos (starEach es X.env)).any (·.1) = false := by rfl) : SE M X (.Call (.Name x p) (e :: es) [] pos) ρ k z k1 :=
  SE.of (pe_callB hc hg hm hv (pas (M := M)) hn hdb he hpl) fun σ H s q => ⟨ρ, k, rs, k1, ha, s, q, fun vs H1 p => h H1 vs p.2.1 p.2.2 _ fun v H' z => z.back p.1⟩
theorem se_ty {T : String} {x : Str} {r : List V → Hp → VK → Prop} {e : Expr} {es : List Expr} {rs : List R} {z : R} {p : Pos} (hc : CallR X (.type T) r) (hm : X.mg x = none) (hv : bootBuiltins x = some (.type T)) (ha : SA M X (e :: es) ρ k rs k1)
    (h : ∀ H vs, M.ok k1 H → RPs X.K (M.im H) vs rs → ∀ Q : VK, (∀ v H', Po M X H k1 z v H' → Q v H') → r vs H Q) (hg : Gl X x := by rfl) (hn : x ≠ "__name__" := by decide) (hdb : (x == ("__debug__" : Str)) = false := by decide)
    (he : starEach (e :: es) X.env = (false, eval e X.env) :: starEach es X.env := by exact starC rfl) (hpl : (backTo pos (starEach es X.env)).any (·.1) = false := by rfl) : SE M X (.Call (.Name x p) (e :: es) [] pos) ρ k z k1 :=
  SE.of (pe_callTy hc hg hm hv (pas (M := M)) hn hdb he hpl) fun σ H s q => ⟨ρ, k, rs, k1, ha, s, q, fun vs H1 p => h H1 vs p.2.1 p.2.2 _ fun v H' z => z.back p.1⟩
theorem one_d {K : PySem.W.Frag} {H : Hp} {vs : List V} {r : R} (h : RPs K H vs [r]) : ∃ v, vs = [v] ∧ RP K H v r := by
  cases h with
  | cons a b =>
    cases b
    exact ⟨_, rfl, a⟩
theorem same_po {H : Hp} {z : R} {v : V} (h : M.ok k H) (q : RP X.K (M.im H) v z) : Po M X H k z v H := ⟨Ex.refl _, h, q⟩
variable {e : Expr} {p : Pos}
theorem se_lenT {ds : List PyData} (hm : X.mg "len" = none) (ha : SE M X e ρ k (.d (.tuple ds)) k1) (hg : Gl X "len" := by rfl) (he : starEach [e] X.env = (false, eval e X.env) :: starEach [] X.env := by exact starC rfl) : SE M X (.Call (.Name "len" p) [e] [] pos) ρ k (.d (.int ds.length)) k1 :=
  se_bi call_len_seq hm PySem.boot_len (sa1 ha he) (fun H vs o h Q q => by
    obtain ⟨v, rfl, hv⟩ := one_d h
    have hv' : Dp X.K (M.im H) v (.tuple ds) := hv
    cases hv' with
    | tup h1 h2 =>
      refine ⟨_, _, rfl, Or.inr (ex_t (M.sub H) h1), ?_⟩
      rw [dpl h2]
      exact q _ _ (same_po o (.int _))) hg (by decide) (by decide) he
theorem se_lenL {ds : List PyData} (hm : X.mg "len" = none) (ha : SE M X e ρ k (.d (.list ds)) k1) (hg : Gl X "len" := by rfl) (he : starEach [e] X.env = (false, eval e X.env) :: starEach [] X.env := by exact starC rfl) : SE M X (.Call (.Name "len" p) [e] [] pos) ρ k (.d (.int ds.length)) k1 :=
  se_bi call_len_seq hm PySem.boot_len (sa1 ha he) (fun H vs o h Q q => by
    obtain ⟨v, rfl, hv⟩ := one_d h
    have hv' : Dp X.K (M.im H) v (.list ds) := hv
    cases hv' with
    | lst h1 h2 =>
      refine ⟨_, _, rfl, Or.inl (ex_l (M.sub H) h1), ?_⟩
      rw [dpl h2]
      exact q _ _ (same_po o (.int _))) hg (by decide) (by decide) he
theorem se_lenS {x : Str} (hz : x.length ≤ 100000) (hm : X.mg "len" = none) (ha : SE M X e ρ k (.d (.str x)) k1) (hg : Gl X "len" := by rfl) (he : starEach [e] X.env = (false, eval e X.env) :: starEach [] X.env := by exact starC rfl) : SE M X (.Call (.Name "len" p) [e] [] pos) ρ k (.d (.int x.length)) k1 :=
  se_bi call_len_str hm PySem.boot_len (sa1 ha he) (fun H vs o h Q q => by
    obtain ⟨v, rfl, hv⟩ := one_d h
    have hv' : Dp X.K (M.im H) v (.str x) := hv
    cases hv'
    exact ⟨x, rfl, sz_of hz, q _ _ (same_po o (.int _))⟩) hg (by decide) (by decide) he
/-- isinstance(x, T) of data -/
def tyD : PyData → String
  | .none => "NoneType"
  | .bool _ => "bool"
  | .int _ => "int"
  | .str _ => "str"
  | .list _ => "list"
  | .tuple _ => "tuple"
  | .dict _ => "dict"
theorem ty_x {K : PySem.W.Frag} {H : Hp} {v : V} {d : PyData} (h : Dp K H v d) : TyX K H v (.type (tyD d)) := by
  cases h with
  | non => exact .base .non
  | bl b => exact .base (.bl b)
  | int i => exact .base (.int i)
  | str x => exact .base (.str x)
  | lst h _ =>
    rcases h with (h | ⟨o, h⟩) | ⟨o, its, n, h1, h2, _⟩
    · exact .base (.lst h)
    · exact .base (.frz h)
    · exact .kList h1 h2
  | tup h _ =>
    rcases h with (h | ⟨o, h⟩) | ⟨o, its, n, h1, h2, _⟩
    · exact .base (.tup h)
    · exact .fTuple h
    · exact .kTuple h1 h2
theorem se_isi {x : PyData} {y : Str} {T : String} {c : Bool} {p2 : Pos} (hm : X.mg "isinstance" = none) (hy : X.mg y = none) (hb : bootBuiltins y = some (.type T)) (hk : kitB (tyD x) T = some c) (ha : SE M X e ρ k (.d x) k1) (hg : Gl X "isinstance" := by rfl) (hgy : Gl X y := by rfl)
    (hn : y ≠ "__name__" := by decide) (hdb : (y == ("__debug__" : Str)) = false := by decide) (he1 : starEach [e, .Name y p2] X.env = (false, eval e X.env) :: starEach [.Name y p2] X.env := by exact starC rfl) (he2 : starEach [.Name y p2] X.env = (false, eval (.Name y p2) X.env) :: starEach [] X.env := by exact starC rfl)
    (hpl : (backTo pos (starEach [.Name y p2] X.env)).any (·.1) = false := by rfl) : SE M X (.Call (.Name "isinstance" p) [e, .Name y p2] [] pos) ρ k (.d (.bool c)) k1 := by
  refine se_bi (rs := [.d x, .r (.ty T)]) call_isi hm (by decide +kernel) (sa_cons ha (sa_cons (SE.of (pe_bltn hgy hy hb (v := .ty T) rfl hn hdb) fun σ H a b => ⟨Ex.refl _, b, rfl⟩) sa_nil he2) he1) (fun H vs o h Q q => ?_) hg (by decide) (by decide) he1 hpl
  cases h with
  | cons h1 h2 =>
    obtain ⟨v, rfl, hv⟩ := one_d h2
    have hv' : v = .ty T := hv
    subst hv'
    exact ⟨_, _, _, _, c, rfl, .ty T, ty_x (dpx (M.sub H) _ _ h1), kit_ty hk, q _ _ (same_po o (.bl _))⟩
theorem dp_bools {K : PySem.W.Frag} {H : Hp} : ∀ {vs : List V} {bs : List Bool}, DpAll K H vs (bs.map PyData.bool) → vs = bs.map V.bl
  | _, [], h => by cases h; rfl
  | _, b :: bs, h => by
    cases h with
    | cons a t =>
      cases a
      rw [dp_bools t]
      rfl
theorem dp_ints {K : PySem.W.Frag} {H : Hp} : ∀ {vs : List V} {ns : List Int}, DpAll K H vs (ns.map PyData.int) → vs = ns.map V.int
  | _, [], h => by cases h; rfl
  | _, b :: bs, h => by
    cases h with
    | cons a t =>
      cases a
      rw [dp_ints t]
      rfl
theorem se_any {bs : List Bool} (hc : X.calm = true) (hm : X.mg "any" = none) (ha : SE M X e ρ k (.d (.list (bs.map .bool))) k1) (hg : Gl X "any" := by rfl) (he : starEach [e] X.env = (false, eval e X.env) :: starEach [] X.env := by exact starC rfl) : SE M X (.Call (.Name "any" p) [e] [] pos) ρ k (.d (.bool (bs.any id))) k1 :=
  se_bi (cr_any hc) hm (by decide +kernel) (sa1 ha he) (fun H vs o h Q q => by
    obtain ⟨v, rfl, hv⟩ := one_d h
    have hv' : Dp X.K (M.im H) v (.list (bs.map .bool)) := hv
    cases hv' with
    | lst h1 h2 =>
      have e1 := dp_bools h2
      subst e1
      exact ⟨_, bs, rfl, ex_l (M.sub H) h1, q _ _ (same_po o (.bl _))⟩) hg (by decide) (by decide) he
theorem se_all {bs : List Bool} (hc : X.calm = true) (hm : X.mg "all" = none) (ha : SE M X e ρ k (.d (.list (bs.map .bool))) k1) (hg : Gl X "all" := by rfl) (he : starEach [e] X.env = (false, eval e X.env) :: starEach [] X.env := by exact starC rfl) : SE M X (.Call (.Name "all" p) [e] [] pos) ρ k (.d (.bool (bs.all id))) k1 :=
  se_bi (cr_all hc) hm (by decide +kernel) (sa1 ha he) (fun H vs o h Q q => by
    obtain ⟨v, rfl, hv⟩ := one_d h
    have hv' : Dp X.K (M.im H) v (.list (bs.map .bool)) := hv
    cases hv' with
    | lst h1 h2 =>
      have e1 := dp_bools h2
      subst e1
      exact ⟨_, bs, rfl, ex_l (M.sub H) h1, q _ _ (same_po o (.bl _))⟩) hg (by decide) (by decide) he
theorem se_sum {ns : List Int} (hc : X.calm = true) (hm : X.mg "sum" = none) (ha : SE M X e ρ k (.d (.list (ns.map .int))) k1) (hg : Gl X "sum" := by rfl) (he : starEach [e] X.env = (false, eval e X.env) :: starEach [] X.env := by exact starC rfl) : SE M X (.Call (.Name "sum" p) [e] [] pos) ρ k (.d (.int ns.sum)) k1 :=
  se_bi (cr_sum hc) hm (by decide +kernel) (sa1 ha he) (fun H vs o h Q q => by
    obtain ⟨v, rfl, hv⟩ := one_d h
    have hv' : Dp X.K (M.im H) v (.list (ns.map .int)) := hv
    cases hv' with
    | lst h1 h2 =>
      have e1 := dp_ints h2
      subst e1
      exact ⟨_, ns, rfl, ex_l (M.sub H) h1, q _ _ (same_po o (.int _))⟩) hg (by decide) (by decide) he
theorem se_toInt {i : Int} (hm : X.mg "int" = none) (ha : SE M X e ρ k (.d (.int i)) k1) (hg : Gl X "int" := by rfl) (he : starEach [e] X.env = (false, eval e X.env) :: starEach [] X.env := by exact starC rfl) : SE M X (.Call (.Name "int" p) [e] [] pos) ρ k (.d (.int i)) k1 :=
  se_ty call_int1 hm (by decide +kernel) (sa1 ha he) (fun H vs o h Q q => by
    obtain ⟨v, rfl, hv⟩ := one_d h
    have hv' : Dp X.K (M.im H) v (.int i) := hv
    cases hv'
    exact .inl ⟨i, rfl, q _ _ (same_po o (.int _))⟩) hg (by decide) (by decide) he
/-- list(..), tuple(..) -/
theorem se_listT {ds : List PyData} (hm : X.mg "list" = none) (ha : SE M X e ρ k (.d (.tuple ds)) k1) (hg : Gl X "list" := by rfl) (he : starEach [e] X.env = (false, eval e X.env) :: starEach [] X.env := by exact starC rfl) : SE M X (.Call (.Name "list" p) [e] [] pos) ρ k (.l ds) k1 :=
  se_ty call_list_of hm (by decide +kernel) (sa1 ha he) (fun H vs o h Q q => by
    obtain ⟨v, rfl, hv⟩ := one_d h
    have hv' : Dp X.K (M.im H) v (.tuple ds) := hv
    cases hv' with
    | tup h1 h2 => exact ⟨_, _, rfl, .inr (ex_t (M.sub H) h1), fun l hl => q _ _ (own_lst o h2 l hl)⟩) hg (by decide) (by decide) he
theorem se_tupL {ds : List PyData} (hm : X.mg "tuple" = none) (ha : SE M X e ρ k (.d (.list ds)) k1) (hg : Gl X "tuple" := by rfl) (he : starEach [e] X.env = (false, eval e X.env) :: starEach [] X.env := by exact starC rfl) : SE M X (.Call (.Name "tuple" p) [e] [] pos) ρ k (.d (.tuple ds)) k1 :=
  se_ty call_tuple_of hm (by decide +kernel) (sa1 ha he) (fun H vs o h Q q => by
    obtain ⟨v, rfl, hv⟩ := one_d h
    have hv' : Dp X.K (M.im H) v (.list ds) := hv
    cases hv' with
    | lst h1 h2 => exact ⟨_, _, rfl, .inl ⟨ex_l (M.sub H) h1, fun l hl => q _ _ (new_tup o h2 l hl)⟩⟩) hg (by decide) (by decide) he

/-! ### the list of one's own -/
section
variable {pp : Addr} {ds es : List PyData} {a : Expr}
/-- the list at pp as it stands -/
theorem oL_at {K : PySem.W.Frag} {H : Hp} (h : (oL K M pp).ok (k, ds) H) : ∃ vs, H pp = some (.lst vs) ∧ DpAll K ((oL K M pp).im H) vs ds := by
  obtain ⟨_, o, h2, vs, h3, h4⟩ := h
  subst h3
  exact ⟨vs, h2, h4⟩
theorem oL_set {K : PySem.W.Frag} {H : Hp} {vs : List V} {d' : List PyData} (h : (oL K M pp).ok (k, ds) H) (hn : pp ∉ M.S) (hv : DpAll K ((oL K M pp).im H) vs d') : (oL K M pp).ok (k, d') (upd H pp (.lst vs)) ∧ Ex ((oL K M pp).im H) ((oL K M pp).im (upd H pp (.lst vs))) := by
  have e : (oL K M pp).im (upd H pp (.lst vs)) = (oL K M pp).im H := by
    funext x
    show les (pp :: M.S) (upd H pp (.lst vs)) x = les (pp :: M.S) H x
    by_cases hx : x ∈ pp :: M.S
    · rw [les_in hx, les_in hx]
    · rw [les_out hx, les_out hx, upd_ne (fun z => hx (by rw [z]; exact List.mem_cons_self))]
  refine ⟨⟨?_, _, upd_same, vs, rfl, by show DpAll K ((oL K M pp).im _) _ _; rw [e]; exact hv⟩, by rw [e]; exact Ex.refl _⟩
  obtain ⟨h1, _⟩ := h
  show M.okG k ((oL K M pp).im (upd H pp (.lst vs))) _
  rw [e]
  exact M.fr h1 (Ex.refl _) fun a ha => upd_ne (fun z => hn (by rw [← z]; exact ha))
theorem se_ownLen (hm : X.mg "len" = none) (ha : SE (oL X.K M pp) X e ρ (k, ds) (.r (.ref pp)) (k1, ds)) (hg : Gl X "len" := by rfl) (he : starEach [e] X.env = (false, eval e X.env) :: starEach [] X.env := by exact starC rfl) : SE (oL X.K M pp) X (.Call (.Name "len" p) [e] [] pos) ρ (k, ds) (.d (.int ds.length)) (k1, ds) :=
  se_bi call_len_seq hm PySem.boot_len (sa1 ha he) (fun H vs o h Q q => by
    obtain ⟨v, rfl, hv⟩ := one_d h
    have hv' : v = .ref pp := hv
    subst hv'
    obtain ⟨vs, h1, h2⟩ := oL_at o
    refine ⟨_, _, rfl, Or.inl (sq_of h1), ?_⟩
    rw [dpl h2]
    exact q _ _ (same_po o (.int _))) hg (by decide) (by decide) he
/-- while todo -/
theorem st_own {i : Nat} {x : Str} {px : Pos} (hr : ρ[i]? = some (some (.r (.ref pp))) := by rfl) (hN : X.N[i]? = some x := by rfl) (hv : Vis X.env.scope x := by first | exact Or.inl rfl | exact Or.inr (Or.inl rfl) | exact Or.inr (Or.inr rfl)) (hd : (x == ("__debug__" : Str)) = false := by decide)
    (hcd : (x == ("__classdict__" : Str)) = false := by decide) : ST (oL X.K M pp) X (.Name x px) ρ (k, ds) (!ds.isEmpty) (k, ds) :=
  ST.of (pt_truth (pes (M := oL X.K M pp)) fun _ => rfl) fun σ H s q => ⟨ρ, _, _, _, se_v i hr hN hv hd hcd, s, q, fun v H1 p => by
    have z : v = .ref pp := p.2.2
    subst z
    obtain ⟨vs, h1, h2⟩ := oL_at p.2.1
    refine ⟨!ds.isEmpty, .inl ⟨vs, sq_of h1, ?_⟩, rfl, p.1, p.2.1⟩
    cases h2 <;> rfl⟩
/-- todo += e -/
theorem ss_ext {i : Nat} {x : Str} {pos' : Pos} {P : Pst (κ × List PyData)} (hn : pp ∉ M.S) (hN : X.N.Nodup) (he : SE (oL X.K M pp) X e ρ (k, ds) (.l es) (k1, ds)) (hz : ds.length + es.length ≤ 100000) (hq : P.nx (ρ.set i (some (.r (.ref pp)))) (k1, ds ++ es)) (hr : ρ[i]? = some (some (.r (.ref pp))) := by rfl) (hi : X.N[i]? = some x := by rfl)
    (hx : Loc X.env.scope x := by first | exact Or.inl rfl | exact Or.inr rfl) (hf : X.fn x = true ∨ X.env.scope.names.lookup x = some .local := by first | exact .inl rfl | exact .inr rfl | assumption) : SS (oL X.K M pp) X (.AugAssign (.Name x pos') .Add e pos) ρ (k, ds) P := by
  refine ⟨fun pins s σ H I a b => ?_⟩
  refine (ps_aug (i := i) (op := .Add) hN hi hx (pes (M := oL X.K M pp)) iop_ext hf).run pins s σ H _ I ?_
  obtain ⟨v, h1, h2⟩ := a i _ hr
  have z : v = .ref pp := h2
  subst z
  refine ⟨_, h1, ρ, _, _, _, he, a, b, fun w H1 p => ?_⟩
  obtain ⟨y, ws, rfl, g1, g2⟩ := p.2.2
  obtain ⟨vs, g3, g4⟩ := oL_at p.2.1
  refine ⟨pp, y, vs, ws, rfl, rfl, g3, (oL X.K M pp).sub H1 _ _ g1, sz_of (by rw [dpl g2, dpl g4]; exact hz), ?_⟩
  obtain ⟨o, ex⟩ := oL_set (d' := ds ++ es) p.2.1 hn (g4.app g2)
  exact ⟨_, _, by rw [List.length_set]; exact I.len, p.1.trans ex, o, ((a.ex p.1).ex ex).set (by rw [I.len]; exact (List.getElem?_eq_some_iff.mp hi).1) (r := .r (.ref pp)) rfl, hq⟩
/-- todo.pop() -/
theorem se_pop {i : Nat} {x : Str} {px apos : Pos} {d : PyData} (hn : pp ∉ M.S) (hr : ρ[i]? = some (some (.r (.ref pp))) := by rfl) (hN : X.N[i]? = some x := by rfl) (hv : Vis X.env.scope x := by first | exact Or.inl rfl | exact Or.inr (Or.inl rfl) | exact Or.inr (Or.inr rfl)) (hd : (x == ("__debug__" : Str)) = false := by decide)
    (hcd : (x == ("__classdict__" : Str)) = false := by decide) (hbase : attributeBase (.Name x px) "pop" X.env (eval (.Name x px) X.env) = eval (.Name x px) X.env := by rfl) (hline : (apos.endLine == pos.line) = true := by rfl) :
    SE (oL X.K M pp) X (.Call (.Attribute (.Name x px) "pop" apos) [] [] pos) ρ (k, ds ++ [d]) (.d d) (k, ds) :=
  SE.of (pe_bm0 PySem.F.plainAttrs_list PySem.F.slot_list_pop PySem.F.type_list_pop mt_pop (pes (M := oL X.K M pp)) hbase hline) fun σ H s q => ⟨ρ, _, _, _, se_v i hr hN hv hd hcd, s, q, fun v H1 p => by
    have z : v = .ref pp := p.2.2
    subst z
    obtain ⟨vs, g3, g4⟩ := oL_at p.2.1
    have hl := dpl g4
    rw [List.length_append, List.length_singleton] at hl
    have hlast : (ds ++ [d])[vs.length - 1]? = some d := by
      rw [hl, Nat.add_sub_cancel, List.getElem?_append_right (Nat.le_refl _), Nat.sub_self]
      rfl
    obtain ⟨u, e1, e2⟩ := dpget g4 hlast
    have g5 : DpAll X.K ((oL X.K M pp).im H1) vs.dropLast ds := by
      have := (g4.cut (vs.length - 1)).1
      rw [← List.dropLast_eq_take, hl, Nat.add_sub_cancel, List.take_left] at this
      exact this
    obtain ⟨o, ex⟩ := oL_set (d' := ds) p.2.1 hn g5
    exact ⟨.inl ⟨rfl, _, sq_of g3⟩, pp, vs, u, rfl, rfl, g3, e1, p.1.trans ex, o, dpx ex d u e2⟩⟩
/-- args.append(e) -/
theorem se_append {i : Nat} {x : Str} {px apos : Pos} {d : PyData} (hn : pp ∉ M.S) (he : SE (oL X.K M pp) X e ρ (k, ds) (.d d) (k1, ds)) (hz : ds.length < 100000) (hr : ρ[i]? = some (some (.r (.ref pp))) := by rfl) (hN : X.N[i]? = some x := by rfl) (hv : Vis X.env.scope x := by first | exact Or.inl rfl | exact Or.inr (Or.inl rfl) | exact Or.inr (Or.inr rfl)) (hd : (x == ("__debug__" : Str)) = false := by decide)
    (hcd : (x == ("__classdict__" : Str)) = false := by decide) (hbase : attributeBase (.Name x px) "append" X.env (eval (.Name x px) X.env) = eval (.Name x px) X.env := by rfl)
    (hfew : ((backTo pos (starEach [e] X.env)).all (fun x => !x.1) && (backToKw pos (keywordEach [] X.env)).all (fun x => x.1.isSome) && decide (([e] : List Expr).length + ([] : List Keyword).length + (if ([] : List Keyword).isEmpty then 0 else 1) < 30)) = true := by rfl)
    (hline : (apos.endLine == pos.line) = true := by rfl) (hs : starEach [e] X.env = (false, eval e X.env) :: starEach [] X.env := by exact starC rfl) (hplain : (backTo pos (starEach [] X.env)).any (·.1) = false := by rfl) :
    SE (oL X.K M pp) X (.Call (.Attribute (.Name x px) "append" apos) [e] [] pos) ρ (k, ds) (.d .none) (k1, ds ++ [d]) :=
  SE.of (pe_bm PySem.F.plainAttrs_list PySem.F.slot_list_append PySem.F.type_list_append mt_append (pes (M := oL X.K M pp)) (pas (M := oL X.K M pp)) hbase hfew hline hs hplain) fun σ H s q => ⟨ρ, _, _, _, se_v i hr hN hv hd hcd, s, q, fun v H1 p => by
    have z : v = .ref pp := p.2.2
    subst z
    obtain ⟨vs0, g0, _⟩ := oL_at p.2.1
    refine ⟨.inl ⟨rfl, _, sq_of g0⟩, ρ, _, _, _, sa1 he hs, s.ex p.1, p.2.1, fun us H2 p2 => ?_⟩
    obtain ⟨u, rfl, hu⟩ := one_d p2.2.2
    obtain ⟨vs, g3, g4⟩ := oL_at p2.2.1
    obtain ⟨o, ex⟩ := oL_set (d' := ds ++ [d]) p2.2.1 hn (g4.app (.cons hu .nil))
    exact ⟨pp, vs, u, rfl, rfl, g3, sz_lt (by rw [dpl g4]; exact hz), (p.1.trans p2.1).trans ex, o, .non⟩⟩
/-- args[::-1] of one's own -/
theorem se_ownRev {j' : Nat} {p1 p2 p3 : Pos} (ha : SE (oL X.K M pp) X a ρ (k, ds) (.r (.ref pp)) (k1, ds)) : SE (oL X.K M pp) X (.Subscript a (.Slice none none (some (.UnaryOp .USub (.Constant (.int 1) j' p1) p2)) p3) pos) ρ (k, ds) (.l ds.reverse) (k1, ds) :=
  SE.of (pe_revL (pes (M := oL X.K M pp))) fun σ H s q => ⟨ρ, _, _, _, ha, s, q, fun v H1 p => by
    have z : v = .ref pp := p.2.2
    subst z
    obtain ⟨vs, g3, g4⟩ := oL_at p.2.1
    exact ⟨_, _, rfl, sq_of g3, fun p0 hp => (own_lst p.2.1 g4.rev p0 hp).back p.1⟩⟩
end
end
end D

namespace D
open PySem L2 Evl
/-- slots forgotten -/
def wip (ρ : Rho) : List Nat → Rho
  | [] => ρ
  | v :: vs => (wip ρ vs).set v none
theorem sl_wip {K : PySem.W.Frag} {H : Hp} {σ : St} {ρ : Rho} (h : Sl K H σ ρ) : ∀ vs : List Nat, Sl K H (wipe σ vs) (wip ρ vs)
  | [] => h
  | v :: vs => fun i r e => by
    have ih := sl_wip h vs
    have e' : ((wip ρ vs).set v none)[i]? = some (some r) := e
    by_cases hi : v = i
    · subst hi
      by_cases hv : v < (wip ρ vs).length
      · rw [List.getElem?_set_self hv] at e'
        cases e'
      · rw [List.getElem?_eq_none (by simpa using hv)] at e'
        cases e'
    · rw [List.getElem?_set_ne hi] at e'
      obtain ⟨u, h1, h2⟩ := ih i r e'
      refine ⟨u, ?_, h2⟩
      show ((wipe σ vs).set v none)[i]? = _
      rw [List.getElem?_set_ne hi]
      exact h1
section
variable {κ : Type} {M : Mem κ} {X : Cx} {ρ : Rho} {k k1 k2 k3 : κ} {pos : Pos}
/-- an expression that changes nothing -/
def SEp (X : Cx) (e : Expr) (ρ : Rho) (r : R) : Prop := ∀ (κ : Type) (M : Mem κ) (k : κ), SE M X e ρ k r k
def STp (X : Cx) (e : Expr) (ρ : Rho) (b : Bool) : Prop := ∀ (κ : Type) (M : Mem κ) (k : κ), ST M X e ρ k b k
/-- within the block of a comprehension -/
def Blk (X : Cx) (scope : Scope) (C : Cx → Prop) : Prop := ∀ (s : Shared) (H : Hp) (C' : Addr) (cl : List (Str × Addr)) (fp : List Addr), C (X.blk s H scope (compEnvC scope cl C' X.env) fp)
def tEp (X : Cx) (scope : Scope) (e : Expr) : TE := fun σ H Q => ∃ (κ : Type) (M : Mem κ) (ρ : Rho) (k : κ) (r : R), Blk X scope (fun X' => SEp X' e ρ r) ∧ Sl X.K (M.im H) σ ρ ∧ M.ok k H ∧ ∀ v H', Po M X H k r v H' → Q v H'
def tTp (X : Cx) (scope : Scope) (e : Expr) : TT := fun σ H Q => ∃ (κ : Type) (M : Mem κ) (ρ : Rho) (k : κ) (b : Bool), Blk X scope (fun X' => STp X' e ρ b) ∧ Sl X.K (M.im H) σ ρ ∧ M.ok k H ∧ ∀ c H', PoT M H k b c H' → Q c H'
theorem pep {scope : Scope} {e : Expr} (s : Shared) (H : Hp) (C' : Addr) (cl : List (Str × Addr)) (fp : List Addr) : PE (X.blk s H scope (compEnvC scope cl C' X.env) fp) e (tEp X scope e) := ⟨fun pins s' σ H' Q I h => by
  obtain ⟨κ, M, ρ, k, r, hb, a, b, c⟩ := h
  exact thn ((hb s H C' cl fp κ M k).h pins s' σ H' I a b) fun u s'' ⟨v, H'', I', rv, p⟩ => ⟨v, H'', I', rv, c v H'' p⟩⟩
theorem ptp {scope : Scope} {e : Expr} (s : Shared) (H : Hp) (C' : Addr) (cl : List (Str × Addr)) (fp : List Addr) : PT (X.blk s H scope (compEnvC scope cl C' X.env) fp) e (tTp X scope e) := ⟨fun pins s' σ H' Q I h => by
  obtain ⟨κ, M, ρ, k, r, hb, a, b, c⟩ := h
  exact thn ((hb s H C' cl fp κ M k).h pins s' σ H' I a b) fun u s'' ⟨H'', I', p⟩ => ⟨H'', I', c u H'' p⟩⟩
/-- a comprehension's targets, within its block -/
structure CT (X : Cx) (scope : Scope) (tg : Expr) (vs : List Nat) (f : PyData → Rho → Option Rho) : Prop where
  h : ∃ g : TG, (∀ (s : Shared) (H : Hp) (C' : Addr) (cl : List (Str × Addr)) (fp : List Addr), PG (X.blk s H scope (compEnvC scope cl C' X.env) fp) tg g) ∧
    ∀ (κ : Type) (M : Mem κ) (σ : St) (H : Hp) (v : V) (d : PyData) (ρ ρ' : Rho) (Q : St → Hp → Prop), σ.length = X.N.length → Sl X.K (M.im H) (wipe σ vs) ρ → Dp X.K (M.im H) v d → f d ρ = some ρ' → (∀ σ', wipe σ' vs = wipe σ vs → Sl X.K (M.im H) σ' ρ' → Q σ' H) → g v (wipe σ vs) H Q
theorem ct_one {scope : Scope} {i : Nat} {x : Str} {p : Pos} (hN : X.N.Nodup) (hi : X.N[i]? = some x := by rfl)
    (hx : ∀ (s : Shared) (H : Hp) (C' : Addr) (cl : List (Str × Addr)) (fp : List Addr), Loc (X.blk s H scope (compEnvC scope cl C' X.env) fp).env.scope x := by first | exact fun _ _ _ _ _ => Or.inl rfl | exact fun _ _ _ _ _ => Or.inr rfl)
    (hf : ∀ (s : Shared) (H : Hp) (C' : Addr) (cl : List (Str × Addr)) (fp : List Addr), (X.blk s H scope (compEnvC scope cl C' X.env) fp).fn x = true ∨ (X.blk s H scope (compEnvC scope cl C' X.env) fp).env.scope.names.lookup x = some .local := by first | exact fun _ _ _ _ _ => .inl rfl | exact fun _ _ _ _ _ => .inr rfl) : CT X scope (.Name x p) [i] (f1 i) := by
  refine ⟨gName i, fun s H C' cl fp => pg_name hN hi (hx s H C' cl fp) (hf s H C' cl fp), fun κ M σ H v d ρ ρ' Q hl hs hd e q => ?_⟩
  cases e
  refine q _ ?_ (hs.set (by rw [wipe_length, hl]; exact (List.getElem?_eq_some_iff.mp hi).1) hd)
  show ((σ.set i none).set i (some v)).set i none = σ.set i none
  rw [List.set_set, List.set_set]
theorem ct_two {scope : Scope} {i j : Nat} {x y : Str} {px py p : Pos} {kt : Nat} (hc : X.calm = true) (hN : X.N.Nodup) (hij : i ≠ j := by decide) (hi : X.N[i]? = some x := by rfl) (hj : X.N[j]? = some y := by rfl)
    (hx : ∀ (s : Shared) (H : Hp) (C' : Addr) (cl : List (Str × Addr)) (fp : List Addr), Loc (X.blk s H scope (compEnvC scope cl C' X.env) fp).env.scope x := by first | exact fun _ _ _ _ _ => Or.inl rfl | exact fun _ _ _ _ _ => Or.inr rfl)
    (hy : ∀ (s : Shared) (H : Hp) (C' : Addr) (cl : List (Str × Addr)) (fp : List Addr), Loc (X.blk s H scope (compEnvC scope cl C' X.env) fp).env.scope y := by first | exact fun _ _ _ _ _ => Or.inl rfl | exact fun _ _ _ _ _ => Or.inr rfl)
    (hf : ∀ (s : Shared) (H : Hp) (C' : Addr) (cl : List (Str × Addr)) (fp : List Addr), (X.blk s H scope (compEnvC scope cl C' X.env) fp).fn x = true ∨ (X.blk s H scope (compEnvC scope cl C' X.env) fp).env.scope.names.lookup x = some .local := by first | exact fun _ _ _ _ _ => .inl rfl | exact fun _ _ _ _ _ => .inr rfl)
    (hg : ∀ (s : Shared) (H : Hp) (C' : Addr) (cl : List (Str × Addr)) (fp : List Addr), (X.blk s H scope (compEnvC scope cl C' X.env) fp).fn y = true ∨ (X.blk s H scope (compEnvC scope cl C' X.env) fp).env.scope.names.lookup y = some .local := by first | exact fun _ _ _ _ _ => .inl rfl | exact fun _ _ _ _ _ => .inr rfl)
    (hs2 : ∀ env : Env, (assignEach ([.Name y py] : List Expr) env).map (·.2) = assign (.Name y py) env :: (assignEach [] env).map (·.2) := by intro _; rfl) (hs1 : ∀ env : Env, (assignEach ([.Name x px, .Name y py] : List Expr) env).map (·.2) = assign (.Name x px) env :: (assignEach [.Name y py] env).map (·.2) := by intro _; rfl)
    (hn : ∀ env : Env, (assignEach ([.Name x px, .Name y py] : List Expr) env).length = 2 := by intro _; rfl) (hst : ∀ env : Env, (assignEach ([.Name x px, .Name y py] : List Expr) env).findIdx? (·.1) = none := by intro _; rfl) :
    CT X scope (.Tuple [.Name x px, .Name y py] kt p) [i, j] (f2 i j) := by
  refine ⟨gTup X.K 2 (gCons (gName i) (gCons (gName j) gNil)), fun s H C' cl fp => pg_tup (X := X.blk s H scope (compEnvC scope cl C' X.env) fp) hc (pgs_cons (pg_name (i := i) hN hi (hx s H C' cl fp) (hf s H C' cl fp)) (pgs_cons (pg_name (i := j) hN hj (hy s H C' cl fp) (hg s H C' cl fp)) pgs_nil (hs2 _)) (hs1 _)) (hn _) (hst _), fun κ M σ H v d ρ ρ' Q hl hs hd e q => ?_⟩
  match d, hd, e with
  | .tuple [da, db], hd, e =>
    cases e
    cases hd with
    | tup h1 h2 =>
      cases h2 with
      | cons a1 h3 =>
        cases h3 with
        | cons a2 h4 =>
          cases h4
          refine ⟨_, _, rfl, ex_t (M.sub H) h1, rfl, _, _, rfl, _, _, rfl, rfl, ?_⟩
          refine q _ ?_ ((hs.set (by rw [wipe_length, hl]; exact (List.getElem?_eq_some_iff.mp hi).1) (r := .d da) a1).set (by rw [List.length_set, wipe_length, hl]; exact (List.getElem?_eq_some_iff.mp hj).1) (r := .d db) a2)
          show ((((((σ.set j none).set i none).set i _).set j _).set j none).set i none) = (σ.set j none).set i none
          apply List.ext_getElem?
          intro n
          simp only [List.getElem?_set, List.length_set]
          by_cases e1 : i = n
          · subst e1
            have : ¬ j = i := fun z => hij z.symm
            simp [this]
          · by_cases e2 : j = n
            · subst e2
              simp [e1]
            · simp [e1, e2]
/-- pairwise -/
inductive All2 (Pq : PyData → PyData → Prop) : List PyData → List PyData → Prop
  | nil : All2 Pq [] []
  | cons {d e : PyData} {ds es : List PyData} : Pq d e → All2 Pq ds es → All2 Pq (d :: ds) (e :: es)
theorem All2.get {Pq : PyData → PyData → Prop} : ∀ {ds es : List PyData} {i : Nat} {d : PyData}, All2 Pq ds es → ds[i]? = some d → ∃ e, es[i]? = some e ∧ Pq d e
  | _, _, _, _, .nil, h => by simp at h
  | _, _, 0, d, .cons h _, e => by simp at e; subst e; exact ⟨_, rfl, h⟩
  | _, _, i + 1, d, .cons _ t, e => by
    obtain ⟨v, h1, h2⟩ := All2.get (i := i) t (by simpa using e)
    exact ⟨v, by simpa using h1, h2⟩
theorem All2.len {Pq : PyData → PyData → Prop} : ∀ {ds es : List PyData}, All2 Pq ds es → ds.length = es.length
  | _, _, .nil => rfl
  | _, _, .cons _ t => by rw [List.length_cons, List.length_cons, t.len]
theorem All2.map {α : Type} {Pq : PyData → PyData → Prop} {f g : α → PyData} : ∀ {l : List α}, (∀ x ∈ l, Pq (f x) (g x)) → All2 Pq (l.map f) (l.map g)
  | [], _ => .nil
  | x :: l, h => .cons (h x List.mem_cons_self) (All2.map fun y hy => h y (List.mem_cons_of_mem _ hy))
theorem tyes {σ : St} {H : Hp} {Q : Bool → Hp → Prop} (h : Q true H) : tYes σ H Q := h
/-- the state of the turns: what is made so far -/
theorem lc_step {D : Addr} {H0 H : Hp} (hk : M.ok k H0) (hD : H0 D = none) : D ∉ M.S := own_notin (β := Unit) hk hD

/-- [e for target in list]: what it reads -/
theorem lc_reads {elt iter : Expr} {scope : Scope} {ow : List (Str × Nat)} {f : PyData → Rho → Option Rho} {ds es : List PyData} {gt : TG} {σ : St} {H0 : Hp} (hl : σ.length = X.N.length)
    (hG : ∀ (κ : Type) (M : Mem κ) (σ : St) (H : Hp) (v : V) (d : PyData) (ρ ρ' : Rho) (Q : St → Hp → Prop), σ.length = X.N.length → Sl X.K (M.im H) (wipe σ (ow.map (·.2))) ρ → Dp X.K (M.im H) v d → f d ρ = some ρ' → (∀ σ', wipe σ' (ow.map (·.2)) = wipe σ (ow.map (·.2)) → Sl X.K (M.im H) σ' ρ' → Q σ' H) → gt v (wipe σ (ow.map (·.2))) H Q)
    (hi : SE M X iter ρ k (.d (.list ds)) k1) (hz : ds.length ≤ 50000) (he : All2 (fun d e => ∃ ρ', f d (wip ρ (ow.map (·.2))) = some ρ' ∧ Blk X scope (fun X' => SEp X' elt ρ' (.d e))) ds es) (a0 : Sl X.K (M.im H0) σ ρ) (b0 : M.ok k H0) (Q : VK) (hQ : ∀ v H', Po M X H0 k1 (.l es) v H' → Q v H') :
    tLc (iList X.K (tS M X iter)) gt tYes (tEp X scope elt) (ow.map (·.2)) σ H0 Q := by
  refine ⟨ρ, k, _, k1, hi, a0, b0, fun v H1 p => ?_⟩
  have hv : Dp X.K (M.im H1) v (.list ds) := p.2.2
  cases hv with
  | @lst la xs _ h1 h2 =>
    refine ⟨la, rfl, ⟨xs, ex_l (M.sub H1) h1⟩, fun D hD => ?_⟩
    have hn := own_notin (β := Unit) p.2.1 hD
    have hlen := dpl h2
    let M' := oL X.K M D
    have e1 : Ex (M.im H1) (M'.im (upd H1 D (.lst []))) := own_in p.2.1 hD
    refine lc_list (xs := xs) (fun i H => M'.ok (k1, es.take i) H ∧ Ex (M.im H1) (M'.im H)) ⟨own_start (c := lstC X.K) (mono := lstC_mono) (b := []) p.2.1 hD ⟨[], rfl, .nil⟩, e1⟩ (fun i H _ q => ex_l (M'.sub H) (ex_l q.2 h1)) ?_ ?_
    · rintro i x H hx ⟨o, e⟩
      obtain ⟨d, hd1, hd2⟩ := dpget' h2 hx
      obtain ⟨ed, he1, ρ', hf, hb⟩ := he.get hd1
      refine hG _ M' σ H x d _ ρ' _ hl ((sl_wip a0 _).ex (p.1.trans e)) (dpx e d x hd2) hf fun σ' hw hs' => ⟨hw, ?_⟩
      refine tyes ?_
      rw [if_pos rfl]
      refine ⟨_, M', ρ', _, _, hb, hs', o, fun y H4 q => ?_⟩
      obtain ⟨acc, g1, g2⟩ := oL_at q.2.1
      have hi' : i < es.length := (List.getElem?_eq_some_iff.mp he1).1
      have hel := he.len
      have hacc : acc.length = i := by rw [dpl g2, List.length_take, Nat.min_eq_left (Nat.le_of_lt hi')]
      refine ⟨acc, g1, sz_lt (by omega), ?_⟩
      have et : es.take (i + 1) = es.take i ++ [ed] := by
        rw [List.take_add_one, he1]
        rfl
      obtain ⟨o2, ex2⟩ := oL_set (d' := es.take (i + 1)) q.2.1 hn (by rw [et]; exact g2.app (.cons q.2.2 .nil))
      exact ⟨o2, e.trans (q.1.trans ex2)⟩
    · rintro H ⟨o, e⟩
      rw [hlen, he.len, List.take_length] at o
      obtain ⟨acc, g1, g2⟩ := oL_at o
      refine hQ _ _ ⟨p.1.trans (e.trans own_back), own_ok o, D, acc, rfl, ?_, dpxs own_back _ _ g2⟩
      show les M.S H D = _
      rw [les_out hn]
      exact g1
/-- [e for target in list] -/
theorem se_lc {elt tg iter : Expr} {scope : Scope} {ow : List (Str × Nat)} {f : PyData → Rho → Option Rho} {ds es : List PyData} (hc : X.calm = true) (hN : X.N.Nodup) (ok : BlkOk X.N X.env.scope scope ow) (ct : CT X scope tg (ow.map (·.2)) f)
    (hi : SE M X iter ρ k (.d (.list ds)) k1) (hz : ds.length ≤ 50000) (he : All2 (fun d e => ∃ ρ', f d (wip ρ (ow.map (·.2))) = some ρ' ∧ Blk X scope (fun X' => SEp X' elt ρ' (.d e))) ds es) (hs : ∀ x, foldedSetIterable iter X.env x = pure x := by intro _; rfl) :
    SE M X (.ListComp elt [⟨tg, iter, [], 0⟩] scope pos) ρ k (.l es) k1 := by
  obtain ⟨gt, hg, hG⟩ := ct.h
  refine ⟨fun pins s σ H0 I a0 b0 => ?_⟩
  refine (pe_lc (g := gt) (tt := tYes) hc hN (pi_list (pes (M := M))) ok hg (fun _ _ _ _ _ => pts_nil) (fun s H C' cl fp => pep s H C' cl fp) hs).run pins s σ H0 _ I ?_
  exact lc_reads I.len (fun κ M σ H v d ρ ρ' Q => hG κ M σ H v d ρ ρ' Q) hi hz he a0 b0 _ fun _ _ q => q
/-- x = [e for target in list] -/
theorem ss_lc (i : Nat) {y : Str} {py spos : Pos} {P : Pst κ} {elt tg iter : Expr} {scope : Scope} {ow : List (Str × Nat)} {f : PyData → Rho → Option Rho} {ds es : List PyData} (hc : X.calm = true) (hN : X.N.Nodup) (ok : BlkOk X.N X.env.scope scope ow) (ct : CT X scope tg (ow.map (·.2)) f)
    (hi : SE M X iter ρ k (.d (.list ds)) k1) (hz : ds.length ≤ 50000) (he : All2 (fun d e => ∃ ρ', f d (wip ρ (ow.map (·.2))) = some ρ' ∧ Blk X scope (fun X' => SEp X' elt ρ' (.d e))) ds es) (hq : P.nx (ρ.set i (some (.l es))) k1) (hsw : swapsWith (.ListComp elt [⟨tg, iter, [], 0⟩] scope pos) (some (.Name y py)) spos.line X.env = pure true)
    (hy : X.N[i]? = some y := by rfl) (hyl : X.env.scope.names.lookup y = some .local := by rfl) (hs : ∀ x, foldedSetIterable iter X.env x = pure x := by intro _; rfl) :
    SS M X (.Assign [.Name y py] (.ListComp elt [⟨tg, iter, [], 0⟩] scope pos) spos) ρ k P := by
  obtain ⟨gt, hg, hG⟩ := ct.h
  refine ⟨fun pins s σ H0 I a0 b0 => ?_⟩
  refine (ps_setLc (i := i) (g := gt) (tt := tYes) hc hN hy hyl hsw (pi_list (pes (M := M))) ok hg (fun _ _ _ _ _ => pts_nil) (fun s H C' cl fp => pep s H C' cl fp) hs).run pins s σ H0 _ I ?_
  refine lc_reads I.len (fun κ M σ H v d ρ ρ' Q => hG κ M σ H v d ρ ρ' Q) hi hz he a0 b0 _ fun v H' q => ?_
  exact ⟨_, k1, by rw [List.length_set]; exact I.len, q.1, q.2.1, (a0.ex q.1).set (by rw [I.len]; exact (List.getElem?_eq_some_iff.mp hy).1) q.2.2, hq⟩
/-- .. in a tuple -/
theorem se_lcT {elt tg iter : Expr} {scope : Scope} {ow : List (Str × Nat)} {f : PyData → Rho → Option Rho} {ds es : List PyData} (hc : X.calm = true) (hN : X.N.Nodup) (ok : BlkOk X.N X.env.scope scope ow) (ct : CT X scope tg (ow.map (·.2)) f)
    (hi : SE M X iter ρ k (.d (.tuple ds)) k1) (hz : ds.length ≤ 50000) (he : All2 (fun d e => ∃ ρ', f d (wip ρ (ow.map (·.2))) = some ρ' ∧ Blk X scope (fun X' => SEp X' elt ρ' (.d e))) ds es) (hs : ∀ x, foldedSetIterable iter X.env x = pure x := by intro _; rfl) :
    SE M X (.ListComp elt [⟨tg, iter, [], 0⟩] scope pos) ρ k (.l es) k1 := by
  obtain ⟨gt, hg, hG⟩ := ct.h
  refine ⟨fun pins s σ H0 I a0 b0 => ?_⟩
  refine (pe_lc (g := gt) (tt := tYes) hc hN (pi_tup (pes (M := M))) ok hg (fun _ _ _ _ _ => pts_nil) (fun s H C' cl fp => pep s H C' cl fp) hs).run pins s σ H0 _ I ?_
  refine ⟨ρ, k, _, k1, hi, a0, b0, fun v H1 p => ?_⟩
  have hv : Dp X.K (M.im H1) v (.tuple ds) := p.2.2
  cases hv with
  | @tup la xs _ h1 h2 =>
    refine ⟨la, rfl, ⟨xs, ex_t (M.sub H1) h1⟩, fun D hD => ?_⟩
    have hn := own_notin (β := Unit) p.2.1 hD
    have hlen := dpl h2
    let M' := oL X.K M D
    have e1 : Ex (M.im H1) (M'.im (upd H1 D (.lst []))) := own_in p.2.1 hD
    refine lc_tup (xs := xs) (fun i H => M'.ok (k1, es.take i) H ∧ Ex (M.im H1) (M'.im H)) ⟨own_start (c := lstC X.K) (mono := lstC_mono) (b := []) p.2.1 hD ⟨[], rfl, .nil⟩, e1⟩ (fun i H _ q => ex_t (M'.sub H) (ex_t q.2 h1)) ?_ ?_
    · rintro i x H hx ⟨o, e⟩
      obtain ⟨d, hd1, hd2⟩ := dpget' h2 hx
      obtain ⟨ed, he1, ρ', hf, hb⟩ := he.get hd1
      refine hG _ M' σ H x d _ ρ' _ I.len ((sl_wip a0 _).ex (p.1.trans e)) (dpx e d x hd2) hf fun σ' hw hs' => ⟨hw, ?_⟩
      refine tyes ?_
      rw [if_pos rfl]
      refine ⟨_, M', ρ', _, _, hb, hs', o, fun y H4 q => ?_⟩
      obtain ⟨acc, g1, g2⟩ := oL_at q.2.1
      have hi' : i < es.length := (List.getElem?_eq_some_iff.mp he1).1
      have hel := he.len
      have hacc : acc.length = i := by rw [dpl g2, List.length_take, Nat.min_eq_left (Nat.le_of_lt hi')]
      refine ⟨acc, g1, sz_lt (by omega), ?_⟩
      have et : es.take (i + 1) = es.take i ++ [ed] := by
        rw [List.take_add_one, he1]
        rfl
      obtain ⟨o2, ex2⟩ := oL_set (d' := es.take (i + 1)) q.2.1 hn (by rw [et]; exact g2.app (.cons q.2.2 .nil))
      exact ⟨o2, e.trans (q.1.trans ex2)⟩
    · rintro H ⟨o, e⟩
      rw [hlen, he.len, List.take_length] at o
      obtain ⟨acc, g1, g2⟩ := oL_at o
      refine ⟨p.1.trans (e.trans own_back), own_ok o, D, acc, rfl, ?_, dpxs own_back _ _ g2⟩
      show les M.S H D = _
      rw [les_out hn]
      exact g1
/-- [e for target in range(n) if c] -/
theorem se_lcR {elt tg a c : Expr} {scope : Scope} {ow : List (Str × Nat)} {f : PyData → Rho → Option Rho} {n : Int} {p1 p2 : Pos} (g : Nat → PyData) (t : Nat → Bool) (hc : X.calm = true) (hN : X.N.Nodup) (hm : X.mg "range" = none) (ok : BlkOk X.N X.env.scope scope ow) (ct : CT X scope tg (ow.map (·.2)) f)
    (hi : SA M X [a] ρ k [.d (.int n)] k1) (hn : 0 ≤ n ∧ n ≤ 50000) (he : ∀ i : Nat, (i : Int) < n → ∃ ρ', f (.int i) (wip ρ (ow.map (·.2))) = some ρ' ∧ Blk X scope (fun X' => STp X' c ρ' (t i)) ∧ (t i = true → Blk X scope (fun X' => SEp X' elt ρ' (.d (g i)))))
    (hg' : Gl X "range" := by rfl) (hs' : starEach [a] X.env = [(false, eval a X.env)] := by exact starC rfl) (hs : ∀ x, foldedSetIterable (.Call (.Name "range" p1) [a] [] p2) X.env x = pure x := by intro _; rfl) :
    SE M X (.ListComp elt [⟨tg, .Call (.Name "range" p1) [a] [] p2, [c], 0⟩] scope pos) ρ k (.l (((List.range n.toNat).filter t).map g)) k1 := by
  obtain ⟨gt, hg, hG⟩ := ct.h
  refine ⟨fun pins s σ H0 I a0 b0 => ?_⟩
  refine (pe_lc (g := gt) hc hN (pi_range1 hg' hm (pas (M := M)) hs') ok hg (fun s H C' cl fp => pts_one (ptp s H C' cl fp)) (fun s H C' cl fp => pep s H C' cl fp) hs).run pins s σ H0 _ I ?_
  refine ⟨ρ, k, _, k1, hi, a0, b0, fun vs H1 p => ?_⟩
  have hv : RPs X.K (M.im H1) vs [.d (.int n)] := p.2.2
  obtain ⟨v, rfl, hv1⟩ := one_d hv
  have hv1' : Dp X.K (M.im H1) v (.int n) := hv1
  cases hv1'
  refine ⟨n, rfl, by omega, by omega, fun D hD => ?_⟩
  have hnS := own_notin (β := Unit) p.2.1 hD
  let M' := oL X.K M D
  have e1 : Ex (M.im H1) (M'.im (upd H1 D (.lst []))) := own_in p.2.1 hD
  refine lc_range (lo := 0) (n := n.toNat) (fun i H => M'.ok (k1, ((List.range i).filter t).map g) H ∧ Ex (M.im H1) (M'.im H)) ⟨own_start (c := lstC X.K) (mono := lstC_mono) (b := []) p.2.1 hD ⟨[], rfl, .nil⟩, e1⟩ ?_ ?_
  · rintro i H hi ⟨o, e⟩
    have e0 : (0 : Int) + (i : Int) = (i : Int) := Int.zero_add _
    obtain ⟨ρ', hf, ht, hb⟩ := he i (by omega)
    rw [e0]
    refine hG _ M' σ H (.int i) (.int i) _ ρ' _ I.len ((sl_wip a0 _).ex (p.1.trans e)) (.int _) hf fun σ' hw hs' => ⟨hw, ?_⟩
    refine ⟨_, M', ρ', _, _, ht, hs', o, fun b H3 q3 => ?_⟩
    obtain ⟨rfl, ex3, o3⟩ := q3
    have er : ((List.range (i + 1)).filter t).map g = ((List.range i).filter t).map g ++ (if t i then [g i] else []) := by
      rw [List.range_succ, List.filter_append, List.map_append]
      cases ht' : t i <;> simp [ht']
    cases ht' : t i with
    | true =>
      rw [if_pos rfl]
      refine ⟨_, M', ρ', _, _, hb ht', hs'.ex ex3, o3, fun y H4 q => ?_⟩
      obtain ⟨acc, g1, g2⟩ := oL_at q.2.1
      have hacc : acc.length ≤ i := by
        rw [dpl g2, List.length_map]
        have := List.length_filter_le t (List.range i)
        rw [List.length_range] at this
        exact this
      refine ⟨acc, g1, sz_lt (by omega), ?_⟩
      obtain ⟨o2, ex2⟩ := oL_set (d' := ((List.range (i + 1)).filter t).map g) q.2.1 hnS (by rw [er, ht', if_pos rfl]; exact g2.app (.cons q.2.2 .nil))
      exact ⟨o2, e.trans (ex3.trans (q.1.trans ex2))⟩
    | false =>
      rw [if_neg Bool.false_ne_true]
      rw [ht', if_neg Bool.false_ne_true, List.append_nil] at er
      rw [er]
      exact ⟨o3, e.trans ex3⟩
  · rintro H ⟨o, e⟩
    obtain ⟨acc, g1, g2⟩ := oL_at o
    refine ⟨p.1.trans (e.trans own_back), own_ok o, D, acc, rfl, ?_, dpxs own_back _ _ g2⟩
    show les M.S H D = _
    rw [les_out hnS]
    exact g1
end
end D

namespace D
open PySem L2 Evl

/-! ### terms -/
inductive Lf where
  | sort (n : Nat) | ca | cb | nat | mk | el
  deriving DecidableEq
inductive T where
  | var (k : Int)
  | lf (l : Lf)
  | pi (x : Str) (a b : T)
  | lam (x : Str) (a b : T)
  | app (f a : T)
  | lt (x : Str) (a v b : T)
  deriving DecidableEq
def encL : Lf → PyData
  | .sort n => .tuple [.str "sort", .int (n : Int)]
  | .ca => .tuple [.str "const", .str "a"]
  | .cb => .tuple [.str "const", .str "b"]
  | .nat => .tuple [.str "kind", .str "nat"]
  | .mk => .tuple [.str "make", .str "nat", .int 1]
  | .el => .tuple [.str "elim", .str "nat", .int 2]
def enc : T → PyData
  | .var k => .tuple [.str "var", .int k]
  | .lf l => encL l
  | .pi x a b => .tuple [.str "pi", .str x, enc a, enc b]
  | .lam x a b => .tuple [.str "lam", .str x, enc a, enc b]
  | .app f a => .tuple [.str "app", enc f, enc a]
  | .lt x a v b => .tuple [.str "let", .str x, enc a, enc v, enc b]
namespace T
def dep : T → Nat
  | .var _ => 1
  | .lf _ => 1
  | .pi _ a b => max a.dep b.dep + 1
  | .lam _ a b => max a.dep b.dep + 1
  | .app a b => max a.dep b.dep + 1
  | .lt _ a v b => max a.dep (max v.dep b.dep) + 1
def lift (m : Int) : T → Int → T
  | .var k, u => if k ≥ u then .var (k + m) else .var k
  | .lf l, _ => .lf l
  | .pi x a b, u => .pi x (lift m a u) (lift m b (u + 1))
  | .lam x a b, u => .lam x (lift m a u) (lift m b (u + 1))
  | .app f a, u => .app (lift m f u) (lift m a u)
  | .lt x a v b, u => .lt x (lift m a u) (lift m v u) (lift m b (u + 1))
theorem lift0 : ∀ (t : T) (u : Int), t.lift 0 u = t
  | .var k, u => by unfold lift; split <;> simp
  | .lf l, _ => rfl
  | .pi x a b, u => by simp only [lift, lift0]
  | .lam x a b, u => by simp only [lift, lift0]
  | .app f a, u => by simp only [lift, lift0]
  | .lt x a v b, u => by simp only [lift, lift0]
end T

/-! ### items -/
section
variable {a b c d e : PyData} {r : List PyData}
theorem at0 : atI (a :: r) 0 = some a := by
  have : ixN (a :: r).length 0 = some 0 := by
    unfold ixN
    rw [if_pos (by decide), if_pos (by simp only [List.length_cons]; omega)]
    rfl
  unfold atI
  rw [this]
  rfl
theorem at1 : atI (a :: b :: r) 1 = some b := by
  have : ixN (a :: b :: r).length 1 = some 1 := by
    unfold ixN
    rw [if_pos (by decide), if_pos (by simp only [List.length_cons]; omega)]
    rfl
  unfold atI
  rw [this]
  rfl
theorem at2 : atI (a :: b :: c :: r) 2 = some c := by
  have : ixN (a :: b :: c :: r).length 2 = some 2 := by
    unfold ixN
    rw [if_pos (by decide), if_pos (by simp only [List.length_cons]; omega)]
    rfl
  unfold atI
  rw [this]
  rfl
theorem at3 : atI (a :: b :: c :: d :: r) 3 = some d := by
  have : ixN (a :: b :: c :: d :: r).length 3 = some 3 := by
    unfold ixN
    rw [if_pos (by decide), if_pos (by simp only [List.length_cons]; omega)]
    rfl
  unfold atI
  rw [this]
  rfl
theorem at4 : atI (a :: b :: c :: d :: e :: r) 4 = some e := by
  have : ixN (a :: b :: c :: d :: e :: r).length 4 = some 4 := by
    unfold ixN
    rw [if_pos (by decide), if_pos (by simp only [List.length_cons]; omega)]
    rfl
  unfold atI
  rw [this]
  rfl
end

/-! ### the text by places -/
def top (i : Nat) : Stmt := PySem.Challenge.pw_kernelsay_k35_moved_and_back.main.body.getD i (.Pass ⟨0, 0, 0, 0⟩)
end D
namespace D
open PySem L2 Evl
section
variable {κ : Type} {M : Mem κ} {X : Cx} {ρ : Rho} {k k1 k2 k3 : κ} {p1 p2 p3 : Pos} {j : Nat} {a b c d e : PyData} {r : List PyData}
theorem se_x0 (i : Nat) {x : Str} (hr : ρ[i]? = some (some (.d (.tuple (a :: r)))) := by rfl) (hN : X.N[i]? = some x := by rfl) (hv : Vis X.env.scope x := by first | exact Or.inl rfl | exact Or.inr (Or.inl rfl) | exact Or.inr (Or.inr rfl)) (hd : (x == ("__debug__" : Str)) = false := by decide)
    (hcd : (x == ("__classdict__" : Str)) = false := by decide) : SE M X (.Subscript (.Name x p1) (.Constant (.int 0) j p2) p3) ρ k (.d a) k := se_ixT (se_v i hr hN hv hd hcd) se_int at0
theorem se_x1 (i : Nat) {x : Str} (hr : ρ[i]? = some (some (.d (.tuple (a :: b :: r)))) := by rfl) (hN : X.N[i]? = some x := by rfl) (hv : Vis X.env.scope x := by first | exact Or.inl rfl | exact Or.inr (Or.inl rfl) | exact Or.inr (Or.inr rfl)) (hd : (x == ("__debug__" : Str)) = false := by decide)
    (hcd : (x == ("__classdict__" : Str)) = false := by decide) : SE M X (.Subscript (.Name x p1) (.Constant (.int 1) j p2) p3) ρ k (.d b) k := se_ixT (se_v i hr hN hv hd hcd) se_int at1
theorem se_x2 (i : Nat) {x : Str} (hr : ρ[i]? = some (some (.d (.tuple (a :: b :: c :: r)))) := by rfl) (hN : X.N[i]? = some x := by rfl) (hv : Vis X.env.scope x := by first | exact Or.inl rfl | exact Or.inr (Or.inl rfl) | exact Or.inr (Or.inr rfl)) (hd : (x == ("__debug__" : Str)) = false := by decide)
    (hcd : (x == ("__classdict__" : Str)) = false := by decide) : SE M X (.Subscript (.Name x p1) (.Constant (.int 2) j p2) p3) ρ k (.d c) k := se_ixT (se_v i hr hN hv hd hcd) se_int at2
theorem se_x3 (i : Nat) {x : Str} (hr : ρ[i]? = some (some (.d (.tuple (a :: b :: c :: d :: r)))) := by rfl) (hN : X.N[i]? = some x := by rfl) (hv : Vis X.env.scope x := by first | exact Or.inl rfl | exact Or.inr (Or.inl rfl) | exact Or.inr (Or.inr rfl)) (hd : (x == ("__debug__" : Str)) = false := by decide)
    (hcd : (x == ("__classdict__" : Str)) = false := by decide) : SE M X (.Subscript (.Name x p1) (.Constant (.int 3) j p2) p3) ρ k (.d d) k := se_ixT (se_v i hr hN hv hd hcd) se_int at3
theorem se_x4 (i : Nat) {x : Str} (hr : ρ[i]? = some (some (.d (.tuple (a :: b :: c :: d :: e :: r)))) := by rfl) (hN : X.N[i]? = some x := by rfl) (hv : Vis X.env.scope x := by first | exact Or.inl rfl | exact Or.inr (Or.inl rfl) | exact Or.inr (Or.inr rfl)) (hd : (x == ("__debug__" : Str)) = false := by decide)
    (hcd : (x == ("__classdict__" : Str)) = false := by decide) : SE M X (.Subscript (.Name x p1) (.Constant (.int 4) j p2) p3) ρ k (.d e) k := se_ixT (se_v i hr hN hv hd hcd) se_int at4
end
namespace T
def parts : T → List (T × Int)
  | .pi _ a b => [(a, 0), (b, 1)]
  | .lam _ a b => [(a, 0), (b, 1)]
  | .app f a => [(f, 0), (a, 0)]
  | .lt _ a v b => [(a, 0), (v, 0), (b, 1)]
  | _ => []
def put : T → T → Int → T
  | .var k, v, u => if k = u then v.lift u 0 else if k > u then .var (k - 1) else .var k
  | .lf l, _, _ => .lf l
  | .pi x a b, v, u => .pi x (put a v u) (put b v (u + 1))
  | .lam x a b, v, u => .lam x (put a v u) (put b v (u + 1))
  | .app f a, v, u => .app (put f v u) (put a v u)
  | .lt x a c b, v, u => .lt x (put a v u) (put c v u) (put b v (u + 1))
def bare : T → T
  | .var k => .var k
  | .lf l => .lf l
  | .pi _ a b => .pi "_" a.bare b.bare
  | .lam _ a b => .lam "_" a.bare b.bare
  | .app f a => .app f.bare a.bare
  | .lt _ a v b => .lt "_" a.bare v.bare b.bare
def has : T → Int → Bool
  | .var k, u => decide (k = u)
  | .lf _, _ => false
  | .pi _ a b, u => has a u || has b (u + 1)
  | .lam _ a b, u => has a u || has b (u + 1)
  | .app f a, u => has f u || has a u
  | .lt _ a v b, u => has a u || (has v u || has b (u + 1))
def abs (at' : Int) : T → Int → T
  | .var k, u => if k < u then .var k else if k = at' + u then .var u else .var (k + 1)
  | .lf l, _ => .lf l
  | .pi x a b, u => .pi x (abs at' a u) (abs at' b (u + 1))
  | .lam x a b, u => .lam x (abs at' a u) (abs at' b (u + 1))
  | .app f a, u => .app (abs at' f u) (abs at' a u)
  | .lt x a w b, u => .lt x (abs at' a u) (abs at' w u) (abs at' b (u + 1))
def size : T → Int
  | .var _ => 1
  | .lf _ => 1
  | .pi _ a b => 1 + (a.size + b.size)
  | .lam _ a b => 1 + (a.size + b.size)
  | .app a b => 1 + (a.size + b.size)
  | .lt _ a v b => 1 + (a.size + (v.size + b.size))
end T
/-- the globals' names, the built-ins -/
def gLEAVES : R := .d (.tuple [.str "var", .str "sort", .str "const", .str "kind", .str "make", .str "elim", .str "meta"])
structure Glo (K : PySem.W.Frag) (mg : Str → Option Value) : Prop where
  leaves : ∀ X : Cx, X.K = K → X.mg = mg → Glb X "LEAVES" gLEAVES
  far : ∀ X : Cx, X.K = K → X.mg = mg → Glb X "FAR_MOST" (.d (.int 400))
  isi : mg "isinstance" = none
  int : mg "int" = none
  bool : mg "bool" = none
  str : mg "str" = none
  tup : mg "tuple" = none
  lst : mg "list" = none
  len : mg "len" = none
  any : mg "any" = none
  all : mg "all" = none
  sum : mg "sum" = none
  range : mg "range" = none
  enum : mg "enumerate" = none
  sorted : mg "sorted" = none
  dict : mg "dict" = none
end D

namespace D
open PySem L2 Evl

/-! ### data of ints, texts and tuples: equal as data, equal -/
mutual
def pl : PyData → Bool
  | .int _ => true
  | .str _ => true
  | .tuple xs => plA xs
  | _ => false
def plA : List PyData → Bool
  | [] => true
  | x :: xs => pl x && plA xs
end
mutual
theorem eqv_iff : ∀ (x y : PyData), pl x = true → pl y = true → (PyData.eqv x y = true ↔ x = y)
  | .int i, y, _, hy => by
    cases y <;> first | (simp only [PyData.eqv, beq_iff_eq, PyData.int.injEq]; done) | (simp [pl] at hy; done) | (simp [PyData.eqv]; done)
  | .str i, y, _, hy => by
    cases y <;> first | (simp only [PyData.eqv, beq_iff_eq, PyData.str.injEq]; done) | (simp [pl] at hy; done) | (simp [PyData.eqv]; done)
  | .tuple xs, y, hx, hy => by
    cases y with
    | tuple ys =>
      simp only [PyData.eqv, PyData.tuple.injEq]
      exact eqvA_iff xs ys (by simpa [pl] using hx) (by simpa [pl] using hy)
    | _ => first | (simp [pl] at hy; done) | (simp [PyData.eqv]; done)
  | .none, _, hx, _ => by simp [pl] at hx
  | .bool _, _, hx, _ => by simp [pl] at hx
  | .list _, _, hx, _ => by simp [pl] at hx
  | .dict _, _, hx, _ => by simp [pl] at hx
theorem eqvA_iff : ∀ (xs ys : List PyData), plA xs = true → plA ys = true → (PyData.eqvAll xs ys = true ↔ xs = ys)
  | [], [], _, _ => by simp [PyData.eqvAll]
  | [], _ :: _, _, _ => by simp [PyData.eqvAll]
  | _ :: _, [], _, _ => by simp [PyData.eqvAll]
  | x :: xs, y :: ys, hx, hy => by
    rw [plA, Bool.and_eq_true] at hx hy
    rw [PyData.eqvAll, Bool.and_eq_true, eqv_iff x y hx.1 hy.1, eqvA_iff xs ys hx.2 hy.2, List.cons.injEq]
end
theorem plA_app : ∀ (xs ys : List PyData), plA (xs ++ ys) = (plA xs && plA ys)
  | [], _ => by simp [plA]
  | x :: xs, ys => by rw [List.cons_append, plA, plA_app xs ys, plA, Bool.and_assoc]
theorem pl_encL (l : Lf) : pl (encL l) = true := by cases l <;> rfl
theorem pl_enc : ∀ t : T, pl (enc t) = true
  | .var k => rfl
  | .lf l => pl_encL l
  | .pi x a b => by simp [enc, pl, plA, pl_enc a, pl_enc b]
  | .lam x a b => by simp [enc, pl, plA, pl_enc a, pl_enc b]
  | .app a b => by simp [enc, pl, plA, pl_enc a, pl_enc b]
  | .lt x a v b => by simp [enc, pl, plA, pl_enc a, pl_enc v, pl_enc b]
theorem encL_inj {l m : Lf} (h : encL l = encL m) : l = m := by
  cases l <;> cases m <;> first
    | rfl
    | (simp only [encL, PyData.tuple.injEq, List.cons.injEq, PyData.str.injEq, PyData.int.injEq, and_true, true_and] at h; first | (exact congrArg Lf.sort (by omega)) | (exact absurd h (by decide +kernel)) | (exact absurd h.1 (by decide +kernel)) | (exact absurd h.2 (by decide +kernel)))
    | (cases h)
/-- a term's word -/
def tag : T → Str
  | .var _ => "var"
  | .lf (.sort _) => "sort"
  | .lf .ca => "const"
  | .lf .cb => "const"
  | .lf .nat => "kind"
  | .lf .mk => "make"
  | .lf .el => "elim"
  | .pi .. => "pi"
  | .lam .. => "lam"
  | .app .. => "app"
  | .lt .. => "let"
def d0 : PyData → Option PyData
  | .tuple (a :: _) => some a
  | _ => none
theorem d0_enc (t : T) : d0 (enc t) = some (.str (tag t)) := by
  cases t with
  | lf l => cases l <;> rfl
  | _ => rfl
theorem tag_of {t u : T} (h : enc t = enc u) : tag t = tag u := by
  have := congrArg d0 h
  rw [d0_enc, d0_enc] at this
  injection this with this
  injection this
theorem enc_inj : ∀ {t u : T}, enc t = enc u → t = u
  | .var k, u, h => by
    cases u with
    | var j =>
      simp only [enc, PyData.tuple.injEq, List.cons.injEq, PyData.int.injEq, and_true, true_and] at h
      rw [h]
    | lf l => exact absurd (tag_of h) (by cases l <;> (simp only [tag]; decide +kernel))
    | _ => exact absurd (tag_of h) (by simp only [tag]; decide +kernel)
  | .lf l, u, h => by
    cases u with
    | lf m => exact congrArg T.lf (encL_inj h)
    | _ => exact absurd (tag_of h) (by cases l <;> (simp only [tag]; decide +kernel))
  | .pi x a b, u, h => by
    cases u with
    | pi y c d =>
      simp only [enc, PyData.tuple.injEq, List.cons.injEq, PyData.str.injEq, and_true, true_and] at h
      rw [h.1, enc_inj h.2.1, enc_inj h.2.2]
    | lf l => exact absurd (tag_of h) (by cases l <;> (simp only [tag]; decide +kernel))
    | _ => exact absurd (tag_of h) (by simp only [tag]; decide +kernel)
  | .lam x a b, u, h => by
    cases u with
    | lam y c d =>
      simp only [enc, PyData.tuple.injEq, List.cons.injEq, PyData.str.injEq, and_true, true_and] at h
      rw [h.1, enc_inj h.2.1, enc_inj h.2.2]
    | lf l => exact absurd (tag_of h) (by cases l <;> (simp only [tag]; decide +kernel))
    | _ => exact absurd (tag_of h) (by simp only [tag]; decide +kernel)
  | .app a b, u, h => by
    cases u with
    | app c d =>
      simp only [enc, PyData.tuple.injEq, List.cons.injEq, and_true, true_and] at h
      rw [enc_inj h.1, enc_inj h.2]
    | lf l => exact absurd (tag_of h) (by cases l <;> (simp only [tag]; decide +kernel))
    | _ => exact absurd (tag_of h) (by simp only [tag]; decide +kernel)
  | .lt x a v b, u, h => by
    cases u with
    | lt y c w d =>
      simp only [enc, PyData.tuple.injEq, List.cons.injEq, PyData.str.injEq, and_true, true_and] at h
      rw [h.1, enc_inj h.2.1, enc_inj h.2.2.1, enc_inj h.2.2.2]
    | lf l => exact absurd (tag_of h) (by cases l <;> (simp only [tag]; decide +kernel))
    | _ => exact absurd (tag_of h) (by simp only [tag]; decide +kernel)
theorem eqv_pl {x y : PyData} (hx : pl x = true) (hy : pl y = true) [Decidable (x = y)] : PyData.eqv x y = decide (x = y) := by
  rw [Bool.eq_iff_iff, eqv_iff x y hx hy, decide_eq_true_eq]
theorem eqv_enc (t u : T) : PyData.eqv (enc t) (enc u) = decide (t = u) := by
  rw [Bool.eq_iff_iff, eqv_iff _ _ (pl_enc t) (pl_enc u), decide_eq_true_eq]
  exact ⟨enc_inj, fun h => by rw [h]⟩
/-- names that stand in drawn terms -/
def nmOk (x : Str) : Bool := decide (x = "x") || (decide (x = "_") || decide (x = "a"))
namespace T
def nm : T → Bool
  | .var _ => true
  | .lf _ => true
  | .pi x a b => nmOk x && (a.nm && b.nm)
  | .lam x a b => nmOk x && (a.nm && b.nm)
  | .app a b => a.nm && b.nm
  | .lt x a v b => nmOk x && (a.nm && (v.nm && b.nm))
end T
theorem nm_str {x : Str} (h : nmOk x = true) : PyData.strOk x = true := by
  unfold nmOk at h
  simp only [Bool.or_eq_true, decide_eq_true_eq] at h
  rcases h with rfl | rfl | rfl <;> decide +kernel
theorem lay_encL (l : Lf) : (encL l).canLay0 = true ∧ (encL l).depth ≤ 1 := by
  cases l <;> exact ⟨by simp only [encL, PyData.canLay0, PyData.canLayAll0]; decide +kernel, by simp [encL, PyData.depth, PyData.depthAll]⟩
theorem lay_enc : ∀ t : T, t.nm = true → (enc t).canLay0 = true ∧ (enc t).depth ≤ t.dep
  | .var k, _ => ⟨by simp only [enc, PyData.canLay0, PyData.canLayAll0]; decide +kernel, by simp [enc, PyData.depth, PyData.depthAll, T.dep]⟩
  | .lf l, _ => lay_encL l
  | .pi x a b, h => by
    simp only [T.nm, Bool.and_eq_true] at h
    have h1 := lay_enc a h.2.1
    have h2 := lay_enc b h.2.2
    have e : PyData.strOk "pi" = true := by decide +kernel
    refine ⟨by simp only [enc, PyData.canLay0, PyData.canLayAll0, nm_str h.1, h1.1, h2.1, e, Bool.and_self], ?_⟩
    simp only [enc, PyData.depth, PyData.depthAll, T.dep]
    omega
  | .lam x a b, h => by
    simp only [T.nm, Bool.and_eq_true] at h
    have h1 := lay_enc a h.2.1
    have h2 := lay_enc b h.2.2
    have e : PyData.strOk "lam" = true := by decide +kernel
    refine ⟨by simp only [enc, PyData.canLay0, PyData.canLayAll0, nm_str h.1, h1.1, h2.1, e, Bool.and_self], ?_⟩
    simp only [enc, PyData.depth, PyData.depthAll, T.dep]
    omega
  | .app a b, h => by
    simp only [T.nm, Bool.and_eq_true] at h
    have h1 := lay_enc a h.1
    have h2 := lay_enc b h.2
    have e : PyData.strOk "app" = true := by decide +kernel
    refine ⟨by simp only [enc, PyData.canLay0, PyData.canLayAll0, h1.1, h2.1, e, Bool.and_self], ?_⟩
    simp only [enc, PyData.depth, PyData.depthAll, T.dep]
    omega
  | .lt x a v b, h => by
    simp only [T.nm, Bool.and_eq_true] at h
    have h1 := lay_enc a h.2.1
    have h2 := lay_enc v h.2.2.1
    have h3 := lay_enc b h.2.2.2
    have e : PyData.strOk "let" = true := by decide +kernel
    refine ⟨by simp only [enc, PyData.canLay0, PyData.canLayAll0, nm_str h.1, h1.1, h2.1, h3.1, e, Bool.and_self], ?_⟩
    simp only [enc, PyData.depth, PyData.depthAll, T.dep]
    omega
theorem shaped_enc {t : T} (hn : t.nm = true) (hd : t.dep ≤ 60) : SeqAt.shaped (enc t) = true := by
  obtain ⟨h1, h2⟩ := lay_enc t hn
  unfold SeqAt.shaped
  rw [h1, Bool.true_and]
  exact decide_eq_true (by omega)
end D

namespace D
open PySem L2 Evl
def encP (t : T) : List PyData := t.parts.map fun q => .tuple [enc q.1, .int q.2]
namespace T
theorem parts_len (t : T) : t.parts.length ≤ 3 := by cases t <;> simp [parts]
theorem parts_dep {t : T} {q : T × Int} (h : q ∈ t.parts) : q.1.dep + 1 ≤ t.dep := by
  cases t with
  | var k => simp [parts] at h
  | lf l => simp [parts] at h
  | _ =>
    simp only [parts, List.mem_cons, List.not_mem_nil, or_false] at h
    rcases h with rfl | h
    · simp only [dep]; omega
    · first
      | (subst h; simp only [dep]; omega)
      | (rcases h with rfl | rfl <;> (simp only [dep]; omega))
theorem has_parts {t : T} (u : Int) (h : tag t ≠ "var") : t.has u = (t.parts.map fun q => q.1.has (u + q.2)).any id := by
  cases t <;> first | (exact absurd rfl h) | simp [has, parts]
theorem bare_dep : ∀ t : T, t.bare.dep = t.dep
  | .var _ => rfl
  | .lf _ => rfl
  | .pi _ a b => by simp only [bare, dep, bare_dep a, bare_dep b]
  | .lam _ a b => by simp only [bare, dep, bare_dep a, bare_dep b]
  | .app a b => by simp only [bare, dep, bare_dep a, bare_dep b]
  | .lt _ a v b => by simp only [bare, dep, bare_dep a, bare_dep v, bare_dep b]
theorem bare_nm : ∀ t : T, t.nm = true → t.bare.nm = true
  | .var _, _ => rfl
  | .lf _, _ => rfl
  | .pi x a b, h => by
    simp only [nm, Bool.and_eq_true] at h
    simp only [bare, nm, bare_nm a h.2.1, bare_nm b h.2.2]
    decide +kernel
  | .lam x a b, h => by
    simp only [nm, Bool.and_eq_true] at h
    simp only [bare, nm, bare_nm a h.2.1, bare_nm b h.2.2]
    decide +kernel
  | .app a b, h => by
    simp only [nm, Bool.and_eq_true] at h
    simp only [bare, nm, bare_nm a h.1, bare_nm b h.2, Bool.and_self]
  | .lt x a v b, h => by
    simp only [nm, Bool.and_eq_true] at h
    simp only [bare, nm, bare_nm a h.2.1, bare_nm v h.2.2.1, bare_nm b h.2.2.2]
    decide +kernel
end T
theorem enc_shape (t : T) : ∃ l, enc t = .tuple (.str (tag t) :: l) := by
  cases t with
  | lf l => cases l <;> exact ⟨_, rfl⟩
  | _ => exact ⟨_, rfl⟩
theorem var_or (t : T) : (∃ k, t = .var k) ∨ tag t ≠ "var" := by
  cases t with
  | var k => exact .inl ⟨k, rfl⟩
  | lf l => cases l <;> exact .inr (by simp only [tag]; decide +kernel)
  | _ => exact .inr (by simp only [tag]; decide +kernel)
theorem All2.mapm {α β : Type} {Pq : PyData → PyData → Prop} {f : α → PyData} {g : α → β} {h : β → PyData} : ∀ {l : List α}, (∀ x ∈ l, Pq (f x) (h (g x))) → All2 Pq (l.map f) ((l.map g).map h)
  | [], _ => .nil
  | x :: l, q => .cons (q x List.mem_cons_self) (All2.mapm fun y hy => q y (List.mem_cons_of_mem _ hy))
theorem encP_len (t : T) : (encP t).length ≤ 50000 := by rw [encP, List.length_map]; have := T.parts_len t; omega
end D

namespace D
open PySem L2 Evl
section
variable {κ : Type} {M : Mem κ} {X : Cx} {ρ : Rho} {k k1 k2 k3 : κ} {pos : Pos} {e : Expr}
/-- many += 1 -/
theorem ss_augI (i : Nat) {x : Str} {pos' : Pos} {a b : Int} {P : Pst κ} (hN : X.N.Nodup) (he : SE M X e ρ k (.d (.int b)) k1) (hq : P.nx (ρ.set i (some (.d (.int (a + b))))) k1) (hr : ρ[i]? = some (some (.d (.int a))) := by rfl) (hi : X.N[i]? = some x := by rfl)
    (hx : Loc X.env.scope x := by first | exact Or.inl rfl | exact Or.inr rfl) (hf : X.fn x = true ∨ X.env.scope.names.lookup x = some .local := by first | exact .inl rfl | exact .inr rfl | assumption) : SS M X (.AugAssign (.Name x pos') .Add e pos) ρ k P := by
  refine ⟨fun pins s σ H I s0 b0 => ?_⟩
  refine (ps_aug (i := i) (op := .Add) hN hi hx (pes (M := M)) iop_add hf).run pins s σ H _ I ?_
  obtain ⟨v, h1, h2⟩ := s0 i _ hr
  have h2' : Dp X.K (M.im H) v (.int a) := h2
  cases h2'
  refine ⟨_, h1, ρ, _, _, _, he, s0, b0, fun w H1 p => ?_⟩
  have hw : Dp X.K (M.im H1) w (.int b) := p.2.2
  cases hw
  exact ⟨a, b, rfl, rfl, _, k1, by rw [List.length_set]; exact I.len, p.1, p.2.1, (s0.ex p.1).set (by rw [I.len]; exact (List.getElem?_eq_some_iff.mp hi).1) (r := .d (.int (a + b))) (.int _), hq⟩
/-- todo, many = [..], n -/
theorem sb_ownPar (i j : Nat) {x y : Str} {es : List Expr} {b : Expr} {px py pt p1 : Pos} {kt k2' : Nat} {pt2 : Pos} {ds : List PyData} {r2 : R} {rest : List Stmt} {P : Pst κ} (hc : X.calm = true) (hN : X.N.Nodup) (he : SD M X es ρ k ds k) (hb : ∀ (κ : Type) (M : Mem κ) k, SE M X b ρ k r2 k)
    (hr : ∀ p, p ∉ M.S → SB (oL X.K M p) X rest ((ρ.set i (some (.r (.ref p)))).set j (some r2)) (k, ds) (PL P p)) (hz : ds.length ≤ 100000 := by exact Nat.le_of_ble_eq_true rfl) (hi : X.N[i]? = some x := by rfl) (hj : X.N[j]? = some y := by rfl) (hij : i ≠ j := by decide)
    (hx : X.env.scope.names.lookup x = some .local := by rfl) (hy : X.env.scope.names.lookup y = some .local := by rfl)
    (hw : swappedStores [.Tuple [.Name x px, .Name y py] kt pt] (.Tuple [.List es p1, b] k2' pt2) X.env = pure (some [x, y]) := by rfl)
    (hs : swapsWithSole [.Tuple [.Name x px, .Name y py] kt pt] (.Tuple [.List es p1, b] k2' pt2) pos.line X.env = pure false := by rfl)
    (hst : starEach [.List es p1, b] X.env = (false, eval (.List es p1) X.env) :: starEach [b] X.env := by exact starC rfl) (hst2 : starEach [b] X.env = (false, eval b X.env) :: starEach [] X.env := by exact starC rfl) :
    SB M X (.Assign [.Tuple [.Name x px, .Name y py] kt pt] (.Tuple [.List es p1, b] k2' pt2) pos :: rest) ρ k P := by
  refine ⟨fun pins s σ H I a0 b0 => ?_⟩
  refine (thn ((ps_par (i := i) (j := j) hc hN hi hj hij hx hy (pa_cons (pe_lst (pas (M := M))) (pa_cons (PE.mk (X := X) (e := b) (t := fun σ H Q => ∀ pins s, Inv X pins σ H s → wpAny (model X.prog X.w) X.A (eval b X.env) (EP X pins σ Q) X.xe s) fun pins s σ H Q I h => h pins s I) pa_nil hst2) hst) hw hs).run pins s σ H ⟨fun σ' H' => ∃ p, tSB (oL X.K M p) X rest (P.ends M X H) σ' H', fun _ _ => False, fun _ _ => False, fun _ _ => False⟩ I ?_) (fun f s1 q => ?_)) |> fun z => wpAny_execs_cons z
  · refine ⟨ρ, k, _, k, he, a0, b0, fun vs H1 q => ⟨by have := q.2.2.len; rw [List.length_map] at this; exact sz_of (by omega), fun p hp => ?_⟩⟩
    have ok := own_start (c := lstC X.K) (mono := lstC_mono) (o := .lst vs) (b := ds) q.2.1 hp ⟨vs, rfl, q.2.2.dp⟩
    have ei : Ex (M.im H1) ((oL X.K M p).im (upd H1 p (.lst vs))) := own_in q.2.1 hp
    have hn := own_notin (β := Unit) q.2.1 hp
    intro pins' s' I'
    refine thn ((hb _ (oL X.K M p) (k, ds)).h pins' s' σ _ I' ((a0.ex q.1).ex ei) ok) fun u s2 ⟨v, H2, I2, rv, e2, o2, rp⟩ => ⟨v, H2, I2, rv, ?_⟩
    refine ⟨_, _, rfl, p, ?_⟩
    refine ⟨_, _, _, hr p hn, ((((a0.ex q.1).ex ei).ex e2).set (by rw [I.len]; exact (List.getElem?_eq_some_iff.mp hi).1) (r := .r (.ref p)) rfl).set (by rw [List.length_set, I.len]; exact (List.getElem?_eq_some_iff.mp hj).1) rp, o2, fun _ _ q' => ?_, fun v' H' q' => ?_, fun _ _ q' => ?_, fun _ _ q' => ?_⟩
    · obtain ⟨_, _, _, _, _, _, n⟩ := q'
      exact n.elim
    · obtain ⟨r, kk, ⟨e, o, rp'⟩, n⟩ := q'
      exact ⟨_, kk.1, ⟨q.1.trans (ei.trans (e2.trans (e.trans own_back))), own_ok o, conv_rp hn o rp'⟩, n⟩
    · obtain ⟨_, _, _, _, _, _, n⟩ := q'
      exact n.elim
    · obtain ⟨_, _, _, _, _, _, n⟩ := q'
      exact n.elim
  · cases f with
    | next =>
      obtain ⟨σ', H', I', p, q⟩ := q
      exact psb.run pins s1 σ' H' _ I' q
    | ret v => obtain ⟨_, _, _, _, _, q⟩ := q; exact q.elim
    | brk => obtain ⟨_, _, _, q⟩ := q; exact q.elim
    | cont => obtain ⟨_, _, _, q⟩ := q; exact q.elim
/-- a tuple's truth, by its name -/
theorem st_truT {i : Nat} {x : Str} {px : Pos} {ds : List PyData} (hr : ρ[i]? = some (some (.d (.tuple ds))) := by rfl) (hN : X.N[i]? = some x := by rfl) (hv : Vis X.env.scope x := by first | exact Or.inl rfl | exact Or.inr (Or.inl rfl) | exact Or.inr (Or.inr rfl)) (hd : (x == ("__debug__" : Str)) = false := by decide)
    (hcd : (x == ("__classdict__" : Str)) = false := by decide) : ST M X (.Name x px) ρ k (!ds.isEmpty) k :=
  ST.of (pt_truth (pes (M := M)) fun _ => rfl) fun σ H s q => ⟨ρ, _, _, _, se_v i hr hN hv hd hcd, s, q, fun v H1 p => by
    have z : Dp X.K (M.im H1) v (.tuple ds) := p.2.2
    cases z with
    | tup h1 h2 =>
      refine ⟨!ds.isEmpty, .inr (.inl ⟨_, ex_t (M.sub H1) h1, ?_⟩), rfl, p.1, p.2.1⟩
      cases h2 <;> rfl⟩
end
end D

namespace D
open PySem L2 Evl
theorem map_at {us : List T} {i : Nat} {d : PyData} (h : (us.map enc)[i]? = some d) : ∃ u, us[i]? = some u ∧ d = enc u := by
  rw [List.getElem?_map] at h
  obtain ⟨u, h1, h2⟩ := Option.map_eq_some_iff.mp h
  exact ⟨u, h1, h2.symm⟩
theorem foldl_take {us : List T} {i : Nat} {u : T} (t : T) (h : us[i]? = some u) : (us.take (i + 1)).foldl T.app t = .app ((us.take i).foldl T.app t) u := by
  rw [List.take_add_one, h, List.foldl_append]
  rfl
theorem take_map (us : List T) : us.take (us.map enc).length = us := by rw [List.length_map, List.take_length]
namespace T
def hd : T → T
  | .app f _ => f.hd
  | t => t
def args : T → List T
  | .app f a => f.args ++ [a]
  | _ => []
theorem hd_args : ∀ t : T, t.args.foldl T.app t.hd = t
  | .app f a => by
    show (f.args ++ [a]).foldl T.app f.hd = _
    rw [List.foldl_append, hd_args f]
    rfl
  | .var _ => rfl
  | .lf _ => rfl
  | .pi .. => rfl
  | .lam .. => rfl
  | .lt .. => rfl
theorem hd_foldl : ∀ (us : List T) (t : T), (us.foldl T.app t).hd = t.hd
  | [], _ => rfl
  | u :: us, t => by rw [List.foldl_cons, hd_foldl us]; rfl
theorem args_foldl : ∀ (us : List T) (t : T), (us.foldl T.app t).args = t.args ++ us
  | [], t => by simp
  | u :: us, t => by
    rw [List.foldl_cons, args_foldl us]
    show (t.args ++ [u]) ++ us = _
    rw [List.append_assoc]
    rfl
theorem tag_app {t : T} : tag t = "app" ↔ ∃ f a, t = .app f a := by
  constructor
  · intro h
    cases t with
    | app f a => exact ⟨f, a, rfl⟩
    | lf l => exact absurd h (by cases l <;> (simp only [tag]; decide +kernel))
    | _ => exact absurd h (by simp only [tag]; decide +kernel)
  · rintro ⟨f, a, rfl⟩
    rfl
theorem args_not {t : T} (h : ¬ tag t = "app") : t.args = [] ∧ t.hd = t := by
  cases t with
  | app f a => exact absurd rfl h
  | _ => exact ⟨rfl, rfl⟩
/-- all parts' sizes -/
def sizes : List T → Int
  | [] => 0
  | t :: r => t.size + sizes r
theorem size_pos : ∀ t : T, 1 ≤ t.size
  | .var _ => by simp [size]
  | .lf _ => by simp [size]
  | .pi _ a b => by have := size_pos a; have := size_pos b; simp only [size]; omega
  | .lam _ a b => by have := size_pos a; have := size_pos b; simp only [size]; omega
  | .app a b => by have := size_pos a; have := size_pos b; simp only [size]; omega
  | .lt _ a v b => by have := size_pos a; have := size_pos v; have := size_pos b; simp only [size]; omega
theorem sizes_len : ∀ ts : List T, (ts.length : Int) ≤ sizes ts
  | [] => by simp [sizes]
  | t :: r => by have := size_pos t; have := sizes_len r; simp only [sizes, List.length_cons]; omega
theorem sizes_app : ∀ ts us : List T, sizes (ts ++ us) = sizes ts + sizes us
  | [], us => by simp [sizes]
  | t :: r, us => by simp only [List.cons_append, sizes, sizes_app r us]; omega
theorem size_parts (t : T) : t.size = 1 + sizes (t.parts.map (·.1)) := by
  cases t <;> simp [size, parts, sizes]
/-- a part by a path -/
def sub : T → List Int → Option T
  | t, [] => some t
  | t, i :: r => match t.parts[i.toNat]? with
    | some q => q.1.sub r
    | none => none
theorem sub_app : ∀ (p : List Int) (t : T) (r : List Int), t.sub (p ++ r) = match t.sub p with | some u => u.sub r | none => none
  | [], t, r => rfl
  | i :: p, t, r => by
    rw [List.cons_append]
    show (match t.parts[i.toNat]? with | some q => q.1.sub (p ++ r) | none => none) = match (match t.parts[i.toNat]? with | some q => q.1.sub p | none => none) with | some u => u.sub r | none => none
    cases t.parts[i.toNat]? with
    | none => rfl
    | some q => exact sub_app p q.1 r
end T
def opt : Option T → PyData
  | some t => enc t
  | none => .none
end D

namespace D
open PySem L2 Evl
section
variable {κ : Type} {M : Mem κ} {X : Cx} {ρ : Rho} {k k1 k2 k3 : κ} {pos : Pos}
def sgn (c : Nat) : PyData := .str ⟨#[c]⟩
/-- [e for target in text] -/
theorem se_lcS {elt tg iter : Expr} {scope : Scope} {ow : List (Str × Nat)} {f : PyData → Rho → Option Rho} {x : Str} {es : List PyData} (hc : X.calm = true) (hN : X.N.Nodup) (ok : BlkOk X.N X.env.scope scope ow) (ct : CT X scope tg (ow.map (·.2)) f)
    (hi : SE M X iter ρ k (.d (.str x)) k1) (hz : x.cps.size ≤ 50000) (he : All2 (fun d e => ∃ ρ', f d (wip ρ (ow.map (·.2))) = some ρ' ∧ Blk X scope (fun X' => SEp X' elt ρ' (.d e))) (x.cps.toList.map sgn) es) (hs : ∀ x, foldedSetIterable iter X.env x = pure x := by intro _; rfl) :
    SE M X (.ListComp elt [⟨tg, iter, [], 0⟩] scope pos) ρ k (.l es) k1 := by
  obtain ⟨gt, hg, hG⟩ := ct.h
  refine ⟨fun pins s σ H0 I a0 b0 => ?_⟩
  refine (pe_lc (g := gt) (tt := tYes) hc hN (pi_str (pes (M := M))) ok hg (fun _ _ _ _ _ => pts_nil) (fun s H C' cl fp => pep s H C' cl fp) hs).run pins s σ H0 _ I ?_
  refine ⟨ρ, k, _, k1, hi, a0, b0, fun v H1 p => ?_⟩
  have hv : Dp X.K (M.im H1) v (.str x) := p.2.2
  cases hv
  refine ⟨x, rfl, fun D hD => ?_⟩
  have hn := own_notin (β := Unit) p.2.1 hD
  let M' := oL X.K M D
  have e1 : Ex (M.im H1) (M'.im (upd H1 D (.lst []))) := own_in p.2.1 hD
  have hel := he.len
  rw [List.length_map, Array.length_toList] at hel
  refine ⟨fun i m H => m = x.cps.size - i ∧ i ≤ x.cps.size ∧ M'.ok (k1, es.take i) H ∧ Ex (M.im H1) (M'.im H), ⟨x.cps.size, by simp, Nat.zero_le _, own_start (c := lstC X.K) (mono := lstC_mono) (b := []) p.2.1 hD ⟨[], rfl, .nil⟩, e1⟩, ?_⟩
  rintro i m H ⟨rfl, hi', o, e⟩
  by_cases hlt : i < x.cps.size
  · refine .inr ⟨hlt, fun H' => M'.ok (k1, es.take (i + 1)) H' ∧ Ex (M.im H1) (M'.im H'), fun H' q => ⟨x.cps.size - (i + 1), by omega, rfl, by omega, q.1, q.2⟩, fun y H' hy => ?_⟩
    obtain ⟨rfl, c, hc1, rfl⟩ := hy
    have hd1 : (x.cps.toList.map sgn)[i]? = some (sgn c) := by rw [List.getElem?_map, Array.getElem?_toList, hc1]; rfl
    obtain ⟨ed, he1, ρ', hf, hb⟩ := he.get hd1
    refine hG _ M' σ H' (.str ⟨#[c]⟩) (sgn c) _ ρ' _ I.len ((sl_wip a0 _).ex (p.1.trans e)) (.str _) hf fun σ' hw hs' => ⟨hw, ?_⟩
    refine tyes ?_
    rw [if_pos rfl]
    refine ⟨_, M', ρ', _, _, hb, hs', o, fun y H4 q => ?_⟩
    obtain ⟨acc, g1, g2⟩ := oL_at q.2.1
    have hacc : acc.length = i := by rw [dpl g2, List.length_take, Nat.min_eq_left (by omega)]
    refine ⟨acc, g1, sz_lt (by omega), ?_⟩
    have et : es.take (i + 1) = es.take i ++ [ed] := by
      rw [List.take_add_one, he1]
      rfl
    obtain ⟨o2, ex2⟩ := oL_set (d' := es.take (i + 1)) q.2.1 hn (by rw [et]; exact g2.app (.cons q.2.2 .nil))
    exact ⟨o2, e.trans (q.1.trans ex2)⟩
  · have ei : i = es.length := by omega
    refine .inl ⟨Nat.le_of_not_lt hlt, ?_⟩
    rw [ei, List.take_length] at o
    obtain ⟨acc, g1, g2⟩ := oL_at o
    refine ⟨p.1.trans (e.trans own_back), own_ok o, D, acc, rfl, ?_, dpxs own_back _ _ g2⟩
    show les M.S H D = _
    rw [les_out hn]
    exact g1
theorem se_isi2 {x : PyData} {y : Str} {tn T : String} {c : Bool} {e : Expr} {p p2 : Pos} (hm : X.mg "isinstance" = none) (hy : X.mg y = none) (hb : bootBuiltins y = some (.type T)) (hk : kitB tn T = some c) (ha : SE M X e ρ k (.d x) k1) (ht : tyD x = tn := by rfl) (hg : Gl X "isinstance" := by rfl) (hgy : Gl X y := by rfl)
    (hn : y ≠ "__name__" := by decide) (hdb : (y == ("__debug__" : Str)) = false := by decide) (he1 : starEach [e, .Name y p2] X.env = (false, eval e X.env) :: starEach [.Name y p2] X.env := by exact starC rfl) (he2 : starEach [.Name y p2] X.env = (false, eval (.Name y p2) X.env) :: starEach [] X.env := by exact starC rfl)
    (hpl : (backTo pos (starEach [.Name y p2] X.env)).any (·.1) = false := by rfl) : SE M X (.Call (.Name "isinstance" p) [e, .Name y p2] [] pos) ρ k (.d (.bool c)) k1 :=
  se_isi hm hy hb (by rw [ht]; exact hk) ha hg hgy hn hdb he1 he2 hpl
end
/-- more of the globals -/
structure Glo2 (K : PySem.W.Frag) (mg : Str → Option Value) : Prop where
  letters : ∀ X : Cx, X.K = K → X.mg = mg → Glb X "LETTERS" (.d (.str "abcdefghijklmnopqrstuvwxyzABCDEFGHIJKLMNOPQRSTUVWXYZ"))
  more : ∀ X : Cx, X.K = K → X.mg = mg → Glb X "MORE" (.d (.str "abcdefghijklmnopqrstuvwxyzABCDEFGHIJKLMNOPQRSTUVWXYZ0123456789_"))
  words : ∀ X : Cx, X.K = K → X.mg = mg → Glb X "WORDS" (.d (.tuple [.str "Type", .str "fun", .str "forall", .str "let", .str "in", .str "elim", .str "return", .str "with", .str "end", .str "def", .str "define", .str "axiom", .str "kind", .str "record", .str "theorem", .str "by", .str "rec", .str "match"]))
  level : ∀ X : Cx, X.K = K → X.mg = mg → Glb X "LEVEL_MOST" (.d (.int 999999))
  parts : ∀ X : Cx, X.K = K → X.mg = mg → Glb X "PARTS_MOST" (.d (.int 20000))
  deep : ∀ X : Cx, X.K = K → X.mg = mg → Glb X "DEEP_MOST" (.d (.int 220))
namespace T
/-- a term that is_term takes, its free variables below a number -/
def wf : T → Int → Bool
  | .var k, u => decide (0 ≤ k) && decide (k < u)
  | .lf (.sort n), _ => decide (n ≤ 10)
  | .lf _, _ => true
  | .pi x a b, u => nmOk x && (wf a u && wf b (u + 1))
  | .lam x a b, u => nmOk x && (wf a u && wf b (u + 1))
  | .app f a, u => wf f u && wf a u
  | .lt x a v b, u => nmOk x && (wf a u && (wf v u && wf b (u + 1)))
theorem wf_nm : ∀ {t : T} {u : Int}, t.wf u = true → t.nm = true
  | .var _, _, _ => rfl
  | .lf _, _, _ => rfl
  | .pi x a b, u, h => by
    simp only [wf, Bool.and_eq_true] at h
    simp only [nm, h.1, wf_nm h.2.1, wf_nm h.2.2, Bool.and_self]
  | .lam x a b, u, h => by
    simp only [wf, Bool.and_eq_true] at h
    simp only [nm, h.1, wf_nm h.2.1, wf_nm h.2.2, Bool.and_self]
  | .app a b, u, h => by
    simp only [wf, Bool.and_eq_true] at h
    simp only [nm, wf_nm h.1, wf_nm h.2, Bool.and_self]
  | .lt x a v b, u, h => by
    simp only [wf, Bool.and_eq_true] at h
    simp only [nm, h.1, wf_nm h.2.1, wf_nm h.2.2.1, wf_nm h.2.2.2, Bool.and_self]
def isLeaf : T → Bool
  | .var _ => true
  | .lf _ => true
  | _ => false
end T
/-- triples on is_term's pile -/
def encT3 (q : T × Int × Int) : PyData := .tuple [enc q.1, .int q.2.1, .int q.2.2]
end D

namespace D
open PySem L2 Evl
/-- a dict of keys, all with one value -/
def dks (c : V) (ks : List Key) : List (Key × V) := ks.map fun k => (k, c)
def hasK (ks : List Key) (k : Key) : Bool := ks.any fun x => decide (x = k)
theorem hasK_iff {ks : List Key} {k : Key} : hasK ks k = true ↔ k ∈ ks := by
  unfold hasK
  rw [List.any_eq_true]
  constructor
  · rintro ⟨x, hx, hy⟩
    have : x = k := of_decide_eq_true hy
    rw [← this]
    exact hx
  · exact fun h => ⟨k, h, decide_eq_true rfl⟩
def addK (ks : List Key) (k : Key) : List Key := if hasK ks k = true then ks else ks ++ [k]
theorem mem_addK {ks : List Key} {k j : Key} : j ∈ addK ks k ↔ j ∈ ks ∨ j = k := by
  unfold addK
  by_cases h : hasK ks k = true
  · rw [if_pos h]
    constructor
    · exact .inl
    · rintro (h' | rfl)
      · exact h'
      · exact hasK_iff.mp h
  · rw [if_neg h, List.mem_append, List.mem_singleton]
theorem nodup_addK {ks : List Key} {k : Key} (h : ks.Nodup) : (addK ks k).Nodup := by
  unfold addK
  by_cases hk : hasK ks k = true
  · rw [if_pos hk]
    exact h
  · rw [if_neg hk]
    refine List.nodup_append.mpr ⟨h, by simp, fun a ha b hb e => hk (hasK_iff.mpr ?_)⟩
    rw [List.mem_singleton] at hb
    rw [← hb, ← e]
    exact ha
theorem put_dks (c : V) (ks : List Key) (k : Key) : putK (dks c ks) k c = dks c (addK ks k) := by
  unfold putK addK dks
  have e : ((ks.map fun k => (k, c)).any fun kv => decide (kv.1 = k)) = hasK ks k := by
    rw [List.any_map]
    rfl
  rw [e]
  by_cases h : hasK ks k = true
  · rw [if_pos h, if_pos h, List.map_map]
    apply List.map_congr_left
    intro a _
    show (if a = k then (a, c) else (a, c)) = (a, c)
    split <;> rfl
  · rw [if_neg h, if_neg h, List.map_append]
    rfl
def dctK (c : V) (ks : List Key) (_ : Hp) (o : HO) : Prop := o = .dK (dks c ks)
theorem dctK_mono {c : V} {ks : List Key} {G G' : Hp} {o : HO} (h : dctK c ks G o) (_ : Ex G G') : dctK c ks G' o := h
section
variable {κ : Type} {M : Mem κ} {X : Cx} {ρ : Rho} {k k1 k2 k3 : κ} {pos : Pos}
abbrev oDk (c : V) (M : Mem κ) (q : Addr) : Mem (κ × List Key) := own M q (dctK c) dctK_mono
def PD (P : Pst κ) : Pst (κ × List Key) := ⟨fun _ _ => False, fun r kk => (∃ x, r = .d x) ∧ P.rt r kk.1, fun _ _ => False, fun _ _ => False⟩
/-- x = {}, and what follows fills it -/
theorem sb_ownDict (c : V) (i : Nat) {x : Str} {pos' p1 : Pos} {rest : List Stmt} {P : Pst κ} (hN : X.N.Nodup) (hr : ∀ q, q ∉ M.S → SB (oDk c M q) X rest (ρ.set i (some (.r (.ref q)))) (k, []) (PD P)) (hi : X.N[i]? = some x := by rfl) (hx : Loc X.env.scope x := by first | exact Or.inl rfl | exact Or.inr rfl)
    (hs : swapsWith (.Dict [] [] p1) (some (.Name x pos')) pos.line X.env = pure false := by rfl) (hf : X.fn x = true ∨ X.env.scope.names.lookup x = some .local := by first | exact .inl rfl | exact .inr rfl | assumption) :
    SB M X (.Assign [.Name x pos'] (.Dict [] [] p1) pos :: rest) ρ k P := by
  refine ⟨fun pins s σ H I a b => ?_⟩
  refine thn ((ps_set (i := i) hN hi hx pe_dnewK hs hf).run pins s σ H ⟨fun σ' H' => ∃ q, tSB (oDk c M q) X rest (P.ends M X H) σ' H', fun _ _ => False, fun _ _ => False, fun _ _ => False⟩ I ?_) (fun f s1 q => ?_) |> fun z => wpAny_execs_cons z
  · intro q hq
    have ei : Ex (M.im H) ((oDk c M q).im (upd H q (.dK []))) := own_in b hq
    have ok := own_start (c := dctK c) (mono := dctK_mono) (o := .dK []) (b := []) b hq rfl
    refine ⟨q, _, _, _, hr q (own_notin (β := Unit) b hq), (a.ex ei).set (by rw [I.len]; exact (List.getElem?_eq_some_iff.mp hi).1) (r := .r (.ref q)) rfl, ok, fun _ _ z => ?_, fun v H' z => ?_, fun _ _ z => ?_, fun _ _ z => ?_⟩
    · obtain ⟨_, _, _, _, _, _, n⟩ := z
      exact n.elim
    · obtain ⟨r, kk, ⟨e, o, rp⟩, ⟨x, rfl⟩, n⟩ := z
      exact ⟨_, kk.1, ⟨ei.trans (e.trans own_back), own_ok o, RP.ex (r := .d x) own_back rp⟩, n⟩
    · obtain ⟨_, _, _, _, _, _, n⟩ := z
      exact n.elim
    · obtain ⟨_, _, _, _, _, _, n⟩ := z
      exact n.elim
  · cases f with
    | next =>
      obtain ⟨σ', H', I', p, q⟩ := q
      exact psb.run pins s1 σ' H' _ I' q
    | ret v => obtain ⟨_, _, _, _, _, q⟩ := q; exact q.elim
    | brk => obtain ⟨_, _, _, q⟩ := q; exact q.elim
    | cont => obtain ⟨_, _, _, q⟩ := q; exact q.elim
variable {c : V} {q p : Addr} {ks : List Key} {ds : List PyData}
/-- the dict beneath a list of one's own -/
theorem oLD_at {K : PySem.W.Frag} {H : Hp} (h : (oL K (oDk c M q) p).ok ((k, ks), ds) H) : H q = some (.dK (dks c ks)) := by
  obtain ⟨⟨_, o, h2, h3⟩, _⟩ := h
  have h3' : o = .dK (dks c ks) := h3
  rw [h2, h3']
theorem oLD_set {K : PySem.W.Frag} {H : Hp} {ks' : List Key} (h : (oL K (oDk c M q) p).ok ((k, ks), ds) H) (hn : q ∉ M.S) (hpq : p ≠ q) : (oL K (oDk c M q) p).ok ((k, ks'), ds) (upd H q (.dK (dks c ks'))) ∧ Ex ((oL K (oDk c M q) p).im H) ((oL K (oDk c M q) p).im (upd H q (.dK (dks c ks')))) := by
  have e : (oL K (oDk c M q) p).im (upd H q (.dK (dks c ks'))) = (oL K (oDk c M q) p).im H := by
    funext x
    show les (p :: q :: M.S) (upd H q (.dK (dks c ks'))) x = les (p :: q :: M.S) H x
    by_cases hx : x ∈ p :: q :: M.S
    · rw [les_in hx, les_in hx]
    · rw [les_out hx, les_out hx, upd_ne (fun z => hx (by rw [z]; exact List.mem_cons_of_mem _ List.mem_cons_self))]
  obtain ⟨⟨h1, _⟩, o, h4, h5⟩ := h
  refine ⟨⟨⟨?_, _, upd_same, rfl⟩, o, by rw [upd_ne hpq]; exact h4, ?_⟩, by rw [e]; exact Ex.refl _⟩
  · show M.okG k ((oL K (oDk c M q) p).im (upd H q (.dK (dks c ks')))) _
    rw [e]
    exact M.fr h1 (Ex.refl _) fun a ha => upd_ne (fun z => hn (by rw [← z]; exact ha))
  · show lstC K ds ((oL K (oDk c M q) p).im (upd H q (.dK (dks c ks')))) o
    rw [e]
    exact h5
/-- found[key] = True -/
def kD : Key → PyData
  | .inl i => .int i
  | .inr x => .str x
theorem dp_key {K : PySem.W.Frag} {H : Hp} {v : V} {key : Key} (h : Dp K H v (kD key)) : v = kV key := by
  cases key with
  | inl i => cases h; rfl
  | inr x => cases h; rfl
theorem ss_dput (i : Nat) {x : Str} {e : Expr} {px p2 : Pos} {b : Bool} {j : Nat} {pb : Pos} {key : Key} {P : Pst ((κ × List Key) × List PyData)} (hn : q ∉ M.S) (hpq : p ≠ q) (hu : X.A.units + 1 < cLine) (he : SE (oL X.K (oDk (.bl b) M q) p) X e ρ ((k, ks), ds) (.d (kD key)) ((k, ks), ds)) (hz : ks.length ≤ 90000)
    (hq : P.nx ρ ((k, addK ks key), ds)) (hr : ρ[i]? = some (some (.r (.ref q))) := by rfl) (hN : X.N[i]? = some x := by rfl) (hv : Vis X.env.scope x := by first | exact Or.inl rfl | exact Or.inr (Or.inl rfl) | exact Or.inr (Or.inr rfl)) (hd : (x == ("__debug__" : Str)) = false := by decide) (hcd : (x == ("__classdict__" : Str)) = false := by decide)
    (hs : swapsWith (.Constant (.bool b) j pb) (some (.Subscript (.Name x px) e p2)) pos.line X.env = pure false := by rfl) : SS (oL X.K (oDk (.bl b) M q) p) X (.Assign [.Subscript (.Name x px) e p2] (.Constant (.bool b) j pb) pos) ρ ((k, ks), ds) P := by
  refine ⟨fun pins s σ H I a0 b0 => ?_⟩
  refine (ps_dput hu (pes (M := oL X.K (oDk (.bl b) M q) p)) (pes (M := oL X.K (oDk (.bl b) M q) p)) pe_bl hs).run pins s σ H _ I ?_
  show tS _ X (.Name x px) σ H _
  refine ⟨ρ, _, _, _, se_v i hr hN hv hd hcd, a0, b0, fun v H1 g1 => ?_⟩
  have z : v = .ref q := g1.2.2
  subst z
  refine ⟨ρ, _, _, _, he, a0.ex g1.1, g1.2.1, fun y H2 g2 => ?_⟩
  have hy := dp_key (show Dp X.K _ y (kD key) from g2.2.2)
  subst hy
  obtain ⟨o, ex⟩ := oLD_set (ks' := addK ks key) g2.2.1 hn hpq
  refine ⟨q, upd H2 q (.dK (dks (.bl b) (addK ks key))), rfl, ?_, ρ, _, I.len, (g1.1.trans g2.1).trans ex, o, (a0.ex (g1.1.trans g2.1)).ex ex, hq⟩
  rw [← put_dks]
  exact DPut.k (oLD_at g2.2.1) (by rw [dks, List.length_map]; exact sz_lt (by omega))
theorem keys_dks (c : V) (ks : List Key) : (dks c ks).map (·.1) = ks := by
  unfold dks
  rw [List.map_map]
  exact List.map_id _
/-- sorted(found), the keys ints -/
theorem se_sortedI {e : Expr} {pe : Pos} {ns ms : List Int} (hc : X.calm = true) (hm : X.mg "sorted" = none) (hk : ks = ms.map Sum.inl) (hl : ms.length < 64) (hu : ∀ ys : List Int, ys.Perm ms → ys.Pairwise (· ≤ ·) → ys = ns)
    (ha : SE (oL X.K (oDk c M q) p) X e ρ ((k, ks), ds) (.r (.ref q)) ((k, ks), ds)) (hg : Gl X "sorted" := by rfl) (he : starEach [e] X.env = (false, eval e X.env) :: starEach [] X.env := by exact starC rfl) : SE (oL X.K (oDk c M q) p) X (.Call (.Name "sorted" pe) [e] [] pos) ρ ((k, ks), ds) (.l (ns.map .int)) ((k, ks), ds) :=
  se_bi (call_sortedDI hc) hm (by decide +kernel) (sa1 ha he) (fun H vs o h Q qq => by
    obtain ⟨v, rfl, hv⟩ := one_d h
    have hv' : v = .ref q := hv
    subst hv'
    refine ⟨q, dks c ks, ms, rfl, .inl (oLD_at o), by rw [keys_dks, hk], hl, fun ys p0 h1 h2 h3 => ?_⟩
    rw [hu ys h1 h2]
    refine qq _ _ (own_lst o ?_ p0 h3)
    have go : ∀ l : List Int, DpAll X.K ((oL X.K (oDk c M q) p).im H) (l.map V.int) (l.map PyData.int) := fun l => by
      induction l with
      | nil => exact .nil
      | cons a l ih => exact .cons (.int a) ih
    exact go ns) hg (by decide) (by decide) he
theorem se_sortedS {e : Expr} {pe : Pos} {ns ms : List Str} (hc : X.calm = true) (hm : X.mg "sorted" = none) (hk : ks = ms.map Sum.inr) (hl : ms.length < 64) (hu : ∀ ys : List Str, ys.Perm ms → PyProof.Rows.sortedS ys = true → ys = ns)
    (ha : SE (oL X.K (oDk c M q) p) X e ρ ((k, ks), ds) (.r (.ref q)) ((k, ks), ds)) (hg : Gl X "sorted" := by rfl) (he : starEach [e] X.env = (false, eval e X.env) :: starEach [] X.env := by exact starC rfl) : SE (oL X.K (oDk c M q) p) X (.Call (.Name "sorted" pe) [e] [] pos) ρ ((k, ks), ds) (.l (ns.map .str)) ((k, ks), ds) :=
  se_bi (call_sortedD hc) hm (by decide +kernel) (sa1 ha he) (fun H vs o h Q qq => by
    obtain ⟨v, rfl, hv⟩ := one_d h
    have hv' : v = .ref q := hv
    subst hv'
    refine ⟨q, dks c ks, ms, rfl, .inl (oLD_at o), by rw [keys_dks, hk], hl, fun ys p0 h1 h2 h3 => ?_⟩
    rw [hu ys h1 h2]
    refine qq _ _ (own_lst o ?_ p0 h3)
    have go : ∀ l : List Str, DpAll X.K ((oL X.K (oDk c M q) p).im H) (l.map V.str) (l.map PyData.str) := fun l => by
      induction l with
      | nil => exact .nil
      | cons a l ih => exact .cons (.str a) ih
    exact go ns) hg (by decide) (by decide) he
end
end D

namespace D
open PySem L2 Evl
namespace T
def fvl : T → Int → List Int
  | .var k, u => if k ≥ u then [k - u] else []
  | .lf _, _ => []
  | .pi _ a b, u => fvl a u ++ fvl b (u + 1)
  | .lam _ a b, u => fvl a u ++ fvl b (u + 1)
  | .app a b, u => fvl a u ++ fvl b u
  | .lt _ a v b, u => fvl a u ++ (fvl v u ++ fvl b (u + 1))
theorem fvl_iff : ∀ (t : T) (u v : Int), v ∈ t.fvl u ↔ (0 ≤ v ∧ t.has (v + u) = true)
  | .var k, u, v => by
    unfold fvl has
    by_cases h : k ≥ u
    · rw [if_pos h, List.mem_singleton, decide_eq_true_eq]
      omega
    · rw [if_neg h, decide_eq_true_eq]
      simp only [List.not_mem_nil, false_iff]
      omega
  | .lf _, u, v => by simp [fvl, has]
  | .pi _ a b, u, v => by
    simp only [fvl, has, List.mem_append, fvl_iff a, fvl_iff b, Bool.or_eq_true, Int.add_assoc]
    constructor
    · rintro (h | h) <;> simp [h]
    · rintro ⟨h, h1 | h1⟩ <;> simp [h, h1]
  | .lam _ a b, u, v => by
    simp only [fvl, has, List.mem_append, fvl_iff a, fvl_iff b, Bool.or_eq_true, Int.add_assoc]
    constructor
    · rintro (h | h) <;> simp [h]
    · rintro ⟨h, h1 | h1⟩ <;> simp [h, h1]
  | .app a b, u, v => by
    simp only [fvl, has, List.mem_append, fvl_iff a, fvl_iff b, Bool.or_eq_true]
    constructor
    · rintro (h | h) <;> simp [h]
    · rintro ⟨h, h1 | h1⟩ <;> simp [h, h1]
  | .lt _ a w b, u, v => by
    simp only [fvl, has, List.mem_append, fvl_iff a, fvl_iff w, fvl_iff b, Bool.or_eq_true, Int.add_assoc]
    constructor
    · rintro (h | h | h) <;> simp [h]
    · rintro ⟨h, h1 | h1 | h1⟩ <;> simp [h, h1]
theorem fvl_parts {t : T} (u : Int) (h : tag t ≠ "var") (v : Int) : v ∈ t.fvl u ↔ ∃ q ∈ t.parts, v ∈ q.1.fvl (u + q.2) := by
  cases t <;> first | (exact absurd rfl h) | simp [fvl, parts]
theorem has_wf : ∀ {t : T} {u v : Int}, t.wf u = true → t.has v = true → v < u
  | .var k, u, v, h, h' => by
    simp only [wf, has, Bool.and_eq_true, decide_eq_true_eq] at h h'
    omega
  | .lf _, u, v, h, h' => by simp [has] at h'
  | .pi _ a b, u, v, h, h' => by
    simp only [wf, has, Bool.and_eq_true, Bool.or_eq_true] at h h'
    rcases h' with h' | h'
    · exact has_wf h.2.1 h'
    · have := has_wf h.2.2 h'
      omega
  | .lam _ a b, u, v, h, h' => by
    simp only [wf, has, Bool.and_eq_true, Bool.or_eq_true] at h h'
    rcases h' with h' | h'
    · exact has_wf h.2.1 h'
    · have := has_wf h.2.2 h'
      omega
  | .app a b, u, v, h, h' => by
    simp only [wf, has, Bool.and_eq_true, Bool.or_eq_true] at h h'
    rcases h' with h' | h'
    · exact has_wf h.1 h'
    · exact has_wf h.2 h'
  | .lt _ a w b, u, v, h, h' => by
    simp only [wf, has, Bool.and_eq_true, Bool.or_eq_true] at h h'
    rcases h' with h' | h' | h'
    · exact has_wf h.2.1 h'
    · exact has_wf h.2.2.1 h'
    · have := has_wf h.2.2.2 h'
      omega
/-- names, as met -/
def nl : T → List Str
  | .var _ => []
  | .lf (.sort _) => []
  | .lf .ca => ["a"]
  | .lf .cb => ["b"]
  | .lf .nat => ["nat"]
  | .lf .mk => ["nat"]
  | .lf .el => ["nat"]
  | .pi _ a b => nl a ++ nl b
  | .lam _ a b => nl a ++ nl b
  | .app a b => nl a ++ nl b
  | .lt _ a v b => nl a ++ (nl v ++ nl b)
theorem nl_mem : ∀ (t : T) (x : Str), x ∈ t.nl → x = "a" ∨ x = "b" ∨ x = "nat"
  | .var _, x, h => by simp [nl] at h
  | .lf l, x, h => by cases l <;> simp [nl] at h <;> simp [h]
  | .pi _ a b, x, h => by
    simp only [nl, List.mem_append] at h
    exact h.elim (nl_mem a x) (nl_mem b x)
  | .lam _ a b, x, h => by
    simp only [nl, List.mem_append] at h
    exact h.elim (nl_mem a x) (nl_mem b x)
  | .app a b, x, h => by
    simp only [nl, List.mem_append] at h
    exact h.elim (nl_mem a x) (nl_mem b x)
  | .lt _ a v b, x, h => by
    simp only [nl, List.mem_append] at h
    exact h.elim (nl_mem a x) fun h => h.elim (nl_mem v x) (nl_mem b x)
/-- free variables, ascending -/
def fvs (t : T) (B : Nat) : List Int := ((List.range B).filter fun (v : Nat) => t.has (v : Int)).map fun (v : Nat) => (v : Int)
theorem fvs_mem {t : T} {B : Nat} (h : t.wf (B : Int) = true) (v : Int) : v ∈ t.fvs B ↔ v ∈ t.fvl 0 := by
  rw [fvl_iff, Int.add_zero]
  unfold fvs
  simp only [List.mem_map, List.mem_filter, List.mem_range]
  constructor
  · rintro ⟨n, ⟨h1, h2⟩, rfl⟩
    exact ⟨by omega, h2⟩
  · rintro ⟨h1, h2⟩
    have := has_wf h h2
    exact ⟨v.toNat, ⟨by omega, by rw [Int.toNat_of_nonneg h1]; exact h2⟩, Int.toNat_of_nonneg h1⟩
theorem fvs_lt (t : T) (B : Nat) : (t.fvs B).Pairwise (· < ·) := by
  unfold fvs
  rw [List.pairwise_map]
  refine List.Pairwise.imp ?_ (List.Pairwise.filter _ List.pairwise_lt_range)
  intro a b h
  omega
end T
theorem uniq_lt : ∀ {xs ys : List Int}, xs.Pairwise (· < ·) → ys.Pairwise (· < ·) → (∀ v, v ∈ xs ↔ v ∈ ys) → xs = ys
  | [], [], _, _, _ => rfl
  | [], y :: ys, _, _, h => absurd ((h y).mpr List.mem_cons_self) (by simp)
  | x :: xs, [], _, _, h => absurd ((h x).mp List.mem_cons_self) (by simp)
  | x :: xs, y :: ys, hx, hy, h => by
    rw [List.pairwise_cons] at hx hy
    have hxy : x = y := by
      have h1 := (h x).mp List.mem_cons_self
      have h2 := (h y).mpr List.mem_cons_self
      rcases List.mem_cons.mp h1 with e | e
      · exact e
      · rcases List.mem_cons.mp h2 with e2 | e2
        · exact e2.symm
        · have := hy.1 x e
          have := hx.1 y e2
          omega
    subst hxy
    rw [uniq_lt hx.2 hy.2 fun v => ?_]
    constructor
    · intro hv
      rcases List.mem_cons.mp ((h v).mp (List.mem_cons_of_mem _ hv)) with e | e
      · have := hx.1 v hv
        omega
      · exact e
    · intro hv
      rcases List.mem_cons.mp ((h v).mpr (List.mem_cons_of_mem _ hv)) with e | e
      · have := hy.1 v hv
        omega
      · exact e
theorem sorted_uniq {ys ms ns : List Int} (hp : ys.Perm ms) (hs : ys.Pairwise (· ≤ ·)) (hn : ms.Nodup) (hl : ns.Pairwise (· < ·)) (hm : ∀ v, v ∈ ms ↔ v ∈ ns) : ys = ns := by
  refine uniq_lt ?_ hl fun v => (hp.mem_iff).trans (hm v)
  have hny : ys.Nodup := hp.nodup_iff.mpr hn
  have : ys.Pairwise (fun a b => a ≤ b ∧ a ≠ b) := List.Pairwise.and hs hny
  refine this.imp ?_
  rintro a b ⟨h1, h2⟩
  omega
/-- the names, ascending -/
def canS (l : List Str) : List Str := (["a", "b", "nat"] : List Str).filter fun x => l.any fun y => decide (y = x)
theorem canS_congr {l m : List Str} (h : ∀ x, x ∈ l ↔ x ∈ m) : canS l = canS m := by
  unfold canS
  apply List.filter_congr
  intro x _
  rw [Bool.eq_iff_iff, List.any_eq_true, List.any_eq_true]
  constructor
  · rintro ⟨y, h1, h2⟩
    exact ⟨y, (h y).mp h1, h2⟩
  · rintro ⟨y, h1, h2⟩
    exact ⟨y, (h y).mpr h1, h2⟩
theorem canS_self : ∀ {ys : List Str}, (∀ x ∈ ys, x = "a" ∨ x = "b" ∨ x = "nat") → ys.Nodup → PyProof.Rows.sortedS ys = true → canS ys = ys
  | [], _, _, _ => by decide +kernel
  | [x], h, _, _ => by rcases h x (by simp) with rfl | rfl | rfl <;> decide +kernel
  | [x, y], h, hn, hs => by
    rcases h x (by simp) with rfl | rfl | rfl <;> rcases h y (by simp) with rfl | rfl | rfl <;> first | (decide +kernel) | (exact absurd hs (by decide +kernel)) | (exact absurd hn (by decide +kernel))
  | [x, y, z], h, hn, hs => by
    rcases h x (by simp) with rfl | rfl | rfl <;> rcases h y (by simp) with rfl | rfl | rfl <;> rcases h z (by simp) with rfl | rfl | rfl <;> first | (decide +kernel) | (exact absurd hs (by decide +kernel)) | (exact absurd hn (by decide +kernel))
  | x :: y :: z :: w :: r, h, hn, hs => by
    exfalso
    simp only [List.nodup_cons, List.mem_cons, not_or] at hn
    obtain ⟨⟨h1, h2, h3, _⟩, ⟨h4, h5, _⟩, ⟨h6, _⟩, _⟩ := hn
    have hx := h x (by simp)
    have hy := h y (by simp)
    have hz := h z (by simp)
    have hw := h w (by simp)
    rcases hx with rfl | rfl | rfl <;> rcases hy with rfl | rfl | rfl <;> rcases hz with rfl | rfl | rfl <;> rcases hw with rfl | rfl | rfl <;> first | exact h1 rfl | exact h2 rfl | exact h3 rfl | exact h4 rfl | exact h5 rfl | exact h6 rfl
theorem sortedS_uniq {ys ms l : List Str} (hp : ys.Perm ms) (hs : PyProof.Rows.sortedS ys = true) (hn : ms.Nodup) (hm : ∀ v, v ∈ ms ↔ v ∈ l) (ha : ∀ x ∈ l, x = "a" ∨ x = "b" ∨ x = "nat") : ys = canS l := by
  have hmem : ∀ v, v ∈ ys ↔ v ∈ l := fun v => (hp.mem_iff).trans (hm v)
  rw [← canS_congr hmem]
  exact (canS_self (fun x hx => ha x ((hmem x).mp hx)) (hp.nodup_iff.mpr hn) hs).symm
end D

namespace D
open PySem L2 Evl

abbrev sParts : Stmt := top 16
theorem scParts : FnScope ["term", "word"] ["term"] (defScope sParts) := ⟨rfl, rfl, rfl, by decide +kernel, rfl, by decide +kernel, by decide +kernel⟩
abbrev sRebuilt : Stmt := top 19
theorem scRebuilt : FnScope ["term", "parts", "word"] ["term", "parts"] (defScope sRebuilt) := ⟨rfl, rfl, rfl, by decide +kernel, rfl, by decide +kernel, by decide +kernel⟩
abbrev sBare : Stmt := top 20
theorem scBare : FnScope ["term", "deep", "word", "first", "second"] ["term", "deep"] (defScope sBare) := ⟨rfl, rfl, rfl, by decide +kernel, rfl, by decide +kernel, by decide +kernel⟩
abbrev sSame : Stmt := top 21
theorem scSame : FnScope ["one", "other"] ["one", "other"] (defScope sSame) := ⟨rfl, rfl, rfl, by decide +kernel, rfl, by decide +kernel, by decide +kernel⟩
abbrev sHeld : Stmt := top 22
theorem scHeld : FnScope ["deep"] ["deep"] (defScope sHeld) := ⟨rfl, rfl, rfl, by decide +kernel, rfl, by decide +kernel, by decide +kernel⟩
abbrev sLifted : Stmt := top 23
theorem scLifted : FnScope ["term", "many", "under", "deep", "word", "first", "second"] ["term", "many", "under", "deep"] (defScope sLifted) := ⟨rfl, rfl, rfl, by decide +kernel, rfl, by decide +kernel, by decide +kernel⟩
abbrev sPutAt : Stmt := top 24
theorem scPutAt : FnScope ["term", "value", "under", "deep", "word", "first", "second"] ["term", "value", "under", "deep"] (defScope sPutAt) := ⟨rfl, rfl, rfl, by decide +kernel, rfl, by decide +kernel, by decide +kernel⟩
abbrev sPut : Stmt := top 25
theorem scPut : FnScope ["term", "value"] ["term", "value"] (defScope sPut) := ⟨rfl, rfl, rfl, by decide +kernel, rfl, by decide +kernel, by decide +kernel⟩
section
variable {P : Program} {w : World} {K : PySem.W.Frag} {mg : Str → Option Value} {base : Heap} {f : Addr} {fd : FuncData}

def relHeld : List R → R → Prop := fun rs r => ∃ i : Int, rs = [.d (.int i)] ∧ i ≤ 400 ∧ r = .d .none
theorem ok_held (G : Glo K mg) (F : Fun K "held" "held" sHeld f fd) : FnOk P w K mg base CX0 1 f fd ["deep"] (spP K relHeld) := by
  refine fn_pure F scHeld (fun rs r h => by obtain ⟨i, rfl, _⟩ := h; rfl) fun cdv A outer s H E rs r S H0 hr h => ?_
  have nd := scHeld.nd
  obtain ⟨i, rfl, hi, rfl⟩ := h
  exact (sb_cons (ss_ifF (st_is (b' := false) (st_gt (se_v 0) (se_g (G.far _ rfl rfl))) (decide_eq_false (by omega))) rfl (sb_nil (sb_nil rfl))))
def relParts : List R → R → Prop := fun rs r => ∃ t : T, rs = [.d (enc t)] ∧ r = .l (encP t)
theorem ok_parts (F : Fun K "parts_of" "parts_of" sParts f fd) : FnOk P w K mg base CX0 1 f fd ["term"] (spP K relParts) := by
  refine fn_pure F scParts (fun rs r h => by obtain ⟨i, rfl, _⟩ := h; rfl) fun cdv A outer s H E rs r S H0 hr h => ?_
  have nd := scParts.nd
  obtain ⟨t, rfl, rfl⟩ := h
  cases t with
  | var n => exact (sb_cons (ss_let 1 nd (se_x0 0) (sb_cons (ss_ifF (st_in (se_v 1) (se_tup (sd_cons se_str (sd_cons se_str sd_nil))) (c := false)) rfl (sb_nil (sb_cons (ss_ifF (st_is (b' := false) (st_eqS (se_v 1) se_str) rfl) rfl (sb_nil (sb_cons (ss_ifF (st_is (b' := false) (st_eqS (se_v 1) se_str) rfl) rfl (sb_nil (sb_cons (ss_ret (se_own sd_nil) rfl)))))))))))))
  | lf l => cases l <;> exact (sb_cons (ss_let 1 nd (se_x0 0) (sb_cons (ss_ifF (st_in (se_v 1) (se_tup (sd_cons se_str (sd_cons se_str sd_nil))) (c := false)) rfl (sb_nil (sb_cons (ss_ifF (st_is (b' := false) (st_eqS (se_v 1) se_str) rfl) rfl (sb_nil (sb_cons (ss_ifF (st_is (b' := false) (st_eqS (se_v 1) se_str) rfl) rfl (sb_nil (sb_cons (ss_ret (se_own sd_nil) rfl)))))))))))))
  | pi x a b => exact (sb_cons (ss_let 1 nd (se_x0 0) (sb_cons (ss_ifT (st_in (se_v 1) (se_tup (sd_cons se_str (sd_cons se_str sd_nil))) (c := true)) rfl (sb_cons (ss_ret (se_own (sd_cons (se_tup (sd_cons (se_x2 0) (sd_cons se_int sd_nil))) (sd_cons (se_tup (sd_cons (se_x3 0) (sd_cons se_int sd_nil))) sd_nil))) rfl))))))
  | lam x a b => exact (sb_cons (ss_let 1 nd (se_x0 0) (sb_cons (ss_ifT (st_in (se_v 1) (se_tup (sd_cons se_str (sd_cons se_str sd_nil))) (c := true)) rfl (sb_cons (ss_ret (se_own (sd_cons (se_tup (sd_cons (se_x2 0) (sd_cons se_int sd_nil))) (sd_cons (se_tup (sd_cons (se_x3 0) (sd_cons se_int sd_nil))) sd_nil))) rfl))))))
  | app a b => exact (sb_cons (ss_let 1 nd (se_x0 0) (sb_cons (ss_ifF (st_in (se_v 1) (se_tup (sd_cons se_str (sd_cons se_str sd_nil))) (c := false)) rfl (sb_nil (sb_cons (ss_ifT (st_is (b' := true) (st_eqS (se_v 1) se_str) rfl) rfl (sb_cons (ss_ret (se_own (sd_cons (se_tup (sd_cons (se_x1 0) (sd_cons se_int sd_nil))) (sd_cons (se_tup (sd_cons (se_x2 0) (sd_cons se_int sd_nil))) sd_nil))) rfl)))))))))
  | lt x a v b => exact (sb_cons (ss_let 1 nd (se_x0 0) (sb_cons (ss_ifF (st_in (se_v 1) (se_tup (sd_cons se_str (sd_cons se_str sd_nil))) (c := false)) rfl (sb_nil (sb_cons (ss_ifF (st_is (b' := false) (st_eqS (se_v 1) se_str) rfl) rfl (sb_nil (sb_cons (ss_ifT (st_is (b' := true) (st_eqS (se_v 1) se_str) rfl) rfl (sb_cons (ss_ret (se_own (sd_cons (se_tup (sd_cons (se_x2 0) (sd_cons se_int sd_nil))) (sd_cons (se_tup (sd_cons (se_x3 0) (sd_cons se_int sd_nil))) (sd_cons (se_tup (sd_cons (se_x4 0) (sd_cons se_int sd_nil))) sd_nil)))) rfl))))))))))))
def relRebuilt : List R → R → Prop := fun rs r => (∃ x a b a' b', rs = [.d (enc (.pi x a b)), .l [enc a', enc b']] ∧ r = .d (enc (.pi x a' b'))) ∨ (∃ x a b a' b', rs = [.d (enc (.lam x a b)), .l [enc a', enc b']] ∧ r = .d (enc (.lam x a' b'))) ∨
  (∃ a b a' b', rs = [.d (enc (.app a b)), .l [enc a', enc b']] ∧ r = .d (enc (.app a' b'))) ∨ ∃ x a v b a' v' b', rs = [.d (enc (.lt x a v b)), .l [enc a', enc v', enc b']] ∧ r = .d (enc (.lt x a' v' b'))
theorem ok_rebuilt (F : Fun K "rebuilt" "rebuilt" sRebuilt f fd) : FnOk P w K mg base CX0 1 f fd ["term", "parts"] (spP K relRebuilt) := by
  refine fn_pure F scRebuilt (fun rs r h => by rcases h with ⟨x, a, b, a', b', rfl, _⟩ | ⟨x, a, b, a', b', rfl, _⟩ | ⟨a, b, a', b', rfl, _⟩ | ⟨x, a, v, b, a', v', b', rfl, _⟩ <;> rfl) fun cdv A outer s H E rs r S H0 hr h => ?_
  have nd := scRebuilt.nd
  rcases h with ⟨x, a, b, a', b', rfl, rfl⟩ | ⟨x, a, b, a', b', rfl, rfl⟩ | ⟨a, b, a', b', rfl, rfl⟩ | ⟨x, a, v, b, a', v', b', rfl, rfl⟩
  · exact (sb_cons (ss_let 2 nd (se_x0 0) (sb_cons (ss_ifT (st_in (se_v 2) (se_tup (sd_cons se_str (sd_cons se_str sd_nil))) (c := true)) rfl (sb_cons (ss_ret (se_tup (sd_cons (se_v 2) (sd_cons (se_x1 0) (sd_cons (se_ixL (se_l (se_v 1)) se_int at0) (sd_cons (se_ixL (se_l (se_v 1)) se_int at1) sd_nil))))) rfl))))))
  · exact (sb_cons (ss_let 2 nd (se_x0 0) (sb_cons (ss_ifT (st_in (se_v 2) (se_tup (sd_cons se_str (sd_cons se_str sd_nil))) (c := true)) rfl (sb_cons (ss_ret (se_tup (sd_cons (se_v 2) (sd_cons (se_x1 0) (sd_cons (se_ixL (se_l (se_v 1)) se_int at0) (sd_cons (se_ixL (se_l (se_v 1)) se_int at1) sd_nil))))) rfl))))))
  · exact (sb_cons (ss_let 2 nd (se_x0 0) (sb_cons (ss_ifF (st_in (se_v 2) (se_tup (sd_cons se_str (sd_cons se_str sd_nil))) (c := false)) rfl (sb_nil (sb_cons (ss_ifT (st_is (b' := true) (st_eqS (se_v 2) se_str) rfl) rfl (sb_cons (ss_ret (se_tup (sd_cons se_str (sd_cons (se_ixL (se_l (se_v 1)) se_int at0) (sd_cons (se_ixL (se_l (se_v 1)) se_int at1) sd_nil)))) rfl)))))))))
  · exact (sb_cons (ss_let 2 nd (se_x0 0) (sb_cons (ss_ifF (st_in (se_v 2) (se_tup (sd_cons se_str (sd_cons se_str sd_nil))) (c := false)) rfl (sb_nil (sb_cons (ss_ifF (st_is (b' := false) (st_eqS (se_v 2) se_str) rfl) rfl (sb_nil (sb_cons (ss_ret (se_tup (sd_cons se_str (sd_cons (se_x1 0) (sd_cons (se_ixL (se_l (se_v 1)) se_int at0) (sd_cons (se_ixL (se_l (se_v 1)) se_int at1) (sd_cons (se_ixL (se_l (se_v 1)) se_int at2) sd_nil)))))) rfl))))))))))
def relBare (n : Nat) : List R → R → Prop := fun rs r => ∃ (t : T) (dp : Int), rs = [.d (enc t), .d (.int dp)] ∧ t.dep ≤ n ∧ dp + t.dep ≤ 400 ∧ r = .d (enc t.bare)
theorem ok_bare {n : Nat} (G : Glo K mg) (F : FunD K "bare" "bare" (defArgs sBare) (defBody sBare) (defScope sBare) [.int 0] [] f fd) (cH : Cl P w K mg base 1 "held" [] relHeld) (cB : Cl P w K mg base (n + 1) "bare" [] (relBare n)) :
    FnOk P w K mg base CX0 (n + 2) f fd ["term", "deep"] (spP K (relBare (n + 1))) := by
  refine fn_pureD F scBare (fun rs r h => by obtain ⟨t, dp, rfl, _⟩ := h; rfl) fun cdv A outer s H E rs r S H0 hr h => ?_
  have nd := scBare.nd
  obtain ⟨t, dp, rfl, hd, hp, rfl⟩ := h
  cases t with
  | var n => exact (sb_cons (ss_let 2 nd (se_x0 0) (sb_cons (ss_ifT (st_in (se_v 2) (se_g (G.leaves _ rfl rfl)) (c := true)) rfl (sb_cons (ss_ret (se_v 0) rfl))))))
  | lf l => cases l <;> exact (sb_cons (ss_let 2 nd (se_x0 0) (sb_cons (ss_ifT (st_in (se_v 2) (se_g (G.leaves _ rfl rfl)) (c := true)) rfl (sb_cons (ss_ret (se_v 0) rfl))))))
  | pi x a b => exact (sb_cons (ss_let 2 nd (se_x0 0) (sb_cons (ss_ifF (st_in (se_v 2) (se_g (G.leaves _ rfl rfl)) (c := false)) rfl (sb_nil (sb_cons (ss_expr (se_call cH hr (by omega) (sa_cons (se_v 1) sa_nil) ⟨dp, rfl, by omega, rfl⟩) (sb_cons (ss_ifF (st_is (b' := false) (st_eqS (se_v 2) se_str) rfl) rfl (sb_nil (sb_cons (ss_par2 3 4 rfl nd (sa_cons (se_call cB hr (by omega) (sa_cons (se_x2 0) (sa_cons (se_add (se_v 1) se_int) sa_nil)) ⟨a, dp + 1, rfl, by simp only [T.dep] at hd; omega, by simp only [T.dep] at hp; omega, rfl⟩) (sa_cons (se_call cB hr (by omega) (sa_cons (se_x3 0) (sa_cons (se_add (se_v 1) se_int) sa_nil)) ⟨b, dp + 1, rfl, by simp only [T.dep] at hd; omega, by simp only [T.dep] at hp; omega, rfl⟩) sa_nil)) (sb_cons (ss_ret (se_ifT (st_is (b' := true) (st_neS (se_v 2) se_str) rfl) rfl (se_tup (sd_cons (se_v 2) (sd_cons se_str (sd_cons (se_v 3) (sd_cons (se_v 4) sd_nil)))))) rfl))))))))))))))
  | lam x a b => exact (sb_cons (ss_let 2 nd (se_x0 0) (sb_cons (ss_ifF (st_in (se_v 2) (se_g (G.leaves _ rfl rfl)) (c := false)) rfl (sb_nil (sb_cons (ss_expr (se_call cH hr (by omega) (sa_cons (se_v 1) sa_nil) ⟨dp, rfl, by omega, rfl⟩) (sb_cons (ss_ifF (st_is (b' := false) (st_eqS (se_v 2) se_str) rfl) rfl (sb_nil (sb_cons (ss_par2 3 4 rfl nd (sa_cons (se_call cB hr (by omega) (sa_cons (se_x2 0) (sa_cons (se_add (se_v 1) se_int) sa_nil)) ⟨a, dp + 1, rfl, by simp only [T.dep] at hd; omega, by simp only [T.dep] at hp; omega, rfl⟩) (sa_cons (se_call cB hr (by omega) (sa_cons (se_x3 0) (sa_cons (se_add (se_v 1) se_int) sa_nil)) ⟨b, dp + 1, rfl, by simp only [T.dep] at hd; omega, by simp only [T.dep] at hp; omega, rfl⟩) sa_nil)) (sb_cons (ss_ret (se_ifT (st_is (b' := true) (st_neS (se_v 2) se_str) rfl) rfl (se_tup (sd_cons (se_v 2) (sd_cons se_str (sd_cons (se_v 3) (sd_cons (se_v 4) sd_nil)))))) rfl))))))))))))))
  | app a b => exact (sb_cons (ss_let 2 nd (se_x0 0) (sb_cons (ss_ifF (st_in (se_v 2) (se_g (G.leaves _ rfl rfl)) (c := false)) rfl (sb_nil (sb_cons (ss_expr (se_call cH hr (by omega) (sa_cons (se_v 1) sa_nil) ⟨dp, rfl, by omega, rfl⟩) (sb_cons (ss_ifT (st_is (b' := true) (st_eqS (se_v 2) se_str) rfl) rfl (sb_cons (ss_ret (se_tup (sd_cons se_str (sd_cons (se_call cB hr (by omega) (sa_cons (se_x1 0) (sa_cons (se_add (se_v 1) se_int) sa_nil)) ⟨a, dp + 1, rfl, by simp only [T.dep] at hd; omega, by simp only [T.dep] at hp; omega, rfl⟩) (sd_cons (se_call cB hr (by omega) (sa_cons (se_x2 0) (sa_cons (se_add (se_v 1) se_int) sa_nil)) ⟨b, dp + 1, rfl, by simp only [T.dep] at hd; omega, by simp only [T.dep] at hp; omega, rfl⟩) sd_nil)))) rfl)))))))))))
  | lt x a v b => exact (sb_cons (ss_let 2 nd (se_x0 0) (sb_cons (ss_ifF (st_in (se_v 2) (se_g (G.leaves _ rfl rfl)) (c := false)) rfl (sb_nil (sb_cons (ss_expr (se_call cH hr (by omega) (sa_cons (se_v 1) sa_nil) ⟨dp, rfl, by omega, rfl⟩) (sb_cons (ss_ifF (st_is (b' := false) (st_eqS (se_v 2) se_str) rfl) rfl (sb_nil (sb_cons (ss_par2 3 4 rfl nd (sa_cons (se_call cB hr (by omega) (sa_cons (se_x2 0) (sa_cons (se_add (se_v 1) se_int) sa_nil)) ⟨a, dp + 1, rfl, by simp only [T.dep] at hd; omega, by simp only [T.dep] at hp; omega, rfl⟩) (sa_cons (se_call cB hr (by omega) (sa_cons (se_x3 0) (sa_cons (se_add (se_v 1) se_int) sa_nil)) ⟨v, dp + 1, rfl, by simp only [T.dep] at hd; omega, by simp only [T.dep] at hp; omega, rfl⟩) sa_nil)) (sb_cons (ss_ret (se_ifF (st_is (b' := false) (st_neS (se_v 2) se_str) rfl) rfl (se_tup (sd_cons se_str (sd_cons se_str (sd_cons (se_v 3) (sd_cons (se_v 4) (sd_cons (se_call cB hr (by omega) (sa_cons (se_x4 0) (sa_cons (se_add (se_v 1) se_int) sa_nil)) ⟨b, dp + 1, rfl, by simp only [T.dep] at hd; omega, by simp only [T.dep] at hp; omega, rfl⟩) sd_nil))))))) rfl))))))))))))))
end
end D

namespace D
open PySem L2 Evl

section
variable {P : Program} {w : World} {K : PySem.W.Frag} {mg : Str → Option Value} {base : Heap} {f : Addr} {fd : FuncData}

def relLift (n : Nat) : List R → R → Prop := fun rs r => ∃ (t : T) (m u dp : Int), rs = [.d (enc t), .d (.int m), .d (.int u), .d (.int dp)] ∧ t.dep ≤ n ∧ dp + t.dep ≤ 400 ∧ r = .d (enc (t.lift m u))
theorem ok_lifted {n : Nat} (G : Glo K mg) (F : FunD K "lifted" "lifted" (defArgs sLifted) (defBody sLifted) (defScope sLifted) [.int 0] [] f fd) (cH : Cl P w K mg base 1 "held" [] relHeld) (cL : Cl P w K mg base (n + 1) "lifted" [] (relLift n)) :
    FnOk P w K mg base CX0 (n + 2) f fd ["term", "many", "under", "deep"] (spP K (relLift (n + 1))) := by
  refine fn_pureD F scLifted (fun rs r h => by obtain ⟨t, m, u, dp, rfl, _⟩ := h; rfl) fun cdv A outer s H E rs r S H0 hr h => ?_
  have nd := scLifted.nd
  obtain ⟨t, m, u, dp, rfl, hd, hp, rfl⟩ := h
  cases t with
  | var n =>
    by_cases hk : n ≥ u
    · have e0 : (T.var n).lift m u = .var (n + m) := if_pos hk
      rw [e0]
      exact (sb_cons (ss_let 4 nd (se_x0 0) (sb_cons (ss_ifT (st_is (b' := true) (st_eqS (se_v 4) se_str) rfl) rfl (sb_cons (ss_ret (se_ifT (st_is (b' := true) (st_ge (se_x1 0) (se_v 2)) (decide_eq_true hk)) rfl (se_tup (sd_cons se_str (sd_cons (se_add (se_x1 0) (se_v 1)) sd_nil)))) rfl))))))
    · have e0 : (T.var n).lift m u = .var n := if_neg hk
      rw [e0]
      exact (sb_cons (ss_let 4 nd (se_x0 0) (sb_cons (ss_ifT (st_is (b' := true) (st_eqS (se_v 4) se_str) rfl) rfl (sb_cons (ss_ret (se_ifF (st_is (b' := false) (st_ge (se_x1 0) (se_v 2)) (decide_eq_false hk)) rfl (se_v 0)) rfl))))))
  | lf l =>
    by_cases hm : m = 0
    · cases l <;> exact (sb_cons (ss_let 4 nd (se_x0 0) (sb_cons (ss_ifF (st_is (b' := false) (st_eqS (se_v 4) se_str) rfl) rfl (sb_nil (sb_cons (ss_ifT (SW.st (sw_orT (st_is (b' := true) (st_eqI (se_v 1) se_int) (decide_eq_true hm)))) rfl (sb_cons (ss_ret (se_v 0) rfl)))))))))
    · cases l <;> exact (sb_cons (ss_let 4 nd (se_x0 0) (sb_cons (ss_ifF (st_is (b' := false) (st_eqS (se_v 4) se_str) rfl) rfl (sb_nil (sb_cons (ss_ifT (SW.st (sw_orF (st_is (b' := false) (st_eqI (se_v 1) se_int) (decide_eq_false hm)) (sw_or1 (st_in (se_v 4) (se_g (G.leaves _ rfl rfl)) (c := true))))) rfl (sb_cons (ss_ret (se_v 0) rfl)))))))))
  | pi x a b =>
    by_cases hm : m = 0
    · have e0 : (T.pi x a b).lift m u = T.pi x a b := by rw [hm, T.lift0]
      rw [e0]
      exact (sb_cons (ss_let 4 nd (se_x0 0) (sb_cons (ss_ifF (st_is (b' := false) (st_eqS (se_v 4) se_str) rfl) rfl (sb_nil (sb_cons (ss_ifT (SW.st (sw_orT (st_is (b' := true) (st_eqI (se_v 1) se_int) (decide_eq_true hm)))) rfl (sb_cons (ss_ret (se_v 0) rfl)))))))))
    · exact (sb_cons (ss_let 4 nd (se_x0 0) (sb_cons (ss_ifF (st_is (b' := false) (st_eqS (se_v 4) se_str) rfl) rfl (sb_nil (sb_cons (ss_ifF (SW.st (sw_orF (st_is (b' := false) (st_eqI (se_v 1) se_int) (decide_eq_false hm)) (sw_or1 (st_in (se_v 4) (se_g (G.leaves _ rfl rfl)) (c := false))))) rfl (sb_nil (sb_cons (ss_expr (se_call cH hr (by omega) (sa_cons (se_v 3) sa_nil) ⟨dp, rfl, by omega, rfl⟩) (sb_cons (ss_ifF (st_is (b' := false) (st_eqS (se_v 4) se_str) rfl) rfl (sb_nil (sb_cons (ss_let 5 nd (se_call cL hr (by omega) (sa_cons (se_x2 0) (sa_cons (se_v 1) (sa_cons (se_v 2) (sa_cons (se_add (se_v 3) se_int) sa_nil)))) ⟨a, m, u, dp + 1, rfl, by simp only [T.dep] at hd; omega, by simp only [T.dep] at hp; omega, rfl⟩) (sb_cons (ss_ifF (st_is (b' := false) (st_eqS (se_v 4) se_str) rfl) rfl (sb_nil (sb_cons (ss_ret (se_tup (sd_cons (se_v 4) (sd_cons (se_x1 0) (sd_cons (se_v 5) (sd_cons (se_call cL hr (by omega) (sa_cons (se_x3 0) (sa_cons (se_v 1) (sa_cons (se_add (se_v 2) se_int) (sa_cons (se_add (se_v 3) se_int) sa_nil)))) ⟨b, m, u + 1, dp + 1, rfl, by simp only [T.dep] at hd; omega, by simp only [T.dep] at hp; omega, rfl⟩) sd_nil))))) rfl))))))))))))))))))))
  | lam x a b =>
    by_cases hm : m = 0
    · have e0 : (T.lam x a b).lift m u = T.lam x a b := by rw [hm, T.lift0]
      rw [e0]
      exact (sb_cons (ss_let 4 nd (se_x0 0) (sb_cons (ss_ifF (st_is (b' := false) (st_eqS (se_v 4) se_str) rfl) rfl (sb_nil (sb_cons (ss_ifT (SW.st (sw_orT (st_is (b' := true) (st_eqI (se_v 1) se_int) (decide_eq_true hm)))) rfl (sb_cons (ss_ret (se_v 0) rfl)))))))))
    · exact (sb_cons (ss_let 4 nd (se_x0 0) (sb_cons (ss_ifF (st_is (b' := false) (st_eqS (se_v 4) se_str) rfl) rfl (sb_nil (sb_cons (ss_ifF (SW.st (sw_orF (st_is (b' := false) (st_eqI (se_v 1) se_int) (decide_eq_false hm)) (sw_or1 (st_in (se_v 4) (se_g (G.leaves _ rfl rfl)) (c := false))))) rfl (sb_nil (sb_cons (ss_expr (se_call cH hr (by omega) (sa_cons (se_v 3) sa_nil) ⟨dp, rfl, by omega, rfl⟩) (sb_cons (ss_ifF (st_is (b' := false) (st_eqS (se_v 4) se_str) rfl) rfl (sb_nil (sb_cons (ss_let 5 nd (se_call cL hr (by omega) (sa_cons (se_x2 0) (sa_cons (se_v 1) (sa_cons (se_v 2) (sa_cons (se_add (se_v 3) se_int) sa_nil)))) ⟨a, m, u, dp + 1, rfl, by simp only [T.dep] at hd; omega, by simp only [T.dep] at hp; omega, rfl⟩) (sb_cons (ss_ifF (st_is (b' := false) (st_eqS (se_v 4) se_str) rfl) rfl (sb_nil (sb_cons (ss_ret (se_tup (sd_cons (se_v 4) (sd_cons (se_x1 0) (sd_cons (se_v 5) (sd_cons (se_call cL hr (by omega) (sa_cons (se_x3 0) (sa_cons (se_v 1) (sa_cons (se_add (se_v 2) se_int) (sa_cons (se_add (se_v 3) se_int) sa_nil)))) ⟨b, m, u + 1, dp + 1, rfl, by simp only [T.dep] at hd; omega, by simp only [T.dep] at hp; omega, rfl⟩) sd_nil))))) rfl))))))))))))))))))))
  | app a b =>
    by_cases hm : m = 0
    · have e0 : (T.app a b).lift m u = T.app a b := by rw [hm, T.lift0]
      rw [e0]
      exact (sb_cons (ss_let 4 nd (se_x0 0) (sb_cons (ss_ifF (st_is (b' := false) (st_eqS (se_v 4) se_str) rfl) rfl (sb_nil (sb_cons (ss_ifT (SW.st (sw_orT (st_is (b' := true) (st_eqI (se_v 1) se_int) (decide_eq_true hm)))) rfl (sb_cons (ss_ret (se_v 0) rfl)))))))))
    · exact (sb_cons (ss_let 4 nd (se_x0 0) (sb_cons (ss_ifF (st_is (b' := false) (st_eqS (se_v 4) se_str) rfl) rfl (sb_nil (sb_cons (ss_ifF (SW.st (sw_orF (st_is (b' := false) (st_eqI (se_v 1) se_int) (decide_eq_false hm)) (sw_or1 (st_in (se_v 4) (se_g (G.leaves _ rfl rfl)) (c := false))))) rfl (sb_nil (sb_cons (ss_expr (se_call cH hr (by omega) (sa_cons (se_v 3) sa_nil) ⟨dp, rfl, by omega, rfl⟩) (sb_cons (ss_ifT (st_is (b' := true) (st_eqS (se_v 4) se_str) rfl) rfl (sb_cons (ss_ret (se_tup (sd_cons se_str (sd_cons (se_call cL hr (by omega) (sa_cons (se_x1 0) (sa_cons (se_v 1) (sa_cons (se_v 2) (sa_cons (se_add (se_v 3) se_int) sa_nil)))) ⟨a, m, u, dp + 1, rfl, by simp only [T.dep] at hd; omega, by simp only [T.dep] at hp; omega, rfl⟩) (sd_cons (se_call cL hr (by omega) (sa_cons (se_x2 0) (sa_cons (se_v 1) (sa_cons (se_v 2) (sa_cons (se_add (se_v 3) se_int) sa_nil)))) ⟨b, m, u, dp + 1, rfl, by simp only [T.dep] at hd; omega, by simp only [T.dep] at hp; omega, rfl⟩) sd_nil)))) rfl))))))))))))))
  | lt x a v b =>
    by_cases hm : m = 0
    · have e0 : (T.lt x a v b).lift m u = T.lt x a v b := by rw [hm, T.lift0]
      rw [e0]
      exact (sb_cons (ss_let 4 nd (se_x0 0) (sb_cons (ss_ifF (st_is (b' := false) (st_eqS (se_v 4) se_str) rfl) rfl (sb_nil (sb_cons (ss_ifT (SW.st (sw_orT (st_is (b' := true) (st_eqI (se_v 1) se_int) (decide_eq_true hm)))) rfl (sb_cons (ss_ret (se_v 0) rfl)))))))))
    · exact (sb_cons (ss_let 4 nd (se_x0 0) (sb_cons (ss_ifF (st_is (b' := false) (st_eqS (se_v 4) se_str) rfl) rfl (sb_nil (sb_cons (ss_ifF (SW.st (sw_orF (st_is (b' := false) (st_eqI (se_v 1) se_int) (decide_eq_false hm)) (sw_or1 (st_in (se_v 4) (se_g (G.leaves _ rfl rfl)) (c := false))))) rfl (sb_nil (sb_cons (ss_expr (se_call cH hr (by omega) (sa_cons (se_v 3) sa_nil) ⟨dp, rfl, by omega, rfl⟩) (sb_cons (ss_ifF (st_is (b' := false) (st_eqS (se_v 4) se_str) rfl) rfl (sb_nil (sb_cons (ss_let 5 nd (se_call cL hr (by omega) (sa_cons (se_x2 0) (sa_cons (se_v 1) (sa_cons (se_v 2) (sa_cons (se_add (se_v 3) se_int) sa_nil)))) ⟨a, m, u, dp + 1, rfl, by simp only [T.dep] at hd; omega, by simp only [T.dep] at hp; omega, rfl⟩) (sb_cons (ss_ifT (st_is (b' := true) (st_eqS (se_v 4) se_str) rfl) rfl (sb_cons (ss_let 6 nd (se_call cL hr (by omega) (sa_cons (se_x3 0) (sa_cons (se_v 1) (sa_cons (se_v 2) (sa_cons (se_add (se_v 3) se_int) sa_nil)))) ⟨v, m, u, dp + 1, rfl, by simp only [T.dep] at hd; omega, by simp only [T.dep] at hp; omega, rfl⟩) (sb_cons (ss_ret (se_tup (sd_cons se_str (sd_cons (se_x1 0) (sd_cons (se_v 5) (sd_cons (se_v 6) (sd_cons (se_call cL hr (by omega) (sa_cons (se_x4 0) (sa_cons (se_v 1) (sa_cons (se_add (se_v 2) se_int) (sa_cons (se_add (se_v 3) se_int) sa_nil)))) ⟨b, m, u + 1, dp + 1, rfl, by simp only [T.dep] at hd; omega, by simp only [T.dep] at hp; omega, rfl⟩) sd_nil)))))) rfl)))))))))))))))))))))

def relPutAt (n : Nat) : List R → R → Prop := fun rs r => ∃ (t v : T) (u dp : Int), rs = [.d (enc t), .d (enc v), .d (.int u), .d (.int dp)] ∧ t.dep ≤ n ∧ v.dep ≤ 30 ∧ dp + t.dep ≤ 400 ∧ r = .d (enc (t.put v u))
theorem ok_putAt {n : Nat} (G : Glo K mg) (F : FunD K "put_at" "put_at" (defArgs sPutAt) (defBody sPutAt) (defScope sPutAt) [.int 0] [] f fd) (cH : Cl P w K mg base 1 "held" [] relHeld) (cL : Cl P w K mg base 40 "lifted" [.d (.int 0)] (relLift 30)) (cP : Cl P w K mg base (n + 41) "put_at" [] (relPutAt n)) :
    FnOk P w K mg base CX0 (n + 42) f fd ["term", "value", "under", "deep"] (spP K (relPutAt (n + 1))) := by
  refine fn_pureD F scPutAt (fun rs r h => by obtain ⟨t, v, u, dp, rfl, _⟩ := h; rfl) fun cdv A outer s H E rs r S H0 hr h => ?_
  have nd := scPutAt.nd
  obtain ⟨t, v, u, dp, rfl, hd, hv, hp, rfl⟩ := h
  cases t with
  | var n =>
    by_cases hk : n = u
    · have e0 : (T.var n).put v u = v.lift u 0 := if_pos hk
      rw [e0]
      exact (sb_cons (ss_let 4 nd (se_x0 0) (sb_cons (ss_ifT (st_is (b' := true) (st_eqS (se_v 4) se_str) rfl) rfl (sb_cons (ss_ifT (st_is (b' := true) (st_eqI (se_x1 0) (se_v 2)) (decide_eq_true hk)) rfl (sb_cons (ss_ret (se_call cL hr (by omega) (sa_cons (se_v 1) (sa_cons (se_v 2) (sa_cons se_int sa_nil))) ⟨v, u, 0, 0, rfl, hv, by omega, rfl⟩) rfl))))))))
    · by_cases hg : n > u
      · have e0 : (T.var n).put v u = .var (n - 1) := by unfold T.put; rw [if_neg hk, if_pos hg]
        rw [e0]
        exact (sb_cons (ss_let 4 nd (se_x0 0) (sb_cons (ss_ifT (st_is (b' := true) (st_eqS (se_v 4) se_str) rfl) rfl (sb_cons (ss_ifF (st_is (b' := false) (st_eqI (se_x1 0) (se_v 2)) (decide_eq_false hk)) rfl (sb_nil (sb_cons (ss_ret (se_ifT (st_is (b' := true) (st_gt (se_x1 0) (se_v 2)) (decide_eq_true hg)) rfl (se_tup (sd_cons se_str (sd_cons (se_sub (se_x1 0) se_int) sd_nil)))) rfl)))))))))
      · have e0 : (T.var n).put v u = .var n := by unfold T.put; rw [if_neg hk, if_neg hg]
        rw [e0]
        exact (sb_cons (ss_let 4 nd (se_x0 0) (sb_cons (ss_ifT (st_is (b' := true) (st_eqS (se_v 4) se_str) rfl) rfl (sb_cons (ss_ifF (st_is (b' := false) (st_eqI (se_x1 0) (se_v 2)) (decide_eq_false hk)) rfl (sb_nil (sb_cons (ss_ret (se_ifF (st_is (b' := false) (st_gt (se_x1 0) (se_v 2)) (decide_eq_false hg)) rfl (se_v 0)) rfl)))))))))
  | lf l => cases l <;> exact (sb_cons (ss_let 4 nd (se_x0 0) (sb_cons (ss_ifF (st_is (b' := false) (st_eqS (se_v 4) se_str) rfl) rfl (sb_nil (sb_cons (ss_ifT (st_in (se_v 4) (se_g (G.leaves _ rfl rfl)) (c := true)) rfl (sb_cons (ss_ret (se_v 0) rfl)))))))))
  | pi x a b => exact (sb_cons (ss_let 4 nd (se_x0 0) (sb_cons (ss_ifF (st_is (b' := false) (st_eqS (se_v 4) se_str) rfl) rfl (sb_nil (sb_cons (ss_ifF (st_in (se_v 4) (se_g (G.leaves _ rfl rfl)) (c := false)) rfl (sb_nil (sb_cons (ss_expr (se_call cH hr (by omega) (sa_cons (se_v 3) sa_nil) ⟨dp, rfl, by omega, rfl⟩) (sb_cons (ss_ifF (st_is (b' := false) (st_eqS (se_v 4) se_str) rfl) rfl (sb_nil (sb_cons (ss_let 5 nd (se_call cP hr (by omega) (sa_cons (se_x2 0) (sa_cons (se_v 1) (sa_cons (se_v 2) (sa_cons (se_add (se_v 3) se_int) sa_nil)))) ⟨a, v, u, dp + 1, rfl, by simp only [T.dep] at hd; omega, hv, by simp only [T.dep] at hp; omega, rfl⟩) (sb_cons (ss_ifF (st_is (b' := false) (st_eqS (se_v 4) se_str) rfl) rfl (sb_nil (sb_cons (ss_ret (se_tup (sd_cons (se_v 4) (sd_cons (se_x1 0) (sd_cons (se_v 5) (sd_cons (se_call cP hr (by omega) (sa_cons (se_x3 0) (sa_cons (se_v 1) (sa_cons (se_add (se_v 2) se_int) (sa_cons (se_add (se_v 3) se_int) sa_nil)))) ⟨b, v, u + 1, dp + 1, rfl, by simp only [T.dep] at hd; omega, hv, by simp only [T.dep] at hp; omega, rfl⟩) sd_nil))))) rfl))))))))))))))))))))
  | lam x a b => exact (sb_cons (ss_let 4 nd (se_x0 0) (sb_cons (ss_ifF (st_is (b' := false) (st_eqS (se_v 4) se_str) rfl) rfl (sb_nil (sb_cons (ss_ifF (st_in (se_v 4) (se_g (G.leaves _ rfl rfl)) (c := false)) rfl (sb_nil (sb_cons (ss_expr (se_call cH hr (by omega) (sa_cons (se_v 3) sa_nil) ⟨dp, rfl, by omega, rfl⟩) (sb_cons (ss_ifF (st_is (b' := false) (st_eqS (se_v 4) se_str) rfl) rfl (sb_nil (sb_cons (ss_let 5 nd (se_call cP hr (by omega) (sa_cons (se_x2 0) (sa_cons (se_v 1) (sa_cons (se_v 2) (sa_cons (se_add (se_v 3) se_int) sa_nil)))) ⟨a, v, u, dp + 1, rfl, by simp only [T.dep] at hd; omega, hv, by simp only [T.dep] at hp; omega, rfl⟩) (sb_cons (ss_ifF (st_is (b' := false) (st_eqS (se_v 4) se_str) rfl) rfl (sb_nil (sb_cons (ss_ret (se_tup (sd_cons (se_v 4) (sd_cons (se_x1 0) (sd_cons (se_v 5) (sd_cons (se_call cP hr (by omega) (sa_cons (se_x3 0) (sa_cons (se_v 1) (sa_cons (se_add (se_v 2) se_int) (sa_cons (se_add (se_v 3) se_int) sa_nil)))) ⟨b, v, u + 1, dp + 1, rfl, by simp only [T.dep] at hd; omega, hv, by simp only [T.dep] at hp; omega, rfl⟩) sd_nil))))) rfl))))))))))))))))))))
  | app a b => exact (sb_cons (ss_let 4 nd (se_x0 0) (sb_cons (ss_ifF (st_is (b' := false) (st_eqS (se_v 4) se_str) rfl) rfl (sb_nil (sb_cons (ss_ifF (st_in (se_v 4) (se_g (G.leaves _ rfl rfl)) (c := false)) rfl (sb_nil (sb_cons (ss_expr (se_call cH hr (by omega) (sa_cons (se_v 3) sa_nil) ⟨dp, rfl, by omega, rfl⟩) (sb_cons (ss_ifT (st_is (b' := true) (st_eqS (se_v 4) se_str) rfl) rfl (sb_cons (ss_ret (se_tup (sd_cons se_str (sd_cons (se_call cP hr (by omega) (sa_cons (se_x1 0) (sa_cons (se_v 1) (sa_cons (se_v 2) (sa_cons (se_add (se_v 3) se_int) sa_nil)))) ⟨a, v, u, dp + 1, rfl, by simp only [T.dep] at hd; omega, hv, by simp only [T.dep] at hp; omega, rfl⟩) (sd_cons (se_call cP hr (by omega) (sa_cons (se_x2 0) (sa_cons (se_v 1) (sa_cons (se_v 2) (sa_cons (se_add (se_v 3) se_int) sa_nil)))) ⟨b, v, u, dp + 1, rfl, by simp only [T.dep] at hd; omega, hv, by simp only [T.dep] at hp; omega, rfl⟩) sd_nil)))) rfl))))))))))))))
  | lt x a c b => exact (sb_cons (ss_let 4 nd (se_x0 0) (sb_cons (ss_ifF (st_is (b' := false) (st_eqS (se_v 4) se_str) rfl) rfl (sb_nil (sb_cons (ss_ifF (st_in (se_v 4) (se_g (G.leaves _ rfl rfl)) (c := false)) rfl (sb_nil (sb_cons (ss_expr (se_call cH hr (by omega) (sa_cons (se_v 3) sa_nil) ⟨dp, rfl, by omega, rfl⟩) (sb_cons (ss_ifF (st_is (b' := false) (st_eqS (se_v 4) se_str) rfl) rfl (sb_nil (sb_cons (ss_let 5 nd (se_call cP hr (by omega) (sa_cons (se_x2 0) (sa_cons (se_v 1) (sa_cons (se_v 2) (sa_cons (se_add (se_v 3) se_int) sa_nil)))) ⟨a, v, u, dp + 1, rfl, by simp only [T.dep] at hd; omega, hv, by simp only [T.dep] at hp; omega, rfl⟩) (sb_cons (ss_ifT (st_is (b' := true) (st_eqS (se_v 4) se_str) rfl) rfl (sb_cons (ss_let 6 nd (se_call cP hr (by omega) (sa_cons (se_x3 0) (sa_cons (se_v 1) (sa_cons (se_v 2) (sa_cons (se_add (se_v 3) se_int) sa_nil)))) ⟨c, v, u, dp + 1, rfl, by simp only [T.dep] at hd; omega, hv, by simp only [T.dep] at hp; omega, rfl⟩) (sb_cons (ss_ret (se_tup (sd_cons se_str (sd_cons (se_x1 0) (sd_cons (se_v 5) (sd_cons (se_v 6) (sd_cons (se_call cP hr (by omega) (sa_cons (se_x4 0) (sa_cons (se_v 1) (sa_cons (se_add (se_v 2) se_int) (sa_cons (se_add (se_v 3) se_int) sa_nil)))) ⟨b, v, u + 1, dp + 1, rfl, by simp only [T.dep] at hd; omega, hv, by simp only [T.dep] at hp; omega, rfl⟩) sd_nil)))))) rfl)))))))))))))))))))))
def relPut : List R → R → Prop := fun rs r => ∃ (t v : T), rs = [.d (enc t), .d (enc v)] ∧ t.dep ≤ 30 ∧ v.dep ≤ 30 ∧ r = .d (enc (t.put v 0))
theorem ok_put (F : Fun K "put" "put" sPut f fd) (cP : Cl P w K mg base 80 "put_at" [.d (.int 0)] (relPutAt 30)) : FnOk P w K mg base CX0 81 f fd ["term", "value"] (spP K relPut) := by
  refine fn_pure F scPut (fun rs r h => by obtain ⟨t, v, rfl, _⟩ := h; rfl) fun cdv A outer s H E rs r S H0 hr h => ?_
  have nd := scPut.nd
  obtain ⟨t, v, rfl, ht, hv, rfl⟩ := h
  exact (sb_cons (ss_ret (se_call cP hr (by omega) (sa_cons (se_v 0) (sa_cons (se_v 1) (sa_cons se_int sa_nil))) ⟨t, v, 0, 0, rfl, ht, hv, by omega, rfl⟩) rfl))
end
end D

namespace D
open PySem L2 Evl

abbrev sHas : Stmt := top 27
theorem scHas : FnScope ["term", "under", "part", "over"] ["term", "under"] (defScope sHas) := ⟨rfl, rfl, rfl, by decide +kernel, rfl, by decide +kernel, by decide +kernel⟩
abbrev sAbs : Stmt := top 33
theorem scAbs : FnScope ["term", "at", "under", "part", "over"] ["term", "at", "under"] (defScope sAbs) := ⟨rfl, rfl, rfl, by decide +kernel, rfl, by decide +kernel, by decide +kernel⟩
abbrev sApplied : Stmt := top 31
theorem scApplied : FnScope ["head", "args", "arg"] ["head", "args"] (defScope sApplied) := ⟨rfl, rfl, rfl, by decide +kernel, rfl, by decide +kernel, by decide +kernel⟩
abbrev sSpine : Stmt := top 32
theorem scSpine : FnScope ["term", "args"] ["term"] (defScope sSpine) := ⟨rfl, rfl, rfl, by decide +kernel, rfl, by decide +kernel, by decide +kernel⟩
abbrev sSizeOf : Stmt := top 30
theorem scSizeOf : FnScope ["term", "todo", "many", "here", "part", "over"] ["term"] (defScope sSizeOf) := ⟨rfl, rfl, rfl, by decide +kernel, rfl, by decide +kernel, by decide +kernel⟩
abbrev sPartAt : Stmt := top 35
theorem scPartAt : FnScope ["term", "path", "at", "parts", "part", "over"] ["term", "path"] (defScope sPartAt) := ⟨rfl, rfl, rfl, by decide +kernel, rfl, by decide +kernel, by decide +kernel⟩
abbrev sPutAll : Stmt := top 26
theorem scPutAll : FnScope ["term", "values", "found", "at", "value"] ["term", "values"] (defScope sPutAll) := ⟨rfl, rfl, rfl, by decide +kernel, rfl, by decide +kernel, by decide +kernel⟩
section
variable {P : Program} {w : World} {K : PySem.W.Frag} {mg : Str → Option Value} {base : Heap} {f : Addr} {fd : FuncData}

def relSame : List R → R → Prop := fun rs r => ∃ t u : T, rs = [.d (enc t), .d (enc u)] ∧ t.dep ≤ 30 ∧ u.dep ≤ 30 ∧ t.nm = true ∧ u.nm = true ∧ r = .d (.bool (decide (t.bare = u.bare)))
theorem ok_same (F : Fun K "is_same" "is_same" sSame f fd) (cB : Cl P w K mg base 40 "bare" [.d (.int 0)] (relBare 30)) : FnOk P w K mg base CX0 41 f fd ["one", "other"] (spP K relSame) := by
  refine fn_pure F scSame (fun rs r h => by obtain ⟨t, u, rfl, _⟩ := h; rfl) fun cdv A outer s H E rs r S H0 hr h => ?_
  have nd := scSame.nd
  obtain ⟨t, u, rfl, ht, hu, nt, nu, rfl⟩ := h
  rw [← eqv_enc]
  exact (sb_cons (ss_ret (se_eqD hr.units (shaped_enc (T.bare_nm t nt) (by rw [T.bare_dep]; omega)) (shaped_enc (T.bare_nm u nu) (by rw [T.bare_dep]; omega)) (se_call cB hr (by omega) (sa1 (se_v 0)) ⟨t, 0, rfl, ht, by omega, rfl⟩) (se_call cB hr (by omega) (sa1 (se_v 1)) ⟨u, 0, rfl, hu, by omega, rfl⟩)) rfl))
def relHas (n : Nat) : List R → R → Prop := fun rs r => ∃ (t : T) (u : Int), rs = [.d (enc t), .d (.int u)] ∧ t.dep ≤ n ∧ r = .d (.bool (t.has u))
theorem ok_has {n : Nat} (G : Glo K mg) (F : Fun K "has_var" "has_var" sHas f fd) (cP : Cl P w K mg base 1 "parts_of" [] relParts) (cH : Cl P w K mg base (n + 1) "has_var" [] (relHas n)) :
    FnOk P w K mg base CX0 (n + 2) f fd ["term", "under"] (spP K (relHas (n + 1))) := by
  refine fn_pure F scHas (fun rs r h => by obtain ⟨t, u, rfl, _⟩ := h; rfl) fun cdv A outer s H E rs r S H0 hr h => ?_
  have nd := scHas.nd
  obtain ⟨t, u, rfl, hd, rfl⟩ := h
  rcases var_or t with ⟨k, rfl⟩ | ht
  · exact (sb_cons (ss_ifT (st_is (b' := true) (st_eqS (se_x0 0) se_str) rfl) rfl (sb_cons (ss_ret (se_eqI (se_x1 0) (se_v 1)) rfl))))
  · obtain ⟨l, hl⟩ := enc_shape t
    rw [T.has_parts u ht]
    exact (sb_cons (ss_ifF (st_is (b' := false) (st_eqS (se_x0 0 (hr := congrArg (fun d => some (some (R.d d))) hl)) se_str) (decide_eq_false ht)) rfl (sb_nil (sb_cons (ss_ret (se_any rfl G.any (se_l (se_lc (ow := [("part", 2), ("over", 3)]) rfl nd (blkOk_by (N := ["term", "under", "part", "over"]) (sc := defScope sHas) (by decide +kernel)) (ct_two rfl nd) (se_l (se_call cP hr (by omega) (sa_cons (se_v 0) sa_nil) ⟨t, rfl, rfl⟩)) (encP_len t) (All2.mapm (g := fun q : T × Int => q.1.has (u + q.2)) (h := PyData.bool) fun q hq => ⟨_, rfl, fun s H C' cl fp κ M k => (se_call cH hr (by omega) (sa_cons (se_v 2) (sa_cons (se_add (se_v 1) (se_v 3)) sa_nil)) ⟨q.1, u + q.2, rfl, by have := T.parts_dep hq; omega, rfl⟩)⟩)))) rfl)))))
def relAbs (n : Nat) : List R → R → Prop := fun rs r => ∃ (t : T) (a u : Int), rs = [.d (enc t), .d (.int a), .d (.int u)] ∧ t.dep ≤ n ∧ r = .d (enc (t.abs a u))
theorem ok_abs {n : Nat} (G : Glo K mg) (F : Fun K "abstracted" "abstracted" sAbs f fd) (cP : Cl P w K mg base 1 "parts_of" [] relParts) (cR : Cl P w K mg base 1 "rebuilt" [] relRebuilt) (cA : Cl P w K mg base (n + 1) "abstracted" [] (relAbs n)) :
    FnOk P w K mg base CX0 (n + 2) f fd ["term", "at", "under"] (spP K (relAbs (n + 1))) := by
  refine fn_pure F scAbs (fun rs r h => by obtain ⟨t, a, u, rfl, _⟩ := h; rfl) fun cdv A outer s H E rs r S H0 hr h => ?_
  have nd := scAbs.nd
  obtain ⟨t, a, u, rfl, hd, rfl⟩ := h
  cases t with
  | var n =>
    by_cases hk : n < u
    · have e0 : (T.var n).abs a u = .var n := if_pos hk
      rw [e0]
      exact (sb_cons (ss_ifT (st_is (b' := true) (st_eqS (se_x0 0) se_str) rfl) rfl (sb_cons (ss_ifT (st_is (b' := true) (st_lt (se_x1 0) (se_v 2)) (decide_eq_true hk)) rfl (sb_cons (ss_ret (se_v 0) rfl))))))
    · by_cases hg : n = a + u
      · have e0 : (T.var n).abs a u = .var u := by unfold T.abs; rw [if_neg hk, if_pos hg]
        rw [e0]
        exact (sb_cons (ss_ifT (st_is (b' := true) (st_eqS (se_x0 0) se_str) rfl) rfl (sb_cons (ss_ifF (st_is (b' := false) (st_lt (se_x1 0) (se_v 2)) (decide_eq_false hk)) rfl (sb_nil (sb_cons (ss_ret (se_ifT (st_is (b' := true) (st_eqI (se_x1 0) (se_add (se_v 1) (se_v 2))) (decide_eq_true hg)) rfl (se_tup (sd_cons se_str (sd_cons (se_v 2) sd_nil)))) rfl)))))))
      · have e0 : (T.var n).abs a u = .var (n + 1) := by unfold T.abs; rw [if_neg hk, if_neg hg]
        rw [e0]
        exact (sb_cons (ss_ifT (st_is (b' := true) (st_eqS (se_x0 0) se_str) rfl) rfl (sb_cons (ss_ifF (st_is (b' := false) (st_lt (se_x1 0) (se_v 2)) (decide_eq_false hk)) rfl (sb_nil (sb_cons (ss_ret (se_ifF (st_is (b' := false) (st_eqI (se_x1 0) (se_add (se_v 1) (se_v 2))) (decide_eq_false hg)) rfl (se_tup (sd_cons se_str (sd_cons (se_add (se_x1 0) se_int) sd_nil)))) rfl)))))))
  | lf l => cases l <;> exact (sb_cons (ss_ifF (st_is (b' := false) (st_eqS (se_x0 0) se_str) rfl) rfl (sb_nil (sb_cons (ss_ifT (st_in (se_x0 0) (se_g (G.leaves _ rfl rfl)) (c := true)) rfl (sb_cons (ss_ret (se_v 0) rfl)))))))
  | pi x b c =>
    have e0 : (T.pi x b c).abs a u = T.pi x (b.abs a (u + 0)) (c.abs a (u + 1)) := by simp [T.abs]
    rw [e0]
    exact (sb_cons (ss_ifF (st_is (b' := false) (st_eqS (se_x0 0) se_str) rfl) rfl (sb_nil (sb_cons (ss_ifF (st_in (se_x0 0) (se_g (G.leaves _ rfl rfl)) (c := false)) rfl (sb_nil (sb_cons (ss_ret (se_call cR hr (by omega) (sa_cons (se_v 0) (sa_cons (se_lc (ow := [("part", 3), ("over", 4)]) rfl nd (blkOk_by (N := ["term", "at", "under", "part", "over"]) (sc := defScope sAbs) (by decide +kernel)) (ct_two rfl nd) (se_l (se_call cP hr (by omega) (sa_cons (se_v 0) sa_nil) ⟨T.pi x b c, rfl, rfl⟩)) (encP_len _) (All2.map (g := fun q : T × Int => enc (q.1.abs a (u + q.2))) fun q hq => ⟨_, rfl, fun s H C' cl fp κ M k => (se_call cA hr (by omega) (sa_cons (se_v 3) (sa_cons (se_v 1) (sa_cons (se_add (se_v 2) (se_v 4)) sa_nil))) ⟨q.1, a, u + q.2, rfl, by have := T.parts_dep hq; omega, rfl⟩)⟩)) sa_nil)) (.inl ⟨x, b, c, _, _, rfl, rfl⟩)) rfl))))))))
  | lam x b c =>
    have e0 : (T.lam x b c).abs a u = T.lam x (b.abs a (u + 0)) (c.abs a (u + 1)) := by simp [T.abs]
    rw [e0]
    exact (sb_cons (ss_ifF (st_is (b' := false) (st_eqS (se_x0 0) se_str) rfl) rfl (sb_nil (sb_cons (ss_ifF (st_in (se_x0 0) (se_g (G.leaves _ rfl rfl)) (c := false)) rfl (sb_nil (sb_cons (ss_ret (se_call cR hr (by omega) (sa_cons (se_v 0) (sa_cons (se_lc (ow := [("part", 3), ("over", 4)]) rfl nd (blkOk_by (N := ["term", "at", "under", "part", "over"]) (sc := defScope sAbs) (by decide +kernel)) (ct_two rfl nd) (se_l (se_call cP hr (by omega) (sa_cons (se_v 0) sa_nil) ⟨T.lam x b c, rfl, rfl⟩)) (encP_len _) (All2.map (g := fun q : T × Int => enc (q.1.abs a (u + q.2))) fun q hq => ⟨_, rfl, fun s H C' cl fp κ M k => (se_call cA hr (by omega) (sa_cons (se_v 3) (sa_cons (se_v 1) (sa_cons (se_add (se_v 2) (se_v 4)) sa_nil))) ⟨q.1, a, u + q.2, rfl, by have := T.parts_dep hq; omega, rfl⟩)⟩)) sa_nil)) (.inr (.inl ⟨x, b, c, _, _, rfl, rfl⟩))) rfl))))))))
  | app b c =>
    have e0 : (T.app b c).abs a u = T.app (b.abs a (u + 0)) (c.abs a (u + 0)) := by simp [T.abs]
    rw [e0]
    exact (sb_cons (ss_ifF (st_is (b' := false) (st_eqS (se_x0 0) se_str) rfl) rfl (sb_nil (sb_cons (ss_ifF (st_in (se_x0 0) (se_g (G.leaves _ rfl rfl)) (c := false)) rfl (sb_nil (sb_cons (ss_ret (se_call cR hr (by omega) (sa_cons (se_v 0) (sa_cons (se_lc (ow := [("part", 3), ("over", 4)]) rfl nd (blkOk_by (N := ["term", "at", "under", "part", "over"]) (sc := defScope sAbs) (by decide +kernel)) (ct_two rfl nd) (se_l (se_call cP hr (by omega) (sa_cons (se_v 0) sa_nil) ⟨T.app b c, rfl, rfl⟩)) (encP_len _) (All2.map (g := fun q : T × Int => enc (q.1.abs a (u + q.2))) fun q hq => ⟨_, rfl, fun s H C' cl fp κ M k => (se_call cA hr (by omega) (sa_cons (se_v 3) (sa_cons (se_v 1) (sa_cons (se_add (se_v 2) (se_v 4)) sa_nil))) ⟨q.1, a, u + q.2, rfl, by have := T.parts_dep hq; omega, rfl⟩)⟩)) sa_nil)) (.inr (.inr (.inl ⟨b, c, _, _, rfl, rfl⟩)))) rfl))))))))
  | lt x b c d =>
    have e0 : (T.lt x b c d).abs a u = T.lt x (b.abs a (u + 0)) (c.abs a (u + 0)) (d.abs a (u + 1)) := by simp [T.abs]
    rw [e0]
    exact (sb_cons (ss_ifF (st_is (b' := false) (st_eqS (se_x0 0) se_str) rfl) rfl (sb_nil (sb_cons (ss_ifF (st_in (se_x0 0) (se_g (G.leaves _ rfl rfl)) (c := false)) rfl (sb_nil (sb_cons (ss_ret (se_call cR hr (by omega) (sa_cons (se_v 0) (sa_cons (se_lc (ow := [("part", 3), ("over", 4)]) rfl nd (blkOk_by (N := ["term", "at", "under", "part", "over"]) (sc := defScope sAbs) (by decide +kernel)) (ct_two rfl nd) (se_l (se_call cP hr (by omega) (sa_cons (se_v 0) sa_nil) ⟨T.lt x b c d, rfl, rfl⟩)) (encP_len _) (All2.map (g := fun q : T × Int => enc (q.1.abs a (u + q.2))) fun q hq => ⟨_, rfl, fun s H C' cl fp κ M k => (se_call cA hr (by omega) (sa_cons (se_v 3) (sa_cons (se_v 1) (sa_cons (se_add (se_v 2) (se_v 4)) sa_nil))) ⟨q.1, a, u + q.2, rfl, by have := T.parts_dep hq; omega, rfl⟩)⟩)) sa_nil)) (.inr (.inr (.inr ⟨x, b, c, d, _, _, _, rfl, rfl⟩)))) rfl))))))))

end
end D

namespace D
open PySem L2 Evl

section
variable {P : Program} {w : World} {K : PySem.W.Frag} {mg : Str → Option Value} {base : Heap} {f : Addr} {fd : FuncData}

def relApplied : List R → R → Prop := fun rs r => ∃ (t : T) (us : List T), (rs = [.d (enc t), .d (.list (us.map enc))] ∨ rs = [.d (enc t), .d (.tuple (us.map enc))]) ∧ r = .d (enc (us.foldl T.app t))
theorem ok_applied (F : Fun K "applied" "applied" sApplied f fd) : FnOk P w K mg base CX0 1 f fd ["head", "args"] (spP K relApplied) := by
  refine fn_pure F scApplied (fun rs r h => by obtain ⟨t, us, rfl | rfl, _⟩ := h <;> rfl) fun cdv A outer s H E rs r S H0 hr h => ?_
  have nd := scApplied.nd
  obtain ⟨t, us, rfl | rfl, rfl⟩ := h
  · refine sb_cons (ss_forL PassesOwn.never rfl (tg_name nd (i := 2)) (se_v 1) (fun i ρ k => ∃ z, ρ = [some (.d (enc ((us.take i).foldl T.app t))), some (.d (.list (us.map enc))), z]) ⟨none, rfl⟩ (fun i d ρ k hd hw => ?_) (fun ρ k hw => ?_))
    · obtain ⟨z, rfl⟩ := hw
      obtain ⟨u, hu, rfl⟩ := map_at hd
      exact ⟨_, rfl, (sb_cons (ss_let 0 nd (se_tup (sd_cons se_str (sd_cons (se_v 0) (sd_cons (se_v 2) sd_nil)))) (sb_nil ⟨_, by rw [foldl_take t hu]; rfl⟩)))⟩
    · obtain ⟨z, rfl⟩ := hw
      rw [take_map]
      exact sb_cons (ss_ret (se_v 0) rfl)
  · refine sb_cons (ss_forT PassesOwn.never rfl (tg_name nd (i := 2)) (se_v 1) (fun i ρ k => ∃ z, ρ = [some (.d (enc ((us.take i).foldl T.app t))), some (.d (.tuple (us.map enc))), z]) ⟨none, rfl⟩ (fun i d ρ k hd hw => ?_) (fun ρ k hw => ?_))
    · obtain ⟨z, rfl⟩ := hw
      obtain ⟨u, hu, rfl⟩ := map_at hd
      exact ⟨_, rfl, (sb_cons (ss_let 0 nd (se_tup (sd_cons se_str (sd_cons (se_v 0) (sd_cons (se_v 2) sd_nil)))) (sb_nil ⟨_, by rw [foldl_take t hu]; rfl⟩)))⟩
    · obtain ⟨z, rfl⟩ := hw
      rw [take_map]
      exact sb_cons (ss_ret (se_v 0) rfl)

def relSpine : List R → R → Prop := fun rs r => ∃ t : T, rs = [.d (enc t)] ∧ t.dep ≤ 1000 ∧ r = .d (.tuple [enc t.hd, .tuple (t.args.map enc)])
theorem ok_spine (G : Glo K mg) (F : Fun K "spine" "spine" sSpine f fd) : FnOk P w K mg base CX0 1 f fd ["term"] (spP K relSpine) := by
  refine fn_pure F scSpine (fun rs r h => by obtain ⟨t, rfl, _⟩ := h; rfl) fun cdv A outer s H E rs r S H0 hr h => ?_
  have nd := scSpine.nd
  obtain ⟨t, rfl, hd, rfl⟩ := h
  refine sb_own (i := 1) nd rfl (Or.inl rfl) sd_nil fun p hp => ?_
  refine sb_cons (ss_while PassesOwn.never (fun m ρ k => ∃ (u : T) (acc : List T), ρ = [some (.d (enc u)), some (.r (.ref p))] ∧ k = ((), acc.map enc) ∧ m = u.dep ∧ t.hd = u.hd ∧ t.args = u.args ++ acc.reverse ∧ acc.length + u.dep ≤ 1000) t.dep ⟨t, [], rfl, rfl, rfl, rfl, by simp, by simpa using hd⟩ ?_)
  rintro m ρ k ⟨u, acc, rfl, rfl, rfl, h1, h2, h3⟩
  by_cases hu : tag u = "app"
  · obtain ⟨b, c, rfl⟩ := T.tag_app.mp hu
    refine .inr ⟨_, (st_is (b' := true) (st_eqS (se_x0 0) se_str) rfl), ?_⟩
    refine sb_cons (ss_expr (se_append (i := 1) hp (se_x2 0) (by simp only [T.dep] at h3; rw [List.length_map]; omega)) (sb_cons (ss_let 0 nd (se_x1 0) (sb_nil ⟨b.dep, by simp only [T.dep]; omega, b, acc ++ [c], rfl, by rw [List.map_append]; rfl, rfl, h1, ?_, ?_⟩))))
    · rw [h2, List.reverse_append]
      show (b.args ++ [c]) ++ acc.reverse = _
      rw [List.append_assoc]
      rfl
    · simp only [T.dep] at h3
      rw [List.length_append, List.length_singleton]
      omega
  · obtain ⟨l, hl⟩ := enc_shape u
    have ha := T.args_not hu
    refine .inl ⟨_, (st_is (b' := false) (st_eqS (se_x0 0 (hr := congrArg (fun d => some (some (R.d d))) hl)) se_str) (decide_eq_false hu)), ?_⟩
    rw [ha.1, List.nil_append] at h2
    rw [ha.2] at h1
    refine sb_cons (ss_ret (se_tup (sd_cons (se_v 0) (sd_cons (se_tupL G.tup (se_l (se_ownRev (se_v 1)))) sd_nil))) ?_)
    show R.d _ = R.d _
    rw [h1, h2, List.map_reverse]
def relSize : List R → R → Prop := fun rs r => ∃ t : T, rs = [.d (enc t)] ∧ t.size ≤ 50000 ∧ r = .d (.int t.size)
theorem ok_size (F : Fun K "size_of" "size_of" sSizeOf f fd) (cP : Cl P w K mg base 1 "parts_of" [] relParts) : FnOk P w K mg base CX0 2 f fd ["term"] (spP K relSize) := by
  refine fn_pure F scSizeOf (fun rs r h => by obtain ⟨t, rfl, _⟩ := h; rfl) fun cdv A outer s H E rs r S H0 hr h => ?_
  have nd := scSizeOf.nd
  obtain ⟨t, rfl, hd, rfl⟩ := h
  refine sb_ownPar 1 2 rfl nd (sd_cons (se_v 0) sd_nil) (fun _ _ _ => se_int) fun p hp => ?_
  refine sb_cons (ss_while PassesOwn.never (fun m ρ k => ∃ (ts : List T) (n : Int) (z1 z2 z3 : Option R), ρ = [some (.d (enc t)), some (.r (.ref p)), some (.d (.int n)), z1, z2, z3] ∧ k = ((), ts.map enc) ∧ n + T.sizes ts = t.size ∧ 0 ≤ n ∧ m = (T.sizes ts).toNat) (T.sizes [t]).toNat ⟨[t], 0, none, none, none, rfl, rfl, by simp [T.sizes], by omega, rfl⟩ ?_)
  rintro m ρ k ⟨ts, n, z1, z2, z3, rfl, rfl, h1, h2, rfl⟩
  have hlen := T.sizes_len ts
  rcases List.eq_nil_or_concat ts with rfl | ⟨us, u, rfl⟩
  · refine .inl ⟨_, st_own (i := 1), ?_⟩
    have : n = t.size := by simpa [T.sizes] using h1
    rw [← this]
    exact sb_cons (ss_ret (r := .d (.int n)) (se_v 2) rfl)
  · rw [List.concat_eq_append] at *
    have hs : T.sizes (us ++ [u]) = T.sizes us + u.size := by rw [T.sizes_app]; simp [T.sizes]
    have hp1 := T.size_parts u
    have hl2 := T.sizes_len us
    have hl3 := T.sizes_len (u.parts.map (·.1))
    have hu := T.size_pos u
    refine .inr ⟨_, st_is (b' := true) (st_own (i := 1)) (by rw [List.map_append]; cases us <;> rfl), ?_⟩
    rw [List.map_append]
    refine sb_cons (ss_let 3 nd (se_pop (i := 1) hp) (sb_cons (ss_augI 2 nd se_int (sb_cons (ss_ext (i := 1) hp nd (se_lc (ow := [("part", 4), ("over", 5)]) rfl nd (blkOk_by (N := ["term", "todo", "many", "here", "part", "over"]) (sc := defScope sSizeOf) (by decide +kernel)) (ct_two rfl nd) (se_l (se_call cP hr (by omega) (sa_cons (se_v 3) sa_nil) ⟨u, rfl, rfl⟩)) (encP_len _) (All2.mapm (g := fun q : T × Int => q.1) (h := enc) fun q hq => ⟨_, rfl, fun s H C' cl fp κ M k => (se_v 4)⟩)) ?_ (sb_nil ⟨_, ?_, us ++ u.parts.map (·.1), n + 1, _, _, _, rfl, by rw [List.map_append], ?_, by omega, rfl⟩))))))
    · rw [List.length_map, List.length_map]
      rw [hs] at h1
      omega
    · rw [T.sizes_app]
      omega
    · rw [T.sizes_app]
      omega
def relPartAt : List R → R → Prop := fun rs r => ∃ (t : T) (path : List Int), rs = [.d (enc t), .d (.tuple (path.map .int))] ∧ (∀ i ∈ path, 0 ≤ i) ∧ r = .d (opt (t.sub path))
theorem ok_partAt (G : Glo K mg) (F : Fun K "part_at" "part_at" sPartAt f fd) (cP : Cl P w K mg base 1 "parts_of" [] relParts) : FnOk P w K mg base CX0 2 f fd ["term", "path"] (spP K relPartAt) := by
  refine fn_pure F scPartAt (fun rs r h => by obtain ⟨t, path, rfl, _⟩ := h; rfl) fun cdv A outer s H E rs r S H0 hr h => ?_
  have nd := scPartAt.nd
  obtain ⟨t, path, rfl, hpos, rfl⟩ := h
  refine sb_cons (ss_forT PassesOwn.never rfl (tg_name nd (i := 2)) (se_v 1) (fun i ρ k => ∃ (u : T) (z1 z2 z3 z4 : Option R), ρ = [some (.d (enc u)), some (.d (.tuple (path.map .int))), z1, z2, z3, z4] ∧ t.sub path = u.sub (path.drop i)) ⟨t, none, none, none, none, rfl, rfl⟩ (fun i d ρ k hd hw => ?_) (fun ρ k hw => ?_))
  · obtain ⟨u, z1, z2, z3, z4, rfl, he⟩ := hw
    rw [List.getElem?_map] at hd
    obtain ⟨j, hj, rfl⟩ := Option.map_eq_some_iff.mp hd
    have hj0 : 0 ≤ j := hpos j (List.mem_of_getElem? hj)
    have hdrop : path.drop i = j :: path.drop (i + 1) := by
      obtain ⟨hlt, e⟩ := List.getElem?_eq_some_iff.mp hj
      rw [List.drop_eq_getElem_cons hlt, e]
    rw [hdrop] at he
    refine ⟨_, rfl, ?_⟩
    refine sb_cons (ss_lc 3 (ow := [("part", 4), ("over", 5)]) rfl nd (blkOk_by (N := ["term", "path", "at", "parts", "part", "over"]) (sc := defScope sPartAt) (by decide +kernel)) (ct_two rfl nd) (se_l (se_call cP hr (by omega) (sa_cons (se_v 0) sa_nil) ⟨u, rfl, rfl⟩)) (encP_len _) (All2.mapm (g := fun q : T × Int => q.1) (h := enc) fun q hq => ⟨_, rfl, fun s H C' cl fp κ M k => (se_v 4)⟩) ?_ (sw_true rfl rfl rfl (by decide +kernel)))
    cases hq : u.parts[j.toNat]? with
    | none =>
      have he' : t.sub path = none := by rw [he]; show (match u.parts[j.toNat]? with | some q => _ | none => none) = none; rw [hq]
      have hge : ((u.parts.map (·.1)).map enc).length ≤ j.toNat := by
        rw [List.length_map, List.length_map]
        exact List.getElem?_eq_none_iff.mp hq
      refine sb_cons (ss_ifT (st_is (b' := true) (st_ge (se_v 2) (se_lenL G.len (se_l (se_v 3)))) (decide_eq_true (by omega))) rfl (sb_cons (ss_ret se_non ?_)))
      rw [he']
      rfl
    | some q =>
      have he' : t.sub path = q.1.sub (path.drop (i + 1)) := by rw [he]; show (match u.parts[j.toNat]? with | some q => _ | none => none) = _; rw [hq]
      have hlt : j.toNat < ((u.parts.map (·.1)).map enc).length := by
        rw [List.length_map, List.length_map]
        exact (List.getElem?_eq_some_iff.mp hq).1
      have hat : atI ((u.parts.map (·.1)).map enc) j = some (enc q.1) := by
        have e : j = ((j.toNat : Nat) : Int) := by omega
        rw [e]
        exact atI_nat (by rw [List.getElem?_map, List.getElem?_map, hq]; rfl)
      exact sb_cons (ss_ifF (st_is (b' := false) (st_ge (se_v 2) (se_lenL G.len (se_l (se_v 3)))) (decide_eq_false (by omega))) rfl (sb_nil (sb_cons (ss_let 0 nd (se_ixL (se_l (se_v 3)) (se_v 2) hat) (sb_nil ⟨q.1, _, _, _, _, rfl, he'⟩)))))
  · obtain ⟨u, z1, z2, z3, z4, rfl, he⟩ := hw
    rw [List.length_map, List.drop_length] at he
    refine sb_cons (ss_ret (se_v 0) ?_)
    rw [he]
    rfl
end
end D

namespace D
open PySem L2 Evl

abbrev sWhole : Stmt := top 12
theorem scWhole : FnScope ["shape"] ["shape"] (defScope sWhole) := ⟨rfl, rfl, rfl, by decide +kernel, rfl, by decide +kernel, by decide +kernel⟩
abbrev sLevel : Stmt := top 13
theorem scLevel : FnScope ["shape"] ["shape"] (defScope sLevel) := ⟨rfl, rfl, rfl, by decide +kernel, rfl, by decide +kernel, by decide +kernel⟩
abbrev sIsName : Stmt := top 14
theorem scIsName : FnScope ["shape", "sign"] ["shape"] (defScope sIsName) := ⟨rfl, rfl, rfl, by decide +kernel, rfl, by decide +kernel, by decide +kernel⟩
abbrev sHint : Stmt := top 15
theorem scHint : FnScope ["shape"] ["shape"] (defScope sHint) := ⟨rfl, rfl, rfl, by decide +kernel, rfl, by decide +kernel, by decide +kernel⟩
abbrev sLeaf : Stmt := top 17
theorem scLeaf : FnScope ["shape"] ["shape"] (defScope sLeaf) := ⟨rfl, rfl, rfl, by decide +kernel, rfl, by decide +kernel, by decide +kernel⟩
abbrev sIsTerm : Stmt := top 18
theorem scIsTerm : FnScope ["shape", "free", "todo", "many", "here", "under", "deep"] ["shape", "free"] (defScope sIsTerm) := ⟨rfl, rfl, rfl, by decide +kernel, rfl, by decide +kernel, by decide +kernel⟩
section
variable {P : Program} {w : World} {K : PySem.W.Frag} {mg : Str → Option Value} {base : Heap} {f : Addr} {fd : FuncData}

def relWhole : List R → R → Prop := fun rs r => ∃ i : Int, rs = [.d (.int i)] ∧ 0 ≤ i ∧ r = .d (.bool true)
theorem ok_whole (G : Glo K mg) (F : Fun K "is_whole" "is_whole" sWhole f fd) : FnOk P w K mg base CX0 1 f fd ["shape"] (spP K relWhole) := by
  refine fn_pure F scWhole (fun rs r h => by obtain ⟨t, rfl, _⟩ := h; rfl) fun cdv A outer s H E rs r S H0 hr h => ?_
  have nd := scWhole.nd
  obtain ⟨i, rfl, hi, rfl⟩ := h
  exact sb_cons (ss_ret (se_andT (se_isi2 (tn := "int") (T := "int") (c := true) G.isi G.int (by decide +kernel) (by decide +kernel) (se_v 0)) (se_andT (se_not (se_isi2 (tn := "int") (T := "bool") (c := false) G.isi G.bool (by decide +kernel) (by decide +kernel) (se_v 0))) (se_one (se_is (se_ge (se_v 0) se_int) (congrArg PyData.bool (decide_eq_true hi)))))) rfl)
def relLevel : List R → R → Prop := fun rs r => ∃ i : Int, rs = [.d (.int i)] ∧ 0 ≤ i ∧ i ≤ 999999 ∧ r = .d (.bool true)
theorem ok_level (G : Glo2 K mg) (F : Fun K "is_level" "is_level" sLevel f fd) (cW : Cl P w K mg base 1 "is_whole" [] relWhole) : FnOk P w K mg base CX0 2 f fd ["shape"] (spP K relLevel) := by
  refine fn_pure F scLevel (fun rs r h => by obtain ⟨t, rfl, _⟩ := h; rfl) fun cdv A outer s H E rs r S H0 hr h => ?_
  have nd := scLevel.nd
  obtain ⟨i, rfl, hi, hj, rfl⟩ := h
  exact sb_cons (ss_ret (se_andT (se_call cW hr (by omega) (sa1 (se_v 0)) ⟨i, rfl, hi, rfl⟩) (se_one (se_is (se_le (se_v 0) (se_g (G.level _ rfl rfl))) (congrArg PyData.bool (decide_eq_true hj))))) rfl)
def isNm (x : Str) : Prop := x = "x" ∨ x = "a" ∨ x = "nat" ∨ x = "b"
def relName : List R → R → Prop := fun rs r => ∃ x : Str, rs = [.d (.str x)] ∧ isNm x ∧ r = .d (.bool true)

theorem ok_name (G : Glo K mg) (G2 : Glo2 K mg) (F : Fun K "is_name" "is_name" sIsName f fd) : FnOk P w K mg base CX0 1 f fd ["shape"] (spP K relName) := by
  refine fn_pure F scIsName (fun rs r h => by obtain ⟨t, rfl, _⟩ := h; rfl) fun cdv A outer s H E rs r S H0 hr h => ?_
  have nd := scIsName.nd
  obtain ⟨x, rfl, hx, rfl⟩ := h
  rcases hx with rfl | rfl | rfl | rfl
  · refine sb_cons (ss_ifF (SW.st (sw_orF (st_is (st_not (st_is (b' := true) (st_val (se_isi2 (tn := "str") (T := "str") (c := true) G.isi G.str (by decide +kernel) (by decide +kernel) (se_v 0))) rfl)) rfl) (sw_orF (st_is (st_not (st_is (b' := true) (st_chain se_int (se_lenS (x := "x") (by decide +kernel) G.len (se_v 0)) se_int (by decide +kernel)) (by decide +kernel))) rfl) (sw_orF (st_notInS (c := false) (se_ixS (x := "x") (c := 120) (se_v 0) se_int (by decide +kernel) (by decide +kernel)) (se_g (G2.letters _ rfl rfl)) (by decide +kernel)) (sw_or1 (st_in (c := false) (se_v 0) (se_g (G2.words _ rfl rfl)))))))) rfl (sb_nil ?_))
    refine sb_cons (ss_ret (se_is (se_all (bs := [true]) rfl G.all (se_l (se_lcS (ow := [("sign", 1)]) rfl nd (blkOk_by (N := ["shape", "sign"]) (sc := defScope sIsName) (by decide +kernel)) (ct_one nd) (se_v 0) (by decide +kernel) ?_))) rfl) rfl)
    have e0 : ((("x" : Str).cps.toList).map sgn) = [120].map sgn := congrArg (List.map sgn) (by decide +kernel)
    rw [e0]
    exact (All2.cons ⟨_, rfl, fun s H C' cl fp κ M k => se_inS (se_v 1) (se_g (G2.more _ rfl rfl)) (by decide +kernel)⟩ All2.nil)
  · refine sb_cons (ss_ifF (SW.st (sw_orF (st_is (st_not (st_is (b' := true) (st_val (se_isi2 (tn := "str") (T := "str") (c := true) G.isi G.str (by decide +kernel) (by decide +kernel) (se_v 0))) rfl)) rfl) (sw_orF (st_is (st_not (st_is (b' := true) (st_chain se_int (se_lenS (x := "a") (by decide +kernel) G.len (se_v 0)) se_int (by decide +kernel)) (by decide +kernel))) rfl) (sw_orF (st_notInS (c := false) (se_ixS (x := "a") (c := 97) (se_v 0) se_int (by decide +kernel) (by decide +kernel)) (se_g (G2.letters _ rfl rfl)) (by decide +kernel)) (sw_or1 (st_in (c := false) (se_v 0) (se_g (G2.words _ rfl rfl)))))))) rfl (sb_nil ?_))
    refine sb_cons (ss_ret (se_is (se_all (bs := [true]) rfl G.all (se_l (se_lcS (ow := [("sign", 1)]) rfl nd (blkOk_by (N := ["shape", "sign"]) (sc := defScope sIsName) (by decide +kernel)) (ct_one nd) (se_v 0) (by decide +kernel) ?_))) rfl) rfl)
    have e0 : ((("a" : Str).cps.toList).map sgn) = [97].map sgn := congrArg (List.map sgn) (by decide +kernel)
    rw [e0]
    exact (All2.cons ⟨_, rfl, fun s H C' cl fp κ M k => se_inS (se_v 1) (se_g (G2.more _ rfl rfl)) (by decide +kernel)⟩ All2.nil)
  · refine sb_cons (ss_ifF (SW.st (sw_orF (st_is (st_not (st_is (b' := true) (st_val (se_isi2 (tn := "str") (T := "str") (c := true) G.isi G.str (by decide +kernel) (by decide +kernel) (se_v 0))) rfl)) rfl) (sw_orF (st_is (st_not (st_is (b' := true) (st_chain se_int (se_lenS (x := "nat") (by decide +kernel) G.len (se_v 0)) se_int (by decide +kernel)) (by decide +kernel))) rfl) (sw_orF (st_notInS (c := false) (se_ixS (x := "nat") (c := 110) (se_v 0) se_int (by decide +kernel) (by decide +kernel)) (se_g (G2.letters _ rfl rfl)) (by decide +kernel)) (sw_or1 (st_in (c := false) (se_v 0) (se_g (G2.words _ rfl rfl)))))))) rfl (sb_nil ?_))
    refine sb_cons (ss_ret (se_is (se_all (bs := [true, true, true]) rfl G.all (se_l (se_lcS (ow := [("sign", 1)]) rfl nd (blkOk_by (N := ["shape", "sign"]) (sc := defScope sIsName) (by decide +kernel)) (ct_one nd) (se_v 0) (by decide +kernel) ?_))) rfl) rfl)
    have e0 : ((("nat" : Str).cps.toList).map sgn) = [110, 97, 116].map sgn := congrArg (List.map sgn) (by decide +kernel)
    rw [e0]
    exact (All2.cons ⟨_, rfl, fun s H C' cl fp κ M k => se_inS (se_v 1) (se_g (G2.more _ rfl rfl)) (by decide +kernel)⟩ (All2.cons ⟨_, rfl, fun s H C' cl fp κ M k => se_inS (se_v 1) (se_g (G2.more _ rfl rfl)) (by decide +kernel)⟩ (All2.cons ⟨_, rfl, fun s H C' cl fp κ M k => se_inS (se_v 1) (se_g (G2.more _ rfl rfl)) (by decide +kernel)⟩ All2.nil)))
  · refine sb_cons (ss_ifF (SW.st (sw_orF (st_is (st_not (st_is (b' := true) (st_val (se_isi2 (tn := "str") (T := "str") (c := true) G.isi G.str (by decide +kernel) (by decide +kernel) (se_v 0))) rfl)) rfl) (sw_orF (st_is (st_not (st_is (b' := true) (st_chain se_int (se_lenS (x := "b") (by decide +kernel) G.len (se_v 0)) se_int (by decide +kernel)) (by decide +kernel))) rfl) (sw_orF (st_notInS (c := false) (se_ixS (x := "b") (c := 98) (se_v 0) se_int (by decide +kernel) (by decide +kernel)) (se_g (G2.letters _ rfl rfl)) (by decide +kernel)) (sw_or1 (st_in (c := false) (se_v 0) (se_g (G2.words _ rfl rfl)))))))) rfl (sb_nil ?_))
    refine sb_cons (ss_ret (se_is (se_all (bs := [true]) rfl G.all (se_l (se_lcS (ow := [("sign", 1)]) rfl nd (blkOk_by (N := ["shape", "sign"]) (sc := defScope sIsName) (by decide +kernel)) (ct_one nd) (se_v 0) (by decide +kernel) ?_))) rfl) rfl)
    have e0 : ((("b" : Str).cps.toList).map sgn) = [98].map sgn := congrArg (List.map sgn) (by decide +kernel)
    rw [e0]
    exact (All2.cons ⟨_, rfl, fun s H C' cl fp κ M k => se_inS (se_v 1) (se_g (G2.more _ rfl rfl)) (by decide +kernel)⟩ All2.nil)
def relHint : List R → R → Prop := fun rs r => ∃ x : Str, rs = [.d (.str x)] ∧ nmOk x = true ∧ r = .d (.bool true)
theorem ok_hint (F : Fun K "is_hint" "is_hint" sHint f fd) (cN : Cl P w K mg base 1 "is_name" [] relName) : FnOk P w K mg base CX0 2 f fd ["shape"] (spP K relHint) := by
  refine fn_pure F scHint (fun rs r h => by obtain ⟨t, rfl, _⟩ := h; rfl) fun cdv A outer s H E rs r S H0 hr h => ?_
  have nd := scHint.nd
  obtain ⟨x, rfl, hx, rfl⟩ := h
  have hx' : x = "x" ∨ x = "_" ∨ x = "a" := by unfold nmOk at hx; simpa only [Bool.or_eq_true, decide_eq_true_eq] using hx
  rcases hx' with rfl | rfl | rfl
  · exact sb_cons (ss_ret (se_orF (se_is (se_eqS (se_v 0) se_str) (congrArg PyData.bool (by decide +kernel))) (se_one (se_call cN hr (by omega) (sa1 (se_v 0)) ⟨_, rfl, .inl rfl, rfl⟩))) rfl)
  · exact sb_cons (ss_ret (se_orT (se_is (se_eqS (se_v 0) se_str) (congrArg PyData.bool (by decide +kernel)))) rfl)
  · exact sb_cons (ss_ret (se_orF (se_is (se_eqS (se_v 0) se_str) (congrArg PyData.bool (by decide +kernel))) (se_one (se_call cN hr (by omega) (sa1 (se_v 0)) ⟨_, rfl, .inr (.inl rfl), rfl⟩))) rfl)
end
end D

namespace D
open PySem L2 Evl

section
variable {κ : Type} {M : Mem κ} {X : Cx} {ρ : Rho} {k k1 : κ} {pos : Pos}
theorem ss_asg3 {tg e : Expr} {i j l : Nat} {a b c : PyData} {P : Pst κ} (ht : TGt M X tg (f3 i j l)) (he : SE M X e ρ k (.d (.tuple [a, b, c])) k1) (hq : P.nx (((ρ.set i (some (.d a))).set j (some (.d b))).set l (some (.d c))) k1) (hs : swapsWithSole [tg] e pos.line X.env = pure false := by rfl) (hw : swappedStores [tg] e X.env = pure none := by rfl)
    (h1 : (assignEach [tg] X.env).map (·.2) = [assign tg X.env] := by rfl) : SS M X (.Assign [tg] e pos) ρ k P := ss_asg ht he hq rfl hs hw h1
theorem ss_asg2 {tg e : Expr} {i j : Nat} {a b : PyData} {P : Pst κ} (ht : TGt M X tg (f2 i j)) (he : SE M X e ρ k (.d (.tuple [a, b])) k1) (hq : P.nx ((ρ.set i (some (.d a))).set j (some (.d b))) k1) (hs : swapsWithSole [tg] e pos.line X.env = pure false := by rfl) (hw : swappedStores [tg] e X.env = pure none := by rfl)
    (h1 : (assignEach [tg] X.env).map (·.2) = [assign tg X.env] := by rfl) : SS M X (.Assign [tg] e pos) ρ k P := ss_asg ht he hq rfl hs hw h1
end

section
variable {P : Program} {w : World} {K : PySem.W.Frag} {mg : Str → Option Value} {base : Heap} {f : Addr} {fd : FuncData}

def relLeaf : List R → R → Prop := fun rs r => ∃ (t : T) (u : Int), rs = [.d (enc t)] ∧ t.wf u = true ∧ r = .d (.bool t.isLeaf)
theorem ok_leaf (G : Glo K mg) (F : Fun K "is_leaf" "is_leaf" sLeaf f fd) (cW : Cl P w K mg base 1 "is_whole" [] relWhole) (cV : Cl P w K mg base 2 "is_level" [] relLevel) (cN : Cl P w K mg base 1 "is_name" [] relName) :
    FnOk P w K mg base CX0 3 f fd ["shape"] (spP K relLeaf) := by
  refine fn_pure F scLeaf (fun rs r h => by obtain ⟨t, u, rfl, _⟩ := h; rfl) fun cdv A outer s H E rs r S H0 hr h => ?_
  have nd := scLeaf.nd
  obtain ⟨t, u, rfl, hw, rfl⟩ := h
  cases t with
  | var k =>
    simp only [T.wf, Bool.and_eq_true, decide_eq_true_eq] at hw
    exact (sb_cons (ss_ifF (SW.st (sw_orF (st_is (st_not (st_is (b' := true) (st_val (se_isi2 (tn := "tuple") (T := "tuple") (c := true) G.isi G.tup (by decide +kernel) (by decide +kernel) (se_v 0))) rfl)) rfl) (sw_or1 (st_notIn (se_is (y := .int 2) (se_lenT G.len (se_v 0)) rfl) (se_tup (sd_cons se_int (sd_cons se_int sd_nil))) (c := false))))) rfl (sb_nil (sb_cons (ss_ifT (st_is (b' := true) (st_eqS (se_x0 0) se_str) rfl) rfl (sb_cons (ss_ret (se_andT (se_is (y := .bool true) (se_eqI (se_is (y := .int 2) (se_lenT G.len (se_v 0)) rfl) se_int) rfl) (se_one (se_call cW hr (by omega) (sa_cons (se_x1 0) sa_nil) ⟨k, rfl, hw.1, rfl⟩))) rfl)))))))
  | lf l =>
    cases l with
    | sort n =>
      simp only [T.wf, decide_eq_true_eq] at hw
      exact (sb_cons (ss_ifF (SW.st (sw_orF (st_is (st_not (st_is (b' := true) (st_val (se_isi2 (tn := "tuple") (T := "tuple") (c := true) G.isi G.tup (by decide +kernel) (by decide +kernel) (se_v 0))) rfl)) rfl) (sw_or1 (st_notIn (se_is (y := .int 2) (se_lenT G.len (se_v 0)) rfl) (se_tup (sd_cons se_int (sd_cons se_int sd_nil))) (c := false))))) rfl (sb_nil (sb_cons (ss_ifF (st_is (b' := false) (st_eqS (se_x0 0) se_str) rfl) rfl (sb_nil (sb_cons (ss_ifT (st_is (b' := true) (st_eqS (se_x0 0) se_str) rfl) rfl (sb_cons (ss_ret (se_andT (se_is (y := .bool true) (se_eqI (se_is (y := .int 2) (se_lenT G.len (se_v 0)) rfl) se_int) rfl) (se_one (se_call cV hr (by omega) (sa_cons (se_x1 0) sa_nil) ⟨n, rfl, by omega, by omega, rfl⟩))) rfl))))))))))
    | ca => exact (sb_cons (ss_ifF (SW.st (sw_orF (st_is (st_not (st_is (b' := true) (st_val (se_isi2 (tn := "tuple") (T := "tuple") (c := true) G.isi G.tup (by decide +kernel) (by decide +kernel) (se_v 0))) rfl)) rfl) (sw_or1 (st_notIn (se_is (y := .int 2) (se_lenT G.len (se_v 0)) rfl) (se_tup (sd_cons se_int (sd_cons se_int sd_nil))) (c := false))))) rfl (sb_nil (sb_cons (ss_ifF (st_is (b' := false) (st_eqS (se_x0 0) se_str) rfl) rfl (sb_nil (sb_cons (ss_ifF (st_is (b' := false) (st_eqS (se_x0 0) se_str) rfl) rfl (sb_nil (sb_cons (ss_ifT (st_in (se_x0 0) (se_tup (sd_cons se_str (sd_cons se_str sd_nil))) (c := true)) rfl (sb_cons (ss_ret (se_andT (se_is (y := .bool true) (se_eqI (se_is (y := .int 2) (se_lenT G.len (se_v 0)) rfl) se_int) rfl) (se_one (se_call cN hr (by omega) (sa_cons (se_x1 0) sa_nil) ⟨_, rfl, .inr (.inl rfl), rfl⟩))) rfl)))))))))))))
    | cb => exact (sb_cons (ss_ifF (SW.st (sw_orF (st_is (st_not (st_is (b' := true) (st_val (se_isi2 (tn := "tuple") (T := "tuple") (c := true) G.isi G.tup (by decide +kernel) (by decide +kernel) (se_v 0))) rfl)) rfl) (sw_or1 (st_notIn (se_is (y := .int 2) (se_lenT G.len (se_v 0)) rfl) (se_tup (sd_cons se_int (sd_cons se_int sd_nil))) (c := false))))) rfl (sb_nil (sb_cons (ss_ifF (st_is (b' := false) (st_eqS (se_x0 0) se_str) rfl) rfl (sb_nil (sb_cons (ss_ifF (st_is (b' := false) (st_eqS (se_x0 0) se_str) rfl) rfl (sb_nil (sb_cons (ss_ifT (st_in (se_x0 0) (se_tup (sd_cons se_str (sd_cons se_str sd_nil))) (c := true)) rfl (sb_cons (ss_ret (se_andT (se_is (y := .bool true) (se_eqI (se_is (y := .int 2) (se_lenT G.len (se_v 0)) rfl) se_int) rfl) (se_one (se_call cN hr (by omega) (sa_cons (se_x1 0) sa_nil) ⟨_, rfl, .inr (.inr (.inr rfl)), rfl⟩))) rfl)))))))))))))
    | nat => exact (sb_cons (ss_ifF (SW.st (sw_orF (st_is (st_not (st_is (b' := true) (st_val (se_isi2 (tn := "tuple") (T := "tuple") (c := true) G.isi G.tup (by decide +kernel) (by decide +kernel) (se_v 0))) rfl)) rfl) (sw_or1 (st_notIn (se_is (y := .int 2) (se_lenT G.len (se_v 0)) rfl) (se_tup (sd_cons se_int (sd_cons se_int sd_nil))) (c := false))))) rfl (sb_nil (sb_cons (ss_ifF (st_is (b' := false) (st_eqS (se_x0 0) se_str) rfl) rfl (sb_nil (sb_cons (ss_ifF (st_is (b' := false) (st_eqS (se_x0 0) se_str) rfl) rfl (sb_nil (sb_cons (ss_ifT (st_in (se_x0 0) (se_tup (sd_cons se_str (sd_cons se_str sd_nil))) (c := true)) rfl (sb_cons (ss_ret (se_andT (se_is (y := .bool true) (se_eqI (se_is (y := .int 2) (se_lenT G.len (se_v 0)) rfl) se_int) rfl) (se_one (se_call cN hr (by omega) (sa_cons (se_x1 0) sa_nil) ⟨_, rfl, .inr (.inr (.inl rfl)), rfl⟩))) rfl)))))))))))))
    | mk => exact (sb_cons (ss_ifF (SW.st (sw_orF (st_is (st_not (st_is (b' := true) (st_val (se_isi2 (tn := "tuple") (T := "tuple") (c := true) G.isi G.tup (by decide +kernel) (by decide +kernel) (se_v 0))) rfl)) rfl) (sw_or1 (st_notIn (se_is (y := .int 3) (se_lenT G.len (se_v 0)) rfl) (se_tup (sd_cons se_int (sd_cons se_int sd_nil))) (c := false))))) rfl (sb_nil (sb_cons (ss_ifF (st_is (b' := false) (st_eqS (se_x0 0) se_str) rfl) rfl (sb_nil (sb_cons (ss_ifF (st_is (b' := false) (st_eqS (se_x0 0) se_str) rfl) rfl (sb_nil (sb_cons (ss_ifF (st_in (se_x0 0) (se_tup (sd_cons se_str (sd_cons se_str sd_nil))) (c := false)) rfl (sb_nil (sb_cons (ss_ifT (st_is (b' := true) (st_eqS (se_x0 0) se_str) rfl) rfl (sb_cons (ss_ret (se_andT (se_is (y := .bool true) (se_eqI (se_is (y := .int 3) (se_lenT G.len (se_v 0)) rfl) se_int) rfl) (se_andT (se_call cN hr (by omega) (sa_cons (se_x1 0) sa_nil) ⟨_, rfl, .inr (.inr (.inl rfl)), rfl⟩) (se_one (se_call cW hr (by omega) (sa_cons (se_x2 0) sa_nil) ⟨_, rfl, by decide, rfl⟩)))) rfl))))))))))))))))
    | el => exact (sb_cons (ss_ifF (SW.st (sw_orF (st_is (st_not (st_is (b' := true) (st_val (se_isi2 (tn := "tuple") (T := "tuple") (c := true) G.isi G.tup (by decide +kernel) (by decide +kernel) (se_v 0))) rfl)) rfl) (sw_or1 (st_notIn (se_is (y := .int 3) (se_lenT G.len (se_v 0)) rfl) (se_tup (sd_cons se_int (sd_cons se_int sd_nil))) (c := false))))) rfl (sb_nil (sb_cons (ss_ifF (st_is (b' := false) (st_eqS (se_x0 0) se_str) rfl) rfl (sb_nil (sb_cons (ss_ifF (st_is (b' := false) (st_eqS (se_x0 0) se_str) rfl) rfl (sb_nil (sb_cons (ss_ifF (st_in (se_x0 0) (se_tup (sd_cons se_str (sd_cons se_str sd_nil))) (c := false)) rfl (sb_nil (sb_cons (ss_ifF (st_is (b' := false) (st_eqS (se_x0 0) se_str) rfl) rfl (sb_nil (sb_cons (ss_ret (se_andT (se_is (y := .bool true) (se_eqS (se_x0 0) se_str) rfl) (se_andT (se_is (y := .bool true) (se_eqI (se_is (y := .int 3) (se_lenT G.len (se_v 0)) rfl) se_int) rfl) (se_andT (se_call cN hr (by omega) (sa_cons (se_x1 0) sa_nil) ⟨_, rfl, .inr (.inr (.inl rfl)), rfl⟩) (se_one (se_call cV hr (by omega) (sa_cons (se_x2 0) sa_nil) ⟨_, rfl, by decide, by decide, rfl⟩))))) rfl)))))))))))))))))
  | app a b => exact (sb_cons (ss_ifF (SW.st (sw_orF (st_is (st_not (st_is (b' := true) (st_val (se_isi2 (tn := "tuple") (T := "tuple") (c := true) G.isi G.tup (by decide +kernel) (by decide +kernel) (se_v 0))) rfl)) rfl) (sw_or1 (st_notIn (se_is (y := .int 3) (se_lenT G.len (se_v 0)) rfl) (se_tup (sd_cons se_int (sd_cons se_int sd_nil))) (c := false))))) rfl (sb_nil (sb_cons (ss_ifF (st_is (b' := false) (st_eqS (se_x0 0) se_str) rfl) rfl (sb_nil (sb_cons (ss_ifF (st_is (b' := false) (st_eqS (se_x0 0) se_str) rfl) rfl (sb_nil (sb_cons (ss_ifF (st_in (se_x0 0) (se_tup (sd_cons se_str (sd_cons se_str sd_nil))) (c := false)) rfl (sb_nil (sb_cons (ss_ifF (st_is (b' := false) (st_eqS (se_x0 0) se_str) rfl) rfl (sb_nil (sb_cons (ss_ret (se_andF (se_is (y := .bool false) (se_eqS (se_x0 0) se_str) rfl)) rfl)))))))))))))))))
  | pi x a b => exact (sb_cons (ss_ifT (SW.st (sw_orF (st_is (st_not (st_is (b' := true) (st_val (se_isi2 (tn := "tuple") (T := "tuple") (c := true) G.isi G.tup (by decide +kernel) (by decide +kernel) (se_v 0))) rfl)) rfl) (sw_or1 (st_notIn (se_is (y := .int 4) (se_lenT G.len (se_v 0)) rfl) (se_tup (sd_cons se_int (sd_cons se_int sd_nil))) (c := true))))) rfl (sb_cons (ss_ret se_bl rfl))))
  | lam x a b => exact (sb_cons (ss_ifT (SW.st (sw_orF (st_is (st_not (st_is (b' := true) (st_val (se_isi2 (tn := "tuple") (T := "tuple") (c := true) G.isi G.tup (by decide +kernel) (by decide +kernel) (se_v 0))) rfl)) rfl) (sw_or1 (st_notIn (se_is (y := .int 4) (se_lenT G.len (se_v 0)) rfl) (se_tup (sd_cons se_int (sd_cons se_int sd_nil))) (c := true))))) rfl (sb_cons (ss_ret se_bl rfl))))
  | lt x a v b => exact (sb_cons (ss_ifT (SW.st (sw_orF (st_is (st_not (st_is (b' := true) (st_val (se_isi2 (tn := "tuple") (T := "tuple") (c := true) G.isi G.tup (by decide +kernel) (by decide +kernel) (se_v 0))) rfl)) rfl) (sw_or1 (st_notIn (se_is (y := .int 5) (se_lenT G.len (se_v 0)) rfl) (se_tup (sd_cons se_int (sd_cons se_int sd_nil))) (c := true))))) rfl (sb_cons (ss_ret se_bl rfl))))
def relIsTerm : List R → R → Prop := fun rs r => ∃ (t : T) (u : Int), rs = [.d (enc t), .d (.int u)] ∧ t.wf u = true ∧ t.dep ≤ 100 ∧ t.size ≤ 10000 ∧ r = .d (.bool true)
def szs (qs : List (T × Int × Int)) : Int := T.sizes (qs.map (·.1))
theorem szs_app (qs ps : List (T × Int × Int)) : szs (qs ++ ps) = szs qs + szs ps := by unfold szs; rw [List.map_append, T.sizes_app]
def okQ (q : T × Int × Int) : Prop := q.1.wf q.2.1 = true ∧ q.2.2 + q.1.dep ≤ 120
theorem ok_isTerm (G : Glo K mg) (G2 : Glo2 K mg) (F : Fun K "is_term" "is_term" sIsTerm f fd) (cL : Cl P w K mg base 3 "is_leaf" [] relLeaf) (cI : Cl P w K mg base 2 "is_hint" [] relHint) : FnOk P w K mg base CX0 4 f fd ["shape", "free"] (spP K relIsTerm) := by
  refine fn_pure F scIsTerm (fun rs r h => by obtain ⟨t, u, rfl, _⟩ := h; rfl) fun cdv A outer s H E rs r S H0 hr h => ?_
  have nd := scIsTerm.nd
  obtain ⟨t, u, rfl, hwf, hdep, hsz, rfl⟩ := h
  refine sb_own (i := 2) nd rfl (Or.inl rfl) (sd_cons (se_tup (sd_cons (se_v 0) (sd_cons (se_v 1) (sd_cons se_int sd_nil)))) sd_nil) fun p hp => ?_
  refine sb_cons (ss_let 3 nd se_int ?_)
  refine sb_cons (ss_while PassesOwn.never (fun m ρ k => ∃ (qs : List (T × Int × Int)) (n : Int) (z1 z2 z3 : Option R), ρ = [some (.d (enc t)), some (.d (.int u)), some (.r (.ref p)), some (.d (.int n)), z1, z2, z3] ∧ k = ((), qs.map encT3) ∧ n + szs qs = t.size ∧ 0 ≤ n ∧ (∀ q ∈ qs, okQ q) ∧ m = (szs qs).toNat) (szs [(t, u, 1)]).toNat
    ⟨[(t, u, 1)], 0, none, none, none, rfl, rfl, by simp [szs, T.sizes], by omega, fun q hq => by simp only [List.mem_singleton] at hq; subst hq; exact ⟨hwf, by show (1 : Int) + (t.dep : Int) ≤ 120; omega⟩, rfl⟩ ?_)
  rintro m ρ k ⟨qs, n, z1, z2, z3, rfl, rfl, h1, h2, hok, rfl⟩
  rcases List.eq_nil_or_concat qs with rfl | ⟨ps, q, rfl⟩
  · exact .inl ⟨_, st_own (i := 2), sb_cons (ss_ret (r := .d (.bool true)) se_bl rfl)⟩
  rw [List.concat_eq_append] at *
  obtain ⟨v, uu, dd⟩ := q
  have hq : okQ (v, uu, dd) := hok _ (by simp)
  have hps : ∀ q ∈ ps, okQ q := fun q hq => hok q (by simp [hq])
  have hw : v.wf uu = true := hq.1
  have hdd : dd + (v.dep : Int) ≤ 120 := hq.2
  have hvp := T.size_pos v
  have hsp : szs (ps ++ [(v, uu, dd)]) = szs ps + v.size := by rw [szs_app]; simp [szs, T.sizes]
  have hlp : (ps.length : Int) ≤ szs ps := by have := T.sizes_len (ps.map (·.1)); rw [List.length_map] at this; exact this
  rw [hsp] at h1
  have hvd : 1 ≤ v.dep := by cases v <;> simp [T.dep]
  refine .inr ⟨_, st_is (b' := true) (st_own (i := 2)) (by rw [List.map_append]; cases ps <;> rfl), ?_⟩
  rw [List.map_append, hsp]
  have c1 : ¬ (20000 : Int) < n + 1 := by omega
  have c2 : ¬ (220 : Int) < dd := by omega
  have fin : ∀ (new : List (T × Int × Int)) (y1 y2 y3 : Option R), szs new + 1 = v.size → (∀ q ∈ new, okQ q) → ∃ m', m' < (szs ps + v.size).toNat ∧ ∃ (qs : List (T × Int × Int)) (n' : Int) (z1 z2 z3 : Option R), [some (.d (enc t)), some (.d (.int u)), some (.r (.ref p)), some (.d (.int (n + 1))), y1, y2, y3] = ([some (.d (enc t)), some (.d (.int u)), some (.r (.ref p)), some (.d (.int n')), z1, z2, z3] : Rho) ∧ (((), ps.map encT3 ++ new.map encT3) : Unit × List PyData) = ((), qs.map encT3) ∧ n' + szs qs = t.size ∧ 0 ≤ n' ∧ (∀ q ∈ qs, okQ q) ∧ m' = (szs qs).toNat := by
    intro new y1 y2 y3 hn hnew
    refine ⟨(szs (ps ++ new)).toNat, ?_, ps ++ new, n + 1, y1, y2, y3, rfl, by rw [List.map_append], ?_, by omega, fun q hq => (List.mem_append.mp hq).elim (hps q) (hnew q), rfl⟩
    · rw [szs_app]
      have := T.sizes_len (new.map (·.1))
      have h5 : 0 ≤ szs new := by unfold szs; omega
      omega
    · rw [szs_app]
      omega
  have fin0 : ∀ (y1 y2 y3 : Option R), v.size = 1 → ∃ m', m' < (szs ps + v.size).toNat ∧ ∃ (qs : List (T × Int × Int)) (n' : Int) (z1 z2 z3 : Option R), [some (.d (enc t)), some (.d (.int u)), some (.r (.ref p)), some (.d (.int (n + 1))), y1, y2, y3] = ([some (.d (enc t)), some (.d (.int u)), some (.r (.ref p)), some (.d (.int n')), z1, z2, z3] : Rho) ∧ (((), ps.map encT3) : Unit × List PyData) = ((), qs.map encT3) ∧ n' + szs qs = t.size ∧ 0 ≤ n' ∧ (∀ q ∈ qs, okQ q) ∧ m' = (szs qs).toNat := fun y1 y2 y3 hv => by
    have h := fin [] y1 y2 y3 (by simp [szs, T.sizes]; omega) (fun _ h => nomatch h)
    rw [List.map_nil, List.append_nil] at h
    exact h
  cases v with
  | var j =>
    simp only [T.wf, Bool.and_eq_true, decide_eq_true_eq] at hw
    have c3 : ¬ uu ≤ j := by omega
    refine (sb_cons (ss_asg3 (tg_three (i := 4) (j := 5) (l := 6) rfl nd) (se_pop (i := 2) hp) (sb_cons (ss_augI 3 nd se_int (sb_cons (ss_ifF (SW.st (sw_orF (st_is (b' := false) (st_gt (se_v 3) (se_g (G2.parts _ rfl rfl))) (decide_eq_false c1)) (sw_orF (st_is (b' := false) (st_gt (se_v 6) (se_g (G2.deep _ rfl rfl))) (decide_eq_false c2)) (sw_orF (st_is (st_not (st_is (b' := true) (st_val (se_isi2 (tn := "tuple") (T := "tuple") (c := true) G.isi G.tup (by decide +kernel) (by decide +kernel) (se_v 4))) rfl)) rfl) (sw_or1 (st_is (st_not (st_is (b' := true) (st_truT (i := 4)) rfl)) rfl)))))) rfl (sb_nil (sb_cons (ss_ifT (st_is (b' := true) (st_val (se_call cL hr (by omega) (sa_cons (se_v 4) sa_nil) ⟨_, uu, rfl, by simp only [T.wf, Bool.and_eq_true, decide_eq_true_eq]; exact hw, rfl⟩)) rfl) rfl (sb_cons (ss_ifF (SW.st (sw_andT (st_is (b' := true) (st_eqS (se_x0 4) se_str) rfl) (sw_and1 (st_is (b' := false) (st_ge (se_x1 4) (se_v 5)) (decide_eq_false c3))))) rfl (sb_nil (sb_cons (ss_cont ?_))))))))))))))
    exact fin0 _ _ _ rfl
  | lf l =>
    simp only [T.dep] at hdd
    cases l <;> exact (sb_cons (ss_asg3 (tg_three (i := 4) (j := 5) (l := 6) rfl nd) (se_pop (i := 2) hp) (sb_cons (ss_augI 3 nd se_int (sb_cons (ss_ifF (SW.st (sw_orF (st_is (b' := false) (st_gt (se_v 3) (se_g (G2.parts _ rfl rfl))) (decide_eq_false c1)) (sw_orF (st_is (b' := false) (st_gt (se_v 6) (se_g (G2.deep _ rfl rfl))) (decide_eq_false c2)) (sw_orF (st_is (st_not (st_is (b' := true) (st_val (se_isi2 (tn := "tuple") (T := "tuple") (c := true) G.isi G.tup (by decide +kernel) (by decide +kernel) (se_v 4))) rfl)) rfl) (sw_or1 (st_is (st_not (st_is (b' := true) (st_truT (i := 4)) rfl)) rfl)))))) rfl (sb_nil (sb_cons (ss_ifT (st_is (b' := true) (st_val (se_call cL hr (by omega) (sa_cons (se_v 4) sa_nil) ⟨_, uu, rfl, hw, rfl⟩)) rfl) rfl (sb_cons (ss_ifF (SW.st (sw_andF (st_is (b' := false) (st_eqS (se_x0 4) se_str) rfl))) rfl (sb_nil (sb_cons (ss_cont (fin0 _ _ _ rfl)))))))))))))))
  | pi x a b =>
    simp only [T.wf, Bool.and_eq_true] at hw
    have hd' := hdd
    simp only [T.dep] at hdd
    refine (sb_cons (ss_asg3 (tg_three (i := 4) (j := 5) (l := 6) rfl nd) (se_pop (i := 2) hp) (sb_cons (ss_augI 3 nd se_int (sb_cons (ss_ifF (SW.st (sw_orF (st_is (b' := false) (st_gt (se_v 3) (se_g (G2.parts _ rfl rfl))) (decide_eq_false c1)) (sw_orF (st_is (b' := false) (st_gt (se_v 6) (se_g (G2.deep _ rfl rfl))) (decide_eq_false c2)) (sw_orF (st_is (st_not (st_is (b' := true) (st_val (se_isi2 (tn := "tuple") (T := "tuple") (c := true) G.isi G.tup (by decide +kernel) (by decide +kernel) (se_v 4))) rfl)) rfl) (sw_or1 (st_is (st_not (st_is (b' := true) (st_truT (i := 4)) rfl)) rfl)))))) rfl (sb_nil (sb_cons (ss_ifF (st_is (b' := false) (st_val (se_call cL hr (by omega) (sa_cons (se_v 4) sa_nil) ⟨T.pi x a b, uu, rfl, by simp only [T.wf, Bool.and_eq_true]; exact hw, rfl⟩)) rfl) rfl (sb_nil (sb_cons (ss_ifT (SW.st (sw_andT (st_in (se_x0 4) (se_tup (sd_cons se_str (sd_cons se_str sd_nil))) (c := true)) (sw_andT (st_is (b' := true) (st_eqI (se_is (y := .int 4) (se_lenT G.len (se_v 4)) rfl) se_int) rfl) (sw_and1 (st_is (b' := true) (st_val (se_call cI hr (by omega) (sa_cons (se_x1 4) sa_nil) ⟨x, rfl, hw.1, rfl⟩)) rfl))))) rfl (sb_cons (ss_ext (i := 2) hp nd (se_own (sd_cons (se_tup (sd_cons (se_x2 4) (sd_cons (se_v 5) (sd_cons (se_add (se_v 6) se_int) sd_nil)))) (sd_cons (se_tup (sd_cons (se_x3 4) (sd_cons (se_add (se_v 5) se_int) (sd_cons (se_add (se_v 6) se_int) sd_nil)))) sd_nil))) ?_ (sb_nil (sb_nil ?_))))))))))))))))
    · rw [List.length_map]
      show ps.length + 2 ≤ 100000
      omega
    · exact fin [(a, uu, dd + 1), (b, uu + 1, dd + 1)] _ _ _ (by simp [szs, T.sizes, T.size]; try omega) (fun q hq => by
        simp only [List.mem_cons, List.not_mem_nil, or_false] at hq
        rcases hq with rfl | rfl
        · exact ⟨hw.2.1, by show dd + 1 + ((a : T).dep : Int) ≤ 120; omega⟩
        · exact ⟨hw.2.2, by show dd + 1 + ((b : T).dep : Int) ≤ 120; omega⟩)
  | lam x a b =>
    simp only [T.wf, Bool.and_eq_true] at hw
    have hd' := hdd
    simp only [T.dep] at hdd
    refine (sb_cons (ss_asg3 (tg_three (i := 4) (j := 5) (l := 6) rfl nd) (se_pop (i := 2) hp) (sb_cons (ss_augI 3 nd se_int (sb_cons (ss_ifF (SW.st (sw_orF (st_is (b' := false) (st_gt (se_v 3) (se_g (G2.parts _ rfl rfl))) (decide_eq_false c1)) (sw_orF (st_is (b' := false) (st_gt (se_v 6) (se_g (G2.deep _ rfl rfl))) (decide_eq_false c2)) (sw_orF (st_is (st_not (st_is (b' := true) (st_val (se_isi2 (tn := "tuple") (T := "tuple") (c := true) G.isi G.tup (by decide +kernel) (by decide +kernel) (se_v 4))) rfl)) rfl) (sw_or1 (st_is (st_not (st_is (b' := true) (st_truT (i := 4)) rfl)) rfl)))))) rfl (sb_nil (sb_cons (ss_ifF (st_is (b' := false) (st_val (se_call cL hr (by omega) (sa_cons (se_v 4) sa_nil) ⟨T.lam x a b, uu, rfl, by simp only [T.wf, Bool.and_eq_true]; exact hw, rfl⟩)) rfl) rfl (sb_nil (sb_cons (ss_ifT (SW.st (sw_andT (st_in (se_x0 4) (se_tup (sd_cons se_str (sd_cons se_str sd_nil))) (c := true)) (sw_andT (st_is (b' := true) (st_eqI (se_is (y := .int 4) (se_lenT G.len (se_v 4)) rfl) se_int) rfl) (sw_and1 (st_is (b' := true) (st_val (se_call cI hr (by omega) (sa_cons (se_x1 4) sa_nil) ⟨x, rfl, hw.1, rfl⟩)) rfl))))) rfl (sb_cons (ss_ext (i := 2) hp nd (se_own (sd_cons (se_tup (sd_cons (se_x2 4) (sd_cons (se_v 5) (sd_cons (se_add (se_v 6) se_int) sd_nil)))) (sd_cons (se_tup (sd_cons (se_x3 4) (sd_cons (se_add (se_v 5) se_int) (sd_cons (se_add (se_v 6) se_int) sd_nil)))) sd_nil))) ?_ (sb_nil (sb_nil ?_))))))))))))))))
    · rw [List.length_map]
      show ps.length + 2 ≤ 100000
      omega
    · exact fin [(a, uu, dd + 1), (b, uu + 1, dd + 1)] _ _ _ (by simp [szs, T.sizes, T.size]; try omega) (fun q hq => by
        simp only [List.mem_cons, List.not_mem_nil, or_false] at hq
        rcases hq with rfl | rfl
        · exact ⟨hw.2.1, by show dd + 1 + ((a : T).dep : Int) ≤ 120; omega⟩
        · exact ⟨hw.2.2, by show dd + 1 + ((b : T).dep : Int) ≤ 120; omega⟩)
  | app a b =>
    simp only [T.wf, Bool.and_eq_true] at hw
    have hd' := hdd
    simp only [T.dep] at hdd
    refine (sb_cons (ss_asg3 (tg_three (i := 4) (j := 5) (l := 6) rfl nd) (se_pop (i := 2) hp) (sb_cons (ss_augI 3 nd se_int (sb_cons (ss_ifF (SW.st (sw_orF (st_is (b' := false) (st_gt (se_v 3) (se_g (G2.parts _ rfl rfl))) (decide_eq_false c1)) (sw_orF (st_is (b' := false) (st_gt (se_v 6) (se_g (G2.deep _ rfl rfl))) (decide_eq_false c2)) (sw_orF (st_is (st_not (st_is (b' := true) (st_val (se_isi2 (tn := "tuple") (T := "tuple") (c := true) G.isi G.tup (by decide +kernel) (by decide +kernel) (se_v 4))) rfl)) rfl) (sw_or1 (st_is (st_not (st_is (b' := true) (st_truT (i := 4)) rfl)) rfl)))))) rfl (sb_nil (sb_cons (ss_ifF (st_is (b' := false) (st_val (se_call cL hr (by omega) (sa_cons (se_v 4) sa_nil) ⟨T.app a b, uu, rfl, by simp only [T.wf, Bool.and_eq_true]; exact hw, rfl⟩)) rfl) rfl (sb_nil (sb_cons (ss_ifF (SW.st (sw_andF (st_in (se_x0 4) (se_tup (sd_cons se_str (sd_cons se_str sd_nil))) (c := false)))) rfl (sb_cons (ss_ifT (SW.st (sw_andT (st_is (b' := true) (st_eqS (se_x0 4) se_str) rfl) (sw_and1 (st_is (b' := true) (st_eqI (se_is (y := .int 3) (se_lenT G.len (se_v 4)) rfl) se_int) rfl)))) rfl (sb_cons (ss_ext (i := 2) hp nd (se_own (sd_cons (se_tup (sd_cons (se_x1 4) (sd_cons (se_v 5) (sd_cons (se_add (se_v 6) se_int) sd_nil)))) (sd_cons (se_tup (sd_cons (se_x2 4) (sd_cons (se_v 5) (sd_cons (se_add (se_v 6) se_int) sd_nil)))) sd_nil))) ?_ (sb_nil (sb_nil (sb_nil ?_)))))))))))))))))))
    · rw [List.length_map]
      show ps.length + 2 ≤ 100000
      omega
    · exact fin [(a, uu, dd + 1), (b, uu, dd + 1)] _ _ _ (by simp [szs, T.sizes, T.size]; try omega) (fun q hq => by
        simp only [List.mem_cons, List.not_mem_nil, or_false] at hq
        rcases hq with rfl | rfl
        · exact ⟨hw.1, by show dd + 1 + ((a : T).dep : Int) ≤ 120; omega⟩
        · exact ⟨hw.2, by show dd + 1 + ((b : T).dep : Int) ≤ 120; omega⟩)
  | lt x a c b =>
    simp only [T.wf, Bool.and_eq_true] at hw
    have hd' := hdd
    simp only [T.dep] at hdd
    refine (sb_cons (ss_asg3 (tg_three (i := 4) (j := 5) (l := 6) rfl nd) (se_pop (i := 2) hp) (sb_cons (ss_augI 3 nd se_int (sb_cons (ss_ifF (SW.st (sw_orF (st_is (b' := false) (st_gt (se_v 3) (se_g (G2.parts _ rfl rfl))) (decide_eq_false c1)) (sw_orF (st_is (b' := false) (st_gt (se_v 6) (se_g (G2.deep _ rfl rfl))) (decide_eq_false c2)) (sw_orF (st_is (st_not (st_is (b' := true) (st_val (se_isi2 (tn := "tuple") (T := "tuple") (c := true) G.isi G.tup (by decide +kernel) (by decide +kernel) (se_v 4))) rfl)) rfl) (sw_or1 (st_is (st_not (st_is (b' := true) (st_truT (i := 4)) rfl)) rfl)))))) rfl (sb_nil (sb_cons (ss_ifF (st_is (b' := false) (st_val (se_call cL hr (by omega) (sa_cons (se_v 4) sa_nil) ⟨T.lt x a c b, uu, rfl, by simp only [T.wf, Bool.and_eq_true]; exact hw, rfl⟩)) rfl) rfl (sb_nil (sb_cons (ss_ifF (SW.st (sw_andF (st_in (se_x0 4) (se_tup (sd_cons se_str (sd_cons se_str sd_nil))) (c := false)))) rfl (sb_cons (ss_ifF (SW.st (sw_andF (st_is (b' := false) (st_eqS (se_x0 4) se_str) rfl))) rfl (sb_cons (ss_ifT (SW.st (sw_andT (st_is (b' := true) (st_eqS (se_x0 4) se_str) rfl) (sw_andT (st_is (b' := true) (st_eqI (se_is (y := .int 5) (se_lenT G.len (se_v 4)) rfl) se_int) rfl) (sw_and1 (st_is (b' := true) (st_val (se_call cI hr (by omega) (sa_cons (se_x1 4) sa_nil) ⟨x, rfl, hw.1, rfl⟩)) rfl))))) rfl (sb_cons (ss_ext (i := 2) hp nd (se_own (sd_cons (se_tup (sd_cons (se_x2 4) (sd_cons (se_v 5) (sd_cons (se_add (se_v 6) se_int) sd_nil)))) (sd_cons (se_tup (sd_cons (se_x3 4) (sd_cons (se_v 5) (sd_cons (se_add (se_v 6) se_int) sd_nil)))) (sd_cons (se_tup (sd_cons (se_x4 4) (sd_cons (se_add (se_v 5) se_int) (sd_cons (se_add (se_v 6) se_int) sd_nil)))) sd_nil)))) ?_ (sb_nil (sb_nil (sb_nil (sb_nil ?_))))))))))))))))))))))
    · rw [List.length_map]
      show ps.length + 3 ≤ 100000
      omega
    · exact fin [(a, uu, dd + 1), (c, uu, dd + 1), (b, uu + 1, dd + 1)] _ _ _ (by simp [szs, T.sizes, T.size]; try omega) (fun q hq => by
        simp only [List.mem_cons, List.not_mem_nil, or_false] at hq
        rcases hq with rfl | rfl | rfl
        · exact ⟨hw.2.1, by show dd + 1 + ((a : T).dep : Int) ≤ 120; omega⟩
        · exact ⟨hw.2.2.1, by show dd + 1 + ((c : T).dep : Int) ≤ 120; omega⟩
        · exact ⟨hw.2.2.2, by show dd + 1 + ((b : T).dep : Int) ≤ 120; omega⟩)

end
end D

namespace D
open PySem L2 Evl

abbrev sFree : Stmt := top 28
theorem scFree : FnScope ["term", "found", "todo", "here", "under", "part", "over"] ["term"] (defScope sFree) := ⟨rfl, rfl, rfl, by decide +kernel, rfl, by decide +kernel, by decide +kernel⟩
abbrev sNames : Stmt := top 29
theorem scNames : FnScope ["term", "found", "todo", "here", "part", "over"] ["term"] (defScope sNames) := ⟨rfl, rfl, rfl, by decide +kernel, rfl, by decide +kernel, by decide +kernel⟩
section
variable {P : Program} {w : World} {K : PySem.W.Frag} {mg : Str → Option Value} {base : Heap} {f : Addr} {fd : FuncData}

def encP2 (q : T × Int) : PyData := .tuple [enc q.1, .int q.2]
def sz2 (qs : List (T × Int)) : Int := T.sizes (qs.map (·.1))
theorem sz2_app (qs ps : List (T × Int)) : sz2 (qs ++ ps) = sz2 qs + sz2 ps := by unfold sz2; rw [List.map_append, T.sizes_app]
theorem sz2_parts (t : T) (u : Int) : sz2 (t.parts.map fun r => (r.1, u + r.2)) + 1 = t.size := by
  have := T.size_parts t
  unfold sz2
  rw [List.map_map]
  show T.sizes (t.parts.map (·.1)) + 1 = _
  omega
theorem _root_.L2.Room.units1 {k : Nat} {A : Around} (r : Room k A) : A.units + 1 < cLine := hu_of r
def relFree : List R → R → Prop := fun rs r => ∃ (t : T) (B : Nat), rs = [.d (enc t)] ∧ t.size ≤ 10000 ∧ t.wf (B : Int) = true ∧ B ≤ 60 ∧ r = .d (.tuple ((t.fvs B).map .int))
theorem ok_free (G : Glo K mg) (F : Fun K "free_vars" "free_vars" sFree f fd) (cP : Cl P w K mg base 1 "parts_of" [] relParts) : FnOk P w K mg base CX0 2 f fd ["term"] (spP K relFree) := by
  refine fn_pure F scFree (fun rs r h => by obtain ⟨t, u, rfl, _⟩ := h; rfl) fun cdv A outer s H E rs r S H0 hr h => ?_
  have nd := scFree.nd
  obtain ⟨t, B, rfl, hsz, hwf, hB, rfl⟩ := h
  refine sb_ownDict (.bl true) 1 nd fun q hq => ?_
  refine sb_own (i := 2) nd rfl (Or.inl rfl) (sd_cons (se_tup (sd_cons (se_v 0) (sd_cons se_int sd_nil))) sd_nil) fun p hp => ?_
  have hpq : p ≠ q := fun z => hp (by rw [z]; exact List.mem_cons_self)
  refine sb_cons (ss_while PassesOwn.never (fun m ρ k => ∃ (qs : List (T × Int)) (ms : List Int) (z1 z2 z3 z4 : Option R), ρ = [some (.d (enc t)), some (.r (.ref q)), some (.r (.ref p)), z1, z2, z3, z4] ∧ k = (((), ms.map Sum.inl), qs.map encP2) ∧ ms.Nodup ∧ (∀ v, v ∈ t.fvl 0 ↔ v ∈ ms ∨ ∃ q ∈ qs, v ∈ q.1.fvl q.2) ∧ sz2 qs ≤ t.size ∧ m = (sz2 qs).toNat) (sz2 [(t, 0)]).toNat
    ⟨[(t, 0)], [], none, none, none, none, rfl, rfl, List.nodup_nil, fun v => by simp, by simp [sz2, T.sizes], rfl⟩ ?_)
  rintro m ρ k ⟨qs, ms, z1, z2, z3, z4, rfl, rfl, hnd, hmem, hs, rfl⟩
  have hlt : ∀ v ∈ ms, 0 ≤ v ∧ v < (B : Int) := fun v hv => by
    have h1 := (T.fvl_iff t 0 v).mp ((hmem v).mpr (.inl hv))
    rw [Int.add_zero] at h1
    exact ⟨h1.1, T.has_wf hwf h1.2⟩
  have hlen : ms.length ≤ B := by
    have hsub : (ms.map Int.toNat).Nodup := by
      refine List.Pairwise.map _ ?_ (List.pairwise_iff_forall_sublist.mpr fun {a b} hab => ?_ : ms.Pairwise fun a b => a.toNat ≠ b.toNat)
      · exact fun a b h => h
      · have ha := hlt a (hab.subset (by simp))
        have hb := hlt b (hab.subset (by simp))
        have hne : a ≠ b := List.rel_of_pairwise_cons (hnd.sublist hab) (by simp)
        omega
    have := List.Nodup.length_le_of_subset hsub (l₂ := List.range B) (fun x hx => by
      obtain ⟨v, hv, rfl⟩ := List.mem_map.mp hx
      have := hlt v hv
      rw [List.mem_range]
      omega)
    rw [List.length_map, List.length_range] at this
    exact this
  rcases List.eq_nil_or_concat qs with rfl | ⟨ps, ⟨v, u⟩, rfl⟩
  · refine .inl ⟨_, st_own (i := 2), ?_⟩
    exact sb_cons (ss_ret (r := .d (.tuple ((t.fvs B).map .int))) (se_tupL G.tup (se_l (se_sortedI (ns := t.fvs B) rfl G.sorted rfl (by omega) (fun ys h1 h2 => sorted_uniq h1 h2 hnd (T.fvs_lt t B) fun v => by rw [T.fvs_mem hwf, hmem]; simp) (se_v 1)))) ⟨⟨_, rfl⟩, rfl⟩)
  rw [List.concat_eq_append] at *
  have hvp := T.size_pos v
  have hsp : sz2 (ps ++ [(v, u)]) = sz2 ps + v.size := by rw [sz2_app]; simp [sz2, T.sizes]
  have hlp : (ps.length : Int) ≤ sz2 ps := by have := T.sizes_len (ps.map (·.1)); rw [List.length_map] at this; exact this
  have hprt := sz2_parts v u
  have hpl := T.parts_len v
  rw [hsp] at hs
  refine .inr ⟨_, st_is (b' := true) (st_own (i := 2)) (by rw [List.map_append]; cases ps <;> rfl), ?_⟩
  rw [List.map_append, hsp]
  have fin : ∀ (ms' : List Int) (y1 y2 y3 y4 : Option R), ms'.Nodup → (∀ x, x ∈ t.fvl 0 ↔ x ∈ ms' ∨ ∃ q ∈ ps ++ v.parts.map (fun r => (r.1, u + r.2)), x ∈ q.1.fvl q.2) → ∃ m', m' < (sz2 ps + v.size).toNat ∧ ∃ (qs : List (T × Int)) (ms'' : List Int) (z1 z2 z3 z4 : Option R), [some (.d (enc t)), some (.r (.ref q)), some (.r (.ref p)), y1, y2, y3, y4] = ([some (.d (enc t)), some (.r (.ref q)), some (.r (.ref p)), z1, z2, z3, z4] : Rho) ∧ ((((), ms'.map Sum.inl), ps.map encP2 ++ (v.parts.map (fun r => (r.1, u + r.2))).map encP2) : (Unit × List Key) × List PyData) = (((), ms''.map Sum.inl), qs.map encP2) ∧ ms''.Nodup ∧ (∀ v, v ∈ t.fvl 0 ↔ v ∈ ms'' ∨ ∃ q ∈ qs, v ∈ q.1.fvl q.2) ∧ sz2 qs ≤ t.size ∧ m' = (sz2 qs).toNat := by
    intro ms' y1 y2 y3 y4 h1 h2
    refine ⟨_, ?_, ps ++ v.parts.map (fun r => (r.1, u + r.2)), ms', y1, y2, y3, y4, rfl, by rw [List.map_append], h1, h2, ?_, rfl⟩
    · rw [sz2_app]
      omega
    · rw [sz2_app]
      omega
  have hz : (ps.map encP2).length + ((v.parts.map (fun r => (r.1, u + r.2))).map encP2).length ≤ 100000 := by
    rw [List.length_map, List.length_map, List.length_map]
    omega
  rcases var_or v with ⟨j, rfl⟩ | ht
  · by_cases hk : u ≤ j
    · have e0 : (T.var j).fvl u = [j - u] := if_pos hk
      have ea : addK (ms.map Sum.inl) (.inl (j - u)) = (if j - u ∈ ms then ms else ms ++ [j - u]).map Sum.inl := by
        unfold addK
        by_cases hm : j - u ∈ ms
        · rw [if_pos hm, if_pos (hasK_iff.mpr (List.mem_map.mpr ⟨_, hm, rfl⟩))]
        · rw [if_neg hm, if_neg (fun z => hm (by obtain ⟨x, hx, e⟩ := List.mem_map.mp (hasK_iff.mp z); cases e; exact hx)), List.map_append]
          rfl
      refine (sb_cons (ss_asg2 (tg_two (i := 3) (j := 4) rfl nd) (se_pop (i := 2) hp) (sb_cons (ss_ifT (SW.st (sw_andT (st_is (b' := true) (st_eqS (se_x0 3) se_str) rfl) (sw_and1 (st_is (b' := true) (st_ge (se_x1 3) (se_v 4)) (decide_eq_true hk))))) rfl (sb_cons (ss_dput 1 (key := .inl (j - u)) hq hpq hr.units1 (se_sub (se_x1 3) (se_v 4)) (by rw [List.length_map]; omega) (sb_nil (sb_cons (ss_ext (i := 2) hp nd (se_lc (ow := [("part", 5), ("over", 6)]) rfl nd (blkOk_by (N := ["term", "found", "todo", "here", "under", "part", "over"]) (sc := defScope sFree) (by decide +kernel)) (ct_two rfl nd) (se_l (se_call cP hr (by omega) (sa_cons (se_v 3) sa_nil) ⟨_, rfl, rfl⟩)) (encP_len _) (All2.mapm (g := fun r : T × Int => (r.1, u + r.2)) (h := encP2) fun q hq => ⟨_, rfl, fun s H C' cl fp κ M k => (se_tup (sd_cons (se_v 5) (sd_cons (se_add (se_v 4) (se_v 6)) sd_nil)))⟩)) hz (sb_nil ?_))))))))))
      rw [ea]
      refine fin _ _ _ _ _ ?_ fun x => ?_
      · by_cases hm : j - u ∈ ms
        · rw [if_pos hm]; exact hnd
        · rw [if_neg hm]
          exact List.nodup_append.mpr ⟨hnd, by simp, fun a ha b hb e => hm (by rw [List.mem_singleton] at hb; rw [← hb, ← e]; exact ha)⟩
      · have hx : x ∈ (if j - u ∈ ms then ms else ms ++ [j - u]) ↔ x ∈ ms ∨ x = j - u := by
          by_cases hm : j - u ∈ ms
          · rw [if_pos hm]
            exact ⟨.inl, fun h => h.elim id fun h => by rw [h]; exact hm⟩
          · rw [if_neg hm, List.mem_append, List.mem_singleton]
        rw [hmem x, hx]
        simp only [List.mem_append, List.mem_singleton, T.parts, List.map_nil, List.append_nil]
        constructor
        · rintro (h | ⟨q, h | rfl, h'⟩)
          · exact .inl (.inl h)
          · exact .inr ⟨q, h, h'⟩
          · rw [e0, List.mem_singleton] at h'
            exact .inl (.inr h')
        · rintro ((h | h) | ⟨q, h, h'⟩)
          · exact .inl h
          · exact .inr ⟨(.var j, u), .inr rfl, by rw [e0, List.mem_singleton]; exact h⟩
          · exact .inr ⟨q, .inl h, h'⟩
    · have e0 : (T.var j).fvl u = [] := if_neg hk
      refine (sb_cons (ss_asg2 (tg_two (i := 3) (j := 4) rfl nd) (se_pop (i := 2) hp) (sb_cons (ss_ifF (SW.st (sw_andT (st_is (b' := true) (st_eqS (se_x0 3) se_str) rfl) (sw_and1 (st_is (b' := false) (st_ge (se_x1 3) (se_v 4)) (decide_eq_false hk))))) rfl (sb_nil (sb_cons (ss_ext (i := 2) hp nd (se_lc (ow := [("part", 5), ("over", 6)]) rfl nd (blkOk_by (N := ["term", "found", "todo", "here", "under", "part", "over"]) (sc := defScope sFree) (by decide +kernel)) (ct_two rfl nd) (se_l (se_call cP hr (by omega) (sa_cons (se_v 3) sa_nil) ⟨_, rfl, rfl⟩)) (encP_len _) (All2.mapm (g := fun r : T × Int => (r.1, u + r.2)) (h := encP2) fun q hq => ⟨_, rfl, fun s H C' cl fp κ M k => (se_tup (sd_cons (se_v 5) (sd_cons (se_add (se_v 4) (se_v 6)) sd_nil)))⟩)) hz (sb_nil ?_))))))))
      refine fin ms _ _ _ _ hnd fun x => ?_
      rw [hmem x]
      simp only [List.mem_append, List.mem_singleton, T.parts, List.map_nil, List.append_nil]
      constructor
      · rintro (h | ⟨q, h | rfl, h'⟩)
        · exact .inl h
        · exact .inr ⟨q, h, h'⟩
        · rw [e0] at h'
          exact absurd h' (by simp)
      · rintro (h | ⟨q, h, h'⟩)
        · exact .inl h
        · exact .inr ⟨q, .inl h, h'⟩
  · obtain ⟨l, hl⟩ := enc_shape v
    refine (sb_cons (ss_asg2 (tg_two (i := 3) (j := 4) rfl nd) (se_pop (i := 2) hp) (sb_cons (ss_ifF (SW.st (sw_andF (st_is (b' := false) (st_eqS (se_x0 3 (hr := congrArg (fun d => some (some (R.d d))) hl)) se_str) (decide_eq_false ht)))) rfl (sb_nil (sb_cons (ss_ext (i := 2) hp nd (se_lc (ow := [("part", 5), ("over", 6)]) rfl nd (blkOk_by (N := ["term", "found", "todo", "here", "under", "part", "over"]) (sc := defScope sFree) (by decide +kernel)) (ct_two rfl nd) (se_l (se_call cP hr (by omega) (sa_cons (se_v 3) sa_nil) ⟨_, rfl, rfl⟩)) (encP_len _) (All2.mapm (g := fun r : T × Int => (r.1, u + r.2)) (h := encP2) fun q hq => ⟨_, rfl, fun s H C' cl fp κ M k => (se_tup (sd_cons (se_v 5) (sd_cons (se_add (se_v 4) (se_v 6)) sd_nil)))⟩)) hz (sb_nil ?_))))))))
    refine fin ms _ _ _ _ hnd fun x => ?_
    rw [hmem x]
    simp only [List.mem_append, List.mem_singleton, List.mem_map]
    constructor
    · rintro (h | ⟨q, h | rfl, h'⟩)
      · exact .inl h
      · exact .inr ⟨q, .inl h, h'⟩
      · obtain ⟨r, hr1, hr2⟩ := (T.fvl_parts u ht x).mp h'
        exact .inr ⟨(r.1, u + r.2), .inr ⟨r, hr1, rfl⟩, hr2⟩
    · rintro (h | ⟨q, h | ⟨r, hr1, rfl⟩, h'⟩)
      · exact .inl h
      · exact .inr ⟨q, .inl h, h'⟩
      · exact .inr ⟨(v, u), .inr rfl, (T.fvl_parts u ht x).mpr ⟨r, hr1, h'⟩⟩
end
end D

namespace D
open PySem L2 Evl

section
variable {P : Program} {w : World} {K : PySem.W.Frag} {mg : Str → Option Value} {base : Heap} {f : Addr} {fd : FuncData}

theorem nl_parts {v : T} (h : ∀ l, v ≠ .lf l) (x : Str) : x ∈ v.nl ↔ ∃ q ∈ v.parts, x ∈ q.1.nl := by
  cases v <;> first | (exact absurd rfl (h _)) | simp [T.nl, T.parts]
def addS (ms : List Str) (x : Str) : List Str := if hasK (ms.map Sum.inr) (.inr x) = true then ms else ms ++ [x]
theorem has_inr {ms : List Str} {x : Str} : hasK (ms.map Sum.inr) (.inr x) = true ↔ x ∈ ms := by
  rw [hasK_iff, List.mem_map]
  constructor
  · rintro ⟨y, hy, e⟩
    cases e
    exact hy
  · exact fun h => ⟨x, h, rfl⟩
theorem addS_map (ms : List Str) (x : Str) : addK (ms.map Sum.inr) (.inr x) = (addS ms x).map Sum.inr := by
  unfold addK addS
  by_cases h : hasK (ms.map Sum.inr) (.inr x) = true
  · rw [if_pos h, if_pos h]
  · rw [if_neg h, if_neg h, List.map_append]
    rfl
theorem mem_addS {ms : List Str} {x y : Str} : y ∈ addS ms x ↔ y ∈ ms ∨ y = x := by
  unfold addS
  by_cases h : hasK (ms.map Sum.inr) (.inr x) = true
  · rw [if_pos h]
    exact ⟨.inl, fun q => q.elim id fun q => by rw [q]; exact has_inr.mp h⟩
  · rw [if_neg h, List.mem_append, List.mem_singleton]
theorem nodup_addS {ms : List Str} {x : Str} (hn : ms.Nodup) : (addS ms x).Nodup := by
  unfold addS
  by_cases h : hasK (ms.map Sum.inr) (.inr x) = true
  · rw [if_pos h]
    exact hn
  · rw [if_neg h]
    exact List.nodup_append.mpr ⟨hn, by simp, fun a ha b hb e => h (has_inr.mpr (by rw [List.mem_singleton] at hb; rw [← hb, ← e]; exact ha))⟩
def relNames : List R → R → Prop := fun rs r => ∃ t : T, rs = [.d (enc t)] ∧ t.size ≤ 10000 ∧ r = .d (.tuple ((canS t.nl).map .str))
theorem ok_names (G : Glo K mg) (F : Fun K "names_in" "names_in" sNames f fd) (cP : Cl P w K mg base 1 "parts_of" [] relParts) : FnOk P w K mg base CX0 2 f fd ["term"] (spP K relNames) := by
  refine fn_pure F scNames (fun rs r h => by obtain ⟨t, rfl, _⟩ := h; rfl) fun cdv A outer s H E rs r S H0 hr h => ?_
  have nd := scNames.nd
  obtain ⟨t, rfl, hsz, rfl⟩ := h
  refine sb_ownDict (.bl true) 1 nd fun q hq => ?_
  refine sb_own (i := 2) nd rfl (Or.inl rfl) (sd_cons (se_v 0) sd_nil) fun p hp => ?_
  have hpq : p ≠ q := fun z => hp (by rw [z]; exact List.mem_cons_self)
  refine sb_cons (ss_while PassesOwn.never (fun m ρ k => ∃ (us : List T) (ms : List Str) (z1 z2 z3 : Option R), ρ = [some (.d (enc t)), some (.r (.ref q)), some (.r (.ref p)), z1, z2, z3] ∧ k = (((), ms.map Sum.inr), us.map enc) ∧ ms.Nodup ∧ (∀ x, x ∈ t.nl ↔ x ∈ ms ∨ ∃ u ∈ us, x ∈ u.nl) ∧ T.sizes us ≤ t.size ∧ m = (T.sizes us).toNat) (T.sizes [t]).toNat
    ⟨[t], [], none, none, none, rfl, rfl, List.nodup_nil, fun v => by simp, by simp [T.sizes], rfl⟩ ?_)
  rintro m ρ k ⟨us, ms, z1, z2, z3, rfl, rfl, hnd, hmem, hs, rfl⟩
  have hlen : ms.length ≤ 3 := List.Nodup.length_le_of_subset hnd (l₂ := (["a", "b", "nat"] : List Str)) fun x hx => by
    have := T.nl_mem t x ((hmem x).mpr (.inl hx))
    simpa using this
  rcases List.eq_nil_or_concat us with rfl | ⟨ps, v, rfl⟩
  · refine .inl ⟨_, st_own (i := 2), ?_⟩
    exact sb_cons (ss_ret (r := .d (.tuple ((canS t.nl).map .str))) (se_tupL G.tup (se_l (se_sortedS (ns := canS t.nl) rfl G.sorted rfl (by omega) (fun ys h1 h2 => sortedS_uniq h1 h2 hnd (fun x => by rw [hmem]; simp) (T.nl_mem t)) (se_v 1)))) ⟨⟨_, rfl⟩, rfl⟩)
  rw [List.concat_eq_append] at *
  have hvp := T.size_pos v
  have hsp : T.sizes (ps ++ [v]) = T.sizes ps + v.size := by rw [T.sizes_app]; simp [T.sizes]
  have hlp := T.sizes_len ps
  have hprt := T.size_parts v
  have hpl := T.parts_len v
  rw [hsp] at hs
  refine .inr ⟨_, st_is (b' := true) (st_own (i := 2)) (by rw [List.map_append]; cases ps <;> rfl), ?_⟩
  rw [List.map_append, hsp]
  have fin : ∀ (ms' : List Str) (y1 y2 y3 : Option R), ms'.Nodup → (∀ x, x ∈ t.nl ↔ x ∈ ms' ∨ ∃ u ∈ ps ++ v.parts.map (·.1), x ∈ u.nl) → ∃ m', m' < (T.sizes ps + v.size).toNat ∧ ∃ (us : List T) (ms'' : List Str) (z1 z2 z3 : Option R), [some (.d (enc t)), some (.r (.ref q)), some (.r (.ref p)), y1, y2, y3] = ([some (.d (enc t)), some (.r (.ref q)), some (.r (.ref p)), z1, z2, z3] : Rho) ∧ ((((), ms'.map Sum.inr), ps.map enc ++ (v.parts.map (·.1)).map enc) : (Unit × List Key) × List PyData) = (((), ms''.map Sum.inr), us.map enc) ∧ ms''.Nodup ∧ (∀ x, x ∈ t.nl ↔ x ∈ ms'' ∨ ∃ u ∈ us, x ∈ u.nl) ∧ T.sizes us ≤ t.size ∧ m' = (T.sizes us).toNat := by
    intro ms' y1 y2 y3 h1 h2
    refine ⟨_, ?_, ps ++ v.parts.map (·.1), ms', y1, y2, y3, rfl, by rw [List.map_append], h1, h2, ?_, rfl⟩
    · rw [T.sizes_app]
      omega
    · rw [T.sizes_app]
      omega
  have hz : (ps.map enc).length + ((v.parts.map (·.1)).map enc).length ≤ 100000 := by
    rw [List.length_map, List.length_map, List.length_map]
    omega
  have hit : ∀ (nm : Str), v.nl = [nm] → v.parts = [] → ∀ x, x ∈ t.nl ↔ x ∈ addS ms nm ∨ ∃ u ∈ ps ++ v.parts.map (·.1), x ∈ u.nl := by
    intro nm e1 e2 x
    rw [hmem x, mem_addS, e2]
    simp only [List.mem_append, List.mem_singleton, List.map_nil, List.append_nil]
    constructor
    · rintro (h | ⟨q, h | rfl, h'⟩)
      · exact .inl (.inl h)
      · exact .inr ⟨q, h, h'⟩
      · rw [e1, List.mem_singleton] at h'
        exact .inl (.inr h')
    · rintro ((h | h) | ⟨q, h, h'⟩)
      · exact .inl h
      · exact .inr ⟨v, .inr rfl, by rw [e1, List.mem_singleton]; exact h⟩
      · exact .inr ⟨q, .inl h, h'⟩
  have miss : (∀ x, x ∈ v.nl ↔ ∃ q ∈ v.parts, x ∈ q.1.nl) → ∀ x, x ∈ t.nl ↔ x ∈ ms ∨ ∃ u ∈ ps ++ v.parts.map (·.1), x ∈ u.nl := by
    intro hv x
    rw [hmem x]
    simp only [List.mem_append, List.mem_singleton, List.mem_map]
    constructor
    · rintro (h | ⟨q, h | rfl, h'⟩)
      · exact .inl h
      · exact .inr ⟨q, .inl h, h'⟩
      · obtain ⟨r, hr1, hr2⟩ := (hv x).mp h'
        exact .inr ⟨r.1, .inr ⟨r, hr1, rfl⟩, hr2⟩
    · rintro (h | ⟨q, h | ⟨r, hr1, rfl⟩, h'⟩)
      · exact .inl h
      · exact .inr ⟨q, .inl h, h'⟩
      · exact .inr ⟨v, .inr rfl, (hv x).mpr ⟨r, hr1, h'⟩⟩
  have E : ∀ x, addK (ms.map Sum.inr) (.inr x) = (addS ms x).map Sum.inr := addS_map ms
  cases v with
  | lf l =>
    cases l with
    | sort n =>
      refine (sb_cons (ss_let 3 nd (se_pop (i := 2) hp) (sb_cons (ss_ifF (st_in (se_x0 3) (se_tup (sd_cons se_str (sd_cons se_str (sd_cons se_str (sd_cons se_str sd_nil))))) (c := false)) rfl (sb_nil (sb_cons (ss_ext (i := 2) hp nd (se_lc (ow := [("part", 4), ("over", 5)]) rfl nd (blkOk_by (N := ["term", "found", "todo", "here", "part", "over"]) (sc := defScope sNames) (by decide +kernel)) (ct_two rfl nd) (se_l (se_call cP hr (by omega) (sa_cons (se_v 3) sa_nil) ⟨_, rfl, rfl⟩)) (encP_len _) (All2.mapm (g := fun q : T × Int => q.1) (h := enc) fun q hq => ⟨_, rfl, fun s H C' cl fp κ M k => (se_v 4)⟩)) hz (sb_nil ?_))))))))
      exact fin ms _ _ _ hnd (miss fun x => by simp [T.nl, T.parts])
    | ca =>
      refine (sb_cons (ss_let 3 nd (se_pop (i := 2) hp) (sb_cons (ss_ifT (st_in (se_x0 3) (se_tup (sd_cons se_str (sd_cons se_str (sd_cons se_str (sd_cons se_str sd_nil))))) (c := true)) rfl (sb_cons (ss_dput 1 (key := .inr "a") hq hpq hr.units1 (se_x1 3) (by rw [List.length_map]; omega) (sb_nil (sb_cons (ss_ext (i := 2) hp nd (se_lc (ow := [("part", 4), ("over", 5)]) rfl nd (blkOk_by (N := ["term", "found", "todo", "here", "part", "over"]) (sc := defScope sNames) (by decide +kernel)) (ct_two rfl nd) (se_l (se_call cP hr (by omega) (sa_cons (se_v 3) sa_nil) ⟨_, rfl, rfl⟩)) (encP_len _) (All2.mapm (g := fun q : T × Int => q.1) (h := enc) fun q hq => ⟨_, rfl, fun s H C' cl fp κ M k => (se_v 4)⟩)) hz (sb_nil ?_))))))))))
      rw [E]
      exact fin _ _ _ _ (nodup_addS hnd) (hit "a" rfl rfl)
    | cb =>
      refine (sb_cons (ss_let 3 nd (se_pop (i := 2) hp) (sb_cons (ss_ifT (st_in (se_x0 3) (se_tup (sd_cons se_str (sd_cons se_str (sd_cons se_str (sd_cons se_str sd_nil))))) (c := true)) rfl (sb_cons (ss_dput 1 (key := .inr "b") hq hpq hr.units1 (se_x1 3) (by rw [List.length_map]; omega) (sb_nil (sb_cons (ss_ext (i := 2) hp nd (se_lc (ow := [("part", 4), ("over", 5)]) rfl nd (blkOk_by (N := ["term", "found", "todo", "here", "part", "over"]) (sc := defScope sNames) (by decide +kernel)) (ct_two rfl nd) (se_l (se_call cP hr (by omega) (sa_cons (se_v 3) sa_nil) ⟨_, rfl, rfl⟩)) (encP_len _) (All2.mapm (g := fun q : T × Int => q.1) (h := enc) fun q hq => ⟨_, rfl, fun s H C' cl fp κ M k => (se_v 4)⟩)) hz (sb_nil ?_))))))))))
      rw [E]
      exact fin _ _ _ _ (nodup_addS hnd) (hit "b" rfl rfl)
    | nat =>
      refine (sb_cons (ss_let 3 nd (se_pop (i := 2) hp) (sb_cons (ss_ifT (st_in (se_x0 3) (se_tup (sd_cons se_str (sd_cons se_str (sd_cons se_str (sd_cons se_str sd_nil))))) (c := true)) rfl (sb_cons (ss_dput 1 (key := .inr "nat") hq hpq hr.units1 (se_x1 3) (by rw [List.length_map]; omega) (sb_nil (sb_cons (ss_ext (i := 2) hp nd (se_lc (ow := [("part", 4), ("over", 5)]) rfl nd (blkOk_by (N := ["term", "found", "todo", "here", "part", "over"]) (sc := defScope sNames) (by decide +kernel)) (ct_two rfl nd) (se_l (se_call cP hr (by omega) (sa_cons (se_v 3) sa_nil) ⟨_, rfl, rfl⟩)) (encP_len _) (All2.mapm (g := fun q : T × Int => q.1) (h := enc) fun q hq => ⟨_, rfl, fun s H C' cl fp κ M k => (se_v 4)⟩)) hz (sb_nil ?_))))))))))
      rw [E]
      exact fin _ _ _ _ (nodup_addS hnd) (hit "nat" rfl rfl)
    | mk =>
      refine (sb_cons (ss_let 3 nd (se_pop (i := 2) hp) (sb_cons (ss_ifT (st_in (se_x0 3) (se_tup (sd_cons se_str (sd_cons se_str (sd_cons se_str (sd_cons se_str sd_nil))))) (c := true)) rfl (sb_cons (ss_dput 1 (key := .inr "nat") hq hpq hr.units1 (se_x1 3) (by rw [List.length_map]; omega) (sb_nil (sb_cons (ss_ext (i := 2) hp nd (se_lc (ow := [("part", 4), ("over", 5)]) rfl nd (blkOk_by (N := ["term", "found", "todo", "here", "part", "over"]) (sc := defScope sNames) (by decide +kernel)) (ct_two rfl nd) (se_l (se_call cP hr (by omega) (sa_cons (se_v 3) sa_nil) ⟨_, rfl, rfl⟩)) (encP_len _) (All2.mapm (g := fun q : T × Int => q.1) (h := enc) fun q hq => ⟨_, rfl, fun s H C' cl fp κ M k => (se_v 4)⟩)) hz (sb_nil ?_))))))))))
      rw [E]
      exact fin _ _ _ _ (nodup_addS hnd) (hit "nat" rfl rfl)
    | el =>
      refine (sb_cons (ss_let 3 nd (se_pop (i := 2) hp) (sb_cons (ss_ifT (st_in (se_x0 3) (se_tup (sd_cons se_str (sd_cons se_str (sd_cons se_str (sd_cons se_str sd_nil))))) (c := true)) rfl (sb_cons (ss_dput 1 (key := .inr "nat") hq hpq hr.units1 (se_x1 3) (by rw [List.length_map]; omega) (sb_nil (sb_cons (ss_ext (i := 2) hp nd (se_lc (ow := [("part", 4), ("over", 5)]) rfl nd (blkOk_by (N := ["term", "found", "todo", "here", "part", "over"]) (sc := defScope sNames) (by decide +kernel)) (ct_two rfl nd) (se_l (se_call cP hr (by omega) (sa_cons (se_v 3) sa_nil) ⟨_, rfl, rfl⟩)) (encP_len _) (All2.mapm (g := fun q : T × Int => q.1) (h := enc) fun q hq => ⟨_, rfl, fun s H C' cl fp κ M k => (se_v 4)⟩)) hz (sb_nil ?_))))))))))
      rw [E]
      exact fin _ _ _ _ (nodup_addS hnd) (hit "nat" rfl rfl)
  | var j =>
    refine (sb_cons (ss_let 3 nd (se_pop (i := 2) hp) (sb_cons (ss_ifF (st_in (se_x0 3) (se_tup (sd_cons se_str (sd_cons se_str (sd_cons se_str (sd_cons se_str sd_nil))))) (c := false)) rfl (sb_nil (sb_cons (ss_ext (i := 2) hp nd (se_lc (ow := [("part", 4), ("over", 5)]) rfl nd (blkOk_by (N := ["term", "found", "todo", "here", "part", "over"]) (sc := defScope sNames) (by decide +kernel)) (ct_two rfl nd) (se_l (se_call cP hr (by omega) (sa_cons (se_v 3) sa_nil) ⟨_, rfl, rfl⟩)) (encP_len _) (All2.mapm (g := fun q : T × Int => q.1) (h := enc) fun q hq => ⟨_, rfl, fun s H C' cl fp κ M k => (se_v 4)⟩)) hz (sb_nil ?_))))))))
    exact fin ms _ _ _ hnd (miss (nl_parts fun l z => nomatch z))
  | pi y a b =>
    refine (sb_cons (ss_let 3 nd (se_pop (i := 2) hp) (sb_cons (ss_ifF (st_in (se_x0 3) (se_tup (sd_cons se_str (sd_cons se_str (sd_cons se_str (sd_cons se_str sd_nil))))) (c := false)) rfl (sb_nil (sb_cons (ss_ext (i := 2) hp nd (se_lc (ow := [("part", 4), ("over", 5)]) rfl nd (blkOk_by (N := ["term", "found", "todo", "here", "part", "over"]) (sc := defScope sNames) (by decide +kernel)) (ct_two rfl nd) (se_l (se_call cP hr (by omega) (sa_cons (se_v 3) sa_nil) ⟨_, rfl, rfl⟩)) (encP_len _) (All2.mapm (g := fun q : T × Int => q.1) (h := enc) fun q hq => ⟨_, rfl, fun s H C' cl fp κ M k => (se_v 4)⟩)) hz (sb_nil ?_))))))))
    exact fin ms _ _ _ hnd (miss (nl_parts fun l z => nomatch z))
  | lam y a b =>
    refine (sb_cons (ss_let 3 nd (se_pop (i := 2) hp) (sb_cons (ss_ifF (st_in (se_x0 3) (se_tup (sd_cons se_str (sd_cons se_str (sd_cons se_str (sd_cons se_str sd_nil))))) (c := false)) rfl (sb_nil (sb_cons (ss_ext (i := 2) hp nd (se_lc (ow := [("part", 4), ("over", 5)]) rfl nd (blkOk_by (N := ["term", "found", "todo", "here", "part", "over"]) (sc := defScope sNames) (by decide +kernel)) (ct_two rfl nd) (se_l (se_call cP hr (by omega) (sa_cons (se_v 3) sa_nil) ⟨_, rfl, rfl⟩)) (encP_len _) (All2.mapm (g := fun q : T × Int => q.1) (h := enc) fun q hq => ⟨_, rfl, fun s H C' cl fp κ M k => (se_v 4)⟩)) hz (sb_nil ?_))))))))
    exact fin ms _ _ _ hnd (miss (nl_parts fun l z => nomatch z))
  | app a b =>
    refine (sb_cons (ss_let 3 nd (se_pop (i := 2) hp) (sb_cons (ss_ifF (st_in (se_x0 3) (se_tup (sd_cons se_str (sd_cons se_str (sd_cons se_str (sd_cons se_str sd_nil))))) (c := false)) rfl (sb_nil (sb_cons (ss_ext (i := 2) hp nd (se_lc (ow := [("part", 4), ("over", 5)]) rfl nd (blkOk_by (N := ["term", "found", "todo", "here", "part", "over"]) (sc := defScope sNames) (by decide +kernel)) (ct_two rfl nd) (se_l (se_call cP hr (by omega) (sa_cons (se_v 3) sa_nil) ⟨_, rfl, rfl⟩)) (encP_len _) (All2.mapm (g := fun q : T × Int => q.1) (h := enc) fun q hq => ⟨_, rfl, fun s H C' cl fp κ M k => (se_v 4)⟩)) hz (sb_nil ?_))))))))
    exact fin ms _ _ _ hnd (miss (nl_parts fun l z => nomatch z))
  | lt y a c b =>
    refine (sb_cons (ss_let 3 nd (se_pop (i := 2) hp) (sb_cons (ss_ifF (st_in (se_x0 3) (se_tup (sd_cons se_str (sd_cons se_str (sd_cons se_str (sd_cons se_str sd_nil))))) (c := false)) rfl (sb_nil (sb_cons (ss_ext (i := 2) hp nd (se_lc (ow := [("part", 4), ("over", 5)]) rfl nd (blkOk_by (N := ["term", "found", "todo", "here", "part", "over"]) (sc := defScope sNames) (by decide +kernel)) (ct_two rfl nd) (se_l (se_call cP hr (by omega) (sa_cons (se_v 3) sa_nil) ⟨_, rfl, rfl⟩)) (encP_len _) (All2.mapm (g := fun q : T × Int => q.1) (h := enc) fun q hq => ⟨_, rfl, fun s H C' cl fp κ M k => (se_v 4)⟩)) hz (sb_nil ?_))))))))
    exact fin ms _ _ _ hnd (miss (nl_parts fun l z => nomatch z))
end
end D

namespace D
open PySem L2 Evl
namespace T
theorem lift_dep (m : Int) : ∀ (t : T) (u : Int), (t.lift m u).dep = t.dep
  | .var k, u => by unfold lift; split <;> rfl
  | .lf _, _ => rfl
  | .pi _ a b, u => by simp only [lift, dep, lift_dep m a, lift_dep m b]
  | .lam _ a b, u => by simp only [lift, dep, lift_dep m a, lift_dep m b]
  | .app a b, u => by simp only [lift, dep, lift_dep m a, lift_dep m b]
  | .lt _ a v b, u => by simp only [lift, dep, lift_dep m a, lift_dep m v, lift_dep m b]
theorem dep_pos (t : T) : 1 ≤ t.dep := by cases t <;> simp [dep]
theorem put_dep (v : T) : ∀ (t : T) (u : Int), (t.put v u).dep ≤ t.dep + v.dep
  | .var k, u => by
    have := dep_pos v
    unfold put
    split
    · rw [lift_dep]; simp [dep]
    · split <;> simp only [dep] <;> omega
  | .lf _, _ => by simp [put, dep]
  | .pi _ a b, u => by have := put_dep v a u; have := put_dep v b (u + 1); simp only [put, dep]; omega
  | .lam _ a b, u => by have := put_dep v a u; have := put_dep v b (u + 1); simp only [put, dep]; omega
  | .app a b, u => by have := put_dep v a u; have := put_dep v b u; simp only [put, dep]; omega
  | .lt _ a w b, u => by have := put_dep v a u; have := put_dep v w u; have := put_dep v b (u + 1); simp only [put, dep]; omega
theorem abs_dep (i : Int) : ∀ (t : T) (u : Int), (t.abs i u).dep = t.dep
  | .var k, u => by
    unfold abs
    split
    · rfl
    · split <;> rfl
  | .lf _, _ => rfl
  | .pi _ a b, u => by simp only [abs, dep, abs_dep i a, abs_dep i b]
  | .lam _ a b, u => by simp only [abs, dep, abs_dep i a, abs_dep i b]
  | .app a b, u => by simp only [abs, dep, abs_dep i a, abs_dep i b]
  | .lt _ a v b, u => by simp only [abs, dep, abs_dep i a, abs_dep i v, abs_dep i b]
/-- values put in from the last one on -/
def puts (n : Nat) : T → List T → Nat → T
  | t, [], _ => t
  | t, w :: ws, i => puts n (t.put (w.lift ((n : Int) - 1 - (i : Int)) 0) 0) ws (i + 1)
theorem puts_snoc (n : Nat) : ∀ (ws : List T) (t w : T) (i : Nat), puts n t (ws ++ [w]) i = (puts n t ws i).put (w.lift ((n : Int) - 1 - ((i + ws.length : Nat) : Int)) 0) 0
  | [], t, w, i => rfl
  | x :: ws, t, w, i => by
    show puts n _ (ws ++ [w]) (i + 1) = (puts n _ ws (i + 1)).put _ 0
    rw [puts_snoc n ws]
    have : i + 1 + ws.length = i + (x :: ws).length := by simp only [List.length_cons]; omega
    rw [this]
theorem puts_take {n : Nat} {ws : List T} {i : Nat} {w : T} (t : T) (h : ws[i]? = some w) : puts n t (ws.take (i + 1)) 0 = (puts n t (ws.take i) 0).put (w.lift ((n : Int) - 1 - (i : Int)) 0) 0 := by
  have hi := (List.getElem?_eq_some_iff.mp h).1
  rw [List.take_add_one, h]
  show puts n t (ws.take i ++ [w]) 0 = _
  rw [puts_snoc, List.length_take, Nat.min_eq_left (Nat.le_of_lt hi), Nat.zero_add]
theorem puts_dep (n c : Nat) : ∀ (ws : List T) (t : T) (i : Nat), (∀ w ∈ ws, w.dep ≤ c) → (puts n t ws i).dep ≤ t.dep + c * ws.length
  | [], t, i, _ => by simp [puts]
  | x :: ws, t, i, h => by
    have h1 := puts_dep n c ws (t.put (x.lift ((n : Int) - 1 - (i : Int)) 0) 0) (i + 1) fun w hw => h w (List.mem_cons_of_mem _ hw)
    have h2 := put_dep (x.lift ((n : Int) - 1 - (i : Int)) 0) t 0
    rw [lift_dep] at h2
    have h3 := h x List.mem_cons_self
    show (puts n _ ws (i + 1)).dep ≤ _
    rw [List.length_cons, Nat.mul_add]
    omega
end T
end D

namespace D
open PySem L2 Evl HT PySem.Spec PyProof.Rows
/-! ### t[::-1] -/
theorem slP1 {prog : Program} {w : World} {A : Around} {E : Value → Shared → Prop} {s : Shared} {sl : Addr} {vl vu vs : Value} {n : Nat} {Q : Int × Int × Nat → Shared → Prop} (hs : s.heap.IsSliceOf sl vl vu vs) (pl : IsPart vl none) (pu : IsPart vu none) (ps : IsPart vs (some (-1)))
    (h : Q ((n : Int) - 1, -1, n) s) : wpAny (model prog w) A (Builtin.Slice.sliceApplied (.ref sl) (pure (n : Int))) Q E s := by
  obtain ⟨os, hos, hcs, hds⟩ := id hs
  unfold Builtin.Slice.sliceApplied Builtin.Slice.sliceFields
  refine wpAny_bind (wpAny_bind (wpAny_field hos hds (x := vl) rfl (wpAny_bind (wpAny_field hos hds (x := vu) rfl (wpAny_bind (wpAny_field hos hds (x := vs) rfl (wpAny_pure ?_)))))))
  refine wpAny_bind (slicePart_ ps ?_)
  show wpAny _ _ (if ((-1 : Int) == 0) = true then _ else _) _ _ s
  rw [if_neg (by decide)]
  refine wpAny_bind (slicePart_ pl (wpAny_bind (slicePart_ pu (wpAny_bind (wpAny_pure ?_)))))
  show wpAny _ _ (pure ((n : Int) - 1, (-1 : Int), Builtin.Slice.slicePlaces ((n : Int) - 1) (-1) (-1))) _ _ s
  have e : Builtin.Slice.slicePlaces ((n : Int) - 1) (-1) (-1) = n := by
    unfold Builtin.Slice.slicePlaces
    rw [if_neg (by decide)]
    split
    · show (((n : Int) - 1 - -1 - 1) / 1 + 1).toNat = n
      rw [Int.ediv_one]
      omega
    · show (0 : Int).toNat = n
      omega
  rw [e]
  exact wpAny_pure h
theorem pick_rev (xs : Array Value) : ((List.range xs.size).filterMap fun (k : Nat) => xs[(((xs.size : Int) - 1) + (k : Int) * -1).toNat]?).toArray = xs.toList.reverse.toArray := by
  rcases xs with ⟨l⟩
  congr 1
  show (List.range l.length).filterMap (fun k : Nat => (List.toArray l)[(((l.length : Int) - 1) + (k : Int) * -1).toNat]?) = l.reverse
  have go : ∀ (n : Nat), n ≤ l.length → (List.range n).filterMap (fun k : Nat => (List.toArray l)[(((l.length : Int) - 1) + (k : Int) * -1).toNat]?) = l.reverse.take n := by
    intro n
    induction n with
    | zero => intro _; rfl
    | succ n ih =>
      intro h
      have h2 : (((l.length : Int) - 1) + (n : Int) * -1).toNat = l.length - 1 - n := by omega
      rw [List.range_succ, List.filterMap_append, ih (by omega), List.take_add_one]
      congr 1
      rw [List.filterMap_cons, h2, List.getElem?_reverse (by omega), List.getElem?_toArray, List.getElem?_eq_getElem (by omega)]
      rfl
  have := go l.length (Nat.le_refl _)
  rw [this, ← List.length_reverse, List.take_length]
theorem getItem_tuple_rev {prog : Program} {w : World} {A : Around} {E : Value → Shared → Prop} {s : Shared} {t sl : Addr} {items : Array Value} {vl vu vs : Value} {Q : Value → Shared → Prop} (ht : IsTup s.heap t items) (hs : s.heap.IsSliceOf sl vl vu vs) (pl : IsPart vl none) (pu : IsPart vu none) (ps : IsPart vs (some (-1)))
    (h : Q (.ref s.heap.objs.size) { s with heap := s.heap.push { cls := .type "tuple", data := .seq items.toList.reverse.toArray } })
    (hsz : items.size ≤ sizeLine) : wpAny (model prog w) A (getItem (.ref t) (.ref sl)) Q E s := by
  have htake : sizeOk (.seq items.toList.reverse.toArray) := by
    show items.toList.reverse.toArray.size ≤ sizeLine
    rw [List.size_toArray, List.length_reverse, Array.length_toList]
    omega
  obtain ⟨os, hos, hcs, hds⟩ := id hs
  have hTs : s.TypeIs (.ref sl) "slice" := ⟨os, hos, hcs⟩
  unfold getItem
  try with_reducible refine wpAny_holding ?_
  first | refine wpAny_bind (wpAny_pure ?_) | skip
  refine wpAny_bind (wpAny_sequenceKey ht.typeIs (by decide) ?_)
  refine wpAny_bind (wpAny_callSpecial?_slot (name := Str.ofString "__getitem__") ht.typeIs PyProof.Rows.slot_tuple_getitem
    (wpAny_call_entry PyProof.Rows.slot_tuple_getitem ht.typeIs entry_tuple_getitem ?_ (args_tuple_getitem _ _)))
  show wpAny _ _ (Builtin.Tuple.tupleItemsOf (.ref t) >>= _) _ _ s
  refine wpAny_bind (tupleItemsOf_ ht ?_)
  refine wpAny_bind (wpAny_typeOf hTs ?_)
  rw [if_pos (by decide)]
  refine wpAny_bind (slP1 hs pl pu ps ?_)
  have hno : ¬ ((((items.size : Int) - 1) == 0 && (-1 : Int) == 1 && items.size == items.size) = true) := by
    intro q
    rw [Bool.and_eq_true, Bool.and_eq_true] at q
    exact absurd q.1.2 (by decide)
  show wpAny _ _ (if (((items.size : Int) - 1) == 0 && (-1 : Int) == 1 && items.size == items.size) = true then _ else _) _ _ s
  rw [if_neg hno, pick_rev]
  first
    | exact wpAny_bind (m := Builtin.Tuple.tupleExact _) (wpAny_newObj_type (wpAny_pure ⟨_, rfl, wpAny_pure h⟩) htake)
    | exact wpAny_bind (m := Builtin.Tuple.tupleExact _) (wpAny_newObj_type (wpAny_bind (wpAny_pure (wpAny_pure ⟨_, rfl, wpAny_pure h⟩))) htake)
    | exact wpAny_bind (wpAny_bind (m := Builtin.Tuple.tupleExact _) (wpAny_newObj_type (wpAny_pure (wpAny_pure ⟨_, rfl, wpAny_pure h⟩)) htake))
    | exact wpAny_bind (wpAny_bind (m := Builtin.Tuple.tupleExact _) (wpAny_newObj_type (wpAny_pure ⟨_, rfl, wpAny_pure h⟩) htake))
section
variable {X : Cx}
def tRevT (K : PySem.W.Frag) (te : TE) : TE := fun σ H Q => te σ H fun x H1 => ∃ a xs, x = .ref a ∧ SqT K H1 a xs ∧ ∀ p, H1 p = none → Q (.ref p) (upd H1 p (.tup xs.reverse))
theorem pe_revT {e : Expr} {te : TE} {k : Nat} {p1 p2 p3 pos : Pos} (he : PE X e te) : PE X (.Subscript e (.Slice none none (some (.UnaryOp .USub (.Constant (.int 1) k p1) p2)) p3) pos) (tRevT X.K te) := by
  refine ⟨fun pins s σ H Q I h => ?_⟩
  refine Subscript_ (thn (he.run pins s σ H _ I h) fun v s1 ⟨x, H1, I1, r1, q1⟩ => ?_)
  obtain ⟨a, xs, ex, hx, q⟩ := q1
  subst ex
  cases r1
  have hst : PO X (some (.UnaryOp .USub (.Constant (.int 1) k p1) p2)) (tPart (tUn (rU fun i => .int (-i)) (tC (.int 1)))) := po_some (pe_un un_neg pe_int)
  refine wpAny_Slice (thn (po_none.run pins s1 σ H1 (fun o H2 => o = none ∧ H2 = H1) I1 ⟨rfl, rfl⟩) fun vl s2 ⟨l, H2, I2, pl, el, e2⟩ => ?_)
  subst el e2
  refine thn (po_none.run pins s2 σ H2 (fun o H3 => o = none ∧ H3 = H2) I2 ⟨rfl, rfl⟩) fun vu s3 ⟨u, H3, I3, pu, eu, e3⟩ => ?_
  subst eu e3
  refine thn (hst.run pins s3 σ H3 (fun o H4 => o = some (-1) ∧ H4 = H3) I3 ⟨1, rfl, -1, rfl, rfl, rfl⟩) fun vs s4 ⟨o, H4, I4, ps, eo, e4⟩ => ?_
  subst eo e4
  have I5 : Inv X pins σ H4 { s4 with heap := s4.heap.push { cls := .type "slice", data := .fields #[vl, vu, vs] } } := I4.kept (t' := s4.toks) fun b ob q => Heap.get?_push_of_some _ q
  obtain ⟨its, r, ht, hz⟩ := I5.tuple hx
  have hlen := r.length
  show wpAny (model X.prog X.w) X.A (subscriptTail e (.Slice none none (some (.UnaryOp .USub (.Constant (.int 1) k p1) p2)) p3) (.ref a) (.ref s4.heap.objs.size)) (EP X pins σ Q) X.xe { s4 with heap := s4.heap.push { cls := .type "slice", data := .fields #[vl, vu, vs] } }
  refine tail_any (ops := [.ref a, .ref s4.heap.objs.size]) ht.typeIs (PyProof.Rows.slot_tuple_getitem.lookup) ?_ (by with_unfolding_all rfl)
  refine getItem_tuple_rev ht (Heap.IsSliceOf.new _ vl vu vs) pl pu ps ?_ (by rw [List.size_toArray]; omega)
  refine ⟨.ref _, _, I5.laid (t' := s4.toks) (o := .tup xs.reverse) (fun b ob q => Heap.get?_push_of_some _ q) (Nat.le_refl _) ?_, rfl, q _ (I5.hok.fresh (Nat.le_refl _))⟩
  exact ⟨by rw [List.length_reverse]; exact hz, _, r.reverse, IsTup.new _ _⟩
end

/-! ### enumerate(tuple) -/
theorem meets_enumerate_newT (l : Addr) (items : Array Value) :
    Meets (Builtin.«enumerate.__new__» ⟨[.type "enumerate", .ref l], []⟩) (fun _ R s => s.heap.IsTuple l items ∧
      R (.ok (.ret (.ref (s.heap.push { cls := .type "tuple_iterator", data := .fields #[.ref l, .int 0 0] }).objs.size)))
        { s with heap := (s.heap.push { cls := .type "tuple_iterator", data := .fields #[.ref l, .int 0 0] }).push { cls := .type "enumerate", data := .fields #[.none, .bool false, .ref s.heap.objs.size, rawInt 0, .none, .none] } }) :=
  .of_wp fun prog w A R s h => by
    obtain ⟨hp, g, d, tk, os⟩ := s; obtain ⟨hL, h⟩ := h
    have hsub := sub_enumerate
    wp_walk
    refine wpAny_stack_any fun st => wpAny_pure ?_
    split
    · rename_i c _ _ _ _ _
      cases (c == Value.type "enumerate")
      · wp_walk using wpAny_pyIter_tuple hL
        exact ⟨_, rfl, h⟩
      · wp_walk using wpAny_pyIter_tuple hL
        exact ⟨_, rfl, h⟩
    · wp_walk using wpAny_pyIter_tuple hL
      exact ⟨_, rfl, h⟩
theorem call_enumerate_tuple {prog : Program} {w : World} {A : Around} {E : Value → Shared → Prop} {s : Shared} {l : Addr} {items : Array Value} {Q : Value → Shared → Prop} (hL : s.heap.IsTuple l items)
    (h : ∀ h', IsEnum h' (s.heap.objs.size + 1) s.heap.objs.size 0 .none → h'.IsTupleIter s.heap.objs.size l 0 → h'.objs.size = s.heap.objs.size + 2 →
      (∀ b o, s.heap.get? b = some o → h'.get? b = some o) → Q (.ref (s.heap.objs.size + 1)) { s with heap := h' }) :
    wpAny (model prog w) A (call (.type "enumerate") [.ref l]) Q E s := by
  refine callType_new F.called_enumerate (by decide) (F.typeCall_enumerate_1 _) (F.newCall_enumerate_1 _) (fun obj => F.args_object_init_2 obj _) F.entry_enumerate_new
    (meets_enumerate_newT l items) ⟨hL, ?_⟩
  have hz : (s.heap.push { cls := .type "tuple_iterator", data := .fields #[.ref l, .int 0 0] }).objs.size = s.heap.objs.size + 1 := Heap.size_push ..
  show _ ∧ _
  rw [hz]
  have he : IsEnum ((s.heap.push { cls := .type "tuple_iterator", data := .fields #[.ref l, .int 0 0] }).push
      { cls := .type "enumerate", data := .fields #[.none, .bool false, .ref s.heap.objs.size, rawInt 0, .none, .none] }) (s.heap.objs.size + 1) s.heap.objs.size 0 .none := by
    have := Heap.get?_push_size (s.heap.push { cls := .type "tuple_iterator", data := .fields #[.ref l, .int 0 0] })
      (o := { cls := .type "enumerate", data := .fields #[.none, .bool false, .ref s.heap.objs.size, rawInt 0, .none, .none] }) rfl
    rw [hz] at this; exact this
  refine ⟨⟨_, he, rfl⟩, h _ he ⟨_, Heap.get?_push_of_some _ (Heap.get?_push_size _ rfl), rfl, rfl⟩ (by rw [Heap.size_push, hz]) fun b o x => Heap.get?_push_of_some _ (Heap.get?_push_of_some _ x)⟩
/-- the tuple at a, each item in a new pair -/
def Iet (K : PySem.W.Frag) (a : Addr) : It :=
  ⟨fun i H => ∃ (xs : List V) (x : V), SqT K H a xs ∧ xs[i]? = some x, fun i H v H' => ∃ T x, v = .ref T ∧ H T = none ∧ H' = upd H T (.tup [.int (i : Nat), x]) ∧ ∀ xs, SqT K H a xs → xs[i]? = some x, fun i H => ∃ xs : List V, SqT K H a xs ∧ xs.length ≤ i⟩
theorem turn_enumT {P : Program} {w : World} {K : PySem.W.Frag} {elts : List Expr} {kk : Nat} {tpos : Pos} (a e it : Addr) :
    Turn P w K (.Tuple elts kk tpos) (Iet K a) [e, it] e (fun i h => (∃ old, IsEnum h e it ((i : Nat) : Int) old) ∧ h.IsTupleIter it a i ∧ e ≠ it ∧ e ≠ a ∧ a ≠ it) where
  mem := by simp
  obj := fun i h st b hb => by
    obtain ⟨⟨old, he⟩, ⟨o, ho, hc, hd⟩, _⟩ := st
    have e' : b = e ∨ b = it := by simpa using hb
    rcases e' with z | z
    · rw [z]; exact ⟨_, he, fun v q => nomatch q⟩
    · rw [z]; exact ⟨o, ho, fun v q => by rw [hd] at q; cases q⟩
  keep := fun i h h' st k => let ⟨⟨old, he⟩, hi, hne⟩ := st; ⟨⟨old, k e (by simp) _ he⟩, hi.at fun o q => k it (by simp) o q, hne⟩
  item := by
    intro X hP hw hK hc i pins s σ H E I hf st hg
    subst hP hw hK
    obtain ⟨⟨old, he⟩, hit, hne, hea, hai⟩ := st
    obtain ⟨xs, x, hq, hx⟩ := hg
    obtain ⟨its, rv, p, hz⟩ := I.tuple hq
    obtain ⟨u, hu, ru⟩ := rv.get hx
    have hel : e < s.heap.objs.size := Heap.lt_size he
    have hil : it < s.heap.objs.size := by obtain ⟨_, q, _⟩ := hit; exact Heap.lt_size q
    have hilt : i < its.toArray.size := by
      rw [List.size_toArray, ← rv.length]
      exact (List.getElem?_eq_some_iff.mp hx).1
    refine wpAny_pyNext_enum_itemD (D := Draws.tuple (A := X.A.in1) (I.ok.hd hc) it a hai its.toArray) he ⟨hit, show s.heap.IsTuple a its.toArray from p⟩ hilt hne (by simp [hne, hea]) fun y h' tk hy ho hit' hT hsz hk => ?_
    have ey : y = u := by
      have h1 : its[i]? = some y := by simpa using hy
      rw [hu] at h1
      cases h1
      rfl
    subst ey
    refine ⟨_, rfl, wpAny_letOwnedTupleGo_enum (s := { s with heap := h', toks := tk + 1 }) ho fun h'' he' sb => ?_⟩
    have hT2 : h''.get? s.heap.objs.size = some { cls := .type "tuple", data := .seq #[.int i tk, y] } := (sb.2 _ (Nat.ne_of_gt hel)).trans hT
    have new : ObjOk X.prog X.w (upd H s.heap.objs.size (.tup [.int (i : Nat), x])) h'' s.heap.objs.size (.tup [.int (i : Nat), x]) :=
      ⟨by show 2 ≤ sizeLine; decide, [.int i tk, y], .cons ⟨_, rfl⟩ (.cons ru .nil), ⟨_, hT2, rfl, _, rfl⟩⟩
    have I1 : Inv X pins σ (upd H s.heap.objs.size (.tup [.int (i : Nat), x])) { s with heap := h'', toks := tk + 1 } :=
      I.turnedNew (ch := [e, it]) (fun b ob hb q => (sb.2 b (fun z => hb (by simp [z]))).trans (hk b ob (fun z => hb (by simp [z])) (fun z => hb (by simp [z])) q)) hf (Nat.le_refl _) new
    refine ⟨.ref s.heap.objs.size, _, I1, rfl, ⟨_, x, rfl, I.hok.fresh (Nat.le_refl _), rfl, fun ys hy => by rw [I.tuple_inj hy hq]; exact hx⟩, ⟨⟨y, ?_⟩, hit'.1.at fun o q => (sb.2 it (Ne.symm hne)).trans q, hne, hea, hai⟩, fun b hb => ?_⟩
    · have e1 : ((i + 1 : Nat) : Int) = (i : Int) + 1 := by omega
      rw [e1]; exact he'
    · have hb' : b < s.heap.objs.size := by
        have e' : b = e ∨ b = it := by simpa using hb
        rcases e' with z | z
        · rw [z]; exact hel
        · rw [z]; exact hil
      rw [upd_ne (Nat.ne_of_lt hb')]
      exact (hf b hb).1
  done := by
    intro X hP hw hK hc i pins s σ H E I hf st hg
    subst hP hw hK
    obtain ⟨⟨old, he⟩, hit, hne, hea, hai⟩ := st
    obtain ⟨xs, hq, hx⟩ := hg
    obtain ⟨its, rv, p, hz⟩ := I.tuple hq
    obtain ⟨f0, f1, f2, f3, f4, f5⟩ := hf it (by simp)
    have hl := rv.length
    have hT : s.TypeIs (.ref e) "enumerate" := ⟨_, he, rfl⟩
    unfold pyNext
    refine wpAny_bind (wpAny_attempt (wpAny_callSpecial?_slot (name := Str.ofString "__next__") hT F.slot_enumerate_next
      (wpAny_call_entry F.slot_enumerate_next hT F.entry_enumerate_next ?_ (F.args_enumerate_next_1 _))))
    show wpAny _ _ (field (.ref e) 2 >>= _) _ _ _
    refine wpAny_bind (wpAny_field he rfl (x := .ref it) rfl ?_)
    refine wpAny_bind (wpAny_nextOf_tuple_end (A := X.A.in1) (I.ok.hd hc) hit (show s.heap.IsTuple a its.toArray from p) (by simp; omega) fun h' x he' hx' => ?_)
    obtain ⟨o, ho, hcx⟩ := hx'
    refine wpAny_bind (wpAny_isInstance (T := "StopIteration") (b := true) ⟨o, ho, hcx⟩ isSubtype_stop ?_)
    exact wpAny_pure ⟨rfl, I.turned (t' := s.toks) (fun b o hb q => he' b o hb q) f0 f1 f3 f4 f5⟩
  self := fun A i s Q E st h => let ⟨⟨_, he⟩, _⟩ := st; wpAny_pyIter_enum he h
def iEnumT (K : PySem.W.Frag) (ta : TA) : TI := fun σ H R => ta σ H fun vs H1 => ∃ a xs, vs = [.ref a] ∧ SqT K H1 a xs ∧ R (Iet K a) H1
theorem pi_enumT {X : Cx} {e : Expr} {ta : TA} {p pos tpos : Pos} {elts : List Expr} {kk : Nat} (hg : Gl X "enumerate") (hm : X.mg "enumerate" = none) (ha : PA X [e] ta) (hs : starEach [e] X.env = [(false, eval e X.env)] := by exact starC rfl) :
    PI X (.Tuple elts kk tpos) (.Call (.Name "enumerate" p) [e] [] pos) (iEnumT X.K ta) := by
  refine ⟨fun pins s σ H R I h => ?_⟩
  refine Call_ (ld_blt I hg hm boot_enumerate (PyProof.Rows.callWith_type1 (thn (ha.run pos pins s σ H _ I h) fun us s1 ⟨vs, H1, I1, r1, q1⟩ => ?_) hs rfl))
  obtain ⟨a, xs, ex, hq, q⟩ := q1
  subst ex
  cases r1 with
  | cons r rr =>
    cases rr
    cases r
    obtain ⟨its, rv, p', hz⟩ := I1.tuple hq
    have hal : a < s1.heap.objs.size := by obtain ⟨_, q, _⟩ := p'; exact Heap.lt_size q
    refine call_enumerate_tuple (show s1.heap.IsTuple a its.toArray from p') fun h' he hit hsz hk => wpAny_pyIter_enum he ?_
    have I2 : Inv X pins σ H1 { s1 with heap := h' } := I1.kept (t' := s1.toks) hk
    refine ⟨s1.heap.objs.size + 1, [s1.heap.objs.size + 1, s1.heap.objs.size], _, _, H1, rfl, I2, turn_enumT a (s1.heap.objs.size + 1) s1.heap.objs.size, ⟨⟨.none, he⟩, hit, Nat.succ_ne_self _, Nat.ne_of_gt (Nat.lt_succ_of_lt hal), Nat.ne_of_lt hal⟩, fun b hb => ?_, q⟩
    have e' : b = s1.heap.objs.size + 1 ∨ b = s1.heap.objs.size := by simpa using hb
    have hle : s1.heap.objs.size ≤ b := by
      rcases e' with z | z
      · rw [z]; exact Nat.le_add_right _ _
      · rw [z]; exact Nat.le_refl _
    exact I1.fpOk hle (I1.hok.fresh hle)
end D

namespace D
open PySem L2 Evl
section
variable {κ : Type} {M : Mem κ} {X : Cx} {ρ : Rho} {k k1 k2 k3 : κ} {pos : Pos}
theorem se_revT {a : Expr} {ds : List PyData} {j' : Nat} {p1 p2 p3 : Pos} (ha : SE M X a ρ k (.d (.tuple ds)) k1) : SE M X (.Subscript a (.Slice none none (some (.UnaryOp .USub (.Constant (.int 1) j' p1) p2)) p3) pos) ρ k (.d (.tuple ds.reverse)) k1 :=
  SE.of (pe_revT (pes (M := M))) fun σ H s q => ⟨ρ, k, _, k1, ha, s, q, fun v H1 p => by
    have hv : Dp X.K (M.im H1) v (.tuple ds) := p.2.2
    cases hv with
    | tup h1 h2 => exact ⟨_, _, rfl, ex_t (M.sub H1) h1, fun p0 hp => (new_tup p.2.1 h2.rev p0 hp).back p.1⟩⟩
theorem for_et {K : PySem.W.Frag} {a : Addr} {xs : List V} {g : TG} {tb : TS} {D : Ends} {σ : St} {H : Hp} (Pv : Nat → St → Hp → Prop) (h0 : Pv 0 σ H) (hl : ∀ i σ H, i ≤ xs.length → Pv i σ H → SqT K H a xs)
    (hs : ∀ i x σ H T, xs[i]? = some x → Pv i σ H → H T = none → g (.ref T) σ (upd H T (.tup [.int (i : Nat), x])) fun σ2 H2 => tb { D with nx := Pv (i + 1), ct := Pv (i + 1), bk := D.nx } σ2 H2) (hd : ∀ σ H, Pv xs.length σ H → D.nx σ H) :
    ∃ W : Nat → Nat → St → Hp → Prop, (∃ m, W 0 m σ H) ∧ ∀ i m σ H, W i m σ H →
      ((Iet K a).stop i H ∧ D.nx σ H) ∨ ((Iet K a).go i H ∧ ∃ N : St → Hp → Prop, (∀ σ' H', N σ' H' → ∃ m', m' < m ∧ W (i + 1) m' σ' H') ∧ ∀ x H', (Iet K a).yld i H x H' → g x σ H' fun σ2 H2 => tb { D with nx := N, ct := N, bk := D.nx } σ2 H2) := by
  refine ⟨fun i m σ H => m = xs.length - i ∧ i ≤ xs.length ∧ Pv i σ H, ⟨xs.length, by simp, Nat.zero_le _, h0⟩, ?_⟩
  rintro i m σ H ⟨rfl, hi, p⟩
  have q := hl i σ H hi p
  by_cases hlt : i < xs.length
  · refine .inr ⟨⟨xs, xs[i], q, by simp [hlt]⟩, Pv (i + 1), fun σ' H' p' => ⟨xs.length - (i + 1), by omega, rfl, hlt, p'⟩, fun x H' y => ?_⟩
    obtain ⟨T, z, e1, e2, e3, e4⟩ := y
    subst e1 e3
    exact hs i z σ H T (e4 xs q) p e2
  · have e : i = xs.length := by omega
    subst e
    exact .inl ⟨⟨xs, q, Nat.le_refl _⟩, hd σ H p⟩
theorem ss_forE {es : List Expr} {kk : Nat} {tpos p1 p2 : Pos} {e : Expr} {body : List Stmt} {f : PyData → Rho → Option Rho} {ds : List PyData} {P : Pst κ} (hp : PassesOwn (model X.prog X.w) X.A X.env X.xe) (hc : X.calm = true) (hm : X.mg "enumerate" = none) (ht : TGt M X (.Tuple es kk tpos) f) (he : SE M X e ρ k (.d (.tuple ds)) k1) (W : Nat → Rho → κ → Prop) (h0 : W 0 ρ k1)
    (turn : ∀ (i : Nat) d ρ k, ds[i]? = some d → W i ρ k → ∃ ρ', f (.tuple [.int (i : Int), d]) ρ = some ρ' ∧ SB M X body ρ' k { nx := W (i + 1), ct := W (i + 1), bk := P.nx, rt := P.rt }) (hd : ∀ ρ k, W ds.length ρ k → P.nx ρ k)
    (hg : Gl X "enumerate" := by rfl) (hst : starEach [e] X.env = [(false, eval e X.env)] := by exact starC rfl) (hs : ∀ x, foldedSetIterable (.Call (.Name "enumerate" p1) [e] [] p2) X.env x = pure x := by intro _; rfl) : SS M X (.For (.Tuple es kk tpos) (.Call (.Name "enumerate" p1) [e] [] p2) body [] pos) ρ k P := by
  obtain ⟨g, hg', hG⟩ := ht
  refine ⟨fun pins s σ0 H0 I a0 b0 => ?_⟩
  refine (ps_for hp hc (pi_enumT hg hm (pas (M := M)) hst) hg' (psb (M := M)) hs).run pins s σ0 H0 _ I ?_
  refine ⟨ρ, k, [.d (.tuple ds)], k1, sa1 he hst, a0, b0, fun vs H1 p => ?_⟩
  obtain ⟨v, ev, hv⟩ := one_d p.2.2
  have hv' : Dp X.K (M.im H1) v (.tuple ds) := hv
  subst ev
  cases hv' with
  | @tup la xs _ h1 h2 =>
    have hL : ∀ {H}, Ex (M.im H1) (M.im H) → SqT X.K H la xs := fun e => ex_t (M.sub _) (ex_t e h1)
    have hlen := dpl h2
    refine ⟨la, xs, rfl, hL (Ex.refl _), for_et (xs := xs) (fun i σ H => Ex (M.im H1) (M.im H) ∧ PoS M X H0 (W i) σ H) ⟨Ex.refl _, ρ, k1, I.len, p.1, p.2.1, a0.ex p.1, h0⟩ (fun i σ H _ q => hL q.1) ?_ ?_⟩
    · rintro i x σ H T' hx ⟨e1, ρ1, k2, hl, e, o, sl, w⟩ hT
      obtain ⟨d, hd1, hd2⟩ := dpget' h2 hx
      obtain ⟨ρ', hf, hb⟩ := turn i d ρ1 k2 hd1 w
      obtain ⟨u1, u2, u3⟩ := new_tup (M := M) (X := X) (ds := [.int (i : Int), d]) o (.cons (.int _) (.cons (dpx e1 d x hd2) .nil)) T' hT
      refine hG σ _ (.ref T') (.tuple [.int (i : Int), d]) ρ1 ρ' _ hl (sl.ex u1) u3 hf fun σ' hl' hs' => ?_
      have e2 := e.trans u1
      refine ⟨ρ', k2, _, hb, hs', u2, fun σ'' H'' q => ?_, fun v H'' q => q.trans e2, fun σ'' H'' q => q.trans e2, fun σ'' H'' q => ?_⟩
      · obtain ⟨ρ3, k3, l3, x1, x2, x3, x4⟩ := q
        exact ⟨(e1.trans u1).trans x1, ρ3, k3, l3, e2.trans x1, x2, x3, x4⟩
      · obtain ⟨ρ3, k3, l3, x1, x2, x3, x4⟩ := q
        exact ⟨(e1.trans u1).trans x1, ρ3, k3, l3, e2.trans x1, x2, x3, x4⟩
    · rintro σ H ⟨_, q⟩
      rw [hlen] at q
      exact q.mono hd
end

/-! ### a def that is handed a list of one's own, and changes it -/
def spX (K : PySem.W.Frag) (rel : List R → List PyData → R → List PyData → Prop) : Sp := fun vs H Q _ => ∃ (S : List Addr) (p : Addr) (us : List V) (rs : List R) (ds : List PyData) (r : R) (ds' : List PyData), p ∉ S ∧ rel rs ds r ds' ∧ vs = .ref p :: us ∧ RPs K (les (p :: S) H) us rs ∧
  (oL K (MS S H) p).ok ((), ds) H ∧ ∀ v H', Ex (les [p] H) (les [p] H') → (oL K (MS S H) p).ok ((), ds') H' → RP K (les (p :: S) H') v r → Q v H'
structure ClX (P : Program) (w : World) (K : PySem.W.Frag) (mg : Str → Option Value) (base : Heap) (n : Nat) (x : Str) (rel : List R → List PyData → R → List PyData → Prop) : Prop where
  h : ∃ (f : Addr) (fd : FuncData) (ps : List Str), FnOk P w K mg base CX0 n f fd ps (spX K rel) ∧ mg x = some (.ref f) ∧ PySem.W.keepIn K (.ref f) = true ∧ Binds K fd ps []
section
variable {κ : Type} {M : Mem κ} {X : Cx} {ρ : Rho} {k k1 k2 k3 : κ} {pos : Pos}
theorem se_callX {pp : Addr} {n m : Nat} {x : Str} {rel : List R → List PyData → R → List PyData → Prop} {e : Expr} {es : List Expr} {rs : List R} {r : R} {p : Pos} {ds ds1 ds2 : List PyData} (hn' : pp ∉ M.S) (c : ClX X.prog X.w X.K X.mg X.base n x rel) (hr : Room m X.A) (hn : n ≤ m) (ha : SA (oL X.K M pp) X (e :: es) ρ (k, ds) (.r (.ref pp) :: rs) (k1, ds1)) (h : rel rs ds1 r ds2)
    (hg : Gl X x := by rfl) (hdb : (x == ("__debug__" : Str)) = false := by decide) (he : starEach (e :: es) X.env = (false, eval e X.env) :: starEach es X.env := by exact starC rfl) (hpl : (backTo pos (starEach es X.env)).any (·.1) = false := by rfl) :
    SE (oL X.K M pp) X (.Call (.Name x p) (e :: es) [] pos) ρ (k, ds) r (k1, ds2) := by
  obtain ⟨f, fd, ps, F, hm, hk, hb⟩ := c.h
  refine SE.of (pe_call F (hr.mono hn) hg hm hk hb .nil pass0 (pas (M := oL X.K M pp)) hdb he hpl) fun σ H s q => ⟨ρ, _, _, _, ha, s, q, fun vs H1 p => ?_⟩
  show spX X.K rel (vs ++ []) H1 _ _
  rw [List.append_nil]
  obtain ⟨p1, p2, p3⟩ := p
  cases p3 with
  | @cons v0 us _ _ h1 h2 =>
    have e0 : v0 = .ref pp := h1
    subst e0
    obtain ⟨q1, q2⟩ := p2
    have im : (oL X.K M pp).im H1 = les (pp :: M.S) H1 := rfl
    refine ⟨M.S, pp, us, rs, ds1, r, ds2, hn', h, rfl, h2, ⟨fun a ha => ?_, q2⟩, fun v H' e o hv => ?_⟩
    · obtain ⟨u, hu⟩ := M.th q1 a ha
      exact ⟨u, hu, hu⟩
    · have ei : Ex ((oL X.K M pp).im H1) ((oL X.K M pp).im H') := fun a u z => by
        have z' : les (pp :: M.S) H1 a = some u := z
        by_cases hx : a ∈ pp :: M.S
        · rw [les_in hx] at z'
          cases z'
        · rw [les_out hx] at z'
          show les (pp :: M.S) H' a = some u
          rw [les_out hx]
          have hx1 : a ∉ [pp] := fun y => hx (by rw [List.mem_singleton] at y; rw [y]; exact List.mem_cons_self)
          have := e a u (by rw [les_out hx1]; exact z')
          rw [les_out hx1] at this
          exact this
      refine ⟨p1.trans ei, ⟨M.fr q1 ei fun a ha => ?_, o.2⟩, hv⟩
      obtain ⟨u, hu⟩ := M.th q1 a ha
      have hx1 : a ∉ [pp] := fun y => hn' (by rw [List.mem_singleton] at y; rw [← y]; exact ha)
      have := e a u (by rw [les_out hx1]; exact hu)
      rw [les_out hx1] at this
      rw [this, hu]
abbrev P1X (r : R) (ds : List PyData) : Pst (Unit × List PyData) := ⟨fun _ _ => False, fun q k => q = r ∧ k.2 = ds, fun _ _ => False, fun _ _ => False⟩
theorem body_readsX {K : PySem.W.Frag} {X : Cx} {sts : List Stmt} {S : List Addr} {p : Addr} {us : List V} {rs : List R} {r : R} {ds ds' : List PyData} {H : Hp} {Q : VK} {E : XK} (hX : X.K = K) (hv : RPs K (les (p :: S) H) us rs) (ho : (oL K (MS S H) p).ok ((), ds) H) (hq : ∀ v H', Ex (les [p] H) (les [p] H') → (oL K (MS S H) p).ok ((), ds') H' → RP K (les (p :: S) H') v r → Q v H')
    (hb : SB (oL X.K (MS S H) p) X sts (some (.r (.ref p)) :: rs.map some ++ List.replicate (X.N.length - (rs.length + 1)) none) ((), ds) (P1X r ds')) : tSB (oL X.K (MS S H) p) X sts { nx := fun _ H' => Q .non H', rt := Q } (L2.start X.N (.ref p :: us)) H := by
  subst hX
  refine ⟨_, _, _, hb, start_sl (rs := .r (.ref p) :: rs) (.cons rfl hv), ho, fun σ' H' q => ?_, fun v H' q => ?_, fun σ' H' q => ?_, fun σ' H' q => ?_⟩
  · obtain ⟨ρ', k', l, e, o, sl, n⟩ := q
    exact n.elim
  · obtain ⟨r', k', ⟨e, o, rp⟩, n1, n2⟩ := q
    obtain ⟨k1, k2⟩ := k'
    have n1' : r' = r := n1
    have n2' : k2 = ds' := n2
    subst n1' n2'
    refine hq _ _ (fun a u z => ?_) o rp
    by_cases hx1 : a ∈ [p]
    · rw [les_in hx1] at z
      cases z
    · rw [les_out hx1] at z ⊢
      by_cases hx : a ∈ S
      · obtain ⟨u', g1, g2⟩ := o.1 a hx
        rw [g1] at z
        cases z
        exact g2
      · have hx2 : a ∉ p :: S := fun y => by
          rcases List.mem_cons.mp y with y | y
          · exact hx1 (by rw [y]; exact List.mem_singleton_self _)
          · exact hx y
        have := e a u (by show les (p :: S) H a = _; rw [les_out hx2]; exact z)
        have t : les (p :: S) H' a = some u := this
        rw [les_out hx2] at t
        exact t
  · obtain ⟨ρ', k', l, e, o, sl, n⟩ := q
    exact n.elim
  · obtain ⟨ρ', k', l, e, o, sl, n⟩ := q
    exact n.elim
theorem fn_box {P : Program} {w : World} {K : PySem.W.Frag} {mg : Str → Option Value} {base : Heap} {x : Str} {st : Stmt} {f : Addr} {fd : FuncData} {N ps : List Str} {n : Nat} {rel : List R → List PyData → R → List PyData → Prop} (F : Fun K x x st f fd) (S : FnScope N ps (defScope st)) (hl : ∀ rs ds r ds', rel rs ds r ds' → rs.length + 1 = ps.length)
    (hb : ∀ (cdv : Value) (A : Around) (outer : List Env) (s : Shared) (H : Hp) (E : XK) (rs : List R) (ds : List PyData) (r : R) (ds' : List PyData) (S : List Addr) (H0 : Hp) (p : Addr), Room n (CXB P w K mg base N x (defScope st) f cdv A outer s H E).A → p ∉ (MS S H0).S → rel rs ds r ds' →
      SB (oL K (MS S H0) p) (CXB P w K mg base N x (defScope st) f cdv A outer s H E) (defBody st) (some (.r (.ref p)) :: rs.map some ++ List.replicate (N.length - (rs.length + 1)) none) ((), ds) (P1X r ds')) :
    FnOk P w K mg base CX0 (n + 1) f fd ps (spX K rel) := by
  refine F.ok S (fun vs H Q E h => ?_) fun cdv A outer s H vs Q E hr h => ?_
  · obtain ⟨S, p, us, rs, ds, r, ds', h0, h1, rfl, h2, _⟩ := h
    rw [List.length_cons, h2.len, hl rs ds r ds' h1]
  · obtain ⟨S, p, us, rs, ds, r, ds', h0, h1, rfl, h2, h3, h4⟩ := h
    exact ⟨_, psb (M := oL K (MS S H) p), body_readsX (K := K) (E := E) (X := CXB P w K mg base N x (defScope st) f cdv A outer s H E) rfl h2 h3 h4 (hb cdv A outer s H E rs ds r ds' S H p hr h0 h1)⟩
theorem clX_of {P : Program} {w : World} {K : PySem.W.Frag} {mg : Str → Option Value} {base : Heap} {x : Str} {f : Addr} {fd : FuncData} {ps : List Str} {n : Nat} {rel : List R → List PyData → R → List PyData → Prop} (F : FnOk P w K mg base CX0 n f fd ps (spX K rel)) (hm : mg x = some (.ref f)) (hk : PySem.W.keepIn K (.ref f) = true) (hb : Binds K fd ps []) : ClX P w K mg base n x rel :=
  ⟨f, fd, ps, F, hm, hk, hb⟩

/-! ### a, b = box; box[1] = e -/
variable {pp : Addr} {ds : List PyData}
theorem ss_unbox (i j b : Nat) {x y z : Str} {px py p pz : Pos} {kt : Nat} {d1 d2 : PyData} {P : Pst (κ × List PyData)} (hc : X.calm = true) (hNd : X.N.Nodup) (hq : P.nx ((ρ.set i (some (.d d1))).set j (some (.d d2))) (k, [d1, d2])) (hr : ρ[b]? = some (some (.r (.ref pp))) := by rfl) (hN : X.N[b]? = some z := by rfl) (hvz : Vis X.env.scope z := by first | exact Or.inl rfl | exact Or.inr (Or.inl rfl) | exact Or.inr (Or.inr rfl)) (hd : (z == ("__debug__" : Str)) = false := by decide)
    (hcd : (z == ("__classdict__" : Str)) = false := by decide) (hi : X.N[i]? = some x := by rfl) (hj : X.N[j]? = some y := by rfl) (hx : Loc X.env.scope x := by first | exact Or.inl rfl | exact Or.inr rfl) (hy : Loc X.env.scope y := by first | exact Or.inl rfl | exact Or.inr rfl)
    (hf : X.fn x = true ∨ X.env.scope.names.lookup x = some .local := by first | exact .inl rfl | exact .inr rfl | assumption) (hg : X.fn y = true ∨ X.env.scope.names.lookup y = some .local := by first | exact .inl rfl | exact .inr rfl | assumption)
    (hs2 : (assignEach ([.Name y py] : List Expr) X.env).map (·.2) = assign (.Name y py) X.env :: (assignEach [] X.env).map (·.2) := by rfl) (hs1 : (assignEach ([.Name x px, .Name y py] : List Expr) X.env).map (·.2) = assign (.Name x px) X.env :: (assignEach [.Name y py] X.env).map (·.2) := by rfl)
    (hn : (assignEach ([.Name x px, .Name y py] : List Expr) X.env).length = 2 := by rfl) (hst : (assignEach ([.Name x px, .Name y py] : List Expr) X.env).findIdx? (·.1) = none := by rfl)
    (hs : swapsWithSole [.Tuple [.Name x px, .Name y py] kt p] (.Name z pz) pos.line X.env = pure false := by rfl) (hw : swappedStores [.Tuple [.Name x px, .Name y py] kt p] (.Name z pz) X.env = pure none := by rfl)
    (h1 : (assignEach [.Tuple [.Name x px, .Name y py] kt p] X.env).map (·.2) = [assign (.Tuple [.Name x px, .Name y py] kt p) X.env] := by rfl) {K : PySem.W.Frag} (hK : X.K = K := by rfl) :
    SS (oL K M pp) X (.Assign [.Tuple [.Name x px, .Name y py] kt p] (.Name z pz) pos) ρ (k, [d1, d2]) P := by
  subst hK
  refine ⟨fun pins s σ H I a b0 => ?_⟩
  refine (ps_asg (pes (M := oL X.K M pp)) (pg_unl (X := X) (n := 2) hc (pgs_cons (pg_name (i := i) hNd hi hx hf) (pgs_cons (pg_name (i := j) hNd hj hy hg) pgs_nil hs2) hs1) hn hst) hs hw h1).run pins s σ H _ I ?_
  refine ⟨ρ, _, _, _, se_v b hr hN hvz hd hcd, a, b0, fun v H1 q => ?_⟩
  have ev : v = .ref pp := q.2.2
  subst ev
  obtain ⟨vs, g1, g2⟩ := oL_at q.2.1
  cases g2 with
  | cons a1 g2 =>
    cases g2 with
    | cons a2 g2 =>
      cases g2
      refine ⟨_, _, rfl, sq_of g1, rfl, _, _, rfl, _, _, rfl, rfl, ?_⟩
      refine ⟨_, _, by rw [List.length_set, List.length_set]; exact I.len, q.1, q.2.1, ?_, hq⟩
      exact ((a.ex q.1).set (by rw [I.len]; exact (List.getElem?_eq_some_iff.mp hi).1) (r := .d d1) a1).set (by rw [List.length_set, I.len]; exact (List.getElem?_eq_some_iff.mp hj).1) (r := .d d2) a2
theorem ss_setBox (b : Nat) {K : PySem.W.Frag} {z : Str} {pz p p2 : Pos} {j : Nat} {e : Expr} {d1 d2 d3 : PyData} {P : Pst (κ × List PyData)} (hnS : pp ∉ M.S) (he : SE (oL K M pp) X e ρ (k, [d1, d2]) (.d d3) (k1, [d1, d2])) (hq : P.nx ρ (k1, [d1, d3])) (hr : ρ[b]? = some (some (.r (.ref pp))) := by rfl) (hN : X.N[b]? = some z := by rfl) (hvz : Vis X.env.scope z := by first | exact Or.inl rfl | exact Or.inr (Or.inl rfl) | exact Or.inr (Or.inr rfl)) (hd : (z == ("__debug__" : Str)) = false := by decide)
    (hcd : (z == ("__classdict__" : Str)) = false := by decide)
    (ha : ∀ v, assign (.Subscript (.Name z pz) (.Constant (.int 1) j p2) p) X.env v = (do
      let ov ← holding [v] (eval (.Name z pz) X.env)
      let iv ← holding [v, ov] (eval (.Constant (.int 1) j p2) X.env)
      standAt p
      holding [v, ov, iv] (setItem ov iv v)
      release [v, ov, iv] []) := by intro _; rfl)
    (hs : swapsWithSole [.Subscript (.Name z pz) (.Constant (.int 1) j p2) p] e pos.line X.env = pure false := by rfl) (hw : swappedStores [.Subscript (.Name z pz) (.Constant (.int 1) j p2) p] e X.env = pure none := by rfl)
    (h1 : (assignEach [.Subscript (.Name z pz) (.Constant (.int 1) j p2) p] X.env).map (·.2) = [assign (.Subscript (.Name z pz) (.Constant (.int 1) j p2) p) X.env] := by rfl) (hK : X.K = K := by rfl) :
    SS (oL K M pp) X (.Assign [.Subscript (.Name z pz) (.Constant (.int 1) j p2) p] e pos) ρ (k, [d1, d2]) P := by
  subst hK
  refine ⟨fun pins s σ H I a b0 => ?_⟩
  refine (ps_asg (pes (M := oL X.K M pp)) (pg_sub (pes (M := oL X.K M pp)) (pes (M := oL X.K M pp)) set_list ha) hs hw h1).run pins s σ H _ I ?_
  refine ⟨ρ, _, _, _, he, a, b0, fun v H1 q => ?_⟩
  refine ⟨ρ, _, _, _, se_v b hr hN hvz hd hcd, a.ex q.1, q.2.1, fun o H2 q2 => ?_⟩
  refine ⟨ρ, _, _, _, se_int (i := 1), (a.ex q.1).ex q2.1, q2.2.1, fun iv H3 q3 => ?_⟩
  have ev : o = .ref pp := q2.2.2
  subst ev
  have hi : Dp X.K ((oL X.K M pp).im H3) iv (.int 1) := q3.2.2
  cases hi
  obtain ⟨vs, g1, g2⟩ := oL_at q3.2.1
  cases g2 with
  | cons a1 g2 =>
    cases g2 with
    | cons a2 g2 =>
      cases g2
      refine ⟨pp, _, 1, 1, rfl, rfl, g1, ?_, ?_⟩
      · unfold ixN
        rw [if_pos (by decide), if_pos (by simp)]
        rfl
      · have hv : Dp X.K ((oL X.K M pp).im H3) v d3 := dpx (q2.1.trans q3.1) d3 v q.2.2
        obtain ⟨o2, ex⟩ := oL_set (d' := [d1, d3]) q3.2.1 hnS (.cons a1 (.cons hv .nil))
        have e0 := ((q.1.trans q2.1).trans q3.1).trans ex
        exact ⟨_, _, I.len, e0, o2, a.ex e0, hq⟩
end
end D

namespace D
open PySem L2 Evl
section
variable {P : Program} {w : World} {K : PySem.W.Frag} {mg : Str → Option Value} {base : Heap} {f : Addr} {fd : FuncData}
def relPutAll : List R → R → Prop := fun rs r => ∃ (t : T) (vs : List T), rs = [.d (enc t), .d (.tuple (vs.map enc))] ∧ vs.length ≤ 2 ∧ t.dep ≤ 10 ∧ (∀ v ∈ vs, v.dep ≤ 10) ∧ r = .d (enc (T.puts vs.length t vs.reverse 0))
theorem ok_putAll (G : Glo K mg) (F : Fun K "put_all" "put_all" sPutAll f fd) (cP : Cl P w K mg base 81 "put" [] relPut) (cL : Cl P w K mg base 40 "lifted" [.d (.int 0)] (relLift 30)) : FnOk P w K mg base CX0 82 f fd ["term", "values"] (spP K relPutAll) := by
  refine fn_pure F scPutAll (fun rs r h => by obtain ⟨t, vs, rfl, _⟩ := h; rfl) fun cdv A outer s H E rs r S H0 hr h => ?_
  have nd := scPutAll.nd
  obtain ⟨t, vs, rfl, hl, ht, hv, rfl⟩ := h
  refine sb_cons (ss_let 2 nd (se_v 0) ?_)
  refine sb_cons (ss_forE PassesOwn.never rfl G.enum (tg_two (i := 3) (j := 4) rfl nd) (se_revT (se_v 1)) (fun i ρ k => ∃ y z, ρ = [some (.d (enc t)), some (.d (.tuple (vs.map enc))), some (.d (enc (T.puts vs.length t (vs.reverse.take i) 0))), y, z]) ⟨none, none, rfl⟩ (fun i d ρ k hd hw => ?_) (fun ρ k hw => ?_))
  · obtain ⟨y, z, rfl⟩ := hw
    rw [← List.map_reverse] at hd
    obtain ⟨u, hu, rfl⟩ := map_at hd
    have hmem : u ∈ vs := List.mem_reverse.mp (List.mem_of_getElem? hu)
    have hdu := hv u hmem
    have hdp := T.puts_dep vs.length 10 (vs.reverse.take i) t 0 fun w hw => hv w (List.mem_reverse.mp (List.mem_of_mem_take hw))
    have hlt : (vs.reverse.take i).length ≤ 1 := by
      have := (List.getElem?_eq_some_iff.mp hu).1
      rw [List.length_reverse] at this
      rw [List.length_take, List.length_reverse]
      omega
    refine ⟨_, rfl, sb_cons (ss_let 2 nd (se_call cP hr (by omega) (sa_cons (se_v 2) (sa_cons (se_call cL hr (by omega) (sa_cons (se_v 4) (sa_cons (se_sub (se_sub (se_lenT G.len (se_v 1)) se_int) (se_v 3)) (sa_cons se_int sa_nil))) ⟨u, _, _, 0, rfl, by omega, by omega, rfl⟩) sa_nil)) ⟨_, _, rfl, by omega, by rw [T.lift_dep]; omega, rfl⟩) (sb_nil ⟨some (.d (.int (i : Int))), some (.d (enc u)), ?_⟩))⟩
    rw [T.puts_take t hu, List.length_map]
    rfl
  · obtain ⟨y, z, rfl⟩ := hw
    have e : vs.reverse.take (vs.map enc).reverse.length = vs.reverse := by rw [List.length_reverse, List.length_map, ← List.length_reverse, List.take_length]
    rw [e]
    exact sb_cons (ss_ret (se_v 2) rfl)
end
end D

namespace D
open PySem L2 Evl
/-! ### the digits, the draws -/
def iter {α : Type} (f : Nat → α → α) : Nat → α → α
  | 0, a => a
  | n + 1, a => f n (iter f n a)
def bigI (st : List Int × Int) : List Int × Int := if 0 < st.2 then (st.1 ++ [st.2 % 1009], st.2 / 1009) else st
def smallI (t : Nat) (st : List Int × Int) : List Int × Int := (st.1 ++ [((st.2 * 16807 + (t : Int) * 7 + 1) % 2147483647) / 997 % 1009], (st.2 * 16807 + (t : Int) * 7 + 1) % 2147483647)
def cellAt (ns : List Int) (k : Nat) : Int := ns.getD k 0
def absC (c : Int) : Int := if c < 0 then 1 - c * 2 else c
def cellS (k : Nat) (c : Int) (acc : List Int) : List Int :=
  if (1000000000000000000 : Int) ≤ c then (iter (fun _ => bigI) 60 (acc, c)).1 else (iter smallI 12 (acc, (c * 48271 + ((k : Int) + 1) * 69621 + 11) % 2147483647)).1
def digs (ns : List Int) (n : Nat) : List Int := iter (fun k acc => cellS k (absC (cellAt ns k)) acc) n []
theorem big1 (st : List Int × Int) : (bigI st).1.length ≤ st.1.length + 1 := by
  unfold bigI
  split
  · rw [List.length_append, List.length_singleton]; omega
  · omega
theorem small1 (t : Nat) (st : List Int × Int) : (smallI t st).1.length ≤ st.1.length + 1 := by
  unfold smallI
  rw [List.length_append, List.length_singleton]
  omega
theorem big_len : ∀ (n : Nat) (st : List Int × Int), (iter (fun _ => bigI) n st).1.length ≤ st.1.length + n
  | 0, st => Nat.le_refl _
  | n + 1, st => Nat.le_trans (big1 (iter (fun _ => bigI) n st)) (Nat.succ_le_succ (big_len n st))
theorem small_len : ∀ (n : Nat) (st : List Int × Int), (iter smallI n st).1.length ≤ st.1.length + n
  | 0, st => Nat.le_refl _
  | n + 1, st => Nat.le_trans (small1 n (iter smallI n st)) (Nat.succ_le_succ (small_len n st))
theorem cell_len (k : Nat) (c : Int) (acc : List Int) : (cellS k c acc).length ≤ acc.length + 60 := by
  unfold cellS
  split
  · exact big_len 60 (acc, c)
  · have := small_len 12 (acc, (c * 48271 + ((k : Int) + 1) * 69621 + 11) % 2147483647)
    simp only at this ⊢
    omega
theorem digs_len (ns : List Int) : ∀ n : Nat, (digs ns n).length ≤ 60 * n
  | 0 => Nat.le_refl _
  | n + 1 => by
    have h1 := digs_len ns n
    have h2 := cell_len n (absC (cellAt ns n)) (digs ns n)
    show (cellS n (absC (cellAt ns n)) (digs ns n)).length ≤ _
    omega
def drawN (ds : List Int) (m : Int) (a : Nat) : Int := if a < ds.length then ds.getD a 0 % m else ((a : Int) * a * 3 + a * 4 + (a : Int) / 3 + 1) % m
theorem draw_nn (ds : List Int) {m : Int} (a : Nat) (h : 0 < m) : 0 ≤ drawN ds m a ∧ drawN ds m a < m := by
  unfold drawN
  split
  · exact ⟨Int.emod_nonneg _ (by omega), Int.emod_lt_of_pos _ h⟩
  · exact ⟨Int.emod_nonneg _ (by omega), Int.emod_lt_of_pos _ h⟩
end D
namespace D
open PySem L2 Evl
abbrev box (ds : List Int) (a : Nat) : List PyData := [.list (ds.map .int), .int (a : Int)]
def nmP (ds : List Int) (a : Nat) : Str := (["x", "_", "a"] : List Str).getD (drawN ds 3 a).toNat "a"
def leafP (ds : List Int) (a : Nat) : Lf := [Lf.sort (drawN ds 4 a).toNat, .ca, .nat, .mk, .el, .cb].getD (drawN ds 6 (a + 1)).toNat .cb
def anyL (ds : List Int) (free : Int) (a : Nat) : T × Nat := if 0 < drawN ds 3 (a + 1) then (.var (drawN ds free (a + 2)), a + 3) else (.lf (leafP ds (a + 2)), a + 4)
def anyT (ds : List Int) : Nat → Int → Nat → T × Nat
  | 0, free, a => anyL ds free a
  | d + 1, free, a =>
    if drawN ds 9 a < 3 then anyL ds free a
    else if drawN ds 9 a < 6 then
      (.app (anyT ds d free (a + 2)).1 (anyT ds d free (anyT ds d free (a + 2)).2).1, (anyT ds d free (anyT ds d free (a + 2)).2).2)
    else if drawN ds 9 a = 8 then
      (.lt (nmP ds (a + 1)) (anyT ds d free (a + 2)).1 (anyT ds d free (anyT ds d free (a + 2)).2).1 (anyT ds d (free + 1) (anyT ds d free (anyT ds d free (a + 2)).2).2).1, (anyT ds d (free + 1) (anyT ds d free (anyT ds d free (a + 2)).2).2).2)
    else if drawN ds 9 a = 6 then
      (.lam (nmP ds (a + 1)) (anyT ds d free (a + 2)).1 (anyT ds d (free + 1) (anyT ds d free (a + 2)).2).1, (anyT ds d (free + 1) (anyT ds d free (a + 2)).2).2)
    else (.pi (nmP ds (a + 1)) (anyT ds d free (a + 2)).1 (anyT ds d (free + 1) (anyT ds d free (a + 2)).2).1, (anyT ds d (free + 1) (anyT ds d free (a + 2)).2).2)
def nD : Nat → Nat
  | 0 => 4
  | d + 1 => 3 * nD d + 4
theorem anyL_le (ds : List Int) (free : Int) (a : Nat) : (anyL ds free a).2 ≤ a + 4 := by
  unfold anyL
  split <;> simp
theorem any_le (ds : List Int) : ∀ (d : Nat) (free : Int) (a : Nat), (anyT ds d free a).2 ≤ a + nD d
  | 0, free, a => anyL_le ds free a
  | d + 1, free, a => by
    have h1 := any_le ds d free (a + 2)
    have h2 := any_le ds d free (anyT ds d free (a + 2)).2
    have h3 := any_le ds d (free + 1) (anyT ds d free (a + 2)).2
    have h4 := any_le ds d (free + 1) (anyT ds d free (anyT ds d free (a + 2)).2).2
    have h5 := anyL_le ds free a
    unfold anyT nD
    split
    · omega
    · split
      · show (anyT ds d free _).2 ≤ _
        omega
      · split
        · show (anyT ds d (free + 1) _).2 ≤ _
          omega
        · split
          · show (anyT ds d (free + 1) _).2 ≤ _
            omega
          · show (anyT ds d (free + 1) _).2 ≤ _
            omega
theorem get_of {α : Type} {l : List α} {i : Nat} {d : α} (f : α → PyData) (h : i < l.length) : (l.map f)[i]? = some (f (l.getD i d)) := by
  rw [List.getElem?_map, List.getD_eq_getElem?_getD, List.getElem?_eq_getElem h]
  rfl
theorem draw_lt (ds : List Int) (n : Nat) (a : Nat) (h : 0 < n) : (drawN ds (n : Int) a).toNat < n := by
  have := draw_nn ds (m := (n : Int)) a (by omega)
  omega
theorem nm_get (ds : List Int) (a : Nat) : ([.str "x", .str "_", .str "a"] : List PyData)[(drawN ds 3 a).toNat]? = some (.str (nmP ds a)) :=
  get_of (l := (["x", "_", "a"] : List Str)) PyData.str (draw_lt ds 3 a (by decide))
theorem leaf_get (ds : List Int) (a : Nat) : ([.tuple [.str "sort", .int (drawN ds 4 a)], .tuple [.str "const", .str "a"], .tuple [.str "kind", .str "nat"], .tuple [.str "make", .str "nat", .int 1], .tuple [.str "elim", .str "nat", .int 2], .tuple [.str "const", .str "b"]] : List PyData)[(drawN ds 6 (a + 1)).toNat]? = some (enc (.lf (leafP ds a))) := by
  have h := get_of (l := [Lf.sort (drawN ds 4 a).toNat, .ca, .nat, .mk, .el, .cb]) (d := .cb) (fun l => enc (.lf l)) (draw_lt ds 6 (a + 1) (by decide))
  have e : ((drawN ds 4 a).toNat : Int) = drawN ds 4 a := Int.toNat_of_nonneg (draw_nn ds a (by decide)).1
  have e2 : [Lf.sort (drawN ds 4 a).toNat, .ca, .nat, .mk, .el, .cb].map (fun l => enc (.lf l)) = [.tuple [.str "sort", .int ((drawN ds 4 a).toNat : Int)], .tuple [.str "const", .str "a"], .tuple [.str "kind", .str "nat"], .tuple [.str "make", .str "nat", .int 1], .tuple [.str "elim", .str "nat", .int 2], .tuple [.str "const", .str "b"]] := rfl
  rw [e2, e] at h
  exact h
namespace T
theorem size_sum (t : T) : t.size = 1 + ((t.parts.map (·.1)).map T.size).sum := by cases t <;> simp [size, parts]
theorem nl_sum {t : T} (h : t.isLeaf = false) : t.nl = (t.parts.map (·.1)).flatMap nl := by
  cases t <;> first | (simp [isLeaf] at h; done) | simp [nl, parts]
end T
end D

namespace D
open PySem L2 Evl PySem.Spec PyProof.Rows
section
variable {X : Cx}
def rCatS (K : PySem.W.Frag) : R2 := fun x y H Q => ∃ l b xs zs, x = .ref l ∧ y = .ref b ∧ SqL K H l xs ∧ SqL K H b zs ∧ xs.length + zs.length ≤ sizeLine ∧ ∀ p, H p = none → Q (.ref p) (upd H p (.lst (xs ++ zs)))
theorem op_catS : OpR X (binaryOp .Add) (rCatS X.K) := by
  intro pins s σ H x y v u Q I rx ry h
  obtain ⟨l, b, xs, zs, rfl, rfl, hH, hB, hz, q⟩ := h
  cases rx
  cases ry
  obtain ⟨its, r, p1, z⟩ := I.list hH
  obtain ⟨its2, r2, p2, z2⟩ := I.list hB
  have l1 := r.length
  have l2 := r2.length
  obtain ⟨⟨cls, dd, data, sl⟩, n, ho, hc, hd0, hd⟩ := id p1
  obtain ⟨⟨cls2, dd2, data2, sl2⟩, n2, ho2, hc2, hd02, hd2⟩ := id p2
  simp only at hc hd hc2 hd2
  subst hc hd hc2 hd2
  refine concat_meets ⟨_, ho, rfl⟩ ⟨_, ho2, rfl⟩ noFill_list_add seq_list_add PySem.F.slot_list_add PySem.F.entry_list_add (PySem.F.args_list_add_2 _ _) (list_addW l b its.toArray its2.toArray n n2 dd dd2 sl sl2 (by simp; omega)) ⟨ho, ho2, ?_⟩
  have ea : its.toArray ++ its2.toArray = (its ++ its2).toArray := by simp
  rw [ea]
  exact ⟨.ref _, _, I.lnew (t' := s.toks) (r.append r2) (by rw [List.length_append]; omega), rfl, q _ I.fresh⟩
end
section
variable {κ : Type} {M : Mem κ} {X : Cx} {ρ : Rho} {k k1 k2 k3 : κ} {pos : Pos}
theorem se_catD {a b : Expr} {ds es : List PyData} (hz : ds.length + es.length ≤ 100000) (ha : SE M X a ρ k (.d (.list ds)) k1) (hb : SE M X b ρ k1 (.d (.list es)) k2) : SE M X (.BinOp a .Add b pos) ρ k (.l (ds ++ es)) k2 :=
  SE.of (pe_op op_catS (pes (M := M)) (pes (M := M))) fun σ H s q => ⟨ρ, k, _, k1, ha, s, q, fun v H1 p => ⟨ρ, k1, _, k2, hb, s.ex p.1, p.2.1, fun w H2 p2 => by
    have hv : Dp X.K (M.im H2) v (.list ds) := p.2.2.ex p2.1
    have hw : Dp X.K (M.im H2) w (.list es) := p2.2.2
    cases hv with
    | lst h1 h2 =>
      cases hw with
      | lst h3 h4 => exact ⟨_, _, _, _, rfl, rfl, ex_l (M.sub H2) h1, ex_l (M.sub H2) h3, sz_of (by rw [dpl h2, dpl h4]; exact hz), fun p0 hp => (own_lst p2.2.1 (h2.app h4) p0 hp).back (p.1.trans p2.1)⟩⟩⟩
theorem eqv_refl {x : PyData} (h : pl x = true) : PyData.eqv x x = true := (eqv_iff x x h h).mpr rfl
theorem eqvL_refl {xs : List PyData} (h : plA xs = true) : PyData.eqv (.list xs) (.list xs) = true := by
  rw [PyData.eqv]
  exact (eqvA_iff xs xs h h).mpr rfl
theorem eqvL_nil {xs : List PyData} : PyData.eqv (.list xs) (.list []) = xs.isEmpty := by
  cases xs <;> rfl
theorem canLayAll_of : ∀ {xs : List PyData}, (∀ x ∈ xs, x.canLay0 = true) → PyData.canLayAll0 xs = true
  | [], _ => rfl
  | x :: xs, h => by rw [PyData.canLayAll0, h x List.mem_cons_self, canLayAll_of fun y hy => h y (List.mem_cons_of_mem _ hy)]; rfl
theorem depthAll_of {n : Nat} : ∀ {xs : List PyData}, (∀ x ∈ xs, x.depth ≤ n) → PyData.depthAll xs ≤ n
  | [], _ => Nat.zero_le _
  | x :: xs, h => by
    have h1 := h x List.mem_cons_self
    have h2 := depthAll_of fun y hy => h y (List.mem_cons_of_mem _ hy)
    rw [PyData.depthAll]
    omega
theorem shapedL_of {xs : List PyData} {n : Nat} (hn : n ≤ 58) (h1 : ∀ x ∈ xs, x.canLay0 = true) (h2 : ∀ x ∈ xs, x.depth ≤ n) : SeqAt.shaped (.list xs) = true := by
  have h3 := canLayAll_of h1
  have h4 := depthAll_of h2
  unfold SeqAt.shaped
  simp only [PyData.canLay0, PyData.depth, h3, Bool.true_and]
  exact decide_eq_true (by omega)
end
end D

namespace D
open PySem L2 Evl
abbrev sLCell : Stmt := top 37
theorem scLCell : FnScope ["script", "k"] ["script", "k"] (defScope sLCell) := ⟨rfl, rfl, rfl, by decide +kernel, rfl, by decide +kernel, by decide +kernel⟩
abbrev sLDigits : Stmt := top 38
theorem scLDigits : FnScope ["script", "first", "last", "found", "k", "c", "n", "turn", "s"] ["script", "first", "last"] (defScope sLDigits) := ⟨rfl, rfl, rfl, by decide +kernel, rfl, by decide +kernel, by decide +kernel⟩
abbrev sLDraw : Stmt := top 39
theorem scLDraw : FnScope ["box", "m", "digits", "at"] ["box", "m"] (defScope sLDraw) := ⟨rfl, rfl, rfl, by decide +kernel, rfl, by decide +kernel, by decide +kernel⟩
abbrev sLPick : Stmt := top 40
theorem scLPick : FnScope ["box", "rows"] ["box", "rows"] (defScope sLPick) := ⟨rfl, rfl, rfl, by decide +kernel, rfl, by decide +kernel, by decide +kernel⟩
abbrev sLLift : Stmt := top 41
theorem scLLift : FnScope ["term", "many", "under"] ["term", "many", "under"] (defScope sLLift) := ⟨rfl, rfl, rfl, by decide +kernel, rfl, by decide +kernel, by decide +kernel⟩
abbrev sLPut : Stmt := top 42
theorem scLPut : FnScope ["term", "value", "under"] ["term", "value", "under"] (defScope sLPut) := ⟨rfl, rfl, rfl, by decide +kernel, rfl, by decide +kernel, by decide +kernel⟩
abbrev sLBare : Stmt := top 43
theorem scLBare : FnScope ["term"] ["term"] (defScope sLBare) := ⟨rfl, rfl, rfl, by decide +kernel, rfl, by decide +kernel, by decide +kernel⟩
abbrev sLParts : Stmt := top 44
theorem scLParts : FnScope ["term"] ["term"] (defScope sLParts) := ⟨rfl, rfl, rfl, by decide +kernel, rfl, by decide +kernel, by decide +kernel⟩
abbrev sLSpine : Stmt := top 45
theorem scLSpine : FnScope ["term", "args"] ["term"] (defScope sLSpine) := ⟨rfl, rfl, rfl, by decide +kernel, rfl, by decide +kernel, by decide +kernel⟩
abbrev sLAny : Stmt := top 46
theorem scLAny : FnScope ["box", "free", "depth", "pick", "name"] ["box", "free", "depth"] (defScope sLAny) := ⟨rfl, rfl, rfl, by decide +kernel, rfl, by decide +kernel, by decide +kernel⟩
abbrev sLSize : Stmt := top 47
theorem scLSize : FnScope ["term", "part"] ["term"] (defScope sLSize) := ⟨rfl, rfl, rfl, by decide +kernel, rfl, by decide +kernel, by decide +kernel⟩
abbrev sLNamed : Stmt := top 48
theorem scLNamed : FnScope ["term", "found", "part"] ["term"] (defScope sLNamed) := ⟨rfl, rfl, rfl, by decide +kernel, rfl, by decide +kernel, by decide +kernel⟩
abbrev sLaw : Stmt := top 49
theorem scLaw : FnScope ["script", "box", "turn", "free", "term", "one", "other", "k", "m", "under", "body", "first", "at", "over", "found", "v", "name", "args", "head", "told", "own", "ahead", "here", "path", "step", "parts"] ["script"] (defScope sLaw) := ⟨rfl, rfl, rfl, by decide +kernel, rfl, by decide +kernel, by decide +kernel⟩
section
variable {P : Program} {w : World} {K : PySem.W.Frag} {mg : Str → Option Value} {base : Heap} {f : Addr} {fd : FuncData}

def relLLift (n : Nat) : List R → R → Prop := fun rs r => ∃ (t : T) (m u : Int), rs = [.d (enc t), .d (.int m), .d (.int u)] ∧ t.dep ≤ n ∧ r = .d (enc (t.lift m u))
theorem ok_llift {n : Nat} (F : Fun K "_law_lift" "_law_lift" sLLift f fd) (cL : Cl P w K mg base (n + 1) "_law_lift" [] (relLLift n)) : FnOk P w K mg base CX0 (n + 2) f fd ["term", "many", "under"] (spP K (relLLift (n + 1))) := by
  refine fn_pure F scLLift (fun rs r h => by obtain ⟨t, m, u, rfl, _⟩ := h; rfl) fun cdv A outer s H E rs r S H0 hr h => ?_
  have nd := scLLift.nd
  obtain ⟨t, m, u, rfl, hd, rfl⟩ := h
  cases t with
  | var k =>
    by_cases hk : k ≥ u
    · have e0 : (T.var k).lift m u = .var (k + m) := if_pos hk
      rw [e0]
      exact (sb_cons (ss_ifT (st_is (b' := true) (st_eqS (se_x0 0) se_str) rfl) rfl (sb_cons (ss_ret (se_ifT (st_is (b' := true) (st_ge (se_x1 0) (se_v 2)) (decide_eq_true hk)) rfl (se_tup (sd_cons se_str (sd_cons (se_add (se_x1 0) (se_v 1)) sd_nil)))) rfl))))
    · have e0 : (T.var k).lift m u = .var k := if_neg hk
      rw [e0]
      exact (sb_cons (ss_ifT (st_is (b' := true) (st_eqS (se_x0 0) se_str) rfl) rfl (sb_cons (ss_ret (se_ifF (st_is (b' := false) (st_ge (se_x1 0) (se_v 2)) (decide_eq_false hk)) rfl (se_v 0)) rfl))))
  | lf l => cases l <;> exact (sb_cons (ss_ifF (st_is (b' := false) (st_eqS (se_x0 0) se_str) rfl) rfl (sb_nil (sb_cons (ss_ifF (st_is (b' := false) (st_eqS (se_x0 0) se_str) rfl) rfl (sb_nil (sb_cons (ss_ifF (st_in (se_x0 0) (se_tup (sd_cons se_str (sd_cons se_str sd_nil))) (c := false)) rfl (sb_nil (sb_cons (ss_ifF (st_is (b' := false) (st_eqS (se_x0 0) se_str) rfl) rfl (sb_nil (sb_cons (ss_ret (se_v 0) rfl))))))))))))))
  | app a b => exact (sb_cons (ss_ifF (st_is (b' := false) (st_eqS (se_x0 0) se_str) rfl) rfl (sb_nil (sb_cons (ss_ifT (st_is (b' := true) (st_eqS (se_x0 0) se_str) rfl) rfl (sb_cons (ss_ret (se_tup (sd_cons se_str (sd_cons (se_call cL hr (by omega) (sa_cons (se_x1 0) (sa_cons (se_v 1) (sa_cons (se_v 2) sa_nil))) ⟨a, m, u, rfl, by simp only [T.dep] at hd; omega, rfl⟩) (sd_cons (se_call cL hr (by omega) (sa_cons (se_x2 0) (sa_cons (se_v 1) (sa_cons (se_v 2) sa_nil))) ⟨b, m, u, rfl, by simp only [T.dep] at hd; omega, rfl⟩) sd_nil)))) rfl)))))))
  | pi x a b => exact (sb_cons (ss_ifF (st_is (b' := false) (st_eqS (se_x0 0) se_str) rfl) rfl (sb_nil (sb_cons (ss_ifF (st_is (b' := false) (st_eqS (se_x0 0) se_str) rfl) rfl (sb_nil (sb_cons (ss_ifT (st_in (se_x0 0) (se_tup (sd_cons se_str (sd_cons se_str sd_nil))) (c := true)) rfl (sb_cons (ss_ret (se_tup (sd_cons (se_x0 0) (sd_cons (se_x1 0) (sd_cons (se_call cL hr (by omega) (sa_cons (se_x2 0) (sa_cons (se_v 1) (sa_cons (se_v 2) sa_nil))) ⟨a, m, u, rfl, by simp only [T.dep] at hd; omega, rfl⟩) (sd_cons (se_call cL hr (by omega) (sa_cons (se_x3 0) (sa_cons (se_v 1) (sa_cons (se_add (se_v 2) se_int) sa_nil))) ⟨b, m, u + 1, rfl, by simp only [T.dep] at hd; omega, rfl⟩) sd_nil))))) rfl))))))))))
  | lam x a b => exact (sb_cons (ss_ifF (st_is (b' := false) (st_eqS (se_x0 0) se_str) rfl) rfl (sb_nil (sb_cons (ss_ifF (st_is (b' := false) (st_eqS (se_x0 0) se_str) rfl) rfl (sb_nil (sb_cons (ss_ifT (st_in (se_x0 0) (se_tup (sd_cons se_str (sd_cons se_str sd_nil))) (c := true)) rfl (sb_cons (ss_ret (se_tup (sd_cons (se_x0 0) (sd_cons (se_x1 0) (sd_cons (se_call cL hr (by omega) (sa_cons (se_x2 0) (sa_cons (se_v 1) (sa_cons (se_v 2) sa_nil))) ⟨a, m, u, rfl, by simp only [T.dep] at hd; omega, rfl⟩) (sd_cons (se_call cL hr (by omega) (sa_cons (se_x3 0) (sa_cons (se_v 1) (sa_cons (se_add (se_v 2) se_int) sa_nil))) ⟨b, m, u + 1, rfl, by simp only [T.dep] at hd; omega, rfl⟩) sd_nil))))) rfl))))))))))
  | lt x a v b => exact (sb_cons (ss_ifF (st_is (b' := false) (st_eqS (se_x0 0) se_str) rfl) rfl (sb_nil (sb_cons (ss_ifF (st_is (b' := false) (st_eqS (se_x0 0) se_str) rfl) rfl (sb_nil (sb_cons (ss_ifF (st_in (se_x0 0) (se_tup (sd_cons se_str (sd_cons se_str sd_nil))) (c := false)) rfl (sb_nil (sb_cons (ss_ifT (st_is (b' := true) (st_eqS (se_x0 0) se_str) rfl) rfl (sb_cons (ss_ret (se_tup (sd_cons se_str (sd_cons (se_x1 0) (sd_cons (se_call cL hr (by omega) (sa_cons (se_x2 0) (sa_cons (se_v 1) (sa_cons (se_v 2) sa_nil))) ⟨a, m, u, rfl, by simp only [T.dep] at hd; omega, rfl⟩) (sd_cons (se_call cL hr (by omega) (sa_cons (se_x3 0) (sa_cons (se_v 1) (sa_cons (se_v 2) sa_nil))) ⟨v, m, u, rfl, by simp only [T.dep] at hd; omega, rfl⟩) (sd_cons (se_call cL hr (by omega) (sa_cons (se_x4 0) (sa_cons (se_v 1) (sa_cons (se_add (se_v 2) se_int) sa_nil))) ⟨b, m, u + 1, rfl, by simp only [T.dep] at hd; omega, rfl⟩) sd_nil)))))) rfl)))))))))))))
def relLPut (n : Nat) : List R → R → Prop := fun rs r => ∃ (t v : T) (u : Int), rs = [.d (enc t), .d (enc v), .d (.int u)] ∧ t.dep ≤ n ∧ v.dep ≤ 20 ∧ r = .d (enc (t.put v u))
theorem ok_lput {n : Nat} (F : Fun K "_law_put" "_law_put" sLPut f fd) (cL : Cl P w K mg base 21 "_law_lift" [] (relLLift 20)) (cP : Cl P w K mg base (n + 21) "_law_put" [] (relLPut n)) : FnOk P w K mg base CX0 (n + 22) f fd ["term", "value", "under"] (spP K (relLPut (n + 1))) := by
  refine fn_pure F scLPut (fun rs r h => by obtain ⟨t, v, u, rfl, _⟩ := h; rfl) fun cdv A outer s H E rs r S H0 hr h => ?_
  have nd := scLPut.nd
  obtain ⟨t, v, u, rfl, hd, hv, rfl⟩ := h
  cases t with
  | var k =>
    by_cases hk : k = u
    · have e0 : (T.var k).put v u = v.lift u 0 := if_pos hk
      rw [e0]
      exact (sb_cons (ss_ifT (st_is (b' := true) (st_eqS (se_x0 0) se_str) rfl) rfl (sb_cons (ss_ifT (st_is (b' := true) (st_eqI (se_x1 0) (se_v 2)) (decide_eq_true hk)) rfl (sb_cons (ss_ret (se_call cL hr (by omega) (sa_cons (se_v 1) (sa_cons (se_v 2) (sa_cons se_int sa_nil))) ⟨v, u, 0, rfl, hv, rfl⟩) rfl))))))
    · by_cases hg : k > u
      · have e0 : (T.var k).put v u = .var (k - 1) := by unfold T.put; rw [if_neg hk, if_pos hg]
        rw [e0]
        exact (sb_cons (ss_ifT (st_is (b' := true) (st_eqS (se_x0 0) se_str) rfl) rfl (sb_cons (ss_ifF (st_is (b' := false) (st_eqI (se_x1 0) (se_v 2)) (decide_eq_false hk)) rfl (sb_nil (sb_cons (ss_ret (se_ifT (st_is (b' := true) (st_gt (se_x1 0) (se_v 2)) (decide_eq_true hg)) rfl (se_tup (sd_cons se_str (sd_cons (se_sub (se_x1 0) se_int) sd_nil)))) rfl)))))))
      · have e0 : (T.var k).put v u = .var k := by unfold T.put; rw [if_neg hk, if_neg hg]
        rw [e0]
        exact (sb_cons (ss_ifT (st_is (b' := true) (st_eqS (se_x0 0) se_str) rfl) rfl (sb_cons (ss_ifF (st_is (b' := false) (st_eqI (se_x1 0) (se_v 2)) (decide_eq_false hk)) rfl (sb_nil (sb_cons (ss_ret (se_ifF (st_is (b' := false) (st_gt (se_x1 0) (se_v 2)) (decide_eq_false hg)) rfl (se_v 0)) rfl)))))))
  | lf l => cases l <;> exact (sb_cons (ss_ifF (st_is (b' := false) (st_eqS (se_x0 0) se_str) rfl) rfl (sb_nil (sb_cons (ss_ifF (st_is (b' := false) (st_eqS (se_x0 0) se_str) rfl) rfl (sb_nil (sb_cons (ss_ifF (st_in (se_x0 0) (se_tup (sd_cons se_str (sd_cons se_str sd_nil))) (c := false)) rfl (sb_nil (sb_cons (ss_ifF (st_is (b' := false) (st_eqS (se_x0 0) se_str) rfl) rfl (sb_nil (sb_cons (ss_ret (se_v 0) rfl))))))))))))))
  | app a b => exact (sb_cons (ss_ifF (st_is (b' := false) (st_eqS (se_x0 0) se_str) rfl) rfl (sb_nil (sb_cons (ss_ifT (st_is (b' := true) (st_eqS (se_x0 0) se_str) rfl) rfl (sb_cons (ss_ret (se_tup (sd_cons se_str (sd_cons (se_call cP hr (by omega) (sa_cons (se_x1 0) (sa_cons (se_v 1) (sa_cons (se_v 2) sa_nil))) ⟨a, v, u, rfl, by simp only [T.dep] at hd; omega, hv, rfl⟩) (sd_cons (se_call cP hr (by omega) (sa_cons (se_x2 0) (sa_cons (se_v 1) (sa_cons (se_v 2) sa_nil))) ⟨b, v, u, rfl, by simp only [T.dep] at hd; omega, hv, rfl⟩) sd_nil)))) rfl)))))))
  | pi x a b => exact (sb_cons (ss_ifF (st_is (b' := false) (st_eqS (se_x0 0) se_str) rfl) rfl (sb_nil (sb_cons (ss_ifF (st_is (b' := false) (st_eqS (se_x0 0) se_str) rfl) rfl (sb_nil (sb_cons (ss_ifT (st_in (se_x0 0) (se_tup (sd_cons se_str (sd_cons se_str sd_nil))) (c := true)) rfl (sb_cons (ss_ret (se_tup (sd_cons (se_x0 0) (sd_cons (se_x1 0) (sd_cons (se_call cP hr (by omega) (sa_cons (se_x2 0) (sa_cons (se_v 1) (sa_cons (se_v 2) sa_nil))) ⟨a, v, u, rfl, by simp only [T.dep] at hd; omega, hv, rfl⟩) (sd_cons (se_call cP hr (by omega) (sa_cons (se_x3 0) (sa_cons (se_v 1) (sa_cons (se_add (se_v 2) se_int) sa_nil))) ⟨b, v, u + 1, rfl, by simp only [T.dep] at hd; omega, hv, rfl⟩) sd_nil))))) rfl))))))))))
  | lam x a b => exact (sb_cons (ss_ifF (st_is (b' := false) (st_eqS (se_x0 0) se_str) rfl) rfl (sb_nil (sb_cons (ss_ifF (st_is (b' := false) (st_eqS (se_x0 0) se_str) rfl) rfl (sb_nil (sb_cons (ss_ifT (st_in (se_x0 0) (se_tup (sd_cons se_str (sd_cons se_str sd_nil))) (c := true)) rfl (sb_cons (ss_ret (se_tup (sd_cons (se_x0 0) (sd_cons (se_x1 0) (sd_cons (se_call cP hr (by omega) (sa_cons (se_x2 0) (sa_cons (se_v 1) (sa_cons (se_v 2) sa_nil))) ⟨a, v, u, rfl, by simp only [T.dep] at hd; omega, hv, rfl⟩) (sd_cons (se_call cP hr (by omega) (sa_cons (se_x3 0) (sa_cons (se_v 1) (sa_cons (se_add (se_v 2) se_int) sa_nil))) ⟨b, v, u + 1, rfl, by simp only [T.dep] at hd; omega, hv, rfl⟩) sd_nil))))) rfl))))))))))
  | lt x a c b => exact (sb_cons (ss_ifF (st_is (b' := false) (st_eqS (se_x0 0) se_str) rfl) rfl (sb_nil (sb_cons (ss_ifF (st_is (b' := false) (st_eqS (se_x0 0) se_str) rfl) rfl (sb_nil (sb_cons (ss_ifF (st_in (se_x0 0) (se_tup (sd_cons se_str (sd_cons se_str sd_nil))) (c := false)) rfl (sb_nil (sb_cons (ss_ifT (st_is (b' := true) (st_eqS (se_x0 0) se_str) rfl) rfl (sb_cons (ss_ret (se_tup (sd_cons se_str (sd_cons (se_x1 0) (sd_cons (se_call cP hr (by omega) (sa_cons (se_x2 0) (sa_cons (se_v 1) (sa_cons (se_v 2) sa_nil))) ⟨a, v, u, rfl, by simp only [T.dep] at hd; omega, hv, rfl⟩) (sd_cons (se_call cP hr (by omega) (sa_cons (se_x3 0) (sa_cons (se_v 1) (sa_cons (se_v 2) sa_nil))) ⟨c, v, u, rfl, by simp only [T.dep] at hd; omega, hv, rfl⟩) (sd_cons (se_call cP hr (by omega) (sa_cons (se_x4 0) (sa_cons (se_v 1) (sa_cons (se_add (se_v 2) se_int) sa_nil))) ⟨b, v, u + 1, rfl, by simp only [T.dep] at hd; omega, hv, rfl⟩) sd_nil)))))) rfl)))))))))))))
def relLBare (n : Nat) : List R → R → Prop := fun rs r => ∃ t : T, rs = [.d (enc t)] ∧ t.dep ≤ n ∧ r = .d (enc t.bare)
theorem ok_lbare {n : Nat} (F : Fun K "_law_bare" "_law_bare" sLBare f fd) (cB : Cl P w K mg base (n + 1) "_law_bare" [] (relLBare n)) : FnOk P w K mg base CX0 (n + 2) f fd ["term"] (spP K (relLBare (n + 1))) := by
  refine fn_pure F scLBare (fun rs r h => by obtain ⟨t, rfl, _⟩ := h; rfl) fun cdv A outer s H E rs r S H0 hr h => ?_
  have nd := scLBare.nd
  obtain ⟨t, rfl, hd, rfl⟩ := h
  cases t with
  | var k => exact (sb_cons (ss_ifF (st_is (b' := false) (st_eqS (se_x0 0) se_str) rfl) rfl (sb_nil (sb_cons (ss_ifF (st_in (se_x0 0) (se_tup (sd_cons se_str (sd_cons se_str sd_nil))) (c := false)) rfl (sb_nil (sb_cons (ss_ifF (st_is (b' := false) (st_eqS (se_x0 0) se_str) rfl) rfl (sb_nil (sb_cons (ss_ret (se_v 0) rfl)))))))))))
  | lf l => cases l <;> exact (sb_cons (ss_ifF (st_is (b' := false) (st_eqS (se_x0 0) se_str) rfl) rfl (sb_nil (sb_cons (ss_ifF (st_in (se_x0 0) (se_tup (sd_cons se_str (sd_cons se_str sd_nil))) (c := false)) rfl (sb_nil (sb_cons (ss_ifF (st_is (b' := false) (st_eqS (se_x0 0) se_str) rfl) rfl (sb_nil (sb_cons (ss_ret (se_v 0) rfl)))))))))))
  | app a b => exact (sb_cons (ss_ifT (st_is (b' := true) (st_eqS (se_x0 0) se_str) rfl) rfl (sb_cons (ss_ret (se_tup (sd_cons se_str (sd_cons (se_call cB hr (by omega) (sa_cons (se_x1 0) sa_nil) ⟨a, rfl, by simp only [T.dep] at hd; omega, rfl⟩) (sd_cons (se_call cB hr (by omega) (sa_cons (se_x2 0) sa_nil) ⟨b, rfl, by simp only [T.dep] at hd; omega, rfl⟩) sd_nil)))) rfl))))
  | pi x a b => exact (sb_cons (ss_ifF (st_is (b' := false) (st_eqS (se_x0 0) se_str) rfl) rfl (sb_nil (sb_cons (ss_ifT (st_in (se_x0 0) (se_tup (sd_cons se_str (sd_cons se_str sd_nil))) (c := true)) rfl (sb_cons (ss_ret (se_tup (sd_cons (se_x0 0) (sd_cons se_str (sd_cons (se_call cB hr (by omega) (sa_cons (se_x2 0) sa_nil) ⟨a, rfl, by simp only [T.dep] at hd; omega, rfl⟩) (sd_cons (se_call cB hr (by omega) (sa_cons (se_x3 0) sa_nil) ⟨b, rfl, by simp only [T.dep] at hd; omega, rfl⟩) sd_nil))))) rfl)))))))
  | lam x a b => exact (sb_cons (ss_ifF (st_is (b' := false) (st_eqS (se_x0 0) se_str) rfl) rfl (sb_nil (sb_cons (ss_ifT (st_in (se_x0 0) (se_tup (sd_cons se_str (sd_cons se_str sd_nil))) (c := true)) rfl (sb_cons (ss_ret (se_tup (sd_cons (se_x0 0) (sd_cons se_str (sd_cons (se_call cB hr (by omega) (sa_cons (se_x2 0) sa_nil) ⟨a, rfl, by simp only [T.dep] at hd; omega, rfl⟩) (sd_cons (se_call cB hr (by omega) (sa_cons (se_x3 0) sa_nil) ⟨b, rfl, by simp only [T.dep] at hd; omega, rfl⟩) sd_nil))))) rfl)))))))
  | lt x a v b => exact (sb_cons (ss_ifF (st_is (b' := false) (st_eqS (se_x0 0) se_str) rfl) rfl (sb_nil (sb_cons (ss_ifF (st_in (se_x0 0) (se_tup (sd_cons se_str (sd_cons se_str sd_nil))) (c := false)) rfl (sb_nil (sb_cons (ss_ifT (st_is (b' := true) (st_eqS (se_x0 0) se_str) rfl) rfl (sb_cons (ss_ret (se_tup (sd_cons se_str (sd_cons se_str (sd_cons (se_call cB hr (by omega) (sa_cons (se_x2 0) sa_nil) ⟨a, rfl, by simp only [T.dep] at hd; omega, rfl⟩) (sd_cons (se_call cB hr (by omega) (sa_cons (se_x3 0) sa_nil) ⟨v, rfl, by simp only [T.dep] at hd; omega, rfl⟩) (sd_cons (se_call cB hr (by omega) (sa_cons (se_x4 0) sa_nil) ⟨b, rfl, by simp only [T.dep] at hd; omega, rfl⟩) sd_nil)))))) rfl))))))))))
def relLParts : List R → R → Prop := fun rs r => ∃ t : T, rs = [.d (enc t)] ∧ r = .l ((t.parts.map (·.1)).map enc)
theorem ok_lparts (G : Glo K mg) (F : Fun K "_law_parts" "_law_parts" sLParts f fd) : FnOk P w K mg base CX0 1 f fd ["term"] (spP K relLParts) := by
  refine fn_pure F scLParts (fun rs r h => by obtain ⟨t, rfl, _⟩ := h; rfl) fun cdv A outer s H E rs r S H0 hr h => ?_
  have nd := scLParts.nd
  obtain ⟨t, rfl, rfl⟩ := h
  cases t with
  | var k => exact (sb_cons (ss_ifF (st_in (se_x0 0) (se_tup (sd_cons se_str (sd_cons se_str sd_nil))) (c := false)) rfl (sb_nil (sb_cons (ss_ret (se_ifF (st_is (b' := false) (st_eqS (se_x0 0) se_str) rfl) rfl (se_ifF (st_is (b' := false) (st_eqS (se_x0 0) se_str) rfl) rfl (se_own sd_nil))) rfl)))))
  | lf l => cases l <;> exact (sb_cons (ss_ifF (st_in (se_x0 0) (se_tup (sd_cons se_str (sd_cons se_str sd_nil))) (c := false)) rfl (sb_nil (sb_cons (ss_ret (se_ifF (st_is (b' := false) (st_eqS (se_x0 0) se_str) rfl) rfl (se_ifF (st_is (b' := false) (st_eqS (se_x0 0) se_str) rfl) rfl (se_own sd_nil))) rfl)))))
  | app a b => exact (sb_cons (ss_ifF (st_in (se_x0 0) (se_tup (sd_cons se_str (sd_cons se_str sd_nil))) (c := false)) rfl (sb_nil (sb_cons (ss_ret (se_ifT (st_is (b' := true) (st_eqS (se_x0 0) se_str) rfl) rfl (se_listT G.lst (se_slT (se_v 0) (so_some se_int) so_none))) rfl)))))
  | pi x a b => exact (sb_cons (ss_ifT (st_in (se_x0 0) (se_tup (sd_cons se_str (sd_cons se_str sd_nil))) (c := true)) rfl (sb_cons (ss_ret (se_own (sd_cons (se_x2 0) (sd_cons (se_x3 0) sd_nil))) rfl))))
  | lam x a b => exact (sb_cons (ss_ifT (st_in (se_x0 0) (se_tup (sd_cons se_str (sd_cons se_str sd_nil))) (c := true)) rfl (sb_cons (ss_ret (se_own (sd_cons (se_x2 0) (sd_cons (se_x3 0) sd_nil))) rfl))))
  | lt x a v b => exact (sb_cons (ss_ifF (st_in (se_x0 0) (se_tup (sd_cons se_str (sd_cons se_str sd_nil))) (c := false)) rfl (sb_nil (sb_cons (ss_ret (se_ifF (st_is (b' := false) (st_eqS (se_x0 0) se_str) rfl) rfl (se_ifT (st_is (b' := true) (st_eqS (se_x0 0) se_str) rfl) rfl (se_listT G.lst (se_slT (se_v 0) (so_some se_int) so_none)))) rfl)))))
def relLSpine : List R → R → Prop := fun rs r => ∃ t : T, rs = [.d (enc t)] ∧ t.dep ≤ 1000 ∧ r = .d (.tuple [enc t.hd, .list (t.args.map enc)])
theorem ok_lspine (F : Fun K "_law_spine" "_law_spine" sLSpine f fd) : FnOk P w K mg base CX0 1 f fd ["term"] (spP K relLSpine) := by
  refine fn_pure F scLSpine (fun rs r h => by obtain ⟨t, rfl, _⟩ := h; rfl) fun cdv A outer s H E rs r S H0 hr h => ?_
  have nd := scLSpine.nd
  obtain ⟨t, rfl, hd, rfl⟩ := h
  refine sb_cons (ss_let 1 nd (se_own sd_nil) ?_)
  refine sb_cons (ss_while PassesOwn.never (fun m ρ k => ∃ (u : T) (acc : List T), ρ = [some (.d (enc u)), some (.l (acc.map enc))] ∧ m = u.dep ∧ t.hd = u.hd ∧ t.args = u.args ++ acc ∧ acc.length + u.dep ≤ 1000) t.dep ⟨t, [], rfl, rfl, rfl, by simp, by simpa using hd⟩ ?_)
  rintro m ρ k ⟨u, acc, rfl, rfl, h1, h2, h3⟩
  by_cases hu : tag u = "app"
  · obtain ⟨b, c, rfl⟩ := T.tag_app.mp hu
    refine .inr ⟨_, (st_is (b' := true) (st_eqS (se_x0 0) se_str) rfl), ?_⟩
    refine sb_cons (ss_let 1 nd (se_catL (by simp only [T.dep] at h3; simp only [List.length_map, List.length_cons, List.length_nil]; omega) (se_own (sd_cons (se_x2 0) sd_nil)) (se_v 1)) (sb_cons (ss_let 0 nd (se_x1 0) (sb_nil ⟨b.dep, by simp only [T.dep]; omega, b, c :: acc, rfl, rfl, h1, ?_, ?_⟩))))
    · rw [h2]
      show (b.args ++ [c]) ++ acc = _
      rw [List.append_assoc]
      rfl
    · simp only [T.dep] at h3
      rw [List.length_cons]
      omega
  · obtain ⟨l, hl⟩ := enc_shape u
    have ha := T.args_not hu
    refine .inl ⟨_, (st_is (b' := false) (st_eqS (se_x0 0 (hr := congrArg (fun d => some (some (R.d d))) hl)) se_str) (decide_eq_false hu)), ?_⟩
    rw [ha.1, List.nil_append] at h2
    rw [ha.2] at h1
    rw [h1, h2]
    exact sb_cons (ss_ret (se_tup (sd_cons (se_v 0) (sd_cons (se_l (se_v 1)) sd_nil))) rfl)
theorem cell_at {ns : List Int} {k : Nat} (h : k < ns.length) : atI (ns.map PyData.int) (k : Int) = some (.int (cellAt ns k)) := by
  unfold atI ixN cellAt
  rw [if_pos (by omega), if_pos (by rw [List.length_map]; omega)]
  show (ns.map PyData.int)[(k : Int).toNat]? = _
  rw [Int.toNat_natCast, List.getElem?_map, List.getD_eq_getElem?_getD, List.getElem?_eq_getElem h]
  rfl
def relLCell : List R → R → Prop := fun rs r => ∃ (ns : List Int) (k : Nat), rs = [.d (.list (ns.map .int)), .d (.int (k : Int))] ∧ r = .d (.int (cellAt ns k))
theorem ok_lcell (G : Glo K mg) (F : Fun K "_law_cell" "_law_cell" sLCell f fd) : FnOk P w K mg base CX0 1 f fd ["script", "k"] (spP K relLCell) := by
  refine fn_pure F scLCell (fun rs r h => by obtain ⟨ns, k, rfl, _⟩ := h; rfl) fun cdv A outer s H E rs r S H0 hr h => ?_
  have nd := scLCell.nd
  obtain ⟨ns, k, rfl, rfl⟩ := h
  by_cases hk : k < ns.length
  · exact sb_cons (ss_ifT (st_is (b' := true) (st_lt (se_v 1) (se_lenL G.len (se_v 0))) (decide_eq_true (by rw [List.length_map]; omega))) rfl (sb_cons (ss_ret (se_ixL (se_v 0) (se_v 1) (cell_at hk)) rfl)))
  · have e0 : cellAt ns k = 0 := by
      unfold cellAt
      rw [List.getD_eq_getElem?_getD, List.getElem?_eq_none (by omega)]
      rfl
    rw [e0]
    exact sb_cons (ss_ifF (st_is (b' := false) (st_lt (se_v 1) (se_lenL G.len (se_v 0))) (decide_eq_false (by rw [List.length_map]; omega))) rfl (sb_nil (sb_cons (ss_ret se_int rfl))))
end
end D

namespace D
open PySem L2 Evl
section
variable {P : Program} {w : World} {K : PySem.W.Frag} {mg : Str → Option Value} {base : Heap} {f : Addr} {fd : FuncData}

def relLDigits : List R → R → Prop := fun rs r => ∃ ns : List Int, rs = [.d (.list (ns.map .int)), .d (.int 0), .d (.int 63)] ∧ r = .l ((digs ns 63).map .int)
theorem ok_ldigits (G : Glo K mg) (F : Fun K "_law_digits" "_law_digits" sLDigits f fd) (cC : Cl P w K mg base 1 "_law_cell" [] relLCell) : FnOk P w K mg base CX0 2 f fd ["script", "first", "last"] (spP K relLDigits) := by
  refine fn_pure F scLDigits (fun rs r h => by obtain ⟨ns, rfl, _⟩ := h; rfl) fun cdv A outer s H E rs r S H0 hr h => ?_
  have nd := scLDigits.nd
  obtain ⟨ns, rfl, rfl⟩ := h
  refine sb_own (i := 3) nd rfl (Or.inl rfl) sd_nil fun p hp => ?_
  refine sb_cons (ss_forR2 PassesOwn.never rfl G.range (tg_name nd (i := 4)) (sa_cons (se_v 1) (sa_cons (se_v 2) sa_nil)) ⟨by decide, by decide, by decide, by decide⟩ (fun i ρ k => ∃ z4 z5 z6 z7 z8, ρ = [some (.d (.list (ns.map .int))), some (.d (.int 0)), some (.d (.int 63)), some (.r (.ref p)), z4, z5, z6, z7, z8] ∧ k = ((), (digs ns i).map PyData.int)) ⟨none, none, none, none, none, rfl, rfl⟩ (fun i ρ k hi hw => ?_) (fun ρ k hw => ?_))
  · obtain ⟨z4, z5, z6, z7, z8, rfl, rfl⟩ := hw
    refine ⟨_, by rw [Int.zero_add]; rfl, ?_⟩
    refine sb_cons (ss_let 5 nd (se_call cC hr (by omega) (sa_cons (se_v 0) (sa_cons (se_v 4) sa_nil)) ⟨ns, i, rfl, rfl⟩) ?_)
    by_cases hc : cellAt ns i < 0
    · have ha : absC (cellAt ns i) = 1 - cellAt ns i * 2 := if_pos hc
      refine sb_cons (ss_ifT (st_is (b' := true) (st_lt (se_v 5) se_int) (decide_eq_true hc)) rfl (sb_cons (ss_let 5 nd (se_sub se_int (se_mul (.inr ⟨by decide, by decide⟩) (se_v 5) se_int)) (sb_nil ?_))))
      by_cases hb : (1000000000000000000 : Int) ≤ (1 - cellAt ns i * 2)
      · refine sb_cons (ss_ifT (st_is (b' := true) (st_ge (se_v 5) (se_pow ⟨by decide, by decide, by decide⟩ se_int se_int)) (decide_eq_true hb)) rfl ?_)
        refine sb_cons (ss_let 6 nd (se_v 5) ?_)
        refine sb_cons (ss_forR1 PassesOwn.never rfl G.range (tg_name nd (i := 7)) (sa_cons se_int sa_nil) ⟨by decide, by decide⟩ (fun j ρ k => ∃ y7, ρ = [some (.d (.list (ns.map .int))), some (.d (.int 0)), some (.d (.int 63)), some (.r (.ref p)), some (.d (.int ((i : Nat) : Int))), some (.d (.int (1 - cellAt ns i * 2))), some (.d (.int (iter (fun _ => bigI) j (digs ns i, (1 - cellAt ns i * 2))).2)), y7, z8] ∧ k = ((), (iter (fun _ => bigI) j (digs ns i, (1 - cellAt ns i * 2))).1.map PyData.int)) ⟨_, rfl, rfl⟩ (fun j ρ k hj hw => ?_) (fun ρ k hw => ?_))
        · obtain ⟨y7, rfl, rfl⟩ := hw
          have hl := big_len j (digs ns i, (1 - cellAt ns i * 2))
          have hl2 := digs_len ns i
          simp only at hl
          refine ⟨_, rfl, ?_⟩
          by_cases hn : 0 < (iter (fun _ => bigI) j (digs ns i, (1 - cellAt ns i * 2))).2
          · have e : bigI (iter (fun _ => bigI) j (digs ns i, (1 - cellAt ns i * 2))) = ((iter (fun _ => bigI) j (digs ns i, (1 - cellAt ns i * 2))).1 ++ [(iter (fun _ => bigI) j (digs ns i, (1 - cellAt ns i * 2))).2 % 1009], (iter (fun _ => bigI) j (digs ns i, (1 - cellAt ns i * 2))).2 / 1009) := if_pos hn
            refine sb_cons (ss_ifT (st_is (b' := true) (st_gt (se_v 6) se_int) (decide_eq_true hn)) rfl (sb_cons (ss_expr (se_append (i := 3) hp (se_mod (by decide) (se_v 6) se_int) (by rw [List.length_map]; omega)) (sb_cons (ss_let 6 nd (se_fdiv ⟨by decide, by decide⟩ (se_v 6) se_int) (sb_nil (sb_nil ⟨some (.d (.int (j : Int))), ?_, ?_⟩)))))))
            · show _ = [some (.d (.list (ns.map .int))), some (.d (.int 0)), some (.d (.int 63)), some (.r (.ref p)), _, _, some (.d (.int (bigI (iter (fun _ => bigI) j (digs ns i, (1 - cellAt ns i * 2)))).2)), some (.d (.int (j : Int))), z8]
              rw [e]
              rfl
            · show _ = ((), (bigI (iter (fun _ => bigI) j (digs ns i, (1 - cellAt ns i * 2)))).1.map PyData.int)
              rw [e, List.map_append]
              rfl
          · have e : bigI (iter (fun _ => bigI) j (digs ns i, (1 - cellAt ns i * 2))) = iter (fun _ => bigI) j (digs ns i, (1 - cellAt ns i * 2)) := if_neg hn
            refine sb_cons (ss_ifF (st_is (b' := false) (st_gt (se_v 6) se_int) (decide_eq_false hn)) rfl (sb_nil (sb_nil ⟨some (.d (.int (j : Int))), ?_, ?_⟩)))
            · show _ = [some (.d (.list (ns.map .int))), some (.d (.int 0)), some (.d (.int 63)), some (.r (.ref p)), _, _, some (.d (.int (bigI (iter (fun _ => bigI) j (digs ns i, (1 - cellAt ns i * 2)))).2)), some (.d (.int (j : Int))), z8]
              rw [e]
              rfl
            · show _ = ((), (bigI (iter (fun _ => bigI) j (digs ns i, (1 - cellAt ns i * 2)))).1.map PyData.int)
              rw [e]
        · obtain ⟨y7, rfl, rfl⟩ := hw
          refine sb_nil (sb_nil ⟨_, _, _, _, _, rfl, ?_⟩)
          show _ = ((), (cellS i (absC (cellAt ns i)) (digs ns i)).map PyData.int)
          rw [ha]
          unfold cellS
          rw [if_pos hb]
          rfl
      · refine sb_cons (ss_ifF (st_is (b' := false) (st_ge (se_v 5) (se_pow ⟨by decide, by decide, by decide⟩ se_int se_int)) (decide_eq_false hb)) rfl ?_)
        refine sb_cons (ss_let 8 nd (se_mod (by decide) (se_add (se_add (se_mul (.inr ⟨by decide, by decide⟩) (se_v 5) se_int) (se_mul (.inr ⟨by decide, by decide⟩) (se_toInt G.int (se_add (se_v 4) se_int)) se_int)) se_int) se_int) ?_)
        refine sb_cons (ss_forR1 PassesOwn.never rfl G.range (tg_name nd (i := 7)) (sa_cons se_int sa_nil) ⟨by decide, by decide⟩ (fun j ρ k => ∃ y7, ρ = [some (.d (.list (ns.map .int))), some (.d (.int 0)), some (.d (.int 63)), some (.r (.ref p)), some (.d (.int ((i : Nat) : Int))), some (.d (.int (1 - cellAt ns i * 2))), z6, y7, some (.d (.int (iter smallI j (digs ns i, ((1 - cellAt ns i * 2) * 48271 + ((i : Int) + 1) * 69621 + 11) % 2147483647)).2))] ∧ k = ((), (iter smallI j (digs ns i, ((1 - cellAt ns i * 2) * 48271 + ((i : Int) + 1) * 69621 + 11) % 2147483647)).1.map PyData.int)) ⟨_, rfl, rfl⟩ (fun j ρ k hj hw => ?_) (fun ρ k hw => ?_))
        · obtain ⟨y7, rfl, rfl⟩ := hw
          have hl := small_len j (digs ns i, ((1 - cellAt ns i * 2) * 48271 + ((i : Int) + 1) * 69621 + 11) % 2147483647)
          have hl2 := digs_len ns i
          simp only at hl
          refine ⟨_, rfl, ?_⟩
          refine sb_cons (ss_let 8 nd (se_mod (by decide) (se_add (se_add (se_mul (.inr ⟨by decide, by decide⟩) (se_v 8) se_int) (se_mul (.inr ⟨by decide, by decide⟩) (se_v 7) se_int)) se_int) se_int) (sb_cons (ss_expr (se_append (i := 3) hp (se_mod (by decide) (se_fdiv ⟨by decide, by decide⟩ (se_v 8) se_int) se_int) (by rw [List.length_map]; omega)) (sb_nil ⟨_, rfl, ?_⟩))))
          show _ = ((), (smallI j (iter smallI j (digs ns i, ((1 - cellAt ns i * 2) * 48271 + ((i : Int) + 1) * 69621 + 11) % 2147483647))).1.map PyData.int)
          unfold smallI
          rw [List.map_append]
          rfl
        · obtain ⟨y7, rfl, rfl⟩ := hw
          refine sb_nil (sb_nil ⟨_, _, _, _, _, rfl, ?_⟩)
          show _ = ((), (cellS i (absC (cellAt ns i)) (digs ns i)).map PyData.int)
          rw [ha]
          unfold cellS
          rw [if_neg hb]
          rfl
    · have ha : absC (cellAt ns i) = cellAt ns i := if_neg hc
      refine sb_cons (ss_ifF (st_is (b' := false) (st_lt (se_v 5) se_int) (decide_eq_false hc)) rfl (sb_nil ?_))
      by_cases hb : (1000000000000000000 : Int) ≤ (cellAt ns i)
      · refine sb_cons (ss_ifT (st_is (b' := true) (st_ge (se_v 5) (se_pow ⟨by decide, by decide, by decide⟩ se_int se_int)) (decide_eq_true hb)) rfl ?_)
        refine sb_cons (ss_let 6 nd (se_v 5) ?_)
        refine sb_cons (ss_forR1 PassesOwn.never rfl G.range (tg_name nd (i := 7)) (sa_cons se_int sa_nil) ⟨by decide, by decide⟩ (fun j ρ k => ∃ y7, ρ = [some (.d (.list (ns.map .int))), some (.d (.int 0)), some (.d (.int 63)), some (.r (.ref p)), some (.d (.int ((i : Nat) : Int))), some (.d (.int (cellAt ns i))), some (.d (.int (iter (fun _ => bigI) j (digs ns i, (cellAt ns i))).2)), y7, z8] ∧ k = ((), (iter (fun _ => bigI) j (digs ns i, (cellAt ns i))).1.map PyData.int)) ⟨_, rfl, rfl⟩ (fun j ρ k hj hw => ?_) (fun ρ k hw => ?_))
        · obtain ⟨y7, rfl, rfl⟩ := hw
          have hl := big_len j (digs ns i, (cellAt ns i))
          have hl2 := digs_len ns i
          simp only at hl
          refine ⟨_, rfl, ?_⟩
          by_cases hn : 0 < (iter (fun _ => bigI) j (digs ns i, (cellAt ns i))).2
          · have e : bigI (iter (fun _ => bigI) j (digs ns i, (cellAt ns i))) = ((iter (fun _ => bigI) j (digs ns i, (cellAt ns i))).1 ++ [(iter (fun _ => bigI) j (digs ns i, (cellAt ns i))).2 % 1009], (iter (fun _ => bigI) j (digs ns i, (cellAt ns i))).2 / 1009) := if_pos hn
            refine sb_cons (ss_ifT (st_is (b' := true) (st_gt (se_v 6) se_int) (decide_eq_true hn)) rfl (sb_cons (ss_expr (se_append (i := 3) hp (se_mod (by decide) (se_v 6) se_int) (by rw [List.length_map]; omega)) (sb_cons (ss_let 6 nd (se_fdiv ⟨by decide, by decide⟩ (se_v 6) se_int) (sb_nil (sb_nil ⟨some (.d (.int (j : Int))), ?_, ?_⟩)))))))
            · show _ = [some (.d (.list (ns.map .int))), some (.d (.int 0)), some (.d (.int 63)), some (.r (.ref p)), _, _, some (.d (.int (bigI (iter (fun _ => bigI) j (digs ns i, (cellAt ns i)))).2)), some (.d (.int (j : Int))), z8]
              rw [e]
              rfl
            · show _ = ((), (bigI (iter (fun _ => bigI) j (digs ns i, (cellAt ns i)))).1.map PyData.int)
              rw [e, List.map_append]
              rfl
          · have e : bigI (iter (fun _ => bigI) j (digs ns i, (cellAt ns i))) = iter (fun _ => bigI) j (digs ns i, (cellAt ns i)) := if_neg hn
            refine sb_cons (ss_ifF (st_is (b' := false) (st_gt (se_v 6) se_int) (decide_eq_false hn)) rfl (sb_nil (sb_nil ⟨some (.d (.int (j : Int))), ?_, ?_⟩)))
            · show _ = [some (.d (.list (ns.map .int))), some (.d (.int 0)), some (.d (.int 63)), some (.r (.ref p)), _, _, some (.d (.int (bigI (iter (fun _ => bigI) j (digs ns i, (cellAt ns i)))).2)), some (.d (.int (j : Int))), z8]
              rw [e]
              rfl
            · show _ = ((), (bigI (iter (fun _ => bigI) j (digs ns i, (cellAt ns i)))).1.map PyData.int)
              rw [e]
        · obtain ⟨y7, rfl, rfl⟩ := hw
          refine sb_nil (sb_nil ⟨_, _, _, _, _, rfl, ?_⟩)
          show _ = ((), (cellS i (absC (cellAt ns i)) (digs ns i)).map PyData.int)
          rw [ha]
          unfold cellS
          rw [if_pos hb]
          rfl
      · refine sb_cons (ss_ifF (st_is (b' := false) (st_ge (se_v 5) (se_pow ⟨by decide, by decide, by decide⟩ se_int se_int)) (decide_eq_false hb)) rfl ?_)
        refine sb_cons (ss_let 8 nd (se_mod (by decide) (se_add (se_add (se_mul (.inr ⟨by decide, by decide⟩) (se_v 5) se_int) (se_mul (.inr ⟨by decide, by decide⟩) (se_toInt G.int (se_add (se_v 4) se_int)) se_int)) se_int) se_int) ?_)
        refine sb_cons (ss_forR1 PassesOwn.never rfl G.range (tg_name nd (i := 7)) (sa_cons se_int sa_nil) ⟨by decide, by decide⟩ (fun j ρ k => ∃ y7, ρ = [some (.d (.list (ns.map .int))), some (.d (.int 0)), some (.d (.int 63)), some (.r (.ref p)), some (.d (.int ((i : Nat) : Int))), some (.d (.int (cellAt ns i))), z6, y7, some (.d (.int (iter smallI j (digs ns i, ((cellAt ns i) * 48271 + ((i : Int) + 1) * 69621 + 11) % 2147483647)).2))] ∧ k = ((), (iter smallI j (digs ns i, ((cellAt ns i) * 48271 + ((i : Int) + 1) * 69621 + 11) % 2147483647)).1.map PyData.int)) ⟨_, rfl, rfl⟩ (fun j ρ k hj hw => ?_) (fun ρ k hw => ?_))
        · obtain ⟨y7, rfl, rfl⟩ := hw
          have hl := small_len j (digs ns i, ((cellAt ns i) * 48271 + ((i : Int) + 1) * 69621 + 11) % 2147483647)
          have hl2 := digs_len ns i
          simp only at hl
          refine ⟨_, rfl, ?_⟩
          refine sb_cons (ss_let 8 nd (se_mod (by decide) (se_add (se_add (se_mul (.inr ⟨by decide, by decide⟩) (se_v 8) se_int) (se_mul (.inr ⟨by decide, by decide⟩) (se_v 7) se_int)) se_int) se_int) (sb_cons (ss_expr (se_append (i := 3) hp (se_mod (by decide) (se_fdiv ⟨by decide, by decide⟩ (se_v 8) se_int) se_int) (by rw [List.length_map]; omega)) (sb_nil ⟨_, rfl, ?_⟩))))
          show _ = ((), (smallI j (iter smallI j (digs ns i, ((cellAt ns i) * 48271 + ((i : Int) + 1) * 69621 + 11) % 2147483647))).1.map PyData.int)
          unfold smallI
          rw [List.map_append]
          rfl
        · obtain ⟨y7, rfl, rfl⟩ := hw
          refine sb_nil (sb_nil ⟨_, _, _, _, _, rfl, ?_⟩)
          show _ = ((), (cellS i (absC (cellAt ns i)) (digs ns i)).map PyData.int)
          rw [ha]
          unfold cellS
          rw [if_neg hb]
          rfl
  · obtain ⟨z4, z5, z6, z7, z8, rfl, rfl⟩ := hw
    exact sb_cons (ss_ret (se_v 3) (show conv p _ (.r (.ref p)) = _ from if_pos rfl))

end
end D

namespace D
open PySem L2 Evl
section
variable {P : Program} {w : World} {K : PySem.W.Frag} {mg : Str → Option Value} {base : Heap} {f : Addr} {fd : FuncData}

def relLSize (n : Nat) : List R → R → Prop := fun rs r => ∃ t : T, rs = [.d (enc t)] ∧ t.dep ≤ n ∧ r = .d (.int t.size)
theorem ok_lsize {n : Nat} (G : Glo K mg) (F : Fun K "_law_size" "_law_size" sLSize f fd) (cP : Cl P w K mg base 1 "_law_parts" [] relLParts) (cS : Cl P w K mg base (n + 1) "_law_size" [] (relLSize n)) : FnOk P w K mg base CX0 (n + 2) f fd ["term"] (spP K (relLSize (n + 1))) := by
  refine fn_pure F scLSize (fun rs r h => by obtain ⟨t, rfl, _⟩ := h; rfl) fun cdv A outer s H E rs r S H0 hr h => ?_
  have nd := scLSize.nd
  obtain ⟨t, rfl, hd, rfl⟩ := h
  rw [T.size_sum]
  refine sb_cons (ss_ret (se_add se_int (se_sum rfl G.sum (se_l (se_lc (ow := [("part", 1)]) rfl nd (blkOk_by (N := ["term", "part"]) (sc := defScope sLSize) (by decide +kernel)) (ct_one nd) (se_l (se_call cP hr (by omega) (sa_cons (se_v 0) sa_nil) ⟨t, rfl, rfl⟩)) ?_ (All2.mapm (g := fun q : T => q.size) (h := PyData.int) fun q hq => ⟨_, rfl, fun s H C' cl fp κ M k => se_call cS hr (by omega) (sa_cons (se_v 1) sa_nil) ⟨q, rfl, ?_, rfl⟩⟩))))) rfl)
  · rw [List.length_map, List.length_map]; have := T.parts_len t; omega
  · obtain ⟨y, hy, rfl⟩ := List.mem_map.mp hq
    have := T.parts_dep hy
    omega
namespace T
theorem nl_len : ∀ t : T, (t.nl.length : Int) ≤ t.size
  | .var _ => by simp [nl, size]
  | .lf l => by cases l <;> simp [nl, size]
  | .pi _ a b => by have := nl_len a; have := nl_len b; simp only [nl, size, List.length_append]; omega
  | .lam _ a b => by have := nl_len a; have := nl_len b; simp only [nl, size, List.length_append]; omega
  | .app a b => by have := nl_len a; have := nl_len b; simp only [nl, size, List.length_append]; omega
  | .lt _ a v b => by have := nl_len a; have := nl_len v; have := nl_len b; simp only [nl, size, List.length_append]; omega
theorem flat_len : ∀ ts : List T, ((ts.flatMap nl).length : Int) ≤ sizes ts
  | [] => by simp [sizes]
  | t :: ts => by have := nl_len t; have := flat_len ts; simp only [List.flatMap_cons, List.length_append, sizes]; omega
theorem sizes_take : ∀ (ts : List T) (i : Nat), sizes (ts.take i) ≤ sizes ts
  | [], i => by simp [sizes]
  | t :: ts, 0 => by have := sizes_len (t :: ts); simp only [List.take_zero, sizes] at *; simp only [List.length_cons] at this; omega
  | t :: ts, i + 1 => by have := sizes_take ts i; simp only [List.take_succ_cons, sizes]; omega
theorem sizes_mem : ∀ {ts : List T} {t : T}, t ∈ ts → t.size ≤ sizes ts
  | x :: ts, t, h => by
    have h0 := size_pos x
    have h1 := sizes_len ts
    rcases List.mem_cons.mp h with rfl | h
    · simp only [sizes]; omega
    · have := sizes_mem h; simp only [sizes]; omega
end T
def relLNamed (n : Nat) : List R → R → Prop := fun rs r => ∃ t : T, rs = [.d (enc t)] ∧ t.dep ≤ n ∧ t.size ≤ 20000 ∧ r = .l (t.nl.map .str)
theorem ok_lnamed {n : Nat} (F : Fun K "_law_named" "_law_named" sLNamed f fd) (cP : Cl P w K mg base 1 "_law_parts" [] relLParts) (cN : Cl P w K mg base (n + 1) "_law_named" [] (relLNamed n)) : FnOk P w K mg base CX0 (n + 2) f fd ["term"] (spP K (relLNamed (n + 1))) := by
  refine fn_pure F scLNamed (fun rs r h => by obtain ⟨t, rfl, _⟩ := h; rfl) fun cdv A outer s H E rs r S H0 hr h => ?_
  have nd := scLNamed.nd
  obtain ⟨t, rfl, hd, hz, rfl⟩ := h
  have go : t.nl = (t.parts.map (·.1)).flatMap T.nl → ∀ l, enc t = .tuple (.str (tag t) :: l) → inV (V.str (tag t)) [V.str "const", V.str "kind", V.str "make", V.str "elim"] = false → SB (MS S H0) (CXB P w K mg base ["term", "found", "part"] "_law_named" (defScope sLNamed) f cdv A outer s H E) (defBody sLNamed) [some (.d (enc t)), none, none] () (P1 (.l (t.nl.map .str))) := by
    intro hn l hl hi
    refine sb_cons (ss_ifF (st_in (c := false) (se_x0 0 (hr := congrArg (fun d => some (some (R.d d))) hl)) (se_tup (sd_cons se_str (sd_cons se_str (sd_cons se_str (sd_cons se_str sd_nil))))) (hc := hi)) rfl (sb_nil ?_))
    refine sb_cons (ss_let 1 nd (se_own sd_nil) ?_)
    refine sb_cons (ss_forL PassesOwn.never rfl (tg_name nd (i := 2)) (se_l (se_call cP hr (by omega) (sa_cons (se_v 0) sa_nil) ⟨t, rfl, rfl⟩)) (fun i ρ k => ∃ z, ρ = [some (.d (enc t)), some (.l ((((t.parts.map (·.1)).take i).flatMap T.nl).map .str)), z]) ⟨none, rfl⟩ (fun i d ρ k hd' hw => ?_) (fun ρ k hw => ?_))
    · obtain ⟨z, rfl⟩ := hw
      obtain ⟨u, hu, rfl⟩ := map_at hd'
      have hm := List.mem_of_getElem? hu
      have h1 := T.sizes_mem hm
      have h2 := T.size_parts t
      have h3 := T.flat_len ((t.parts.map (·.1)).take i)
      have h4 := T.sizes_take (t.parts.map (·.1)) i
      have h5 := T.nl_len u
      have h6 : u.dep ≤ n := by
        obtain ⟨y, hy, rfl⟩ := List.mem_map.mp hm
        have := T.parts_dep hy
        omega
      refine ⟨_, rfl, sb_cons (ss_let 1 nd (se_catL (ds := (((t.parts.map (·.1)).take i).flatMap T.nl).map PyData.str) (es := u.nl.map PyData.str) (by rw [List.length_map, List.length_map]; omega) (se_v 1) (se_call cN hr (by omega) (sa_cons (se_v 2) sa_nil) ⟨u, rfl, h6, by omega, rfl⟩)) (sb_nil ⟨some (.d (enc u)), ?_⟩))⟩
      rw [List.take_add_one, hu]
      show _ = [_, some (R.l ((List.flatMap T.nl ((t.parts.map (·.1)).take i ++ [u])).map PyData.str)), _]
      rw [List.flatMap_append, List.flatMap_singleton, List.map_append]
      rfl
    · obtain ⟨z, rfl⟩ := hw
      rw [take_map, ← hn]
      exact sb_cons (ss_ret (se_v 1) rfl)
  cases t with
  | var k => exact go rfl _ rfl (by simp only [tag]; decide +kernel)
  | lf l =>
    cases l with
    | sort m => exact go rfl _ rfl (by simp only [tag]; decide +kernel)
    | _ => exact sb_cons (ss_ifT (st_is (b' := true) (st_in (se_x0 0) (se_tup (sd_cons se_str (sd_cons se_str (sd_cons se_str (sd_cons se_str sd_nil))))) (c := true)) rfl) rfl (sb_cons (ss_ret (se_own (sd_cons (se_x1 0) sd_nil)) rfl)))
  | pi x a b => exact go (by simp [T.nl, T.parts]) _ rfl (by simp only [tag]; decide +kernel)
  | lam x a b => exact go (by simp [T.nl, T.parts]) _ rfl (by simp only [tag]; decide +kernel)
  | app a b => exact go (by simp [T.nl, T.parts]) _ rfl (by simp only [tag]; decide +kernel)
  | lt x a v b => exact go (by simp [T.nl, T.parts]) _ rfl (by simp only [tag]; decide +kernel)
def relLDraw : List R → List PyData → R → List PyData → Prop := fun rs ds r ds' => ∃ (D : List Int) (m : Int) (a : Nat), rs = [.d (.int m)] ∧ ds = box D a ∧ 0 < m ∧ a ≤ 1000000 ∧ r = .d (.int (drawN D m a)) ∧ ds' = box D (a + 1)
theorem dig_at {D : List Int} {a : Nat} (h : a < D.length) : atI (D.map PyData.int) (a : Int) = some (.int (D.getD a 0)) := cell_at h
theorem ok_ldraw (G : Glo K mg) (F : Fun K "_law_draw" "_law_draw" sLDraw f fd) : FnOk P w K mg base CX0 1 f fd ["box", "m"] (spX K relLDraw) := by
  refine fn_box F scLDraw (fun rs ds r ds' h => by obtain ⟨D, m, a, rfl, _⟩ := h; rfl) fun cdv A outer s H E rs ds r ds' S H0 p hr hp h => ?_
  have nd := scLDraw.nd
  obtain ⟨D, m, a, rfl, rfl, hm, ha, rfl, rfl⟩ := h
  refine sb_cons (ss_unbox 2 3 0 rfl nd ?_)
  refine sb_cons (ss_setBox 0 hp (se_add (se_v 3) se_int) ?_)
  by_cases hl : a < D.length
  · have e0 : drawN D m a = D.getD a 0 % m := if_pos hl
    rw [e0]
    exact sb_cons (ss_ifT (st_is (b' := true) (st_lt (se_v 3) (se_lenL G.len (se_v 2))) (decide_eq_true (by rw [List.length_map]; omega))) rfl (sb_cons (ss_ret (se_mod hm (se_ixL (se_v 2) (se_v 3) (dig_at hl)) (se_v 1)) ⟨rfl, rfl⟩)))
  · have e0 : drawN D m a = ((a : Int) * a * 3 + a * 4 + (a : Int) / 3 + 1) % m := if_neg hl
    rw [e0]
    exact sb_cons (ss_ifF (st_is (b' := false) (st_lt (se_v 3) (se_lenL G.len (se_v 2))) (decide_eq_false (by rw [List.length_map]; omega))) rfl (sb_nil (sb_cons (ss_ret (se_mod hm (se_add (se_add (se_add (se_mul (.inr ⟨by decide, by decide⟩) (se_mul (.inr ⟨by omega, by omega⟩) (se_v 3) (se_v 3)) se_int) (se_mul (.inr ⟨by decide, by decide⟩) (se_v 3) se_int)) (se_fdiv ⟨by decide, by decide⟩ (se_v 3) se_int)) se_int) (se_v 1)) ⟨rfl, rfl⟩))))
def relLPick : List R → List PyData → R → List PyData → Prop := fun rs ds r ds' => ∃ (D : List Int) (xs : List PyData) (x : PyData) (a : Nat), rs = [.d (.list xs)] ∧ ds = box D a ∧ xs[(drawN D xs.length a).toNat]? = some x ∧ a ≤ 1000000 ∧ r = .d x ∧ ds' = box D (a + 1)
theorem ok_lpick (G : Glo K mg) (F : Fun K "_law_pick" "_law_pick" sLPick f fd) (cD : ClX P w K mg base 1 "_law_draw" relLDraw) : FnOk P w K mg base CX0 2 f fd ["box", "rows"] (spX K relLPick) := by
  refine fn_box F scLPick (fun rs ds r ds' h => by obtain ⟨D, xs, x, a, rfl, _⟩ := h; rfl) fun cdv A outer s H E rs ds r ds' S H0 p hr hp h => ?_
  have nd := scLPick.nd
  obtain ⟨D, xs, x, a, rfl, rfl, hx, ha, rfl, rfl⟩ := h
  have hp0 : (0 : Int) < xs.length := by
    have := (List.getElem?_eq_some_iff.mp hx).1
    omega
  have hn := draw_nn D (m := (xs.length : Int)) a hp0
  have e : atI xs (drawN D xs.length a) = some x := by
    unfold atI ixN
    rw [if_pos hn.1, if_pos (by omega)]
    exact hx
  exact sb_cons (ss_ret (se_ixL (se_v 1) (se_callX hp cD hr (by omega) (sa_cons (se_v 0) (sa_cons (se_lenL G.len (se_v 1)) sa_nil)) ⟨D, _, a, rfl, rfl, hp0, ha, rfl, rfl⟩) e) ⟨rfl, rfl⟩)
end
end D

namespace D
open PySem L2 Evl
section
variable {P : Program} {w : World} {K : PySem.W.Frag} {mg : Str → Option Value} {base : Heap} {f : Addr} {fd : FuncData}

theorem nD_ge (d : Nat) : 4 ≤ nD d := by
  cases d with
  | zero => exact Nat.le_refl _
  | succ d => unfold nD; omega
def relLAny (n : Nat) : List R → List PyData → R → List PyData → Prop := fun rs ds r ds' => ∃ (D : List Int) (d : Nat) (free : Int) (a : Nat), rs = [.d (.int free), .d (.int (d : Int))] ∧ ds = box D a ∧ d < n ∧ 1 ≤ free ∧ a + nD d ≤ 1000000 ∧ r = .d (enc (anyT D d free a).1) ∧ ds' = box D (anyT D d free a).2
theorem ok_lany {n : Nat} (G : Glo K mg) (F : Fun K "_law_any" "_law_any" sLAny f fd) (cD : ClX P w K mg base 1 "_law_draw" relLDraw) (cP : ClX P w K mg base 2 "_law_pick" relLPick) (cA : ClX P w K mg base (n + 2) "_law_any" (relLAny n)) : FnOk P w K mg base CX0 (n + 3) f fd ["box", "free", "depth"] (spX K (relLAny (n + 1))) := by
  refine fn_box F scLAny (fun rs ds r ds' h => by obtain ⟨D, d, free, a, rfl, _⟩ := h; rfl) fun cdv A outer s H E rs ds r ds' S H0 p hr hp h => ?_
  have nd := scLAny.nd
  obtain ⟨D, d, free, a, rfl, rfl, hd, hf, ha, rfl, rfl⟩ := h
  have hge := nD_ge d
  cases d with
  | zero =>
    have e1 : anyT D 0 free a = anyL D free a := rfl
    rw [e1]
    · by_cases hz : 0 < drawN D 3 (a + 1)
      · have e0 : anyL D free a = (.var (drawN D free (a + 2)), a + 3) := if_pos hz
        rw [e0]
        exact sb_cons (ss_let 3 nd (se_callX hp cD hr (by omega) (sa_cons (se_v 0) (sa_cons se_int sa_nil)) ⟨D, _, _, rfl, rfl, by decide, by omega, rfl, rfl⟩) (sb_cons (ss_ifT (SW.st (sw_orT (st_is (b' := true) (st_eqI (se_v 2) se_int) (decide_eq_true rfl)))) rfl (sb_cons (ss_ifT (SW.st (sw_andT (st_is (b' := true) (st_gt (se_v 1) se_int) (decide_eq_true (by omega))) (sw_and1 (st_is (b' := true) (st_gt (se_callX hp cD hr (by omega) (sa_cons (se_v 0) (sa_cons se_int sa_nil)) ⟨D, _, _, rfl, rfl, by decide, by omega, rfl, rfl⟩) se_int) (decide_eq_true hz))))) rfl (sb_cons (ss_ret (se_tup (sd_cons se_str (sd_cons (se_callX hp cD hr (by omega) (sa_cons (se_v 0) (sa_cons (se_v 1) sa_nil)) ⟨D, _, _, rfl, rfl, by omega, by omega, rfl, rfl⟩) sd_nil))) ⟨rfl, rfl⟩)))))))
      · have e0 : anyL D free a = (.lf (leafP D (a + 2)), a + 4) := if_neg hz
        rw [e0]
        exact sb_cons (ss_let 3 nd (se_callX hp cD hr (by omega) (sa_cons (se_v 0) (sa_cons se_int sa_nil)) ⟨D, _, _, rfl, rfl, by decide, by omega, rfl, rfl⟩) (sb_cons (ss_ifT (SW.st (sw_orT (st_is (b' := true) (st_eqI (se_v 2) se_int) (decide_eq_true rfl)))) rfl (sb_cons (ss_ifF (SW.st (sw_andT (st_is (b' := true) (st_gt (se_v 1) se_int) (decide_eq_true (by omega))) (sw_and1 (st_is (b' := false) (st_gt (se_callX hp cD hr (by omega) (sa_cons (se_v 0) (sa_cons se_int sa_nil)) ⟨D, _, _, rfl, rfl, by decide, by omega, rfl, rfl⟩) se_int) (decide_eq_false hz))))) rfl (sb_nil (sb_cons (ss_ret (se_callX hp cP hr (by omega) (sa_cons (se_v 0) (sa_cons (se_l (se_own (sd_cons (se_tup (sd_cons se_str (sd_cons (se_callX hp cD hr (by omega) (sa_cons (se_v 0) (sa_cons se_int sa_nil)) ⟨D, _, _, rfl, rfl, by decide, by omega, rfl, rfl⟩) sd_nil))) (sd_cons (se_tup (sd_cons se_str (sd_cons se_str sd_nil))) (sd_cons (se_tup (sd_cons se_str (sd_cons se_str sd_nil))) (sd_cons (se_tup (sd_cons se_str (sd_cons se_str (sd_cons se_int sd_nil)))) (sd_cons (se_tup (sd_cons se_str (sd_cons se_str (sd_cons se_int sd_nil)))) (sd_cons (se_tup (sd_cons se_str (sd_cons se_str sd_nil))) sd_nil)))))))) sa_nil)) ⟨D, _, _, _, rfl, rfl, leaf_get D (a + 2), by omega, rfl, rfl⟩) ⟨rfl, rfl⟩))))))))
  | succ d =>
    have hN : nD (d + 1) = 3 * nD d + 4 := rfl
    have b1 := any_le D d free (a + 1 + 1)
    have b2 := any_le D d free (anyT D d free (a + 1 + 1)).2
    have b3 := any_le D d (free + 1) (anyT D d free (a + 1 + 1)).2
    by_cases h3 : drawN D 9 a < 3
    · have e1 : anyT D (d + 1) free a = anyL D free a := if_pos h3
      rw [e1]
      by_cases hz : 0 < drawN D 3 (a + 1)
      · have e0 : anyL D free a = (.var (drawN D free (a + 2)), a + 3) := if_pos hz
        rw [e0]
        exact sb_cons (ss_let 3 nd (se_callX hp cD hr (by omega) (sa_cons (se_v 0) (sa_cons se_int sa_nil)) ⟨D, _, _, rfl, rfl, by decide, by omega, rfl, rfl⟩) (sb_cons (ss_ifT (SW.st (sw_orF (st_is (b' := false) (st_eqI (se_v 2) se_int) (decide_eq_false (by omega))) (sw_or1 (st_is (b' := true) (st_lt (se_v 3) se_int) (decide_eq_true h3))))) rfl (sb_cons (ss_ifT (SW.st (sw_andT (st_is (b' := true) (st_gt (se_v 1) se_int) (decide_eq_true (by omega))) (sw_and1 (st_is (b' := true) (st_gt (se_callX hp cD hr (by omega) (sa_cons (se_v 0) (sa_cons se_int sa_nil)) ⟨D, _, _, rfl, rfl, by decide, by omega, rfl, rfl⟩) se_int) (decide_eq_true hz))))) rfl (sb_cons (ss_ret (se_tup (sd_cons se_str (sd_cons (se_callX hp cD hr (by omega) (sa_cons (se_v 0) (sa_cons (se_v 1) sa_nil)) ⟨D, _, _, rfl, rfl, by omega, by omega, rfl, rfl⟩) sd_nil))) ⟨rfl, rfl⟩)))))))
      · have e0 : anyL D free a = (.lf (leafP D (a + 2)), a + 4) := if_neg hz
        rw [e0]
        exact sb_cons (ss_let 3 nd (se_callX hp cD hr (by omega) (sa_cons (se_v 0) (sa_cons se_int sa_nil)) ⟨D, _, _, rfl, rfl, by decide, by omega, rfl, rfl⟩) (sb_cons (ss_ifT (SW.st (sw_orF (st_is (b' := false) (st_eqI (se_v 2) se_int) (decide_eq_false (by omega))) (sw_or1 (st_is (b' := true) (st_lt (se_v 3) se_int) (decide_eq_true h3))))) rfl (sb_cons (ss_ifF (SW.st (sw_andT (st_is (b' := true) (st_gt (se_v 1) se_int) (decide_eq_true (by omega))) (sw_and1 (st_is (b' := false) (st_gt (se_callX hp cD hr (by omega) (sa_cons (se_v 0) (sa_cons se_int sa_nil)) ⟨D, _, _, rfl, rfl, by decide, by omega, rfl, rfl⟩) se_int) (decide_eq_false hz))))) rfl (sb_nil (sb_cons (ss_ret (se_callX hp cP hr (by omega) (sa_cons (se_v 0) (sa_cons (se_l (se_own (sd_cons (se_tup (sd_cons se_str (sd_cons (se_callX hp cD hr (by omega) (sa_cons (se_v 0) (sa_cons se_int sa_nil)) ⟨D, _, _, rfl, rfl, by decide, by omega, rfl, rfl⟩) sd_nil))) (sd_cons (se_tup (sd_cons se_str (sd_cons se_str sd_nil))) (sd_cons (se_tup (sd_cons se_str (sd_cons se_str sd_nil))) (sd_cons (se_tup (sd_cons se_str (sd_cons se_str (sd_cons se_int sd_nil)))) (sd_cons (se_tup (sd_cons se_str (sd_cons se_str (sd_cons se_int sd_nil)))) (sd_cons (se_tup (sd_cons se_str (sd_cons se_str sd_nil))) sd_nil)))))))) sa_nil)) ⟨D, _, _, _, rfl, rfl, leaf_get D (a + 2), by omega, rfl, rfl⟩) ⟨rfl, rfl⟩))))))))
    · by_cases h6 : drawN D 9 a < 6
      · have e1 : anyT D (d + 1) free a = (.app (anyT D d free (a + 2)).1 (anyT D d free (anyT D d free (a + 2)).2).1, (anyT D d free (anyT D d free (a + 2)).2).2) := by
          rw [anyT, if_neg h3, if_pos h6]
        rw [e1]
        exact sb_cons (ss_let 3 nd (se_callX hp cD hr (by omega) (sa_cons (se_v 0) (sa_cons se_int sa_nil)) ⟨D, _, _, rfl, rfl, by decide, by omega, rfl, rfl⟩) (sb_cons (ss_ifF (SW.st (sw_orF (st_is (b' := false) (st_eqI (se_v 2) se_int) (decide_eq_false (by omega))) (sw_or1 (st_is (b' := false) (st_lt (se_v 3) se_int) (decide_eq_false h3))))) rfl (sb_nil (sb_cons (ss_let 4 nd (se_callX hp cP hr (by omega) (sa_cons (se_v 0) (sa_cons (se_l (se_own (sd_cons se_str (sd_cons se_str (sd_cons se_str sd_nil))))) sa_nil)) ⟨D, _, _, _, rfl, rfl, nm_get D (a + 1), by omega, rfl, rfl⟩) (sb_cons (ss_ifT (st_is (b' := true) (st_lt (se_v 3) se_int) (decide_eq_true h6)) rfl (sb_cons (ss_ret (se_tup (sd_cons se_str (sd_cons (se_callX hp cA hr (by omega) (sa_cons (se_v 0) (sa_cons (se_v 1) (sa_cons (se_is (y := .int ((d : Nat) : Int)) (se_sub (se_v 2) se_int) (congrArg PyData.int (by omega))) sa_nil))) ⟨D, d, _, _, rfl, rfl, by omega, by omega, by omega, rfl, rfl⟩) (sd_cons (se_callX hp cA hr (by omega) (sa_cons (se_v 0) (sa_cons (se_v 1) (sa_cons (se_is (y := .int ((d : Nat) : Int)) (se_sub (se_v 2) se_int) (congrArg PyData.int (by omega))) sa_nil))) ⟨D, d, _, _, rfl, rfl, by omega, by omega, by omega, rfl, rfl⟩) sd_nil)))) ⟨rfl, rfl⟩))))))))))
      · by_cases h8 : drawN D 9 a = 8
        · have e1 : anyT D (d + 1) free a = (.lt (nmP D (a + 1)) (anyT D d free (a + 2)).1 (anyT D d free (anyT D d free (a + 2)).2).1 (anyT D d (free + 1) (anyT D d free (anyT D d free (a + 2)).2).2).1, (anyT D d (free + 1) (anyT D d free (anyT D d free (a + 2)).2).2).2) := by
            rw [anyT, if_neg h3, if_neg h6, if_pos h8]
          rw [e1]
          exact sb_cons (ss_let 3 nd (se_callX hp cD hr (by omega) (sa_cons (se_v 0) (sa_cons se_int sa_nil)) ⟨D, _, _, rfl, rfl, by decide, by omega, rfl, rfl⟩) (sb_cons (ss_ifF (SW.st (sw_orF (st_is (b' := false) (st_eqI (se_v 2) se_int) (decide_eq_false (by omega))) (sw_or1 (st_is (b' := false) (st_lt (se_v 3) se_int) (decide_eq_false h3))))) rfl (sb_nil (sb_cons (ss_let 4 nd (se_callX hp cP hr (by omega) (sa_cons (se_v 0) (sa_cons (se_l (se_own (sd_cons se_str (sd_cons se_str (sd_cons se_str sd_nil))))) sa_nil)) ⟨D, _, _, _, rfl, rfl, nm_get D (a + 1), by omega, rfl, rfl⟩) (sb_cons (ss_ifF (st_is (b' := false) (st_lt (se_v 3) se_int) (decide_eq_false h6)) rfl (sb_nil (sb_cons (ss_ifT (st_is (b' := true) (st_eqI (se_v 3) se_int) (decide_eq_true h8)) rfl (sb_cons (ss_ret (se_tup (sd_cons se_str (sd_cons (se_v 4) (sd_cons (se_callX hp cA hr (by omega) (sa_cons (se_v 0) (sa_cons (se_v 1) (sa_cons (se_is (y := .int ((d : Nat) : Int)) (se_sub (se_v 2) se_int) (congrArg PyData.int (by omega))) sa_nil))) ⟨D, d, _, _, rfl, rfl, by omega, by omega, by omega, rfl, rfl⟩) (sd_cons (se_callX hp cA hr (by omega) (sa_cons (se_v 0) (sa_cons (se_v 1) (sa_cons (se_is (y := .int ((d : Nat) : Int)) (se_sub (se_v 2) se_int) (congrArg PyData.int (by omega))) sa_nil))) ⟨D, d, _, _, rfl, rfl, by omega, by omega, by omega, rfl, rfl⟩) (sd_cons (se_callX hp cA hr (by omega) (sa_cons (se_v 0) (sa_cons (se_add (se_v 1) se_int) (sa_cons (se_is (y := .int ((d : Nat) : Int)) (se_sub (se_v 2) se_int) (congrArg PyData.int (by omega))) sa_nil))) ⟨D, d, _, _, rfl, rfl, by omega, by omega, by omega, rfl, rfl⟩) sd_nil)))))) ⟨rfl, rfl⟩)))))))))))))
        · by_cases h7 : drawN D 9 a = 6
          · have e1 : anyT D (d + 1) free a = (.lam (nmP D (a + 1)) (anyT D d free (a + 2)).1 (anyT D d (free + 1) (anyT D d free (a + 2)).2).1, (anyT D d (free + 1) (anyT D d free (a + 2)).2).2) := by
              rw [anyT, if_neg h3, if_neg h6, if_neg h8, if_pos h7]
            rw [e1]
            exact sb_cons (ss_let 3 nd (se_callX hp cD hr (by omega) (sa_cons (se_v 0) (sa_cons se_int sa_nil)) ⟨D, _, _, rfl, rfl, by decide, by omega, rfl, rfl⟩) (sb_cons (ss_ifF (SW.st (sw_orF (st_is (b' := false) (st_eqI (se_v 2) se_int) (decide_eq_false (by omega))) (sw_or1 (st_is (b' := false) (st_lt (se_v 3) se_int) (decide_eq_false h3))))) rfl (sb_nil (sb_cons (ss_let 4 nd (se_callX hp cP hr (by omega) (sa_cons (se_v 0) (sa_cons (se_l (se_own (sd_cons se_str (sd_cons se_str (sd_cons se_str sd_nil))))) sa_nil)) ⟨D, _, _, _, rfl, rfl, nm_get D (a + 1), by omega, rfl, rfl⟩) (sb_cons (ss_ifF (st_is (b' := false) (st_lt (se_v 3) se_int) (decide_eq_false h6)) rfl (sb_nil (sb_cons (ss_ifF (st_is (b' := false) (st_eqI (se_v 3) se_int) (decide_eq_false h8)) rfl (sb_nil (sb_cons (ss_ret (se_tup (sd_cons (se_ifT (st_is (b' := true) (st_eqI (se_v 3) se_int) (decide_eq_true h7)) rfl se_str) (sd_cons (se_v 4) (sd_cons (se_callX hp cA hr (by omega) (sa_cons (se_v 0) (sa_cons (se_v 1) (sa_cons (se_is (y := .int ((d : Nat) : Int)) (se_sub (se_v 2) se_int) (congrArg PyData.int (by omega))) sa_nil))) ⟨D, d, _, _, rfl, rfl, by omega, by omega, by omega, rfl, rfl⟩) (sd_cons (se_callX hp cA hr (by omega) (sa_cons (se_v 0) (sa_cons (se_add (se_v 1) se_int) (sa_cons (se_is (y := .int ((d : Nat) : Int)) (se_sub (se_v 2) se_int) (congrArg PyData.int (by omega))) sa_nil))) ⟨D, d, _, _, rfl, rfl, by omega, by omega, by omega, rfl, rfl⟩) sd_nil))))) ⟨rfl, rfl⟩))))))))))))))
          · have e1 : anyT D (d + 1) free a = (.pi (nmP D (a + 1)) (anyT D d free (a + 2)).1 (anyT D d (free + 1) (anyT D d free (a + 2)).2).1, (anyT D d (free + 1) (anyT D d free (a + 2)).2).2) := by
              rw [anyT, if_neg h3, if_neg h6, if_neg h8, if_neg h7]
            rw [e1]
            exact sb_cons (ss_let 3 nd (se_callX hp cD hr (by omega) (sa_cons (se_v 0) (sa_cons se_int sa_nil)) ⟨D, _, _, rfl, rfl, by decide, by omega, rfl, rfl⟩) (sb_cons (ss_ifF (SW.st (sw_orF (st_is (b' := false) (st_eqI (se_v 2) se_int) (decide_eq_false (by omega))) (sw_or1 (st_is (b' := false) (st_lt (se_v 3) se_int) (decide_eq_false h3))))) rfl (sb_nil (sb_cons (ss_let 4 nd (se_callX hp cP hr (by omega) (sa_cons (se_v 0) (sa_cons (se_l (se_own (sd_cons se_str (sd_cons se_str (sd_cons se_str sd_nil))))) sa_nil)) ⟨D, _, _, _, rfl, rfl, nm_get D (a + 1), by omega, rfl, rfl⟩) (sb_cons (ss_ifF (st_is (b' := false) (st_lt (se_v 3) se_int) (decide_eq_false h6)) rfl (sb_nil (sb_cons (ss_ifF (st_is (b' := false) (st_eqI (se_v 3) se_int) (decide_eq_false h8)) rfl (sb_nil (sb_cons (ss_ret (se_tup (sd_cons (se_ifF (st_is (b' := false) (st_eqI (se_v 3) se_int) (decide_eq_false h7)) rfl se_str) (sd_cons (se_v 4) (sd_cons (se_callX hp cA hr (by omega) (sa_cons (se_v 0) (sa_cons (se_v 1) (sa_cons (se_is (y := .int ((d : Nat) : Int)) (se_sub (se_v 2) se_int) (congrArg PyData.int (by omega))) sa_nil))) ⟨D, d, _, _, rfl, rfl, by omega, by omega, by omega, rfl, rfl⟩) (sd_cons (se_callX hp cA hr (by omega) (sa_cons (se_v 0) (sa_cons (se_add (se_v 1) se_int) (sa_cons (se_is (y := .int ((d : Nat) : Int)) (se_sub (se_v 2) se_int) (congrArg PyData.int (by omega))) sa_nil))) ⟨D, d, _, _, rfl, rfl, by omega, by omega, by omega, rfl, rfl⟩) sd_nil))))) ⟨rfl, rfl⟩))))))))))))))

end
end D

namespace D
open PySem L2 Evl
/-! ### sorted(dict([(name, 1), ..])) -/
def adSd (acc : List Str) (x : Str) : List Str := if x ∈ acc then acc else acc ++ [x]
def uniSd (l : List Str) : List Str := l.foldl adSd []
theorem mem_adSd {acc : List Str} {x y : Str} : y ∈ adSd acc x ↔ y ∈ acc ∨ y = x := by
  unfold adSd
  split
  · rename_i h
    constructor
    · exact .inl
    · rintro (h' | rfl)
      · exact h'
      · exact h
  · rw [List.mem_append, List.mem_singleton]
theorem nodup_adSd {acc : List Str} {x : Str} (h : acc.Nodup) : (adSd acc x).Nodup := by
  unfold adSd
  split
  · exact h
  · rename_i hx
    refine List.nodup_append.mpr ⟨h, by simp, fun a ha b hb e => hx ?_⟩
    rw [List.mem_singleton] at hb
    rw [← hb, ← e]
    exact ha
theorem fold_adSd : ∀ (l acc : List Str), acc.Nodup → (l.foldl adSd acc).Nodup ∧ ∀ y, y ∈ l.foldl adSd acc ↔ y ∈ acc ∨ y ∈ l
  | [], acc, h => ⟨h, fun y => by simp⟩
  | x :: l, acc, h => by
    obtain ⟨h1, h2⟩ := fold_adSd l (adSd acc x) (nodup_adSd h)
    refine ⟨h1, fun y => ?_⟩
    rw [List.foldl_cons, h2 y, mem_adSd, List.mem_cons, or_assoc]
theorem addK_mapd (acc : List Str) (x : Str) : addK (acc.map Sum.inr) (.inr x) = (adSd acc x).map Sum.inr := by
  unfold addK adSd
  by_cases h : x ∈ acc
  · rw [if_pos h, if_pos (hasK_iff.mpr (List.mem_map.mpr ⟨_, h, rfl⟩))]
  · rw [if_neg h, if_neg (fun z => h (by obtain ⟨y, hy, e⟩ := List.mem_map.mp (hasK_iff.mp z); cases e; exact hy)), List.map_append]
    rfl
theorem merge_dks (c : V) : ∀ (l acc : List Str), mergeK (dks c (acc.map Sum.inr)) (l.map fun x => ((Sum.inr x : Key), c)) = dks c ((l.foldl adSd acc).map Sum.inr)
  | [], acc => rfl
  | x :: l, acc => by
    show mergeK (putK (dks c (acc.map Sum.inr)) (.inr x) c) (l.map fun x => ((Sum.inr x : Key), c)) = _
    rw [put_dks, addK_mapd, merge_dks c l (adSd acc x)]
    rfl
section
variable {κ : Type} {M : Mem κ} {X : Cx} {ρ : Rho} {k k1 k2 k3 : κ} {pos : Pos}
theorem pairs_dp {K : PySem.W.Frag} {G H : Hp} (e : Ex G H) : ∀ {l : List Str} {vs : List V}, DpAll K G vs (l.map fun x => .tuple [.str x, .int 1]) → ∃ ps : List Addr, vs = ps.map V.ref ∧ Paired (fun p kv => SqT K H p [kV kv.1, kv.2]) ps (l.map fun x => ((Sum.inr x : Key), V.int 1))
  | [], _, h => by
    cases h
    exact ⟨[], rfl, .nil⟩
  | x :: l, _, h => by
    cases h with
    | cons h1 h2 =>
      obtain ⟨ps, rfl, h3⟩ := pairs_dp e h2
      cases h1 with
      | @tup p vs _ g1 g2 =>
        cases g2 with
        | cons a1 g2 =>
          cases g2 with
          | cons a2 g2 =>
            cases g2
            cases a1
            cases a2
            exact ⟨p :: ps, rfl, .cons (ex_t e g1) h3⟩
theorem se_sdict {e : Expr} {pe p2 pos2 : Pos} {l : List Str} (hc : X.calm = true) (hm : X.mg "sorted" = none) (hm2 : X.mg "dict" = none) (hl : ∀ x ∈ l, x = "a" ∨ x = "b" ∨ x = "nat")
    (ha : SE M X e ρ k (.d (.list (l.map fun x => .tuple [.str x, .int 1]))) k1) (hg : Gl X "sorted" := by rfl) (hg2 : Gl X "dict" := by rfl) (he : starEach [e] X.env = (false, eval e X.env) :: starEach [] X.env := by exact starC rfl) (he2 : starEach [.Call (.Name "dict" p2) [e] [] pos2] X.env = (false, eval (.Call (.Name "dict" p2) [e] [] pos2) X.env) :: starEach [] X.env := by exact starC rfl) :
    SE M X (.Call (.Name "sorted" pe) [.Call (.Name "dict" p2) [e] [] pos2] [] pos) ρ k (.l ((canS l).map .str)) k1 := by
  refine SE.of (pe_callB (call_sortedD hc) hg hm (by decide +kernel) (pa_cons (pe_callTy (call_dictP hc) hg2 hm2 (by decide +kernel) (pas (M := M)) (by decide) (by decide) he rfl) pa_nil he2) (by decide) (by decide) he2 rfl) fun σ H s q => ?_
  refine ⟨ρ, k, _, k1, sa1 ha he, s, q, fun vs H1 p1 => ?_⟩
  obtain ⟨v, rfl, hv⟩ := one_d p1.2.2
  have hv' : Dp X.K (M.im H1) v (.list (l.map fun x => .tuple [.str x, .int 1])) := hv
  cases hv' with
  | @lst a xs _ h1 h2 =>
    obtain ⟨ps, rfl, hps⟩ := pairs_dp (M.sub H1) h2
    refine ⟨a, ps, _, rfl, ex_l (M.sub H1) h1, hps, fun d hd => ?_⟩
    have em : mergeK [] (l.map fun x => ((Sum.inr x : Key), V.int 1)) = dks (.int 1) ((uniSd l).map Sum.inr) := merge_dks (.int 1) l []
    rw [em]
    obtain ⟨hnd, hmem⟩ := fold_adSd l [] (by simp)
    have hmem' : ∀ y, y ∈ uniSd l ↔ y ∈ l := fun y => by
      have := hmem y
      simpa [uniSd] using this
    have hlen : (uniSd l).length ≤ 3 := List.Nodup.length_le_of_subset hnd (l₂ := (["a", "b", "nat"] : List Str)) fun x hx => by
      rcases hl x ((hmem' x).mp hx) with rfl | rfl | rfl <;> simp
    have u1 := M.up (H2 := upd H1 d (.dK (dks (.int 1) ((uniSd l).map Sum.inr)))) p1.2.1 (Ex.new hd)
    refine ⟨d, dks (.int 1) ((uniSd l).map Sum.inr), uniSd l, rfl, .inl upd_same, by rw [keys_dks], by omega, fun ys q0 hy1 hy2 hq0 => ?_⟩
    rw [sortedS_uniq hy1 hy2 hnd hmem' hl]
    have go : ∀ {G : Hp} (l : List Str), DpAll X.K G (l.map V.str) (l.map PyData.str) := fun l => by
      induction l with
      | nil => exact .nil
      | cons a l ih => exact .cons (.str a) ih
    exact (own_lst u1.1 (go _) q0 hq0).back (p1.1.trans u1.2)
end
end D

namespace D
open PySem L2 Evl
namespace T
/-! ### names -/
theorem lift_nm (m : Int) : ∀ (t : T) (u : Int), (t.lift m u).nm = t.nm
  | .var k, u => by unfold lift; split <;> rfl
  | .lf _, _ => rfl
  | .pi _ a b, u => by simp only [lift, nm, lift_nm m a, lift_nm m b]
  | .lam _ a b, u => by simp only [lift, nm, lift_nm m a, lift_nm m b]
  | .app a b, u => by simp only [lift, nm, lift_nm m a, lift_nm m b]
  | .lt _ a v b, u => by simp only [lift, nm, lift_nm m a, lift_nm m v, lift_nm m b]
theorem put_nm {v : T} (hv : v.nm = true) : ∀ (t : T) (u : Int), t.nm = true → (t.put v u).nm = true
  | .var k, u, _ => by
    unfold put
    split
    · rw [lift_nm]; exact hv
    · split <;> rfl
  | .lf _, _, _ => rfl
  | .pi _ a b, u, h => by
    simp only [nm, Bool.and_eq_true] at h
    simp only [put, nm, put_nm hv a _ h.2.1, put_nm hv b _ h.2.2, h.1, Bool.and_self]
  | .lam _ a b, u, h => by
    simp only [nm, Bool.and_eq_true] at h
    simp only [put, nm, put_nm hv a _ h.2.1, put_nm hv b _ h.2.2, h.1, Bool.and_self]
  | .app a b, u, h => by
    simp only [nm, Bool.and_eq_true] at h
    simp only [put, nm, put_nm hv a _ h.1, put_nm hv b _ h.2, Bool.and_self]
  | .lt _ a w b, u, h => by
    simp only [nm, Bool.and_eq_true] at h
    simp only [put, nm, put_nm hv a _ h.2.1, put_nm hv w _ h.2.2.1, put_nm hv b _ h.2.2.2, h.1, Bool.and_self]
/-! ### moves -/
theorem lift_lift {k m : Int} (hk : 0 ≤ k) : ∀ (t : T) (u : Int), (t.lift k u).lift m u = t.lift (k + m) u
  | .var j, u => by
    simp only [lift]
    by_cases h : j ≥ u
    · rw [if_pos h, if_pos h]
      simp only [lift]
      rw [if_pos (by omega), Int.add_assoc]
    · rw [if_neg h, if_neg h]
      simp only [lift]
      rw [if_neg h]
  | .lf _, _ => rfl
  | .pi _ a b, u => by simp only [lift, lift_lift hk a, lift_lift hk b]
  | .lam _ a b, u => by simp only [lift, lift_lift hk a, lift_lift hk b]
  | .app a b, u => by simp only [lift, lift_lift hk a, lift_lift hk b]
  | .lt _ a v b, u => by simp only [lift, lift_lift hk a, lift_lift hk v, lift_lift hk b]
theorem lift_swap {k m : Int} (hk : 0 ≤ k) (hm : 0 ≤ m) : ∀ (t : T) (u c : Int), c ≤ u → (t.lift k c).lift m (u + k) = (t.lift m u).lift k c
  | .var j, u, c, h => by
    simp only [lift]
    by_cases h1 : j ≥ c
    · rw [if_pos h1]
      by_cases h2 : j ≥ u
      · rw [if_pos h2]
        simp only [lift]
        rw [if_pos (by omega), if_pos (by omega)]
        congr 1
        omega
      · rw [if_neg h2]
        simp only [lift]
        rw [if_neg (by omega), if_pos h1]
    · rw [if_neg h1, if_neg (by omega)]
      simp only [lift]
      rw [if_neg (by omega), if_neg h1]
  | .lf _, _, _, _ => rfl
  | .pi _ a b, u, c, h => by
    have e : u + k + 1 = (u + 1) + k := by omega
    simp only [lift, e, lift_swap hk hm a u c h, lift_swap hk hm b (u + 1) (c + 1) (by omega)]
  | .lam _ a b, u, c, h => by
    have e : u + k + 1 = (u + 1) + k := by omega
    simp only [lift, e, lift_swap hk hm a u c h, lift_swap hk hm b (u + 1) (c + 1) (by omega)]
  | .app a b, u, c, h => by simp only [lift, lift_swap hk hm a u c h, lift_swap hk hm b u c h]
  | .lt _ a v b, u, c, h => by
    have e : u + k + 1 = (u + 1) + k := by omega
    simp only [lift, e, lift_swap hk hm a u c h, lift_swap hk hm v u c h, lift_swap hk hm b (u + 1) (c + 1) (by omega)]
theorem put_lift (v : T) : ∀ (t : T) (u : Int), (t.lift 1 u).put v u = t
  | .var j, u => by
    simp only [lift]
    by_cases h : j ≥ u
    · rw [if_pos h]
      simp only [put]
      rw [if_neg (by omega), if_pos (by omega)]
      congr 1
      omega
    · rw [if_neg h]
      simp only [put]
      rw [if_neg (by omega), if_neg (by omega)]
  | .lf _, _ => rfl
  | .pi _ a b, u => by simp only [lift, put, put_lift v a, put_lift v b]
  | .lam _ a b, u => by simp only [lift, put, put_lift v a, put_lift v b]
  | .app a b, u => by simp only [lift, put, put_lift v a, put_lift v b]
  | .lt _ a w b, u => by simp only [lift, put, put_lift v a, put_lift v w, put_lift v b]
theorem put_lift1 : ∀ (t : T) (u : Int), 0 ≤ u → (t.lift 1 (u + 1)).put (.var 0) u = t
  | .var j, u, hu => by
    simp only [lift]
    by_cases h : j ≥ u + 1
    · rw [if_pos h]
      simp only [put]
      rw [if_neg (by omega), if_pos (by omega)]
      congr 1
      omega
    · rw [if_neg h]
      simp only [put]
      by_cases h2 : j = u
      · rw [if_pos h2]
        simp only [lift]
        rw [if_pos (by omega)]
        congr 1
        omega
      · rw [if_neg h2, if_neg (by omega)]
  | .lf _, _, _ => rfl
  | .pi _ a b, u, hu => by simp only [lift, put, put_lift1 a u hu, put_lift1 b (u + 1) (by omega)]
  | .lam _ a b, u, hu => by simp only [lift, put, put_lift1 a u hu, put_lift1 b (u + 1) (by omega)]
  | .app a b, u, hu => by simp only [lift, put, put_lift1 a u hu, put_lift1 b u hu]
  | .lt _ a w b, u, hu => by simp only [lift, put, put_lift1 a u hu, put_lift1 w u hu, put_lift1 b (u + 1) (by omega)]
theorem put_abs {i : Int} (hi : 0 ≤ i) : ∀ (t : T) (u : Int), (t.abs i u).put (.var i) u = t
  | .var j, u => by
    simp only [abs]
    by_cases h : j < u
    · rw [if_pos h]
      simp only [put]
      rw [if_neg (by omega), if_neg (by omega)]
    · rw [if_neg h]
      by_cases h2 : j = i + u
      · rw [if_pos h2]
        simp only [put, if_true, lift]
        rw [if_pos (by omega), h2]
      · rw [if_neg h2]
        simp only [put]
        rw [if_neg (by omega), if_pos (by omega)]
        congr 1
        omega
  | .lf _, _ => rfl
  | .pi _ a b, u => by simp only [abs, put, put_abs hi a, put_abs hi b]
  | .lam _ a b, u => by simp only [abs, put, put_abs hi a, put_abs hi b]
  | .app a b, u => by simp only [abs, put, put_abs hi a, put_abs hi b]
  | .lt _ a w b, u => by simp only [abs, put, put_abs hi a, put_abs hi w, put_abs hi b]
theorem abs_has1 {i : Int} (hi : 0 ≤ i) : ∀ (t : T) (u : Int), (t.abs i u).has (i + 1 + u) = false
  | .var j, u => by
    simp only [abs]
    by_cases h : j < u
    · rw [if_pos h]
      simp only [has]
      exact decide_eq_false (by omega)
    · rw [if_neg h]
      by_cases h2 : j = i + u
      · rw [if_pos h2]
        simp only [has]
        exact decide_eq_false (by omega)
      · rw [if_neg h2]
        simp only [has]
        exact decide_eq_false (by omega)
  | .lf _, _ => rfl
  | .pi _ a b, u => by
    have e : i + 1 + u + 1 = i + 1 + (u + 1) := by omega
    simp only [abs, has, e, abs_has1 hi a, abs_has1 hi b, Bool.or_self]
  | .lam _ a b, u => by
    have e : i + 1 + u + 1 = i + 1 + (u + 1) := by omega
    simp only [abs, has, e, abs_has1 hi a, abs_has1 hi b, Bool.or_self]
  | .app a b, u => by simp only [abs, has, abs_has1 hi a, abs_has1 hi b, Bool.or_self]
  | .lt _ a w b, u => by
    have e : i + 1 + u + 1 = i + 1 + (u + 1) := by omega
    simp only [abs, has, e, abs_has1 hi a, abs_has1 hi w, abs_has1 hi b, Bool.or_self]
theorem abs_has0 {i : Int} (hi : 0 ≤ i) : ∀ (t : T) (u : Int), (t.abs i u).has u = t.has (i + u)
  | .var j, u => by
    simp only [abs]
    by_cases h : j < u
    · rw [if_pos h]
      simp only [has]
      rw [decide_eq_false (by omega), decide_eq_false (by omega)]
    · rw [if_neg h]
      by_cases h2 : j = i + u
      · rw [if_pos h2]
        simp only [has]
        rw [decide_eq_true h2]
        exact decide_eq_true trivial
      · rw [if_neg h2]
        simp only [has]
        rw [decide_eq_false (by omega), decide_eq_false h2]
  | .lf _, _ => rfl
  | .pi _ a b, u => by
    have e : i + u + 1 = i + (u + 1) := by omega
    simp only [abs, has, e, abs_has0 hi a, abs_has0 hi b]
  | .lam _ a b, u => by
    have e : i + u + 1 = i + (u + 1) := by omega
    simp only [abs, has, e, abs_has0 hi a, abs_has0 hi b]
  | .app a b, u => by simp only [abs, has, abs_has0 hi a, abs_has0 hi b]
  | .lt _ a w b, u => by
    have e : i + u + 1 = i + (u + 1) := by omega
    simp only [abs, has, e, abs_has0 hi a, abs_has0 hi w, abs_has0 hi b]
theorem bare_bare : ∀ t : T, t.bare.bare = t.bare
  | .var _ => rfl
  | .lf _ => rfl
  | .pi _ a b => by simp only [bare, bare_bare a, bare_bare b]
  | .lam _ a b => by simp only [bare, bare_bare a, bare_bare b]
  | .app a b => by simp only [bare, bare_bare a, bare_bare b]
  | .lt _ a v b => by simp only [bare, bare_bare a, bare_bare v, bare_bare b]
theorem bare_size : ∀ t : T, t.bare.size = t.size
  | .var _ => rfl
  | .lf _ => rfl
  | .pi _ a b => by simp only [bare, size, bare_size a, bare_size b]
  | .lam _ a b => by simp only [bare, size, bare_size a, bare_size b]
  | .app a b => by simp only [bare, size, bare_size a, bare_size b]
  | .lt _ a v b => by simp only [bare, size, bare_size a, bare_size v, bare_size b]
theorem bare_app (t u : T) : t.bare ≠ (T.app t u).bare := fun h => by
  have h1 := congrArg size h
  have h2 := size_pos u
  rw [bare_size, bare_size] at h1
  simp only [size] at h1
  omega
/-! ### free variables of a lifted term -/
theorem has_lift {k : Int} (hk : 0 ≤ k) : ∀ (t : T) (u v : Int), u ≤ v → (t.lift k u).has v = (decide (u + k ≤ v) && t.has (v - k))
  | .var j, u, v, h => by
    simp only [lift]
    by_cases h1 : j ≥ u
    · rw [if_pos h1]
      simp only [has]
      by_cases h2 : u + k ≤ v
      · rw [decide_eq_true h2, Bool.true_and, Bool.eq_iff_iff, decide_eq_true_eq, decide_eq_true_eq]
        omega
      · rw [decide_eq_false h2, Bool.false_and]
        exact decide_eq_false (by omega)
    · rw [if_neg h1]
      simp only [has]
      rw [decide_eq_false (by omega)]
      by_cases h2 : u + k ≤ v
      · rw [decide_eq_true h2, Bool.true_and, decide_eq_false (by omega)]
      · rw [decide_eq_false h2, Bool.false_and]
  | .lf _, _, _, _ => by simp [lift, has]
  | .pi _ a b, u, v, h => by
    have e : v + 1 - k = v - k + 1 := by omega
    have e2 : decide (u + 1 + k ≤ v + 1) = decide (u + k ≤ v) := by rw [Bool.eq_iff_iff, decide_eq_true_eq, decide_eq_true_eq]; omega
    simp only [lift, has, has_lift hk a u v h, has_lift hk b (u + 1) (v + 1) (by omega), e, e2, Bool.and_or_distrib_left]
  | .lam _ a b, u, v, h => by
    have e : v + 1 - k = v - k + 1 := by omega
    have e2 : decide (u + 1 + k ≤ v + 1) = decide (u + k ≤ v) := by rw [Bool.eq_iff_iff, decide_eq_true_eq, decide_eq_true_eq]; omega
    simp only [lift, has, has_lift hk a u v h, has_lift hk b (u + 1) (v + 1) (by omega), e, e2, Bool.and_or_distrib_left]
  | .app a b, u, v, h => by simp only [lift, has, has_lift hk a u v h, has_lift hk b u v h, Bool.and_or_distrib_left]
  | .lt _ a w b, u, v, h => by
    have e : v + 1 - k = v - k + 1 := by omega
    have e2 : decide (u + 1 + k ≤ v + 1) = decide (u + k ≤ v) := by rw [Bool.eq_iff_iff, decide_eq_true_eq, decide_eq_true_eq]; omega
    simp only [lift, has, has_lift hk a u v h, has_lift hk w u v h, has_lift hk b (u + 1) (v + 1) (by omega), e, e2, Bool.and_or_distrib_left]
theorem wf_lift {k : Int} (hk : 0 ≤ k) : ∀ (t : T) (u f : Int), t.wf f = true → (t.lift k u).wf (f + k) = true
  | .var j, u, f, h => by
    simp only [wf, Bool.and_eq_true, decide_eq_true_eq] at h
    simp only [lift]
    split <;> (simp only [wf, Bool.and_eq_true, decide_eq_true_eq]; omega)
  | .lf l, u, f, h => by
    cases l <;> first | exact h | rfl
  | .pi _ a b, u, f, h => by
    simp only [wf, Bool.and_eq_true] at h
    have e : f + k + 1 = f + 1 + k := by omega
    simp only [lift, wf, wf_lift hk a u f h.2.1, e, wf_lift hk b (u + 1) (f + 1) h.2.2, h.1, Bool.and_self]
  | .lam _ a b, u, f, h => by
    simp only [wf, Bool.and_eq_true] at h
    have e : f + k + 1 = f + 1 + k := by omega
    simp only [lift, wf, wf_lift hk a u f h.2.1, e, wf_lift hk b (u + 1) (f + 1) h.2.2, h.1, Bool.and_self]
  | .app a b, u, f, h => by
    simp only [wf, Bool.and_eq_true] at h
    simp only [lift, wf, wf_lift hk a u f h.1, wf_lift hk b u f h.2, Bool.and_self]
  | .lt _ a w b, u, f, h => by
    simp only [wf, Bool.and_eq_true] at h
    have e : f + k + 1 = f + 1 + k := by omega
    simp only [lift, wf, wf_lift hk a u f h.2.1, wf_lift hk w u f h.2.2.1, e, wf_lift hk b (u + 1) (f + 1) h.2.2.2, h.1, Bool.and_self]
theorem size_lift (m : Int) : ∀ (t : T) (u : Int), (t.lift m u).size = t.size
  | .var k, u => by unfold lift; split <;> rfl
  | .lf _, _ => rfl
  | .pi _ a b, u => by simp only [lift, size, size_lift m a, size_lift m b]
  | .lam _ a b, u => by simp only [lift, size, size_lift m a, size_lift m b]
  | .app a b, u => by simp only [lift, size, size_lift m a, size_lift m b]
  | .lt _ a v b, u => by simp only [lift, size, size_lift m a, size_lift m v, size_lift m b]
theorem mem_fvs {t : T} {B : Nat} {v : Int} : v ∈ t.fvs B ↔ 0 ≤ v ∧ v < B ∧ t.has v = true := by
  unfold fvs
  simp only [List.mem_map, List.mem_filter, List.mem_range]
  constructor
  · rintro ⟨n, ⟨h1, h2⟩, rfl⟩
    exact ⟨by omega, by omega, h2⟩
  · rintro ⟨h1, h2, h3⟩
    exact ⟨v.toNat, ⟨by omega, by rw [Int.toNat_of_nonneg h1]; exact h3⟩, Int.toNat_of_nonneg h1⟩
theorem fvs_lift (t : T) (B k : Nat) : (t.lift (k : Int) 0).fvs (B + k) = (t.fvs B).map (· + (k : Int)) := by
  refine uniq_lt (fvs_lt _ _) ?_ fun v => ?_
  · rw [List.pairwise_map]
    exact (fvs_lt t B).imp fun h => by omega
  · rw [mem_fvs, List.mem_map]
    constructor
    · rintro ⟨h1, h2, h3⟩
      rw [has_lift (by omega) t 0 v h1, Bool.and_eq_true, decide_eq_true_eq] at h3
      exact ⟨v - k, mem_fvs.mpr ⟨by omega, by omega, h3.2⟩, by omega⟩
    · rintro ⟨w, hw, rfl⟩
      obtain ⟨h1, h2, h3⟩ := mem_fvs.mp hw
      refine ⟨by omega, by omega, ?_⟩
      rw [has_lift (by omega) t 0 _ (by omega), Bool.and_eq_true, decide_eq_true_eq]
      exact ⟨by omega, by rw [Int.add_sub_cancel]; exact h3⟩
end T
end D

namespace D
open PySem L2 Evl
theorem nm_ok (ds : List Int) (a : Nat) : nmOk (nmP ds a) = true := by
  have h := draw_lt ds 3 a (by decide)
  unfold nmP
  have : (drawN ds 3 a).toNat = 0 ∨ (drawN ds 3 a).toNat = 1 ∨ (drawN ds 3 a).toNat = 2 := by
    have h' : (drawN ds 3 a).toNat < 3 := h
    omega
  rcases this with e | e | e <;> rw [e] <;> decide +kernel
theorem leaf_wf (ds : List Int) (a : Nat) (u : Int) : (T.lf (leafP ds a)).wf u = true := by
  have h := draw_lt ds 6 (a + 1) (by decide)
  have h2 := draw_lt ds 4 a (by decide)
  have h' : (drawN ds 6 (a + 1)).toNat < 6 := h
  have h2' : (drawN ds 4 a).toNat < 4 := h2
  have : (drawN ds 6 (a + 1)).toNat = 0 ∨ (drawN ds 6 (a + 1)).toNat = 1 ∨ (drawN ds 6 (a + 1)).toNat = 2 ∨ (drawN ds 6 (a + 1)).toNat = 3 ∨ (drawN ds 6 (a + 1)).toNat = 4 ∨ (drawN ds 6 (a + 1)).toNat = 5 := by omega
  unfold leafP
  rcases this with e | e | e | e | e | e <;> rw [e] <;> first | rfl | (show decide ((drawN ds 4 a).toNat ≤ 10) = true; exact decide_eq_true (by omega))
def sD : Nat → Int
  | 0 => 1
  | d + 1 => 1 + 3 * sD d
theorem sD_pos : ∀ d : Nat, 1 ≤ sD d
  | 0 => by decide
  | d + 1 => by have := sD_pos d; unfold sD; omega
theorem anyL_ok (ds : List Int) {free : Int} (hf : 1 ≤ free) (a : Nat) : (anyL ds free a).1.wf free = true ∧ (anyL ds free a).1.dep = 1 ∧ (anyL ds free a).1.size = 1 := by
  unfold anyL
  split
  · have h := draw_nn ds (m := free) (a + 2) (by omega)
    refine ⟨?_, rfl, rfl⟩
    simp only [T.wf, Bool.and_eq_true, decide_eq_true_eq]
    exact h
  · exact ⟨leaf_wf ds _ _, rfl, rfl⟩
theorem any_ok (ds : List Int) : ∀ (d : Nat) {free : Int} (a : Nat), 1 ≤ free → (anyT ds d free a).1.wf free = true ∧ (anyT ds d free a).1.dep ≤ d + 1 ∧ (anyT ds d free a).1.size ≤ sD d
  | 0, free, a, hf => by
    obtain ⟨h1, h2, h3⟩ := anyL_ok ds hf a
    exact ⟨h1, Nat.le_of_eq h2, Int.le_of_eq h3⟩
  | d + 1, free, a, hf => by
    have hs := sD_pos d
    have i1 := any_ok ds d (a + 2) hf
    have i2 := any_ok ds d (anyT ds d free (a + 2)).2 hf
    have i3 := any_ok ds d (free := free + 1) (anyT ds d free (a + 2)).2 (by omega)
    have i4 := any_ok ds d (free := free + 1) (anyT ds d free (anyT ds d free (a + 2)).2).2 (by omega)
    have hn := nm_ok ds (a + 1)
    rw [anyT]
    split
    · obtain ⟨h1, h2, h3⟩ := anyL_ok ds hf a
      exact ⟨h1, by omega, by unfold sD; omega⟩
    · split
      · refine ⟨?_, ?_, ?_⟩
        · simp only [T.wf, i1.1, i2.1, Bool.and_self]
        · simp only [T.dep]; omega
        · simp only [T.size, sD]; omega
      · split
        · refine ⟨?_, ?_, ?_⟩
          · simp only [T.wf, i1.1, i2.1, i4.1, hn, Bool.and_self]
          · simp only [T.dep]; omega
          · simp only [T.size, sD]; omega
        · split
          · refine ⟨?_, ?_, ?_⟩
            · simp only [T.wf, i1.1, i3.1, hn, Bool.and_self]
            · simp only [T.dep]; omega
            · simp only [T.size, sD]; omega
          · refine ⟨?_, ?_, ?_⟩
            · simp only [T.wf, i1.1, i3.1, hn, Bool.and_self]
            · simp only [T.dep]; omega
            · simp only [T.size, sD]; omega
/-- two of a list, cut -/
theorem cut2 (a b : PyData) {n : Int} (h0 : 0 ≤ n) (h1 : n < 3) : cutD [a, b] none (some n) = [a, b].take n.toNat := by
  have : n = 0 ∨ n = 1 ∨ n = 2 := by omega
  rcases this with rfl | rfl | rfl <;> rfl
end D

namespace D
open PySem L2 Evl
section
variable {κ : Type} {M : Mem κ} {X : Cx} {ρ : Rho} {k k1 k2 k3 : κ} {pos : Pos}
theorem ss_par3 (i j l : Nat) {x y z : Str} {a b c : Expr} {px py pz pt : Pos} {kt k2' : Nat} {pt2 : Pos} {r1 r2 r3 : R} {P : Pst κ} (hc : X.calm = true) (hN : X.N.Nodup) (ha : SA M X [a, b, c] ρ k [r1, r2, r3] k1) (hq : P.nx (((ρ.set i (some r1)).set j (some r2)).set l (some r3)) k1) (hi : X.N[i]? = some x := by rfl) (hj : X.N[j]? = some y := by rfl) (hl : X.N[l]? = some z := by rfl) (hij : i ≠ j := by decide) (hil : i ≠ l := by decide) (hjl : j ≠ l := by decide)
    (hx : X.env.scope.names.lookup x = some .local := by rfl) (hy : X.env.scope.names.lookup y = some .local := by rfl) (hz : X.env.scope.names.lookup z = some .local := by rfl)
    (hw : swappedStores [.Tuple [.Name x px, .Name y py, .Name z pz] kt pt] (.Tuple [a, b, c] k2' pt2) X.env = pure (some [x, y, z]) := by rfl)
    (hs : swapsWithSole [.Tuple [.Name x px, .Name y py, .Name z pz] kt pt] (.Tuple [a, b, c] k2' pt2) pos.line X.env = pure false := by rfl) : SS M X (.Assign [.Tuple [.Name x px, .Name y py, .Name z pz] kt pt] (.Tuple [a, b, c] k2' pt2) pos) ρ k P := by
  refine ⟨fun pins s σ H I a0 b0 => ?_⟩
  refine (ps_par3 (i := i) (j := j) (l := l) hc hN hi hj hl hij hil hjl hx hy hz (pas (M := M)) hw hs).run pins s σ H _ I ?_
  refine ⟨ρ, k, _, k1, ha, a0, b0, fun vs H1 p => ?_⟩
  have h := p.2.2
  cases h with
  | cons h1 h =>
    cases h with
    | cons h2 h =>
      cases h with
      | cons h3 h =>
        cases h
        refine ⟨_, _, _, rfl, _, k1, by rw [List.length_set, List.length_set, List.length_set]; exact I.len, p.1, p.2.1, ?_, hq⟩
        exact (((a0.ex p.1).set (by rw [I.len]; exact (List.getElem?_eq_some_iff.mp hi).1) h1).set (by rw [List.length_set, I.len]; exact (List.getElem?_eq_some_iff.mp hj).1) h2).set (by rw [List.length_set, List.length_set, I.len]; exact (List.getElem?_eq_some_iff.mp hl).1) h3
variable {a b : Expr}
theorem se_isL {x y : List PyData} (ha : SE M X a ρ k (.l x) k1) (h : x = y) : SE M X a ρ k (.l y) k1 := h ▸ ha
theorem st_neT {t u : T} (hu : X.A.units + 64 < cLine) (ha : SE M X a ρ k (.d (enc t)) k1) (hb : SE M X b ρ k1 (.d (enc u)) k2) (h : t = u) (hn : u.nm = true) (hd : u.dep ≤ 60) : ST M X (.Compare a [.NotEq] [b] pos) ρ k false k2 := by
  subst h
  exact st_is (st_neD hu (shaped_enc hn hd) (shaped_enc hn hd) ha hb) (by rw [eqv_enc, decide_eq_true rfl]; rfl)
theorem st_neL {xs ys : List PyData} (hu : X.A.units + 64 < cLine) (ha : SE M X a ρ k (.d (.list xs)) k1) (hb : SE M X b ρ k1 (.d (.list ys)) k2) (h : xs = ys) (hp : plA ys = true) (hs : SeqAt.shaped (.list ys) = true) : ST M X (.Compare a [.NotEq] [b] pos) ρ k false k2 := by
  subst h
  exact st_is (st_neD hu hs hs ha hb) (by rw [eqvL_refl hp]; rfl)
theorem st_neBl {x y : Bool} (hu : X.A.units + 64 < cLine) (ha : SE M X a ρ k (.d (.bool x)) k1) (hb : SE M X b ρ k1 (.d (.bool y)) k2) (h : x = y) : ST M X (.Compare a [.NotEq] [b] pos) ρ k false k2 := by
  subst h
  exact st_is (st_neD hu (by cases x <;> decide +kernel) (by cases x <;> decide +kernel) ha hb) (by cases x <;> rfl)
/-- [..] != [] -/
theorem st_neNil {xs : List PyData} {c : Bool} (hu : X.A.units + 64 < cLine) (hs : SeqAt.shaped (.list xs) = true) (ha : SE M X a ρ k (.d (.list xs)) k1) (hb : SE M X b ρ k1 (.d (.list [])) k2) (h : xs.isEmpty = c) : ST M X (.Compare a [.NotEq] [b] pos) ρ k (!c) k2 :=
  st_is (st_neD hu hs (by decide +kernel) ha hb) (by rw [eqvL_nil, h])
end
theorem relDraw_of {D : List Int} {m : Int} {a : Nat} {x : Int} (hx : drawN D m a = x) (hm : 0 < m) (ha : a ≤ 1000000) : relLDraw [.d (.int m)] (box D a) (.d (.int x)) (box D (a + 1)) := ⟨D, m, a, rfl, rfl, hm, ha, by rw [hx], rfl⟩
theorem relAny_of {D : List Int} {d n : Nat} {free : Int} {a : Nat} {t : T} {b : Nat} (h : anyT D d free a = (t, b)) (hd : d < n) (hf : 1 ≤ free) (ha : a + nD d ≤ 1000000) : relLAny n [.d (.int free), .d (.int (d : Int))] (box D a) (.d (enc t)) (box D b) := ⟨D, d, free, a, rfl, rfl, hd, hf, ha, by rw [h], by rw [h]⟩
theorem draw_nat (D : List Int) {m : Int} (a : Nat) (hm : 0 < m) : ∃ n : Nat, drawN D m a = (n : Int) ∧ (n : Int) < m := by
  have h := draw_nn D a hm
  exact ⟨(drawN D m a).toNat, (Int.toNat_of_nonneg h.1).symm, by rw [Int.toNat_of_nonneg h.1]; exact h.2⟩
theorem any_all (D : List Int) (d : Nat) {free : Int} (a : Nat) (hf : 1 ≤ free) : ∃ (t : T) (b : Nat), anyT D d free a = (t, b) ∧ b ≤ a + nD d ∧ t.wf free = true ∧ t.dep ≤ d + 1 ∧ t.size ≤ sD d := by
  have h1 := any_le D d free a
  have h2 := any_ok D d a hf
  exact ⟨_, _, rfl, h1, h2⟩
theorem plA_ints (l : List Int) : plA (l.map PyData.int) = true := by
  induction l with
  | nil => rfl
  | cons x l ih => rw [List.map_cons, plA, ih]; rfl
theorem plA_strs (l : List Str) : plA (l.map PyData.str) = true := by
  induction l with
  | nil => rfl
  | cons x l ih => rw [List.map_cons, plA, ih]; rfl
theorem plA_encs (l : List T) : plA (l.map enc) = true := by
  induction l with
  | nil => rfl
  | cons x l ih => rw [List.map_cons, plA, ih, pl_enc]; rfl
theorem sh_ints (l : List Int) : SeqAt.shaped (.list (l.map PyData.int)) = true := by
  refine shapedL_of (n := 0) (by decide) (fun x hx => ?_) (fun x hx => ?_)
  · obtain ⟨i, _, rfl⟩ := List.mem_map.mp hx
    simp only [PyData.canLay0]
  · obtain ⟨i, _, rfl⟩ := List.mem_map.mp hx
    simp [PyData.depth]
theorem sh_encs {l : List T} (h : ∀ t ∈ l, t.nm = true ∧ t.dep ≤ 50) : SeqAt.shaped (.list (l.map enc)) = true := by
  refine shapedL_of (n := 50) (by decide) (fun x hx => ?_) (fun x hx => ?_)
  · obtain ⟨t, ht, rfl⟩ := List.mem_map.mp hx
    exact (lay_enc t (h t ht).1).1
  · obtain ⟨t, ht, rfl⟩ := List.mem_map.mp hx
    have := (lay_enc t (h t ht).1).2
    have := (h t ht).2
    omega
theorem sh_strs {l : List Str} (h : ∀ x ∈ l, x = "a" ∨ x = "b" ∨ x = "nat") : SeqAt.shaped (.list (l.map PyData.str)) = true := by
  refine shapedL_of (n := 0) (by decide) (fun x hx => ?_) (fun x hx => ?_)
  · obtain ⟨t, ht, rfl⟩ := List.mem_map.mp hx
    simp only [PyData.canLay0]
    rcases h t ht with rfl | rfl | rfl <;> decide +kernel
  · obtain ⟨t, ht, rfl⟩ := List.mem_map.mp hx
    simp [PyData.depth]
theorem canS_mem {l : List Str} : ∀ x ∈ canS l, x = "a" ∨ x = "b" ∨ x = "nat" := fun x hx => by
  unfold canS at hx
  have := (List.mem_filter.mp hx).1
  simpa using this
namespace T
theorem hd_ok : ∀ t : T, (t.nm = true → t.hd.nm = true) ∧ t.hd.dep ≤ t.dep
  | .app f a => by
    have h := hd_ok f
    refine ⟨fun e => ?_, ?_⟩
    · simp only [nm, Bool.and_eq_true] at e
      exact h.1 e.1
    · show f.hd.dep ≤ _
      simp only [dep]
      omega
  | .var _ => ⟨id, Nat.le_refl _⟩
  | .lf _ => ⟨id, Nat.le_refl _⟩
  | .pi .. => ⟨id, Nat.le_refl _⟩
  | .lam .. => ⟨id, Nat.le_refl _⟩
  | .lt .. => ⟨id, Nat.le_refl _⟩
theorem args_ok : ∀ t : T, t.nm = true → ∀ u ∈ t.args, u.nm = true ∧ u.dep ≤ t.dep
  | .app f a, e, u, hu => by
    simp only [nm, Bool.and_eq_true] at e
    have hu' : u ∈ f.args ++ [a] := hu
    simp only [dep]
    rcases List.mem_append.mp hu' with h | h
    · have := args_ok f e.1 u h
      exact ⟨this.1, by omega⟩
    · rw [List.mem_singleton] at h
      subst h
      exact ⟨e.2, by omega⟩
  | .var _, _, u, hu => by simp [args] at hu
  | .lf _, _, u, hu => by simp [args] at hu
  | .pi .., _, u, hu => by simp [args] at hu
  | .lam .., _, u, hu => by simp [args] at hu
  | .lt .., _, u, hu => by simp [args] at hu
theorem args_len : ∀ t : T, t.args.length ≤ t.dep
  | .app f a => by
    have h := args_len f
    show (f.args ++ [a]).length ≤ _
    rw [List.length_append, List.length_singleton]
    simp only [dep]
    omega
  | .var _ => by simp [args]
  | .lf _ => by simp [args]
  | .pi .. => by simp [args]
  | .lam .. => by simp [args]
  | .lt .. => by simp [args]
theorem foldl_ok (c : Nat) : ∀ (us : List T) (t : T), (∀ u ∈ us, u.nm = true ∧ u.dep ≤ c) → t.nm = true → t.dep ≤ c → (us.foldl T.app t).nm = true ∧ (us.foldl T.app t).dep ≤ c + us.length
  | [], t, _, h1, h2 => ⟨h1, by simpa using h2⟩
  | u :: us, t, h, h1, h2 => by
    have hu := h u List.mem_cons_self
    have := foldl_ok (c + 1) us (.app t u) (fun v hv => ⟨(h v (List.mem_cons_of_mem _ hv)).1, by have := (h v (List.mem_cons_of_mem _ hv)).2; omega⟩) (by simp only [nm, h1, hu.1, Bool.and_self]) (by simp only [dep]; omega)
    rw [List.foldl_cons, List.length_cons]
    exact ⟨this.1, by omega⟩
theorem parts_nm {t : T} (h : t.nm = true) {q : T × Int} (hq : q ∈ t.parts) : q.1.nm = true := by
  cases t <;> simp only [parts, List.mem_cons, List.not_mem_nil, or_false] at hq <;> simp only [nm, Bool.and_eq_true] at h
  · rcases hq with rfl | rfl
    · exact h.2.1
    · exact h.2.2
  · rcases hq with rfl | rfl
    · exact h.2.1
    · exact h.2.2
  · rcases hq with rfl | rfl
    · exact h.1
    · exact h.2
  · rcases hq with rfl | rfl | rfl
    · exact h.2.1
    · exact h.2.2.1
    · exact h.2.2.2
end T
end D

namespace D
open PySem L2 Evl
set_option maxHeartbeats 40000000
section
variable {P : Program} {w : World} {K : PySem.W.Frag} {mg : Str → Option Value} {base : Heap} {f : Addr} {fd : FuncData}

def relLaw : List R → R → Prop := fun rs r => ∃ ns : List Int, rs = [.d (.list (ns.map .int))] ∧ r = .d (.bool true)
theorem ok_law (G : Glo K mg) (F : Fun K "law" "law" sLaw f fd) (cDg : Cl P w K mg base 2 "_law_digits" [] relLDigits) (cD : ClX P w K mg base 1 "_law_draw" relLDraw) (cA : ClX P w K mg base 7 "_law_any" (relLAny 5)) (cLL : Cl P w K mg base 21 "_law_lift" [] (relLLift 20)) (cLP : Cl P w K mg base 41 "_law_put" [] (relLPut 20)) (cLB : Cl P w K mg base 21 "_law_bare" [] (relLBare 20)) (cLPa : Cl P w K mg base 1 "_law_parts" [] relLParts) (cLSp : Cl P w K mg base 1 "_law_spine" [] relLSpine) (cLSz : Cl P w K mg base 21 "_law_size" [] (relLSize 20)) (cLN : Cl P w K mg base 21 "_law_named" [] (relLNamed 20))
    (cIT : Cl P w K mg base 4 "is_term" [] relIsTerm) (cL : Cl P w K mg base 40 "lifted" [.d (.int 0)] (relLift 30)) (cPut : Cl P w K mg base 81 "put" [] relPut) (cPA : Cl P w K mg base 82 "put_all" [] relPutAll) (cAb : Cl P w K mg base 31 "abstracted" [] (relAbs 30)) (cHv : Cl P w K mg base 31 "has_var" [] (relHas 30)) (cFv : Cl P w K mg base 2 "free_vars" [] relFree) (cSz : Cl P w K mg base 2 "size_of" [] relSize) (cNm : Cl P w K mg base 2 "names_in" [] relNames) (cSp : Cl P w K mg base 1 "spine" [] relSpine) (cAp : Cl P w K mg base 1 "applied" [] relApplied) (cBr : Cl P w K mg base 40 "bare" [.d (.int 0)] (relBare 30)) (cSm : Cl P w K mg base 41 "is_same" [] relSame) (cPt : Cl P w K mg base 2 "part_at" [] relPartAt) : FnOk P w K mg base CX0 201 f fd ["script"] (spP K relLaw) := by
  refine fn_pure F scLaw (fun rs r h => by obtain ⟨ns, rfl, _⟩ := h; rfl) fun cdv A outer s H E rs r S H0 hr h => ?_
  have nd := scLaw.nd
  obtain ⟨ns, rfl, rfl⟩ := h
  refine sb_own (i := 1) nd rfl (Or.inl rfl) (sd_cons (se_l (se_call cDg hr (by omega) (sa_cons (se_v 0) (sa_cons se_int (sa_cons se_int sa_nil))) ⟨ns, rfl, rfl⟩)) (sd_cons se_int sd_nil)) fun p hp => ?_
  obtain ⟨D, hD⟩ : ∃ D, D = digs ns 63 := ⟨_, rfl⟩
  rw [← hD]
  refine sb_cons (ss_forR1 PassesOwn.never rfl G.range (tg_name nd (i := 2)) (sa_cons se_int sa_nil) ⟨by decide, by decide⟩ (fun i ρ k => ∃ (a : Nat) (z2 z3 z4 z5 z6 z7 z8 z9 z10 z11 z12 z13 z14 z15 z16 z17 z18 z19 z20 z21 z22 z23 z24 z25 : Option R), ρ = [some (.d (.list (ns.map .int))), some (.r (.ref p)), z2, z3, z4, z5, z6, z7, z8, z9, z10, z11, z12, z13, z14, z15, z16, z17, z18, z19, z20, z21, z22, z23, z24, z25] ∧ k = ((), box D a) ∧ a ≤ 1000 * i) ⟨0, none, none, none, none, none, none, none, none, none, none, none, none, none, none, none, none, none, none, none, none, none, none, none, none, rfl, rfl, by decide⟩ (fun i ρ k hi hw => ?_) (fun ρ k hw => ?_))
  · obtain ⟨a, z2, z3, z4, z5, z6, z7, z8, z9, z10, z11, z12, z13, z14, z15, z16, z17, z18, z19, z20, z21, z22, z23, z24, z25, rfl, rfl, ha⟩ := hw
    have hi4 : i < 4 := by omega
    refine ⟨_, rfl, ?_⟩
    obtain ⟨f0, hf0, hf0'⟩ := draw_nat D (m := 4) a (by decide)
    obtain ⟨B, hB, hB1, hB4⟩ : ∃ B : Nat, (1 + (f0 : Int)) = (B : Int) ∧ 1 ≤ B ∧ B ≤ 4 := ⟨1 + f0, by omega, by omega, by omega⟩
    obtain ⟨t, b1, ht, hb1, htw, htd, hts⟩ := any_all D 4 (free := (B : Int)) (a + 1) (by omega)
    obtain ⟨o, b2, ho, hb2, how, hod, hos⟩ := any_all D 2 (free := (B : Int)) b1 (by omega)
    obtain ⟨ot, b3, hot, hb3, hotw, hotd, hots⟩ := any_all D 2 (free := (B : Int)) b2 (by omega)
    obtain ⟨kn, hk, hk'⟩ := draw_nat D (m := 4) b3 (by decide)
    obtain ⟨mn, hm, hm'⟩ := draw_nat D (m := 4) (b3 + 1) (by decide)
    obtain ⟨un, hu, hu'⟩ := draw_nat D (m := (B : Int) + 1) (b3 + 1 + 1) (by omega)
    obtain ⟨bd, b4, hbd, hb4, hbw, hbdd, hbs⟩ := any_all D 3 (free := (B : Int) + 2) (b3 + 1 + 1 + 1) (by omega)
    obtain ⟨an, han, han'⟩ := draw_nat D (m := (B : Int)) b4 (by omega)
    obtain ⟨cn, hcn, hcn'⟩ := draw_nat D (m := 3) (b4 + 1) (by decide)
    have e4 : nD 4 = 484 := by decide
    have e3 : nD 3 = 160 := by decide
    have e2 : nD 2 = 52 := by decide
    have s4 : sD 4 = 121 := by decide
    have s2 : sD 2 = 13 := by decide
    have s3 : sD 3 = 40 := by decide
    have htn := T.wf_nm htw
    have hon := T.wf_nm how
    have hotn := T.wf_nm hotw
    have hbn := T.wf_nm hbw
    have hab1 : (t.abs (an : Int) 0).has ((an : Int) + 1) = false := by
      have := T.abs_has1 (i := (an : Int)) (by omega) t 0
      rwa [Int.add_zero] at this
    have hfv : (t.fvs B).map PyData.int = ((List.range ((B : Int)).toNat).filter fun (i : Nat) => t.has (i : Int)).map fun i : Nat => PyData.int (i : Int) := by
      unfold T.fvs
      rw [List.map_map, Int.toNat_natCast]
      rfl
    have hfk : ((t.lift (kn : Int) 0).fvs (B + kn)).map PyData.int = (t.fvs B).map fun v : Int => PyData.int (v + (kn : Int)) := by
      rw [T.fvs_lift, List.map_map]
      rfl
    have hfl : (t.fvs B).length ≤ 50000 := by
      unfold T.fvs
      rw [List.length_map]
      have := List.length_filter_le (fun v : Nat => t.has (v : Int)) (List.range B)
      rw [List.length_range] at this
      omega
    obtain ⟨us, hus⟩ : ∃ us : List T, us = [o, ot].take cn := ⟨_, rfl⟩
    have hcut : cutD [enc o, enc ot] none (some (cn : Int)) = us.map enc := by
      rw [cut2 _ _ (by omega) hcn', Int.toNat_natCast, hus, List.map_take]
      rfl
    have hum : ∀ u ∈ us, u.nm = true ∧ u.dep ≤ 5 := fun u hu => by
      rw [hus] at hu
      have := List.mem_of_mem_take hu
      simp only [List.mem_cons, List.not_mem_nil, or_false] at this
      rcases this with rfl | rfl
      · exact ⟨hon, by omega⟩
      · exact ⟨hotn, by omega⟩
    have hul : us.length ≤ 2 := by
      rw [hus, List.length_take]
      exact Nat.min_le_right _ _
    have hfo := T.foldl_ok 5 us t hum htn (by omega)
    have hal := T.args_len t
    have htu : ∀ u ∈ t.args ++ us, u.nm = true ∧ u.dep ≤ 50 := fun u hu => by
      rcases List.mem_append.mp hu with h | h
      · have := T.args_ok t htn u h
        exact ⟨this.1, by omega⟩
      · have := hum u h
        exact ⟨this.1, by omega⟩
    refine sb_cons (ss_let 3 nd (se_is (y := .int (B : Int)) (se_add se_int (se_callX hp cD hr (by omega) (sa_cons (se_v 1) (sa_cons se_int sa_nil)) (relDraw_of hf0 (by decide) (by omega)))) (congrArg PyData.int hB)) ?_)
    show SB _ _ _ ([some (.d (.list (ns.map .int))), some (.r (.ref p)), some (.d (.int ((i : Nat) : Int))), some (.d (.int (B : Int))), z4, z5, z6, z7, z8, z9, z10, z11, z12, z13, z14, z15, z16, z17, z18, z19, z20, z21, z22, z23, z24, z25] : Rho) _ _
    refine sb_cons (ss_let 4 nd (se_callX hp cA hr (by omega) (sa_cons (se_v 1) (sa_cons (se_v 3) (sa_cons se_int sa_nil))) (relAny_of (d := 4) ht (by decide) (by omega) (by omega))) ?_)
    show SB _ _ _ ([some (.d (.list (ns.map .int))), some (.r (.ref p)), some (.d (.int ((i : Nat) : Int))), some (.d (.int (B : Int))), some (.d (enc t)), z5, z6, z7, z8, z9, z10, z11, z12, z13, z14, z15, z16, z17, z18, z19, z20, z21, z22, z23, z24, z25] : Rho) _ _
    refine sb_cons (ss_par2 5 6 rfl nd (sa_cons (se_callX hp cA hr (by omega) (sa_cons (se_v 1) (sa_cons (se_v 3) (sa_cons se_int sa_nil))) (relAny_of (d := 2) ho (by decide) (by omega) (by omega))) (sa_cons (se_callX hp cA hr (by omega) (sa_cons (se_v 1) (sa_cons (se_v 3) (sa_cons se_int sa_nil))) (relAny_of (d := 2) hot (by decide) (by omega) (by omega))) sa_nil)) ?_)
    show SB _ _ _ ([some (.d (.list (ns.map .int))), some (.r (.ref p)), some (.d (.int ((i : Nat) : Int))), some (.d (.int (B : Int))), some (.d (enc t)), some (.d (enc o)), some (.d (enc ot)), z7, z8, z9, z10, z11, z12, z13, z14, z15, z16, z17, z18, z19, z20, z21, z22, z23, z24, z25] : Rho) _ _
    refine sb_cons (ss_asg3 (tg_three (i := 7) (j := 8) (l := 9) rfl nd) (se_tup (sd_cons (se_callX hp cD hr (by omega) (sa_cons (se_v 1) (sa_cons se_int sa_nil)) (relDraw_of hk (by decide) (by omega))) (sd_cons (se_callX hp cD hr (by omega) (sa_cons (se_v 1) (sa_cons se_int sa_nil)) (relDraw_of hm (by decide) (by omega))) (sd_cons (se_callX hp cD hr (by omega) (sa_cons (se_v 1) (sa_cons (se_add (se_v 3) se_int) sa_nil)) (relDraw_of hu (by omega) (by omega))) sd_nil)))) ?_)
    show SB _ _ _ ([some (.d (.list (ns.map .int))), some (.r (.ref p)), some (.d (.int ((i : Nat) : Int))), some (.d (.int (B : Int))), some (.d (enc t)), some (.d (enc o)), some (.d (enc ot)), some (.d (.int (kn : Int))), some (.d (.int (mn : Int))), some (.d (.int (un : Int))), z10, z11, z12, z13, z14, z15, z16, z17, z18, z19, z20, z21, z22, z23, z24, z25] : Rho) _ _
    refine sb_cons (ss_ifF (SW.st (sw_orF (st_is (b' := false) (st_notB (se_call cIT hr (by omega) (sa_cons (se_v 4) (sa_cons (se_v 3) sa_nil)) ⟨t, (B : Int), rfl, htw, by omega, by omega, rfl⟩) se_bl) rfl) (sw_orF (st_neT hr.units (se_call cL hr (by omega) (sa_cons (se_v 4) (sa_cons se_int (sa_cons (se_v 9) sa_nil))) ⟨t, 0, (un : Int), 0, rfl, (by have := T.put_dep (o.lift 1 0) bd 0; simp only [T.lift_dep, T.abs_dep, T.dep] at *; omega), (by have := T.put_dep (o.lift 1 0) bd 0; simp only [T.lift_dep, T.abs_dep, T.dep] at *; omega), rfl⟩) (se_v 4) (T.lift0 t _) htn (by omega)) (sw_or1 (st_neT hr.units (se_call cL hr (by omega) (sa_cons (se_call cL hr (by omega) (sa_cons (se_v 4) (sa_cons (se_v 7) (sa_cons (se_v 9) sa_nil))) ⟨t, (kn : Int), (un : Int), 0, rfl, (by have := T.put_dep (o.lift 1 0) bd 0; simp only [T.lift_dep, T.abs_dep, T.dep] at *; omega), (by have := T.put_dep (o.lift 1 0) bd 0; simp only [T.lift_dep, T.abs_dep, T.dep] at *; omega), rfl⟩) (sa_cons (se_v 8) (sa_cons (se_v 9) sa_nil))) ⟨_, (mn : Int), (un : Int), 0, rfl, (by have := T.put_dep (o.lift 1 0) bd 0; simp only [T.lift_dep, T.abs_dep, T.dep] at *; omega), (by have := T.put_dep (o.lift 1 0) bd 0; simp only [T.lift_dep, T.abs_dep, T.dep] at *; omega), rfl⟩) (se_call cL hr (by omega) (sa_cons (se_v 4) (sa_cons (se_add (se_v 7) (se_v 8)) (sa_cons (se_v 9) sa_nil))) ⟨t, ((kn : Int) + (mn : Int)), (un : Int), 0, rfl, (by have := T.put_dep (o.lift 1 0) bd 0; simp only [T.lift_dep, T.abs_dep, T.dep] at *; omega), (by have := T.put_dep (o.lift 1 0) bd 0; simp only [T.lift_dep, T.abs_dep, T.dep] at *; omega), rfl⟩) (T.lift_lift (by omega) t _) (by rw [T.lift_nm]; exact htn) (by rw [T.lift_dep]; omega)))))) rfl (sb_nil ?_))
    refine sb_cons (ss_ifF (st_neT hr.units (se_call cL hr (by omega) (sa_cons (se_call cL hr (by omega) (sa_cons (se_v 4) (sa_cons (se_v 7) (sa_cons se_int sa_nil))) ⟨t, (kn : Int), 0, 0, rfl, (by have := T.put_dep (o.lift 1 0) bd 0; simp only [T.lift_dep, T.abs_dep, T.dep] at *; omega), (by have := T.put_dep (o.lift 1 0) bd 0; simp only [T.lift_dep, T.abs_dep, T.dep] at *; omega), rfl⟩) (sa_cons (se_v 8) (sa_cons (se_add (se_v 9) (se_v 7)) sa_nil))) ⟨_, (mn : Int), ((un : Int) + (kn : Int)), 0, rfl, (by have := T.put_dep (o.lift 1 0) bd 0; simp only [T.lift_dep, T.abs_dep, T.dep] at *; omega), (by have := T.put_dep (o.lift 1 0) bd 0; simp only [T.lift_dep, T.abs_dep, T.dep] at *; omega), rfl⟩) (se_call cL hr (by omega) (sa_cons (se_call cL hr (by omega) (sa_cons (se_v 4) (sa_cons (se_v 8) (sa_cons (se_v 9) sa_nil))) ⟨t, (mn : Int), (un : Int), 0, rfl, (by have := T.put_dep (o.lift 1 0) bd 0; simp only [T.lift_dep, T.abs_dep, T.dep] at *; omega), (by have := T.put_dep (o.lift 1 0) bd 0; simp only [T.lift_dep, T.abs_dep, T.dep] at *; omega), rfl⟩) (sa_cons (se_v 7) (sa_cons se_int sa_nil))) ⟨_, (kn : Int), 0, 0, rfl, (by have := T.put_dep (o.lift 1 0) bd 0; simp only [T.lift_dep, T.abs_dep, T.dep] at *; omega), (by have := T.put_dep (o.lift 1 0) bd 0; simp only [T.lift_dep, T.abs_dep, T.dep] at *; omega), rfl⟩) (T.lift_swap (by omega) (by omega) t _ _ (by omega)) (by rw [T.lift_nm, T.lift_nm]; exact htn) (by rw [T.lift_dep, T.lift_dep]; omega)) rfl (sb_nil ?_))
    refine sb_cons (ss_ifF (SW.st (sw_orF (st_neT hr.units (se_call cPut hr (by omega) (sa_cons (se_call cL hr (by omega) (sa_cons (se_v 4) (sa_cons se_int (sa_cons se_int sa_nil))) ⟨t, 1, 0, 0, rfl, (by have := T.put_dep (o.lift 1 0) bd 0; simp only [T.lift_dep, T.abs_dep, T.dep] at *; omega), (by have := T.put_dep (o.lift 1 0) bd 0; simp only [T.lift_dep, T.abs_dep, T.dep] at *; omega), rfl⟩) (sa_cons (se_v 5) sa_nil)) ⟨_, o, rfl, (by have := T.put_dep (o.lift 1 0) bd 0; simp only [T.lift_dep, T.abs_dep, T.dep] at *; omega), (by have := T.put_dep (o.lift 1 0) bd 0; simp only [T.lift_dep, T.abs_dep, T.dep] at *; omega), rfl⟩) (se_v 4) (T.put_lift o t 0) htn (by omega)) (sw_or1 (st_neT hr.units (se_call cPut hr (by omega) (sa_cons (se_call cL hr (by omega) (sa_cons (se_v 4) (sa_cons se_int (sa_cons se_int sa_nil))) ⟨t, 1, 1, 0, rfl, (by have := T.put_dep (o.lift 1 0) bd 0; simp only [T.lift_dep, T.abs_dep, T.dep] at *; omega), (by have := T.put_dep (o.lift 1 0) bd 0; simp only [T.lift_dep, T.abs_dep, T.dep] at *; omega), rfl⟩) (sa_cons (se_tup (sd_cons se_str (sd_cons se_int sd_nil))) sa_nil)) ⟨_, (.var 0), rfl, (by have := T.put_dep (o.lift 1 0) bd 0; simp only [T.lift_dep, T.abs_dep, T.dep] at *; omega), (by have := T.put_dep (o.lift 1 0) bd 0; simp only [T.lift_dep, T.abs_dep, T.dep] at *; omega), rfl⟩) (se_v 4) (T.put_lift1 t 0 (by decide)) htn (by omega))))) rfl (sb_nil ?_))
    refine sb_cons (ss_let 10 nd (se_callX hp cA hr (by omega) (sa_cons (se_v 1) (sa_cons (se_add (se_v 3) se_int) (sa_cons se_int sa_nil))) (relAny_of (d := 3) hbd (by decide) (by omega) (by omega))) ?_)
    show SB _ _ _ ([some (.d (.list (ns.map .int))), some (.r (.ref p)), some (.d (.int ((i : Nat) : Int))), some (.d (.int (B : Int))), some (.d (enc t)), some (.d (enc o)), some (.d (enc ot)), some (.d (.int (kn : Int))), some (.d (.int (mn : Int))), some (.d (.int (un : Int))), some (.d (enc bd)), z11, z12, z13, z14, z15, z16, z17, z18, z19, z20, z21, z22, z23, z24, z25] : Rho) _ _
    refine sb_cons (ss_let 11 nd (se_call cPut hr (by omega) (sa_cons (se_call cPut hr (by omega) (sa_cons (se_v 10) (sa_cons (se_call cL hr (by omega) (sa_cons (se_v 5) (sa_cons se_int (sa_cons se_int sa_nil))) ⟨o, 1, 0, 0, rfl, (by have := T.put_dep (o.lift 1 0) bd 0; simp only [T.lift_dep, T.abs_dep, T.dep] at *; omega), (by have := T.put_dep (o.lift 1 0) bd 0; simp only [T.lift_dep, T.abs_dep, T.dep] at *; omega), rfl⟩) sa_nil)) ⟨bd, _, rfl, (by have := T.put_dep (o.lift 1 0) bd 0; simp only [T.lift_dep, T.abs_dep, T.dep] at *; omega), (by have := T.put_dep (o.lift 1 0) bd 0; simp only [T.lift_dep, T.abs_dep, T.dep] at *; omega), rfl⟩) (sa_cons (se_v 6) sa_nil)) ⟨_, ot, rfl, (by have := T.put_dep (o.lift 1 0) bd 0; simp only [T.lift_dep, T.abs_dep, T.dep] at *; omega), (by have := T.put_dep (o.lift 1 0) bd 0; simp only [T.lift_dep, T.abs_dep, T.dep] at *; omega), rfl⟩) ?_)
    show SB _ _ _ ([some (.d (.list (ns.map .int))), some (.r (.ref p)), some (.d (.int ((i : Nat) : Int))), some (.d (.int (B : Int))), some (.d (enc t)), some (.d (enc o)), some (.d (enc ot)), some (.d (.int (kn : Int))), some (.d (.int (mn : Int))), some (.d (.int (un : Int))), some (.d (enc bd)), some (.d (enc ((bd.put (o.lift 1 0) 0).put ot 0))), z12, z13, z14, z15, z16, z17, z18, z19, z20, z21, z22, z23, z24, z25] : Rho) _ _
    refine sb_cons (ss_ifF (SW.st (sw_orF (st_neT hr.units (se_call cPA hr (by omega) (sa_cons (se_v 10) (sa_cons (se_tup (sd_cons (se_v 6) (sd_cons (se_v 5) sd_nil))) sa_nil)) ⟨bd, [ot, o], rfl, by simp, by omega, by simp only [List.mem_cons, List.not_mem_nil, or_false]; rintro x (rfl | rfl) <;> omega, rfl⟩) (se_v 11) (by show ((bd.put (o.lift 1 0) 0).put (ot.lift 0 0) 0) = _; rw [T.lift0]) (T.put_nm hotn _ _ (T.put_nm (by rw [T.lift_nm]; exact hon) _ _ hbn)) (by have h1 := T.put_dep (o.lift 1 0) bd 0; have h2 := T.put_dep ot (bd.put (o.lift 1 0) 0) 0; rw [T.lift_dep] at h1; omega)) (sw_orF (st_neT (t := bd) (u := bd) hr.units (se_call cPA hr (by omega) (sa_cons (se_v 10) (sa_cons (se_tup sd_nil) sa_nil)) ⟨bd, [], rfl, by simp, by omega, by simp, rfl⟩) (se_v 10) rfl hbn (by omega)) (sw_or1 (st_neT hr.units (se_call cPA hr (by omega) (sa_cons (se_v 4) (sa_cons (se_tup (sd_cons (se_v 5) sd_nil)) sa_nil)) ⟨t, [o], rfl, by simp, by omega, by simp only [List.mem_cons, List.not_mem_nil, or_false]; rintro x rfl; omega, rfl⟩) (se_call cPut hr (by omega) (sa_cons (se_v 4) (sa_cons (se_v 5) sa_nil)) ⟨t, o, rfl, (by have := T.put_dep (o.lift 1 0) bd 0; simp only [T.lift_dep, T.abs_dep, T.dep] at *; omega), (by have := T.put_dep (o.lift 1 0) bd 0; simp only [T.lift_dep, T.abs_dep, T.dep] at *; omega), rfl⟩) (by show (t.put (o.lift 0 0) 0) = _; rw [T.lift0]) (T.put_nm hon _ _ htn) (by have := T.put_dep o t 0; omega)))))) rfl (sb_nil ?_))
    refine sb_cons (ss_ifF (st_neT hr.units (se_call cPut hr (by omega) (sa_cons (se_call cPut hr (by omega) (sa_cons (se_v 10) (sa_cons (se_ifF (st_is (b' := false) (st_eqI (se_v 3) se_int) (decide_eq_false (by omega))) rfl (se_call cL hr (by omega) (sa_cons (se_v 5) (sa_cons se_int (sa_cons se_int sa_nil))) ⟨o, 1, 0, 0, rfl, (by have := T.put_dep (o.lift 1 0) bd 0; simp only [T.lift_dep, T.abs_dep, T.dep] at *; omega), (by have := T.put_dep (o.lift 1 0) bd 0; simp only [T.lift_dep, T.abs_dep, T.dep] at *; omega), rfl⟩)) sa_nil)) ⟨bd, _, rfl, (by have := T.put_dep (o.lift 1 0) bd 0; simp only [T.lift_dep, T.abs_dep, T.dep] at *; omega), (by have := T.put_dep (o.lift 1 0) bd 0; simp only [T.lift_dep, T.abs_dep, T.dep] at *; omega), rfl⟩) (sa_cons (se_v 6) sa_nil)) ⟨_, ot, rfl, (by have := T.put_dep (o.lift 1 0) bd 0; simp only [T.lift_dep, T.abs_dep, T.dep] at *; omega), (by have := T.put_dep (o.lift 1 0) bd 0; simp only [T.lift_dep, T.abs_dep, T.dep] at *; omega), rfl⟩) (se_call cLP hr (by omega) (sa_cons (se_call cLP hr (by omega) (sa_cons (se_v 10) (sa_cons (se_call cLL hr (by omega) (sa_cons (se_v 5) (sa_cons se_int (sa_cons se_int sa_nil))) ⟨o, 1, 0, rfl, by omega, rfl⟩) (sa_cons se_int sa_nil))) ⟨bd, _, 0, rfl, by omega, by rw [T.lift_dep]; omega, rfl⟩) (sa_cons (se_v 6) (sa_cons se_int sa_nil))) ⟨_, ot, 0, rfl, (by have := T.put_dep (o.lift 1 0) bd 0; simp only [T.lift_dep, T.abs_dep, T.dep] at *; omega), by omega, rfl⟩) rfl (T.put_nm hotn _ _ (T.put_nm (by rw [T.lift_nm]; exact hon) _ _ hbn)) (by have h1 := T.put_dep (o.lift 1 0) bd 0; have h2 := T.put_dep ot (bd.put (o.lift 1 0) 0) 0; rw [T.lift_dep] at h1; omega)) rfl (sb_nil ?_))
    refine sb_cons (ss_let 12 nd (se_callX hp cD hr (by omega) (sa_cons (se_v 1) (sa_cons (se_v 3) sa_nil)) (relDraw_of han (by omega) (by omega))) ?_)
    show SB _ _ _ ([some (.d (.list (ns.map .int))), some (.r (.ref p)), some (.d (.int ((i : Nat) : Int))), some (.d (.int (B : Int))), some (.d (enc t)), some (.d (enc o)), some (.d (enc ot)), some (.d (.int (kn : Int))), some (.d (.int (mn : Int))), some (.d (.int (un : Int))), some (.d (enc bd)), some (.d (enc ((bd.put (o.lift 1 0) 0).put ot 0))), some (.d (.int (an : Int))), z13, z14, z15, z16, z17, z18, z19, z20, z21, z22, z23, z24, z25] : Rho) _ _
    refine sb_cons (ss_let 13 nd (se_call cAb hr (by omega) (sa_cons (se_v 4) (sa_cons (se_v 12) (sa_cons se_int sa_nil))) ⟨t, (an : Int), 0, rfl, by omega, rfl⟩) ?_)
    show SB _ _ _ ([some (.d (.list (ns.map .int))), some (.r (.ref p)), some (.d (.int ((i : Nat) : Int))), some (.d (.int (B : Int))), some (.d (enc t)), some (.d (enc o)), some (.d (enc ot)), some (.d (.int (kn : Int))), some (.d (.int (mn : Int))), some (.d (.int (un : Int))), some (.d (enc bd)), some (.d (enc ((bd.put (o.lift 1 0) 0).put ot 0))), some (.d (.int (an : Int))), some (.d (enc (t.abs (an : Int) 0))), z14, z15, z16, z17, z18, z19, z20, z21, z22, z23, z24, z25] : Rho) _ _
    refine sb_cons (ss_ifF (SW.st (sw_orF (st_neT hr.units (se_call cPut hr (by omega) (sa_cons (se_v 13) (sa_cons (se_tup (sd_cons se_str (sd_cons (se_v 12) sd_nil))) sa_nil)) ⟨_, (.var (an : Int)), rfl, (by have := T.put_dep (o.lift 1 0) bd 0; simp only [T.lift_dep, T.abs_dep, T.dep] at *; omega), (by have := T.put_dep (o.lift 1 0) bd 0; simp only [T.lift_dep, T.abs_dep, T.dep] at *; omega), rfl⟩) (se_v 4) (T.put_abs (by omega) t 0) htn (by omega)) (sw_orF (st_is (b' := false) (st_notB (se_call cHv hr (by omega) (sa_cons (se_v 13) (sa_cons (se_add (se_v 12) se_int) sa_nil)) ⟨_, _, rfl, (by have := T.put_dep (o.lift 1 0) bd 0; simp only [T.lift_dep, T.abs_dep, T.dep] at *; omega), rfl⟩) se_bl) (by rw [hab1]; rfl)) (sw_or1 (st_neBl hr.units (se_call cHv hr (by omega) (sa_cons (se_v 13) (sa_cons se_int sa_nil)) ⟨_, 0, rfl, (by have := T.put_dep (o.lift 1 0) bd 0; simp only [T.lift_dep, T.abs_dep, T.dep] at *; omega), rfl⟩) (se_call cHv hr (by omega) (sa_cons (se_v 4) (sa_cons (se_v 12) sa_nil)) ⟨t, _, rfl, by omega, rfl⟩) (by rw [T.abs_has0 (by omega) t 0, Int.add_zero])))))) rfl (sb_nil ?_))
    refine sb_cons (ss_let 14 nd (se_call cFv hr (by omega) (sa_cons (se_v 4) sa_nil) ⟨t, B, rfl, by omega, htw, by omega, rfl⟩) ?_)
    show SB _ _ _ ([some (.d (.list (ns.map .int))), some (.r (.ref p)), some (.d (.int ((i : Nat) : Int))), some (.d (.int (B : Int))), some (.d (enc t)), some (.d (enc o)), some (.d (enc ot)), some (.d (.int (kn : Int))), some (.d (.int (mn : Int))), some (.d (.int (un : Int))), some (.d (enc bd)), some (.d (enc ((bd.put (o.lift 1 0) 0).put ot 0))), some (.d (.int (an : Int))), some (.d (enc (t.abs (an : Int) 0))), some (.d (.tuple ((t.fvs B).map .int))), z15, z16, z17, z18, z19, z20, z21, z22, z23, z24, z25] : Rho) _ _
    refine sb_cons (ss_ifF (SW.st (sw_orF (st_neL hr.units (se_l (se_listT G.lst (se_v 14))) (se_l (se_lcR (ow := [("v", 15)]) (fun i => .int (i : Int)) (fun i => t.has (i : Int)) rfl nd G.range (blkOk_by (N := ["script", "box", "turn", "free", "term", "one", "other", "k", "m", "under", "body", "first", "at", "over", "found", "v", "name", "args", "head", "told", "own", "ahead", "here", "path", "step", "parts"]) (sc := defScope sLaw) (by decide +kernel)) (ct_one nd) (sa_cons (se_v 3) sa_nil) ⟨by omega, by omega⟩ (fun i hi => ⟨_, rfl, fun s H C' cl fp κ M k => st_val (se_call cHv hr (by omega) (sa_cons (se_v 4) (sa_cons (se_v 15) sa_nil)) ⟨t, _, rfl, by omega, rfl⟩), fun _ s H C' cl fp κ M k => (se_v 15)⟩))) hfv (by rw [← hfv]; exact plA_ints _) (by rw [← hfv]; exact sh_ints _)) (sw_or1 (st_neL hr.units (se_l (se_listT G.lst (se_call cFv hr (by omega) (sa_cons (se_call cL hr (by omega) (sa_cons (se_v 4) (sa_cons (se_v 7) (sa_cons se_int sa_nil))) ⟨t, (kn : Int), 0, 0, rfl, (by have := T.put_dep (o.lift 1 0) bd 0; simp only [T.lift_dep, T.abs_dep, T.dep] at *; omega), (by have := T.put_dep (o.lift 1 0) bd 0; simp only [T.lift_dep, T.abs_dep, T.dep] at *; omega), rfl⟩) sa_nil) ⟨t.lift (kn : Int) 0, B + kn, rfl, by rw [T.size_lift]; omega, by rw [Int.natCast_add]; exact T.wf_lift (by omega) t 0 _ htw, by omega, rfl⟩))) (se_l (se_lcT (ow := [("v", 15)]) rfl nd (blkOk_by (N := ["script", "box", "turn", "free", "term", "one", "other", "k", "m", "under", "body", "first", "at", "over", "found", "v", "name", "args", "head", "told", "own", "ahead", "here", "path", "step", "parts"]) (sc := defScope sLaw) (by decide +kernel)) (ct_one nd) (se_v 14) (by rw [List.length_map]; exact hfl) (All2.map (f := PyData.int) (g := fun v : Int => PyData.int (v + (kn : Int))) fun q hq => ⟨_, rfl, fun s H C' cl fp κ M k => (se_add (se_v 15) (se_v 7))⟩))) hfk (by rw [← hfk]; exact plA_ints _) (by rw [← hfk]; exact sh_ints _))))) rfl (sb_nil ?_))
    refine sb_cons (ss_ifF (SW.st (sw_orF (st_is (b' := false) (st_neI (se_call cSz hr (by omega) (sa_cons (se_v 4) sa_nil) ⟨t, rfl, by omega, rfl⟩) (se_call cLSz hr (by omega) (sa_cons (se_v 4) sa_nil) ⟨t, rfl, by omega, rfl⟩)) (by rw [decide_eq_true rfl]; rfl)) (sw_or1 (st_neL hr.units (se_l (se_listT G.lst (se_call cNm hr (by omega) (sa_cons (se_v 4) sa_nil) ⟨t, rfl, by omega, rfl⟩))) (se_l (se_sdict rfl G.sorted G.dict (T.nl_mem t) (se_l (se_lc (ow := [("name", 16)]) rfl nd (blkOk_by (N := ["script", "box", "turn", "free", "term", "one", "other", "k", "m", "under", "body", "first", "at", "over", "found", "v", "name", "args", "head", "told", "own", "ahead", "here", "path", "step", "parts"]) (sc := defScope sLaw) (by decide +kernel)) (ct_one nd) (se_l (se_call cLN hr (by omega) (sa_cons (se_v 4) sa_nil) ⟨t, rfl, by omega, by omega, rfl⟩)) (by rw [List.length_map]; have := T.nl_len t; omega) (All2.map (f := PyData.str) (g := fun x : Str => PyData.tuple [.str x, .int 1]) fun q hq => ⟨_, rfl, fun s H C' cl fp κ M k => (se_tup (sd_cons (se_v 16) (sd_cons se_int sd_nil)))⟩))))) rfl (plA_strs _) (sh_strs canS_mem))))) rfl (sb_nil ?_))
    refine sb_cons (ss_let 17 nd (se_isL (se_slL (se_l (se_own (sd_cons (se_v 5) (sd_cons (se_v 6) sd_nil)))) so_none (so_some (se_callX hp cD hr (by omega) (sa_cons (se_v 1) (sa_cons se_int sa_nil)) (relDraw_of hcn (by decide) (by omega))))) hcut) ?_)
    show SB _ _ _ ([some (.d (.list (ns.map .int))), some (.r (.ref p)), some (.d (.int ((i : Nat) : Int))), some (.d (.int (B : Int))), some (.d (enc t)), some (.d (enc o)), some (.d (enc ot)), some (.d (.int (kn : Int))), some (.d (.int (mn : Int))), some (.d (.int (un : Int))), some (.d (enc bd)), some (.d (enc ((bd.put (o.lift 1 0) 0).put ot 0))), some (.d (.int (an : Int))), some (.d (enc (t.abs (an : Int) 0))), some (.d (.tuple ((t.fvs B).map .int))), z15, z16, some (.l (us.map enc)), z18, z19, z20, z21, z22, z23, z24, z25] : Rho) _ _
    refine sb_cons (ss_asg2 (tg_two (i := 18) (j := 19) rfl nd) (se_is (y := .tuple [enc t.hd, .tuple ((t.args ++ us).map enc)]) (se_call cSp hr (by omega) (sa_cons (se_call cAp hr (by omega) (sa_cons (se_v 4) (sa_cons (se_l (se_v 17)) sa_nil)) ⟨t, us, .inl rfl, rfl⟩) sa_nil) ⟨_, rfl, by omega, rfl⟩) (by rw [T.hd_foldl, T.args_foldl])) ?_)
    show SB _ _ _ ([some (.d (.list (ns.map .int))), some (.r (.ref p)), some (.d (.int ((i : Nat) : Int))), some (.d (.int (B : Int))), some (.d (enc t)), some (.d (enc o)), some (.d (enc ot)), some (.d (.int (kn : Int))), some (.d (.int (mn : Int))), some (.d (.int (un : Int))), some (.d (enc bd)), some (.d (enc ((bd.put (o.lift 1 0) 0).put ot 0))), some (.d (.int (an : Int))), some (.d (enc (t.abs (an : Int) 0))), some (.d (.tuple ((t.fvs B).map .int))), z15, z16, some (.l (us.map enc)), some (.d (enc t.hd)), some (.d (.tuple ((t.args ++ us).map enc))), z20, z21, z22, z23, z24, z25] : Rho) _ _
    refine sb_cons (ss_asg2 (tg_two (i := 20) (j := 21) rfl nd) (se_call cLSp hr (by omega) (sa_cons (se_v 4) sa_nil) ⟨t, rfl, by omega, rfl⟩) ?_)
    show SB _ _ _ ([some (.d (.list (ns.map .int))), some (.r (.ref p)), some (.d (.int ((i : Nat) : Int))), some (.d (.int (B : Int))), some (.d (enc t)), some (.d (enc o)), some (.d (enc ot)), some (.d (.int (kn : Int))), some (.d (.int (mn : Int))), some (.d (.int (un : Int))), some (.d (enc bd)), some (.d (enc ((bd.put (o.lift 1 0) 0).put ot 0))), some (.d (.int (an : Int))), some (.d (enc (t.abs (an : Int) 0))), some (.d (.tuple ((t.fvs B).map .int))), z15, z16, some (.l (us.map enc)), some (.d (enc t.hd)), some (.d (.tuple ((t.args ++ us).map enc))), some (.d (enc t.hd)), some (.d (.list (t.args.map enc))), z22, z23, z24, z25] : Rho) _ _
    refine sb_cons (ss_ifF (SW.st (sw_orF (st_neT (t := t.hd) (u := t.hd) hr.units (se_v 18) (se_v 20) rfl ((T.hd_ok t).1 htn) (by have := (T.hd_ok t).2; omega)) (sw_orF (st_neL (xs := (t.args ++ us).map enc) (ys := t.args.map enc ++ us.map enc) hr.units (se_l (se_listT G.lst (se_v 19))) (se_l (se_catD (ds := t.args.map enc) (es := us.map enc) (by rw [List.length_map, List.length_map]; omega) (se_v 21) (se_l (se_v 17)))) (by rw [List.map_append]) (by rw [← List.map_append]; exact plA_encs _) (by rw [← List.map_append]; exact sh_encs htu)) (sw_or1 (st_neT hr.units (se_call cAp hr (by omega) (sa_cons (se_v 18) (sa_cons (se_v 19) sa_nil)) ⟨t.hd, t.args ++ us, .inr rfl, rfl⟩) (se_call cAp hr (by omega) (sa_cons (se_v 4) (sa_cons (se_l (se_v 17)) sa_nil)) ⟨t, us, .inl rfl, rfl⟩) (by rw [List.foldl_append, T.hd_args]) hfo.1 (by omega)))))) rfl (sb_nil ?_))
    refine sb_cons (ss_ifF (SW.st (sw_orF (st_neT hr.units (se_call cBr hr (by omega) (sa_cons (se_call cBr hr (by omega) (sa_cons (se_v 4) sa_nil) ⟨t, 0, rfl, by omega, by omega, rfl⟩) sa_nil) ⟨_, 0, rfl, by rw [T.bare_dep]; omega, by rw [T.bare_dep]; omega, rfl⟩) (se_call cBr hr (by omega) (sa_cons (se_v 4) sa_nil) ⟨t, 0, rfl, by omega, by omega, rfl⟩) (T.bare_bare t) (T.bare_nm t htn) (by rw [T.bare_dep]; omega)) (sw_orF (st_is (b' := false) (st_notB (se_call cSm hr (by omega) (sa_cons (se_v 4) (sa_cons (se_call cLB hr (by omega) (sa_cons (se_v 4) sa_nil) ⟨t, rfl, by omega, rfl⟩) sa_nil)) ⟨t, t.bare, rfl, by omega, by rw [T.bare_dep]; omega, htn, T.bare_nm t htn, rfl⟩) se_bl) (by rw [T.bare_bare, decide_eq_true rfl]; rfl)) (sw_or1 (st_is (b' := false) (st_notB (se_call cSm hr (by omega) (sa_cons (se_v 4) (sa_cons (se_tup (sd_cons se_str (sd_cons (se_v 4) (sd_cons (se_v 5) sd_nil)))) sa_nil)) ⟨t, .app t o, rfl, by omega, by simp only [T.dep]; omega, htn, by simp only [T.nm, htn, hon, Bool.and_self], rfl⟩) se_bl) (by rw [decide_eq_false (T.bare_app t o)]; rfl)))))) rfl (sb_nil ?_))
    refine sb_cons (ss_par2 22 23 rfl nd (sa_cons (se_v 4) (sa_cons (se_tup sd_nil) sa_nil)) ?_)
    refine sb_cons (ss_forR1 PassesOwn.never rfl G.range (tg_name nd (i := 24)) (sa_cons se_int sa_nil) ⟨by decide, by decide⟩ (fun j ρ k => ∃ (here : T) (path : List Int) (b : Nat) (w11 w12 w13 w14 w15 w16 w17 w18 w19 w20 w21 w24 w25 : Option R), ρ = [some (.d (.list (ns.map .int))), some (.r (.ref p)), some (.d (.int ((i : Nat) : Int))), some (.d (.int (B : Int))), some (.d (enc t)), some (.d (enc o)), some (.d (enc ot)), some (.d (.int (kn : Int))), some (.d (.int (mn : Int))), some (.d (.int (un : Int))), some (.d (enc bd)), w11, w12, w13, w14, w15, w16, w17, w18, w19, w20, w21, some (.d (enc here)), some (.d (.tuple (path.map .int))), w24, w25] ∧ k = ((), box D b) ∧ t.sub path = some here ∧ (∀ x ∈ path, 0 ≤ x) ∧ path.length ≤ j ∧ b ≤ a + 900 + j ∧ here.nm = true ∧ here.dep ≤ 10) ⟨t, [], b4 + 1 + 1, _, _, _, _, _, _, _, _, _, _, _, _, _, rfl, rfl, rfl, by simp, by simp, by omega, htn, by omega⟩ (fun j ρ k hj hw => ?_) (fun ρ k hw => ?_))
    · obtain ⟨here, path, b, w11, w12, w13, w14, w15, w16, w17, w18, w19, w20, w21, w24, w25, rfl, rfl, hsub, hpn, hpl, hb, hhn, hhd⟩ := hw
      have hpl3 := T.parts_len here
      have hn1 : here.sub [(here.parts.length : Int)] = none := by
        show (match here.parts[((here.parts.length : Int)).toNat]? with | some q => q.1.sub [] | none => none) = none
        rw [Int.toNat_natCast, List.getElem?_eq_none (Nat.le_refl _)]
      have hn2 : here.sub [7, 0] = none := by
        show (match here.parts[((7 : Int)).toNat]? with | some q => q.1.sub [0] | none => none) = none
        rw [List.getElem?_eq_none (by show _ ≤ 7; omega)]
      have hpn1 : ∀ x ∈ path ++ [(here.parts.length : Int)], 0 ≤ x := fun x hx => by
        rcases List.mem_append.mp hx with h | h
        · exact hpn x h
        · rw [List.mem_singleton] at h
          omega
      have hpn2 : ∀ x ∈ path ++ [7, 0], (0 : Int) ≤ x := fun x hx => by
        rcases List.mem_append.mp hx with h | h
        · exact hpn x h
        · simp only [List.mem_cons, List.not_mem_nil, or_false] at h
          omega
      have hshp : SeqAt.shaped (.list ((here.parts.map (·.1)).map enc)) = true := by
        refine sh_encs fun u hu => ?_
        obtain ⟨y, hy, rfl⟩ := List.mem_map.mp hu
        have := T.parts_dep hy
        exact ⟨T.parts_nm hhn hy, by omega⟩
      refine ⟨_, rfl, ?_⟩
      refine sb_cons (ss_let 25 nd (se_call cLPa hr (by omega) (sa_cons (se_v 22) sa_nil) ⟨here, rfl, rfl⟩) ?_)
      refine sb_cons (ss_ifF (SW.st (sw_orF (st_neT (t := here) (u := here) hr.units (se_is (y := enc here) (se_call cPt hr (by omega) (sa_cons (se_v 4) (sa_cons (se_v 23) sa_nil)) ⟨t, path, rfl, hpn, rfl⟩) (by rw [hsub]; rfl)) (se_v 22) rfl hhn (by omega)) (sw_orF (st_is (b' := false) (st_notN (se_is (y := .none) (se_call cPt hr (by omega) (sa_cons (se_v 4) (sa_cons (se_is (y := .tuple ((path ++ [(here.parts.length : Int)]).map .int)) (se_catT (ds := path.map PyData.int) (es := ([(here.parts.length : Int)] : List Int).map PyData.int) (by rw [List.length_map, List.length_map]; simp only [List.length_cons, List.length_nil]; omega) (se_v 23) (se_tup (sd_cons (se_is (y := .int ((here.parts.length : Nat) : Int)) (se_lenL G.len (se_l (se_v 25))) (by rw [List.length_map, List.length_map])) sd_nil))) (by rw [List.map_append])) sa_nil)) ⟨t, path ++ [(here.parts.length : Int)], rfl, hpn1, rfl⟩) (by rw [T.sub_app, hsub]; exact congrArg opt hn1))) rfl) (sw_or1 (st_is (b' := false) (st_notN (se_is (y := .none) (se_call cPt hr (by omega) (sa_cons (se_v 4) (sa_cons (se_is (y := .tuple ((path ++ [7, 0]).map .int)) (se_catT (ds := path.map PyData.int) (es := ([7, 0] : List Int).map PyData.int) (by rw [List.length_map, List.length_map]; simp only [List.length_cons, List.length_nil]; omega) (se_v 23) (se_tup (sd_cons se_int (sd_cons se_int sd_nil)))) (by rw [List.map_append])) sa_nil)) ⟨t, path ++ [7, 0], rfl, hpn2, rfl⟩) (by rw [T.sub_app, hsub]; exact congrArg opt hn2))) rfl))))) rfl (sb_nil ?_))
      by_cases hz : here.parts = []
      · refine sb_cons (ss_ifF (st_neNil (c := true) hr.units hshp (se_l (se_v 25)) (se_l (se_own sd_nil)) (by rw [hz]; rfl)) rfl (sb_nil (sb_nil ⟨here, path, b, _, _, _, _, _, _, _, _, _, _, _, _, _, rfl, rfl, hsub, hpn, by omega, by omega, hhn, hhd⟩)))
      · have hpos : 0 < here.parts.length := List.length_pos_iff.mpr hz
        obtain ⟨qn, hq, hq'⟩ := draw_nat D (m := ((here.parts.length : Nat) : Int)) b (by omega)
        have hql : qn < here.parts.length := by omega
        have hgq : here.parts[qn]? = some here.parts[qn] := List.getElem?_eq_getElem hql
        have hmq : here.parts[qn] ∈ here.parts := List.getElem_mem hql
        have hdq := T.parts_dep hmq
        have hat : atI ((here.parts.map (·.1)).map enc) (qn : Int) = some (enc here.parts[qn].1) := by
          unfold atI ixN
          rw [if_pos (by omega), if_pos (by rw [List.length_map, List.length_map]; omega)]
          show ((here.parts.map (·.1)).map enc)[((qn : Int)).toNat]? = _
          rw [Int.toNat_natCast, List.getElem?_map, List.getElem?_map, hgq]
          rfl
        refine sb_cons (ss_ifT (st_neNil (c := false) hr.units hshp (se_l (se_v 25)) (se_l (se_own sd_nil)) (by cases hh : here.parts with | nil => exact absurd hh hz | cons x l => rfl)) rfl (sb_cons (ss_let 12 nd (se_callX hp cD hr (by omega) (sa_cons (se_v 1) (sa_cons (se_is (y := .int ((here.parts.length : Nat) : Int)) (se_lenL G.len (se_l (se_v 25))) (by rw [List.length_map, List.length_map])) sa_nil)) (relDraw_of hq (by omega) (by omega))) (sb_cons (ss_par2 22 23 rfl nd (sa_cons (se_ixL (se_l (se_v 25)) (se_v 12) hat) (sa_cons (se_is (y := .tuple ((path ++ [(qn : Int)]).map .int)) (se_catT (ds := path.map PyData.int) (es := ([(qn : Int)] : List Int).map PyData.int) (by rw [List.length_map, List.length_map]; simp only [List.length_cons, List.length_nil]; omega) (se_v 23) (se_tup (sd_cons (se_v 12) sd_nil))) (by rw [List.map_append])) sa_nil)) (sb_nil (sb_nil ⟨here.parts[qn].1, path ++ [(qn : Int)], b + 1, _, _, _, _, _, _, _, _, _, _, _, _, _, rfl, rfl, ?_, ?_, ?_, by omega, T.parts_nm hhn hmq, by omega⟩)))))))
        · rw [T.sub_app, hsub]
          show (match here.parts[((qn : Int)).toNat]? with | some q => q.1.sub [] | none => none) = _
          rw [Int.toNat_natCast, hgq]
          rfl
        · intro x hx
          rcases List.mem_append.mp hx with h | h
          · exact hpn x h
          · rw [List.mem_singleton] at h
            omega
        · rw [List.length_append, List.length_singleton]
          omega
    · obtain ⟨here, path, b, w11, w12, w13, w14, w15, w16, w17, w18, w19, w20, w21, w24, w25, rfl, rfl, hsub, hpn, hpl, hb, hhn, hhd⟩ := hw
      exact sb_nil ⟨b, _, _, _, _, _, _, _, _, _, _, _, _, _, _, _, _, _, _, _, _, _, _, _, _, rfl, rfl, by have e5 : ((5 : Int)).toNat = 5 := rfl; omega⟩

  · obtain ⟨a, z2, z3, z4, z5, z6, z7, z8, z9, z10, z11, z12, z13, z14, z15, z16, z17, z18, z19, z20, z21, z22, z23, z24, z25, rfl, rfl, ha⟩ := hw
    exact sb_cons (ss_ret se_bl rfl)

end
end D

namespace D
open PySem L2 Evl
set_option maxHeartbeats 40000000
open PySem.Spec PyProof.Rows
section
variable {P : Program} {w : World} {K : PySem.W.Frag} {mg : Str → Option Value} {base : Heap}
theorem fn_none {n : Nat} {f : Addr} {fd : FuncData} {ps : List Str} {rel : List R → R → Prop} (h : ∀ rs r, ¬ rel rs r) : FnOk P w K mg base CX0 n f fd ps (spP K rel) := by
  have no : ∀ vs H Q E, ¬ spP K rel vs H Q E := fun vs H Q E z => by
    obtain ⟨_, rs, r, z, _⟩ := z
    exact h rs r z
  exact ⟨fun vs H Q E h => absurd h (no vs H Q E), fun A outer s H args us vs Q E _ _ _ _ h => absurd h (no vs H Q E)⟩
theorem fn_noneX {n : Nat} {f : Addr} {fd : FuncData} {ps : List Str} {rel : List R → List PyData → R → List PyData → Prop} (h : ∀ rs ds r ds', ¬ rel rs ds r ds') : FnOk P w K mg base CX0 n f fd ps (spX K rel) := by
  have no : ∀ vs H Q E, ¬ spX K rel vs H Q E := fun vs H Q E z => by
    obtain ⟨_, _, _, rs, ds, r, ds', _, z, _⟩ := z
    exact h rs ds r ds' z
  exact ⟨fun vs H Q E h => absurd h (no vs H Q E), fun A outer s H args us vs Q E _ _ _ _ h => absurd h (no vs H Q E)⟩
/-- a def that stands at the top -/
structure Df (K : PySem.W.Frag) (mg : Str → Option Value) (x : Str) (st : Stmt) (ps : List Str) : Prop where
  h : ∃ (f : Addr) (fd : FuncData), Fun K x x st f fd ∧ mg x = some (.ref f) ∧ Binds K fd ps []
structure DfD (K : PySem.W.Frag) (mg : Str → Option Value) (x : Str) (st : Stmt) (ps : List Str) : Prop where
  h : ∃ (f : Addr) (fd : FuncData), FunD K x x (defArgs st) (defBody st) (defScope st) [.int 0] [] f fd ∧ mg x = some (.ref f) ∧ Binds K fd ps [] ∧ ∃ ds, Vals [.int 0] ds ∧ Binds K fd ps ds
theorem Df.cl {x : Str} {st : Stmt} {ps : List Str} {n : Nat} {rel : List R → R → Prop} (D : Df K mg x st ps) (h : ∀ {f fd}, Fun K x x st f fd → FnOk P w K mg base CX0 n f fd ps (spP K rel)) : Cl P w K mg base n x [] rel := by
  obtain ⟨f, fd, F, hm, hb⟩ := D.h
  exact cl_of (h F) hm F.kp hb
theorem Df.clX {x : Str} {st : Stmt} {ps : List Str} {n : Nat} {rel : List R → List PyData → R → List PyData → Prop} (D : Df K mg x st ps) (h : ∀ {f fd}, Fun K x x st f fd → FnOk P w K mg base CX0 n f fd ps (spX K rel)) : ClX P w K mg base n x rel := by
  obtain ⟨f, fd, F, hm, hb⟩ := D.h
  exact clX_of (h F) hm F.kp hb
theorem DfD.cl {x : Str} {st : Stmt} {ps : List Str} {n : Nat} {rel : List R → R → Prop} (D : DfD K mg x st ps) (h : ∀ {f fd}, FunD K x x (defArgs st) (defBody st) (defScope st) [.int 0] [] f fd → FnOk P w K mg base CX0 n f fd ps (spP K rel)) : Cl P w K mg base n x [] rel ∧ Cl P w K mg base n x [.d (.int 0)] rel := by
  obtain ⟨f, fd, F, hm, hb, ds, hv, hb2⟩ := D.h
  exact ⟨cl_of (h F) hm F.kp hb, ⟨f, fd, ps, ds, _, h F, hm, F.kp, hb2, hv, fun H => .cons (.int 0) .nil⟩⟩
theorem Cl.up {n m : Nat} {x : Str} {dvs : List R} {rel : List R → R → Prop} (h : n ≤ m) (c : Cl P w K mg base n x dvs rel) : Cl P w K mg base m x dvs rel := by
  obtain ⟨f, fd, ps, ds, ws, F, r⟩ := c.h
  exact ⟨⟨f, fd, ps, ds, ws, F.mono h, r⟩⟩
structure Facts (K : PySem.W.Frag) (mg : Str → Option Value) : Prop where
  G : Glo K mg
  G2 : Glo2 K mg
  dHeld : Df K mg "held" sHeld ["deep"]
  dParts : Df K mg "parts_of" sParts ["term"]
  dRebuilt : Df K mg "rebuilt" sRebuilt ["term", "parts"]
  dSame : Df K mg "is_same" sSame ["one", "other"]
  dPut : Df K mg "put" sPut ["term", "value"]
  dPutAll : Df K mg "put_all" sPutAll ["term", "values"]
  dHas : Df K mg "has_var" sHas ["term", "under"]
  dAbs : Df K mg "abstracted" sAbs ["term", "at", "under"]
  dApplied : Df K mg "applied" sApplied ["head", "args"]
  dSpine : Df K mg "spine" sSpine ["term"]
  dSizeOf : Df K mg "size_of" sSizeOf ["term"]
  dPartAt : Df K mg "part_at" sPartAt ["term", "path"]
  dWhole : Df K mg "is_whole" sWhole ["shape"]
  dLevel : Df K mg "is_level" sLevel ["shape"]
  dIsName : Df K mg "is_name" sIsName ["shape"]
  dHint : Df K mg "is_hint" sHint ["shape"]
  dLeaf : Df K mg "is_leaf" sLeaf ["shape"]
  dIsTerm : Df K mg "is_term" sIsTerm ["shape", "free"]
  dFree : Df K mg "free_vars" sFree ["term"]
  dNames : Df K mg "names_in" sNames ["term"]
  dLCell : Df K mg "_law_cell" sLCell ["script", "k"]
  dLDigits : Df K mg "_law_digits" sLDigits ["script", "first", "last"]
  dLDraw : Df K mg "_law_draw" sLDraw ["box", "m"]
  dLPick : Df K mg "_law_pick" sLPick ["box", "rows"]
  dLLift : Df K mg "_law_lift" sLLift ["term", "many", "under"]
  dLPut : Df K mg "_law_put" sLPut ["term", "value", "under"]
  dLBare : Df K mg "_law_bare" sLBare ["term"]
  dLParts : Df K mg "_law_parts" sLParts ["term"]
  dLSpine : Df K mg "_law_spine" sLSpine ["term"]
  dLAny : Df K mg "_law_any" sLAny ["box", "free", "depth"]
  dLSize : Df K mg "_law_size" sLSize ["term"]
  dLNamed : Df K mg "_law_named" sLNamed ["term"]
  dBare : DfD K mg "bare" sBare ["term", "deep"]
  dLifted : DfD K mg "lifted" sLifted ["term", "many", "under", "deep"]
  dPutAt : DfD K mg "put_at" sPutAt ["term", "value", "under", "deep"]
theorem all_law (A : Facts K mg) {f : Addr} {fd : FuncData} (F : Fun K "law" "law" sLaw f fd) : FnOk P w K mg base CX0 201 f fd ["script"] (spP K relLaw) := by
  have cH : Cl P w K mg base 1 "held" [] relHeld := A.dHeld.cl fun F => ok_held A.G F
  have cPs : Cl P w K mg base 1 "parts_of" [] relParts := A.dParts.cl fun F => ok_parts F
  have cRb : Cl P w K mg base 1 "rebuilt" [] relRebuilt := A.dRebuilt.cl fun F => ok_rebuilt F
  have cBare : ∀ n, Cl P w K mg base (n + 1) "bare" [] (relBare n) ∧ Cl P w K mg base (n + 1) "bare" [.d (.int 0)] (relBare n) := fun n => by
    induction n with
    | zero => exact A.dBare.cl fun F => fn_none fun rs r ⟨t, dp, _, h, _⟩ => by have := T.dep_pos t; omega
    | succ n ih => exact A.dBare.cl fun F => ok_bare A.G F cH ih.1
  have cLift : ∀ n, Cl P w K mg base (n + 1) "lifted" [] (relLift n) ∧ Cl P w K mg base (n + 1) "lifted" [.d (.int 0)] (relLift n) := fun n => by
    induction n with
    | zero => exact A.dLifted.cl fun F => fn_none fun rs r ⟨t, m, u, dp, _, h, _⟩ => by have := T.dep_pos t; omega
    | succ n ih => exact A.dLifted.cl fun F => ok_lifted A.G F cH ih.1
  have cL40 : Cl P w K mg base 40 "lifted" [.d (.int 0)] (relLift 30) := Cl.up (by decide) (cLift 30).2
  have cB40 : Cl P w K mg base 40 "bare" [.d (.int 0)] (relBare 30) := Cl.up (by decide) (cBare 30).2
  have cPutAt : ∀ n, Cl P w K mg base (n + 41) "put_at" [] (relPutAt n) ∧ Cl P w K mg base (n + 41) "put_at" [.d (.int 0)] (relPutAt n) := fun n => by
    induction n with
    | zero => exact A.dPutAt.cl fun F => fn_none fun rs r ⟨t, v, u, dp, _, h, _⟩ => by have := T.dep_pos t; omega
    | succ n ih => exact A.dPutAt.cl fun F => ok_putAt A.G F cH cL40 ih.1
  have cPut : Cl P w K mg base 81 "put" [] relPut := A.dPut.cl fun F => ok_put F (Cl.up (by decide) (cPutAt 30).2)
  have cPA : Cl P w K mg base 82 "put_all" [] relPutAll := A.dPutAll.cl fun F => ok_putAll A.G F cPut cL40
  have cSm : Cl P w K mg base 41 "is_same" [] relSame := A.dSame.cl fun F => ok_same F cB40
  have cHas : ∀ n, Cl P w K mg base (n + 1) "has_var" [] (relHas n) := fun n => by
    induction n with
    | zero => exact A.dHas.cl fun F => fn_none fun rs r ⟨t, u, _, h, _⟩ => by have := T.dep_pos t; omega
    | succ n ih => exact A.dHas.cl fun F => ok_has A.G F cPs ih
  have cAbs : ∀ n, Cl P w K mg base (n + 1) "abstracted" [] (relAbs n) := fun n => by
    induction n with
    | zero => exact A.dAbs.cl fun F => fn_none fun rs r ⟨t, a, u, _, h, _⟩ => by have := T.dep_pos t; omega
    | succ n ih => exact A.dAbs.cl fun F => ok_abs A.G F cPs cRb ih
  have cAp : Cl P w K mg base 1 "applied" [] relApplied := A.dApplied.cl fun F => ok_applied F
  have cSp : Cl P w K mg base 1 "spine" [] relSpine := A.dSpine.cl fun F => ok_spine A.G F
  have cSz : Cl P w K mg base 2 "size_of" [] relSize := A.dSizeOf.cl fun F => ok_size F cPs
  have cPt : Cl P w K mg base 2 "part_at" [] relPartAt := A.dPartAt.cl fun F => ok_partAt A.G F cPs
  have cW : Cl P w K mg base 1 "is_whole" [] relWhole := A.dWhole.cl fun F => ok_whole A.G F
  have cV : Cl P w K mg base 2 "is_level" [] relLevel := A.dLevel.cl fun F => ok_level A.G2 F cW
  have cN : Cl P w K mg base 1 "is_name" [] relName := A.dIsName.cl fun F => ok_name A.G A.G2 F
  have cI : Cl P w K mg base 2 "is_hint" [] relHint := A.dHint.cl fun F => ok_hint F cN
  have cLf : Cl P w K mg base 3 "is_leaf" [] relLeaf := A.dLeaf.cl fun F => ok_leaf A.G F cW cV cN
  have cIT : Cl P w K mg base 4 "is_term" [] relIsTerm := A.dIsTerm.cl fun F => ok_isTerm A.G A.G2 F cLf cI
  have cFv : Cl P w K mg base 2 "free_vars" [] relFree := A.dFree.cl fun F => ok_free A.G F cPs
  have cNm : Cl P w K mg base 2 "names_in" [] relNames := A.dNames.cl fun F => ok_names A.G F cPs
  have cC : Cl P w K mg base 1 "_law_cell" [] relLCell := A.dLCell.cl fun F => ok_lcell A.G F
  have cDg : Cl P w K mg base 2 "_law_digits" [] relLDigits := A.dLDigits.cl fun F => ok_ldigits A.G F cC
  have cD : ClX P w K mg base 1 "_law_draw" relLDraw := A.dLDraw.clX fun F => ok_ldraw A.G F
  have cP : ClX P w K mg base 2 "_law_pick" relLPick := A.dLPick.clX fun F => ok_lpick A.G F cD
  have cA : ∀ n, ClX P w K mg base (n + 2) "_law_any" (relLAny n) := fun n => by
    induction n with
    | zero => exact A.dLAny.clX fun F => fn_noneX fun rs ds r ds' ⟨D, d, fr, a, _, _, h, _⟩ => by omega
    | succ n ih => exact A.dLAny.clX fun F => ok_lany A.G F cD cP ih
  have cLL : ∀ n, Cl P w K mg base (n + 1) "_law_lift" [] (relLLift n) := fun n => by
    induction n with
    | zero => exact A.dLLift.cl fun F => fn_none fun rs r ⟨t, m, u, _, h, _⟩ => by have := T.dep_pos t; omega
    | succ n ih => exact A.dLLift.cl fun F => ok_llift F ih
  have cLP : ∀ n, Cl P w K mg base (n + 21) "_law_put" [] (relLPut n) := fun n => by
    induction n with
    | zero => exact A.dLPut.cl fun F => fn_none fun rs r ⟨t, v, u, _, h, _⟩ => by have := T.dep_pos t; omega
    | succ n ih => exact A.dLPut.cl fun F => ok_lput F (cLL 20) ih
  have cLB : ∀ n, Cl P w K mg base (n + 1) "_law_bare" [] (relLBare n) := fun n => by
    induction n with
    | zero => exact A.dLBare.cl fun F => fn_none fun rs r ⟨t, _, h, _⟩ => by have := T.dep_pos t; omega
    | succ n ih => exact A.dLBare.cl fun F => ok_lbare F ih
  have cLPa : Cl P w K mg base 1 "_law_parts" [] relLParts := A.dLParts.cl fun F => ok_lparts A.G F
  have cLSp : Cl P w K mg base 1 "_law_spine" [] relLSpine := A.dLSpine.cl fun F => ok_lspine F
  have cLSz : ∀ n, Cl P w K mg base (n + 1) "_law_size" [] (relLSize n) := fun n => by
    induction n with
    | zero => exact A.dLSize.cl fun F => fn_none fun rs r ⟨t, _, h, _⟩ => by have := T.dep_pos t; omega
    | succ n ih => exact A.dLSize.cl fun F => ok_lsize A.G F cLPa ih
  have cLN : ∀ n, Cl P w K mg base (n + 1) "_law_named" [] (relLNamed n) := fun n => by
    induction n with
    | zero => exact A.dLNamed.cl fun F => fn_none fun rs r ⟨t, _, h, _⟩ => by have := T.dep_pos t; omega
    | succ n ih => exact A.dLNamed.cl fun F => ok_lnamed F cLPa ih
  exact ok_law A.G F cDg cD (cA 5) (cLL 20) (cLP 20) (cLB 20) cLPa cLSp (cLSz 20) (cLN 20) cIT cL40 cPut cPA (cAbs 30) (cHas 30) cFv cSz cNm cSp cAp cB40 cSm cPt
end
end D

namespace D
open PySem L2 Evl
set_option maxHeartbeats 40000000
open PySem.Spec PyProof.Rows
theorem dfd_mk {K : PySem.W.Frag} {mg : Str → Option Value} {x : Str} {st : Stmt} {ps : List Str} {n : Nat} {f T : Addr} {od an dT : Option Addr} {osl sT : Array (Option Value)} {oc kV dc pm cd ct oT : Value} {nT : Nat} {tT : Tok} (h0 : ([.int 0] : List V) ≠ []) (hn : n = ps.length) (hn2 : n - 1 + 1 = ps.length)
    (h1 : ∀ (T : Addr) (kV doc pm : Value) (an : Option Addr) (cdv ct : Value) (us its : List Value), us.length = n → its.length = 1 → ∃ k, bindArgs (PySem.W.fnOf x x (defArgs st) (defBody st) (defScope st) (.ref T) kV doc pm an cdv ct) ⟨us, []⟩ = seqItems? (.ref T) >>= k ∧ k (some its.toArray) = pure (ps.zip (us ++ its.drop 1)))
    (h2 : ∀ (T : Addr) (kV doc pm : Value) (an : Option Addr) (cdv ct : Value) (us its : List Value), us.length = n - 1 → its.length = 1 → ∃ k, bindArgs (PySem.W.fnOf x x (defArgs st) (defBody st) (defScope st) (.ref T) kV doc pm an cdv ct) ⟨us, []⟩ = seqItems? (.ref T) >>= k ∧ k (some its.toArray) = pure (ps.zip (us ++ its.drop 0)))
    (l : K.lookup f = some ⟨oc, od, .func (PySem.W.fnOf x x (defArgs st) (defBody st) (defScope st) (.ref T) kV dc pm an cd ct), osl⟩) (c : PySem.W.codeIn K cd x = true) (k : PySem.W.keepIn K (.ref f) = true) (t : K.lookup T = some ⟨oT, dT, .seq #[.int 0 tT] nT, sT⟩) (hm : mg x = some (.ref f)) : DfD K mg x st ps := by
  have F : FunD K x x (defArgs st) (defBody st) (defScope st) [.int 0] [] f (PySem.W.fnOf x x (defArgs st) (defBody st) (defScope st) (.ref T) kV dc pm an cd ct) := ⟨⟨oc, od, .ref T, kV, dc, pm, an, cd, ct, osl, rfl, l, c, .inr ⟨h0, T, _, [.int 0 tT], nT, rfl, t, rfl, .cons ⟨tT, rfl⟩ .nil⟩, .inl rfl⟩, k⟩
  obtain ⟨ds, hv, hb⟩ := F.binds1 n 1 h0 (by show n + (1 - 1) = _; omega) h1
  obtain ⟨ds2, hv2, hb2⟩ := F.binds1 (n - 1) 0 h0 (by show n - 1 + (1 - 0) = _; omega) h2
  cases hv
  exact ⟨⟨f, _, F, hm, hb, ds2, hv2, hb2⟩⟩
theorem glb_of {X : Cx} {x : Str} {r : R} {v : V} {u : Value} (hm : X.mg x = some u) (hr : RelV v u) (h : ∀ H, RP X.K H v r) : Glb X x r := ⟨⟨v, u, hm, hr, h⟩⟩
theorem strs_rp {K : PySem.W.Frag} {g : Addr} {gd : Option Addr} {gs : Array (Option Value)} {n : Nat} {its : Array Value} (xs : List Str) (l : K.lookup g = some ⟨.type "tuple", gd, .seq its n, gs⟩) (hz : its.size ≤ sizeLine) (hv : Vals (xs.map V.str) its.toList) (H : Hp) : RP K H (.ref g) (.d (.tuple (xs.map .str))) := by
  have go : ∀ l : List Str, DpAll K H (l.map V.str) (l.map PyData.str) := fun l => by
    induction l with
    | nil => exact .nil
    | cons a l ih => exact .cons (.str a) ih
  exact .tup (.inr ⟨_, its, n, l, rfl, rfl, hz, hv⟩) (go xs)

theorem all_mk {K : PySem.W.Frag} {h : Heap} {mg : Str → Option Value} (X : K.In h) (G : h.Ns mainGlobals mg)
    {fHeld : Addr} {odHeld anHeld : Option Addr} {slHeld : Array (Option Value)} {ocHeld kVHeld dcHeld pmHeld cdHeld ctHeld : Value}
    {fParts : Addr} {odParts anParts : Option Addr} {slParts : Array (Option Value)} {ocParts kVParts dcParts pmParts cdParts ctParts : Value}
    {fRebuilt : Addr} {odRebuilt anRebuilt : Option Addr} {slRebuilt : Array (Option Value)} {ocRebuilt kVRebuilt dcRebuilt pmRebuilt cdRebuilt ctRebuilt : Value}
    {fSame : Addr} {odSame anSame : Option Addr} {slSame : Array (Option Value)} {ocSame kVSame dcSame pmSame cdSame ctSame : Value}
    {fPut : Addr} {odPut anPut : Option Addr} {slPut : Array (Option Value)} {ocPut kVPut dcPut pmPut cdPut ctPut : Value}
    {fPutAll : Addr} {odPutAll anPutAll : Option Addr} {slPutAll : Array (Option Value)} {ocPutAll kVPutAll dcPutAll pmPutAll cdPutAll ctPutAll : Value}
    {fHas : Addr} {odHas anHas : Option Addr} {slHas : Array (Option Value)} {ocHas kVHas dcHas pmHas cdHas ctHas : Value}
    {fAbs : Addr} {odAbs anAbs : Option Addr} {slAbs : Array (Option Value)} {ocAbs kVAbs dcAbs pmAbs cdAbs ctAbs : Value}
    {fApplied : Addr} {odApplied anApplied : Option Addr} {slApplied : Array (Option Value)} {ocApplied kVApplied dcApplied pmApplied cdApplied ctApplied : Value}
    {fSpine : Addr} {odSpine anSpine : Option Addr} {slSpine : Array (Option Value)} {ocSpine kVSpine dcSpine pmSpine cdSpine ctSpine : Value}
    {fSizeOf : Addr} {odSizeOf anSizeOf : Option Addr} {slSizeOf : Array (Option Value)} {ocSizeOf kVSizeOf dcSizeOf pmSizeOf cdSizeOf ctSizeOf : Value}
    {fPartAt : Addr} {odPartAt anPartAt : Option Addr} {slPartAt : Array (Option Value)} {ocPartAt kVPartAt dcPartAt pmPartAt cdPartAt ctPartAt : Value}
    {fWhole : Addr} {odWhole anWhole : Option Addr} {slWhole : Array (Option Value)} {ocWhole kVWhole dcWhole pmWhole cdWhole ctWhole : Value}
    {fLevel : Addr} {odLevel anLevel : Option Addr} {slLevel : Array (Option Value)} {ocLevel kVLevel dcLevel pmLevel cdLevel ctLevel : Value}
    {fIsName : Addr} {odIsName anIsName : Option Addr} {slIsName : Array (Option Value)} {ocIsName kVIsName dcIsName pmIsName cdIsName ctIsName : Value}
    {fHint : Addr} {odHint anHint : Option Addr} {slHint : Array (Option Value)} {ocHint kVHint dcHint pmHint cdHint ctHint : Value}
    {fLeaf : Addr} {odLeaf anLeaf : Option Addr} {slLeaf : Array (Option Value)} {ocLeaf kVLeaf dcLeaf pmLeaf cdLeaf ctLeaf : Value}
    {fIsTerm : Addr} {odIsTerm anIsTerm : Option Addr} {slIsTerm : Array (Option Value)} {ocIsTerm kVIsTerm dcIsTerm pmIsTerm cdIsTerm ctIsTerm : Value}
    {fFree : Addr} {odFree anFree : Option Addr} {slFree : Array (Option Value)} {ocFree kVFree dcFree pmFree cdFree ctFree : Value}
    {fNames : Addr} {odNames anNames : Option Addr} {slNames : Array (Option Value)} {ocNames kVNames dcNames pmNames cdNames ctNames : Value}
    {fLCell : Addr} {odLCell anLCell : Option Addr} {slLCell : Array (Option Value)} {ocLCell kVLCell dcLCell pmLCell cdLCell ctLCell : Value}
    {fLDigits : Addr} {odLDigits anLDigits : Option Addr} {slLDigits : Array (Option Value)} {ocLDigits kVLDigits dcLDigits pmLDigits cdLDigits ctLDigits : Value}
    {fLDraw : Addr} {odLDraw anLDraw : Option Addr} {slLDraw : Array (Option Value)} {ocLDraw kVLDraw dcLDraw pmLDraw cdLDraw ctLDraw : Value}
    {fLPick : Addr} {odLPick anLPick : Option Addr} {slLPick : Array (Option Value)} {ocLPick kVLPick dcLPick pmLPick cdLPick ctLPick : Value}
    {fLLift : Addr} {odLLift anLLift : Option Addr} {slLLift : Array (Option Value)} {ocLLift kVLLift dcLLift pmLLift cdLLift ctLLift : Value}
    {fLPut : Addr} {odLPut anLPut : Option Addr} {slLPut : Array (Option Value)} {ocLPut kVLPut dcLPut pmLPut cdLPut ctLPut : Value}
    {fLBare : Addr} {odLBare anLBare : Option Addr} {slLBare : Array (Option Value)} {ocLBare kVLBare dcLBare pmLBare cdLBare ctLBare : Value}
    {fLParts : Addr} {odLParts anLParts : Option Addr} {slLParts : Array (Option Value)} {ocLParts kVLParts dcLParts pmLParts cdLParts ctLParts : Value}
    {fLSpine : Addr} {odLSpine anLSpine : Option Addr} {slLSpine : Array (Option Value)} {ocLSpine kVLSpine dcLSpine pmLSpine cdLSpine ctLSpine : Value}
    {fLAny : Addr} {odLAny anLAny : Option Addr} {slLAny : Array (Option Value)} {ocLAny kVLAny dcLAny pmLAny cdLAny ctLAny : Value}
    {fLSize : Addr} {odLSize anLSize : Option Addr} {slLSize : Array (Option Value)} {ocLSize kVLSize dcLSize pmLSize cdLSize ctLSize : Value}
    {fLNamed : Addr} {odLNamed anLNamed : Option Addr} {slLNamed : Array (Option Value)} {ocLNamed kVLNamed dcLNamed pmLNamed cdLNamed ctLNamed : Value}
    {fBare : Addr} {odBare anBare : Option Addr} {slBare : Array (Option Value)} {ocBare kVBare dcBare pmBare cdBare ctBare : Value}
    {TBare : Addr} {oTBare : Value} {dTBare : Option Addr} {sTBare : Array (Option Value)} {nTBare : Nat} {tTBare : Tok}
    {fLifted : Addr} {odLifted anLifted : Option Addr} {slLifted : Array (Option Value)} {ocLifted kVLifted dcLifted pmLifted cdLifted ctLifted : Value}
    {TLifted : Addr} {oTLifted : Value} {dTLifted : Option Addr} {sTLifted : Array (Option Value)} {nTLifted : Nat} {tTLifted : Tok}
    {fPutAt : Addr} {odPutAt anPutAt : Option Addr} {slPutAt : Array (Option Value)} {ocPutAt kVPutAt dcPutAt pmPutAt cdPutAt ctPutAt : Value}
    {TPutAt : Addr} {oTPutAt : Value} {dTPutAt : Option Addr} {sTPutAt : Array (Option Value)} {nTPutAt : Nat} {tTPutAt : Tok}
    {fLaw : Addr} {odLaw anLaw : Option Addr} {slLaw : Array (Option Value)} {ocLaw kVLaw dcLaw pmLaw cdLaw ctLaw : Value}
    {gLEAVES : Addr} {gdLEAVES : Option Addr} {gsLEAVES : Array (Option Value)} {gnLEAVES : Nat} {uLEAVES0 uLEAVES1 uLEAVES2 uLEAVES3 uLEAVES4 uLEAVES5 uLEAVES6 : Tok}
    {gWORDS : Addr} {gdWORDS : Option Addr} {gsWORDS : Array (Option Value)} {gnWORDS : Nat} {uWORDS0 uWORDS1 uWORDS2 uWORDS3 uWORDS4 uWORDS5 uWORDS6 uWORDS7 uWORDS8 uWORDS9 uWORDS10 uWORDS11 uWORDS12 uWORDS13 uWORDS14 uWORDS15 uWORDS16 uWORDS17 : Tok}
    {vLETTERS : Tok}
    {vMORE : Tok}
    {vFAR_MOST : Tok}
    {vLEVEL_MOST : Tok}
    {vPARTS_MOST : Tok}
    {vDEEP_MOST : Tok}
    (aHeld : PySem.W.nsIn K mainGlobals "held" = some (some (.ref fHeld)))
    (lHeld : K.lookup fHeld = some ⟨ocHeld, odHeld, .func (PySem.W.fnOf "held" "held" (defArgs sHeld) (defBody sHeld) (defScope sHeld) .none kVHeld dcHeld pmHeld anHeld cdHeld ctHeld), slHeld⟩)
    (cHeld : PySem.W.codeIn K cdHeld "held" = true)
    (kHeld : PySem.W.keepIn K (.ref fHeld) = true)
    (aParts : PySem.W.nsIn K mainGlobals "parts_of" = some (some (.ref fParts)))
    (lParts : K.lookup fParts = some ⟨ocParts, odParts, .func (PySem.W.fnOf "parts_of" "parts_of" (defArgs sParts) (defBody sParts) (defScope sParts) .none kVParts dcParts pmParts anParts cdParts ctParts), slParts⟩)
    (cParts : PySem.W.codeIn K cdParts "parts_of" = true)
    (kParts : PySem.W.keepIn K (.ref fParts) = true)
    (aRebuilt : PySem.W.nsIn K mainGlobals "rebuilt" = some (some (.ref fRebuilt)))
    (lRebuilt : K.lookup fRebuilt = some ⟨ocRebuilt, odRebuilt, .func (PySem.W.fnOf "rebuilt" "rebuilt" (defArgs sRebuilt) (defBody sRebuilt) (defScope sRebuilt) .none kVRebuilt dcRebuilt pmRebuilt anRebuilt cdRebuilt ctRebuilt), slRebuilt⟩)
    (cRebuilt : PySem.W.codeIn K cdRebuilt "rebuilt" = true)
    (kRebuilt : PySem.W.keepIn K (.ref fRebuilt) = true)
    (aSame : PySem.W.nsIn K mainGlobals "is_same" = some (some (.ref fSame)))
    (lSame : K.lookup fSame = some ⟨ocSame, odSame, .func (PySem.W.fnOf "is_same" "is_same" (defArgs sSame) (defBody sSame) (defScope sSame) .none kVSame dcSame pmSame anSame cdSame ctSame), slSame⟩)
    (cSame : PySem.W.codeIn K cdSame "is_same" = true)
    (kSame : PySem.W.keepIn K (.ref fSame) = true)
    (aPut : PySem.W.nsIn K mainGlobals "put" = some (some (.ref fPut)))
    (lPut : K.lookup fPut = some ⟨ocPut, odPut, .func (PySem.W.fnOf "put" "put" (defArgs sPut) (defBody sPut) (defScope sPut) .none kVPut dcPut pmPut anPut cdPut ctPut), slPut⟩)
    (cPut : PySem.W.codeIn K cdPut "put" = true)
    (kPut : PySem.W.keepIn K (.ref fPut) = true)
    (aPutAll : PySem.W.nsIn K mainGlobals "put_all" = some (some (.ref fPutAll)))
    (lPutAll : K.lookup fPutAll = some ⟨ocPutAll, odPutAll, .func (PySem.W.fnOf "put_all" "put_all" (defArgs sPutAll) (defBody sPutAll) (defScope sPutAll) .none kVPutAll dcPutAll pmPutAll anPutAll cdPutAll ctPutAll), slPutAll⟩)
    (cPutAll : PySem.W.codeIn K cdPutAll "put_all" = true)
    (kPutAll : PySem.W.keepIn K (.ref fPutAll) = true)
    (aHas : PySem.W.nsIn K mainGlobals "has_var" = some (some (.ref fHas)))
    (lHas : K.lookup fHas = some ⟨ocHas, odHas, .func (PySem.W.fnOf "has_var" "has_var" (defArgs sHas) (defBody sHas) (defScope sHas) .none kVHas dcHas pmHas anHas cdHas ctHas), slHas⟩)
    (cHas : PySem.W.codeIn K cdHas "has_var" = true)
    (kHas : PySem.W.keepIn K (.ref fHas) = true)
    (aAbs : PySem.W.nsIn K mainGlobals "abstracted" = some (some (.ref fAbs)))
    (lAbs : K.lookup fAbs = some ⟨ocAbs, odAbs, .func (PySem.W.fnOf "abstracted" "abstracted" (defArgs sAbs) (defBody sAbs) (defScope sAbs) .none kVAbs dcAbs pmAbs anAbs cdAbs ctAbs), slAbs⟩)
    (cAbs : PySem.W.codeIn K cdAbs "abstracted" = true)
    (kAbs : PySem.W.keepIn K (.ref fAbs) = true)
    (aApplied : PySem.W.nsIn K mainGlobals "applied" = some (some (.ref fApplied)))
    (lApplied : K.lookup fApplied = some ⟨ocApplied, odApplied, .func (PySem.W.fnOf "applied" "applied" (defArgs sApplied) (defBody sApplied) (defScope sApplied) .none kVApplied dcApplied pmApplied anApplied cdApplied ctApplied), slApplied⟩)
    (cApplied : PySem.W.codeIn K cdApplied "applied" = true)
    (kApplied : PySem.W.keepIn K (.ref fApplied) = true)
    (aSpine : PySem.W.nsIn K mainGlobals "spine" = some (some (.ref fSpine)))
    (lSpine : K.lookup fSpine = some ⟨ocSpine, odSpine, .func (PySem.W.fnOf "spine" "spine" (defArgs sSpine) (defBody sSpine) (defScope sSpine) .none kVSpine dcSpine pmSpine anSpine cdSpine ctSpine), slSpine⟩)
    (cSpine : PySem.W.codeIn K cdSpine "spine" = true)
    (kSpine : PySem.W.keepIn K (.ref fSpine) = true)
    (aSizeOf : PySem.W.nsIn K mainGlobals "size_of" = some (some (.ref fSizeOf)))
    (lSizeOf : K.lookup fSizeOf = some ⟨ocSizeOf, odSizeOf, .func (PySem.W.fnOf "size_of" "size_of" (defArgs sSizeOf) (defBody sSizeOf) (defScope sSizeOf) .none kVSizeOf dcSizeOf pmSizeOf anSizeOf cdSizeOf ctSizeOf), slSizeOf⟩)
    (cSizeOf : PySem.W.codeIn K cdSizeOf "size_of" = true)
    (kSizeOf : PySem.W.keepIn K (.ref fSizeOf) = true)
    (aPartAt : PySem.W.nsIn K mainGlobals "part_at" = some (some (.ref fPartAt)))
    (lPartAt : K.lookup fPartAt = some ⟨ocPartAt, odPartAt, .func (PySem.W.fnOf "part_at" "part_at" (defArgs sPartAt) (defBody sPartAt) (defScope sPartAt) .none kVPartAt dcPartAt pmPartAt anPartAt cdPartAt ctPartAt), slPartAt⟩)
    (cPartAt : PySem.W.codeIn K cdPartAt "part_at" = true)
    (kPartAt : PySem.W.keepIn K (.ref fPartAt) = true)
    (aWhole : PySem.W.nsIn K mainGlobals "is_whole" = some (some (.ref fWhole)))
    (lWhole : K.lookup fWhole = some ⟨ocWhole, odWhole, .func (PySem.W.fnOf "is_whole" "is_whole" (defArgs sWhole) (defBody sWhole) (defScope sWhole) .none kVWhole dcWhole pmWhole anWhole cdWhole ctWhole), slWhole⟩)
    (cWhole : PySem.W.codeIn K cdWhole "is_whole" = true)
    (kWhole : PySem.W.keepIn K (.ref fWhole) = true)
    (aLevel : PySem.W.nsIn K mainGlobals "is_level" = some (some (.ref fLevel)))
    (lLevel : K.lookup fLevel = some ⟨ocLevel, odLevel, .func (PySem.W.fnOf "is_level" "is_level" (defArgs sLevel) (defBody sLevel) (defScope sLevel) .none kVLevel dcLevel pmLevel anLevel cdLevel ctLevel), slLevel⟩)
    (cLevel : PySem.W.codeIn K cdLevel "is_level" = true)
    (kLevel : PySem.W.keepIn K (.ref fLevel) = true)
    (aIsName : PySem.W.nsIn K mainGlobals "is_name" = some (some (.ref fIsName)))
    (lIsName : K.lookup fIsName = some ⟨ocIsName, odIsName, .func (PySem.W.fnOf "is_name" "is_name" (defArgs sIsName) (defBody sIsName) (defScope sIsName) .none kVIsName dcIsName pmIsName anIsName cdIsName ctIsName), slIsName⟩)
    (cIsName : PySem.W.codeIn K cdIsName "is_name" = true)
    (kIsName : PySem.W.keepIn K (.ref fIsName) = true)
    (aHint : PySem.W.nsIn K mainGlobals "is_hint" = some (some (.ref fHint)))
    (lHint : K.lookup fHint = some ⟨ocHint, odHint, .func (PySem.W.fnOf "is_hint" "is_hint" (defArgs sHint) (defBody sHint) (defScope sHint) .none kVHint dcHint pmHint anHint cdHint ctHint), slHint⟩)
    (cHint : PySem.W.codeIn K cdHint "is_hint" = true)
    (kHint : PySem.W.keepIn K (.ref fHint) = true)
    (aLeaf : PySem.W.nsIn K mainGlobals "is_leaf" = some (some (.ref fLeaf)))
    (lLeaf : K.lookup fLeaf = some ⟨ocLeaf, odLeaf, .func (PySem.W.fnOf "is_leaf" "is_leaf" (defArgs sLeaf) (defBody sLeaf) (defScope sLeaf) .none kVLeaf dcLeaf pmLeaf anLeaf cdLeaf ctLeaf), slLeaf⟩)
    (cLeaf : PySem.W.codeIn K cdLeaf "is_leaf" = true)
    (kLeaf : PySem.W.keepIn K (.ref fLeaf) = true)
    (aIsTerm : PySem.W.nsIn K mainGlobals "is_term" = some (some (.ref fIsTerm)))
    (lIsTerm : K.lookup fIsTerm = some ⟨ocIsTerm, odIsTerm, .func (PySem.W.fnOf "is_term" "is_term" (defArgs sIsTerm) (defBody sIsTerm) (defScope sIsTerm) .none kVIsTerm dcIsTerm pmIsTerm anIsTerm cdIsTerm ctIsTerm), slIsTerm⟩)
    (cIsTerm : PySem.W.codeIn K cdIsTerm "is_term" = true)
    (kIsTerm : PySem.W.keepIn K (.ref fIsTerm) = true)
    (aFree : PySem.W.nsIn K mainGlobals "free_vars" = some (some (.ref fFree)))
    (lFree : K.lookup fFree = some ⟨ocFree, odFree, .func (PySem.W.fnOf "free_vars" "free_vars" (defArgs sFree) (defBody sFree) (defScope sFree) .none kVFree dcFree pmFree anFree cdFree ctFree), slFree⟩)
    (cFree : PySem.W.codeIn K cdFree "free_vars" = true)
    (kFree : PySem.W.keepIn K (.ref fFree) = true)
    (aNames : PySem.W.nsIn K mainGlobals "names_in" = some (some (.ref fNames)))
    (lNames : K.lookup fNames = some ⟨ocNames, odNames, .func (PySem.W.fnOf "names_in" "names_in" (defArgs sNames) (defBody sNames) (defScope sNames) .none kVNames dcNames pmNames anNames cdNames ctNames), slNames⟩)
    (cNames : PySem.W.codeIn K cdNames "names_in" = true)
    (kNames : PySem.W.keepIn K (.ref fNames) = true)
    (aLCell : PySem.W.nsIn K mainGlobals "_law_cell" = some (some (.ref fLCell)))
    (lLCell : K.lookup fLCell = some ⟨ocLCell, odLCell, .func (PySem.W.fnOf "_law_cell" "_law_cell" (defArgs sLCell) (defBody sLCell) (defScope sLCell) .none kVLCell dcLCell pmLCell anLCell cdLCell ctLCell), slLCell⟩)
    (cLCell : PySem.W.codeIn K cdLCell "_law_cell" = true)
    (kLCell : PySem.W.keepIn K (.ref fLCell) = true)
    (aLDigits : PySem.W.nsIn K mainGlobals "_law_digits" = some (some (.ref fLDigits)))
    (lLDigits : K.lookup fLDigits = some ⟨ocLDigits, odLDigits, .func (PySem.W.fnOf "_law_digits" "_law_digits" (defArgs sLDigits) (defBody sLDigits) (defScope sLDigits) .none kVLDigits dcLDigits pmLDigits anLDigits cdLDigits ctLDigits), slLDigits⟩)
    (cLDigits : PySem.W.codeIn K cdLDigits "_law_digits" = true)
    (kLDigits : PySem.W.keepIn K (.ref fLDigits) = true)
    (aLDraw : PySem.W.nsIn K mainGlobals "_law_draw" = some (some (.ref fLDraw)))
    (lLDraw : K.lookup fLDraw = some ⟨ocLDraw, odLDraw, .func (PySem.W.fnOf "_law_draw" "_law_draw" (defArgs sLDraw) (defBody sLDraw) (defScope sLDraw) .none kVLDraw dcLDraw pmLDraw anLDraw cdLDraw ctLDraw), slLDraw⟩)
    (cLDraw : PySem.W.codeIn K cdLDraw "_law_draw" = true)
    (kLDraw : PySem.W.keepIn K (.ref fLDraw) = true)
    (aLPick : PySem.W.nsIn K mainGlobals "_law_pick" = some (some (.ref fLPick)))
    (lLPick : K.lookup fLPick = some ⟨ocLPick, odLPick, .func (PySem.W.fnOf "_law_pick" "_law_pick" (defArgs sLPick) (defBody sLPick) (defScope sLPick) .none kVLPick dcLPick pmLPick anLPick cdLPick ctLPick), slLPick⟩)
    (cLPick : PySem.W.codeIn K cdLPick "_law_pick" = true)
    (kLPick : PySem.W.keepIn K (.ref fLPick) = true)
    (aLLift : PySem.W.nsIn K mainGlobals "_law_lift" = some (some (.ref fLLift)))
    (lLLift : K.lookup fLLift = some ⟨ocLLift, odLLift, .func (PySem.W.fnOf "_law_lift" "_law_lift" (defArgs sLLift) (defBody sLLift) (defScope sLLift) .none kVLLift dcLLift pmLLift anLLift cdLLift ctLLift), slLLift⟩)
    (cLLift : PySem.W.codeIn K cdLLift "_law_lift" = true)
    (kLLift : PySem.W.keepIn K (.ref fLLift) = true)
    (aLPut : PySem.W.nsIn K mainGlobals "_law_put" = some (some (.ref fLPut)))
    (lLPut : K.lookup fLPut = some ⟨ocLPut, odLPut, .func (PySem.W.fnOf "_law_put" "_law_put" (defArgs sLPut) (defBody sLPut) (defScope sLPut) .none kVLPut dcLPut pmLPut anLPut cdLPut ctLPut), slLPut⟩)
    (cLPut : PySem.W.codeIn K cdLPut "_law_put" = true)
    (kLPut : PySem.W.keepIn K (.ref fLPut) = true)
    (aLBare : PySem.W.nsIn K mainGlobals "_law_bare" = some (some (.ref fLBare)))
    (lLBare : K.lookup fLBare = some ⟨ocLBare, odLBare, .func (PySem.W.fnOf "_law_bare" "_law_bare" (defArgs sLBare) (defBody sLBare) (defScope sLBare) .none kVLBare dcLBare pmLBare anLBare cdLBare ctLBare), slLBare⟩)
    (cLBare : PySem.W.codeIn K cdLBare "_law_bare" = true)
    (kLBare : PySem.W.keepIn K (.ref fLBare) = true)
    (aLParts : PySem.W.nsIn K mainGlobals "_law_parts" = some (some (.ref fLParts)))
    (lLParts : K.lookup fLParts = some ⟨ocLParts, odLParts, .func (PySem.W.fnOf "_law_parts" "_law_parts" (defArgs sLParts) (defBody sLParts) (defScope sLParts) .none kVLParts dcLParts pmLParts anLParts cdLParts ctLParts), slLParts⟩)
    (cLParts : PySem.W.codeIn K cdLParts "_law_parts" = true)
    (kLParts : PySem.W.keepIn K (.ref fLParts) = true)
    (aLSpine : PySem.W.nsIn K mainGlobals "_law_spine" = some (some (.ref fLSpine)))
    (lLSpine : K.lookup fLSpine = some ⟨ocLSpine, odLSpine, .func (PySem.W.fnOf "_law_spine" "_law_spine" (defArgs sLSpine) (defBody sLSpine) (defScope sLSpine) .none kVLSpine dcLSpine pmLSpine anLSpine cdLSpine ctLSpine), slLSpine⟩)
    (cLSpine : PySem.W.codeIn K cdLSpine "_law_spine" = true)
    (kLSpine : PySem.W.keepIn K (.ref fLSpine) = true)
    (aLAny : PySem.W.nsIn K mainGlobals "_law_any" = some (some (.ref fLAny)))
    (lLAny : K.lookup fLAny = some ⟨ocLAny, odLAny, .func (PySem.W.fnOf "_law_any" "_law_any" (defArgs sLAny) (defBody sLAny) (defScope sLAny) .none kVLAny dcLAny pmLAny anLAny cdLAny ctLAny), slLAny⟩)
    (cLAny : PySem.W.codeIn K cdLAny "_law_any" = true)
    (kLAny : PySem.W.keepIn K (.ref fLAny) = true)
    (aLSize : PySem.W.nsIn K mainGlobals "_law_size" = some (some (.ref fLSize)))
    (lLSize : K.lookup fLSize = some ⟨ocLSize, odLSize, .func (PySem.W.fnOf "_law_size" "_law_size" (defArgs sLSize) (defBody sLSize) (defScope sLSize) .none kVLSize dcLSize pmLSize anLSize cdLSize ctLSize), slLSize⟩)
    (cLSize : PySem.W.codeIn K cdLSize "_law_size" = true)
    (kLSize : PySem.W.keepIn K (.ref fLSize) = true)
    (aLNamed : PySem.W.nsIn K mainGlobals "_law_named" = some (some (.ref fLNamed)))
    (lLNamed : K.lookup fLNamed = some ⟨ocLNamed, odLNamed, .func (PySem.W.fnOf "_law_named" "_law_named" (defArgs sLNamed) (defBody sLNamed) (defScope sLNamed) .none kVLNamed dcLNamed pmLNamed anLNamed cdLNamed ctLNamed), slLNamed⟩)
    (cLNamed : PySem.W.codeIn K cdLNamed "_law_named" = true)
    (kLNamed : PySem.W.keepIn K (.ref fLNamed) = true)
    (aBare : PySem.W.nsIn K mainGlobals "bare" = some (some (.ref fBare)))
    (lBare : K.lookup fBare = some ⟨ocBare, odBare, .func (PySem.W.fnOf "bare" "bare" (defArgs sBare) (defBody sBare) (defScope sBare) (.ref TBare) kVBare dcBare pmBare anBare cdBare ctBare), slBare⟩)
    (cBare : PySem.W.codeIn K cdBare "bare" = true)
    (kBare : PySem.W.keepIn K (.ref fBare) = true)
    (tBare : K.lookup TBare = some ⟨oTBare, dTBare, .seq #[.int 0 tTBare] nTBare, sTBare⟩)
    (aLifted : PySem.W.nsIn K mainGlobals "lifted" = some (some (.ref fLifted)))
    (lLifted : K.lookup fLifted = some ⟨ocLifted, odLifted, .func (PySem.W.fnOf "lifted" "lifted" (defArgs sLifted) (defBody sLifted) (defScope sLifted) (.ref TLifted) kVLifted dcLifted pmLifted anLifted cdLifted ctLifted), slLifted⟩)
    (cLifted : PySem.W.codeIn K cdLifted "lifted" = true)
    (kLifted : PySem.W.keepIn K (.ref fLifted) = true)
    (tLifted : K.lookup TLifted = some ⟨oTLifted, dTLifted, .seq #[.int 0 tTLifted] nTLifted, sTLifted⟩)
    (aPutAt : PySem.W.nsIn K mainGlobals "put_at" = some (some (.ref fPutAt)))
    (lPutAt : K.lookup fPutAt = some ⟨ocPutAt, odPutAt, .func (PySem.W.fnOf "put_at" "put_at" (defArgs sPutAt) (defBody sPutAt) (defScope sPutAt) (.ref TPutAt) kVPutAt dcPutAt pmPutAt anPutAt cdPutAt ctPutAt), slPutAt⟩)
    (cPutAt : PySem.W.codeIn K cdPutAt "put_at" = true)
    (kPutAt : PySem.W.keepIn K (.ref fPutAt) = true)
    (tPutAt : K.lookup TPutAt = some ⟨oTPutAt, dTPutAt, .seq #[.int 0 tTPutAt] nTPutAt, sTPutAt⟩)
    (aLaw : PySem.W.nsIn K mainGlobals "law" = some (some (.ref fLaw)))
    (lLaw : K.lookup fLaw = some ⟨ocLaw, odLaw, .func (PySem.W.fnOf "law" "law" (defArgs sLaw) (defBody sLaw) (defScope sLaw) .none kVLaw dcLaw pmLaw anLaw cdLaw ctLaw), slLaw⟩)
    (cLaw : PySem.W.codeIn K cdLaw "law" = true)
    (kLaw : PySem.W.keepIn K (.ref fLaw) = true)
    (gaLEAVES : PySem.W.nsIn K mainGlobals "LEAVES" = some (some (.ref gLEAVES)))
    (glLEAVES : K.lookup gLEAVES = some ⟨.type "tuple", gdLEAVES, .seq #[.str "var" uLEAVES0, .str "sort" uLEAVES1, .str "const" uLEAVES2, .str "kind" uLEAVES3, .str "make" uLEAVES4, .str "elim" uLEAVES5, .str "meta" uLEAVES6] gnLEAVES, gsLEAVES⟩)
    (gaWORDS : PySem.W.nsIn K mainGlobals "WORDS" = some (some (.ref gWORDS)))
    (glWORDS : K.lookup gWORDS = some ⟨.type "tuple", gdWORDS, .seq #[.str "Type" uWORDS0, .str "fun" uWORDS1, .str "forall" uWORDS2, .str "let" uWORDS3, .str "in" uWORDS4, .str "elim" uWORDS5, .str "return" uWORDS6, .str "with" uWORDS7, .str "end" uWORDS8, .str "def" uWORDS9, .str "define" uWORDS10, .str "axiom" uWORDS11, .str "kind" uWORDS12, .str "record" uWORDS13, .str "theorem" uWORDS14, .str "by" uWORDS15, .str "rec" uWORDS16, .str "match" uWORDS17] gnWORDS, gsWORDS⟩)
    (gaLETTERS : PySem.W.nsIn K mainGlobals "LETTERS" = some (some (.str "abcdefghijklmnopqrstuvwxyzABCDEFGHIJKLMNOPQRSTUVWXYZ" vLETTERS)))
    (gaMORE : PySem.W.nsIn K mainGlobals "MORE" = some (some (.str "abcdefghijklmnopqrstuvwxyzABCDEFGHIJKLMNOPQRSTUVWXYZ0123456789_" vMORE)))
    (gaFAR_MOST : PySem.W.nsIn K mainGlobals "FAR_MOST" = some (some (.int 400 vFAR_MOST)))
    (gaLEVEL_MOST : PySem.W.nsIn K mainGlobals "LEVEL_MOST" = some (some (.int 999999 vLEVEL_MOST)))
    (gaPARTS_MOST : PySem.W.nsIn K mainGlobals "PARTS_MOST" = some (some (.int 20000 vPARTS_MOST)))
    (gaDEEP_MOST : PySem.W.nsIn K mainGlobals "DEEP_MOST" = some (some (.int 220 vDEEP_MOST)))
    (zisi : PySem.W.nsIn K mainGlobals "isinstance" = some none)
    (zint : PySem.W.nsIn K mainGlobals "int" = some none)
    (zbool : PySem.W.nsIn K mainGlobals "bool" = some none)
    (zstr : PySem.W.nsIn K mainGlobals "str" = some none)
    (ztup : PySem.W.nsIn K mainGlobals "tuple" = some none)
    (zlst : PySem.W.nsIn K mainGlobals "list" = some none)
    (zlen : PySem.W.nsIn K mainGlobals "len" = some none)
    (zany : PySem.W.nsIn K mainGlobals "any" = some none)
    (zall : PySem.W.nsIn K mainGlobals "all" = some none)
    (zsum : PySem.W.nsIn K mainGlobals "sum" = some none)
    (zrange : PySem.W.nsIn K mainGlobals "range" = some none)
    (zenum : PySem.W.nsIn K mainGlobals "enumerate" = some none)
    (zsorted : PySem.W.nsIn K mainGlobals "sorted" = some none)
    (zdict : PySem.W.nsIn K mainGlobals "dict" = some none) :
    Facts K mg where
  G := {
    leaves := fun Y e1 e2 => by subst e1 e2; exact glb_of (PySem.W.mg_of X G gaLEAVES) (v := .ref gLEAVES) rfl (strs_rp ["var", "sort", "const", "kind", "make", "elim", "meta"] glLEAVES (by show 7 ≤ sizeLine; decide) (.cons ⟨_, rfl⟩ (.cons ⟨_, rfl⟩ (.cons ⟨_, rfl⟩ (.cons ⟨_, rfl⟩ (.cons ⟨_, rfl⟩ (.cons ⟨_, rfl⟩ (.cons ⟨_, rfl⟩ .nil))))))))
    far := fun Y e1 e2 => by subst e1 e2; exact glb_of (PySem.W.mg_of X G gaFAR_MOST) (v := .int 400) ⟨_, rfl⟩ fun H => .int _
    isi := PySem.W.mg_none_of X G zisi
    int := PySem.W.mg_none_of X G zint
    bool := PySem.W.mg_none_of X G zbool
    str := PySem.W.mg_none_of X G zstr
    tup := PySem.W.mg_none_of X G ztup
    lst := PySem.W.mg_none_of X G zlst
    len := PySem.W.mg_none_of X G zlen
    any := PySem.W.mg_none_of X G zany
    all := PySem.W.mg_none_of X G zall
    sum := PySem.W.mg_none_of X G zsum
    range := PySem.W.mg_none_of X G zrange
    enum := PySem.W.mg_none_of X G zenum
    sorted := PySem.W.mg_none_of X G zsorted
    dict := PySem.W.mg_none_of X G zdict }
  G2 := {
    letters := fun Y e1 e2 => by subst e1 e2; exact glb_of (PySem.W.mg_of X G gaLETTERS) (v := .str _) ⟨_, rfl⟩ fun H => .str _
    more := fun Y e1 e2 => by subst e1 e2; exact glb_of (PySem.W.mg_of X G gaMORE) (v := .str _) ⟨_, rfl⟩ fun H => .str _
    words := fun Y e1 e2 => by subst e1 e2; exact glb_of (PySem.W.mg_of X G gaWORDS) (v := .ref gWORDS) rfl (strs_rp ["Type", "fun", "forall", "let", "in", "elim", "return", "with", "end", "def", "define", "axiom", "kind", "record", "theorem", "by", "rec", "match"] glWORDS (by show 18 ≤ sizeLine; decide) (.cons ⟨_, rfl⟩ (.cons ⟨_, rfl⟩ (.cons ⟨_, rfl⟩ (.cons ⟨_, rfl⟩ (.cons ⟨_, rfl⟩ (.cons ⟨_, rfl⟩ (.cons ⟨_, rfl⟩ (.cons ⟨_, rfl⟩ (.cons ⟨_, rfl⟩ (.cons ⟨_, rfl⟩ (.cons ⟨_, rfl⟩ (.cons ⟨_, rfl⟩ (.cons ⟨_, rfl⟩ (.cons ⟨_, rfl⟩ (.cons ⟨_, rfl⟩ (.cons ⟨_, rfl⟩ (.cons ⟨_, rfl⟩ (.cons ⟨_, rfl⟩ .nil)))))))))))))))))))
    level := fun Y e1 e2 => by subst e1 e2; exact glb_of (PySem.W.mg_of X G gaLEVEL_MOST) (v := .int 999999) ⟨_, rfl⟩ fun H => .int _
    parts := fun Y e1 e2 => by subst e1 e2; exact glb_of (PySem.W.mg_of X G gaPARTS_MOST) (v := .int 20000) ⟨_, rfl⟩ fun H => .int _
    deep := fun Y e1 e2 => by subst e1 e2; exact glb_of (PySem.W.mg_of X G gaDEEP_MOST) (v := .int 220) ⟨_, rfl⟩ fun H => .int _ }
  dHeld := ⟨⟨fHeld, _, fun_mk (st := sHeld) lHeld cHeld kHeld, PySem.W.mg_of X G aHeld, (fun_mk (st := sHeld) lHeld cHeld kHeld).binds (ps := ["deep"]) fun _ _ _ _ _ _ us hl => match us, hl with | [_], _ => rfl⟩⟩
  dParts := ⟨⟨fParts, _, fun_mk (st := sParts) lParts cParts kParts, PySem.W.mg_of X G aParts, (fun_mk (st := sParts) lParts cParts kParts).binds (ps := ["term"]) fun _ _ _ _ _ _ us hl => match us, hl with | [_], _ => rfl⟩⟩
  dRebuilt := ⟨⟨fRebuilt, _, fun_mk (st := sRebuilt) lRebuilt cRebuilt kRebuilt, PySem.W.mg_of X G aRebuilt, (fun_mk (st := sRebuilt) lRebuilt cRebuilt kRebuilt).binds (ps := ["term", "parts"]) fun _ _ _ _ _ _ us hl => match us, hl with | [_, _], _ => rfl⟩⟩
  dSame := ⟨⟨fSame, _, fun_mk (st := sSame) lSame cSame kSame, PySem.W.mg_of X G aSame, (fun_mk (st := sSame) lSame cSame kSame).binds (ps := ["one", "other"]) fun _ _ _ _ _ _ us hl => match us, hl with | [_, _], _ => rfl⟩⟩
  dPut := ⟨⟨fPut, _, fun_mk (st := sPut) lPut cPut kPut, PySem.W.mg_of X G aPut, (fun_mk (st := sPut) lPut cPut kPut).binds (ps := ["term", "value"]) fun _ _ _ _ _ _ us hl => match us, hl with | [_, _], _ => rfl⟩⟩
  dPutAll := ⟨⟨fPutAll, _, fun_mk (st := sPutAll) lPutAll cPutAll kPutAll, PySem.W.mg_of X G aPutAll, (fun_mk (st := sPutAll) lPutAll cPutAll kPutAll).binds (ps := ["term", "values"]) fun _ _ _ _ _ _ us hl => match us, hl with | [_, _], _ => rfl⟩⟩
  dHas := ⟨⟨fHas, _, fun_mk (st := sHas) lHas cHas kHas, PySem.W.mg_of X G aHas, (fun_mk (st := sHas) lHas cHas kHas).binds (ps := ["term", "under"]) fun _ _ _ _ _ _ us hl => match us, hl with | [_, _], _ => rfl⟩⟩
  dAbs := ⟨⟨fAbs, _, fun_mk (st := sAbs) lAbs cAbs kAbs, PySem.W.mg_of X G aAbs, (fun_mk (st := sAbs) lAbs cAbs kAbs).binds (ps := ["term", "at", "under"]) fun _ _ _ _ _ _ us hl => match us, hl with | [_, _, _], _ => rfl⟩⟩
  dApplied := ⟨⟨fApplied, _, fun_mk (st := sApplied) lApplied cApplied kApplied, PySem.W.mg_of X G aApplied, (fun_mk (st := sApplied) lApplied cApplied kApplied).binds (ps := ["head", "args"]) fun _ _ _ _ _ _ us hl => match us, hl with | [_, _], _ => rfl⟩⟩
  dSpine := ⟨⟨fSpine, _, fun_mk (st := sSpine) lSpine cSpine kSpine, PySem.W.mg_of X G aSpine, (fun_mk (st := sSpine) lSpine cSpine kSpine).binds (ps := ["term"]) fun _ _ _ _ _ _ us hl => match us, hl with | [_], _ => rfl⟩⟩
  dSizeOf := ⟨⟨fSizeOf, _, fun_mk (st := sSizeOf) lSizeOf cSizeOf kSizeOf, PySem.W.mg_of X G aSizeOf, (fun_mk (st := sSizeOf) lSizeOf cSizeOf kSizeOf).binds (ps := ["term"]) fun _ _ _ _ _ _ us hl => match us, hl with | [_], _ => rfl⟩⟩
  dPartAt := ⟨⟨fPartAt, _, fun_mk (st := sPartAt) lPartAt cPartAt kPartAt, PySem.W.mg_of X G aPartAt, (fun_mk (st := sPartAt) lPartAt cPartAt kPartAt).binds (ps := ["term", "path"]) fun _ _ _ _ _ _ us hl => match us, hl with | [_, _], _ => rfl⟩⟩
  dWhole := ⟨⟨fWhole, _, fun_mk (st := sWhole) lWhole cWhole kWhole, PySem.W.mg_of X G aWhole, (fun_mk (st := sWhole) lWhole cWhole kWhole).binds (ps := ["shape"]) fun _ _ _ _ _ _ us hl => match us, hl with | [_], _ => rfl⟩⟩
  dLevel := ⟨⟨fLevel, _, fun_mk (st := sLevel) lLevel cLevel kLevel, PySem.W.mg_of X G aLevel, (fun_mk (st := sLevel) lLevel cLevel kLevel).binds (ps := ["shape"]) fun _ _ _ _ _ _ us hl => match us, hl with | [_], _ => rfl⟩⟩
  dIsName := ⟨⟨fIsName, _, fun_mk (st := sIsName) lIsName cIsName kIsName, PySem.W.mg_of X G aIsName, (fun_mk (st := sIsName) lIsName cIsName kIsName).binds (ps := ["shape"]) fun _ _ _ _ _ _ us hl => match us, hl with | [_], _ => rfl⟩⟩
  dHint := ⟨⟨fHint, _, fun_mk (st := sHint) lHint cHint kHint, PySem.W.mg_of X G aHint, (fun_mk (st := sHint) lHint cHint kHint).binds (ps := ["shape"]) fun _ _ _ _ _ _ us hl => match us, hl with | [_], _ => rfl⟩⟩
  dLeaf := ⟨⟨fLeaf, _, fun_mk (st := sLeaf) lLeaf cLeaf kLeaf, PySem.W.mg_of X G aLeaf, (fun_mk (st := sLeaf) lLeaf cLeaf kLeaf).binds (ps := ["shape"]) fun _ _ _ _ _ _ us hl => match us, hl with | [_], _ => rfl⟩⟩
  dIsTerm := ⟨⟨fIsTerm, _, fun_mk (st := sIsTerm) lIsTerm cIsTerm kIsTerm, PySem.W.mg_of X G aIsTerm, (fun_mk (st := sIsTerm) lIsTerm cIsTerm kIsTerm).binds (ps := ["shape", "free"]) fun _ _ _ _ _ _ us hl => match us, hl with | [_, _], _ => rfl⟩⟩
  dFree := ⟨⟨fFree, _, fun_mk (st := sFree) lFree cFree kFree, PySem.W.mg_of X G aFree, (fun_mk (st := sFree) lFree cFree kFree).binds (ps := ["term"]) fun _ _ _ _ _ _ us hl => match us, hl with | [_], _ => rfl⟩⟩
  dNames := ⟨⟨fNames, _, fun_mk (st := sNames) lNames cNames kNames, PySem.W.mg_of X G aNames, (fun_mk (st := sNames) lNames cNames kNames).binds (ps := ["term"]) fun _ _ _ _ _ _ us hl => match us, hl with | [_], _ => rfl⟩⟩
  dLCell := ⟨⟨fLCell, _, fun_mk (st := sLCell) lLCell cLCell kLCell, PySem.W.mg_of X G aLCell, (fun_mk (st := sLCell) lLCell cLCell kLCell).binds (ps := ["script", "k"]) fun _ _ _ _ _ _ us hl => match us, hl with | [_, _], _ => rfl⟩⟩
  dLDigits := ⟨⟨fLDigits, _, fun_mk (st := sLDigits) lLDigits cLDigits kLDigits, PySem.W.mg_of X G aLDigits, (fun_mk (st := sLDigits) lLDigits cLDigits kLDigits).binds (ps := ["script", "first", "last"]) fun _ _ _ _ _ _ us hl => match us, hl with | [_, _, _], _ => rfl⟩⟩
  dLDraw := ⟨⟨fLDraw, _, fun_mk (st := sLDraw) lLDraw cLDraw kLDraw, PySem.W.mg_of X G aLDraw, (fun_mk (st := sLDraw) lLDraw cLDraw kLDraw).binds (ps := ["box", "m"]) fun _ _ _ _ _ _ us hl => match us, hl with | [_, _], _ => rfl⟩⟩
  dLPick := ⟨⟨fLPick, _, fun_mk (st := sLPick) lLPick cLPick kLPick, PySem.W.mg_of X G aLPick, (fun_mk (st := sLPick) lLPick cLPick kLPick).binds (ps := ["box", "rows"]) fun _ _ _ _ _ _ us hl => match us, hl with | [_, _], _ => rfl⟩⟩
  dLLift := ⟨⟨fLLift, _, fun_mk (st := sLLift) lLLift cLLift kLLift, PySem.W.mg_of X G aLLift, (fun_mk (st := sLLift) lLLift cLLift kLLift).binds (ps := ["term", "many", "under"]) fun _ _ _ _ _ _ us hl => match us, hl with | [_, _, _], _ => rfl⟩⟩
  dLPut := ⟨⟨fLPut, _, fun_mk (st := sLPut) lLPut cLPut kLPut, PySem.W.mg_of X G aLPut, (fun_mk (st := sLPut) lLPut cLPut kLPut).binds (ps := ["term", "value", "under"]) fun _ _ _ _ _ _ us hl => match us, hl with | [_, _, _], _ => rfl⟩⟩
  dLBare := ⟨⟨fLBare, _, fun_mk (st := sLBare) lLBare cLBare kLBare, PySem.W.mg_of X G aLBare, (fun_mk (st := sLBare) lLBare cLBare kLBare).binds (ps := ["term"]) fun _ _ _ _ _ _ us hl => match us, hl with | [_], _ => rfl⟩⟩
  dLParts := ⟨⟨fLParts, _, fun_mk (st := sLParts) lLParts cLParts kLParts, PySem.W.mg_of X G aLParts, (fun_mk (st := sLParts) lLParts cLParts kLParts).binds (ps := ["term"]) fun _ _ _ _ _ _ us hl => match us, hl with | [_], _ => rfl⟩⟩
  dLSpine := ⟨⟨fLSpine, _, fun_mk (st := sLSpine) lLSpine cLSpine kLSpine, PySem.W.mg_of X G aLSpine, (fun_mk (st := sLSpine) lLSpine cLSpine kLSpine).binds (ps := ["term"]) fun _ _ _ _ _ _ us hl => match us, hl with | [_], _ => rfl⟩⟩
  dLAny := ⟨⟨fLAny, _, fun_mk (st := sLAny) lLAny cLAny kLAny, PySem.W.mg_of X G aLAny, (fun_mk (st := sLAny) lLAny cLAny kLAny).binds (ps := ["box", "free", "depth"]) fun _ _ _ _ _ _ us hl => match us, hl with | [_, _, _], _ => rfl⟩⟩
  dLSize := ⟨⟨fLSize, _, fun_mk (st := sLSize) lLSize cLSize kLSize, PySem.W.mg_of X G aLSize, (fun_mk (st := sLSize) lLSize cLSize kLSize).binds (ps := ["term"]) fun _ _ _ _ _ _ us hl => match us, hl with | [_], _ => rfl⟩⟩
  dLNamed := ⟨⟨fLNamed, _, fun_mk (st := sLNamed) lLNamed cLNamed kLNamed, PySem.W.mg_of X G aLNamed, (fun_mk (st := sLNamed) lLNamed cLNamed kLNamed).binds (ps := ["term"]) fun _ _ _ _ _ _ us hl => match us, hl with | [_], _ => rfl⟩⟩
  dBare := (dfd_mk (ps := ["term", "deep"]) (n := 2) (by decide) (by rfl) (by rfl) (fun T kV doc pm an cdv ct us its hl hi => match us, hl, its, hi with | [_, _], _, [_], _ => ⟨_, rfl, rfl⟩) (fun T kV doc pm an cdv ct us its hl hi => match us, hl, its, hi with | [_], _, [_], _ => ⟨_, rfl, rfl⟩) lBare cBare kBare tBare (PySem.W.mg_of X G aBare))
  dLifted := (dfd_mk (ps := ["term", "many", "under", "deep"]) (n := 4) (by decide) (by rfl) (by rfl) (fun T kV doc pm an cdv ct us its hl hi => match us, hl, its, hi with | [_, _, _, _], _, [_], _ => ⟨_, rfl, rfl⟩) (fun T kV doc pm an cdv ct us its hl hi => match us, hl, its, hi with | [_, _, _], _, [_], _ => ⟨_, rfl, rfl⟩) lLifted cLifted kLifted tLifted (PySem.W.mg_of X G aLifted))
  dPutAt := (dfd_mk (ps := ["term", "value", "under", "deep"]) (n := 4) (by decide) (by rfl) (by rfl) (fun T kV doc pm an cdv ct us its hl hi => match us, hl, its, hi with | [_, _, _, _], _, [_], _ => ⟨_, rfl, rfl⟩) (fun T kV doc pm an cdv ct us its hl hi => match us, hl, its, hi with | [_, _, _], _, [_], _ => ⟨_, rfl, rfl⟩) lPutAt cPutAt kPutAt tPutAt (PySem.W.mg_of X G aPutAt))
theorem all_fn {l : PySem.W.OpenLaw} {w : World} {K : PySem.W.Frag} {h : Heap} {mg : Str → Option Value} {fa : Addr} (X : K.In h) (G : h.Ns mainGlobals mg) (hfa : mg "law" = some (.ref fa))
    {fHeld : Addr} {odHeld anHeld : Option Addr} {slHeld : Array (Option Value)} {ocHeld kVHeld dcHeld pmHeld cdHeld ctHeld : Value}
    {fParts : Addr} {odParts anParts : Option Addr} {slParts : Array (Option Value)} {ocParts kVParts dcParts pmParts cdParts ctParts : Value}
    {fRebuilt : Addr} {odRebuilt anRebuilt : Option Addr} {slRebuilt : Array (Option Value)} {ocRebuilt kVRebuilt dcRebuilt pmRebuilt cdRebuilt ctRebuilt : Value}
    {fSame : Addr} {odSame anSame : Option Addr} {slSame : Array (Option Value)} {ocSame kVSame dcSame pmSame cdSame ctSame : Value}
    {fPut : Addr} {odPut anPut : Option Addr} {slPut : Array (Option Value)} {ocPut kVPut dcPut pmPut cdPut ctPut : Value}
    {fPutAll : Addr} {odPutAll anPutAll : Option Addr} {slPutAll : Array (Option Value)} {ocPutAll kVPutAll dcPutAll pmPutAll cdPutAll ctPutAll : Value}
    {fHas : Addr} {odHas anHas : Option Addr} {slHas : Array (Option Value)} {ocHas kVHas dcHas pmHas cdHas ctHas : Value}
    {fAbs : Addr} {odAbs anAbs : Option Addr} {slAbs : Array (Option Value)} {ocAbs kVAbs dcAbs pmAbs cdAbs ctAbs : Value}
    {fApplied : Addr} {odApplied anApplied : Option Addr} {slApplied : Array (Option Value)} {ocApplied kVApplied dcApplied pmApplied cdApplied ctApplied : Value}
    {fSpine : Addr} {odSpine anSpine : Option Addr} {slSpine : Array (Option Value)} {ocSpine kVSpine dcSpine pmSpine cdSpine ctSpine : Value}
    {fSizeOf : Addr} {odSizeOf anSizeOf : Option Addr} {slSizeOf : Array (Option Value)} {ocSizeOf kVSizeOf dcSizeOf pmSizeOf cdSizeOf ctSizeOf : Value}
    {fPartAt : Addr} {odPartAt anPartAt : Option Addr} {slPartAt : Array (Option Value)} {ocPartAt kVPartAt dcPartAt pmPartAt cdPartAt ctPartAt : Value}
    {fWhole : Addr} {odWhole anWhole : Option Addr} {slWhole : Array (Option Value)} {ocWhole kVWhole dcWhole pmWhole cdWhole ctWhole : Value}
    {fLevel : Addr} {odLevel anLevel : Option Addr} {slLevel : Array (Option Value)} {ocLevel kVLevel dcLevel pmLevel cdLevel ctLevel : Value}
    {fIsName : Addr} {odIsName anIsName : Option Addr} {slIsName : Array (Option Value)} {ocIsName kVIsName dcIsName pmIsName cdIsName ctIsName : Value}
    {fHint : Addr} {odHint anHint : Option Addr} {slHint : Array (Option Value)} {ocHint kVHint dcHint pmHint cdHint ctHint : Value}
    {fLeaf : Addr} {odLeaf anLeaf : Option Addr} {slLeaf : Array (Option Value)} {ocLeaf kVLeaf dcLeaf pmLeaf cdLeaf ctLeaf : Value}
    {fIsTerm : Addr} {odIsTerm anIsTerm : Option Addr} {slIsTerm : Array (Option Value)} {ocIsTerm kVIsTerm dcIsTerm pmIsTerm cdIsTerm ctIsTerm : Value}
    {fFree : Addr} {odFree anFree : Option Addr} {slFree : Array (Option Value)} {ocFree kVFree dcFree pmFree cdFree ctFree : Value}
    {fNames : Addr} {odNames anNames : Option Addr} {slNames : Array (Option Value)} {ocNames kVNames dcNames pmNames cdNames ctNames : Value}
    {fLCell : Addr} {odLCell anLCell : Option Addr} {slLCell : Array (Option Value)} {ocLCell kVLCell dcLCell pmLCell cdLCell ctLCell : Value}
    {fLDigits : Addr} {odLDigits anLDigits : Option Addr} {slLDigits : Array (Option Value)} {ocLDigits kVLDigits dcLDigits pmLDigits cdLDigits ctLDigits : Value}
    {fLDraw : Addr} {odLDraw anLDraw : Option Addr} {slLDraw : Array (Option Value)} {ocLDraw kVLDraw dcLDraw pmLDraw cdLDraw ctLDraw : Value}
    {fLPick : Addr} {odLPick anLPick : Option Addr} {slLPick : Array (Option Value)} {ocLPick kVLPick dcLPick pmLPick cdLPick ctLPick : Value}
    {fLLift : Addr} {odLLift anLLift : Option Addr} {slLLift : Array (Option Value)} {ocLLift kVLLift dcLLift pmLLift cdLLift ctLLift : Value}
    {fLPut : Addr} {odLPut anLPut : Option Addr} {slLPut : Array (Option Value)} {ocLPut kVLPut dcLPut pmLPut cdLPut ctLPut : Value}
    {fLBare : Addr} {odLBare anLBare : Option Addr} {slLBare : Array (Option Value)} {ocLBare kVLBare dcLBare pmLBare cdLBare ctLBare : Value}
    {fLParts : Addr} {odLParts anLParts : Option Addr} {slLParts : Array (Option Value)} {ocLParts kVLParts dcLParts pmLParts cdLParts ctLParts : Value}
    {fLSpine : Addr} {odLSpine anLSpine : Option Addr} {slLSpine : Array (Option Value)} {ocLSpine kVLSpine dcLSpine pmLSpine cdLSpine ctLSpine : Value}
    {fLAny : Addr} {odLAny anLAny : Option Addr} {slLAny : Array (Option Value)} {ocLAny kVLAny dcLAny pmLAny cdLAny ctLAny : Value}
    {fLSize : Addr} {odLSize anLSize : Option Addr} {slLSize : Array (Option Value)} {ocLSize kVLSize dcLSize pmLSize cdLSize ctLSize : Value}
    {fLNamed : Addr} {odLNamed anLNamed : Option Addr} {slLNamed : Array (Option Value)} {ocLNamed kVLNamed dcLNamed pmLNamed cdLNamed ctLNamed : Value}
    {fBare : Addr} {odBare anBare : Option Addr} {slBare : Array (Option Value)} {ocBare kVBare dcBare pmBare cdBare ctBare : Value}
    {TBare : Addr} {oTBare : Value} {dTBare : Option Addr} {sTBare : Array (Option Value)} {nTBare : Nat} {tTBare : Tok}
    {fLifted : Addr} {odLifted anLifted : Option Addr} {slLifted : Array (Option Value)} {ocLifted kVLifted dcLifted pmLifted cdLifted ctLifted : Value}
    {TLifted : Addr} {oTLifted : Value} {dTLifted : Option Addr} {sTLifted : Array (Option Value)} {nTLifted : Nat} {tTLifted : Tok}
    {fPutAt : Addr} {odPutAt anPutAt : Option Addr} {slPutAt : Array (Option Value)} {ocPutAt kVPutAt dcPutAt pmPutAt cdPutAt ctPutAt : Value}
    {TPutAt : Addr} {oTPutAt : Value} {dTPutAt : Option Addr} {sTPutAt : Array (Option Value)} {nTPutAt : Nat} {tTPutAt : Tok}
    {fLaw : Addr} {odLaw anLaw : Option Addr} {slLaw : Array (Option Value)} {ocLaw kVLaw dcLaw pmLaw cdLaw ctLaw : Value}
    {gLEAVES : Addr} {gdLEAVES : Option Addr} {gsLEAVES : Array (Option Value)} {gnLEAVES : Nat} {uLEAVES0 uLEAVES1 uLEAVES2 uLEAVES3 uLEAVES4 uLEAVES5 uLEAVES6 : Tok}
    {gWORDS : Addr} {gdWORDS : Option Addr} {gsWORDS : Array (Option Value)} {gnWORDS : Nat} {uWORDS0 uWORDS1 uWORDS2 uWORDS3 uWORDS4 uWORDS5 uWORDS6 uWORDS7 uWORDS8 uWORDS9 uWORDS10 uWORDS11 uWORDS12 uWORDS13 uWORDS14 uWORDS15 uWORDS16 uWORDS17 : Tok}
    {vLETTERS : Tok}
    {vMORE : Tok}
    {vFAR_MOST : Tok}
    {vLEVEL_MOST : Tok}
    {vPARTS_MOST : Tok}
    {vDEEP_MOST : Tok}
    (aHeld : PySem.W.nsIn K mainGlobals "held" = some (some (.ref fHeld)))
    (lHeld : K.lookup fHeld = some ⟨ocHeld, odHeld, .func (PySem.W.fnOf "held" "held" (defArgs sHeld) (defBody sHeld) (defScope sHeld) .none kVHeld dcHeld pmHeld anHeld cdHeld ctHeld), slHeld⟩)
    (cHeld : PySem.W.codeIn K cdHeld "held" = true)
    (kHeld : PySem.W.keepIn K (.ref fHeld) = true)
    (aParts : PySem.W.nsIn K mainGlobals "parts_of" = some (some (.ref fParts)))
    (lParts : K.lookup fParts = some ⟨ocParts, odParts, .func (PySem.W.fnOf "parts_of" "parts_of" (defArgs sParts) (defBody sParts) (defScope sParts) .none kVParts dcParts pmParts anParts cdParts ctParts), slParts⟩)
    (cParts : PySem.W.codeIn K cdParts "parts_of" = true)
    (kParts : PySem.W.keepIn K (.ref fParts) = true)
    (aRebuilt : PySem.W.nsIn K mainGlobals "rebuilt" = some (some (.ref fRebuilt)))
    (lRebuilt : K.lookup fRebuilt = some ⟨ocRebuilt, odRebuilt, .func (PySem.W.fnOf "rebuilt" "rebuilt" (defArgs sRebuilt) (defBody sRebuilt) (defScope sRebuilt) .none kVRebuilt dcRebuilt pmRebuilt anRebuilt cdRebuilt ctRebuilt), slRebuilt⟩)
    (cRebuilt : PySem.W.codeIn K cdRebuilt "rebuilt" = true)
    (kRebuilt : PySem.W.keepIn K (.ref fRebuilt) = true)
    (aSame : PySem.W.nsIn K mainGlobals "is_same" = some (some (.ref fSame)))
    (lSame : K.lookup fSame = some ⟨ocSame, odSame, .func (PySem.W.fnOf "is_same" "is_same" (defArgs sSame) (defBody sSame) (defScope sSame) .none kVSame dcSame pmSame anSame cdSame ctSame), slSame⟩)
    (cSame : PySem.W.codeIn K cdSame "is_same" = true)
    (kSame : PySem.W.keepIn K (.ref fSame) = true)
    (aPut : PySem.W.nsIn K mainGlobals "put" = some (some (.ref fPut)))
    (lPut : K.lookup fPut = some ⟨ocPut, odPut, .func (PySem.W.fnOf "put" "put" (defArgs sPut) (defBody sPut) (defScope sPut) .none kVPut dcPut pmPut anPut cdPut ctPut), slPut⟩)
    (cPut : PySem.W.codeIn K cdPut "put" = true)
    (kPut : PySem.W.keepIn K (.ref fPut) = true)
    (aPutAll : PySem.W.nsIn K mainGlobals "put_all" = some (some (.ref fPutAll)))
    (lPutAll : K.lookup fPutAll = some ⟨ocPutAll, odPutAll, .func (PySem.W.fnOf "put_all" "put_all" (defArgs sPutAll) (defBody sPutAll) (defScope sPutAll) .none kVPutAll dcPutAll pmPutAll anPutAll cdPutAll ctPutAll), slPutAll⟩)
    (cPutAll : PySem.W.codeIn K cdPutAll "put_all" = true)
    (kPutAll : PySem.W.keepIn K (.ref fPutAll) = true)
    (aHas : PySem.W.nsIn K mainGlobals "has_var" = some (some (.ref fHas)))
    (lHas : K.lookup fHas = some ⟨ocHas, odHas, .func (PySem.W.fnOf "has_var" "has_var" (defArgs sHas) (defBody sHas) (defScope sHas) .none kVHas dcHas pmHas anHas cdHas ctHas), slHas⟩)
    (cHas : PySem.W.codeIn K cdHas "has_var" = true)
    (kHas : PySem.W.keepIn K (.ref fHas) = true)
    (aAbs : PySem.W.nsIn K mainGlobals "abstracted" = some (some (.ref fAbs)))
    (lAbs : K.lookup fAbs = some ⟨ocAbs, odAbs, .func (PySem.W.fnOf "abstracted" "abstracted" (defArgs sAbs) (defBody sAbs) (defScope sAbs) .none kVAbs dcAbs pmAbs anAbs cdAbs ctAbs), slAbs⟩)
    (cAbs : PySem.W.codeIn K cdAbs "abstracted" = true)
    (kAbs : PySem.W.keepIn K (.ref fAbs) = true)
    (aApplied : PySem.W.nsIn K mainGlobals "applied" = some (some (.ref fApplied)))
    (lApplied : K.lookup fApplied = some ⟨ocApplied, odApplied, .func (PySem.W.fnOf "applied" "applied" (defArgs sApplied) (defBody sApplied) (defScope sApplied) .none kVApplied dcApplied pmApplied anApplied cdApplied ctApplied), slApplied⟩)
    (cApplied : PySem.W.codeIn K cdApplied "applied" = true)
    (kApplied : PySem.W.keepIn K (.ref fApplied) = true)
    (aSpine : PySem.W.nsIn K mainGlobals "spine" = some (some (.ref fSpine)))
    (lSpine : K.lookup fSpine = some ⟨ocSpine, odSpine, .func (PySem.W.fnOf "spine" "spine" (defArgs sSpine) (defBody sSpine) (defScope sSpine) .none kVSpine dcSpine pmSpine anSpine cdSpine ctSpine), slSpine⟩)
    (cSpine : PySem.W.codeIn K cdSpine "spine" = true)
    (kSpine : PySem.W.keepIn K (.ref fSpine) = true)
    (aSizeOf : PySem.W.nsIn K mainGlobals "size_of" = some (some (.ref fSizeOf)))
    (lSizeOf : K.lookup fSizeOf = some ⟨ocSizeOf, odSizeOf, .func (PySem.W.fnOf "size_of" "size_of" (defArgs sSizeOf) (defBody sSizeOf) (defScope sSizeOf) .none kVSizeOf dcSizeOf pmSizeOf anSizeOf cdSizeOf ctSizeOf), slSizeOf⟩)
    (cSizeOf : PySem.W.codeIn K cdSizeOf "size_of" = true)
    (kSizeOf : PySem.W.keepIn K (.ref fSizeOf) = true)
    (aPartAt : PySem.W.nsIn K mainGlobals "part_at" = some (some (.ref fPartAt)))
    (lPartAt : K.lookup fPartAt = some ⟨ocPartAt, odPartAt, .func (PySem.W.fnOf "part_at" "part_at" (defArgs sPartAt) (defBody sPartAt) (defScope sPartAt) .none kVPartAt dcPartAt pmPartAt anPartAt cdPartAt ctPartAt), slPartAt⟩)
    (cPartAt : PySem.W.codeIn K cdPartAt "part_at" = true)
    (kPartAt : PySem.W.keepIn K (.ref fPartAt) = true)
    (aWhole : PySem.W.nsIn K mainGlobals "is_whole" = some (some (.ref fWhole)))
    (lWhole : K.lookup fWhole = some ⟨ocWhole, odWhole, .func (PySem.W.fnOf "is_whole" "is_whole" (defArgs sWhole) (defBody sWhole) (defScope sWhole) .none kVWhole dcWhole pmWhole anWhole cdWhole ctWhole), slWhole⟩)
    (cWhole : PySem.W.codeIn K cdWhole "is_whole" = true)
    (kWhole : PySem.W.keepIn K (.ref fWhole) = true)
    (aLevel : PySem.W.nsIn K mainGlobals "is_level" = some (some (.ref fLevel)))
    (lLevel : K.lookup fLevel = some ⟨ocLevel, odLevel, .func (PySem.W.fnOf "is_level" "is_level" (defArgs sLevel) (defBody sLevel) (defScope sLevel) .none kVLevel dcLevel pmLevel anLevel cdLevel ctLevel), slLevel⟩)
    (cLevel : PySem.W.codeIn K cdLevel "is_level" = true)
    (kLevel : PySem.W.keepIn K (.ref fLevel) = true)
    (aIsName : PySem.W.nsIn K mainGlobals "is_name" = some (some (.ref fIsName)))
    (lIsName : K.lookup fIsName = some ⟨ocIsName, odIsName, .func (PySem.W.fnOf "is_name" "is_name" (defArgs sIsName) (defBody sIsName) (defScope sIsName) .none kVIsName dcIsName pmIsName anIsName cdIsName ctIsName), slIsName⟩)
    (cIsName : PySem.W.codeIn K cdIsName "is_name" = true)
    (kIsName : PySem.W.keepIn K (.ref fIsName) = true)
    (aHint : PySem.W.nsIn K mainGlobals "is_hint" = some (some (.ref fHint)))
    (lHint : K.lookup fHint = some ⟨ocHint, odHint, .func (PySem.W.fnOf "is_hint" "is_hint" (defArgs sHint) (defBody sHint) (defScope sHint) .none kVHint dcHint pmHint anHint cdHint ctHint), slHint⟩)
    (cHint : PySem.W.codeIn K cdHint "is_hint" = true)
    (kHint : PySem.W.keepIn K (.ref fHint) = true)
    (aLeaf : PySem.W.nsIn K mainGlobals "is_leaf" = some (some (.ref fLeaf)))
    (lLeaf : K.lookup fLeaf = some ⟨ocLeaf, odLeaf, .func (PySem.W.fnOf "is_leaf" "is_leaf" (defArgs sLeaf) (defBody sLeaf) (defScope sLeaf) .none kVLeaf dcLeaf pmLeaf anLeaf cdLeaf ctLeaf), slLeaf⟩)
    (cLeaf : PySem.W.codeIn K cdLeaf "is_leaf" = true)
    (kLeaf : PySem.W.keepIn K (.ref fLeaf) = true)
    (aIsTerm : PySem.W.nsIn K mainGlobals "is_term" = some (some (.ref fIsTerm)))
    (lIsTerm : K.lookup fIsTerm = some ⟨ocIsTerm, odIsTerm, .func (PySem.W.fnOf "is_term" "is_term" (defArgs sIsTerm) (defBody sIsTerm) (defScope sIsTerm) .none kVIsTerm dcIsTerm pmIsTerm anIsTerm cdIsTerm ctIsTerm), slIsTerm⟩)
    (cIsTerm : PySem.W.codeIn K cdIsTerm "is_term" = true)
    (kIsTerm : PySem.W.keepIn K (.ref fIsTerm) = true)
    (aFree : PySem.W.nsIn K mainGlobals "free_vars" = some (some (.ref fFree)))
    (lFree : K.lookup fFree = some ⟨ocFree, odFree, .func (PySem.W.fnOf "free_vars" "free_vars" (defArgs sFree) (defBody sFree) (defScope sFree) .none kVFree dcFree pmFree anFree cdFree ctFree), slFree⟩)
    (cFree : PySem.W.codeIn K cdFree "free_vars" = true)
    (kFree : PySem.W.keepIn K (.ref fFree) = true)
    (aNames : PySem.W.nsIn K mainGlobals "names_in" = some (some (.ref fNames)))
    (lNames : K.lookup fNames = some ⟨ocNames, odNames, .func (PySem.W.fnOf "names_in" "names_in" (defArgs sNames) (defBody sNames) (defScope sNames) .none kVNames dcNames pmNames anNames cdNames ctNames), slNames⟩)
    (cNames : PySem.W.codeIn K cdNames "names_in" = true)
    (kNames : PySem.W.keepIn K (.ref fNames) = true)
    (aLCell : PySem.W.nsIn K mainGlobals "_law_cell" = some (some (.ref fLCell)))
    (lLCell : K.lookup fLCell = some ⟨ocLCell, odLCell, .func (PySem.W.fnOf "_law_cell" "_law_cell" (defArgs sLCell) (defBody sLCell) (defScope sLCell) .none kVLCell dcLCell pmLCell anLCell cdLCell ctLCell), slLCell⟩)
    (cLCell : PySem.W.codeIn K cdLCell "_law_cell" = true)
    (kLCell : PySem.W.keepIn K (.ref fLCell) = true)
    (aLDigits : PySem.W.nsIn K mainGlobals "_law_digits" = some (some (.ref fLDigits)))
    (lLDigits : K.lookup fLDigits = some ⟨ocLDigits, odLDigits, .func (PySem.W.fnOf "_law_digits" "_law_digits" (defArgs sLDigits) (defBody sLDigits) (defScope sLDigits) .none kVLDigits dcLDigits pmLDigits anLDigits cdLDigits ctLDigits), slLDigits⟩)
    (cLDigits : PySem.W.codeIn K cdLDigits "_law_digits" = true)
    (kLDigits : PySem.W.keepIn K (.ref fLDigits) = true)
    (aLDraw : PySem.W.nsIn K mainGlobals "_law_draw" = some (some (.ref fLDraw)))
    (lLDraw : K.lookup fLDraw = some ⟨ocLDraw, odLDraw, .func (PySem.W.fnOf "_law_draw" "_law_draw" (defArgs sLDraw) (defBody sLDraw) (defScope sLDraw) .none kVLDraw dcLDraw pmLDraw anLDraw cdLDraw ctLDraw), slLDraw⟩)
    (cLDraw : PySem.W.codeIn K cdLDraw "_law_draw" = true)
    (kLDraw : PySem.W.keepIn K (.ref fLDraw) = true)
    (aLPick : PySem.W.nsIn K mainGlobals "_law_pick" = some (some (.ref fLPick)))
    (lLPick : K.lookup fLPick = some ⟨ocLPick, odLPick, .func (PySem.W.fnOf "_law_pick" "_law_pick" (defArgs sLPick) (defBody sLPick) (defScope sLPick) .none kVLPick dcLPick pmLPick anLPick cdLPick ctLPick), slLPick⟩)
    (cLPick : PySem.W.codeIn K cdLPick "_law_pick" = true)
    (kLPick : PySem.W.keepIn K (.ref fLPick) = true)
    (aLLift : PySem.W.nsIn K mainGlobals "_law_lift" = some (some (.ref fLLift)))
    (lLLift : K.lookup fLLift = some ⟨ocLLift, odLLift, .func (PySem.W.fnOf "_law_lift" "_law_lift" (defArgs sLLift) (defBody sLLift) (defScope sLLift) .none kVLLift dcLLift pmLLift anLLift cdLLift ctLLift), slLLift⟩)
    (cLLift : PySem.W.codeIn K cdLLift "_law_lift" = true)
    (kLLift : PySem.W.keepIn K (.ref fLLift) = true)
    (aLPut : PySem.W.nsIn K mainGlobals "_law_put" = some (some (.ref fLPut)))
    (lLPut : K.lookup fLPut = some ⟨ocLPut, odLPut, .func (PySem.W.fnOf "_law_put" "_law_put" (defArgs sLPut) (defBody sLPut) (defScope sLPut) .none kVLPut dcLPut pmLPut anLPut cdLPut ctLPut), slLPut⟩)
    (cLPut : PySem.W.codeIn K cdLPut "_law_put" = true)
    (kLPut : PySem.W.keepIn K (.ref fLPut) = true)
    (aLBare : PySem.W.nsIn K mainGlobals "_law_bare" = some (some (.ref fLBare)))
    (lLBare : K.lookup fLBare = some ⟨ocLBare, odLBare, .func (PySem.W.fnOf "_law_bare" "_law_bare" (defArgs sLBare) (defBody sLBare) (defScope sLBare) .none kVLBare dcLBare pmLBare anLBare cdLBare ctLBare), slLBare⟩)
    (cLBare : PySem.W.codeIn K cdLBare "_law_bare" = true)
    (kLBare : PySem.W.keepIn K (.ref fLBare) = true)
    (aLParts : PySem.W.nsIn K mainGlobals "_law_parts" = some (some (.ref fLParts)))
    (lLParts : K.lookup fLParts = some ⟨ocLParts, odLParts, .func (PySem.W.fnOf "_law_parts" "_law_parts" (defArgs sLParts) (defBody sLParts) (defScope sLParts) .none kVLParts dcLParts pmLParts anLParts cdLParts ctLParts), slLParts⟩)
    (cLParts : PySem.W.codeIn K cdLParts "_law_parts" = true)
    (kLParts : PySem.W.keepIn K (.ref fLParts) = true)
    (aLSpine : PySem.W.nsIn K mainGlobals "_law_spine" = some (some (.ref fLSpine)))
    (lLSpine : K.lookup fLSpine = some ⟨ocLSpine, odLSpine, .func (PySem.W.fnOf "_law_spine" "_law_spine" (defArgs sLSpine) (defBody sLSpine) (defScope sLSpine) .none kVLSpine dcLSpine pmLSpine anLSpine cdLSpine ctLSpine), slLSpine⟩)
    (cLSpine : PySem.W.codeIn K cdLSpine "_law_spine" = true)
    (kLSpine : PySem.W.keepIn K (.ref fLSpine) = true)
    (aLAny : PySem.W.nsIn K mainGlobals "_law_any" = some (some (.ref fLAny)))
    (lLAny : K.lookup fLAny = some ⟨ocLAny, odLAny, .func (PySem.W.fnOf "_law_any" "_law_any" (defArgs sLAny) (defBody sLAny) (defScope sLAny) .none kVLAny dcLAny pmLAny anLAny cdLAny ctLAny), slLAny⟩)
    (cLAny : PySem.W.codeIn K cdLAny "_law_any" = true)
    (kLAny : PySem.W.keepIn K (.ref fLAny) = true)
    (aLSize : PySem.W.nsIn K mainGlobals "_law_size" = some (some (.ref fLSize)))
    (lLSize : K.lookup fLSize = some ⟨ocLSize, odLSize, .func (PySem.W.fnOf "_law_size" "_law_size" (defArgs sLSize) (defBody sLSize) (defScope sLSize) .none kVLSize dcLSize pmLSize anLSize cdLSize ctLSize), slLSize⟩)
    (cLSize : PySem.W.codeIn K cdLSize "_law_size" = true)
    (kLSize : PySem.W.keepIn K (.ref fLSize) = true)
    (aLNamed : PySem.W.nsIn K mainGlobals "_law_named" = some (some (.ref fLNamed)))
    (lLNamed : K.lookup fLNamed = some ⟨ocLNamed, odLNamed, .func (PySem.W.fnOf "_law_named" "_law_named" (defArgs sLNamed) (defBody sLNamed) (defScope sLNamed) .none kVLNamed dcLNamed pmLNamed anLNamed cdLNamed ctLNamed), slLNamed⟩)
    (cLNamed : PySem.W.codeIn K cdLNamed "_law_named" = true)
    (kLNamed : PySem.W.keepIn K (.ref fLNamed) = true)
    (aBare : PySem.W.nsIn K mainGlobals "bare" = some (some (.ref fBare)))
    (lBare : K.lookup fBare = some ⟨ocBare, odBare, .func (PySem.W.fnOf "bare" "bare" (defArgs sBare) (defBody sBare) (defScope sBare) (.ref TBare) kVBare dcBare pmBare anBare cdBare ctBare), slBare⟩)
    (cBare : PySem.W.codeIn K cdBare "bare" = true)
    (kBare : PySem.W.keepIn K (.ref fBare) = true)
    (tBare : K.lookup TBare = some ⟨oTBare, dTBare, .seq #[.int 0 tTBare] nTBare, sTBare⟩)
    (aLifted : PySem.W.nsIn K mainGlobals "lifted" = some (some (.ref fLifted)))
    (lLifted : K.lookup fLifted = some ⟨ocLifted, odLifted, .func (PySem.W.fnOf "lifted" "lifted" (defArgs sLifted) (defBody sLifted) (defScope sLifted) (.ref TLifted) kVLifted dcLifted pmLifted anLifted cdLifted ctLifted), slLifted⟩)
    (cLifted : PySem.W.codeIn K cdLifted "lifted" = true)
    (kLifted : PySem.W.keepIn K (.ref fLifted) = true)
    (tLifted : K.lookup TLifted = some ⟨oTLifted, dTLifted, .seq #[.int 0 tTLifted] nTLifted, sTLifted⟩)
    (aPutAt : PySem.W.nsIn K mainGlobals "put_at" = some (some (.ref fPutAt)))
    (lPutAt : K.lookup fPutAt = some ⟨ocPutAt, odPutAt, .func (PySem.W.fnOf "put_at" "put_at" (defArgs sPutAt) (defBody sPutAt) (defScope sPutAt) (.ref TPutAt) kVPutAt dcPutAt pmPutAt anPutAt cdPutAt ctPutAt), slPutAt⟩)
    (cPutAt : PySem.W.codeIn K cdPutAt "put_at" = true)
    (kPutAt : PySem.W.keepIn K (.ref fPutAt) = true)
    (tPutAt : K.lookup TPutAt = some ⟨oTPutAt, dTPutAt, .seq #[.int 0 tTPutAt] nTPutAt, sTPutAt⟩)
    (aLaw : PySem.W.nsIn K mainGlobals "law" = some (some (.ref fLaw)))
    (lLaw : K.lookup fLaw = some ⟨ocLaw, odLaw, .func (PySem.W.fnOf "law" "law" (defArgs sLaw) (defBody sLaw) (defScope sLaw) .none kVLaw dcLaw pmLaw anLaw cdLaw ctLaw), slLaw⟩)
    (cLaw : PySem.W.codeIn K cdLaw "law" = true)
    (kLaw : PySem.W.keepIn K (.ref fLaw) = true)
    (gaLEAVES : PySem.W.nsIn K mainGlobals "LEAVES" = some (some (.ref gLEAVES)))
    (glLEAVES : K.lookup gLEAVES = some ⟨.type "tuple", gdLEAVES, .seq #[.str "var" uLEAVES0, .str "sort" uLEAVES1, .str "const" uLEAVES2, .str "kind" uLEAVES3, .str "make" uLEAVES4, .str "elim" uLEAVES5, .str "meta" uLEAVES6] gnLEAVES, gsLEAVES⟩)
    (gaWORDS : PySem.W.nsIn K mainGlobals "WORDS" = some (some (.ref gWORDS)))
    (glWORDS : K.lookup gWORDS = some ⟨.type "tuple", gdWORDS, .seq #[.str "Type" uWORDS0, .str "fun" uWORDS1, .str "forall" uWORDS2, .str "let" uWORDS3, .str "in" uWORDS4, .str "elim" uWORDS5, .str "return" uWORDS6, .str "with" uWORDS7, .str "end" uWORDS8, .str "def" uWORDS9, .str "define" uWORDS10, .str "axiom" uWORDS11, .str "kind" uWORDS12, .str "record" uWORDS13, .str "theorem" uWORDS14, .str "by" uWORDS15, .str "rec" uWORDS16, .str "match" uWORDS17] gnWORDS, gsWORDS⟩)
    (gaLETTERS : PySem.W.nsIn K mainGlobals "LETTERS" = some (some (.str "abcdefghijklmnopqrstuvwxyzABCDEFGHIJKLMNOPQRSTUVWXYZ" vLETTERS)))
    (gaMORE : PySem.W.nsIn K mainGlobals "MORE" = some (some (.str "abcdefghijklmnopqrstuvwxyzABCDEFGHIJKLMNOPQRSTUVWXYZ0123456789_" vMORE)))
    (gaFAR_MOST : PySem.W.nsIn K mainGlobals "FAR_MOST" = some (some (.int 400 vFAR_MOST)))
    (gaLEVEL_MOST : PySem.W.nsIn K mainGlobals "LEVEL_MOST" = some (some (.int 999999 vLEVEL_MOST)))
    (gaPARTS_MOST : PySem.W.nsIn K mainGlobals "PARTS_MOST" = some (some (.int 20000 vPARTS_MOST)))
    (gaDEEP_MOST : PySem.W.nsIn K mainGlobals "DEEP_MOST" = some (some (.int 220 vDEEP_MOST)))
    (zisi : PySem.W.nsIn K mainGlobals "isinstance" = some none)
    (zint : PySem.W.nsIn K mainGlobals "int" = some none)
    (zbool : PySem.W.nsIn K mainGlobals "bool" = some none)
    (zstr : PySem.W.nsIn K mainGlobals "str" = some none)
    (ztup : PySem.W.nsIn K mainGlobals "tuple" = some none)
    (zlst : PySem.W.nsIn K mainGlobals "list" = some none)
    (zlen : PySem.W.nsIn K mainGlobals "len" = some none)
    (zany : PySem.W.nsIn K mainGlobals "any" = some none)
    (zall : PySem.W.nsIn K mainGlobals "all" = some none)
    (zsum : PySem.W.nsIn K mainGlobals "sum" = some none)
    (zrange : PySem.W.nsIn K mainGlobals "range" = some none)
    (zenum : PySem.W.nsIn K mainGlobals "enumerate" = some none)
    (zsorted : PySem.W.nsIn K mainGlobals "sorted" = some none)
    (zdict : PySem.W.nsIn K mainGlobals "dict" = some none) :
    ∃ fd : FuncData, (∀ (s : Shared) (v : Value), BindsTo s fd ⟨[v], []⟩ [("script", v)]) ∧ ∀ base : Heap, K.In base → base.Ns mainGlobals mg → FnOk l.prog w K mg base CX0 201 fa fd ["script"] (spP K relLaw) := by
  have e := hfa.symm.trans (PySem.W.mg_of X G aLaw)
  cases e
  have A := all_mk X G aHeld lHeld cHeld kHeld aParts lParts cParts kParts aRebuilt lRebuilt cRebuilt kRebuilt aSame lSame cSame kSame aPut lPut cPut kPut aPutAll lPutAll cPutAll kPutAll aHas lHas cHas kHas aAbs lAbs cAbs kAbs aApplied lApplied cApplied kApplied aSpine lSpine cSpine kSpine aSizeOf lSizeOf cSizeOf kSizeOf aPartAt lPartAt cPartAt kPartAt aWhole lWhole cWhole kWhole aLevel lLevel cLevel kLevel aIsName lIsName cIsName kIsName aHint lHint cHint kHint aLeaf lLeaf cLeaf kLeaf aIsTerm lIsTerm cIsTerm kIsTerm aFree lFree cFree kFree aNames lNames cNames kNames aLCell lLCell cLCell kLCell aLDigits lLDigits cLDigits kLDigits aLDraw lLDraw cLDraw kLDraw aLPick lLPick cLPick kLPick aLLift lLLift cLLift kLLift aLPut lLPut cLPut kLPut aLBare lLBare cLBare kLBare aLParts lLParts cLParts kLParts aLSpine lLSpine cLSpine kLSpine aLAny lLAny cLAny kLAny aLSize lLSize cLSize kLSize aLNamed lLNamed cLNamed kLNamed aBare lBare cBare kBare tBare aLifted lLifted cLifted kLifted tLifted aPutAt lPutAt cPutAt kPutAt tPutAt aLaw lLaw cLaw kLaw gaLEAVES glLEAVES gaWORDS glWORDS gaLETTERS gaMORE gaFAR_MOST gaLEVEL_MOST gaPARTS_MOST gaDEEP_MOST zisi zint zbool zstr ztup zlst zlen zany zall zsum zrange zenum zsorted zdict
  have F := fun_mk (st := sLaw) lLaw cLaw kLaw
  exact ⟨_, fun s v => .of_eq rfl, fun base _ _ => all_law A F⟩
theorem ints_dp {K : PySem.W.Frag} {H : Hp} (ns : List Int) : DpAll K H (ns.map V.int) (ns.map PyData.int) := by
  induction ns with
  | nil => exact .nil
  | cons a l ih => exact .cons (.int a) ih
theorem walk {l : PySem.W.OpenLaw} {q : Program} {loose : List Str} {XP : (Str → Option Value) → Heap → Prop} {YP : World → Heap → Prop} {d : DefRec} {K : Params → PySem.W.Frag} {n : Nat} (hn : l.most = some n) (hn2 : n ≤ sizeLine) (hdf : d.params.defaults = [])
    (hY : ∀ (w : World) (h : Heap), YP w h → (K w.params).In h)
    (F : ∀ (w : World) (mg : Str → Option Value) (fa : Addr) (h : Heap), (K w.params).In h → h.Ns mainGlobals mg → mg d.name = some (.ref fa) →
      ∃ fd : FuncData, (∀ (s : Shared) (u : Value), BindsTo s fd ⟨[u], []⟩ [("script", u)]) ∧ ∀ base : Heap, (K w.params).In base → base.Ns mainGlobals mg → FnOk l.prog w (K w.params) mg base CX0 201 fa fd ["script"] (spP (K w.params) relLaw)) :
    PySem.W.WalkO q loose XP YP l.row.toRowW d [] (fun f vs => PySem.call f vs) :=
  L2.walk_of (n := n) (k := 201) (x := "script") (CX := fun _ => CX0) (sp := fun w => spP (K w.params) relLaw) hn hn2 hdf ⟨rfl, by decide, by decide⟩ hY F
    (fun w H a ns hl _ hS => ⟨[], _, _, ⟨ns, rfl, rfl⟩, .cons (.lst (ex_l (show Ex H (les [] H) from fun a u e => by rw [les_out (by simp)]; exact e) hS) (ints_dp ns)) .nil, fun a ha => (nomatch ha), fun v H' _ hv => by
      have hv' : Dp (K w.params) (les [] H') v (.bool true) := hv
      cases hv'
      rfl⟩) fun _ _ _ _ _ z => z
end D
open PySem PySem.W PyProof.Rows
set_option maxRecDepth 100000 in
set_option maxHeartbeats 0 in
theorem PySem.Challenge.cw_kernelsay_k35_moved_and_back_holds : PySem.Challenge.rw_kernelsay_k35_moved_and_back.Holds := by
  w_on; o_law; k_head; (case hw => w_witness2)
  k_fill
  refine D.walk (l := PySem.Challenge.rw_kernelsay_k35_moved_and_back) (n := 63) rfl (by decide) rfl (fun w h Y => PySem.W.kIn_of Y) ?F
  case F =>
    intro w mg fa h KX G hmg
    refine' D.all_fn KX G hmg ?aHeld ?lHeld ?cHeld ?kHeld ?aParts ?lParts ?cParts ?kParts ?aRebuilt ?lRebuilt ?cRebuilt ?kRebuilt ?aSame ?lSame ?cSame ?kSame ?aPut ?lPut ?cPut ?kPut ?aPutAll ?lPutAll ?cPutAll ?kPutAll ?aHas ?lHas ?cHas ?kHas ?aAbs ?lAbs ?cAbs ?kAbs ?aApplied ?lApplied ?cApplied ?kApplied ?aSpine ?lSpine ?cSpine ?kSpine ?aSizeOf ?lSizeOf ?cSizeOf ?kSizeOf ?aPartAt ?lPartAt ?cPartAt ?kPartAt ?aWhole ?lWhole ?cWhole ?kWhole ?aLevel ?lLevel ?cLevel ?kLevel ?aIsName ?lIsName ?cIsName ?kIsName ?aHint ?lHint ?cHint ?kHint ?aLeaf ?lLeaf ?cLeaf ?kLeaf ?aIsTerm ?lIsTerm ?cIsTerm ?kIsTerm ?aFree ?lFree ?cFree ?kFree ?aNames ?lNames ?cNames ?kNames ?aLCell ?lLCell ?cLCell ?kLCell ?aLDigits ?lLDigits ?cLDigits ?kLDigits ?aLDraw ?lLDraw ?cLDraw ?kLDraw ?aLPick ?lLPick ?cLPick ?kLPick ?aLLift ?lLLift ?cLLift ?kLLift ?aLPut ?lLPut ?cLPut ?kLPut ?aLBare ?lLBare ?cLBare ?kLBare ?aLParts ?lLParts ?cLParts ?kLParts ?aLSpine ?lLSpine ?cLSpine ?kLSpine ?aLAny ?lLAny ?cLAny ?kLAny ?aLSize ?lLSize ?cLSize ?kLSize ?aLNamed ?lLNamed ?cLNamed ?kLNamed ?aBare ?lBare ?cBare ?kBare ?tBare ?aLifted ?lLifted ?cLifted ?kLifted ?tLifted ?aPutAt ?lPutAt ?cPutAt ?kPutAt ?tPutAt ?aLaw ?lLaw ?cLaw ?kLaw ?gaLEAVES ?glLEAVES ?gaWORDS ?glWORDS ?gaLETTERS ?gaMORE ?gaFAR_MOST ?gaLEVEL_MOST ?gaPARTS_MOST ?gaDEEP_MOST ?zisi ?zint ?zbool ?zstr ?ztup ?zlst ?zlen ?zany ?zall ?zsum ?zrange ?zenum ?zsorted ?zdict
    (case aHeld => k_is)
    (case lHeld => k_is)
    (case cHeld => k_is)
    (case kHeld => k_is)
    (case aParts => k_is)
    (case lParts => k_is)
    (case cParts => k_is)
    (case kParts => k_is)
    (case aRebuilt => k_is)
    (case lRebuilt => k_is)
    (case cRebuilt => k_is)
    (case kRebuilt => k_is)
    (case aSame => k_is)
    (case lSame => k_is)
    (case cSame => k_is)
    (case kSame => k_is)
    (case aPut => k_is)
    (case lPut => k_is)
    (case cPut => k_is)
    (case kPut => k_is)
    (case aPutAll => k_is)
    (case lPutAll => k_is)
    (case cPutAll => k_is)
    (case kPutAll => k_is)
    (case aHas => k_is)
    (case lHas => k_is)
    (case cHas => k_is)
    (case kHas => k_is)
    (case aAbs => k_is)
    (case lAbs => k_is)
    (case cAbs => k_is)
    (case kAbs => k_is)
    (case aApplied => k_is)
    (case lApplied => k_is)
    (case cApplied => k_is)
    (case kApplied => k_is)
    (case aSpine => k_is)
    (case lSpine => k_is)
    (case cSpine => k_is)
    (case kSpine => k_is)
    (case aSizeOf => k_is)
    (case lSizeOf => k_is)
    (case cSizeOf => k_is)
    (case kSizeOf => k_is)
    (case aPartAt => k_is)
    (case lPartAt => k_is)
    (case cPartAt => k_is)
    (case kPartAt => k_is)
    (case aWhole => k_is)
    (case lWhole => k_is)
    (case cWhole => k_is)
    (case kWhole => k_is)
    (case aLevel => k_is)
    (case lLevel => k_is)
    (case cLevel => k_is)
    (case kLevel => k_is)
    (case aIsName => k_is)
    (case lIsName => k_is)
    (case cIsName => k_is)
    (case kIsName => k_is)
    (case aHint => k_is)
    (case lHint => k_is)
    (case cHint => k_is)
    (case kHint => k_is)
    (case aLeaf => k_is)
    (case lLeaf => k_is)
    (case cLeaf => k_is)
    (case kLeaf => k_is)
    (case aIsTerm => k_is)
    (case lIsTerm => k_is)
    (case cIsTerm => k_is)
    (case kIsTerm => k_is)
    (case aFree => k_is)
    (case lFree => k_is)
    (case cFree => k_is)
    (case kFree => k_is)
    (case aNames => k_is)
    (case lNames => k_is)
    (case cNames => k_is)
    (case kNames => k_is)
    (case aLCell => k_is)
    (case lLCell => k_is)
    (case cLCell => k_is)
    (case kLCell => k_is)
    (case aLDigits => k_is)
    (case lLDigits => k_is)
    (case cLDigits => k_is)
    (case kLDigits => k_is)
    (case aLDraw => k_is)
    (case lLDraw => k_is)
    (case cLDraw => k_is)
    (case kLDraw => k_is)
    (case aLPick => k_is)
    (case lLPick => k_is)
    (case cLPick => k_is)
    (case kLPick => k_is)
    (case aLLift => k_is)
    (case lLLift => k_is)
    (case cLLift => k_is)
    (case kLLift => k_is)
    (case aLPut => k_is)
    (case lLPut => k_is)
    (case cLPut => k_is)
    (case kLPut => k_is)
    (case aLBare => k_is)
    (case lLBare => k_is)
    (case cLBare => k_is)
    (case kLBare => k_is)
    (case aLParts => k_is)
    (case lLParts => k_is)
    (case cLParts => k_is)
    (case kLParts => k_is)
    (case aLSpine => k_is)
    (case lLSpine => k_is)
    (case cLSpine => k_is)
    (case kLSpine => k_is)
    (case aLAny => k_is)
    (case lLAny => k_is)
    (case cLAny => k_is)
    (case kLAny => k_is)
    (case aLSize => k_is)
    (case lLSize => k_is)
    (case cLSize => k_is)
    (case kLSize => k_is)
    (case aLNamed => k_is)
    (case lLNamed => k_is)
    (case cLNamed => k_is)
    (case kLNamed => k_is)
    (case aBare => k_is)
    (case lBare => k_is)
    (case cBare => k_is)
    (case kBare => k_is)
    (case tBare => k_is)
    (case aLifted => k_is)
    (case lLifted => k_is)
    (case cLifted => k_is)
    (case kLifted => k_is)
    (case tLifted => k_is)
    (case aPutAt => k_is)
    (case lPutAt => k_is)
    (case cPutAt => k_is)
    (case kPutAt => k_is)
    (case tPutAt => k_is)
    (case aLaw => k_is)
    (case lLaw => k_is)
    (case cLaw => k_is)
    (case kLaw => k_is)
    (case gaLEAVES => k_is)
    (case glLEAVES => k_is)
    (case gaWORDS => k_is)
    (case glWORDS => k_is)
    (case gaLETTERS => k_is)
    (case gaMORE => k_is)
    (case gaFAR_MOST => k_is)
    (case gaLEVEL_MOST => k_is)
    (case gaPARTS_MOST => k_is)
    (case gaDEEP_MOST => k_is)
    (case zisi => k_is)
    (case zint => k_is)
    (case zbool => k_is)
    (case zstr => k_is)
    (case ztup => k_is)
    (case zlst => k_is)
    (case zlen => k_is)
    (case zany => k_is)
    (case zall => k_is)
    (case zsum => k_is)
    (case zrange => k_is)
    (case zenum => k_is)
    (case zsorted => k_is)
    (case zdict => k_is)

