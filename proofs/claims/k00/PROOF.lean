import PyProof.Rows.All
import Wide.All
import OpenK.AllK
import Wide.FinOn
import HandS.ForMost
import HandS.ForExc
import HandS.Flow
import HandS.IsInst
import HandS.Wide
import HandS.TupMul
import HandS.TupAny
import HandS.Zip
import HandS.Conv
import HandS.NoneIn
import HandS.Style
import HandS.ExcIs
import PySem.Challenge.RW_crowdsuntold_k00_fractions_by_own_reckon
set_option Elab.async false
set_option linter.all false
set_option maxRecDepth 100000
set_option maxHeartbeats 8000000
/-! ## part Y1 -/
/-! A layer of pure data over the hand layer: what an expression, a statement does to data (PyData) and to the def's slots, the heap hidden. -/
namespace Y
open PySem PySem.Spec PyProof.Rows L2

/-! ### data at a frozen part of the heap -/
theorem rd_mono {F F' : Hp} {a : Addr} {o : HO} (e : Same F F') (h : Rd F a o) : Rd F' a o := by
  rcases h with h | ⟨x, h⟩
  · exact .inl (e _ _ h)
  · exact .inr ⟨x, e _ _ h⟩
theorem sqL_mono {K : PySem.W.Frag} {F F' : Hp} {a : Addr} {xs : List V} (e : Same F F') (h : SqL K F a xs) : SqL K F' a xs := by
  rcases h with h | h
  · exact .inl (rd_mono e h)
  · exact .inr h
theorem sqT_mono {K : PySem.W.Frag} {F F' : Hp} {a : Addr} {xs : List V} (e : Same F F') (h : SqT K F a xs) : SqT K F' a xs := by
  rcases h with h | h
  · exact .inl (rd_mono e h)
  · exact .inr h
mutual
theorem dp_mono {K : PySem.W.Frag} {F F' : Hp} (e : Same F F') : ∀ {v : V} {d : PyData}, Dp K F v d → Dp K F' v d
  | _, _, .non => .non
  | _, _, .bl b => .bl b
  | _, _, .int i => .int i
  | _, _, .str x => .str x
  | _, _, .lst h t => .lst (sqL_mono e h) (dpAll_mono e t)
  | _, _, .tup h t => .tup (sqT_mono e h) (dpAll_mono e t)
theorem dpAll_mono {K : PySem.W.Frag} {F F' : Hp} (e : Same F F') : ∀ {vs : List V} {ds : List PyData}, DpAll K F vs ds → DpAll K F' vs ds
  | _, _, .nil => .nil
  | _, _, .cons h t => .cons (dp_mono e h) (dpAll_mono e t)
end
theorem dpAll_len {K : PySem.W.Frag} {F : Hp} : ∀ {vs : List V} {ds : List PyData}, DpAll K F vs ds → vs.length = ds.length
  | _, _, .nil => rfl
  | _, _, .cons _ t => by rw [List.length_cons, List.length_cons, dpAll_len t]
theorem dpAll_get {K : PySem.W.Frag} {F : Hp} : ∀ {vs : List V} {ds : List PyData} {i : Nat} {d : PyData}, DpAll K F vs ds → ds[i]? = some d → ∃ v, vs[i]? = some v ∧ Dp K F v d
  | _, _, _, _, .nil, h => by simp at h
  | _, _, 0, _, .cons h _, e => by
    simp at e
    subst e
    exact ⟨_, rfl, h⟩
  | _, _, i + 1, _, .cons _ t, e => by
    obtain ⟨v, h1, h2⟩ := dpAll_get (i := i) t (by simpa using e)
    exact ⟨v, by simpa using h1, h2⟩
theorem dpAll_get' {K : PySem.W.Frag} {F : Hp} : ∀ {vs : List V} {ds : List PyData} {i : Nat} {v : V}, DpAll K F vs ds → vs[i]? = some v → ∃ d, ds[i]? = some d ∧ Dp K F v d
  | _, _, _, _, .nil, h => by simp at h
  | _, _, 0, _, .cons h _, e => by
    simp at e
    subst e
    exact ⟨_, rfl, h⟩
  | _, _, i + 1, _, .cons _ t, e => by
    obtain ⟨v, h1, h2⟩ := dpAll_get' (i := i) t (by simpa using e)
    exact ⟨v, by simpa using h1, h2⟩
theorem dpAll_append {K : PySem.W.Frag} {F : Hp} : ∀ {vs ws : List V} {ds es : List PyData}, DpAll K F vs ds → DpAll K F ws es → DpAll K F (vs ++ ws) (ds ++ es)
  | _, _, _, _, .nil, h => h
  | _, _, _, _, .cons h t, u => .cons h (dpAll_append t u)
theorem dpAll_set {K : PySem.W.Frag} {F : Hp} {v : V} {d : PyData} (r : Dp K F v d) : ∀ {vs : List V} {ds : List PyData} (i : Nat), DpAll K F vs ds → DpAll K F (vs.set i v) (ds.set i d)
  | _, _, _, .nil => .nil
  | _, _, 0, .cons _ t => .cons r t
  | _, _, i + 1, .cons h t => .cons h (dpAll_set r i t)
theorem dpAll_take {K : PySem.W.Frag} {F : Hp} : ∀ {vs : List V} {ds : List PyData} (i : Nat), DpAll K F vs ds → DpAll K F (vs.take i) (ds.take i)
  | _, _, 0, _ => .nil
  | _, _, _ + 1, .nil => .nil
  | _, _, i + 1, .cons h t => .cons h (dpAll_take i t)
theorem dpAll_drop {K : PySem.W.Frag} {F : Hp} : ∀ {vs : List V} {ds : List PyData} (i : Nat), DpAll K F vs ds → DpAll K F (vs.drop i) (ds.drop i)
  | _, _, 0, h => h
  | _, _, _ + 1, .nil => .nil
  | _, _, i + 1, .cons h t => dpAll_drop i t
theorem dpAll_rep {K : PySem.W.Frag} {F : Hp} {vs : List V} {ds : List PyData} (h : DpAll K F vs ds) : ∀ k : Nat, DpAll K F (List.replicate k vs).flatten (List.replicate k ds).flatten
  | 0 => .nil
  | k + 1 => by
    rw [List.replicate_succ, List.replicate_succ, List.flatten_cons, List.flatten_cons]
    exact dpAll_append h (dpAll_rep h k)

/-! ### slots -/
/-- what a slot holds: nothing known, data, a list of its own (at p) that may change -/
inductive Sl where
  | un
  | va (d : PyData)
  | ow (p : Addr) (ds : List PyData)
abbrev Rh := List Sl

/-- the heap goes on: what is frozen stays, what may not be written stays, no old cell is frozen -/
structure Ext (W : Addr → Prop) (F H F' H' : Hp) : Prop where
  ff : Same F F'
  hh : ∀ a o, H a = some o → ¬ W a → H' a = some o
  fr : ∀ a, H a ≠ none → ¬ W a → F a = none → F' a = none
  dom : ∀ a, H a ≠ none → H' a ≠ none
theorem Ext.refl {W : Addr → Prop} {F H : Hp} : Ext W F H F H := ⟨.refl _, fun _ _ h _ => h, fun _ _ _ h => h, fun _ h => h⟩
theorem Ext.trans {W : Addr → Prop} {F H F1 H1 F2 H2 : Hp} (a : Ext W F H F1 H1) (b : Ext W F1 H1 F2 H2) : Ext W F H F2 H2 :=
  ⟨a.ff.trans b.ff, fun x o h w => b.hh x o (a.hh x o h w) w, fun x h w f => b.fr x (a.dom x h) w (a.fr x h w f), fun x h => b.dom x (a.dom x h)⟩
theorem Ext.wide {W W' : Addr → Prop} {F H F' H' : Hp} (a : Ext W F H F' H') (h : ∀ x, W x → W' x) : Ext W' F H F' H' :=
  ⟨a.ff, fun x o e w => a.hh x o e fun z => w (h x z), fun x e w f => a.fr x e (fun z => w (h x z)) f, a.dom⟩
theorem Ext.start {W : Addr → Prop} {F H : Hp} : Ext W (fun _ => Option.none) (fun _ => Option.none) F H := ⟨fun _ _ h => (nomatch h), fun _ _ h => (nomatch h), fun _ h => absurd rfl h, fun _ h => absurd rfl h⟩
/-- what may be written, and the def's entry (its frozen part, its heap) -/
structure Wr where
  w : Addr → Prop
  F0 : Hp
  H0 : Hp
structure Sx (W : Wr) (K : PySem.W.Frag) (F H : Hp) (σ : L2.St) (ρ : Rh) : Prop where
  sub : Same F H
  len : σ.length = ρ.length
  va : ∀ (i : Nat) (d : PyData), ρ[i]? = some (.va d) → ∃ v, σ[i]? = some (some v) ∧ Dp K F v d
  ow : ∀ (i : Nat) (p : Addr) (ds : List PyData), ρ[i]? = some (.ow p ds) → σ[i]? = some (some (.ref p)) ∧ F p = none ∧ W.w p ∧ ∃ vs, H p = some (.lst vs) ∧ DpAll K F vs ds
  apart : ∀ (i j : Nat) (p : Addr) (ds es : List PyData), ρ[i]? = some (.ow p ds) → ρ[j]? = some (.ow p es) → i = j
  new : ∀ a, H a = none → W.w a
  rch : Ext W.w W.F0 W.H0 F H

/-- nothing old is touched -/
structure PExt (F H F' H' : Hp) : Prop where
  ff : Same F F'
  hh : Same H H'
  fr : ∀ a, H a ≠ none → F a = none → F' a = none
  sub : Same F' H'
theorem PExt.ext {W : Addr → Prop} {F H F' H' : Hp} (a : PExt F H F' H') : Ext W F H F' H' := ⟨a.ff, fun x o h _ => a.hh x o h, fun x h _ f => a.fr x h f, fun x h => by
  cases e : H x with
  | none => exact absurd e h
  | some o => rw [a.hh x o e]; exact fun z => nomatch z⟩
theorem PExt.refl {F H : Hp} (s : Same F H) : PExt F H F H := ⟨.refl _, .refl _, fun _ _ h => h, s⟩
theorem PExt.dom {F H F' H' : Hp} (a : PExt F H F' H') : ∀ x, H x ≠ none → H' x ≠ none := fun x h => (a.ext (W := fun _ => True)).dom x h
theorem PExt.trans {F H F1 H1 F2 H2 : Hp} (a : PExt F H F1 H1) (b : PExt F1 H1 F2 H2) : PExt F H F2 H2 :=
  ⟨a.ff.trans b.ff, a.hh.trans b.hh, fun x h f => b.fr x (a.dom x h) (a.fr x h f), b.sub⟩
theorem Sx.pext {W : Wr} {K : PySem.W.Frag} {F H F' H' : Hp} {σ : L2.St} {ρ : Rh} (s : Sx W K F H σ ρ) (e : PExt F H F' H') : Sx W K F' H' σ ρ where
  sub := e.sub
  len := s.len
  va := fun i d h => by
    obtain ⟨v, a, b⟩ := s.va i d h
    exact ⟨v, a, dp_mono e.ff b⟩
  ow := fun i p ds h => by
    obtain ⟨a, b, w, vs, c, d⟩ := s.ow i p ds h
    exact ⟨a, e.fr p (by rw [c]; exact fun z => nomatch z) b, w, vs, e.hh _ _ c, dpAll_mono e.ff d⟩
  apart := s.apart
  new := fun a h => s.new a (by
    cases q : H a with
    | none => rfl
    | some o =>
      rw [e.hh a o q] at h
      cases h)
  rch := s.rch.trans e.ext
/-- a new frozen object -/
theorem PExt.new {F H : Hp} {p : Addr} {o : HO} (s : Same F H) (hp : H p = none) : PExt F H (upd F p o) (upd H p o) where
  ff := fun a x h => by rw [upd_ne (ne_of_none (s a x h) hp)]; exact h
  hh := fun a x h => by rw [upd_ne (ne_of_none h hp)]; exact h
  fr := fun a h f => by
    have ne : a ≠ p := fun z => h (by rw [z]; exact hp)
    rw [upd_ne ne]; exact f
  sub := fun a x h => by
    by_cases e : a = p
    · subst e; rw [upd_same] at h ⊢; exact h
    · rw [upd_ne e] at h ⊢; exact s a x h
/-- a new object, not frozen -/
theorem PExt.cell {F H : Hp} {p : Addr} {o : HO} (s : Same F H) (hp : H p = none) : PExt F H F (upd H p o) where
  ff := .refl _
  hh := fun a x h => by rw [upd_ne (ne_of_none h hp)]; exact h
  fr := fun a h f => f
  sub := fun a x h => by rw [upd_ne (ne_of_none (s a x h) hp)]; exact s a x h
theorem Ext.free {W : Addr → Prop} {F H F' H' : Hp} (e : Ext W F H F' H') {p : Addr} (h : H' p = none) : H p = none := by
  cases q : H p with
  | none => rfl
  | some o => exact absurd h (e.dom p (by rw [q]; exact fun z => nomatch z))
theorem Sx.free {W : Wr} {K : PySem.W.Frag} {F H : Hp} {σ : L2.St} {ρ : Rh} (s : Sx W K F H σ ρ) {p : Addr} (h : H p = none) : F p = none := s.sub.free h

/-! ### contexts -/
/-- what the module is: the program, the world, the written part, its names, the base heap -/
structure Mo where
  P : Program
  w : World
  K : PySem.W.Frag
  mg : Str → Option Value
  base : Heap
structure Sta where
  M : Mo
  N : List Str
  sc : Scope
  k : Nat
  W : Wr
  fn : Str → Bool
  wx : WX
  top : Bool
abbrev Sta.P (Γ : Sta) : Program := Γ.M.P
abbrev Sta.w (Γ : Sta) : World := Γ.M.w
abbrev Sta.K (Γ : Sta) : PySem.W.Frag := Γ.M.K
abbrev Sta.mg (Γ : Sta) : Str → Option Value := Γ.M.mg
abbrev Sta.base (Γ : Sta) : Heap := Γ.M.base
structure CxIs (Γ : Sta) (X : Cx) : Prop where
  prog : X.prog = Γ.P
  w : X.w = Γ.w
  K : X.K = Γ.K
  mg : X.mg = Γ.mg
  base : X.base = Γ.base
  N : X.N = Γ.N
  sc : X.env.scope = Γ.sc
  calm : X.calm = true
  room : Room Γ.k X.A
  nd : X.N.Nodup
  fn : X.fn = Γ.fn
  ps : PassesOwn (model X.prog X.w) X.A X.env X.xe
  tk : Takes X Γ.wx
  stk : Γ.top = true → X.stack = X.env :: X.outer ∧ X.env.frame = some X.env.locals

/-! ### weakest readings -/
def wpe (X : Cx) (e : Expr) : TE := fun σ H Q => ∃ t, PE X e t ∧ t σ H Q
def wpt (X : Cx) (e : Expr) : TT := fun σ H Q => ∃ t, PT X e t ∧ t σ H Q
def wpw (X : Cx) (e : Expr) : TT := fun σ H Q => ∃ t, PW X e t ∧ t σ H Q
def wpa (X : Cx) (es : List Expr) : TA := fun σ H Q => ∃ t, PA X es t ∧ t σ H Q
def wps (X : Cx) (st : Stmt) : TS := fun D σ H => ∃ t, PS X st t ∧ t D σ H
def wpss (X : Cx) (st : List Stmt) : TS := fun D σ H => ∃ t, PSs X st t ∧ t D σ H
def wpg (X : Cx) (tg : Expr) : TG := fun v σ H Q => ∃ t, PG X tg t ∧ t v σ H Q
def wpgs (X : Cx) (tg : List Expr) : TGs := fun v σ H Q => ∃ t, PGs X tg t ∧ t v σ H Q
def wpi (X : Cx) (tg it : Expr) : TI := fun σ H R => ∃ t, PI X tg it t ∧ t σ H R
def wpts (X : Cx) (ifs : List Expr) : TT := fun σ H Q => ∃ t, PTs X ifs t ∧ t σ H Q
section
variable {X : Cx}
theorem pe_wp {e : Expr} : PE X e (wpe X e) := ⟨fun pins s σ H Q I ⟨_, h, q⟩ => h.run pins s σ H Q I q⟩
theorem pt_wp {e : Expr} : PT X e (wpt X e) := ⟨fun pins s σ H Q I ⟨_, h, q⟩ => h.run pins s σ H Q I q⟩
theorem pw_wp {e : Expr} : PW X e (wpw X e) := ⟨fun wh pins s σ H Q I ⟨_, h, q⟩ => h.run wh pins s σ H Q I q⟩
theorem pa_wp {es : List Expr} : PA X es (wpa X es) := ⟨fun pos pins s σ H Q I ⟨_, h, q⟩ => h.run pos pins s σ H Q I q⟩
theorem ps_wp {st : Stmt} : PS X st (wps X st) := ⟨fun pins s σ H D I ⟨_, h, q⟩ => h.run pins s σ H D I q⟩
theorem pss_wp {st : List Stmt} : PSs X st (wpss X st) := ⟨fun pins s σ H D I ⟨_, h, q⟩ => h.run pins s σ H D I q⟩
theorem pg_wp {tg : Expr} : PG X tg (wpg X tg) := ⟨fun pins s σ H v u Q I r ⟨_, h, q⟩ => h.run pins s σ H v u Q I r q⟩
theorem pgs_wp {tg : List Expr} : PGs X tg (wpgs X tg) := ⟨fun pins s σ H v u Q I r ⟨_, h, q⟩ => h.run pins s σ H v u Q I r q⟩
theorem pi_wp {tg it : Expr} : PI X tg it (wpi X tg it) := ⟨fun pins s σ H R I ⟨_, h, q⟩ => h.run pins s σ H R I q⟩
theorem pts_wp {ifs : List Expr} : PTs X ifs (wpts X ifs) := ⟨fun pins s σ H Q I ⟨_, h, q⟩ => h.run pins s σ H Q I q⟩
end

/-! ### judgements over data -/
/-- the expression comes to data -/
def DE (Γ : Sta) (e : Expr) (ρ : Rh) (P : PyData → Rh → Prop) : Prop := ∀ X, CxIs Γ X → ∀ F σ H, Sx Γ.W Γ.K F H σ ρ → ∀ Q : VK,
  (∀ d v ρ' F' H', P d ρ' → Ext Γ.W.w F H F' H' → Sx Γ.W Γ.K F' H' σ ρ' → Dp Γ.K F' v d → Q v H') → wpe X e σ H Q
/-- the expression comes to a new list that nobody else holds -/
def DN (Γ : Sta) (e : Expr) (ρ : Rh) (P : List PyData → Rh → Prop) : Prop := ∀ X, CxIs Γ X → ∀ F σ H, Sx Γ.W Γ.K F H σ ρ → ∀ Q : VK,
  (∀ ds p vs ρ' F' H', P ds ρ' → Ext Γ.W.w F H F' H' → Sx Γ.W Γ.K F' H' σ ρ' → H p = none → F' p = none → Γ.W.w p → H' p = some (.lst vs) → DpAll Γ.K F' vs ds → (∀ (i : Nat) (es : List PyData), ρ'[i]? ≠ some (.ow p es)) → Q (.ref p) H') → wpe X e σ H Q
def DT (Γ : Sta) (e : Expr) (ρ : Rh) (P : Bool → Rh → Prop) : Prop := ∀ X, CxIs Γ X → ∀ F σ H, Sx Γ.W Γ.K F H σ ρ → ∀ Q : Bool → Hp → Prop,
  (∀ b ρ' F' H', P b ρ' → Ext Γ.W.w F H F' H' → Sx Γ.W Γ.K F' H' σ ρ' → Q b H') → wpt X e σ H Q
def DW (Γ : Sta) (e : Expr) (ρ : Rh) (P : Bool → Rh → Prop) : Prop := ∀ X, CxIs Γ X → ∀ F σ H, Sx Γ.W Γ.K F H σ ρ → ∀ Q : Bool → Hp → Prop,
  (∀ b ρ' F' H', P b ρ' → Ext Γ.W.w F H F' H' → Sx Γ.W Γ.K F' H' σ ρ' → Q b H') → wpw X e σ H Q
def DA (Γ : Sta) (es : List Expr) (ρ : Rh) (P : List PyData → Rh → Prop) : Prop := ∀ X, CxIs Γ X → ∀ F σ H, Sx Γ.W Γ.K F H σ ρ → ∀ Q : List V → Hp → Prop,
  (∀ ds vs ρ' F' H', P ds ρ' → Ext Γ.W.w F H F' H' → Sx Γ.W Γ.K F' H' σ ρ' → DpAll Γ.K F' vs ds → Q vs H') → wpa X es σ H Q
def DTs (Γ : Sta) (es : List Expr) (ρ : Rh) (P : Bool → Rh → Prop) : Prop := ∀ X, CxIs Γ X → ∀ F σ H, Sx Γ.W Γ.K F H σ ρ → ∀ Q : Bool → Hp → Prop,
  (∀ b ρ' F' H', P b ρ' → Ext Γ.W.w F H F' H' → Sx Γ.W Γ.K F' H' σ ρ' → Q b H') → wpts X es σ H Q
/-- the target takes data -/
def DG (Γ : Sta) (tg : Expr) (d : PyData) (ρ : Rh) (P : Rh → Prop) : Prop := ∀ X, CxIs Γ X → ∀ F σ H v, Sx Γ.W Γ.K F H σ ρ → Dp Γ.K F v d → ∀ Q : L2.St → Hp → Prop,
  (∀ σ' ρ' F' H', P ρ' → Ext Γ.W.w F H F' H' → Sx Γ.W Γ.K F' H' σ' ρ' → Q σ' H') → wpg X tg v σ H Q
def DGs (Γ : Sta) (tg : List Expr) (ds : List PyData) (ρ : Rh) (P : Rh → Prop) : Prop := ∀ X, CxIs Γ X → ∀ F σ H vs, Sx Γ.W Γ.K F H σ ρ → DpAll Γ.K F vs ds → ∀ Q : L2.St → Hp → Prop,
  (∀ σ' ρ' F' H', P ρ' → Ext Γ.W.w F H F' H' → Sx Γ.W Γ.K F' H' σ' ρ' → Q σ' H') → wpgs X tg vs σ H Q
/-- what is wanted behind a statement, over data -/
structure Dn where
  nx : Rh → Prop
  rt : PyData → Rh → Prop
  bk : Rh → Prop := fun _ => False
  ct : Rh → Prop := fun _ => False
  rn : List PyData → Rh → Prop := fun _ _ => False
structure EnOk (Γ : Sta) (F H : Hp) (D : Dn) (En : Ends) : Prop where
  nx : ∀ σ' ρ' F' H', D.nx ρ' → Ext Γ.W.w F H F' H' → Sx Γ.W Γ.K F' H' σ' ρ' → En.nx σ' H'
  rt : ∀ d v σ' ρ' F' H', D.rt d ρ' → Ext Γ.W.w F H F' H' → Sx Γ.W Γ.K F' H' σ' ρ' → Dp Γ.K F' v d → En.rt v H'
  bk : ∀ σ' ρ' F' H', D.bk ρ' → Ext Γ.W.w F H F' H' → Sx Γ.W Γ.K F' H' σ' ρ' → En.bk σ' H'
  ct : ∀ σ' ρ' F' H', D.ct ρ' → Ext Γ.W.w F H F' H' → Sx Γ.W Γ.K F' H' σ' ρ' → En.ct σ' H'
  /-- a new list, that nobody else holds, is returned -/
  rn : ∀ ds p vs σ' ρ' F' H', D.rn ds ρ' → Ext Γ.W.w F H F' H' → Sx Γ.W Γ.K F' H' σ' ρ' → H p = none → F' p = none → H' p = some (.lst vs) → DpAll Γ.K F' vs ds → En.rt (.ref p) H'
theorem EnOk.on {Γ : Sta} {F H F1 H1 : Hp} {D : Dn} {En : Ends} (e : EnOk Γ F H D En) (x : Ext Γ.W.w F H F1 H1) : EnOk Γ F1 H1 D En :=
  ⟨fun σ ρ F' H' a b c => e.nx σ ρ F' H' a (x.trans b) c, fun d v σ ρ F' H' a b c z => e.rt d v σ ρ F' H' a (x.trans b) c z, fun σ ρ F' H' a b c => e.bk σ ρ F' H' a (x.trans b) c, fun σ ρ F' H' a b c => e.ct σ ρ F' H' a (x.trans b) c, fun ds p vs σ ρ F' H' a b c h1 => e.rn ds p vs σ ρ F' H' a (x.trans b) c (x.free h1)⟩
def DS (Γ : Sta) (st : Stmt) (ρ : Rh) (D : Dn) : Prop := ∀ X, CxIs Γ X → ∀ F σ H, Sx Γ.W Γ.K F H σ ρ → ∀ En : Ends, EnOk Γ F H D En → wps X st En σ H
def DSs (Γ : Sta) (st : List Stmt) (ρ : Rh) (D : Dn) : Prop := ∀ X, CxIs Γ X → ∀ F σ H, Sx Γ.W Γ.K F H σ ρ → ∀ En : Ends, EnOk Γ F H D En → wpss X st En σ H

section
variable {Γ : Sta} {ρ : Rh}
theorem DE.mono {e : Expr} {P P' : PyData → Rh → Prop} (h : DE Γ e ρ P) (k : ∀ d ρ', P d ρ' → P' d ρ') : DE Γ e ρ P' := fun X c F σ H s Q q =>
  h X c F σ H s Q fun d v ρ' F' H' p => q d v ρ' F' H' (k _ _ p)
theorem DN.mono {e : Expr} {P P' : List PyData → Rh → Prop} (h : DN Γ e ρ P) (k : ∀ d ρ', P d ρ' → P' d ρ') : DN Γ e ρ P' := fun X c F σ H s Q q =>
  h X c F σ H s Q fun d p vs ρ' F' H' z => q d p vs ρ' F' H' (k _ _ z)
theorem DT.mono {e : Expr} {P P' : Bool → Rh → Prop} (h : DT Γ e ρ P) (k : ∀ d ρ', P d ρ' → P' d ρ') : DT Γ e ρ P' := fun X c F σ H s Q q =>
  h X c F σ H s Q fun b ρ' F' H' p => q b ρ' F' H' (k _ _ p)
theorem DA.mono {e : List Expr} {P P' : List PyData → Rh → Prop} (h : DA Γ e ρ P) (k : ∀ d ρ', P d ρ' → P' d ρ') : DA Γ e ρ P' := fun X c F σ H s Q q =>
  h X c F σ H s Q fun d v ρ' F' H' p => q d v ρ' F' H' (k _ _ p)
theorem DS.mono {st : Stmt} {D D' : Dn} (h : DS Γ st ρ D) (k1 : ∀ ρ', D.nx ρ' → D'.nx ρ') (k2 : ∀ d ρ', D.rt d ρ' → D'.rt d ρ') (k3 : ∀ ρ', D.bk ρ' → D'.bk ρ') (k4 : ∀ ρ', D.ct ρ' → D'.ct ρ') (k5 : ∀ ds ρ', D.rn ds ρ' → D'.rn ds ρ' := by exact fun _ _ z => z) : DS Γ st ρ D' := fun X c F σ H s En q =>
  h X c F σ H s En ⟨fun a b c d e => q.nx a b c d (k1 _ e), fun a b c d e f g => q.rt a b c d e f (k2 _ _ g), fun a b c d e => q.bk a b c d (k3 _ e), fun a b c d e => q.ct a b c d (k4 _ e), fun a b c d e f g h => q.rn a b c d e f g (k5 _ _ h)⟩
theorem DSs.mono {st : List Stmt} {D D' : Dn} (h : DSs Γ st ρ D) (k1 : ∀ ρ', D.nx ρ' → D'.nx ρ') (k2 : ∀ d ρ', D.rt d ρ' → D'.rt d ρ') (k3 : ∀ ρ', D.bk ρ' → D'.bk ρ') (k4 : ∀ ρ', D.ct ρ' → D'.ct ρ') (k5 : ∀ ds ρ', D.rn ds ρ' → D'.rn ds ρ' := by exact fun _ _ z => z) : DSs Γ st ρ D' := fun X c F σ H s En q =>
  h X c F σ H s En ⟨fun a b c d e => q.nx a b c d (k1 _ e), fun a b c d e f g => q.rt a b c d e f (k2 _ _ g), fun a b c d e => q.bk a b c d (k3 _ e), fun a b c d e => q.ct a b c d (k4 _ e), fun a b c d e f g h => q.rn a b c d e f g (k5 _ _ h)⟩

/-! ### leaves -/
/-- a name that is none of the interpreter's own -/
structure NmOk (x : Str) : Prop where
  hd : (x == ("__debug__" : Str)) = false
  hcd : (x == ("__classdict__" : Str)) = false
/-- a name of the def stands in a slot -/
structure VarAt (Γ : Sta) (i : Nat) (x : Str) : Prop where
  hN : Γ.N[i]? = some x
  vis : Vis Γ.sc x
  nm : NmOk x
theorem VarAt.pe {X : Cx} {i : Nat} {x : Str} {pos : Pos} (v : VarAt Γ i x) (c : CxIs Γ X) : PE X (.Name x pos) (tVar i) := pe_var (by rw [c.N]; exact v.hN) (by rw [c.sc]; exact v.vis) v.nm.hd v.nm.hcd
theorem de_var {i : Nat} {x : Str} {pos : Pos} {d : PyData} {P : PyData → Rh → Prop} (v : VarAt Γ i x) (h : ρ[i]? = some (.va d)) (k : P d ρ) : DE Γ (.Name x pos) ρ P := fun X c F σ H s Q q => by
  obtain ⟨u, hu, hd⟩ := s.va i d h
  exact ⟨_, v.pe c, u, hu, q d u ρ F H k .refl s hd⟩
theorem de_int {i : Int} {j pos} {P : PyData → Rh → Prop} (k : P (.int i) ρ) : DE Γ (.Constant (.int i) j pos) ρ P := fun X c F σ H s Q q => ⟨_, pe_int, q _ _ ρ F H k .refl s (.int i)⟩
theorem de_bl {b : Bool} {j pos} {P : PyData → Rh → Prop} (k : P (.bool b) ρ) : DE Γ (.Constant (.bool b) j pos) ρ P := fun X c F σ H s Q q => ⟨_, pe_bl, q _ _ ρ F H k .refl s (.bl b)⟩
theorem de_non {j pos} {P : PyData → Rh → Prop} (k : P .none ρ) : DE Γ (.Constant .none j pos) ρ P := fun X c F σ H s Q q => ⟨_, pe_non, q _ _ ρ F H k .refl s .non⟩
theorem de_str {x : Str} {j pos} {P : PyData → Rh → Prop} (k : P (.str x) ρ) : DE Γ (.Constant (.str x) j pos) ρ P := fun X c F σ H s Q q => ⟨_, pe_str, q _ _ ρ F H k .refl s (.str x)⟩
/-- a constant of the module -/
structure GlobAt (Γ : Sta) (x : Str) (d : PyData) : Prop where
  gl : Γ.sc.names.lookup x = some .globalImplicit
  at' : ∃ u v, Γ.mg x = some u ∧ RelV v u ∧ ∀ F, Dp Γ.K F v d
  hd : (x == ("__debug__" : Str)) = false
theorem de_glob {x : Str} {pos : Pos} {d : PyData} {P : PyData → Rh → Prop} (g : GlobAt Γ x d) (k : P d ρ) : DE Γ (.Name x pos) ρ P := fun X c F σ H s Q q => by
  obtain ⟨u, v, h1, h2, h3⟩ := g.at'
  exact ⟨_, pe_glob (show X.env.scope.names.lookup x = _ by rw [c.sc]; exact g.gl) (by rw [c.mg]; exact h1) h2 g.hd, q d v ρ F H k .refl s (h3 F)⟩

/-! ### operators -/
/-- an operator, by values, over data -/
def OpD (Γ : Sta) (r : R2) (x y : PyData) (P : PyData → Prop) : Prop := ∀ F H vx vy, Same F H → Dp Γ.K F vx x → Dp Γ.K F vy y → ∀ Q : VK,
  (∀ d v F' H', P d → PExt F H F' H' → Dp Γ.K F' v d → Q v H') → r vx vy H Q
theorem de_op {op : Operator} {a b : Expr} {pos : Pos} {r : R2} {P : PyData → Rh → Prop} (ho : ∀ X, CxIs Γ X → OpR X (binaryOp op) r) (h : DE Γ a ρ fun x ρ1 => DE Γ b ρ1 fun y ρ2 => OpD Γ r x y fun d => P d ρ2) : DE Γ (.BinOp a op b pos) ρ P := fun X c F σ H s Q q => by
  refine ⟨_, pe_op (ho X c) pe_wp pe_wp, ?_⟩
  refine h X c F σ H s _ fun x vx ρ1 F1 H1 h1 e1 s1 d1 => ?_
  refine h1 X c F1 σ H1 s1 _ fun y vy ρ2 F2 H2 h2 e2 s2 d2 => ?_
  refine h2 F2 H2 vx vy s2.sub (dp_mono e2.ff d1) d2 _ fun d v F3 H3 p e3 d3 => ?_
  exact q d v ρ2 F3 H3 p ((e1.trans e2).trans e3.ext) (s2.pext e3) d3
theorem de_cmp {op : CmpOp} {a b : Expr} {pos : Pos} {r : R2} {P : PyData → Rh → Prop} (ho : ∀ X, CxIs Γ X → OpR X (compareOp op) r) (hm : behindInMarks op b = false) (h : DE Γ a ρ fun x ρ1 => DE Γ b ρ1 fun y ρ2 => OpD Γ r x y fun d => P d ρ2) : DE Γ (.Compare a [op] [b] pos) ρ P := fun X c F σ H s Q q => by
  refine ⟨_, pe_cmpR (ho X c) pe_wp pe_wp hm, ?_⟩
  refine h X c F σ H s _ fun x vx ρ1 F1 H1 h1 e1 s1 d1 => ?_
  refine h1 X c F1 σ H1 s1 _ fun y vy ρ2 F2 H2 h2 e2 s2 d2 => ?_
  refine h2 F2 H2 vx vy s2.sub (dp_mono e2.ff d1) d2 _ fun d v F3 H3 p e3 d3 => ?_
  exact q d v ρ2 F3 H3 p ((e1.trans e2).trans e3.ext) (s2.pext e3) d3
theorem dt_cmp {op : CmpOp} {a b : Expr} {pos : Pos} {r : R2} {P : Bool → Rh → Prop} (ho : ∀ X, CxIs Γ X → OpR X (compareOp op) r) (hm : behindInMarks op b = false) (h : DE Γ a ρ fun x ρ1 => DE Γ b ρ1 fun y ρ2 => OpD Γ r x y fun d => ∃ k, d = .bool k ∧ P k ρ2) : DT Γ (.Compare a [op] [b] pos) ρ P := fun X c F σ H s Q q => by
  refine ⟨_, pt_cmpR (ho X c) pe_wp pe_wp hm, ?_⟩
  refine h X c F σ H s _ fun x vx ρ1 F1 H1 h1 e1 s1 d1 => ?_
  refine h1 X c F1 σ H1 s1 _ fun y vy ρ2 F2 H2 h2 e2 s2 d2 => ?_
  refine h2 F2 H2 vx vy s2.sub (dp_mono e2.ff d1) d2 _ fun d v F3 H3 p e3 d3 => ?_
  obtain ⟨k, e, p⟩ := p
  subst e
  cases d3
  exact ⟨k, rfl, q k ρ2 F3 H3 p ((e1.trans e2).trans e3.ext) (s2.pext e3)⟩
/-- ints -/
theorem opd_I0 {g : Int → Int → V} {i j : Int} {d : PyData} {P : PyData → Prop} (hg : ∀ F, Dp Γ.K F (g i j) d) (h : P d) : OpD Γ (rI0 g) (.int i) (.int j) P := fun F H vx vy sb dx dy Q q => by
  cases dx
  cases dy
  exact ⟨i, j, rfl, rfl, q _ _ F H h (.refl sb) (hg F)⟩
theorem opd_I {C : Int → Int → Prop} {g : Int → Int → V} {i j : Int} {d : PyData} {P : PyData → Prop} (hg : ∀ F, Dp Γ.K F (g i j) d) (hc : C i j) (h : P d) : OpD Γ (rI C g) (.int i) (.int j) P := fun F H vx vy sb dx dy Q q => by
  cases dx
  cases dy
  exact ⟨i, j, rfl, rfl, hc, q _ _ F H h (.refl sb) (hg F)⟩
variable {a b : Expr} {pos : Pos} {P : PyData → Rh → Prop} {PB : Bool → Rh → Prop}
/-- what a value is: an int -/
def IsI (x : PyData) (P : Int → Prop) : Prop := ∃ i, x = .int i ∧ P i
theorem de_add (h : DE Γ a ρ fun x ρ1 => DE Γ b ρ1 fun y ρ2 => ∃ i j, x = .int i ∧ y = .int j ∧ P (.int (i + j)) ρ2) : DE Γ (.BinOp a .Add b pos) ρ P := de_op (fun _ _ => op_add) (h.mono fun x ρ1 h => h.mono fun y ρ2 ⟨i, j, e1, e2, p⟩ => by
  subst e1 e2
  exact opd_I0 (fun F => .int _) p)
theorem de_sub (h : DE Γ a ρ fun x ρ1 => DE Γ b ρ1 fun y ρ2 => ∃ i j, x = .int i ∧ y = .int j ∧ P (.int (i - j)) ρ2) : DE Γ (.BinOp a .Sub b pos) ρ P := de_op (fun _ _ => op_sub) (h.mono fun x ρ1 h => h.mono fun y ρ2 ⟨i, j, e1, e2, p⟩ => by
  subst e1 e2
  exact opd_I0 (fun F => .int _) p)
theorem de_mul (h : DE Γ a ρ fun x ρ1 => DE Γ b ρ1 fun y ρ2 => ∃ i j, x = .int i ∧ y = .int j ∧ IntMulOk i j ∧ P (.int (i * j)) ρ2) : DE Γ (.BinOp a .Mult b pos) ρ P := de_op (r := rI IntMulOk fun i j => .int (i * j)) (fun _ _ => opI fun _ _ _ _ _ _ _ hc q => mul_int q hc) (h.mono fun x ρ1 h => h.mono fun y ρ2 ⟨i, j, e1, e2, c, p⟩ => by
  subst e1 e2
  exact opd_I (fun F => .int _) c p)
theorem de_mod (h : DE Γ a ρ fun x ρ1 => DE Γ b ρ1 fun y ρ2 => ∃ i j, x = .int i ∧ y = .int j ∧ j ≠ 0 ∧ P (.int (i.fmod j)) ρ2) : DE Γ (.BinOp a .Mod b pos) ρ P := de_op (fun _ _ => op_modN) (h.mono fun x ρ1 h => h.mono fun y ρ2 ⟨i, j, e1, e2, c, p⟩ => by
  subst e1 e2
  exact opd_I (C := fun _ j => j ≠ 0) (fun F => .int _) c p)
/-- what // asks -/
def DivOk (j : Int) : Prop := j ≠ 0 ∧ j.natAbs.log2 < 9000
theorem de_fdiv (h : DE Γ a ρ fun x ρ1 => DE Γ b ρ1 fun y ρ2 => ∃ i j, x = .int i ∧ y = .int j ∧ DivOk j ∧ P (.int (i.fdiv j)) ρ2) : DE Γ (.BinOp a .FloorDiv b pos) ρ P := de_op (r := rI (fun _ j => DivOk j) fun i j => .int (i.fdiv j)) (fun _ _ => opI fun i j _ _ _ _ _ hc q => floordiv_int hc.1 q (.inl (PyProof.noPylong_of_log2 hc.2))) (h.mono fun x ρ1 h => h.mono fun y ρ2 ⟨i, j, e1, e2, c, p⟩ => by
  subst e1 e2
  exact opd_I (C := fun _ j => DivOk j) (fun F => .int _) c p)
theorem de_pow (h : DE Γ a ρ fun x ρ1 => DE Γ b ρ1 fun y ρ2 => ∃ i j, x = .int i ∧ y = .int j ∧ CPow i j ∧ P (.int (i ^ j.toNat)) ρ2) : DE Γ (.BinOp a .Pow b pos) ρ P := de_op (fun _ _ => op_pow) (h.mono fun x ρ1 h => h.mono fun y ρ2 ⟨i, j, e1, e2, c, p⟩ => by
  subst e1 e2
  exact opd_I (fun F => .int _) c p)
/-- comparisons of ints, as values and as tests -/
theorem de_ltI (h : DE Γ a ρ fun x ρ1 => DE Γ b ρ1 fun y ρ2 => ∃ i j, x = .int i ∧ y = .int j ∧ P (.bool (decide (i < j))) ρ2) : DE Γ (.Compare a [.Lt] [b] pos) ρ P := de_cmp (fun _ _ => op_lt) (nomark _) (h.mono fun x ρ1 h => h.mono fun y ρ2 ⟨i, j, e1, e2, p⟩ => by
  subst e1 e2
  exact opd_I0 (fun F => .bl _) p)
theorem de_leI (h : DE Γ a ρ fun x ρ1 => DE Γ b ρ1 fun y ρ2 => ∃ i j, x = .int i ∧ y = .int j ∧ P (.bool (decide (i ≤ j))) ρ2) : DE Γ (.Compare a [.LtE] [b] pos) ρ P := de_cmp (fun _ _ => op_le) (nomark _) (h.mono fun x ρ1 h => h.mono fun y ρ2 ⟨i, j, e1, e2, p⟩ => by
  subst e1 e2
  exact opd_I0 (fun F => .bl _) p)
theorem de_gtI (h : DE Γ a ρ fun x ρ1 => DE Γ b ρ1 fun y ρ2 => ∃ i j, x = .int i ∧ y = .int j ∧ P (.bool (decide (j < i))) ρ2) : DE Γ (.Compare a [.Gt] [b] pos) ρ P := de_cmp (fun _ _ => op_gt) (nomark _) (h.mono fun x ρ1 h => h.mono fun y ρ2 ⟨i, j, e1, e2, p⟩ => by
  subst e1 e2
  exact opd_I0 (fun F => .bl _) p)
theorem de_geI (h : DE Γ a ρ fun x ρ1 => DE Γ b ρ1 fun y ρ2 => ∃ i j, x = .int i ∧ y = .int j ∧ P (.bool (decide (j ≤ i))) ρ2) : DE Γ (.Compare a [.GtE] [b] pos) ρ P := de_cmp (fun _ _ => op_ge) (nomark _) (h.mono fun x ρ1 h => h.mono fun y ρ2 ⟨i, j, e1, e2, p⟩ => by
  subst e1 e2
  exact opd_I0 (fun F => .bl _) p)
/-- == and != of data -/
theorem opd_eqD {x y : PyData} {P : PyData → Prop} (h1 : SeqAt.shaped x = true) (h2 : SeqAt.shaped y = true) (h : P (.bool (PyData.eqv x y))) : OpD Γ (rEqD Γ.K) x y P := fun F H vx vy sb dx dy Q q =>
  ⟨x, y, dp_mono sb dx, dp_mono sb dy, h1, h2, q _ _ F H h (.refl sb) (.bl _)⟩
theorem opd_neD {x y : PyData} {P : PyData → Prop} (h1 : SeqAt.shaped x = true) (h2 : SeqAt.shaped y = true) (h : P (.bool (!PyData.eqv x y))) : OpD Γ (rNeD Γ.K) x y P := fun F H vx vy sb dx dy Q q =>
  ⟨x, y, dp_mono sb dx, dp_mono sb dy, h1, h2, q _ _ F H h (.refl sb) (.bl _)⟩
theorem op_eqD' {X : Cx} (c : CxIs Γ X) : OpR X (compareOp .Eq) (rEqD Γ.K) := by
  have h := op_eqD (X := X) c.room.units
  rw [c.K] at h
  exact h
theorem op_neD' {X : Cx} (c : CxIs Γ X) : OpR X (compareOp .NotEq) (rNeD Γ.K) := by
  have h := op_neD (X := X) c.room.units
  rw [c.K] at h
  exact h
theorem de_eq (h : DE Γ a ρ fun x ρ1 => DE Γ b ρ1 fun y ρ2 => SeqAt.shaped x = true ∧ SeqAt.shaped y = true ∧ P (.bool (PyData.eqv x y)) ρ2) : DE Γ (.Compare a [.Eq] [b] pos) ρ P := de_cmp (fun _ c => op_eqD' c) (nomark _) (h.mono fun x ρ1 h => h.mono fun y ρ2 ⟨e1, e2, p⟩ => opd_eqD e1 e2 p)
theorem de_ne (h : DE Γ a ρ fun x ρ1 => DE Γ b ρ1 fun y ρ2 => SeqAt.shaped x = true ∧ SeqAt.shaped y = true ∧ P (.bool (!PyData.eqv x y)) ρ2) : DE Γ (.Compare a [.NotEq] [b] pos) ρ P := de_cmp (fun _ c => op_neD' c) (nomark _) (h.mono fun x ρ1 h => h.mono fun y ρ2 ⟨e1, e2, p⟩ => opd_neD e1 e2 p)
/-- x is None -/
theorem opd_isN {x : PyData} {P : PyData → Prop} (h : P (.bool (match x with | .none => true | _ => false))) : OpD Γ (fun x y H Q => y = .non ∧ Q (.bl (decide (x = .non))) H) x .none P := fun F H vx vy sb dx dy Q q => by
  cases dy
  refine ⟨rfl, ?_⟩
  cases dx <;> exact q _ _ F H h (.refl sb) (.bl _)
theorem opd_notN {x : PyData} {P : PyData → Prop} (h : P (.bool (match x with | .none => false | _ => true))) : OpD Γ (fun x y H Q => y = .non ∧ Q (.bl (!decide (x = .non))) H) x .none P := fun F H vx vy sb dx dy Q q => by
  cases dy
  refine ⟨rfl, ?_⟩
  cases dx <;> exact q _ _ F H h (.refl sb) (.bl _)
theorem de_isN {j pos'} (h : DE Γ a ρ fun x ρ1 => P (.bool (match x with | .none => true | _ => false)) ρ1) : DE Γ (.Compare a [.Is] [.Constant .none j pos'] pos) ρ P := de_cmp (fun _ _ => op_isN) (nomark _) (h.mono fun x ρ1 h => de_non (opd_isN h))
theorem de_notN {j pos'} (h : DE Γ a ρ fun x ρ1 => P (.bool (match x with | .none => false | _ => true)) ρ1) : DE Γ (.Compare a [.IsNot] [.Constant .none j pos'] pos) ρ P := de_cmp (fun _ _ => op_notN) (nomark _) (h.mono fun x ρ1 h => de_non (opd_notN h))
/-- unary minus -/
theorem de_neg (h : DE Γ a ρ fun x ρ1 => ∃ i, x = .int i ∧ P (.int (-i)) ρ1) : DE Γ (.UnaryOp .USub a pos) ρ P := fun X c F σ H s Q q => by
  refine ⟨_, pe_un un_neg pe_wp, ?_⟩
  refine h X c F σ H s _ fun x vx ρ1 F1 H1 h1 e1 s1 d1 => ?_
  obtain ⟨i, e, p⟩ := h1
  subst e
  cases d1
  exact ⟨i, rfl, q _ _ ρ1 F1 H1 p e1 s1 (.int _)⟩
end
end Y

/-! ## part Y2 -/
/-! Rules over data: tests, displays, subscripts, calls, statements. -/
namespace Y
open PySem PySem.Spec PyProof.Rows L2

section
variable {Γ : Sta} {ρ : Rh} {a b : Expr} {pos : Pos} {P : PyData → Rh → Prop} {PB : Bool → Rh → Prop}

/-! ### truth -/
def truD : PyData → Bool
  | .none => false
  | .bool b => b
  | .int i => i != 0
  | .str s => (s.length : Int) != 0
  | .list xs => !xs.isEmpty
  | .tuple xs => !xs.isEmpty
  | .dict xs => !xs.isEmpty
def TrOk : PyData → Prop
  | .str s => s.length ≤ sizeLine
  | .dict _ => False
  | _ => True
theorem isEmpty_dp {K : PySem.W.Frag} {F : Hp} {vs : List V} {ds : List PyData} (h : DpAll K F vs ds) : vs.isEmpty = ds.isEmpty := by
  cases h <;> rfl
theorem truV_of {K : PySem.W.Frag} {F H : Hp} {v : V} {d : PyData} (s : Same F H) (h : Dp K F v d) (k : TrOk d) : TruV K v H (truD d) := by
  cases h with
  | non => rfl
  | bl b => rfl
  | int i => rfl
  | str x => exact ⟨k, rfl⟩
  | lst h t => exact .inl ⟨_, sqL_mono s h, by show (!_) = !_; rw [isEmpty_dp t]⟩
  | tup h t => exact .inr (.inl ⟨_, sqT_mono s h, by show (!_) = !_; rw [isEmpty_dp t]⟩)
/-- a plain expression as a test -/
def Plain (e : Expr) : Prop := ∀ (env : PySem.Env) (whole : Sem Value), isTrue e env whole = (do let v ← whole; standAt e.pos; holding [v] (truthy v))
theorem dt_val (he : Plain a) (h : DE Γ a ρ fun d ρ1 => TrOk d ∧ PB (truD d) ρ1) : DT Γ a ρ PB := fun X c F σ H s Q q => by
  refine ⟨_, pt_truth pe_wp (he _), ?_⟩
  refine h X c F σ H s _ fun x vx ρ1 F1 H1 h1 e1 s1 d1 => ?_
  exact ⟨_, by rw [c.K]; exact truV_of s1.sub d1 h1.1, q _ ρ1 F1 H1 h1.2 e1 s1⟩
theorem dt_not (h : DT Γ a ρ fun k ρ1 => PB (!k) ρ1) : DT Γ (.UnaryOp .Not a pos) ρ PB := fun X c F σ H s Q q => by
  refine ⟨_, pt_not pt_wp, ?_⟩
  exact h X c F σ H s _ fun k ρ1 F1 H1 h1 e1 s1 => q _ ρ1 F1 H1 h1 e1 s1
theorem dt_w (h : DW Γ a ρ PB) : DT Γ a ρ PB := fun X c F σ H s Q q => by
  obtain ⟨t, h1, h2⟩ := h X c F σ H s Q q
  exact ⟨t, h1.pt, h2⟩
theorem dw_and1 (h : DT Γ a ρ PB) : DW Γ (.BoolOp .And [a] pos) ρ PB := fun X c F σ H s Q q => ⟨_, pw_and1 pt_wp, h X c F σ H s Q q⟩
theorem dw_or1 (h : DT Γ a ρ PB) : DW Γ (.BoolOp .Or [a] pos) ρ PB := fun X c F σ H s Q q => ⟨_, pw_or1 pt_wp, h X c F σ H s Q q⟩
variable {rest : List Expr}
theorem dw_and (h : DT Γ a ρ fun k ρ1 => if k = true then DW Γ (.BoolOp .And (b :: rest) pos) ρ1 PB else PB false ρ1) : DW Γ (.BoolOp .And (a :: b :: rest) pos) ρ PB := fun X c F σ H s Q q => by
  refine ⟨_, pw_and pt_wp pw_wp, ?_⟩
  refine h X c F σ H s _ fun k ρ1 F1 H1 h1 e1 s1 => ?_
  cases k with
  | true =>
    rw [if_pos rfl] at h1 ⊢
    exact h1 X c F1 σ H1 s1 Q fun b ρ' F' H' p e z => q b ρ' F' H' p (e1.trans e) z
  | false =>
    rw [if_neg Bool.false_ne_true] at h1 ⊢
    exact q _ ρ1 F1 H1 h1 e1 s1
theorem dw_or (h : DT Γ a ρ fun k ρ1 => if k = true then PB true ρ1 else DW Γ (.BoolOp .Or (b :: rest) pos) ρ1 PB) : DW Γ (.BoolOp .Or (a :: b :: rest) pos) ρ PB := fun X c F σ H s Q q => by
  refine ⟨_, pw_or pt_wp pw_wp, ?_⟩
  refine h X c F σ H s _ fun k ρ1 F1 H1 h1 e1 s1 => ?_
  cases k with
  | true =>
    rw [if_pos rfl] at h1 ⊢
    exact q _ ρ1 F1 H1 h1 e1 s1
  | false =>
    rw [if_neg Bool.false_ne_true] at h1 ⊢
    exact h1 X c F1 σ H1 s1 Q fun b ρ' F' H' p e z => q b ρ' F' H' p (e1.trans e) z
/-- and, or, not as values -/
theorem de_one {op} (h : DE Γ a ρ P) : DE Γ (.BoolOp op [a] pos) ρ P := fun X c F σ H s Q q => ⟨_, pe_one pe_wp, h X c F σ H s Q q⟩
theorem de_and (h : DE Γ a ρ fun x ρ1 => TrOk x ∧ if truD x = true then DE Γ (.BoolOp .And (b :: rest) pos) ρ1 P else P x ρ1) : DE Γ (.BoolOp .And (a :: b :: rest) pos) ρ P := fun X c F σ H s Q q => by
  refine ⟨_, pe_andT pe_wp pe_wp, ?_⟩
  refine h X c F σ H s _ fun x vx ρ1 F1 H1 h1 e1 s1 d1 => ?_
  refine ⟨_, by rw [c.K]; exact truV_of s1.sub d1 h1.1, ?_⟩
  obtain ⟨_, h1⟩ := h1
  by_cases k : truD x = true
  · rw [if_pos k] at h1 ⊢
    exact h1 X c F1 σ H1 s1 Q fun d v ρ' F' H' p e z => q d v ρ' F' H' p (e1.trans e) z
  · rw [if_neg k] at h1 ⊢
    exact q _ _ ρ1 F1 H1 h1 e1 s1 d1
theorem de_or (h : DE Γ a ρ fun x ρ1 => TrOk x ∧ if truD x = true then P x ρ1 else DE Γ (.BoolOp .Or (b :: rest) pos) ρ1 P) : DE Γ (.BoolOp .Or (a :: b :: rest) pos) ρ P := fun X c F σ H s Q q => by
  refine ⟨_, pe_orT pe_wp pe_wp, ?_⟩
  refine h X c F σ H s _ fun x vx ρ1 F1 H1 h1 e1 s1 d1 => ?_
  refine ⟨_, by rw [c.K]; exact truV_of s1.sub d1 h1.1, ?_⟩
  obtain ⟨_, h1⟩ := h1
  by_cases k : truD x = true
  · rw [if_pos k] at h1 ⊢
    exact q _ _ ρ1 F1 H1 h1 e1 s1 d1
  · rw [if_neg k] at h1 ⊢
    exact h1 X c F1 σ H1 s1 Q fun d v ρ' F' H' p e z => q d v ρ' F' H' p (e1.trans e) z
theorem de_not (h : DE Γ a ρ fun x ρ1 => TrOk x ∧ P (.bool (!truD x)) ρ1) : DE Γ (.UnaryOp .Not a pos) ρ P := fun X c F σ H s Q q => by
  refine ⟨_, pe_notT pe_wp, ?_⟩
  refine h X c F σ H s _ fun x vx ρ1 F1 H1 h1 e1 s1 d1 => ?_
  exact ⟨_, by rw [c.K]; exact truV_of s1.sub d1 h1.1, q _ _ ρ1 F1 H1 h1.2 e1 s1 (.bl _)⟩
theorem de_ifE {t : Expr} (h : DT Γ t ρ fun k ρ1 => if k = true then DE Γ a ρ1 P else DE Γ b ρ1 P) : DE Γ (.IfExp t a b pos) ρ P := fun X c F σ H s Q q => by
  refine ⟨_, pe_ifExp pt_wp pe_wp pe_wp, ?_⟩
  refine h X c F σ H s _ fun k ρ1 F1 H1 h1 e1 s1 => ?_
  cases k with
  | true =>
    rw [if_pos rfl] at h1 ⊢
    exact h1 X c F1 σ H1 s1 Q fun d v ρ' F' H' p e z => q d v ρ' F' H' p (e1.trans e) z
  | false =>
    rw [if_neg Bool.false_ne_true] at h1 ⊢
    exact h1 X c F1 σ H1 s1 Q fun d v ρ' F' H' p e z => q d v ρ' F' H' p (e1.trans e) z

/-! ### lists of arguments, displays -/
def NoStar (e : Expr) : Prop := ∀ (es : List Expr) (env : PySem.Env), starEach (e :: es) env = (false, eval e env) :: starEach es env
theorem da_nil {P : List PyData → Rh → Prop} (k : P [] ρ) : DA Γ [] ρ P := fun X c F σ H s Q q => ⟨_, pa_nil, q _ _ ρ F H k .refl s .nil⟩
theorem da_cons {P : List PyData → Rh → Prop} {es : List Expr} (ns : NoStar a) (h : DE Γ a ρ fun x ρ1 => DA Γ es ρ1 fun xs ρ2 => P (x :: xs) ρ2) : DA Γ (a :: es) ρ P := fun X c F σ H s Q q => by
  refine ⟨_, pa_cons pe_wp pa_wp (ns _ _), ?_⟩
  refine h X c F σ H s _ fun x vx ρ1 F1 H1 h1 e1 s1 d1 => ?_
  refine h1 X c F1 σ H1 s1 _ fun xs vs ρ2 F2 H2 h2 e2 s2 d2 => ?_
  exact q _ _ ρ2 F2 H2 h2 (e1.trans e2) s2 (.cons (dp_mono e2.ff d1) d2)
theorem de_tup {es : List Expr} {x1} (h : DA Γ es ρ fun ds ρ1 => ds.length ≤ sizeLine ∧ P (.tuple ds) ρ1) : DE Γ (.Tuple es x1 pos) ρ P := fun X c F σ H s Q q => by
  refine ⟨_, pe_tup pa_wp, ?_⟩
  refine h X c F σ H s _ fun xs vs ρ1 F1 H1 h1 e1 s1 d1 => ?_
  refine ⟨by rw [dpAll_len d1]; exact h1.1, fun p hp => ?_⟩
  have x : PExt F1 H1 (upd F1 p (.tup vs)) (upd H1 p (.tup vs)) := .new s1.sub hp
  exact q _ _ ρ1 _ _ h1.2 (e1.trans x.ext) (s1.pext x) (.tup (.of upd_same) (dpAll_mono x.ff d1))
theorem Sx.noow {W : Wr} {K : PySem.W.Frag} {F H : Hp} {σ : L2.St} {ρ : Rh} (s : Sx W K F H σ ρ) {p : Addr} (hp : H p = none) (i : Nat) (es : List PyData) : ρ[i]? ≠ some (.ow p es) := fun e => by
  obtain ⟨_, _, _, vs, c, _⟩ := s.ow i p es e
  rw [hp] at c
  cases c
theorem dn_lst {es : List Expr} {P : List PyData → Rh → Prop} (h : DA Γ es ρ fun ds ρ1 => ds.length ≤ sizeLine ∧ P ds ρ1) : DN Γ (.List es pos) ρ P := fun X c F σ H s Q q => by
  refine ⟨_, pe_lst pa_wp, ?_⟩
  refine h X c F σ H s _ fun xs vs ρ1 F1 H1 h1 e1 s1 d1 => ?_
  refine ⟨by rw [dpAll_len d1]; exact h1.1, fun p hp => ?_⟩
  have x : PExt F1 H1 F1 (upd H1 p (.lst vs)) := .cell s1.sub hp
  exact q _ p vs ρ1 _ _ h1.2 (e1.trans x.ext) (s1.pext x) (e1.free hp) (s1.free hp) (s1.new p hp) upd_same d1 (s1.noow hp)
/-- a new list is frozen -/
theorem de_dn {e : Expr} (h : DN Γ e ρ fun ds ρ1 => P (.list ds) ρ1) : DE Γ e ρ P := fun X c F σ H s Q q => by
  refine h X c F σ H s _ fun ds p vs ρ1 F1 H1 h1 e1 s1 hf hp hw hl d1 no => ?_
  have ff : Same F1 (upd F1 p (.lst vs)) := fun a o z => by rw [upd_ne (ne_of_none z hp)]; exact z
  have ef : Ext Γ.W.w F1 H1 (upd F1 p (.lst vs)) H1 := ⟨ff, fun _ _ z _ => z, fun a _ wa fa => by rw [upd_ne (fun z => wa (by rw [z]; exact hw))]; exact fa, fun _ z => z⟩
  refine q _ _ ρ1 (upd F1 p (.lst vs)) H1 h1 (e1.trans ef) ⟨fun a o z => ?_, s1.len, fun i d z => ?_, fun i r es z => ?_, s1.apart, s1.new, s1.rch.trans ef⟩ (.lst (.of upd_same) (dpAll_mono ff d1))
  · by_cases k : a = p
    · subst k
      rw [upd_same] at z
      rw [← z]
      exact hl
    · rw [upd_ne k] at z
      exact s1.sub a o z
  · obtain ⟨v, z1, z2⟩ := s1.va i d z
    exact ⟨v, z1, dp_mono ff z2⟩
  · obtain ⟨z1, z2, z3, ws, z4, z5⟩ := s1.ow i r es z
    have k : r ≠ p := fun k => no i es (by rw [← k]; exact z)
    exact ⟨z1, by rw [upd_ne k]; exact z2, z3, ws, z4, dpAll_mono ff z5⟩

/-! ### subscripts, slices -/
def AtD (x y : PyData) (P : PyData → Prop) : Prop := ∃ xs i d, (x = .list xs ∨ x = .tuple xs) ∧ y = .int i ∧ atI xs i = some d ∧ P d
theorem atI_dp {K : PySem.W.Frag} {F : Hp} {vs : List V} {ds : List PyData} {i : Int} {d : PyData} (h : DpAll K F vs ds) (e : atI ds i = some d) : ∃ v, atI vs i = some v ∧ Dp K F v d := by
  unfold atI at e ⊢
  rw [dpAll_len h]
  cases q : ixN ds.length i with
  | none =>
    rw [q] at e
    cases e
  | some j =>
    rw [q] at e
    exact dpAll_get h e
theorem de_ix (hs : PlainIx b) (h : DE Γ a ρ fun x ρ1 => DE Γ b ρ1 fun y ρ2 => AtD x y fun d => P d ρ2) : DE Γ (.Subscript a b pos) ρ P := fun X c F σ H s Q q => by
  refine ⟨_, pe_ix (ix_list.or ix_tup) pe_wp pe_wp hs, ?_⟩
  refine h X c F σ H s _ fun x vx ρ1 F1 H1 h1 e1 s1 d1 => ?_
  refine h1 X c F1 σ H1 s1 _ fun y vy ρ2 F2 H2 h2 e2 s2 d2 => ?_
  obtain ⟨xs, i, d, e, e', hi, p⟩ := h2
  subst e'
  have d1' := dp_mono e2.ff d1
  cases d2
  rcases e with e | e <;> subst e
  · cases d1' with
    | lst hq ha =>
      obtain ⟨v, hv, hd⟩ := atI_dp ha hi
      exact .inl ⟨_, _, i, v, rfl, rfl, by rw [c.K]; exact sqL_mono s2.sub hq, hv, q d v ρ2 F2 H2 p (e1.trans e2) s2 hd⟩
  · cases d1' with
    | tup hq ha =>
      obtain ⟨v, hv, hd⟩ := atI_dp ha hi
      exact .inr ⟨_, _, i, v, rfl, rfl, by rw [c.K]; exact sqT_mono s2.sub hq, hv, q d v ρ2 F2 H2 p (e1.trans e2) s2 hd⟩
/-- an item of a list of one's own -/
def AtO (ρ : Rh) (i : Nat) (y : PyData) (P : PyData → Prop) : Prop := ∃ p ds k d, ρ[i]? = some (.ow p ds) ∧ y = .int k ∧ atI ds k = some d ∧ P d
theorem atO_of {i : Nat} {p : Addr} {ds : List PyData} {k : Int} {d : PyData} {P : PyData → Prop} (h : ρ[i]? = some (.ow p ds)) (hi : atI ds k = some d) (q : P d) : AtO ρ i (.int k) P := ⟨p, ds, k, d, h, rfl, hi, q⟩
theorem de_ixO {i : Nat} {x : Str} {px : Pos} {p0 : Addr} {ds0 : List PyData} (v : VarAt Γ i x) (hs : PlainIx b) (hi : ρ[i]? = some (.ow p0 ds0)) (h : DE Γ b ρ fun y ρ1 => AtO ρ1 i y fun d => P d ρ1) : DE Γ (.Subscript (.Name x px) b pos) ρ P := fun X c F σ H s Q q => by
  refine ⟨_, pe_ix ix_list (v.pe c) pe_wp hs, ?_⟩
  obtain ⟨z0, _⟩ := s.ow i p0 ds0 hi
  refine ⟨_, z0, ?_⟩
  refine h X c F σ H s _ fun y vy ρ1 F1 H1 h1 e1 s1 d1 => ?_
  obtain ⟨p, ds, k, d, hi1, e, hk, hp⟩ := h1
  subst e
  cases d1
  obtain ⟨z1, _, _, vs, z4, z5⟩ := s1.ow i p ds hi1
  obtain ⟨w, hw, hd⟩ := atI_dp z5 hk
  rw [z0] at z1
  have e2 : p0 = p := by cases z1; rfl
  subst e2
  exact ⟨p0, vs, k, w, rfl, rfl, .of z4, hw, q d w ρ1 F1 H1 hp e1 s1 hd⟩
/-- a part of a slice -/
def DO (Γ : Sta) (o : Option Expr) (ρ : Rh) (P : Option Int → Rh → Prop) : Prop := match o with
  | none => P none ρ
  | some e => DE Γ e ρ fun d ρ1 => ∃ i, d = .int i ∧ P (some i) ρ1
def wpo (X : Cx) (e : Option Expr) : TO := fun σ H Q => ∃ t, PO X e t ∧ t σ H Q
theorem po_wp {X : Cx} {e : Option Expr} : PO X e (wpo X e) := ⟨fun pins s σ H Q I ⟨_, h, q⟩ => h.run pins s σ H Q I q⟩
theorem do_run {o : Option Expr} {P : Option Int → Rh → Prop} (h : DO Γ o ρ P) : ∀ X, CxIs Γ X → ∀ F σ H, Sx Γ.W Γ.K F H σ ρ → ∀ Q : Option Int → Hp → Prop,
    (∀ i ρ' F' H', P i ρ' → Ext Γ.W.w F H F' H' → Sx Γ.W Γ.K F' H' σ ρ' → Q i H') → wpo X o σ H Q := fun X c F σ H s Q q => by
  cases o with
  | none => exact ⟨_, po_none, q _ ρ F H h .refl s⟩
  | some e =>
    refine ⟨_, po_some pe_wp, ?_⟩
    refine DE.mono h (fun _ _ z => z) X c F σ H s _ fun x vx ρ1 F1 H1 h1 e1 s1 d1 => ?_
    obtain ⟨i, z, p⟩ := h1
    subst z
    cases d1
    exact ⟨i, rfl, q _ ρ1 F1 H1 p e1 s1⟩
def cutD (xs : List PyData) (lo hi : Option Int) : List PyData := (xs.drop (HT.sIx xs.length 0 lo)).take (HT.sIx xs.length xs.length hi - HT.sIx xs.length 0 lo)
theorem cut_dp {K : PySem.W.Frag} {F : Hp} {vs : List V} {ds : List PyData} {lo hi : Option Int} (h : DpAll K F vs ds) : DpAll K F (cutV vs lo hi) (cutD ds lo hi) := by
  unfold cutV cutD
  rw [dpAll_len h]
  exact dpAll_take _ (dpAll_drop _ h)
theorem dn_sl {lo hi : Option Expr} {p2 : Pos} {P : List PyData → Rh → Prop} (h : DE Γ a ρ fun x ρ1 => DO Γ lo ρ1 fun l ρ2 => DO Γ hi ρ2 fun u ρ3 => ∃ xs, x = .list xs ∧ P (cutD xs l u) ρ3) : DN Γ (.Subscript a (.Slice lo hi none p2) pos) ρ P := fun X c F σ H s Q q => by
  refine ⟨_, pe_slice sl_list pe_wp po_wp po_wp, ?_⟩
  refine h X c F σ H s _ fun x vx ρ1 F1 H1 h1 e1 s1 d1 => ?_
  refine do_run h1 X c F1 σ H1 s1 _ fun l ρ2 F2 H2 h2 e2 s2 => ?_
  refine do_run h2 X c F2 σ H2 s2 _ fun u ρ3 F3 H3 h3 e3 s3 => ?_
  obtain ⟨xs, e, p⟩ := h3
  subst e
  have d1' := dp_mono (e2.ff.trans e3.ff) d1
  cases d1' with
  | @lst a vs _ hq ha =>
    refine ⟨_, vs, rfl, by rw [c.K]; exact sqL_mono s3.sub hq, fun r hr => ?_⟩
    have x : PExt F3 H3 F3 (upd H3 r (.lst (cutV vs l u))) := .cell s3.sub hr
    have ee := (e1.trans e2).trans e3
    exact q _ r _ ρ3 _ _ p (ee.trans x.ext) (s3.pext x) (ee.free hr) (s3.free hr) (s3.new r hr) upd_same (cut_dp ha) (s3.noow hr)

/-! ### calls of built-ins -/
/-- a name of the built-ins -/
structure BltAt (Γ : Sta) (x : Str) : Prop where
  gl : Γ.sc.names.lookup x = some .globalImplicit
  mg : Γ.mg x = none
def NoStars (es : List Expr) : Prop := ∀ (env : PySem.Env) (pos : Pos), (backTo pos (starEach es env)).any (·.1) = false
/-- a built-in's answer over data -/
def CallD (Γ : Sta) (r : List V → Hp → VK → Prop) (xs : List PyData) (P : PyData → Prop) : Prop := ∀ F H vs, Same F H → DpAll Γ.K F vs xs → ∀ Q : VK,
  (∀ d v F' H', P d → PExt F H F' H' → Dp Γ.K F' v d → Q v H') → r vs H Q
theorem de_callB {x : Str} {id : String} {p : Pos} {es : List Expr} {r : List V → Hp → VK → Prop} (hc : ∀ X, CxIs Γ X → CallR X (.builtin id) r) (g : BltAt Γ x) (hv : bootBuiltins x = some (.builtin id)) (hn : x ≠ "__name__") (hd : (x == ("__debug__" : Str)) = false)
    (ns : NoStar a) (nst : NoStars es) (h : DA Γ (a :: es) ρ fun xs ρ1 => CallD Γ r xs fun d => P d ρ1) : DE Γ (.Call (.Name x p) (a :: es) [] pos) ρ P := fun X c F σ H s Q q => by
  refine ⟨_, pe_callB (hc X c) (show X.env.scope.names.lookup x = _ by rw [c.sc]; exact g.gl) (by rw [c.mg]; exact g.mg) hv pa_wp hn hd (ns _ _) (nst _ _), ?_⟩
  refine h X c F σ H s _ fun xs vs ρ1 F1 H1 h1 e1 s1 d1 => ?_
  exact h1 F1 H1 vs s1.sub d1 Q fun d v F2 H2 p e2 d2 => q d v ρ1 F2 H2 p (e1.trans e2.ext) (s1.pext e2) d2
theorem de_callTy {x : Str} {id : String} {p : Pos} {es : List Expr} {r : List V → Hp → VK → Prop} (hc : ∀ X, CxIs Γ X → CallR X (.type id) r) (g : BltAt Γ x) (hv : bootBuiltins x = some (.type id)) (hn : x ≠ "__name__") (hd : (x == ("__debug__" : Str)) = false)
    (ns : NoStar a) (nst : NoStars es) (h : DA Γ (a :: es) ρ fun xs ρ1 => CallD Γ r xs fun d => P d ρ1) : DE Γ (.Call (.Name x p) (a :: es) [] pos) ρ P := fun X c F σ H s Q q => by
  refine ⟨_, pe_callTy (hc X c) (show X.env.scope.names.lookup x = _ by rw [c.sc]; exact g.gl) (by rw [c.mg]; exact g.mg) hv pa_wp hn hd (ns _ _) (nst _ _), ?_⟩
  refine h X c F σ H s _ fun xs vs ρ1 F1 H1 h1 e1 s1 d1 => ?_
  exact h1 F1 H1 vs s1.sub d1 Q fun d v F2 H2 p e2 d2 => q d v ρ1 F2 H2 p (e1.trans e2.ext) (s1.pext e2) d2
/-- a built-in class that makes a new list -/
def CallN (Γ : Sta) (r : List V → Hp → VK → Prop) (xs : List PyData) (P : List PyData → Prop) : Prop := ∀ F H vs, Same F H → DpAll Γ.K F vs xs → ∀ Q : VK,
  (∀ ds us p, P ds → H p = none → DpAll Γ.K F us ds → Q (.ref p) (upd H p (.lst us))) → r vs H Q
theorem dn_call {f : Expr} {es : List Expr} {r : List V → Hp → VK → Prop} {P : List PyData → Rh → Prop} (hc : ∀ X, CxIs Γ X → ∃ t, (∀ σ H Q, (wpa X (a :: es) σ H fun vs H1 => r vs H1 Q) → t σ H Q) ∧ PE X (.Call f (a :: es) [] pos) t)
    (h : DA Γ (a :: es) ρ fun xs ρ1 => CallN Γ r xs fun d => P d ρ1) : DN Γ (.Call f (a :: es) [] pos) ρ P := fun X c F σ H s Q q => by
  obtain ⟨t, h1, h2⟩ := hc X c
  refine ⟨t, h2, h1 σ H Q ?_⟩
  refine h X c F σ H s _ fun xs vs ρ1 F1 H1 h1 e1 s1 d1 => ?_
  refine h1 F1 H1 vs s1.sub d1 Q fun ds us p hp hf hd => ?_
  have x : PExt F1 H1 F1 (upd H1 p (.lst us)) := .cell s1.sub hf
  exact q ds p us ρ1 _ _ hp (e1.trans x.ext) (s1.pext x) (e1.free hf) (s1.free hf) (s1.new p hf) upd_same hd (s1.noow hf)
variable {es : List Expr} {p : Pos}
theorem vals_1 {K : PySem.W.Frag} {F : Hp} {vs : List V} {d : PyData} (h : DpAll K F vs [d]) : ∃ v, vs = [v] ∧ Dp K F v d := by
  cases h with
  | cons h t =>
    cases t
    exact ⟨_, rfl, h⟩
theorem vals_2 {K : PySem.W.Frag} {F : Hp} {vs : List V} {d e : PyData} (h : DpAll K F vs [d, e]) : ∃ v w, vs = [v, w] ∧ Dp K F v d ∧ Dp K F w e := by
  cases h with
  | cons h t =>
    obtain ⟨w, rfl, h2⟩ := vals_1 t
    exact ⟨_, _, rfl, h, h2⟩
def lenD : PyData → Option Nat
  | .list xs => some xs.length
  | .tuple xs => some xs.length
  | .str s => if s.length ≤ sizeLine then some s.length else none
  | _ => none
def rLenD (K : PySem.W.Frag) : List V → Hp → VK → Prop := fun xs H Q => ∃ x n, xs = [x] ∧ LenV K x H n ∧ Q (.int (n : Nat)) H
theorem call_len' {X : Cx} (c : CxIs Γ X) : CallR X (.builtin "len") (rLenD Γ.K) := by
  have h := call_len (X := X)
  rw [c.K] at h
  exact h
theorem lenV_of {K : PySem.W.Frag} {F H : Hp} {v : V} {d : PyData} {n : Nat} (s : Same F H) (h : Dp K F v d) (k : lenD d = some n) : LenV K v H n := by
  cases h with
  | str x =>
    have k : (if x.length ≤ sizeLine then some x.length else none) = some n := k
    by_cases q : x.length ≤ sizeLine
    · rw [if_pos q] at k
      have k := Option.some.inj k
      subst k
      exact ⟨q, rfl⟩
    · rw [if_neg q] at k
      exact nomatch k
  | lst h t =>
    cases k
    exact .inl ⟨_, sqL_mono s h, (dpAll_len t).symm⟩
  | tup h t =>
    cases k
    exact .inr ⟨_, sqT_mono s h, (dpAll_len t).symm⟩
  | _ => cases k
theorem de_len (g : BltAt Γ "len") (ns : NoStar a) (h : DE Γ a ρ fun x ρ1 => ∃ n, lenD x = some n ∧ P (.int n) ρ1) : DE Γ (.Call (.Name "len" p) [a] [] pos) ρ P :=
  de_callB (fun X c => call_len' c) g PySem.boot_len (by decide) (by decide) ns (fun _ _ => rfl) (da_cons ns (h.mono fun x ρ1 ⟨n, hn, hp⟩ => da_nil fun F H vs sb hd Q q => by
    obtain ⟨v, rfl, d1⟩ := vals_1 hd
    exact ⟨v, n, rfl, lenV_of sb d1 hn, q _ _ F H hp (.refl sb) (.int _)⟩))
theorem de_abs (g : BltAt Γ "abs") (ns : NoStar a) (h : DE Γ a ρ fun x ρ1 => ∃ i, x = .int i ∧ P (.int (if i < 0 then -i else i)) ρ1) : DE Γ (.Call (.Name "abs" p) [a] [] pos) ρ P :=
  de_callB (fun X c => call_abs) g (by decide +kernel) (by decide) (by decide) ns (fun _ _ => rfl) (da_cons ns (h.mono fun x ρ1 ⟨i, hi, hp⟩ => da_nil fun F H vs sb hd Q q => by
    obtain ⟨v, rfl, d1⟩ := vals_1 hd
    subst hi
    cases d1
    exact ⟨i, rfl, q _ _ F H hp (.refl sb) (.int _)⟩))
def intD : PyData → Option Int
  | .int i => some i
  | .bool b => some (if b then 1 else 0)
  | _ => none
theorem de_intc (g : BltAt Γ "int") (ns : NoStar a) (h : DE Γ a ρ fun x ρ1 => ∃ i, intD x = some i ∧ P (.int i) ρ1) : DE Γ (.Call (.Name "int" p) [a] [] pos) ρ P :=
  de_callTy (fun X c => call_int1) g (by decide +kernel) (by decide) (by decide) ns (fun _ _ => rfl) (da_cons ns (h.mono fun x ρ1 ⟨i, hi, hp⟩ => da_nil fun F H vs sb hd Q q => by
    obtain ⟨v, rfl, d1⟩ := vals_1 hd
    cases d1 <;> simp only [intD, reduceCtorEq, Option.some.injEq] at hi
    · subst hi
      exact .inr ⟨_, rfl, q _ _ F H hp (.refl sb) (.int _)⟩
    · subst hi
      exact .inl ⟨_, rfl, q _ _ F H hp (.refl sb) (.int _)⟩))
theorem de_min2 (g : BltAt Γ "min") (ns : NoStar a) (ns2 : NoStar b) (h : DE Γ a ρ fun x ρ1 => DE Γ b ρ1 fun y ρ2 => ∃ i j, x = .int i ∧ y = .int j ∧ P (.int (if j < i then j else i)) ρ2) : DE Γ (.Call (.Name "min" p) [a, b] [] pos) ρ P :=
  de_callB (fun X c => call_min2 c.calm) g (by decide +kernel) (by decide) (by decide) ns (fun _ _ => by rw [ns2]; rfl) (da_cons ns (h.mono fun x ρ1 h => da_cons ns2 (h.mono fun y ρ2 ⟨i, j, hi, hj, hp⟩ => da_nil fun F H vs sb hd Q q => by
    obtain ⟨v, w, rfl, d1, d2⟩ := vals_2 hd
    subst hi hj
    cases d1
    cases d2
    exact ⟨i, j, rfl, q _ _ F H hp (.refl sb) (.int _)⟩)))
theorem de_max2 (g : BltAt Γ "max") (ns : NoStar a) (ns2 : NoStar b) (h : DE Γ a ρ fun x ρ1 => DE Γ b ρ1 fun y ρ2 => ∃ i j, x = .int i ∧ y = .int j ∧ P (.int (if j > i then j else i)) ρ2) : DE Γ (.Call (.Name "max" p) [a, b] [] pos) ρ P :=
  de_callB (fun X c => call_max2 c.calm) g (by decide +kernel) (by decide) (by decide) ns (fun _ _ => by rw [ns2]; rfl) (da_cons ns (h.mono fun x ρ1 h => da_cons ns2 (h.mono fun y ρ2 ⟨i, j, hi, hj, hp⟩ => da_nil fun F H vs sb hd Q q => by
    obtain ⟨v, w, rfl, d1, d2⟩ := vals_2 hd
    subst hi hj
    cases d1
    cases d2
    exact ⟨i, j, rfl, q _ _ F H hp (.refl sb) (.int _)⟩)))
end
end Y

/-! ## part Y3 -/
/-! Rules over data: list(..), tuple(..), isinstance, calls of the text's own defs, statements, loops, comprehensions. -/
namespace Y
open PySem PySem.Spec PyProof.Rows L2

section
variable {Γ : Sta} {ρ : Rh} {a b : Expr} {pos p : Pos} {P : PyData → Rh → Prop} {PB : Bool → Rh → Prop} {PL : List PyData → Rh → Prop} {es : List Expr}
def rListD (K : PySem.W.Frag) : List V → Hp → VK → Prop := fun xs H Q => ∃ p ys, xs = [.ref p] ∧ (SqL K H p ys ∨ SqT K H p ys) ∧ ∀ l, H l = none → Q (.ref l) (upd H l (.lst ys))
def SeqD (x : PyData) (xs : List PyData) : Prop := x = .list xs ∨ x = .tuple xs
theorem dn_listc (g : BltAt Γ "list") (ns : NoStar a) (h : DE Γ a ρ fun x ρ1 => ∃ xs, SeqD x xs ∧ PL xs ρ1) : DN Γ (.Call (.Name "list" p) [a] [] pos) ρ PL :=
  dn_call (r := rListD Γ.K) (fun X c => ⟨_, fun σ H Q z => z, pe_callTy (by have h := call_list_of (X := X); rw [c.K] at h; exact h) (show X.env.scope.names.lookup _ = _ by rw [c.sc]; exact g.gl) (by rw [c.mg]; exact g.mg) (by decide +kernel) pa_wp (by decide) (by decide) (ns _ _) rfl⟩)
    (da_cons ns (h.mono fun x ρ1 ⟨xs, e, hp⟩ => da_nil fun F H vs sb hd Q q => by
      obtain ⟨v, rfl, d1⟩ := vals_1 hd
      rcases e with e | e <;> subst e
      · cases d1 with
        | lst hq ha => exact ⟨_, _, rfl, .inl (sqL_mono sb hq), fun l hl => q _ _ l hp hl ha⟩
      · cases d1 with
        | tup hq ha => exact ⟨_, _, rfl, .inr (sqT_mono sb hq), fun l hl => q _ _ l hp hl ha⟩))
def rTupD (K : PySem.W.Frag) : List V → Hp → VK → Prop := fun xs H Q => ∃ a ys, xs = [.ref a] ∧ ((SqL K H a ys ∧ ∀ l, H l = none → Q (.ref l) (upd H l (.tup ys))) ∨ (SqT K H a ys ∧ Q (.ref a) H))
theorem de_tupc (g : BltAt Γ "tuple") (ns : NoStar a) (h : DE Γ a ρ fun x ρ1 => ∃ xs, SeqD x xs ∧ P (.tuple xs) ρ1) : DE Γ (.Call (.Name "tuple" p) [a] [] pos) ρ P :=
  de_callTy (r := rTupD Γ.K) (fun X c => by have h := call_tuple_of (X := X); rw [c.K] at h; exact h) g (by decide +kernel) (by decide) (by decide) ns (fun _ _ => rfl) (da_cons ns (h.mono fun x ρ1 ⟨xs, e, hp⟩ => da_nil fun F H vs sb hd Q q => by
    obtain ⟨v, rfl, d1⟩ := vals_1 hd
    rcases e with e | e <;> subst e
    · cases d1 with
      | @lst a1 vs1 _ hq ha =>
        refine ⟨_, _, rfl, .inl ⟨sqL_mono sb hq, fun l hl => ?_⟩⟩
        have x : PExt F H (upd F l (.tup vs1)) (upd H l (.tup vs1)) := .new sb hl
        exact q _ _ _ _ hp x (.tup (.of upd_same) (dpAll_mono x.ff ha))
    · cases d1 with
      | tup hq ha => exact ⟨_, _, rfl, .inr ⟨sqT_mono sb hq, q _ _ F H hp (.refl sb) (.tup hq ha)⟩⟩))
theorem bls_of {K : PySem.W.Frag} {F : Hp} : ∀ {bs : List Bool} {vs : List V}, DpAll K F vs (bs.map PyData.bool) → vs = bs.map V.bl
  | [], _, h => by cases h; rfl
  | k :: r, _, h => by
    cases h with
    | cons h t =>
      cases h
      rw [bls_of t]
      rfl
theorem de_all (g : BltAt Γ "all") (ns : NoStar a) (h : DE Γ a ρ fun x ρ1 => ∃ bs : List Bool, x = .list (bs.map .bool) ∧ P (.bool (bs.all id)) ρ1) : DE Γ (.Call (.Name "all" p) [a] [] pos) ρ P :=
  de_callB (r := rAll Γ.K) (fun X c => by have h := cr_all (X := X) c.calm; rw [c.K] at h; exact h) g (by decide +kernel) (by decide) (by decide) ns (fun _ _ => rfl) (da_cons ns (h.mono fun x ρ1 ⟨bs, e, hp⟩ => da_nil fun F H vs sb hd Q q => by
    obtain ⟨v, rfl, d1⟩ := vals_1 hd
    subst e
    cases d1 with
    | lst hq ha =>
      rw [bls_of ha] at hq
      exact ⟨_, bs, rfl, sqL_mono sb hq, q _ _ F H hp (.refl sb) (.bl _)⟩))
theorem de_any (g : BltAt Γ "any") (ns : NoStar a) (h : DE Γ a ρ fun x ρ1 => ∃ bs : List Bool, x = .list (bs.map .bool) ∧ P (.bool (bs.any id)) ρ1) : DE Γ (.Call (.Name "any" p) [a] [] pos) ρ P :=
  de_callB (r := rAny Γ.K) (fun X c => by have h := cr_any (X := X) c.calm; rw [c.K] at h; exact h) g (by decide +kernel) (by decide) (by decide) ns (fun _ _ => rfl) (da_cons ns (h.mono fun x ρ1 ⟨bs, e, hp⟩ => da_nil fun F H vs sb hd Q q => by
    obtain ⟨v, rfl, d1⟩ := vals_1 hd
    subst e
    cases d1 with
    | lst hq ha =>
      rw [bls_of ha] at hq
      exact ⟨_, bs, rfl, sqL_mono sb hq, q _ _ F H hp (.refl sb) (.bl _)⟩))

/-! ### isinstance -/
def tyS : PyData → String
  | .none => "NoneType"
  | .bool _ => "bool"
  | .int _ => "int"
  | .str _ => "str"
  | .list _ => "list"
  | .tuple _ => "tuple"
  | .dict _ => "dict"
theorem tyX_of {K : PySem.W.Frag} {F H : Hp} {v : V} {d : PyData} (s : Same F H) (h : Dp K F v d) : TyX K H v (.type (tyS d)) := by
  cases h with
  | non => exact .base .non
  | bl b => exact .base (.bl b)
  | int i => exact .base (.int i)
  | str x => exact .base (.str x)
  | lst h t =>
    rcases sqL_mono s h with (h | ⟨o, h⟩) | ⟨o, its, n, h, hc, _⟩
    · exact .base (.lst h)
    · exact .base (.frz h)
    · exact .kList h hc
  | tup h t =>
    rcases sqT_mono s h with (h | ⟨o, h⟩) | ⟨o, its, n, h, hc, _⟩
    · exact .base (.tup h)
    · exact .fTuple h
    · exact .kTuple h hc
/-- is it an instance of the built-in class? -/
def isS (S T : String) : Bool := S == T || (T == "int" && S == "bool")
def isTy (T : String) (d : PyData) : Bool := isS (tyS d) T
theorem kit_tab : ∀ S ∈ ["NoneType", "bool", "int", "str", "list", "tuple", "dict"], ∀ T ∈ ["int", "bool", "str", "list", "tuple"], kitB S T = some (isS S T) := by decide +kernel
theorem kit_isTy {T : String} (hT : T = "int" ∨ T = "bool" ∨ T = "str" ∨ T = "list" ∨ T = "tuple") (d : PyData) : kitB (tyS d) T = some (isTy T d) :=
  kit_tab (tyS d) (by cases d <;> simp [tyS]) T (by rcases hT with e | e | e | e | e <;> simp [e])
structure TyNm (T : Str) (n : String) : Prop where
  hv : bootBuiltins T = some (.type n)
  hn : T ≠ "__name__"
  hd : (T == ("__debug__" : Str)) = false
  hT : n = "int" ∨ n = "bool" ∨ n = "str" ∨ n = "list" ∨ n = "tuple"
theorem ty_int : TyNm "int" "int" := ⟨by decide +kernel, by decide, by decide, by simp⟩
theorem ty_bool : TyNm "bool" "bool" := ⟨by decide +kernel, by decide, by decide, by simp⟩
theorem ty_str : TyNm "str" "str" := ⟨by decide +kernel, by decide, by decide, by simp⟩
theorem ty_list : TyNm "list" "list" := ⟨by decide +kernel, by decide, by decide, by simp⟩
theorem ty_tuple : TyNm "tuple" "tuple" := ⟨by decide +kernel, by decide, by decide, by simp⟩
/-- isinstance(e, T), T a built-in class by its name -/
theorem de_isi {T : Str} {n : String} {pt : Pos} (g : BltAt Γ "isinstance") (gt : BltAt Γ T) (hty : TyNm T n) (ns : NoStar a)
    (h : DE Γ a ρ fun x ρ1 => P (.bool (isTy n x)) ρ1) : DE Γ (.Call (.Name "isinstance" p) [a, .Name T pt] [] pos) ρ P := fun X c F σ H s Q q => by
  have ht : PE X (.Name T pt) (tC (.ty n)) := pe_bltn (show X.env.scope.names.lookup _ = _ by rw [c.sc]; exact gt.gl) (by rw [c.mg]; exact gt.mg) hty.hv rfl hty.hn hty.hd
  refine ⟨_, pe_callB call_isi (show X.env.scope.names.lookup _ = _ by rw [c.sc]; exact g.gl) (by rw [c.mg]; exact g.mg) (by decide +kernel) (pa_cons pe_wp (pa_cons ht pa_nil (by rfl)) (ns _ _)) (by decide) (by decide) (ns _ _) rfl, ?_⟩
  refine h X c F σ H s _ fun x vx ρ1 F1 H1 h1 e1 s1 d1 => ?_
  exact ⟨vx, .ty n, _, _, _, rfl, .ty n, by rw [c.K]; exact tyX_of s1.sub d1, kit_ty (kit_isTy hty.hT x), q _ _ ρ1 F1 H1 h1 e1 s1 (.bl _)⟩
theorem kitAny_isTy {K : PySem.W.Frag} (d : PyData) : ∀ Ts : List String, (∀ T ∈ Ts, T = "int" ∨ T = "bool" ∨ T = "str" ∨ T = "list" ∨ T = "tuple") → PySem.W.kitAny K (.type (tyS d)) (Ts.map Value.type) = some (Ts.any fun T => isTy T d)
  | [], _ => rfl
  | T :: r, h => by
    have ih := kitAny_isTy (K := K) d r fun T hT => h T (List.mem_cons_of_mem _ hT)
    rw [List.map_cons, List.any_cons]
    refine kitAny_cons (b := isTy T d) (kit_ty (kit_isTy (h T List.mem_cons_self) d)) (fun e => ?_) (fun e => ?_)
    · rw [ih, e, Bool.false_or]
    · rw [e, Bool.true_or]
/-- isinstance(e, (T1, T2)) -/
theorem de_isi2 {T1 T2 : Str} {n1 n2 : String} {k1 pt1 pt2 ptt} (g : BltAt Γ "isinstance") (g1 : BltAt Γ T1) (g2 : BltAt Γ T2) (hty1 : TyNm T1 n1) (hty2 : TyNm T2 n2) (ns : NoStar a)
    (h : DE Γ a ρ fun x ρ1 => P (.bool (isTy n1 x || isTy n2 x)) ρ1) : DE Γ (.Call (.Name "isinstance" p) [a, .Tuple [.Name T1 pt1, .Name T2 pt2] k1 ptt] [] pos) ρ P := fun X c F σ H s Q q => by
  have ht1 : PE X (.Name T1 pt1) (tC (.ty n1)) := pe_bltn (show X.env.scope.names.lookup _ = _ by rw [c.sc]; exact g1.gl) (by rw [c.mg]; exact g1.mg) hty1.hv rfl hty1.hn hty1.hd
  have ht2 : PE X (.Name T2 pt2) (tC (.ty n2)) := pe_bltn (show X.env.scope.names.lookup _ = _ by rw [c.sc]; exact g2.gl) (by rw [c.mg]; exact g2.mg) hty2.hv rfl hty2.hn hty2.hd
  refine ⟨_, pe_callB call_isiT (show X.env.scope.names.lookup _ = _ by rw [c.sc]; exact g.gl) (by rw [c.mg]; exact g.mg) (by decide +kernel) (pa_cons pe_wp (pa_cons (pe_tup (pa_cons ht1 (pa_cons ht2 pa_nil (by rfl)) (by rfl))) pa_nil (by rfl)) (ns _ _)) (by decide) (by decide) (ns _ _) rfl, ?_⟩
  refine h X c F σ H s _ fun x vx ρ1 F1 H1 h1 e1 s1 d1 => ?_
  refine ⟨by show 2 ≤ sizeLine; decide, fun tp hp => ?_⟩
  have x1 : PExt F1 H1 (upd F1 tp (.tup [.ty n1, .ty n2])) (upd H1 tp (.tup [.ty n1, .ty n2])) := .new s1.sub hp
  have k := kitAny_isTy (K := X.K) x [n1, n2] fun T hT => by
    rcases List.mem_cons.mp hT with e | hT
    · rw [e]; exact hty1.hT
    · rcases List.mem_cons.mp hT with e | hT
      · rw [e]; exact hty2.hT
      · cases hT
  refine ⟨vx, tp, _, _, _, _, rfl, upd_same, .cons (.ty n1) (.cons (.ty n2) .nil), by rw [c.K]; exact tyX_of x1.sub (dp_mono x1.ff d1), k, ?_⟩
  have e : ([n1, n2].any fun T => isTy T x) = (isTy n1 x || isTy n2 x) := by
    rw [List.any_cons, List.any_cons, List.any_nil, Bool.or_false]
  rw [e]
  exact q _ _ ρ1 _ _ h1 (e1.trans x1.ext) (s1.pext x1) (.bl _)

/-! ### defs of the text -/
def Wof (F H : Hp) (as : List Sl) : Wr := ⟨fun x => H x = none ∨ ∃ ds, Sl.ow x ds ∈ as, F, H⟩
/-- what is promised of a def over data: which arguments it takes, which results there are -/
structure Spec where
  α : Type
  pre : α → List Sl → Prop
  post : α → List Sl → List Sl → PyData → Prop
def spW (K : PySem.W.Frag) (S : Spec) : Sp := fun vs H Q _ => ∃ F as g, Sx (Wof F H as) K F H (vs.map some) as ∧ S.pre g as ∧
  ∀ as' d v F' H', S.post g as as' d → Ext (Wof F H as).w F H F' H' → Sx (Wof F H as) K F' H' (vs.map some) as' → Dp K F' v d → Q v H'
/-- a def of the text that keeps its promise -/
def FnM (M : Mo) (k : Nat) (x : Str) (R : Spec) : Prop := ∃ f fd ps, FnOk M.P M.w M.K M.mg M.base CX0 k f fd ps (spW M.K R) ∧ M.mg x = some (.ref f) ∧ PySem.W.keepIn M.K (.ref f) = true ∧ Binds M.K fd ps []
abbrev FnAt (Γ : Sta) (x : Str) (R : Spec) : Prop := FnM Γ.M Γ.k x R
theorem FnM.mono {M : Mo} {j k : Nat} {x : Str} {R : Spec} (h : FnM M j x R) (hk : j ≤ k) : FnM M k x R := by
  obtain ⟨f, fd, ps, a, b⟩ := h
  exact ⟨f, fd, ps, a.mono hk, b⟩
structure GlbAt (Γ : Sta) (x : Str) : Prop where
  gl : Γ.sc.names.lookup x = some .globalImplicit
  hd : (x == ("__debug__" : Str)) = false
theorem sx_args {W : Wr} {K : PySem.W.Frag} {F H : Hp} {σ : L2.St} {ρ : Rh} (s : Sx W K F H σ ρ) {vs : List V} {ds : List PyData} (h : DpAll K F vs ds) : Sx (Wof F H (ds.map .va)) K F H (vs.map some) (ds.map .va) where
  sub := s.sub
  len := by rw [List.length_map, List.length_map, dpAll_len h]
  va := fun i d e => by
    rw [List.getElem?_map] at e
    cases q : ds[i]? with
    | none =>
      rw [q] at e
      cases e
    | some d' =>
      rw [q] at e
      have e : Sl.va d' = Sl.va d := Option.some.inj e
      cases e
      obtain ⟨v, h1, h2⟩ := dpAll_get h q
      exact ⟨v, by rw [List.getElem?_map, h1]; rfl, h2⟩
  ow := fun i p es e => by
    rw [List.getElem?_map] at e
    cases q : ds[i]? with
    | none =>
      rw [q] at e
      cases e
    | some d' =>
      rw [q] at e
      cases e
  apart := fun i j p ds' es e => by
    rw [List.getElem?_map] at e
    cases q : ds[i]? with
    | none =>
      rw [q] at e
      cases e
    | some d' =>
      rw [q] at e
      cases e
  new := fun x hx => .inl hx
  rch := .refl
/-- behind a call that wrote nothing of the caller's -/
theorem Sx.call {W : Wr} {K : PySem.W.Frag} {F H F' H' : Hp} {σ : L2.St} {ρ : Rh} {as : List Sl} (s : Sx W K F H σ ρ) (e : Ext (Wof F H as).w F H F' H') (sb : Same F' H') (no : ∀ p ds, Sl.ow p ds ∉ as) : Ext W.w F H F' H' ∧ Sx W K F' H' σ ρ := by
  have nw : ∀ x, H x ≠ none → ¬ (Wof F H as).w x := fun x hx w => by
    rcases w with w | ⟨ds, w⟩
    · exact hx w
    · exact no _ _ w
  have keep : ∀ x o, H x = some o → H' x = some o := fun x o hx => e.hh x o hx (nw x (by rw [hx]; exact fun z => nomatch z))
  have px : PExt F H F' H' := ⟨e.ff, keep, fun x hx f => e.fr x hx (nw x hx) f, sb⟩
  exact ⟨px.ext, s.pext px⟩
theorem de_call {x : Str} {R : Spec} (f : FnAt Γ x R) (g : GlbAt Γ x) (ns : NoStar a) (nst : NoStars es)
    (h : DA Γ (a :: es) ρ fun xs ρ1 => ∃ g, R.pre g (xs.map .va) ∧ ∀ as' d, R.post g (xs.map .va) as' d → P d ρ1) : DE Γ (.Call (.Name x p) (a :: es) [] pos) ρ P := fun X c F σ H s Q q => by
  obtain ⟨fa, fd, ps, ok, hm, kp, bs⟩ := f
  refine ⟨_, pe_call (X := X) (CX := CX0) (k := Γ.k) (sp := spW Γ.K R) (E := E0) (by rw [c.prog, c.w, c.K, c.mg, c.base]; exact ok) c.room (show X.env.scope.names.lookup _ = _ by rw [c.sc]; exact g.gl) (by rw [c.mg]; exact hm) (by rw [c.K]; exact kp) (by rw [c.K]; exact bs) .nil pass0 pa_wp g.hd (ns _ _) (nst _ _), ?_⟩
  refine h X c F σ H s _ fun xs vs ρ1 F1 H1 h1 e1 s1 d1 => ?_
  obtain ⟨g, r, hp⟩ := h1
  rw [List.append_nil]
  refine ⟨F1, _, g, sx_args s1 d1, r, fun as' d v F2 H2 r2 e2 s2 d2 => ?_⟩
  obtain ⟨e3, s3⟩ := s1.call e2 s2.sub (fun p ds hm => by
    obtain ⟨y, _, hy⟩ := List.mem_map.mp hm
    cases hy)
  exact q d v ρ1 F2 H2 (hp as' d r2) (e1.trans e3) s3 d2
/-- a call whose first argument is a list of one's own, by its name -/
theorem de_callO {x y : Str} {i : Nat} {py : Pos} {p0 : Addr} {ds0 : List PyData} {R : Spec} (f : FnAt Γ x R) (g : GlbAt Γ x) (v : VarAt Γ i y) (nst : NoStars es) (hi : ρ[i]? = some (.ow p0 ds0))
    (h : DA Γ es ρ fun xs ρ1 => ∃ p ds g, ρ1[i]? = some (.ow p ds) ∧ R.pre g (.ow p ds :: xs.map .va) ∧ ∀ as' d, R.post g (.ow p ds :: xs.map .va) as' d → ∃ ds' t, as' = .ow p ds' :: t ∧ P d (ρ1.set i (.ow p ds'))) : DE Γ (.Call (.Name x p) (.Name y py :: es) [] pos) ρ P := fun X c F σ H s Q q => by
  obtain ⟨fa, fd, ps, ok, hm, kp, bs⟩ := f
  obtain ⟨z0, _⟩ := s.ow i p0 ds0 hi
  refine ⟨_, pe_call (X := X) (CX := CX0) (k := Γ.k) (sp := spW Γ.K R) (E := E0) (by rw [c.prog, c.w, c.K, c.mg, c.base]; exact ok) c.room (show X.env.scope.names.lookup _ = _ by rw [c.sc]; exact g.gl) (by rw [c.mg]; exact hm) (by rw [c.K]; exact kp) (by rw [c.K]; exact bs) .nil pass0 (pa_cons (v.pe c) pa_wp (by rfl)) g.hd (by rfl) (nst _ _), ?_⟩
  refine ⟨_, z0, ?_⟩
  refine h X c F σ H s _ fun xs vs ρ1 F1 H1 h1 e1 s1 d1 => ?_
  obtain ⟨p, ds, gh, hi1, r, hp⟩ := h1
  obtain ⟨z1, z2, z3, ws, z4, z5⟩ := s1.ow i p ds hi1
  rw [z0] at z1
  have ep : p0 = p := by cases z1; rfl
  subst ep
  rw [List.append_nil]
  have sa := sx_args s1 d1
  have hne : H1 p0 ≠ none := by rw [z4]; exact fun z => nomatch z
  refine ⟨F1, .ow p0 ds :: xs.map .va, gh, ⟨s1.sub, by rw [List.length_map, List.length_cons, List.length_cons, List.length_map, dpAll_len d1], fun j dd e => ?_, fun j r es' e => ?_, fun j j' r es' es'' e e' => ?_, fun x hx => .inl hx, .refl⟩, r, fun as' d w F2 H2 r2 e2 s2 d2 => ?_⟩
  · cases j with
    | zero => cases e
    | succ j => exact sa.va j dd (by simpa using e)
  · cases j with
    | zero =>
      cases e
      exact ⟨rfl, z2, .inr ⟨ds, List.mem_cons_self⟩, ws, z4, z5⟩
    | succ j => exact absurd (sa.ow j r es' (by simpa using e)).2.2.1 (fun z => by
        have e : (xs.map Sl.va)[j]? = some (.ow r es') := by simpa using e
        rw [List.getElem?_map] at e
        cases q : xs[j]? with
        | none => rw [q] at e; cases e
        | some d' => rw [q] at e; cases e)
  · cases j with
    | zero =>
      cases j' with
      | zero => rfl
      | succ j' =>
        have e' : (xs.map Sl.va)[j']? = some (.ow r es'') := by simpa using e'
        rw [List.getElem?_map] at e'
        cases q : xs[j']? with
        | none => rw [q] at e'; cases e'
        | some d' => rw [q] at e'; cases e'
    | succ j =>
      have e : (xs.map Sl.va)[j]? = some (.ow r es') := by simpa using e
      rw [List.getElem?_map] at e
      cases q : xs[j]? with
      | none => rw [q] at e; cases e
      | some d' => rw [q] at e; cases e
  · have wof : ∀ x, (Wof F1 H1 (.ow p0 ds :: xs.map .va)).w x → Γ.W.w x := fun x w => by
      rcases w with w | ⟨ds2, w⟩
      · exact s1.new x w
      · rcases List.mem_cons.mp w with w | w
        · cases w
          exact z3
        · obtain ⟨y, _, hy⟩ := List.mem_map.mp w
          cases hy
    obtain ⟨ds', tl, ea, hp⟩ := hp as' d r2
    subst ea
    obtain ⟨y1, y2, y3, us, y4, y5⟩ := s2.ow 0 p0 ds' rfl
    refine q d w (ρ1.set i (.ow p0 ds')) F2 H2 hp (e1.trans (e2.wide wof)) ⟨s2.sub, by rw [List.length_set]; exact s1.len, fun j dd e => ?_, fun j r es' e => ?_, fun j j' r es' es'' e e' => ?_, fun x hx => s1.new x (e2.free hx), s1.rch.trans (e2.wide wof)⟩ d2
    · have ji : i ≠ j := fun ji => by
        subst ji
        rw [List.getElem?_set_self (List.getElem?_eq_some_iff.mp hi1).1] at e
        cases e
      rw [List.getElem?_set_ne ji] at e
      obtain ⟨u, u1, u2⟩ := s1.va j dd e
      exact ⟨u, u1, dp_mono e2.ff u2⟩
    · by_cases ji : i = j
      · subst ji
        rw [List.getElem?_set_self (List.getElem?_eq_some_iff.mp hi1).1] at e
        cases e
        exact ⟨z0, y2, z3, us, y4, y5⟩
      · rw [List.getElem?_set_ne ji] at e
        obtain ⟨u1, u2, u3, us', u4, u5⟩ := s1.ow j r es' e
        have rp : r ≠ p0 := fun z => by
          subst z
          exact ji (s1.apart i j _ _ _ hi1 e)
        have nw : ¬ (Wof F1 H1 (.ow p0 ds :: xs.map .va)).w r := fun w => by
          rcases w with w | ⟨ds2, w⟩
          · rw [w] at u4; cases u4
          · rcases List.mem_cons.mp w with w | w
            · cases w
              exact rp rfl
            · obtain ⟨y, _, hy⟩ := List.mem_map.mp w
              cases hy
        exact ⟨u1, e2.fr r (by rw [u4]; exact fun z => nomatch z) nw u2, u3, us', e2.hh r _ u4 nw, dpAll_mono e2.ff u5⟩
    · by_cases ji : i = j
      · subst ji
        rw [List.getElem?_set_self (List.getElem?_eq_some_iff.mp hi1).1] at e
        cases e
        by_cases ji' : i = j'
        · exact ji'
        · rw [List.getElem?_set_ne ji'] at e'
          exact s1.apart i j' _ _ _ hi1 e'
      · rw [List.getElem?_set_ne ji] at e
        by_cases ji' : i = j'
        · subst ji'
          rw [List.getElem?_set_self (List.getElem?_eq_some_iff.mp hi1).1] at e'
          cases e'
          exact s1.apart j i _ _ _ e hi1
        · rw [List.getElem?_set_ne ji'] at e'
          exact s1.apart j j' _ _ _ e e'
end
end Y

/-! ## part Y4 -/
/-! Rules over data: statements, targets, loops, comprehensions, a def's promise. -/
namespace Y
open PySem PySem.Spec PyProof.Rows L2

section
variable {Γ : Sta} {ρ : Rh} {a b : Expr} {pos p : Pos} {P : PyData → Rh → Prop} {PB : Bool → Rh → Prop} {PL : List PyData → Rh → Prop} {es : List Expr} {D : Dn} {st : Stmt} {rest : List Stmt}
theorem dss_nil (h : D.nx ρ) : DSs Γ [] ρ D := fun X c F σ H s En q => ⟨_, pss_nil, q.nx σ ρ F H h .refl s⟩
theorem dss_cons (h : DS Γ st ρ { D with nx := fun ρ1 => DSs Γ rest ρ1 D }) : DSs Γ (st :: rest) ρ D := fun X c F σ H s En q => by
  refine ⟨_, pss_cons ps_wp pss_wp, ?_⟩
  exact h X c F σ H s _ ⟨fun σ1 ρ1 F1 H1 h1 e1 s1 => h1 X c F1 σ1 H1 s1 En (q.on e1), q.rt, q.bk, q.ct, q.rn⟩
theorem dss_one (h : DS Γ st ρ D) : DSs Γ [st] ρ D := fun X c F σ H s En q => ⟨_, pss_one ps_wp, h X c F σ H s En q⟩
theorem ds_ret (h : DE Γ a ρ fun d ρ1 => D.rt d ρ1) : DS Γ (.Return (some a) pos) ρ D := fun X c F σ H s En q => by
  refine ⟨_, ps_ret pe_wp, ?_⟩
  exact h X c F σ H s _ fun d v ρ1 F1 H1 h1 e1 s1 d1 => q.rt d v σ ρ1 F1 H1 h1 e1 s1 d1
/-- a new list is handed to the caller for its own -/
theorem ds_retF (h : DN Γ a ρ fun d ρ1 => D.rn d ρ1) : DS Γ (.Return (some a) pos) ρ D := fun X c F σ H s En q => by
  refine ⟨_, ps_ret pe_wp, ?_⟩
  exact h X c F σ H s _ fun ds p vs ρ1 F1 H1 h1 e1 s1 hf hF hW hH hd no => q.rn ds p vs σ ρ1 F1 H1 h1 e1 s1 hf hF hH hd
theorem ds_retN (h : D.rt .none ρ) : DS Γ (.Return none pos) ρ D := fun X c F σ H s En q => ⟨_, ps_retN, q.rt .none .non σ ρ F H h .refl s .non⟩
theorem ds_pass (h : D.nx ρ) : DS Γ (.Pass pos) ρ D := fun X c F σ H s En q => ⟨_, ps_pass, q.nx σ ρ F H h .refl s⟩
theorem ds_brk (h : D.bk ρ) : DS Γ (.Break pos) ρ D := fun X c F σ H s En q => ⟨_, ps_break, q.bk σ ρ F H h .refl s⟩
theorem ds_cont (h : D.ct ρ) : DS Γ (.Continue pos) ρ D := fun X c F σ H s En q => ⟨_, ps_continue, q.ct σ ρ F H h .refl s⟩
theorem ds_if {t : Expr} {xs ys : List Stmt} (h : DT Γ t ρ fun k ρ1 => if k = true then DSs Γ xs ρ1 D else DSs Γ ys ρ1 D) : DS Γ (.If t xs ys pos) ρ D := fun X c F σ H s En q => by
  refine ⟨_, ps_if pt_wp pss_wp pss_wp, ?_⟩
  refine h X c F σ H s _ fun k ρ1 F1 H1 h1 e1 s1 => ?_
  cases k with
  | true =>
    rw [if_pos rfl] at h1 ⊢
    exact h1 X c F1 σ H1 s1 En (q.on e1)
  | false =>
    rw [if_neg Bool.false_ne_true] at h1 ⊢
    exact h1 X c F1 σ H1 s1 En (q.on e1)
theorem ds_expr (hs : ∀ env : PySem.Env, env.scope = Γ.sc → swapsWith a none pos.line env = pure false) (h : DE Γ a ρ fun _ ρ1 => D.nx ρ1) : DS Γ (.Expr a pos) ρ D := fun X c F σ H s En q => by
  refine ⟨_, ps_expr pe_wp (hs _ c.sc), ?_⟩
  exact h X c F σ H s _ fun d v ρ1 F1 H1 h1 e1 s1 d1 => q.nx σ ρ1 F1 H1 h1 e1 s1
/-- a slot is set -/
theorem Sx.setVa {W : Wr} {K : PySem.W.Frag} {F H : Hp} {σ : L2.St} {ρ : Rh} (s : Sx W K F H σ ρ) {i : Nat} {v : V} {d : PyData} (h : Dp K F v d) : Sx W K F H (σ.set i (some v)) (ρ.set i (.va d)) where
  sub := s.sub
  len := by rw [List.length_set, List.length_set]; exact s.len
  va := fun j e z => by
    by_cases k : i = j
    · subst k
      by_cases l : i < ρ.length
      · rw [List.getElem?_set_self l] at z
        cases z
        exact ⟨v, List.getElem?_set_self (by rw [s.len]; exact l), h⟩
      · rw [List.getElem?_eq_none (by rw [List.length_set]; omega)] at z
        cases z
    · rw [List.getElem?_set_ne k] at z ⊢
      exact s.va j e z
  ow := fun j r es z => by
    by_cases k : i = j
    · subst k
      by_cases l : i < ρ.length
      · rw [List.getElem?_set_self l] at z
        cases z
      · rw [List.getElem?_eq_none (by rw [List.length_set]; omega)] at z
        cases z
    · rw [List.getElem?_set_ne k] at z ⊢
      exact s.ow j r es z
  apart := fun j j' r es es' z z' => by
    have nk : ∀ {j : Nat} {r : Addr} {es : List PyData}, (ρ.set i (.va d))[j]? = some (.ow r es) → ρ[j]? = some (.ow r es) := fun {j r es} z => by
      by_cases k : i = j
      · subst k
        by_cases l : i < ρ.length
        · rw [List.getElem?_set_self l] at z
          cases z
        · rw [List.getElem?_eq_none (by rw [List.length_set]; omega)] at z
          cases z
      · rw [List.getElem?_set_ne k] at z
        exact z
    exact s.apart j j' r es es' (nk z) (nk z')
  new := s.new
  rch := s.rch
theorem Sx.setOw {W : Wr} {K : PySem.W.Frag} {F H : Hp} {σ : L2.St} {ρ : Rh} (s : Sx W K F H σ ρ) {i : Nat} {q : Addr} {ws : List V} {ds : List PyData} (hF : F q = none) (hW : W.w q) (hH : H q = some (.lst ws)) (h : DpAll K F ws ds) (no : ∀ (i : Nat) (es : List PyData), ρ[i]? ≠ some (.ow q es)) : Sx W K F H (σ.set i (some (.ref q))) (ρ.set i (.ow q ds)) where
  sub := s.sub
  len := by rw [List.length_set, List.length_set]; exact s.len
  va := fun j e z => by
    by_cases k : i = j
    · subst k
      by_cases l : i < ρ.length
      · rw [List.getElem?_set_self l] at z
        cases z
      · rw [List.getElem?_eq_none (by rw [List.length_set]; omega)] at z
        cases z
    · rw [List.getElem?_set_ne k] at z ⊢
      exact s.va j e z
  ow := fun j r es z => by
    by_cases k : i = j
    · subst k
      by_cases l : i < ρ.length
      · rw [List.getElem?_set_self l] at z
        cases z
        exact ⟨List.getElem?_set_self (by rw [s.len]; exact l), hF, hW, ws, hH, h⟩
      · rw [List.getElem?_eq_none (by rw [List.length_set]; omega)] at z
        cases z
    · rw [List.getElem?_set_ne k] at z ⊢
      exact s.ow j r es z
  apart := fun j j' r es es' z z' => by
    have nk : ∀ {j : Nat} {r : Addr} {es : List PyData}, (ρ.set i (.ow q ds))[j]? = some (.ow r es) → (j = i ∧ r = q) ∨ (j ≠ i ∧ ρ[j]? = some (.ow r es)) := fun {j r es} z => by
      by_cases k : i = j
      · subst k
        by_cases l : i < ρ.length
        · rw [List.getElem?_set_self l] at z
          cases z
          exact .inl ⟨rfl, rfl⟩
        · rw [List.getElem?_eq_none (by rw [List.length_set]; omega)] at z
          cases z
      · rw [List.getElem?_set_ne k] at z
        exact .inr ⟨fun e => k e.symm, z⟩
    rcases nk z with ⟨z1, z2⟩ | ⟨z1, z2⟩ <;> rcases nk z' with ⟨y1, y2⟩ | ⟨y1, y2⟩
    · rw [z1, y1]
    · rw [z2] at y2
      exact absurd y2 (no _ _)
    · rw [y2] at z2
      exact absurd z2 (no _ _)
    · exact s.apart j j' r es es' z2 y2
  new := s.new
  rch := s.rch
/-- what is known of a slot may be forgotten -/
theorem Sx.wipe1 {W : Wr} {K : PySem.W.Frag} {F H : Hp} {σ : L2.St} {ρ : Rh} (s : Sx W K F H σ ρ) {i : Nat} {o : Option V} : Sx W K F H (σ.set i o) (ρ.set i .un) where
  sub := s.sub
  len := by rw [List.length_set, List.length_set]; exact s.len
  va := fun j e z => by
    by_cases k : i = j
    · subst k
      by_cases l : i < ρ.length
      · rw [List.getElem?_set_self l] at z
        cases z
      · rw [List.getElem?_eq_none (by rw [List.length_set]; omega)] at z
        cases z
    · rw [List.getElem?_set_ne k] at z ⊢
      exact s.va j e z
  ow := fun j r es z => by
    by_cases k : i = j
    · subst k
      by_cases l : i < ρ.length
      · rw [List.getElem?_set_self l] at z
        cases z
      · rw [List.getElem?_eq_none (by rw [List.length_set]; omega)] at z
        cases z
    · rw [List.getElem?_set_ne k] at z ⊢
      exact s.ow j r es z
  apart := fun j j' r es es' z z' => by
    have nk : ∀ {j : Nat} {r : Addr} {es : List PyData}, (ρ.set i .un)[j]? = some (.ow r es) → ρ[j]? = some (.ow r es) := fun {j r es} z => by
      by_cases k : i = j
      · subst k
        by_cases l : i < ρ.length
        · rw [List.getElem?_set_self l] at z
          cases z
        · rw [List.getElem?_eq_none (by rw [List.length_set]; omega)] at z
          cases z
      · rw [List.getElem?_set_ne k] at z
        exact z
    exact s.apart j j' r es es' (nk z) (nk z')
  new := s.new
  rch := s.rch
/-- a name of the def that is stored -/
structure LocAt (Γ : Sta) (i : Nat) (x : Str) : Prop where
  hN : Γ.N[i]? = some x
  loc : Loc Γ.sc x
  fn' : Γ.fn x = true ∨ Γ.sc.names.lookup x = some .local
theorem LocAt.fn {X : Cx} {i : Nat} {x : Str} (v : LocAt Γ i x) (c : CxIs Γ X) : X.fn x = true ∨ X.env.scope.names.lookup x = some .local := by
  rw [c.fn, c.sc]
  exact v.fn'
theorem ds_set {i : Nat} {x : Str} {pos' : Pos} (v : LocAt Γ i x) (hs : ∀ env : PySem.Env, env.scope = Γ.sc → swapsWith a (some (.Name x pos')) pos.line env = pure false) (h : DE Γ a ρ fun d ρ1 => D.nx (ρ1.set i (.va d))) : DS Γ (.Assign [.Name x pos'] a pos) ρ D := fun X c F σ H s En q => by
  refine ⟨_, ps_set c.nd (by rw [c.N]; exact v.hN) (by rw [c.sc]; exact v.loc) pe_wp (hs _ c.sc) (v.fn c), ?_⟩
  exact h X c F σ H s _ fun d u ρ1 F1 H1 h1 e1 s1 d1 => q.nx _ _ F1 H1 h1 e1 (s1.setVa d1)
theorem ds_setN {i : Nat} {x : Str} {pos' : Pos} (v : LocAt Γ i x) (hs : ∀ env : PySem.Env, env.scope = Γ.sc → swapsWith a (some (.Name x pos')) pos.line env = pure false) (h : DN Γ a ρ fun ds ρ1 => ∀ p, D.nx (ρ1.set i (.ow p ds))) : DS Γ (.Assign [.Name x pos'] a pos) ρ D := fun X c F σ H s En q => by
  refine ⟨_, ps_set c.nd (by rw [c.N]; exact v.hN) (by rw [c.sc]; exact v.loc) pe_wp (hs _ c.sc) (v.fn c), ?_⟩
  exact h X c F σ H s _ fun ds p vs ρ1 F1 H1 h1 e1 s1 hf hF hW hH hd no => q.nx _ _ F1 H1 (h1 p) e1 (s1.setOw hF hW hH hd no)
/-- a list of one's own is frozen -/
theorem Sx.freeze {W : Wr} {K : PySem.W.Frag} {F H : Hp} {σ : L2.St} {ρ : Rh} (s : Sx W K F H σ ρ) {i : Nat} {p : Addr} {ds : List PyData} (h : ρ[i]? = some (.ow p ds)) : ∃ F', Ext W.w F H F' H ∧ Sx W K F' H σ (ρ.set i (.va (.list ds))) := by
  obtain ⟨z1, z2, z3, vs, z4, z5⟩ := s.ow i p ds h
  have ff : Same F (upd F p (.lst vs)) := fun a o z => by rw [upd_ne (ne_of_none z z2)]; exact z
  have nk : ∀ {j : Nat} {r : Addr} {es : List PyData}, (ρ.set i (.va (.list ds)))[j]? = some (.ow r es) → i ≠ j ∧ ρ[j]? = some (.ow r es) := fun {j r es} z => by
    by_cases k : i = j
    · subst k
      rw [List.getElem?_set_self (List.getElem?_eq_some_iff.mp h).1] at z
      cases z
    · rw [List.getElem?_set_ne k] at z
      exact ⟨k, z⟩
  have ef : Ext W.w F H (upd F p (.lst vs)) H := ⟨ff, fun _ _ z _ => z, fun a _ wa fa => by rw [upd_ne (fun z => wa (by rw [z]; exact z3))]; exact fa, fun _ z => z⟩
  refine ⟨upd F p (.lst vs), ef, ⟨fun a o z => ?_, by rw [List.length_set]; exact s.len, fun j d z => ?_, fun j r es z => ?_, fun j j' r es es' z z' => s.apart j j' r es es' (nk z).2 (nk z').2, s.new, s.rch.trans ef⟩⟩
  · by_cases k : a = p
    · subst k
      rw [upd_same] at z
      rw [← z]
      exact z4
    · rw [upd_ne k] at z
      exact s.sub a o z
  · by_cases k : i = j
    · subst k
      rw [List.getElem?_set_self (List.getElem?_eq_some_iff.mp h).1] at z
      cases z
      exact ⟨_, z1, .lst (.of upd_same) (dpAll_mono ff z5)⟩
    · rw [List.getElem?_set_ne k] at z
      obtain ⟨v, y1, y2⟩ := s.va j d z
      exact ⟨v, y1, dp_mono ff y2⟩
  · obtain ⟨k, z⟩ := nk z
    obtain ⟨y1, y2, y3, ws, y4, y5⟩ := s.ow j r es z
    have rp : r ≠ p := fun e => by
      subst e
      exact k (s.apart i j r _ _ h z)
    exact ⟨y1, by rw [upd_ne rp]; exact y2, y3, ws, y4, dpAll_mono ff y5⟩
theorem dss_freeze {sts : List Stmt} {i : Nat} {p : Addr} {ds : List PyData} (h : ρ[i]? = some (.ow p ds)) (k : DSs Γ sts (ρ.set i (.va (.list ds))) D) : DSs Γ sts ρ D := fun X c F σ H s En q => by
  obtain ⟨F', e, s'⟩ := s.freeze h
  exact k X c F' σ H s' En (q.on e)
theorem de_freeze {i : Nat} {p : Addr} {ds : List PyData} (h : ρ[i]? = some (.ow p ds)) (k : DE Γ a (ρ.set i (.va (.list ds))) P) : DE Γ a ρ P := fun X c F σ H s Q q => by
  obtain ⟨F', e, s'⟩ := s.freeze h
  exact k X c F' σ H s' Q fun d v ρ' F2 H2 z e2 => q d v ρ' F2 H2 z (e.trans e2)
/-- what is known may be forgotten -/
def Le (ρ' ρ : Rh) : Prop := ρ'.length = ρ.length ∧ ∀ (i : Nat) (s : Sl), ρ'[i]? = some s → s = .un ∨ ρ[i]? = some s
theorem Sx.le {W : Wr} {K : PySem.W.Frag} {F H : Hp} {σ : L2.St} {ρ ρ' : Rh} (s : Sx W K F H σ ρ) (l : Le ρ' ρ) : Sx W K F H σ ρ' where
  sub := s.sub
  len := by rw [s.len, l.1]
  va := fun j e z => by
    rcases l.2 j _ z with k | k
    · cases k
    · exact s.va j e k
  ow := fun j r es z => by
    rcases l.2 j _ z with k | k
    · cases k
    · exact s.ow j r es k
  apart := fun j j' r es es' z z' => by
    rcases l.2 j _ z with k | k
    · cases k
    · rcases l.2 j' _ z' with k' | k'
      · cases k'
      · exact s.apart j j' r es es' k k'
  new := s.new
  rch := s.rch
theorem dss_le {sts : List Stmt} {ρ' : Rh} (l : Le ρ' ρ) (k : DSs Γ sts ρ' D) : DSs Γ sts ρ D := fun X c F σ H s En q => k X c F σ H (s.le l) En q

/-! ### targets -/
/-- the target takes data; only slots in V change -/
def TgV (V : Nat → Prop) (σ σ' : L2.St) : Prop := σ'.length = σ.length ∧ ∀ j, ¬ V j → σ'[j]? = σ[j]?
theorem TgV.refl {V : Nat → Prop} {σ : L2.St} : TgV V σ σ := ⟨rfl, fun _ _ => rfl⟩
theorem TgV.trans {V : Nat → Prop} {σ σ1 σ2 : L2.St} (a : TgV V σ σ1) (b : TgV V σ1 σ2) : TgV V σ σ2 := ⟨b.1.trans a.1, fun j h => (b.2 j h).trans (a.2 j h)⟩
def DGv (Γ : Sta) (V : Nat → Prop) (tg : Expr) (d : PyData) (ρ : Rh) (P : Rh → Prop) : Prop := ∀ X, CxIs Γ X → ∀ F σ H v, Sx Γ.W Γ.K F H σ ρ → Dp Γ.K F v d → ∀ Q : L2.St → Hp → Prop,
  (∀ σ' ρ' F' H', P ρ' → TgV V σ σ' → Ext Γ.W.w F H F' H' → Sx Γ.W Γ.K F' H' σ' ρ' → Q σ' H') → wpg X tg v σ H Q
def DGvs (Γ : Sta) (V : Nat → Prop) (tg : List Expr) (ds : List PyData) (ρ : Rh) (P : Rh → Prop) : Prop := ∀ X, CxIs Γ X → ∀ F σ H vs, Sx Γ.W Γ.K F H σ ρ → DpAll Γ.K F vs ds → ∀ Q : L2.St → Hp → Prop,
  (∀ σ' ρ' F' H', P ρ' → TgV V σ σ' → Ext Γ.W.w F H F' H' → Sx Γ.W Γ.K F' H' σ' ρ' → Q σ' H') → wpgs X tg vs σ H Q
variable {V : Nat → Prop} {PR : Rh → Prop} {d : PyData}
theorem dg_name {i : Nat} {x : Str} (v : LocAt Γ i x) (hV : V i) (h : PR (ρ.set i (.va d))) : DGv Γ V (.Name x pos) d ρ PR := fun X c F σ H u s dd Q q =>
  ⟨_, pg_name c.nd (by rw [c.N]; exact v.hN) (by rw [c.sc]; exact v.loc) (v.fn c), q _ _ F H h ⟨List.length_set .., fun j hj => List.getElem?_set_ne (fun e => hj (by rw [← e]; exact hV))⟩ .refl (s.setVa dd)⟩
theorem dgs_nil (h : PR ρ) : DGvs Γ V [] [] ρ PR := fun X c F σ H vs s dd Q q => ⟨_, pgs_nil, by cases dd; exact ⟨rfl, q σ ρ F H h .refl .refl s⟩⟩
def Asg1 (e : Expr) : Prop := ∀ (es : List Expr) (env : PySem.Env), (assignEach (e :: es) env).map (·.2) = assign e env :: (assignEach es env).map (·.2)
theorem dgs_cons {ds : List PyData} (hs : Asg1 a) (h : DGv Γ V a d ρ fun ρ1 => DGvs Γ V es ds ρ1 PR) : DGvs Γ V (a :: es) (d :: ds) ρ PR := fun X c F σ H vs s dd Q q => by
  refine ⟨_, pgs_cons pg_wp pgs_wp (hs _ _), ?_⟩
  cases dd with
  | cons d1 dt =>
    refine ⟨_, _, rfl, ?_⟩
    refine h X c F σ H _ s d1 _ fun σ1 ρ1 F1 H1 h1 t1 e1 s1 => ?_
    exact h1 X c F1 σ1 H1 _ s1 (dpAll_mono e1.ff dt) Q fun σ2 ρ2 F2 H2 p t2 e2 s2 => q σ2 ρ2 F2 H2 p (t1.trans t2) (e1.trans e2) s2
def AsgN (es : List Expr) (n : Nat) : Prop := ∀ env : PySem.Env, (assignEach es env).length = n ∧ (assignEach es env).findIdx? (·.1) = none
theorem dg_tup {n k : Nat} {ds : List PyData} (hn : AsgN es n) (hd : SeqD d ds) (hl : ds.length = n) (h : DGvs Γ V es ds ρ PR) : DGv Γ V (.Tuple es k pos) d ρ PR := fun X c F σ H v s dd Q q => by
  rcases hd with e | e <;> subst e
  · refine ⟨_, pg_unl c.calm pgs_wp (hn X.env).1 (hn X.env).2, ?_⟩
    cases dd with
    | lst hq ha => exact ⟨_, _, rfl, by rw [c.K]; exact sqL_mono s.sub hq, (dpAll_len ha).trans hl, h X c F σ H _ s ha Q q⟩
  · refine ⟨_, pg_tup c.calm pgs_wp (hn X.env).1 (hn X.env).2, ?_⟩
    cases dd with
    | tup hq ha => exact ⟨_, _, rfl, by rw [c.K]; exact sqT_mono s.sub hq, (dpAll_len ha).trans hl, h X c F σ H _ s ha Q q⟩
theorem ds_asg {tg : Expr} (hs : ∀ env : PySem.Env, env.scope = Γ.sc → swapsWithSole [tg] a pos.line env = pure false) (hw : ∀ env : PySem.Env, env.scope = Γ.sc → swappedStores [tg] a env = pure none) (h1 : Asg1 tg)
    (h : DE Γ a ρ fun d ρ1 => DGv Γ (fun _ => True) tg d ρ1 D.nx) : DS Γ (.Assign [tg] a pos) ρ D := fun X c F σ H s En q => by
  refine ⟨_, ps_asg pe_wp pg_wp (hs _ c.sc) (hw _ c.sc) (h1 _ _), ?_⟩
  refine h X c F σ H s _ fun d v ρ1 F1 H1 h1 e1 s1 d1 => ?_
  exact h1 X c F1 σ H1 v s1 d1 _ fun σ2 ρ2 F2 H2 p _ e2 s2 => q.nx σ2 ρ2 F2 H2 p (e1.trans e2) s2
/-- a, b = x, y: both by a swap -/
theorem ds_par {i j : Nat} {x y : Str} {px py pt : Pos} {kt k2 pt2} (hi : LocAt Γ i x) (hj : LocAt Γ j y) (hij : i ≠ j) (lx : Γ.sc.names.lookup x = some .local) (ly : Γ.sc.names.lookup y = some .local)
    (hw : ∀ env : PySem.Env, env.scope = Γ.sc → swappedStores [.Tuple [.Name x px, .Name y py] kt pt] (.Tuple [a, b] k2 pt2) env = pure (some [x, y]))
    (h : DA Γ [a, b] ρ fun ds ρ1 => ∃ d e, ds = [d, e] ∧ D.nx ((ρ1.set i (.va d)).set j (.va e))) : DS Γ (.Assign [.Tuple [.Name x px, .Name y py] kt pt] (.Tuple [a, b] k2 pt2) pos) ρ D := fun X c F σ H s En q => by
  refine ⟨_, ps_par c.calm c.nd (by rw [c.N]; exact hi.hN) (by rw [c.N]; exact hj.hN) hij (by rw [c.sc]; exact lx) (by rw [c.sc]; exact ly) pa_wp (hw _ c.sc), ?_⟩
  refine h X c F σ H s _ fun ds vs ρ1 F1 H1 h1 e1 s1 d1 => ?_
  obtain ⟨d, e, rfl, h1⟩ := h1
  obtain ⟨v, w, rfl, r1, r2⟩ := vals_2 d1
  exact ⟨v, w, rfl, q.nx _ _ F1 H1 h1 e1 ((s1.setVa r1).setVa r2)⟩
/-- o[i] = v, o a list of one's own by its name -/
def IsO (ρ : Rh) (i : Nat) : Prop := ∃ p0 ds0, ρ[i]? = some (.ow p0 ds0)
def SetO (ρ : Rh) (i : Nat) (y d : PyData) (P : Rh → Prop) : Prop := ∃ p ds k j, ρ[i]? = some (.ow p ds) ∧ y = .int k ∧ ixN ds.length k = some j ∧ P (ρ.set i (.ow p (ds.set j d)))
theorem isO_of {i : Nat} {p : Addr} {ds : List PyData} (h : ρ[i]? = some (.ow p ds)) : IsO ρ i := ⟨p, ds, h⟩
theorem setO_of {i : Nat} {p : Addr} {ds : List PyData} {k : Int} {j : Nat} {d : PyData} {P : Rh → Prop} (h : ρ[i]? = some (.ow p ds)) (hj : ixN ds.length k = some j) (q : P (ρ.set i (.ow p (ds.set j d)))) : SetO ρ i (.int k) d P := ⟨p, ds, k, j, h, rfl, hj, q⟩
theorem ds_setitem {i : Nat} {x : Str} {px tpos : Pos} {ix : Expr} (v : VarAt Γ i x)
    (hs : ∀ env : PySem.Env, env.scope = Γ.sc → swapsWithSole [.Subscript (.Name x px) ix tpos] a pos.line env = pure false) (hw : ∀ env : PySem.Env, env.scope = Γ.sc → swappedStores [.Subscript (.Name x px) ix tpos] a env = pure none) (h1 : Asg1 (.Subscript (.Name x px) ix tpos))
    (ha : ∀ (env : PySem.Env) v, assign (.Subscript (.Name x px) ix tpos) env v = (do
      let ov ← holding [v] (eval (.Name x px) env)
      let iv ← holding [v, ov] (eval ix env)
      standAt tpos
      holding [v, ov, iv] (setItem ov iv v)
      release [v, ov, iv] []))
    (h : DE Γ a ρ fun d ρ1 => IsO ρ1 i ∧ DE Γ ix ρ1 fun y ρ2 => SetO ρ2 i y d D.nx) : DS Γ (.Assign [.Subscript (.Name x px) ix tpos] a pos) ρ D := fun X c F σ H s En q => by
  refine ⟨_, ps_asg pe_wp (pg_sub (v.pe c) pe_wp set_list (ha _)) (hs _ c.sc) (hw _ c.sc) (h1 _ _), ?_⟩
  refine h X c F σ H s _ fun d u ρ1 F1 H1 h1 e1 s1 d1 => ?_
  obtain ⟨⟨p0, ds0, hi0⟩, h1⟩ := h1
  obtain ⟨z0, _⟩ := s1.ow i p0 ds0 hi0
  refine ⟨_, z0, ?_⟩
  refine h1 X c F1 σ H1 s1 _ fun y vy ρ2 F2 H2 h2 e2 s2 d2 => ?_
  obtain ⟨p, ds, k, j, hi2, ey, hj, hp⟩ := h2
  subst ey
  cases d2
  obtain ⟨z1, z2, z3, vs, z4, z5⟩ := s2.ow i p ds hi2
  rw [z0] at z1
  have ep : p0 = p := by cases z1; rfl
  subst ep
  have dd := dp_mono e2.ff d1
  have ne : ∀ x o, F2 x = some o → x ≠ p0 := fun x o h z => by
    rw [z, z2] at h
    cases h
  refine ⟨p0, vs, k, j, rfl, rfl, z4, by rw [dpAll_len z5]; exact hj, ?_⟩
  have eu : Ext Γ.W.w F2 H2 F2 (upd H2 p0 (.lst (vs.set j u))) := ⟨.refl _, fun a o h w => by rw [upd_ne (fun e => w (by rw [e]; exact z3))]; exact h, fun _ _ _ f => f, fun a h => by
    by_cases k : a = p0
    · rw [k, upd_same]; exact fun z => nomatch z
    · rw [upd_ne k]; exact h⟩
  refine q.nx σ _ F2 (upd H2 p0 (.lst (vs.set j u))) hp ((e1.trans e2).trans eu) ⟨fun a o h => by rw [upd_ne (ne a o h)]; exact s2.sub a o h, by rw [List.length_set]; exact s2.len, fun m e z => ?_, fun m r es z => ?_, fun m m' r es es' z z' => ?_, fun a h => ?_, s2.rch.trans eu⟩
  · by_cases k : i = m
    · subst k
      rw [List.getElem?_set_self (List.getElem?_eq_some_iff.mp hi2).1] at z
      cases z
    · rw [List.getElem?_set_ne k] at z
      exact s2.va m e z
  · by_cases k : i = m
    · subst k
      rw [List.getElem?_set_self (List.getElem?_eq_some_iff.mp hi2).1] at z
      cases z
      exact ⟨z0, z2, z3, _, upd_same, dpAll_set dd j z5⟩
    · rw [List.getElem?_set_ne k] at z
      obtain ⟨u1, u2, u3, us, u4, u5⟩ := s2.ow m r es z
      have rp : r ≠ p0 := fun e => by
        subst e
        exact k (s2.apart i m _ _ _ hi2 z)
      exact ⟨u1, u2, u3, us, by rw [upd_ne rp]; exact u4, u5⟩
  · have nk : ∀ {m : Nat} {r : Addr} {es : List PyData}, (ρ2.set i (.ow p0 (ds.set j d)))[m]? = some (.ow r es) → ∃ es', ρ2[m]? = some (.ow r es') := fun {m r es} z => by
      by_cases k : i = m
      · subst k
        rw [List.getElem?_set_self (List.getElem?_eq_some_iff.mp hi2).1] at z
        cases z
        exact ⟨_, hi2⟩
      · rw [List.getElem?_set_ne k] at z
        exact ⟨_, z⟩
    obtain ⟨_, y1⟩ := nk z
    obtain ⟨_, y2⟩ := nk z'
    exact s2.apart m m' r _ _ y1 y2
  · have k : a ≠ p0 := fun z => by
      rw [z, upd_same] at h
      cases h
    rw [upd_ne k] at h
    exact s2.new a h
end
end Y

/-! ## part Y5 -/
/-! Rules over data: what is walked, for, while, list comprehensions, a def's promise by its body. -/
namespace Y
open PySem PySem.Spec PyProof.Rows L2 RZ

section
variable {Γ : Sta} {ρ : Rh} {a b : Expr} {pos p : Pos} {P : PyData → Rh → Prop} {PB : Bool → Rh → Prop} {PL : List PyData → Rh → Prop} {es : List Expr} {D : Dn} {st : Stmt} {rest : List Stmt}
theorem da1 {P : PyData → Rh → Prop} (ns : NoStar a) (h : DE Γ a ρ P) : DA Γ [a] ρ fun xs ρ1 => ∃ x, xs = [x] ∧ P x ρ1 := da_cons ns (h.mono fun x ρ1 k => da_nil ⟨x, rfl, k⟩)
theorem da2 {P : PyData → PyData → Rh → Prop} (ns : NoStar a) (ns2 : NoStar b) (h : DE Γ a ρ fun x ρ1 => DE Γ b ρ1 fun y ρ2 => P x y ρ2) : DA Γ [a, b] ρ fun xs ρ1 => ∃ x y, xs = [x, y] ∧ P x y ρ1 := da_cons ns (h.mono fun x ρ1 k => da_cons ns2 (k.mono fun y ρ2 k => da_nil ⟨x, y, rfl, k⟩))
/-! ### what is walked -/
/-- the iterator yields just these data, whatever is laid meanwhile -/
def Walks (K : PySem.W.Frag) (J : It) (F : Hp) (items : List PyData) : Prop := ∀ F' H, Same F F' → Same F' H →
  (∀ i d, items[i]? = some d → J.go i H ∧ ∀ x H1, J.yld i H x H1 → ∃ F1, PExt F' H F1 H1 ∧ Dp K F1 x d) ∧ J.stop items.length H
def DI (Γ : Sta) (tg it : Expr) (ρ : Rh) (P : List PyData → Rh → Prop) : Prop := ∀ X, CxIs Γ X → ∀ F σ H, Sx Γ.W Γ.K F H σ ρ → ∀ R : It → Hp → Prop,
  (∀ items J ρ' F' H', P items ρ' → Ext Γ.W.w F H F' H' → Sx Γ.W Γ.K F' H' σ ρ' → Walks Γ.K J F' items → R J H') → wpi X tg it σ H R
theorem walks_list {K : PySem.W.Frag} {F : Hp} {l : Addr} {vs : List V} {ds : List PyData} (h : SqL K F l vs) (hd : DpAll K F vs ds) : Walks K (Itl K l) F ds := fun F' H e s => by
  have hq := sqL_mono s (sqL_mono e h)
  refine ⟨fun i d hi => ?_, ⟨_, hq, Nat.le_of_eq (dpAll_len hd)⟩⟩
  obtain ⟨v, hv, dv⟩ := dpAll_get hd hi
  refine ⟨⟨_, v, hq, hv⟩, fun x H1 ⟨e1, e2⟩ => ?_⟩
  subst e1
  have k := e2 _ hq
  rw [hv] at k
  cases k
  exact ⟨F', .refl s, dp_mono e dv⟩
theorem walks_tup {K : PySem.W.Frag} {F : Hp} {l : Addr} {vs : List V} {ds : List PyData} (h : SqT K F l vs) (hd : DpAll K F vs ds) : Walks K (Itt K l) F ds := fun F' H e s => by
  have hq := sqT_mono s (sqT_mono e h)
  refine ⟨fun i d hi => ?_, ⟨_, hq, Nat.le_of_eq (dpAll_len hd)⟩⟩
  obtain ⟨v, hv, dv⟩ := dpAll_get hd hi
  refine ⟨⟨_, v, hq, hv⟩, fun x H1 ⟨e1, e2⟩ => ?_⟩
  subst e1
  have k := e2 _ hq
  rw [hv] at k
  cases k
  exact ⟨F', .refl s, dp_mono e dv⟩
/-- a list, by its reading as data -/
theorem di_seq {tg : Expr} (h : DE Γ a ρ fun d ρ1 => ∃ xs, d = .list xs ∧ PL xs ρ1) : DI Γ tg a ρ PL := fun X c F σ H s R q => by
  refine ⟨_, pi_list pe_wp, ?_⟩
  refine h X c F σ H s _ fun d v ρ1 F1 H1 h1 e1 s1 d1 => ?_
  obtain ⟨xs, e, hp⟩ := h1
  subst e
  cases d1 with
  | lst hq ha =>
    rw [c.K]
    exact ⟨_, rfl, ⟨_, sqL_mono s1.sub hq⟩, q xs _ ρ1 F1 H1 hp e1 s1 (walks_list hq ha)⟩
theorem di_tup {tg : Expr} (h : DE Γ a ρ fun d ρ1 => ∃ xs, d = .tuple xs ∧ PL xs ρ1) : DI Γ tg a ρ PL := fun X c F σ H s R q => by
  refine ⟨_, pi_tup pe_wp, ?_⟩
  refine h X c F σ H s _ fun d v ρ1 F1 H1 h1 e1 s1 d1 => ?_
  obtain ⟨xs, e, hp⟩ := h1
  subst e
  cases d1 with
  | tup hq ha =>
    rw [c.K]
    exact ⟨_, rfl, ⟨_, sqT_mono s1.sub hq⟩, q xs _ ρ1 F1 H1 hp e1 s1 (walks_tup hq ha)⟩
def rgD (lo : Int) (n : Nat) : List PyData := (List.range n).map fun (i : Nat) => PyData.int (lo + (i : Int))
theorem walks_rng {K : PySem.W.Frag} {F : Hp} {lo : Int} {n : Nat} : Walks K (Itr lo n) F (rgD lo n) := fun F' H e s => by
  have hl : (rgD lo n).length = n := by unfold rgD; rw [List.length_map, List.length_range]
  refine ⟨fun i d hi => ?_, by rw [hl]; exact Nat.le_refl _⟩
  have hi' : i < n := by
    have := (List.getElem?_eq_some_iff.mp hi).1
    omega
  have k : (rgD lo n)[i]? = some (.int (lo + (i : Int))) := by
    unfold rgD
    rw [List.getElem?_map, List.getElem?_range hi']
    rfl
  rw [k] at hi
  cases hi
  refine ⟨hi', fun x H1 ⟨e1, e2⟩ => ?_⟩
  subst e1 e2
  exact ⟨F', .refl s, .int _⟩
theorem di_rng1 {tg : Expr} (g : BltAt Γ "range") (ns : NoStar a) (h : DE Γ a ρ fun d ρ1 => ∃ j : Int, d = .int j ∧ (-(2 ^ 62) ≤ j ∧ j < 2 ^ 62) ∧ PL (rgD 0 j.toNat) ρ1) : DI Γ tg (.Call (.Name "range" p) [a] [] pos) ρ PL := fun X c F σ H s R q => by
  refine ⟨_, pi_range1 (show X.env.scope.names.lookup _ = _ by rw [c.sc]; exact g.gl) (by rw [c.mg]; exact g.mg) pa_wp (ns _ _), ?_⟩
  refine da1 ns h X c F σ H s _ fun xs vs ρ1 F1 H1 h1 e1 s1 d1 => ?_
  obtain ⟨x, rfl, j, rfl, ⟨h1, h2⟩, hp⟩ := h1
  obtain ⟨v, rfl, dv⟩ := vals_1 d1
  cases dv
  exact ⟨j, rfl, h1, h2, q _ _ ρ1 F1 H1 hp e1 s1 walks_rng⟩
theorem di_rng2 {tg : Expr} (g : BltAt Γ "range") (ns : NoStar a) (ns2 : NoStar b) (h : DE Γ a ρ fun d ρ1 => DE Γ b ρ1 fun e ρ2 => ∃ i j : Int, d = .int i ∧ e = .int j ∧ (-(2 ^ 62) ≤ i ∧ i < 2 ^ 62 ∧ -(2 ^ 62) ≤ j ∧ j < 2 ^ 62) ∧ PL (rgD i (j - i).toNat) ρ2) : DI Γ tg (.Call (.Name "range" p) [a, b] [] pos) ρ PL := fun X c F σ H s R q => by
  refine ⟨_, pi_range2 (show X.env.scope.names.lookup _ = _ by rw [c.sc]; exact g.gl) (by rw [c.mg]; exact g.mg) pa_wp (by rw [ns, ns2]; rfl) (by rw [ns2]; rfl), ?_⟩
  refine da2 ns ns2 h X c F σ H s _ fun xs vs ρ1 F1 H1 h1 e1 s1 d1 => ?_
  obtain ⟨x, y, rfl, i, j, rfl, rfl, h1, hp⟩ := h1
  obtain ⟨v, w, rfl, dv, dw⟩ := vals_2 d1
  cases dv
  cases dw
  exact ⟨i, j, rfl, h1, q _ _ ρ1 F1 H1 hp e1 s1 walks_rng⟩
def enD (xs : List PyData) : List PyData := xs.zipIdx.map fun (x : PyData × Nat) => PyData.tuple [.int (x.2 : Int), x.1]
theorem walks_enum {K : PySem.W.Frag} {F : Hp} {l : Addr} {vs : List V} {ds : List PyData} (h : SqL K F l vs) (hd : DpAll K F vs ds) : Walks K (Ite K l) F (enD ds) := fun F' H e s => by
  have hq := sqL_mono s (sqL_mono e h)
  have hl : (enD ds).length = ds.length := by unfold enD; rw [List.length_map, List.length_zipIdx]
  refine ⟨fun i d hi => ?_, ⟨_, hq, by rw [hl]; exact Nat.le_of_eq (dpAll_len hd)⟩⟩
  unfold enD at hi
  rw [List.getElem?_map, List.getElem?_zipIdx] at hi
  cases k : ds[i]? with
  | none =>
    rw [k] at hi
    cases hi
  | some d0 =>
    rw [k] at hi
    have hi : PyData.tuple [.int ((0 + i : Nat) : Int), d0] = d := Option.some.inj hi
    rw [Nat.zero_add] at hi
    subst hi
    obtain ⟨v, hv, dv⟩ := dpAll_get hd k
    refine ⟨⟨_, v, hq, hv⟩, fun x H1 ⟨T, y, e1, e2, e3, e4⟩ => ?_⟩
    subst e1 e3
    have k2 := e4 _ hq
    rw [hv] at k2
    cases k2
    have px : PExt F' H (upd F' T (.tup [.int (i : Nat), v])) (upd H T (.tup [.int (i : Nat), v])) := .new s e2
    exact ⟨_, px, .tup (.of upd_same) (.cons (.int _) (.cons (dp_mono (e.trans px.ff) dv) .nil))⟩
theorem di_enum {tes : List Expr} {kk : Nat} {tpos : Pos} (g : BltAt Γ "enumerate") (ns : NoStar a) (h : DE Γ a ρ fun d ρ1 => ∃ xs, d = .list xs ∧ PL (enD xs) ρ1) : DI Γ (.Tuple tes kk tpos) (.Call (.Name "enumerate" p) [a] [] pos) ρ PL := fun X c F σ H s R q => by
  refine ⟨_, pi_enum (show X.env.scope.names.lookup _ = _ by rw [c.sc]; exact g.gl) (by rw [c.mg]; exact g.mg) pa_wp (ns _ _), ?_⟩
  refine da1 ns h X c F σ H s _ fun xs vs ρ1 F1 H1 h1 e1 s1 d1 => ?_
  obtain ⟨x, rfl, ys, rfl, hp⟩ := h1
  obtain ⟨v, rfl, dv⟩ := vals_1 d1
  cases dv with
  | lst hq ha =>
    refine ⟨_, _, rfl, by rw [c.K]; exact sqL_mono s1.sub hq, ?_⟩
    rw [c.K]
    exact q _ _ ρ1 F1 H1 hp e1 s1 (walks_enum hq ha)
def zipD (xs ys : List PyData) : List PyData := (xs.zip ys).map fun (x : PyData × PyData) => PyData.tuple [x.1, x.2]
theorem zip_get {xs ys : List PyData} {i : Nat} {d : PyData} (h : (zipD xs ys)[i]? = some d) : ∃ x y, xs[i]? = some x ∧ ys[i]? = some y ∧ d = .tuple [x, y] := by
  unfold zipD at h
  rw [List.getElem?_map] at h
  cases k : (xs.zip ys)[i]? with
  | none =>
    rw [k] at h
    cases h
  | some z =>
    rw [k] at h
    obtain ⟨h1, h2⟩ := List.getElem?_zip_eq_some.mp k
    exact ⟨z.1, z.2, h1, h2, (Option.some.inj h).symm⟩
theorem zip_len {xs ys : List PyData} : (zipD xs ys).length = min xs.length ys.length := by
  unfold zipD
  rw [List.length_map, List.length_zip]
theorem walks_zip {K : PySem.W.Frag} {F : Hp} {l m : Addr} {vs ws : List V} {ds es : List PyData} (h : SqL K F l vs) (hd : DpAll K F vs ds) (h2 : SqL K F m ws) (hd2 : DpAll K F ws es) : Walks K (Itz K l m) F (zipD ds es) := fun F' H e s => by
  have hq := sqL_mono s (sqL_mono e h)
  have hq2 := sqL_mono s (sqL_mono e h2)
  refine ⟨fun i d hi => ?_, ⟨_, _, hq, hq2, ?_⟩⟩
  · obtain ⟨x, y, k1, k2, rfl⟩ := zip_get hi
    obtain ⟨v, hv, dv⟩ := dpAll_get hd k1
    obtain ⟨w, hw, dw⟩ := dpAll_get hd2 k2
    refine ⟨⟨_, _, v, w, hq, hq2, hv, hw⟩, fun u H1 ⟨T, x', y', e1, e2, e3, e4, e5⟩ => ?_⟩
    subst e1 e3
    have q1 := e4 _ hq
    rw [hv] at q1
    cases q1
    have q2 := e5 _ hq2
    rw [hw] at q2
    cases q2
    have px : PExt F' H (upd F' T (.tup [v, w])) (upd H T (.tup [v, w])) := .new s e2
    exact ⟨_, px, .tup (.of upd_same) (.cons (dp_mono (e.trans px.ff) dv) (.cons (dp_mono (e.trans px.ff) dw) .nil))⟩
  · rw [zip_len]
    have := dpAll_len hd
    have := dpAll_len hd2
    omega
theorem walks_zipT {K : PySem.W.Frag} {F : Hp} {l m : Addr} {vs ws : List V} {ds es : List PyData} (h : SqT K F l vs) (hd : DpAll K F vs ds) (h2 : SqT K F m ws) (hd2 : DpAll K F ws es) : Walks K (ItzT K l m) F (zipD ds es) := fun F' H e s => by
  have hq := sqT_mono s (sqT_mono e h)
  have hq2 := sqT_mono s (sqT_mono e h2)
  refine ⟨fun i d hi => ?_, ⟨_, _, hq, hq2, ?_⟩⟩
  · obtain ⟨x, y, k1, k2, rfl⟩ := zip_get hi
    obtain ⟨v, hv, dv⟩ := dpAll_get hd k1
    obtain ⟨w, hw, dw⟩ := dpAll_get hd2 k2
    refine ⟨⟨_, _, v, w, hq, hq2, hv, hw⟩, fun u H1 ⟨T, x', y', e1, e2, e3, e4, e5⟩ => ?_⟩
    subst e1 e3
    have q1 := e4 _ hq
    rw [hv] at q1
    cases q1
    have q2 := e5 _ hq2
    rw [hw] at q2
    cases q2
    have px : PExt F' H (upd F' T (.tup [v, w])) (upd H T (.tup [v, w])) := .new s e2
    exact ⟨_, px, .tup (.of upd_same) (.cons (dp_mono (e.trans px.ff) dv) (.cons (dp_mono (e.trans px.ff) dw) .nil))⟩
  · rw [zip_len]
    have := dpAll_len hd
    have := dpAll_len hd2
    omega
theorem di_zip {tes : List Expr} {kk : Nat} {tpos : Pos} (g : BltAt Γ "zip") (ns : NoStar a) (ns2 : NoStar b) (h : DE Γ a ρ fun d ρ1 => DE Γ b ρ1 fun e ρ2 => ∃ xs ys, ((d = .list xs ∧ e = .list ys) ∨ (d = .tuple xs ∧ e = .tuple ys)) ∧ PL (zipD xs ys) ρ2) : DI Γ (.Tuple tes kk tpos) (.Call (.Name "zip" p) [a, b] [] pos) ρ PL := fun X c F σ H s R q => by
  refine ⟨_, pi_zipA (show X.env.scope.names.lookup _ = _ by rw [c.sc]; exact g.gl) (by rw [c.mg]; exact g.mg) pa_wp (by rw [ns]) (by rw [ns2]; rfl), ?_⟩
  refine da2 ns ns2 h X c F σ H s _ fun xs vs ρ1 F1 H1 h1 e1 s1 d1 => ?_
  obtain ⟨x, y, rfl, us, ws, e, hp⟩ := h1
  obtain ⟨v, w, rfl, dv, dw⟩ := vals_2 d1
  rcases e with ⟨rfl, rfl⟩ | ⟨rfl, rfl⟩
  · cases dv with
    | lst hq ha =>
      cases dw with
      | lst hq2 ha2 =>
        refine ⟨_, _, _, _, rfl, .inl ⟨by rw [c.K]; exact sqL_mono s1.sub hq, by rw [c.K]; exact sqL_mono s1.sub hq2, ?_⟩⟩
        rw [c.K]
        exact q _ _ ρ1 F1 H1 hp e1 s1 (walks_zip hq ha hq2 ha2)
  · cases dv with
    | tup hq ha =>
      cases dw with
      | tup hq2 ha2 =>
        refine ⟨_, _, _, _, rfl, .inr ⟨by rw [c.K]; exact sqT_mono s1.sub hq, by rw [c.K]; exact sqT_mono s1.sub hq2, ?_⟩⟩
        rw [c.K]
        exact q _ _ ρ1 F1 H1 hp e1 s1 (walks_zipT hq ha hq2 ha2)

/-! ### for -/
theorem ds_for {tg iter : Expr} {body : List Stmt} (hs : ∀ (env : PySem.Env) x, foldedSetIterable iter env x = pure x)
    (h : DI Γ tg iter ρ fun items ρ1 => ∃ Inv : Nat → Rh → Prop, Inv 0 ρ1 ∧ (∀ i d ρ2, items[i]? = some d → Inv i ρ2 → DGv Γ (fun _ => True) tg d ρ2 fun ρ3 => DSs Γ body ρ3 { nx := Inv (i + 1), rt := D.rt, bk := D.nx, ct := Inv (i + 1), rn := D.rn }) ∧ ∀ ρ2, Inv items.length ρ2 → D.nx ρ2) :
    DS Γ (.For tg iter body [] pos) ρ D := fun X c F σ H s En q => by
  refine ⟨_, ps_for c.ps c.calm pi_wp pg_wp pss_wp (hs _), ?_⟩
  refine h X c F σ H s _ fun items J ρ1 F1 H1 h1 e1 s1 wk => ?_
  obtain ⟨Inv, h0, ht, hd⟩ := h1
  refine ⟨fun i m σ2 H2 => m = items.length - i ∧ i ≤ items.length ∧ ∃ ρ2 F2, Inv i ρ2 ∧ Ext Γ.W.w F1 H1 F2 H2 ∧ Sx Γ.W Γ.K F2 H2 σ2 ρ2, ⟨_, rfl, Nat.zero_le _, ρ1, F1, h0, .refl, s1⟩, ?_⟩
  rintro i m σ2 H2 ⟨rfl, hi, ρ2, F2, iv, e2, s2⟩
  obtain ⟨wg, wst⟩ := wk F2 H2 e2.ff s2.sub
  by_cases hlt : i < items.length
  · refine .inr ⟨(wg i _ (List.getElem?_eq_getElem hlt)).1, fun σ3 H3 => ∃ ρ3 F3, Inv (i + 1) ρ3 ∧ Ext Γ.W.w F1 H1 F3 H3 ∧ Sx Γ.W Γ.K F3 H3 σ3 ρ3, fun σ3 H3 ⟨ρ3, F3, iv3, e3, s3⟩ => ⟨_, by omega, rfl, hlt, ρ3, F3, iv3, e3, s3⟩, fun x H3 y => ?_⟩
    obtain ⟨F3, px, dx⟩ := (wg i _ (List.getElem?_eq_getElem hlt)).2 x H3 y
    refine ht i _ ρ2 (List.getElem?_eq_getElem hlt) iv X c F3 σ2 H3 x (s2.pext px) dx _ fun σ4 ρ4 F4 H4 p4 _ e4 s4 => ?_
    have e14 := (e2.trans px.ext).trans e4
    exact p4 X c F4 σ4 H4 s4 _ ⟨fun σ5 ρ5 F5 H5 h5 e5 s5 => ⟨ρ5, F5, h5, e14.trans e5, s5⟩, fun d v σ5 ρ5 F5 H5 h5 e5 s5 d5 => q.rt d v σ5 ρ5 F5 H5 h5 ((e1.trans e14).trans e5) s5 d5, fun σ5 ρ5 F5 H5 h5 e5 s5 => q.nx σ5 ρ5 F5 H5 h5 ((e1.trans e14).trans e5) s5, fun σ5 ρ5 F5 H5 h5 e5 s5 => ⟨ρ5, F5, h5, e14.trans e5, s5⟩, fun ds p vs σ5 ρ5 F5 H5 h5 e5 s5 hf => q.rn ds p vs σ5 ρ5 F5 H5 h5 ((e1.trans e14).trans e5) s5 ((e1.trans e14).free hf)⟩
  · have e : i = items.length := by omega
    subst e
    exact .inl ⟨wst, q.nx _ _ F2 H2 (hd ρ2 iv) (e1.trans e2) s2⟩
/-! ### while -/
theorem ds_while {t : Expr} {body : List Stmt} (Inv : Nat → Rh → Prop) (m0 : Nat) (h0 : Inv m0 ρ)
    (ht : ∀ m ρ1, Inv m ρ1 → DT Γ t ρ1 fun k ρ2 => if k = true then DSs Γ body ρ2 { nx := fun ρ3 => ∃ m', m' < m ∧ Inv m' ρ3, rt := D.rt, bk := D.nx, ct := fun ρ3 => ∃ m', m' < m ∧ Inv m' ρ3, rn := D.rn } else D.nx ρ2) : DS Γ (.While t body [] pos) ρ D := fun X c F σ H s En q => by
  refine ⟨_, ps_while c.ps pt_wp pss_wp, ?_⟩
  refine ⟨fun m σ2 H2 => ∃ ρ2 F2, Inv m ρ2 ∧ Ext Γ.W.w F H F2 H2 ∧ Sx Γ.W Γ.K F2 H2 σ2 ρ2, ⟨m0, ρ, F, h0, .refl, s⟩, ?_⟩
  rintro m σ2 H2 ⟨ρ2, F2, iv, e2, s2⟩
  refine ht m ρ2 iv X c F2 σ2 H2 s2 _ fun k ρ3 F3 H3 h3 e3 s3 => ?_
  cases k with
  | true =>
    rw [if_pos rfl] at h3 ⊢
    refine ⟨fun σ5 H5 => ∃ m', m' < m ∧ ∃ ρ5 F5, Inv m' ρ5 ∧ Ext Γ.W.w F H F5 H5 ∧ Sx Γ.W Γ.K F5 H5 σ5 ρ5, fun σ5 H5 h => h, ?_⟩
    exact h3 X c F3 σ2 H3 s3 _ ⟨fun σ5 ρ5 F5 H5 ⟨m', hm, h5⟩ e5 s5 => ⟨m', hm, ρ5, F5, h5, (e2.trans e3).trans e5, s5⟩, fun d v σ5 ρ5 F5 H5 h5 e5 s5 d5 => q.rt d v σ5 ρ5 F5 H5 h5 ((e2.trans e3).trans e5) s5 d5, fun σ5 ρ5 F5 H5 h5 e5 s5 => q.nx σ5 ρ5 F5 H5 h5 ((e2.trans e3).trans e5) s5, fun σ5 ρ5 F5 H5 ⟨m', hm, h5⟩ e5 s5 => ⟨m', hm, ρ5, F5, h5, (e2.trans e3).trans e5, s5⟩, fun ds p vs σ5 ρ5 F5 H5 h5 e5 s5 hf => q.rn ds p vs σ5 ρ5 F5 H5 h5 ((e2.trans e3).trans e5) s5 ((e2.trans e3).free hf)⟩
  | false =>
    rw [if_neg Bool.false_ne_true] at h3 ⊢
    exact q.nx _ _ F3 H3 h3 (e2.trans e3) s3
end
end Y

/-! ## part Y6 -/
/-! Rules over data: list comprehensions, a def's promise by its body. -/
namespace Y
open PySem PySem.Spec PyProof.Rows L2 RZ

/-! ### slots wiped and restored -/
def wipeR (ρ : Rh) : List Nat → Rh
  | [] => ρ
  | v :: vs => (wipeR ρ vs).set v .un
theorem wipeR_length (ρ : Rh) : ∀ vs : List Nat, (wipeR ρ vs).length = ρ.length
  | [] => rfl
  | v :: vs => by unfold wipeR; rw [List.length_set, wipeR_length ρ vs]
theorem wipeR_out {ρ : Rh} {j : Nat} : ∀ {vs : List Nat}, j ∉ vs → (wipeR ρ vs)[j]? = ρ[j]?
  | [], _ => rfl
  | v :: vs, h => by
    unfold wipeR
    rw [List.getElem?_set_ne (fun e => h (by rw [e]; exact List.mem_cons_self))]
    exact wipeR_out fun z => h (List.mem_cons_of_mem _ z)
theorem wipeR_in {ρ : Rh} {j : Nat} (hj : j < ρ.length) : ∀ {vs : List Nat}, j ∈ vs → (wipeR ρ vs)[j]? = some .un
  | v :: vs, h => by
    unfold wipeR
    by_cases e : v = j
    · subst e
      exact List.getElem?_set_self (by rw [wipeR_length]; exact hj)
    · rw [List.getElem?_set_ne e]
      exact wipeR_in hj ((List.mem_cons.mp h).elim (fun z => absurd z.symm e) id)
theorem wipe_in {σ : L2.St} {j : Nat} (hj : j < σ.length) : ∀ {vs : List Nat}, j ∈ vs → (wipe σ vs)[j]? = some none
  | v :: vs, h => by
    unfold wipe
    by_cases e : v = j
    · subst e
      exact List.getElem?_set_self (by rw [wipe_length]; exact hj)
    · rw [List.getElem?_set_ne e]
      exact wipe_in hj ((List.mem_cons.mp h).elim (fun z => absurd z.symm e) id)
theorem Sx.wipe {W : Wr} {K : PySem.W.Frag} {F H : Hp} {σ : L2.St} {ρ : Rh} (s : Sx W K F H σ ρ) : ∀ vs : List Nat, Sx W K F H (L2.wipe σ vs) (wipeR ρ vs)
  | [] => s
  | v :: vs => (s.wipe vs).wipe1
/-- slots outside vs alike: wiped alike -/
theorem wipe_tgv {σ σ' : L2.St} {vs : List Nat} (t : TgV (· ∈ vs) (L2.wipe σ vs) σ') : L2.wipe σ' vs = L2.wipe σ vs := by
  have hl : σ'.length = σ.length := by rw [t.1, wipe_length]
  apply List.ext_getElem?
  intro j
  by_cases hj : j ∈ vs
  · by_cases hl' : j < σ.length
    · rw [wipe_in hl' hj, wipe_in (by omega) hj]
    · rw [List.getElem?_eq_none (by rw [wipe_length]; omega), List.getElem?_eq_none (by rw [wipe_length]; omega)]
  · rw [wipe_out hj]
    exact t.2 j hj
/-- the slots vs as they were in ρ, the others as in ρ' -/
def restR (ρ ρ' : Rh) (vs : List Nat) : Rh := (List.range ρ'.length).map fun j => if j ∈ vs then ρ.getD j .un else ρ'.getD j .un
theorem restR_length {ρ ρ' : Rh} {vs : List Nat} : (restR ρ ρ' vs).length = ρ'.length := by unfold restR; rw [List.length_map, List.length_range]
theorem restR_get {ρ ρ' : Rh} {vs : List Nat} {j : Nat} (hj : j < ρ'.length) : (restR ρ ρ' vs)[j]? = some (if j ∈ vs then ρ.getD j .un else ρ'.getD j .un) := by
  unfold restR
  rw [List.getElem?_map, List.getElem?_range hj]
  rfl
theorem rest_wipe {ρ : Rh} {vs : List Nat} : restR ρ (wipeR ρ vs) vs = ρ := by
  apply List.ext_getElem?
  intro j
  by_cases hj : j < ρ.length
  · rw [restR_get (by rw [wipeR_length]; exact hj)]
    by_cases h : j ∈ vs
    · rw [if_pos h, List.getD_eq_getElem?_getD, List.getElem?_eq_getElem hj] <;> rfl
    · rw [if_neg h, List.getD_eq_getElem?_getD, wipeR_out h, List.getElem?_eq_getElem hj] <;> rfl
  · rw [List.getElem?_eq_none (by rw [restR_length, wipeR_length]; omega), List.getElem?_eq_none (by omega)]
def NoOw (ρ : Rh) (vs : List Nat) : Prop := ∀ j ∈ vs, ∀ p ds, ρ.getD j .un ≠ .ow p ds
theorem Sx.rest {W : Wr} {K : PySem.W.Frag} {F H F' H' : Hp} {σ : L2.St} {ρ ρ' : Rh} {vs : List Nat} {W' : Wr} (s : Sx W K F H σ ρ) (s' : Sx W' K F' H' (L2.wipe σ vs) ρ') (no : NoOw ρ vs) (ff : Same F F') (hw : ∀ x, W'.w x → W.w x) (ex : Ext W.w F H F' H') : Sx W K F' H' σ (restR ρ ρ' vs) := by
  have hl : ρ'.length = σ.length := by rw [← s'.len, wipe_length]
  have hr : ρ.length = σ.length := s.len.symm
  have get : ∀ {j : Nat} {y : Sl}, (restR ρ ρ' vs)[j]? = some y → j < ρ'.length ∧ ((j ∈ vs ∧ ρ[j]? = some y) ∨ (j ∉ vs ∧ ρ'[j]? = some y)) := fun {j y} e => by
    have hj : j < ρ'.length := by
      have := (List.getElem?_eq_some_iff.mp e).1
      rw [restR_length] at this
      exact this
    rw [restR_get hj] at e
    refine ⟨hj, ?_⟩
    by_cases h : j ∈ vs
    · rw [if_pos h, List.getD_eq_getElem?_getD, List.getElem?_eq_getElem (by omega : j < ρ.length)] at e
      exact .inl ⟨h, by rw [List.getElem?_eq_getElem (by omega : j < ρ.length)]; exact e⟩
    · rw [if_neg h, List.getD_eq_getElem?_getD, List.getElem?_eq_getElem hj] at e
      exact .inr ⟨h, by rw [List.getElem?_eq_getElem hj]; exact e⟩
  have own : ∀ {j : Nat} {r : Addr} {es : List PyData}, (restR ρ ρ' vs)[j]? = some (.ow r es) → j ∉ vs ∧ ρ'[j]? = some (.ow r es) := fun {j r es} e => by
    obtain ⟨hj, h⟩ := get e
    rcases h with ⟨h1, h2⟩ | h
    · exact absurd (by rw [List.getD_eq_getElem?_getD, h2]; rfl) (no j h1 r es)
    · exact h
  refine ⟨s'.sub, by rw [restR_length]; exact hl.symm, fun j d e => ?_, fun j r es e => ?_, fun j j' r es es' e e' => s'.apart j j' r es es' (own e).2 (own e').2, fun a h => hw a (s'.new a h), s.rch.trans ex⟩
  · obtain ⟨hj, h⟩ := get e
    rcases h with ⟨h1, h2⟩ | ⟨h1, h2⟩
    · obtain ⟨v, a, b⟩ := s.va j d h2
      exact ⟨v, a, dp_mono ff b⟩
    · obtain ⟨v, a, b⟩ := s'.va j d h2
      rw [wipe_out h1] at a
      exact ⟨v, a, b⟩
  · obtain ⟨h1, h2⟩ := own e
    obtain ⟨a, b, c, ws, d, f⟩ := s'.ow j r es h2
    rw [wipe_out h1] at a
    exact ⟨a, b, hw r c, ws, d, f⟩
theorem Sx.cellUpd {W : Wr} {K : PySem.W.Frag} {F H : Hp} {σ : L2.St} {ρ : Rh} (s : Sx W K F H σ ρ) {p : Addr} {o : HO} (hF : F p = none) (hw : ¬ W.w p) (hr : Ext W.w W.F0 W.H0 F (upd H p o)) : Sx W K F (upd H p o) σ ρ where
  rch := hr
  sub := fun a x h => by rw [upd_ne (fun e => by rw [e, hF] at h; cases h)]; exact s.sub a x h
  len := s.len
  va := s.va
  ow := fun i r es h => by
    obtain ⟨a, b, c, ws, d, f⟩ := s.ow i r es h
    exact ⟨a, b, c, ws, by rw [upd_ne (fun e => hw (by rw [← e]; exact c))]; exact d, f⟩
  apart := s.apart
  new := fun a h => by
    by_cases e : a = p
    · rw [e, upd_same] at h; cases h
    · rw [upd_ne e] at h
      exact s.new a h
theorem Sx.reW {W W' : Wr} {K : PySem.W.Frag} {F H : Hp} {σ : L2.St} {ρ : Rh} (s : Sx W K F H σ ρ) (ho : ∀ (i : Nat) (p : Addr) (ds : List PyData), ρ[i]? = some (.ow p ds) → W'.w p) (hn : ∀ a, H a = none → W'.w a) (hr : Ext W'.w W'.F0 W'.H0 F H) : Sx W' K F H σ ρ where
  rch := hr
  sub := s.sub
  len := s.len
  va := s.va
  ow := fun i r es h => by
    obtain ⟨a, b, c, d⟩ := s.ow i r es h
    exact ⟨a, b, ho i r es h, d⟩
  apart := s.apart
  new := hn

/-! ### blocks -/
abbrev Sta.blk (Γ : Sta) (scope : Scope) (W' : Wr) : Sta := { Γ with sc := relS scope Γ.sc, W := W', fn := fun x => scope.names.lookup x == some .cell, wx := fun _ _ _ _ => False, top := false }
theorem CxIs.reW {Γ : Sta} {scope : Scope} {W1 W2 : Wr} {X : Cx} (c : CxIs (Γ.blk scope W1) X) : CxIs (Γ.blk scope W2) X := ⟨c.prog, c.w, c.K, c.mg, c.base, c.N, c.sc, c.calm, c.room, c.nd, c.fn, c.ps, c.tk, c.stk⟩
theorem CxIs.blk {Γ : Sta} {X : Cx} (c : CxIs Γ X) (scope : Scope) (s : Shared) (H : Hp) (C : Addr) (cl : List (Str × Addr)) (fp : List Addr) : CxIs (Γ.blk scope Γ.W) (X.blk s H scope (compEnvC scope cl C X.env) fp) :=
  ⟨c.prog, c.w, c.K, c.mg, c.base, c.N, (show relS scope X.env.scope = relS scope Γ.sc by rw [c.sc]), c.calm, c.room, c.nd, rfl, PassesOwn.never, takes0, fun z => nomatch z⟩
def wpeA (Γ : Sta) (e : Expr) : TE := fun σ H Q => ∀ X, CxIs Γ X → wpe X e σ H Q
def wptsA (Γ : Sta) (e : List Expr) : TT := fun σ H Q => ∀ X, CxIs Γ X → wpts X e σ H Q
def wpgA (Γ : Sta) (tg : Expr) : TG := fun v σ H Q => ∀ X, CxIs Γ X → wpg X tg v σ H Q
theorem pe_A {Γ : Sta} {X : Cx} {e : Expr} (c : CxIs Γ X) : PE X e (wpeA Γ e) := ⟨fun pins s σ H Q I h => pe_wp.run pins s σ H Q I (h X c)⟩
theorem pts_A {Γ : Sta} {X : Cx} {e : List Expr} (c : CxIs Γ X) : PTs X e (wptsA Γ e) := ⟨fun pins s σ H Q I h => pts_wp.run pins s σ H Q I (h X c)⟩
theorem pg_A {Γ : Sta} {X : Cx} {e : Expr} (c : CxIs Γ X) : PG X e (wpgA Γ e) := ⟨fun pins s σ H v u Q I r h => pg_wp.run pins s σ H v u Q I r (h X c)⟩
section
variable {Γ : Sta} {ρ : Rh} {a b : Expr} {pos p : Pos} {P : PyData → Rh → Prop} {PB : Bool → Rh → Prop} {PL : List PyData → Rh → Prop} {es : List Expr} {D : Dn} {st : Stmt} {rest : List Stmt}
theorem dts_nil (h : PB true ρ) : DTs Γ [] ρ PB := fun X c F σ H s Q q => ⟨_, pts_nil, q _ ρ F H h .refl s⟩
theorem dts_one (h : DT Γ a ρ PB) : DTs Γ [a] ρ PB := fun X c F σ H s Q q => ⟨_, pts_one pt_wp, h X c F σ H s Q q⟩
/-- what a comprehension over the items comes to, by an invariant -/
def LcD (Γ : Sta) (tg elt : Expr) (ifs : List Expr) (scope : Scope) (vs : List Nat) (PL : List PyData → Rh → Prop) (items : List PyData) (ρ1 : Rh) : Prop := NoOw ρ1 vs ∧ ∃ Inv : Nat → List PyData → Rh → Prop, Inv 0 [] (wipeR ρ1 vs) ∧
  (∀ W' i d acc ρ2, items[i]? = some d → Inv i acc ρ2 → DGv (Γ.blk scope W') (· ∈ vs) tg d ρ2 fun ρ3 => DTs (Γ.blk scope W') ifs ρ3 fun k ρ4 =>
    if k = true then DE (Γ.blk scope W') elt ρ4 fun y ρ5 => acc.length < sizeLine ∧ Inv (i + 1) (acc ++ [y]) (wipeR ρ5 vs) else Inv (i + 1) acc (wipeR ρ4 vs)) ∧
  ∀ acc ρ2, Inv items.length acc ρ2 → PL acc (restR ρ1 ρ2 vs)
theorem lc_run {tg elt iter : Expr} {ifs : List Expr} {scope : Scope} {vs : List Nat} (h : DI Γ tg iter ρ fun items ρ1 => LcD Γ tg elt ifs scope vs PL items ρ1) {X : Cx} (c : CxIs Γ X) {F H : Hp} {σ : L2.St} (s : Sx Γ.W Γ.K F H σ ρ) (Q : VK)
    (q : ∀ ds p us ρ' F' H', PL ds ρ' → Ext Γ.W.w F H F' H' → Sx Γ.W Γ.K F' H' σ ρ' → H p = none → F' p = none → Γ.W.w p → H' p = some (.lst us) → DpAll Γ.K F' us ds → (∀ (i : Nat) (es : List PyData), ρ'[i]? ≠ some (.ow p es)) → Q (.ref p) H') :
    tLc (wpi X tg iter) (wpgA (Γ.blk scope Γ.W) tg) (wptsA (Γ.blk scope Γ.W) ifs) (wpeA (Γ.blk scope Γ.W) elt) vs σ H Q := by
  refine h X c F σ H s _ fun items J ρ1 F1 H1 h1 e1 s1 wk => ?_
  intro Dl hD
  obtain ⟨hno, Inv, h0, ht, hd⟩ := h1
  have wD : Γ.W.w Dl := s1.new Dl hD
  have hFD : F1 Dl = none := s1.free hD
  refine ⟨fun i m H2 => m = items.length - i ∧ i ≤ items.length ∧ ∃ ρ2 F2 acc us, Inv i acc ρ2 ∧ Ext Γ.W.w F1 H1 F2 H2 ∧ Sx ⟨fun x => Γ.W.w x ∧ x ≠ Dl, fun _ => none, fun _ => none⟩ Γ.K F2 H2 (L2.wipe σ vs) ρ2 ∧ F2 Dl = none ∧ H2 Dl = some (.lst us) ∧ DpAll Γ.K F2 us acc, ⟨_, rfl, Nat.zero_le _, wipeR ρ1 vs, F1, [], [], h0, ?_, ?_, hFD, upd_same, .nil⟩, ?_⟩
  · exact (PExt.cell s1.sub hD).ext
  · refine ((s1.pext (PExt.cell (o := .lst []) s1.sub hD)).wipe vs).reW (fun i r es e => ?_) (fun x hx => ?_) .start
    · obtain ⟨_, _, w, ws, k, _⟩ := (s1.wipe vs).ow i r es e
      exact ⟨w, fun z => by rw [z, hD] at k; cases k⟩
    · by_cases k : x = Dl
      · rw [k, upd_same] at hx; cases hx
      · rw [upd_ne k] at hx
        exact ⟨s1.new x hx, k⟩
  rintro i m H2 ⟨rfl, hi, ρ2, F2, acc, us, iv, e2, s2, f2, hD2, d2⟩
  obtain ⟨wg, wst⟩ := wk F2 H2 e2.ff s2.sub
  by_cases hlt : i < items.length
  · refine .inr ⟨(wg i _ (List.getElem?_eq_getElem hlt)).1, fun H3 => ∃ ρ3 F3 acc' us', Inv (i + 1) acc' ρ3 ∧ Ext Γ.W.w F1 H1 F3 H3 ∧ Sx ⟨fun x => Γ.W.w x ∧ x ≠ Dl, fun _ => none, fun _ => none⟩ Γ.K F3 H3 (L2.wipe σ vs) ρ3 ∧ F3 Dl = none ∧ H3 Dl = some (.lst us') ∧ DpAll Γ.K F3 us' acc', fun H3 ⟨ρ3, F3, acc', us', k⟩ => ⟨_, by omega, rfl, hlt, ρ3, F3, acc', us', k⟩, fun x H3 y => ?_⟩
    obtain ⟨F3, px, dx⟩ := (wg i _ (List.getElem?_eq_getElem hlt)).2 x H3 y
    have nD : ¬ (Γ.W.w Dl ∧ Dl ≠ Dl) := fun z => z.2 rfl
    have f3 : F3 Dl = none := px.fr Dl (by rw [hD2]; exact fun z => nomatch z) f2
    have hD3 : H3 Dl = some (.lst us) := px.hh _ _ hD2
    have wd : ∀ x, (Γ.W.w x ∧ x ≠ Dl) → Γ.W.w x := fun x h => h.1
    have T := ht ⟨fun x => Γ.W.w x ∧ x ≠ Dl, fun _ => none, fun _ => none⟩ i _ acc ρ2 (List.getElem?_eq_getElem hlt) iv
    intro X1 c1
    refine T X1 c1.reW F3 _ H3 x (s2.pext px) dx _ fun σ4 ρ4 F4 H4 p4 t4 e4 s4 => ?_
    have f4 : F4 Dl = none := e4.fr Dl (by rw [hD3]; exact fun z => nomatch z) nD f3
    have hD4 : H4 Dl = some (.lst us) := e4.hh _ _ hD3 nD
    have ew := wipe_tgv t4
    refine ⟨ew, fun X2 c2 => ?_⟩
    refine p4 X2 c2.reW F4 σ4 H4 s4 _ fun k ρ5 F5 H5 p5 e5 s5 => ?_
    have f5 : F5 Dl = none := e5.fr Dl (by rw [hD4]; exact fun z => nomatch z) nD f4
    have hD5 : H5 Dl = some (.lst us) := e5.hh _ _ hD4 nD
    have e25 := ((e2.trans px.ext).trans (e4.wide wd)).trans (e5.wide wd)
    cases k with
    | true =>
      rw [if_pos rfl] at p5 ⊢
      intro X3 c3
      refine p5 X3 c3.reW F5 σ4 H5 s5 _ fun y vy ρ6 F6 H6 p6 e6 s6 d6 => ?_
      have f6 : F6 Dl = none := e6.fr Dl (by rw [hD5]; exact fun z => nomatch z) nD f5
      have hD6 : H6 Dl = some (.lst us) := e6.hh _ _ hD5 nD
      have ff : Same F2 F6 := px.ff.trans (e4.ff.trans (e5.ff.trans e6.ff))
      refine ⟨us, hD6, by rw [dpAll_len d2]; exact p6.1, wipeR ρ6 vs, F6, acc ++ [y], us ++ [vy], p6.2, (e25.trans (e6.wide wd)).trans ⟨.refl _, fun a o h w => by rw [upd_ne (fun e => w (by rw [e]; exact wD))]; exact h, fun _ _ _ f => f, fun a h => ?_⟩, ?_, f6, upd_same, dpAll_append (dpAll_mono ff d2) (.cons d6 .nil)⟩
      · by_cases k : a = Dl
        · rw [k, upd_same]; exact fun z => nomatch z
        · rw [upd_ne k]; exact h
      · have s7 := s6.wipe vs
        rw [ew] at s7
        exact s7.cellUpd f6 nD .start
    | false =>
      rw [if_neg Bool.false_ne_true] at p5 ⊢
      have s6 := s5.wipe vs
      rw [ew] at s6
      exact ⟨wipeR ρ5 vs, F5, acc, us, p5, e25, s6, f5, hD5, dpAll_mono (px.ff.trans (e4.ff.trans e5.ff)) d2⟩
  · have e : i = items.length := by omega
    subst e
    refine .inl ⟨wst, ?_⟩
    have sr : Sx Γ.W Γ.K F2 H2 σ (restR ρ1 ρ2 vs) := s1.rest s2 hno e2.ff (fun _ h => h.1) e2
    refine q acc Dl us _ F2 H2 (hd acc ρ2 iv) (e1.trans e2) sr (e1.free hD) f2 wD hD2 d2 fun j es e => ?_
    have hlr : (restR ρ1 ρ2 vs).length = ρ2.length := restR_length
    have hj := (List.getElem?_eq_some_iff.mp e).1
    rw [restR_get (by omega)] at e
    by_cases k : j ∈ vs
    · rw [if_pos k] at e
      exact hno j k _ _ (Option.some.inj e)
    · rw [if_neg k, List.getD_eq_getElem?_getD, List.getElem?_eq_getElem (by omega : j < ρ2.length)] at e
      have e' : ρ2[j]? = some (.ow Dl es) := by rw [List.getElem?_eq_getElem (by omega : j < ρ2.length)]; exact e
      exact (s2.ow j Dl es e').2.2.1.2 rfl
theorem dn_lc {tg elt iter : Expr} {ifs : List Expr} {scope : Scope} {own : List (Str × Nat)} (ok : BlkOk Γ.N Γ.sc scope own) (hs : ∀ (env : PySem.Env) x, foldedSetIterable iter env x = pure x)
    (h : DI Γ tg iter ρ fun items ρ1 => LcD Γ tg elt ifs scope (own.map (·.2)) PL items ρ1) : DN Γ (.ListComp elt [⟨tg, iter, ifs, 0⟩] scope pos) ρ PL := fun X c F σ H s Q q =>
  ⟨_, pe_lc c.calm c.nd pi_wp (by rw [c.N, c.sc]; exact ok) (fun s H C cl fp => pg_A (c.blk scope s H C cl fp)) (fun s H C cl fp => pts_A (c.blk scope s H C cl fp)) (fun s H C cl fp => pe_A (c.blk scope s H C cl fp)) (hs _), lc_run h c s Q q⟩
theorem ds_setLcN {i : Nat} {y : Str} {py : Pos} {tg elt iter : Expr} {ifs : List Expr} {scope : Scope} {own : List (Str × Nat)} {spos : Pos} (v : LocAt Γ i y) (hl : Γ.sc.names.lookup y = some .local)
    (hsw : ∀ env : PySem.Env, env.scope = Γ.sc → swapsWith (.ListComp elt [⟨tg, iter, ifs, 0⟩] scope pos) (some (.Name y py)) spos.line env = pure true) (ok : BlkOk Γ.N Γ.sc scope own) (hs : ∀ (env : PySem.Env) x, foldedSetIterable iter env x = pure x)
    (h : DI Γ tg iter ρ fun items ρ1 => LcD Γ tg elt ifs scope (own.map (·.2)) (fun ds ρ2 => ∀ p, D.nx (ρ2.set i (.ow p ds))) items ρ1) : DS Γ (.Assign [.Name y py] (.ListComp elt [⟨tg, iter, ifs, 0⟩] scope pos) spos) ρ D := fun X c F σ H s En q =>
  ⟨_, ps_setLc c.calm c.nd (by rw [c.N]; exact v.hN) (by rw [c.sc]; exact hl) (hsw _ c.sc) pi_wp (by rw [c.N, c.sc]; exact ok) (fun s H C cl fp => pg_A (c.blk scope s H C cl fp)) (fun s H C cl fp => pts_A (c.blk scope s H C cl fp)) (fun s H C cl fp => pe_A (c.blk scope s H C cl fp)) (hs _),
    lc_run h c s _ fun ds p us ρ' F' H' k e s' hf hF hW hH hd no => q.nx _ _ F' H' (k p) e (s'.setOw hF hW hH hd no)⟩
theorem ds_setLc {i : Nat} {y : Str} {py : Pos} {tg elt iter : Expr} {ifs : List Expr} {scope : Scope} {own : List (Str × Nat)} {spos : Pos} (v : LocAt Γ i y) (hl : Γ.sc.names.lookup y = some .local)
    (hsw : ∀ env : PySem.Env, env.scope = Γ.sc → swapsWith (.ListComp elt [⟨tg, iter, ifs, 0⟩] scope pos) (some (.Name y py)) spos.line env = pure true) (ok : BlkOk Γ.N Γ.sc scope own) (hs : ∀ (env : PySem.Env) x, foldedSetIterable iter env x = pure x)
    (h : DI Γ tg iter ρ fun items ρ1 => LcD Γ tg elt ifs scope (own.map (·.2)) (fun ds ρ2 => i < ρ2.length ∧ D.nx (ρ2.set i (.va (.list ds)))) items ρ1) : DS Γ (.Assign [.Name y py] (.ListComp elt [⟨tg, iter, ifs, 0⟩] scope pos) spos) ρ D := fun X c F σ H s En q =>
  ⟨_, ps_setLc c.calm c.nd (by rw [c.N]; exact v.hN) (by rw [c.sc]; exact hl) (hsw _ c.sc) pi_wp (by rw [c.N, c.sc]; exact ok) (fun s H C cl fp => pg_A (c.blk scope s H C cl fp)) (fun s H C cl fp => pts_A (c.blk scope s H C cl fp)) (fun s H C cl fp => pe_A (c.blk scope s H C cl fp)) (hs _),
    lc_run h c s _ fun ds p us ρ' F' H' k e s' hf hF hW hH hd no => by
      have so := s'.setOw (i := i) hF hW hH hd no
      obtain ⟨F2, e2, s2⟩ := so.freeze (i := i) (p := p) (ds := ds) (List.getElem?_set_self k.1)
      rw [List.set_set] at s2
      exact q.nx _ _ F2 H' k.2 (e.trans e2) s2⟩
/-- each item kept or not, by a function of it alone -/
theorem lcd_pure {tg elt : Expr} {ifs : List Expr} {scope : Scope} {vs : List Nat} {items : List PyData} {ρ1 : Rh} (keep : PyData → Bool) (val : PyData → PyData) (no : NoOw ρ1 vs) (hz : items.length ≤ sizeLine)
    (ht : ∀ W' d, d ∈ items → DGv (Γ.blk scope W') (· ∈ vs) tg d (wipeR ρ1 vs) fun ρ3 => DTs (Γ.blk scope W') ifs ρ3 fun k ρ4 =>
      k = keep d ∧ if k = true then DE (Γ.blk scope W') elt ρ4 fun y ρ5 => y = val d ∧ wipeR ρ5 vs = wipeR ρ1 vs else wipeR ρ4 vs = wipeR ρ1 vs) (hd : PL ((items.filter keep).map val) ρ1) : LcD Γ tg elt ifs scope vs PL items ρ1 := by
  refine ⟨no, fun i acc ρ2 => ρ2 = wipeR ρ1 vs ∧ acc = ((items.take i).filter keep).map val, ⟨rfl, rfl⟩, fun W' i d acc ρ2 hi ⟨e1, e2⟩ => ?_, fun acc ρ2 ⟨e1, e2⟩ => ?_⟩
  · subst e1
    have hm : d ∈ items := List.mem_of_getElem? hi
    have hlt := (List.getElem?_eq_some_iff.mp hi).1
    have tk : items.take (i + 1) = items.take i ++ [d] := by
      rw [List.take_succ, hi]
      rfl
    have hal : acc.length ≤ i := by
      rw [e2, List.length_map]
      refine Nat.le_trans (List.length_filter_le _ _) ?_
      rw [List.length_take]
      exact Nat.min_le_left _ _
    intro X c F σ H v s dd Q q
    refine ht W' d hm X c F σ H v s dd Q fun σ3 ρ3 F3 H3 h3 t3 e3 s3 => q σ3 ρ3 F3 H3 ?_ t3 e3 s3
    intro X2 c2 F4 σ4 H4 s4 Q2 q2
    refine h3 X2 c2 F4 σ4 H4 s4 Q2 fun k ρ5 F5 H5 ⟨hk, h5⟩ e5 s5 => q2 k ρ5 F5 H5 ?_ e5 s5
    cases k with
    | true =>
      rw [if_pos rfl] at h5 ⊢
      refine h5.mono fun y ρ6 ⟨ey, ew⟩ => ⟨by omega, ew, ?_⟩
      rw [tk, List.filter_append, List.map_append, List.filter_cons, if_pos hk.symm, ← e2, ey]
      rfl
    | false =>
      rw [if_neg Bool.false_ne_true] at h5 ⊢
      refine ⟨h5, ?_⟩
      rw [tk, List.filter_append, List.map_append, List.filter_cons, if_neg (by rw [← hk]; exact Bool.false_ne_true), ← e2]
      show acc = acc ++ []
      rw [List.append_nil]
  · subst e1
    rw [rest_wipe]
    rw [List.take_length] at e2
    rw [e2]
    exact hd

/-! ### a def of the text keeps its promise -/
def RetOk (as as' : List Sl) (ρ : Rh) : Prop := as'.length = as.length ∧ ∀ (i : Nat) (s : Sl), as'[i]? = some s → match s with
  | .un => True
  | .va d => as[i]? = some (.va d)
  | .ow p ds => (∃ ds0, as[i]? = some (.ow p ds0)) ∧ ρ[i]? = some (.ow p ds)
theorem retOk_pure {ds : List PyData} {ρ : Rh} : RetOk (ds.map .va) (ds.map .va) ρ := ⟨rfl, fun i s e => by
  cases s with
  | un => trivial
  | va d => exact e
  | ow p es =>
    rw [List.getElem?_map] at e
    cases q : ds[i]? with
    | none => rw [q] at e; cases e
    | some d => rw [q] at e; cases e⟩
/-- the first argument a list of one's own, the others data -/
theorem retOk_own {p : Addr} {l l' : List PyData} {ds : List PyData} {ρ : Rh} (h : ρ[0]? = some (.ow p l')) : RetOk (.ow p l :: ds.map .va) (.ow p l' :: ds.map .va) ρ := ⟨rfl, fun i s e => by
  cases i with
  | zero =>
    cases e
    exact ⟨⟨_, rfl⟩, h⟩
  | succ i =>
    have e : (ds.map Sl.va)[i]? = some s := e
    cases s with
    | un => trivial
    | va d => exact e
    | ow p es =>
      rw [List.getElem?_map] at e
      cases q : ds[i]? with
      | none => rw [q] at e; cases e
      | some d => rw [q] at e; cases e⟩
theorem Sx.more {W : Wr} {K : PySem.W.Frag} {F H : Hp} {σ : L2.St} {ρ : Rh} (s : Sx W K F H σ ρ) (n : Nat) : Sx W K F H (σ ++ List.replicate n none) (ρ ++ List.replicate n .un) := by
  have nk : ∀ {i : Nat} {y : Sl}, y ≠ .un → (ρ ++ List.replicate n Sl.un)[i]? = some y → i < ρ.length ∧ ρ[i]? = some y := fun {i y} ny e => by
    by_cases h : i < ρ.length
    · rw [List.getElem?_append_left h] at e
      exact ⟨h, e⟩
    · rw [List.getElem?_append_right (by omega), List.getElem?_replicate] at e
      split at e
      · exact absurd (Option.some.inj e).symm ny
      · cases e
  refine ⟨s.sub, by rw [List.length_append, List.length_append, List.length_replicate, List.length_replicate, s.len], fun i d e => ?_, fun i p ds e => ?_, fun i j p ds es e e' => s.apart i j p ds es (nk (y := .ow p ds) (fun z => nomatch z) e).2 (nk (y := .ow p es) (fun z => nomatch z) e').2, s.new, s.rch⟩
  · obtain ⟨h, e⟩ := nk (y := .va d) (fun z => nomatch z) e
    obtain ⟨v, a, b⟩ := s.va i d e
    exact ⟨v, by rw [List.getElem?_append_left (by rw [s.len]; exact h)]; exact a, b⟩
  · obtain ⟨h, e⟩ := nk (y := .ow p ds) (fun z => nomatch z) e
    obtain ⟨a, b⟩ := s.ow i p ds e
    exact ⟨by rw [List.getElem?_append_left (by rw [s.len]; exact h)]; exact a, b⟩
/-- a def of the text: its body over data -/
theorem fn_ok {M : Mo} {x qual : Str} {st : Stmt} {f : Addr} {fd : FuncData} {N ps : List Str} {k : Nat} {R : Spec} (Fn : Fun M.K x qual st f fd) (S : FnScope N ps (defScope st))
    (hl : ∀ g as, R.pre g as → as.length = ps.length)
    (body : ∀ W g as, R.pre g as → DSs ⟨M, N, defScope st, k, W, fun _ => true, fun _ _ _ _ => False, true⟩ (defBody st) (as ++ List.replicate (N.length - ps.length) .un) { nx := fun ρ' => ∃ as', R.post g as as' .none ∧ RetOk as as' ρ', rt := fun d ρ' => ∃ as', R.post g as as' d ∧ RetOk as as' ρ' }) :
    FnOk M.P M.w M.K M.mg M.base CX0 (k + 1) f fd ps (spW M.K R) := by
  refine Fn.ok S (fun vs H Q E h => ?_) (fun cdv A outer s H vs Q E hr h => ?_)
  · obtain ⟨F, as, g, sx, r, _⟩ := h
    have := sx.len
    rw [List.length_map] at this
    rw [this, hl _ _ r]
  · obtain ⟨F, as, g, sx, r, cont⟩ := h
    have hvl : vs.length = ps.length := by
      have := sx.len
      rw [List.length_map] at this
      rw [this, hl _ _ r]
    have c : CxIs ⟨M, N, defScope st, k, Wof F H as, fun _ => true, fun _ _ _ _ => False, true⟩ (cxOf CX0 M.P M.w M.K M.mg M.base N qual (defScope st) f cdv A outer s H E).nox :=
      ⟨rfl, rfl, rfl, rfl, rfl, rfl, rfl, rfl, hr, S.nd, rfl, PassesOwn.never, takes0, fun _ => ⟨rfl, rfl⟩⟩
    have fin : ∀ {σ' : L2.St} {ρ' : Rh} {F' H' : Hp} {v : V} {d : PyData}, (∃ as', R.post g as as' d ∧ RetOk as as' ρ') → Ext (Wof F H as).w F H F' H' → Sx (Wof F H as) M.K F' H' σ' ρ' → Dp M.K F' v d → Q v H' := fun {σ' ρ' F' H' v d} ro e s' dv => by
      obtain ⟨as', po, ro⟩ := ro
      refine cont as' d v F' H' po e ⟨s'.sub, by rw [sx.len, ro.1], fun i d e2 => ?_, fun i p ds e2 => ?_, fun i j p ds es e2 e3 => ?_, fun a ha => .inl (e.free ha), e⟩ dv
      · obtain ⟨v, a, b⟩ := sx.va i d (ro.2 i _ e2)
        exact ⟨v, a, dp_mono e.ff b⟩
      · obtain ⟨⟨ds0, e3⟩, e4⟩ := ro.2 i _ e2
        exact ⟨(sx.ow i p ds0 e3).1, (s'.ow i p ds e4).2⟩
      · obtain ⟨⟨d1, e4⟩, _⟩ := ro.2 i _ e2
        obtain ⟨⟨d2, e5⟩, _⟩ := ro.2 j _ e3
        exact sx.apart i j p d1 d2 e4 e5
    have sm : Sx (Wof F H as) M.K F H (L2.start N vs) (as ++ List.replicate (N.length - ps.length) .un) := by
      unfold L2.start
      rw [hvl]
      exact sx.more _
    exact body (Wof F H as) g as r _ c F _ H sm _ ⟨fun σ' ρ' F' H' h e s' => fin h e s' .non, fun d' v σ' ρ' F' H' h e s' dv => fin h e s' dv, fun _ _ _ _ h => h.elim, fun _ _ _ _ h => h.elim, fun _ _ _ _ _ _ _ h => h.elim⟩
end
end Y

/-! ## part Y7 -/
/-! Rules over data: comparisons as tests, small lemmas for the walk. -/
namespace Y
open PySem PySem.Spec PyProof.Rows L2 RZ
section
variable {Γ : Sta} {ρ : Rh} {a b : Expr} {pos p : Pos} {P : PyData → Rh → Prop} {PB : Bool → Rh → Prop} {PL : List PyData → Rh → Prop} {es : List Expr} {D : Dn} {st : Stmt} {rest : List Stmt}
theorem dt_ltI (h : DE Γ a ρ fun x ρ1 => DE Γ b ρ1 fun y ρ2 => ∃ i j, x = .int i ∧ y = .int j ∧ PB (decide (i < j)) ρ2) : DT Γ (.Compare a [.Lt] [b] pos) ρ PB := dt_cmp (fun _ _ => op_lt) (nomark _) (h.mono fun x ρ1 h => h.mono fun y ρ2 ⟨i, j, e1, e2, p⟩ => by
  subst e1 e2
  exact opd_I0 (fun F => .bl _) ⟨_, rfl, p⟩)
theorem dt_leI (h : DE Γ a ρ fun x ρ1 => DE Γ b ρ1 fun y ρ2 => ∃ i j, x = .int i ∧ y = .int j ∧ PB (decide (i ≤ j)) ρ2) : DT Γ (.Compare a [.LtE] [b] pos) ρ PB := dt_cmp (fun _ _ => op_le) (nomark _) (h.mono fun x ρ1 h => h.mono fun y ρ2 ⟨i, j, e1, e2, p⟩ => by
  subst e1 e2
  exact opd_I0 (fun F => .bl _) ⟨_, rfl, p⟩)
theorem dt_gtI (h : DE Γ a ρ fun x ρ1 => DE Γ b ρ1 fun y ρ2 => ∃ i j, x = .int i ∧ y = .int j ∧ PB (decide (j < i)) ρ2) : DT Γ (.Compare a [.Gt] [b] pos) ρ PB := dt_cmp (fun _ _ => op_gt) (nomark _) (h.mono fun x ρ1 h => h.mono fun y ρ2 ⟨i, j, e1, e2, p⟩ => by
  subst e1 e2
  exact opd_I0 (fun F => .bl _) ⟨_, rfl, p⟩)
theorem dt_geI (h : DE Γ a ρ fun x ρ1 => DE Γ b ρ1 fun y ρ2 => ∃ i j, x = .int i ∧ y = .int j ∧ PB (decide (j ≤ i)) ρ2) : DT Γ (.Compare a [.GtE] [b] pos) ρ PB := dt_cmp (fun _ _ => op_ge) (nomark _) (h.mono fun x ρ1 h => h.mono fun y ρ2 ⟨i, j, e1, e2, p⟩ => by
  subst e1 e2
  exact opd_I0 (fun F => .bl _) ⟨_, rfl, p⟩)
theorem dt_eq (h : DE Γ a ρ fun x ρ1 => DE Γ b ρ1 fun y ρ2 => SeqAt.shaped x = true ∧ SeqAt.shaped y = true ∧ PB (PyData.eqv x y) ρ2) : DT Γ (.Compare a [.Eq] [b] pos) ρ PB := dt_cmp (fun _ c => op_eqD' c) (nomark _) (h.mono fun x ρ1 h => h.mono fun y ρ2 ⟨e1, e2, p⟩ => opd_eqD e1 e2 ⟨_, rfl, p⟩)
theorem dt_ne (h : DE Γ a ρ fun x ρ1 => DE Γ b ρ1 fun y ρ2 => SeqAt.shaped x = true ∧ SeqAt.shaped y = true ∧ PB (!PyData.eqv x y) ρ2) : DT Γ (.Compare a [.NotEq] [b] pos) ρ PB := dt_cmp (fun _ c => op_neD' c) (nomark _) (h.mono fun x ρ1 h => h.mono fun y ρ2 ⟨e1, e2, p⟩ => opd_neD e1 e2 ⟨_, rfl, p⟩)
theorem dt_isN {j pos'} (h : DE Γ a ρ fun x ρ1 => PB (match x with | .none => true | _ => false) ρ1) : DT Γ (.Compare a [.Is] [.Constant .none j pos'] pos) ρ PB := dt_cmp (fun _ _ => op_isN) (nomark _) (h.mono fun x ρ1 h => de_non (opd_isN ⟨_, rfl, h⟩))
theorem dt_notN {j pos'} (h : DE Γ a ρ fun x ρ1 => PB (match x with | .none => false | _ => true) ρ1) : DT Γ (.Compare a [.IsNot] [.Constant .none j pos'] pos) ρ PB := dt_cmp (fun _ _ => op_notN) (nomark _) (h.mono fun x ρ1 h => de_non (opd_notN ⟨_, rfl, h⟩))
/-- t * k, t a tuple -/
theorem de_repT (h : DE Γ a ρ fun x ρ1 => DE Γ b ρ1 fun y ρ2 => ∃ (xs : List PyData) (k : Int), x = .tuple xs ∧ y = .int k ∧ (xs ≠ [] ∧ 2 ≤ k ∧ k ≤ 1000 ∧ xs.length ≤ 1000) ∧ P (.tuple (List.replicate k.toNat xs).flatten) ρ2) : DE Γ (.BinOp a .Mult b pos) ρ P := de_op (r := rRepT Γ.K) (fun X c => by have h := op_repT (X := X); rw [c.K] at h; exact h) (h.mono fun x ρ1 h => h.mono fun y ρ2 ⟨xs, k, e1, e2, ⟨h1, h2, h3, h4⟩, hp⟩ => by
  subst e1 e2
  intro F H vx vy sb dx dy Q q
  cases dy
  cases dx with
  | @tup l vs _ hq ha =>
    have hl := dpAll_len ha
    refine ⟨l, k, vs, rfl, rfl, sqT_mono sb hq, fun e => h1 ?_, h2, h3, by omega, fun r hr => ?_⟩
    · subst e
      cases ha
      rfl
    · have x : PExt F H (upd F r (.tup (List.replicate k.toNat vs).flatten)) (upd H r (.tup (List.replicate k.toNat vs).flatten)) := .new sb hr
      exact q _ _ _ _ hp x (.tup (.of upd_same) (dpAll_mono x.ff (dpAll_rep ha _))))
end
theorem if_t {k : Bool} {A B : Prop} (h : k = true) (a : A) : if k = true then A else B := by
  rw [if_pos h]
  exact a
theorem if_f {k : Bool} {A B : Prop} (h : k = false) (b : B) : if k = true then A else B := by
  rw [if_neg (by rw [h]; exact Bool.false_ne_true)]
  exact b
theorem if_c {k : Bool} {A B : Prop} (a : k = true → A) (b : k = false → B) : if k = true then A else B := by
  cases k with
  | true => exact if_t rfl (a rfl)
  | false => exact if_f rfl (b rfl)
/-- products of ints one of which is small, of ints of few bits -/
theorem mulL {i j : Int} (h1 : -(2 ^ 64) < i) (h2 : i < 2 ^ 64) : IntMulOk i j := CMul.ok (.inl ⟨h1, h2⟩)
theorem mulR {i j : Int} (h1 : -(2 ^ 64) < j) (h2 : j < 2 ^ 64) : IntMulOk i j := CMul.ok (.inr ⟨h1, h2⟩)
theorem divOk {j : Int} (h0 : j ≠ 0) (h1 : -(2 ^ 64) < j) (h2 : j < 2 ^ 64) : DivOk j := by
  have h : j.natAbs < 2 ^ 64 := by omega
  exact ⟨h0, Nat.lt_of_lt_of_le (PySem.Flt.log2_lt_of (by decide) h) (by decide)⟩
/-- a promise over data arguments alone -/
def SpD {α : Type} (pre : α → List PyData → Prop) (post : α → PyData → Prop) : Spec := ⟨α, fun g as => ∃ ds, as = ds.map .va ∧ pre g ds, fun g as as' d => post g d⟩
/-- .. whose first argument is a list of the caller's own -/
def SpO {α : Type} (pre : α → List PyData → List PyData → Prop) (post : α → List PyData → PyData → Prop) : Spec :=
  ⟨α, fun g as => ∃ (p : Addr) (l ds : List PyData), as = .ow p l :: ds.map .va ∧ pre g l ds, fun g as as' d => ∃ (p : Addr) (l l' ds : List PyData), as = .ow p l :: ds.map .va ∧ as' = .ow p l' :: ds.map .va ∧ post g l' d⟩
theorem map_va_inj {xs ys : List PyData} (h : xs.map Sl.va = ys.map Sl.va) : xs = ys := by
  induction xs generalizing ys with
  | nil => cases ys with
    | nil => rfl
    | cons y ys => cases h
  | cons x xs ih => cases ys with
    | nil => cases h
    | cons y ys =>
      rw [List.map_cons, List.map_cons] at h
      injection h with h1 h2
      injection h1 with h1
      rw [h1, ih h2]
section
variable {α : Type} {Γ : Sta} {ρ : Rh} {a b : Expr} {pos p : Pos} {P : PyData → Rh → Prop} {es : List Expr} {x y : Str} {pre : α → List PyData → Prop} {post : α → PyData → Prop} {pre' : α → List PyData → List PyData → Prop} {post' : α → List PyData → PyData → Prop}
theorem de_callD (f : FnAt Γ x (SpD pre post)) (g : GlbAt Γ x) (ns : NoStar a) (nst : NoStars es)
    (h : DA Γ (a :: es) ρ fun xs ρ1 => ∃ g, pre g xs ∧ ∀ d, post g d → P d ρ1) : DE Γ (.Call (.Name x p) (a :: es) [] pos) ρ P := de_call f g ns nst (h.mono fun xs ρ1 ⟨g, h1, h2⟩ => ⟨g, ⟨xs, rfl, h1⟩, fun as' d q => h2 d q⟩)
theorem de_callOw {i : Nat} {py : Pos} {p0 : Addr} {ds0 : List PyData} (f : FnAt Γ x (SpO pre' post')) (g : GlbAt Γ x) (v : VarAt Γ i y) (nst : NoStars es) (hi : ρ[i]? = some (.ow p0 ds0))
    (h : DA Γ es ρ fun xs ρ1 => ∃ p ds g, ρ1[i]? = some (.ow p ds) ∧ pre' g ds xs ∧ ∀ ds' d, post' g ds' d → P d (ρ1.set i (.ow p ds'))) : DE Γ (.Call (.Name x p) (.Name y py :: es) [] pos) ρ P :=
  de_callO f g v nst hi (h.mono fun xs ρ1 ⟨p, ds, g, h1, h2, h3⟩ => ⟨p, ds, g, h1, ⟨p, ds, xs, rfl, h2⟩, fun as' d q => by
    obtain ⟨p2, l2, l', ds', e, e', q⟩ := q
    injection e with e1 e2
    injection e1 with e1 e3
    subst e1
    exact ⟨l', _, e', h3 l' d q⟩⟩)
end
/-- a def of the text over data -/
theorem fnD {α : Type} {M : Mo} {x qual : Str} {st : Stmt} {f : Addr} {fd : FuncData} {N ps : List Str} {k : Nat} {pre : α → List PyData → Prop} {post : α → PyData → Prop} (Fn : Fun M.K x qual st f fd) (S : FnScope N ps (defScope st))
    (hl : ∀ g ds, pre g ds → ds.length = ps.length)
    (body : ∀ W g ds, pre g ds → DSs ⟨M, N, defScope st, k, W, fun _ => true, fun _ _ _ _ => False, true⟩ (defBody st) (ds.map .va ++ List.replicate (N.length - ps.length) .un) { nx := fun _ => post g .none, rt := fun d _ => post g d }) :
    FnOk M.P M.w M.K M.mg M.base CX0 (k + 1) f fd ps (spW M.K (SpD pre post)) := by
  refine fn_ok Fn S (fun g as h => ?_) (fun W g as h => ?_)
  · obtain ⟨ds, rfl, h⟩ := h
    rw [List.length_map]
    exact hl g ds h
  · obtain ⟨ds, rfl, h⟩ := h
    exact (body W g ds h).mono (fun ρ' q => ⟨_, q, retOk_pure⟩) (fun d ρ' q => ⟨_, q, retOk_pure⟩) (fun _ z => z) (fun _ z => z)
theorem fnO {α : Type} {M : Mo} {x qual : Str} {st : Stmt} {f : Addr} {fd : FuncData} {N ps : List Str} {k : Nat} {pre : α → List PyData → List PyData → Prop} {post : α → List PyData → PyData → Prop} (Fn : Fun M.K x qual st f fd) (S : FnScope N ps (defScope st))
    (hl : ∀ g l ds, pre g l ds → ds.length + 1 = ps.length)
    (body : ∀ W p g l ds, pre g l ds → DSs ⟨M, N, defScope st, k, W, fun _ => true, fun _ _ _ _ => False, true⟩ (defBody st) ((.ow p l :: ds.map .va) ++ List.replicate (N.length - ps.length) .un) { nx := fun ρ' => ∃ l', ρ'[0]? = some (.ow p l') ∧ post g l' .none, rt := fun d ρ' => ∃ l', ρ'[0]? = some (.ow p l') ∧ post g l' d }) :
    FnOk M.P M.w M.K M.mg M.base CX0 (k + 1) f fd ps (spW M.K (SpO pre post)) := by
  refine fn_ok Fn S (fun g as h => ?_) (fun W g as h => ?_)
  · obtain ⟨p, l, ds, rfl, h⟩ := h
    rw [List.length_cons, List.length_map]
    exact hl g l ds h
  · obtain ⟨p, l, ds, rfl, h⟩ := h
    exact (body W p g l ds h).mono (fun ρ' ⟨l', h1, q⟩ => ⟨.ow p l' :: ds.map .va, ⟨p, l, l', ds, rfl, rfl, q⟩, retOk_own h1⟩) (fun d ρ' ⟨l', h1, q⟩ => ⟨.ow p l' :: ds.map .va, ⟨p, l, l', ds, rfl, rfl, q⟩, retOk_own h1⟩) (fun _ z => z) (fun _ z => z)
section
variable {Γ : Sta} {ρ : Rh} {PL : List PyData → Rh → Prop} {tg : Expr} {i : Nat} {x : Str} {pos : Pos} {xs : List PyData}
theorem di_varL (v : VarAt Γ i x) (h : ρ[i]? = some (.va (.list xs))) (k : PL xs ρ) : DI Γ tg (.Name x pos) ρ PL := di_seq (de_var v h ⟨xs, rfl, k⟩)
theorem di_varT (v : VarAt Γ i x) (h : ρ[i]? = some (.va (.tuple xs))) (k : PL xs ρ) : DI Γ tg (.Name x pos) ρ PL := di_tup (de_var v h ⟨xs, rfl, k⟩)
end
theorem atI_zero {α : Type} {x : α} {r : List α} : atI (x :: r) 0 = some x := atI_nat (j := 0) rfl
theorem atD_of {x : PyData} {xs : List PyData} {k : Int} {d : PyData} {P : PyData → Prop} (h : SeqD x xs) (hi : atI xs k = some d) (p : P d) : AtD x (.int k) P := ⟨xs, k, d, h, rfl, hi, p⟩
end Y

/-! ## part Y8 -/
/-! Rules over data: errors raised, passed on, caught. -/
namespace Y
open PySem PySem.Spec PyProof.Rows L2 RZ

/-- X(), X an own class over ValueError without __init__ -/
theorem pmk_own0 {X : Cx} {C : Addr} {bmB : List Value} {B newId initId : String} {x : Str} {p pos : Pos} (F : ExcBaseFacts B newId initId bmB) (q : PySem.W.excIn X.K C bmB newId = true) (gC : X.mg x = some (.ref C)) (kC : PySem.W.keepIn X.K (.ref C) = true) (r : Raises X (.ref C)) (hg : Gl X x)
    (hdb : (x == ("__debug__" : Str)) = false := by decide) : PMk X (.Call (.Name x p) [] [] pos) (fun _ H Q => Q (.ref C) none H) := by
  intro pins s σ H Q I h
  refine wpAny_Call_Name_kw (ld_glob I hg gC ?_ hdb)
  refine PySem.W.callWith_K0 I.kIn kC ?_
  show wpAny _ _ (call (.ref C) []) _ _ _
  obtain ⟨bm, N, nm, qn, bs, hdct, sn, sub, ab, col, dd, k0, k1, k2, k3, k5, mN, hC, hN, hni, T⟩ := exc_obj I.kIn q
  refine wpAny_call_exc_subT F T hC hN hni (fun h' e hm => ?_) (Nat.zero_le _)
  exact mk_of I hm r h (I.hok.gone hm.new)
/-- an own class over ValueError, as the top leaves it -/
structure ExAt (M : Mo) (x : Str) (C : Addr) : Prop where
  gC : M.mg x = some (.ref C)
  kC : PySem.W.keepIn M.K (.ref C) = true
  q : PySem.W.excIn M.K C [.type "ValueError", .type "Exception", .type "BaseException", .type "object"] "ValueError.__new__" = true
  sb : PySem.W.subIn M.K (.ref C) (.type "BaseException") = some true
  ty : PySem.W.typeIn M.K (.ref C) = some (.type "type")
  ex : PySem.W.exmOne M.K (.ref C) (.ref C) = some true
  is : ExcC M.K C
  vE : PySem.W.kitOne M.K (.ref C) (.type "ValueError") = some true
def XOk (Γ : Sta) (ρ : Rh) (cls : Value) : Prop := ∀ F H σ, Sx Γ.W Γ.K F H σ ρ → Γ.wx cls none σ H
section
variable {Γ : Sta} {ρ : Rh} {a b : Expr} {pos p : Pos} {P : PyData → Rh → Prop} {es : List Expr} {D : Dn} {x y : Str}
theorem ds_raise {C : Addr} {pos2 : Pos} (c : ExAt Γ.M x C) (g : GlbAt Γ x) (h : XOk Γ ρ (.ref C)) : DS Γ (.Raise (some (.Call (.Name x p) [] [] pos)) none pos2) ρ D := fun X c' F σ H s En q =>
  ⟨_, ps_raise c'.calm c'.tk (pmk_own0 PySem.F.excBase_ValueError (by rw [c'.K]; exact c.q) (by rw [c'.mg]; exact c.gC) (by rw [c'.K]; exact c.kC) (raises_own (by rw [c'.K]; exact c.sb) (by rw [c'.K]; exact c.ty)) (show X.env.scope.names.lookup _ = _ by rw [c'.sc]; exact g.gl) g.hd), h F H σ s⟩
/-- a promise of a def that may raise -/
def spX (K : PySem.W.Frag) (S : Spec) (exc : S.α → Value → Prop) : Sp := fun vs H Q E => ∃ F as g, Sx (Wof F H as) K F H (vs.map some) as ∧ S.pre g as ∧
  (∀ as' d v F' H', S.post g as as' d → Ext (Wof F H as).w F H F' H' → Sx (Wof F H as) K F' H' (vs.map some) as' → Dp K F' v d → Q v H') ∧
  ∀ cls F' H', exc g cls → Ext (Wof F H as).w F H F' H' → Same F' H' → E cls none H'
def FnX (M : Mo) (k : Nat) (x : Str) (S : Spec) (exc : S.α → Value → Prop) : Prop := ∃ f fd ps, FnOk M.P M.w M.K M.mg M.base (L2.CX M.P M.w) k f fd ps (spX M.K S exc) ∧ M.mg x = some (.ref f) ∧ PySem.W.keepIn M.K (.ref f) = true ∧ Binds M.K fd ps []
theorem FnX.mono {M : Mo} {j k : Nat} {x : Str} {S : Spec} {exc : S.α → Value → Prop} (h : FnX M j x S exc) (hk : j ≤ k) : FnX M k x S exc := by
  obtain ⟨f, fd, ps, a, b⟩ := h
  exact ⟨f, fd, ps, a.mono hk, b⟩
/-- where it raises nothing -/
theorem FnX.noex {M : Mo} {k : Nat} {x : Str} {S : Spec} {exc : S.α → Value → Prop} (h : FnX M k x S exc) : FnM M k x ⟨S.α, fun g as => S.pre g as ∧ ∀ cls, ¬ exc g cls, S.post⟩ := by
  obtain ⟨f, fd, ps, ok, h2⟩ := h
  have cv : ∀ {vs H Q E E'}, spW M.K ⟨S.α, fun g as => S.pre g as ∧ ∀ cls, ¬ exc g cls, S.post⟩ vs H Q E → spX M.K S exc vs H Q E' := fun {vs H Q E E'} h => by
    obtain ⟨F, as, g, sx, ⟨pr, ne⟩, q⟩ := h
    exact ⟨F, as, g, sx, pr, q, fun cls F' H' e => absurd e (ne cls)⟩
  refine ⟨f, fd, ps, ⟨fun vs H Q E h => ok.len vs H Q E (cv h), fun A outer s H args us vs Q E hr e0 hb hv h => ?_⟩, h2⟩
  refine codeAny_mono (ok.run A outer s H args us vs Q E0 hr e0 hb hv (cv h)) fun r s' hq => ?_
  cases r with
  | error e =>
    obtain ⟨_, _, _, _, _, _, _, _, _, _, _, _, z⟩ := hq
    exact z.elim
  | ok fl =>
    cases fl with
    | ret u => exact hq
    | next => exact hq
    | brk => exact hq
    | cont => exact hq
theorem FnM.imp {M : Mo} {k : Nat} {x : Str} {S S' : Spec} (h : FnM M k x S) (f : S'.α → S.α) (h1 : ∀ g as, S'.pre g as → S.pre (f g) as) (h2 : ∀ g as as' d, S'.pre g as → S.post (f g) as as' d → S'.post g as as' d) : FnM M k x S' := by
  obtain ⟨fa, fd, ps, ok, r⟩ := h
  refine ⟨fa, fd, ps, ok.imp fun vs H Q E h => ?_, r⟩
  obtain ⟨F, as, g, sx, pr, q⟩ := h
  exact ⟨F, as, f g, sx, h1 g as pr, fun as' d v F' H' po => q as' d v F' H' (h2 g as as' d pr po)⟩
theorem FnX.noexD {M : Mo} {k : Nat} {x : Str} {α : Type} {pre : α → List PyData → Prop} {post : α → PyData → Prop} {exc : α → Value → Prop} (h : FnX M k x (SpD pre post) exc) : FnM M k x (SpD (fun g ds => pre g ds ∧ ∀ cls, ¬ exc g cls) post) :=
  h.noex.imp id (fun g as ⟨ds, e, p, q⟩ => ⟨⟨ds, e, p⟩, q⟩) (fun _ _ _ _ _ p => p)
/-- a weaker promise over data -/
theorem FnM.impD {M : Mo} {k : Nat} {x : Str} {α β : Type} {pre : α → List PyData → Prop} {post : α → PyData → Prop} {pre' : β → List PyData → Prop} {post' : β → PyData → Prop} (h : FnM M k x (SpD pre post)) (f : β → α) (h1 : ∀ g ds, pre' g ds → pre (f g) ds) (h2 : ∀ g ds d, pre' g ds → post (f g) d → post' g d) : FnM M k x (SpD pre' post') :=
  h.imp f (fun g as ⟨ds, e, p⟩ => ⟨ds, e, h1 g ds p⟩) (fun g as _ d ⟨ds, e, p⟩ q => h2 g ds d p q)
theorem de_callX {α : Type} {pre : α → List PyData → Prop} {post : α → PyData → Prop} {exc : α → Value → Prop} (f : FnX Γ.M Γ.k x (SpD pre post) exc) (g : GlbAt Γ x) (ns : NoStar a) (nst : NoStars es)
    (h : DA Γ (a :: es) ρ fun xs ρ1 => ∃ g, pre g xs ∧ (∀ d, post g d → P d ρ1) ∧ ∀ cls, exc g cls → XOk Γ ρ1 cls) : DE Γ (.Call (.Name x p) (a :: es) [] pos) ρ P := fun X c F σ H s Q q => by
  obtain ⟨fa, fd, ps, ok, hm, kp, bs⟩ := f
  refine ⟨_, pe_callS (X := X) (CX := L2.CX X.prog X.w) (k := Γ.k) (sp := spX Γ.K (SpD pre post) exc) (E := WE Γ.wx) (by rw [c.prog, c.w, c.K, c.mg, c.base]; exact ok) c.room (show X.env.scope.names.lookup _ = _ by rw [c.sc]; exact g.gl) (by rw [c.mg]; exact hm) (by rw [c.K]; exact kp) (by rw [c.K]; exact bs) (fun σ => passAt c.tk σ) pa_wp g.hd (ns _ _) (nst _ _), ?_⟩
  refine h X c F σ H s _ fun xs vs ρ1 F1 H1 h1 e1 s1 d1 => ?_
  obtain ⟨gh, r, hp, hx⟩ := h1
  have nown : ∀ p ds, Sl.ow p ds ∉ xs.map Sl.va := fun p ds hm => by
    obtain ⟨y, _, hy⟩ := List.mem_map.mp hm
    cases hy
  refine ⟨F1, _, gh, sx_args s1 d1, ⟨xs, rfl, r⟩, fun as' d v F2 H2 r2 e2 s2 d2 => ?_, fun cls F2 H2 hc e2 sb => ?_⟩
  · obtain ⟨e3, s3⟩ := s1.call e2 s2.sub nown
    exact q d v ρ1 F2 H2 (hp d r2) (e1.trans e3) s3 d2
  · obtain ⟨e3, s3⟩ := s1.call e2 sb nown
    exact hx cls hc F2 H2 σ s3
/-- a def of the text that may raise, over data -/
theorem fnX {α : Type} {M : Mo} {x qual : Str} {st : Stmt} {f : Addr} {fd : FuncData} {N ps : List Str} {k : Nat} {pre : α → List PyData → Prop} {post : α → PyData → Prop} {exc : α → Value → Prop} (Fn : Fun M.K x qual st f fd) (S : FnScope N ps (defScope st))
    (hl : ∀ g ds, pre g ds → ds.length = ps.length)
    (body : ∀ W wx g ds, pre g ds → (∀ ρ cls, exc g cls → XOk ⟨M, N, defScope st, k, W, fun _ => true, wx, true⟩ ρ cls) → DSs ⟨M, N, defScope st, k, W, fun _ => true, wx, true⟩ (defBody st) (ds.map .va ++ List.replicate (N.length - ps.length) .un) { nx := fun _ => post g .none, rt := fun d _ => post g d }) :
    FnOk M.P M.w M.K M.mg M.base (L2.CX M.P M.w) (k + 1) f fd ps (spX M.K (SpD pre post) exc) := by
  refine Fn.okX S (fun vs H Q E h => ?_) (fun cdv A outer s H vs Q E hr h => ?_)
  · obtain ⟨F, as, g, sx, ⟨ds, rfl, pr⟩, _⟩ := h
    have := sx.len
    rw [List.length_map, List.length_map] at this
    rw [this, hl _ _ pr]
  · obtain ⟨F, as, g, sx, ⟨ds, rfl, pr⟩, cont, exn⟩ := h
    have hvl : vs.length = ps.length := by
      have := sx.len
      rw [List.length_map, List.length_map] at this
      rw [this, hl _ _ pr]
    have c : CxIs ⟨M, N, defScope st, k, Wof F H (ds.map .va), fun _ => true, fun cls d _ H' => E cls d H', true⟩ (cxOf (L2.CX M.P M.w) M.P M.w M.K M.mg M.base N qual (defScope st) f cdv A outer s H E) :=
      ⟨rfl, rfl, rfl, rfl, rfl, rfl, rfl, rfl, hr, S.nd, rfl, PassesOwn.leaving, takes_of rfl rfl rfl rfl, fun _ => ⟨rfl, rfl⟩⟩
    have sm : Sx (Wof F H (ds.map .va)) M.K F H (L2.start N vs) (ds.map .va ++ List.replicate (N.length - ps.length) .un) := by
      unfold L2.start
      rw [hvl]
      exact sx.more _
    have fin : ∀ {σ' : L2.St} {ρ' : Rh} {F' H' : Hp} {v : V} {d : PyData}, post g d → Ext (Wof F H (ds.map .va)).w F H F' H' → Sx (Wof F H (ds.map .va)) M.K F' H' σ' ρ' → Dp M.K F' v d → Q v H' := fun {σ' ρ' F' H' v d} po e s' dv => by
      obtain ⟨e3, s3⟩ := sx.call e s'.sub (fun p ds hm => by
        obtain ⟨y, _, hy⟩ := List.mem_map.mp hm
        cases hy)
      exact cont _ d v F' H' po e s3 dv
    exact body (Wof F H (ds.map .va)) _ g ds pr (fun ρ' cls hc F' H' σ' s' => exn cls F' H' hc s'.rch s'.sub) _ c F _ H sm _ ⟨fun σ' ρ' F' H' h e s' => fin h e s' .non, fun d' v σ' ρ' F' H' h e s' dv => fin h e s' dv, fun _ _ _ _ h => h.elim, fun _ _ _ _ h => h.elim, fun _ _ _ _ _ _ _ h => h.elim⟩
/-! ### try -/
/-- the body raises nothing -/
theorem ds_try_thru {body : List Stmt} {h₀ : ExceptHandler} {hs : List ExceptHandler} (h : DSs { Γ with wx := fun _ _ _ _ => False } body ρ D) : DS Γ (.Try body (h₀ :: hs) [] [] pos) ρ D := fun X c F σ H s En q => by
  have c' : CxIs { Γ with wx := fun _ _ _ _ => False } X.nox := ⟨c.prog, c.w, c.K, c.mg, c.base, c.N, c.sc, c.calm, c.room, c.nd, c.fn, PassesOwn.never, takes0, c.stk⟩
  obtain ⟨t, h1, h2⟩ := h X.nox c' F σ H s En ⟨q.nx, q.rt, q.bk, q.ct, q.rn⟩
  exact ⟨_, ps_try_thru0 h1, h2⟩
/-- the class that is named in isinstance: a built-in one, an own one -/
structure ClAt (Γ : Sta) (y : Str) (cv : V) (u : Value) : Prop where
  gl : Γ.sc.names.lookup y = some .globalImplicit
  at' : Γ.mg y = some u ∨ (Γ.mg y = none ∧ bootBuiltins y = some u ∧ y ≠ "__name__")
  hd : (y == ("__debug__" : Str)) = false
  rel : ∀ w, RelV cv w ↔ w = u
theorem Sx.reEntry {W : Wr} {K : PySem.W.Frag} {F H : Hp} {σ : L2.St} {ρ : Rh} (s : Sx W K F H σ ρ) : Sx ⟨W.w, F, H⟩ K F H σ ρ := ⟨s.sub, s.len, s.va, s.ow, s.apart, s.new, .refl⟩
theorem Sx.unEntry {W : Wr} {K : PySem.W.Frag} {F H F' H' : Hp} {σ σ' : L2.St} {ρ ρ' : Rh} (s : Sx W K F H σ ρ) (s' : Sx ⟨W.w, F, H⟩ K F' H' σ' ρ') : Sx W K F' H' σ' ρ' := ⟨s'.sub, s'.len, s'.va, s'.ow, s'.apart, s'.new, s.rch.trans s'.rch⟩
abbrev Sta.in (Γ : Sta) (W : Wr) (wx : WX) : Sta := { Γ with W := W, wx := wx }
/-- try: body / except x as n: return [m, isinstance(n, y)], where the body may raise x alone -/
theorem ds_try_ret {x y n m : Str} {C : Addr} {i : Nat} {cv : V} {u : Value} {k : Bool} {body : List Stmt} {np p2 pi pnn py pc pl pr pos' : Pos} {j : Nat} (hc : ExAt Γ.M x C) (gx : GlbAt Γ x) (gi : BltAt Γ "isinstance") (gy : ClAt Γ y cv u) (hk : PySem.W.kitOne Γ.K (.ref C) u = some k)
    (l : LocAt Γ i n) (hv : VarAt Γ i n) (ln : Γ.sc.names.lookup n = some .local) (hst : Γ.top = true)
    (hb : ∀ W wx, (∀ ρ', i < ρ'.length → D.rt (.list [.str m, .bool k]) (ρ'.set i .un) → XOk (Γ.in W wx) ρ' (.ref C)) → DSs (Γ.in W wx) body ρ D) :
    DS Γ (.Try body [.ExceptHandler (some (.Name x np)) (some n) [.Return (some (.List [.Constant (.str m) j p2, .Call (.Name "isinstance" pi) [.Name n pnn, .Name y py] [] pc] pl)) pr] pos'] [] [] pos) ρ D := fun X c F σ H s En q => by
  obtain ⟨h1, h2⟩ := c.stk hst
  let ts : Addr → Value → Option Addr → TS := fun a cls d D σ H => (cls = .ref C ∧ d = none) ∧ tRet (tLst (tCons (tC (.str m)) (tCons (tCB (rIsE Γ.K C a) (tCons (tVar i) (tCons (tC cv) tNil))) tNil))) D σ H
  have hn : Names X x (.ref C) := ⟨(show X.env.scope.names.lookup _ = _ by rw [c.sc]; exact gx.gl), gx.hd, .inl (by rw [c.mg]; exact hc.gC)⟩
  refine ⟨_, ps_try_as (i := i) (tb := fun W D σ H => ∀ X', CxIs (Γ.in Γ.W W) X' → wpss X' body D σ H) (ts := ts) (Wout := fun _ _ _ _ => False) h1 h2 c.nd (by rw [c.N]; exact l.hN) (show X.env.scope.names.lookup _ = _ by rw [c.sc]; exact ln) hn takes0 (fun W pn xe tk po => ?_) (fun a oe cls d pn hz hf => ?_), ?_⟩
  · have c' : CxIs (Γ.in Γ.W W) (X.tr pn xe) := ⟨c.prog, c.w, c.K, c.mg, c.base, c.N, c.sc, c.calm, c.room, c.nd, c.fn, po, tk, c.stk⟩
    exact ⟨fun pins s σ H D I h => pss_wp.run pins s σ H D I (h _ c')⟩
  · refine ⟨fun pins s σ H D I ⟨⟨e1, e2⟩, h⟩ => ?_⟩
    subst e1 e2
    have hy : PE (X.suite a ((a, oe) :: pn)) (.Name y py) (tC cv) := by
      rcases gy.at' with hm | ⟨hm, hbt, hnn⟩
      · exact pe_glob (show X.env.scope.names.lookup _ = _ by rw [c.sc]; exact gy.gl) (show X.mg _ = _ by rw [c.mg]; exact hm) ((gy.rel u).mpr rfl) gy.hd
      · exact pe_bltn (show X.env.scope.names.lookup _ = _ by rw [c.sc]; exact gy.gl) (show X.mg _ = _ by rw [c.mg]; exact hm) hbt ((gy.rel u).mpr rfl) hnn gy.hd
    have hvn : PE (X.suite a ((a, oe) :: pn)) (.Name n pnn) (tVar i) := pe_var (show X.N[i]? = _ by rw [c.N]; exact hv.hN) (show Vis X.env.scope n by rw [c.sc]; exact hv.vis) hv.nm.hd hv.nm.hcd
    have hcall : CallR (X.suite a ((a, oe) :: pn)) (.builtin "isinstance") (rIsE Γ.K C a) := by
      have z := call_isE (X := X) (a := a) (D := C) (oe := oe) (pn := pn) (by rw [c.K]; exact hc.is) hz hf
      rw [c.K] at z
      exact z
    have hi : PE (X.suite a ((a, oe) :: pn)) (.Call (.Name "isinstance" pi) [.Name n pnn, .Name y py] [] pc) (tCB (rIsE Γ.K C a) (tCons (tVar i) (tCons (tC cv) tNil))) :=
      pe_callB hcall (show X.env.scope.names.lookup _ = _ by rw [c.sc]; exact gi.gl) (show X.mg _ = _ by rw [c.mg]; exact gi.mg) (by decide +kernel) (pa_cons hvn (pa_cons hy pa_nil))
    exact (pss_one (ps_ret (pe_lst (pa_cons pe_str (pa_cons hi pa_nil))))).run pins s σ H D I h
  · intro X' c'
    have c2 : CxIs (Γ.in ⟨Γ.W.w, F, H⟩ (wAs X.K (.ref C) i ts (fun _ _ _ _ => False) En)) X' := ⟨c'.prog, c'.w, c'.K, c'.mg, c'.base, c'.N, c'.sc, c'.calm, c'.room, c'.nd, c'.fn, c'.ps, c'.tk, c'.stk⟩
    refine hb ⟨Γ.W.w, F, H⟩ _ (fun ρ' hlen hr F' H' σ' s' => ?_) X' c2 F σ H s.reEntry En ⟨fun σ' ρ' F' H' h e s' => q.nx σ' ρ' F' H' h e (s.unEntry s'), fun d v σ' ρ' F' H' h e s' dv => q.rt d v σ' ρ' F' H' h e (s.unEntry s') dv, fun σ' ρ' F' H' h e s' => q.bk σ' ρ' F' H' h e (s.unEntry s'), fun σ' ρ' F' H' h e s' => q.ct σ' ρ' F' H' h e (s.unEntry s'), fun ds p vs σ' ρ' F' H' h e s' => q.rn ds p vs σ' ρ' F' H' h e (s.unEntry s')⟩
    have hl' : i < σ'.length := by rw [s'.len]; exact hlen
    refine ⟨true, by rw [c.K]; exact hc.ex, fun _ a ha => ⟨⟨rfl, rfl⟩, ?_⟩, fun z => nomatch z⟩
    refine ⟨.ref a, List.getElem?_set_self hl', ?_⟩
    refine ⟨cv, u, k, rfl, fun w hw => (gy.rel w).mp hw, hk, (by show 2 ≤ sizeLine; decide), fun r hr' => ?_⟩
    have sb := s.unEntry s'
    have px : PExt F' H' (upd F' r (.lst [.str m, .bl k])) (upd H' r (.lst [.str m, .bl k])) := .new s'.sub hr'
    exact q.rt (.list [.str m, .bool k]) (.ref r) (σ'.set i (some (.ref a))) (ρ'.set i .un) _ _ hr (s'.rch.trans px.ext) (sb.wipe1.pext px) (.lst (.of upd_same) (.cons (.str _) (.cons (.bl _) .nil)))
end
end Y
namespace Y
open PySem PySem.Spec PyProof.Rows L2 RZ
/-- a def of the text, as the top leaves it -/
def DefAt (M : Mo) (x : Str) (st : Stmt) (ps : List Str) : Prop := ∃ f fd, Fun M.K x x st f fd ∧ M.mg x = some (.ref f) ∧ Binds M.K fd ps []
abbrev nowx : WX := fun _ _ _ _ => False
theorem DefAt.fnD {α : Type} {M : Mo} {x : Str} {st : Stmt} {N ps : List Str} {k : Nat} {pre : α → List PyData → Prop} {post : α → PyData → Prop} (h : DefAt M x st ps) (S : FnScope N ps (defScope st)) (hl : ∀ g ds, pre g ds → ds.length = ps.length)
    (body : ∀ W g ds, pre g ds → DSs ⟨M, N, defScope st, k, W, fun _ => true, nowx, true⟩ (defBody st) (ds.map .va ++ List.replicate (N.length - ps.length) .un) { nx := fun _ => post g .none, rt := fun d _ => post g d }) : FnM M (k + 1) x (SpD pre post) := by
  obtain ⟨f, fd, Fn, hm, b⟩ := h
  exact ⟨f, fd, ps, Y.fnD Fn S hl body, hm, Fn.kp, b⟩
theorem DefAt.fnO {α : Type} {M : Mo} {x : Str} {st : Stmt} {N ps : List Str} {k : Nat} {pre : α → List PyData → List PyData → Prop} {post : α → List PyData → PyData → Prop} (h : DefAt M x st ps) (S : FnScope N ps (defScope st)) (hl : ∀ g l ds, pre g l ds → ds.length + 1 = ps.length)
    (body : ∀ W p g l ds, pre g l ds → DSs ⟨M, N, defScope st, k, W, fun _ => true, nowx, true⟩ (defBody st) ((.ow p l :: ds.map .va) ++ List.replicate (N.length - ps.length) .un) { nx := fun ρ' => ∃ l', ρ'[0]? = some (.ow p l') ∧ post g l' .none, rt := fun d ρ' => ∃ l', ρ'[0]? = some (.ow p l') ∧ post g l' d }) : FnM M (k + 1) x (SpO pre post) := by
  obtain ⟨f, fd, Fn, hm, b⟩ := h
  exact ⟨f, fd, ps, Y.fnO Fn S hl body, hm, Fn.kp, b⟩
theorem DefAt.fnX {α : Type} {M : Mo} {x : Str} {st : Stmt} {N ps : List Str} {k : Nat} {pre : α → List PyData → Prop} {post : α → PyData → Prop} {exc : α → Value → Prop} (h : DefAt M x st ps) (S : FnScope N ps (defScope st)) (hl : ∀ g ds, pre g ds → ds.length = ps.length)
    (body : ∀ W wx g ds, pre g ds → (∀ ρ cls, exc g cls → XOk ⟨M, N, defScope st, k, W, fun _ => true, wx, true⟩ ρ cls) → DSs ⟨M, N, defScope st, k, W, fun _ => true, wx, true⟩ (defBody st) (ds.map .va ++ List.replicate (N.length - ps.length) .un) { nx := fun _ => post g .none, rt := fun d _ => post g d }) : FnX M (k + 1) x (SpD pre post) exc := by
  obtain ⟨f, fd, Fn, hm, b⟩ := h
  exact ⟨f, fd, ps, Y.fnX Fn S hl body, hm, Fn.kp, b⟩
theorem isTy_int (d : PyData) : isTy "int" d = match d with | .int _ => true | .bool _ => true | _ => false := by
  cases d
  case none => exact (by decide +kernel : isS "NoneType" "int" = false)
  case bool => exact (by decide +kernel : isS "bool" "int" = true)
  case int => exact (by decide +kernel : isS "int" "int" = true)
  case str => exact (by decide +kernel : isS "str" "int" = false)
  case list => exact (by decide +kernel : isS "list" "int" = false)
  case tuple => exact (by decide +kernel : isS "tuple" "int" = false)
  case dict => exact (by decide +kernel : isS "dict" "int" = false)
theorem isTy_bool (d : PyData) : isTy "bool" d = match d with | .bool _ => true | _ => false := by
  cases d
  case none => exact (by decide +kernel : isS "NoneType" "bool" = false)
  case bool => exact (by decide +kernel : isS "bool" "bool" = true)
  case int => exact (by decide +kernel : isS "int" "bool" = false)
  case str => exact (by decide +kernel : isS "str" "bool" = false)
  case list => exact (by decide +kernel : isS "list" "bool" = false)
  case tuple => exact (by decide +kernel : isS "tuple" "bool" = false)
  case dict => exact (by decide +kernel : isS "dict" "bool" = false)
theorem isTy_str (d : PyData) : isTy "str" d = match d with | .str _ => true | _ => false := by
  cases d
  case none => exact (by decide +kernel : isS "NoneType" "str" = false)
  case bool => exact (by decide +kernel : isS "bool" "str" = false)
  case int => exact (by decide +kernel : isS "int" "str" = false)
  case str => exact (by decide +kernel : isS "str" "str" = true)
  case list => exact (by decide +kernel : isS "list" "str" = false)
  case tuple => exact (by decide +kernel : isS "tuple" "str" = false)
  case dict => exact (by decide +kernel : isS "dict" "str" = false)
theorem isTy_list (d : PyData) : isTy "list" d = match d with | .list _ => true | _ => false := by
  cases d
  case none => exact (by decide +kernel : isS "NoneType" "list" = false)
  case bool => exact (by decide +kernel : isS "bool" "list" = false)
  case int => exact (by decide +kernel : isS "int" "list" = false)
  case str => exact (by decide +kernel : isS "str" "list" = false)
  case list => exact (by decide +kernel : isS "list" "list" = true)
  case tuple => exact (by decide +kernel : isS "tuple" "list" = false)
  case dict => exact (by decide +kernel : isS "dict" "list" = false)
theorem isTy_tuple (d : PyData) : isTy "tuple" d = match d with | .tuple _ => true | _ => false := by
  cases d
  case none => exact (by decide +kernel : isS "NoneType" "tuple" = false)
  case bool => exact (by decide +kernel : isS "bool" "tuple" = false)
  case int => exact (by decide +kernel : isS "int" "tuple" = false)
  case str => exact (by decide +kernel : isS "str" "tuple" = false)
  case list => exact (by decide +kernel : isS "list" "tuple" = false)
  case tuple => exact (by decide +kernel : isS "tuple" "tuple" = true)
  case dict => exact (by decide +kernel : isS "dict" "tuple" = false)
end Y

/-! ## part Y9 -/
/-! Rules over data: a def that hands over a new list. -/
namespace Y
open PySem PySem.Spec PyProof.Rows L2 RZ
def spN (K : PySem.W.Frag) {α : Type} (pre : α → List PyData → Prop) (post : α → List PyData → Prop) : Sp := fun vs H Q _ => ∃ F as g, Sx (Wof F H (as.map .va)) K F H (vs.map some) (as.map .va) ∧ pre g as ∧
  ∀ es p us F' H', post g es → Ext (Wof F H (as.map .va)).w F H F' H' → Same F' H' → H p = none → F' p = none → H' p = some (.lst us) → DpAll K F' us es → Q (.ref p) H'
def FnN (M : Mo) (k : Nat) (x : Str) {α : Type} (pre : α → List PyData → Prop) (post : α → List PyData → Prop) : Prop := ∃ f fd ps, FnOk M.P M.w M.K M.mg M.base CX0 k f fd ps (spN M.K pre post) ∧ M.mg x = some (.ref f) ∧ PySem.W.keepIn M.K (.ref f) = true ∧ Binds M.K fd ps []
theorem FnN.mono {M : Mo} {j k : Nat} {x : Str} {α : Type} {pre : α → List PyData → Prop} {post : α → List PyData → Prop} (h : FnN M j x pre post) (hk : j ≤ k) : FnN M k x pre post := by
  obtain ⟨f, fd, ps, a, b⟩ := h
  exact ⟨f, fd, ps, a.mono hk, b⟩
section
variable {Γ : Sta} {ρ : Rh} {a b : Expr} {pos p : Pos} {P : PyData → Rh → Prop} {PL : List PyData → Rh → Prop} {es : List Expr} {D : Dn} {x y : Str}
theorem dn_callN {α : Type} {pre : α → List PyData → Prop} {post : α → List PyData → Prop} (f : FnN Γ.M Γ.k x pre post) (g : GlbAt Γ x) (ns : NoStar a) (nst : NoStars es)
    (h : DA Γ (a :: es) ρ fun xs ρ1 => ∃ g, pre g xs ∧ ∀ d, post g d → PL d ρ1) : DN Γ (.Call (.Name x p) (a :: es) [] pos) ρ PL := fun X c F σ H s Q q => by
  obtain ⟨fa, fd, ps, ok, hm, kp, bs⟩ := f
  refine ⟨_, pe_call (X := X) (CX := CX0) (k := Γ.k) (sp := spN Γ.K pre post) (E := E0) (by rw [c.prog, c.w, c.K, c.mg, c.base]; exact ok) c.room (show X.env.scope.names.lookup _ = _ by rw [c.sc]; exact g.gl) (by rw [c.mg]; exact hm) (by rw [c.K]; exact kp) (by rw [c.K]; exact bs) .nil pass0 pa_wp g.hd (ns _ _) (nst _ _), ?_⟩
  refine h X c F σ H s _ fun xs vs ρ1 F1 H1 h1 e1 s1 d1 => ?_
  obtain ⟨g, r, hp⟩ := h1
  rw [List.append_nil]
  refine ⟨F1, _, g, sx_args s1 d1, r, fun es p us F2 H2 r2 e2 s2 hf hF hH hd => ?_⟩
  obtain ⟨e3, s3⟩ := s1.call e2 s2 (fun p ds hm => by
    obtain ⟨y, _, hy⟩ := List.mem_map.mp hm
    cases hy)
  exact q es p us ρ1 F2 H2 (hp es r2) (e1.trans e3) s3 (e1.free hf) hF (s1.new p hf) hH hd (s1.noow hf)
/-- a or b, a a new list -/
theorem dn_or {l : List Expr} (h : DN Γ a ρ fun xs ρ1 => (xs ≠ [] → PL xs ρ1) ∧ (xs = [] → DN Γ (.BoolOp .Or (b :: l) pos) ρ1 PL)) : DN Γ (.BoolOp .Or (a :: b :: l) pos) ρ PL := fun X c F σ H s Q q => by
  refine ⟨_, pe_orT pe_wp pe_wp, ?_⟩
  refine h X c F σ H s _ fun ds p vs ρ1 F1 H1 h1 e1 s1 hf hF hW hH hd no => ?_
  refine ⟨!ds.isEmpty, .inl ⟨vs, .of hH, by show (!_) = !_; rw [isEmpty_dp hd]⟩, ?_⟩
  cases ds with
  | nil =>
    refine h1.2 rfl X c F1 σ H1 s1 Q fun ds p vs ρ' F' H' k e s' hf' => q ds p vs ρ' F' H' k (e1.trans e) s' (e1.free hf')
  | cons d t => exact q _ p vs ρ1 F1 H1 (h1.1 (fun z => nomatch z)) e1 s1 hf hF hW hH hd no
theorem lenD_of {x : PyData} {xs : List PyData} (h : SeqD x xs) : lenD x = some xs.length := by
  rcases h with rfl | rfl <;> rfl
theorem seqD_l {xs : List PyData} : SeqD (.list xs) xs := .inl rfl
theorem seqD_t {xs : List PyData} : SeqD (.tuple xs) xs := .inr rfl
theorem seqD_h {x : PyData} {xs : List PyData} (h : SeqD x xs) : SeqD x xs := h
theorem do_none {P : Option Int → Rh → Prop} (h : P none ρ) : DO Γ none ρ P := h
theorem do_some {e : Expr} {P : Option Int → Rh → Prop} (h : DE Γ e ρ fun d ρ1 => ∃ i, d = .int i ∧ P (some i) ρ1) : DO Γ (some e) ρ P := h
theorem dn_one {op} (h : DN Γ a ρ PL) : DN Γ (.BoolOp op [a] pos) ρ PL := fun X c F σ H s Q q => ⟨_, pe_one pe_wp, h X c F σ H s Q q⟩
end
section
variable {Γ : Sta} {ρ : Rh} {a b c : Expr} {pos : Pos} {D : Dn}
/-- a, b, c = x, y, z: all by a swap -/
theorem ds_par3 {i j l : Nat} {x y z : Str} {px py pz pt : Pos} {kt k2 pt2} (hi : LocAt Γ i x) (hj : LocAt Γ j y) (hl : LocAt Γ l z) (hij : i ≠ j) (hil : i ≠ l) (hjl : j ≠ l) (lx : Γ.sc.names.lookup x = some .local) (ly : Γ.sc.names.lookup y = some .local) (lz : Γ.sc.names.lookup z = some .local)
    (hw : ∀ env : PySem.Env, env.scope = Γ.sc → swappedStores [.Tuple [.Name x px, .Name y py, .Name z pz] kt pt] (.Tuple [a, b, c] k2 pt2) env = pure (some [x, y, z]))
    (h : DA Γ [a, b, c] ρ fun ds ρ1 => ∃ d e f, ds = [d, e, f] ∧ D.nx (((ρ1.set i (.va d)).set j (.va e)).set l (.va f))) : DS Γ (.Assign [.Tuple [.Name x px, .Name y py, .Name z pz] kt pt] (.Tuple [a, b, c] k2 pt2) pos) ρ D := fun X c F σ H s En q => by
  refine ⟨_, ps_par3 c.calm c.nd (by rw [c.N]; exact hi.hN) (by rw [c.N]; exact hj.hN) (by rw [c.N]; exact hl.hN) hij hil hjl (by rw [c.sc]; exact lx) (by rw [c.sc]; exact ly) (by rw [c.sc]; exact lz) pa_wp (hw _ c.sc), ?_⟩
  refine h X c F σ H s _ fun ds vs ρ1 F1 H1 h1 e1 s1 d1 => ?_
  obtain ⟨d, e, f, rfl, h1⟩ := h1
  cases d1 with
  | cons r1 d1 =>
    obtain ⟨v, w, rfl, r2, r3⟩ := vals_2 d1
    exact ⟨_, v, w, rfl, q.nx _ _ F1 H1 h1 e1 (((s1.setVa r1).setVa r2).setVa r3)⟩
end
theorem le_nil : Le [] [] := ⟨rfl, fun _ _ h => nomatch h⟩
theorem le_cons {x : Sl} {a b : Rh} (h : Le a b) : Le (x :: a) (x :: b) := ⟨congrArg (· + 1) h.1, fun i s e => by
  cases i with
  | zero => exact .inr e
  | succ i => exact h.2 i s e⟩
theorem le_unc {x : Sl} {a b : Rh} (h : Le a b) : Le (.un :: a) (x :: b) := ⟨congrArg (· + 1) h.1, fun i s e => by
  cases i with
  | zero => cases e; exact .inl rfl
  | succ i => exact h.2 i s e⟩
theorem le_refl (a : Rh) : Le a a := ⟨rfl, fun _ _ h => .inr h⟩
section
variable {Γ : Sta} {ρ ρ' : Rh} {tg : Expr} {d : PyData} {V : Nat → Prop} {PR : Rh → Prop} {st : Stmt} {D : Dn}
theorem dgv_le (l : Le ρ' ρ) (k : DGv Γ V tg d ρ' PR) : DGv Γ V tg d ρ PR := fun X c F σ H v s dd Q q => k X c F σ H v (s.le l) dd Q q
theorem ds_le (l : Le ρ' ρ) (k : DS Γ st ρ' D) : DS Γ st ρ D := fun X c F σ H s En q => k X c F σ H (s.le l) En q
end
/-- a def of the text that hands over a new list -/
theorem DefAt.fnN {α : Type} {M : Mo} {x : Str} {st : Stmt} {N ps : List Str} {k : Nat} {pre : α → List PyData → Prop} {post : α → List PyData → Prop} (h : DefAt M x st ps) (S : FnScope N ps (defScope st)) (hl : ∀ g ds, pre g ds → ds.length = ps.length)
    (body : ∀ W g ds, pre g ds → DSs ⟨M, N, defScope st, k, W, fun _ => true, nowx, true⟩ (defBody st) (ds.map .va ++ List.replicate (N.length - ps.length) .un) { nx := fun _ => False, rt := fun _ _ => False, rn := fun es _ => post g es }) : FnN M (k + 1) x pre post := by
  obtain ⟨f, fd, Fn, hm, b⟩ := h
  refine ⟨f, fd, ps, ?_, hm, Fn.kp, b⟩
  refine Fn.ok S (fun vs H Q E h => ?_) (fun cdv A outer s H vs Q E hr h => ?_)
  · obtain ⟨F, ds, g, sx, pr, _⟩ := h
    have := sx.len
    rw [List.length_map, List.length_map] at this
    rw [this, hl _ _ pr]
  · obtain ⟨F, ds, g, sx, pr, cont⟩ := h
    have hvl : vs.length = ps.length := by
      have := sx.len
      rw [List.length_map, List.length_map] at this
      rw [this, hl _ _ pr]
    have c : CxIs ⟨M, N, defScope st, k, Wof F H (ds.map .va), fun _ => true, nowx, true⟩ (cxOf CX0 M.P M.w M.K M.mg M.base N x (defScope st) f cdv A outer s H E).nox :=
      ⟨rfl, rfl, rfl, rfl, rfl, rfl, rfl, rfl, hr, S.nd, rfl, PassesOwn.never, takes0, fun _ => ⟨rfl, rfl⟩⟩
    have sm : Sx (Wof F H (ds.map .va)) M.K F H (L2.start N vs) (ds.map .va ++ List.replicate (N.length - ps.length) .un) := by
      unfold L2.start
      rw [hvl]
      exact sx.more _
    exact body (Wof F H (ds.map .va)) g ds pr _ c F _ H sm _ ⟨fun _ _ _ _ h => h.elim, fun _ _ _ _ _ _ h => h.elim, fun _ _ _ _ h => h.elim, fun _ _ _ _ h => h.elim, fun es p us σ' ρ' F' H' h e s' hf hF hH hd => cont es p us F' H' h e s'.sub hf hF hH hd⟩
end Y

/-! ## part Z1 -/
/-! Rules over data: the length of a list of one's own. -/
namespace Y
open PySem PySem.Spec PyProof.Rows L2 RZ
section
variable {Γ : Sta} {ρ : Rh} {pos p : Pos} {P : PyData → Rh → Prop}
theorem de_lenO {i : Nat} {x : Str} {px : Pos} {p0 : Addr} {ds : List PyData} (g : BltAt Γ "len") (v : VarAt Γ i x) (hi : ρ[i]? = some (.ow p0 ds)) (k : P (.int ds.length) ρ) : DE Γ (.Call (.Name "len" p) [.Name x px] [] pos) ρ P := fun X c F σ H s Q q => by
  obtain ⟨z0, z1, z2, vs, z3, z4⟩ := s.ow i p0 ds hi
  refine ⟨_, pe_callB (call_len' c) (show X.env.scope.names.lookup _ = _ by rw [c.sc]; exact g.gl) (by rw [c.mg]; exact g.mg) PySem.boot_len (pa_cons (v.pe c) pa_nil (by rfl)) (by decide) (by decide) (by rfl) (by rfl), ?_⟩
  refine ⟨_, z0, _, vs.length, rfl, .inl ⟨vs, .of z3, rfl⟩, ?_⟩
  rw [dpAll_len z4]
  exact q _ _ ρ F H k .refl s (.int _)
end
end Y

/-! ## part L1 -/
/-! What the laws' own helpers promise: the box of numbers that are drawn from. -/
namespace K
open PySem PySem.Spec PyProof.Rows L2 RZ Y
def TinOk (n : Nat) (l : List PyData) : Prop := ∃ a b c : Int, l = [.int a, .int b, .int c] ∧ 0 ≤ a ∧ 0 ≤ b ∧ b < 2 ^ 63 ∧ 0 ≤ c ∧ c ≤ n
theorem TinOk.mono {m n : Nat} {l : List PyData} (h : TinOk m l) (k : m ≤ n) : TinOk n l := by
  obtain ⟨a, b, c, e, h1, h2, h3, h4, h5⟩ := h
  exact ⟨a, b, c, e, h1, h2, h3, h4, by omega⟩
abbrev P_take : Nat × Int → List PyData → List PyData → Prop := fun g l ds => TinOk g.1 l ∧ g.1 < 2 ^ 40 ∧ ds = [.int g.2] ∧ 1 ≤ g.2 ∧ g.2 < 2 ^ 62
abbrev Q_take : Nat × Int → List PyData → PyData → Prop := fun g l d => TinOk (g.1 + 1) l ∧ ∃ r, d = .int r ∧ 0 ≤ r ∧ r < g.2
abbrev P_of : Nat × List PyData → List PyData → List PyData → Prop := fun g l ds => TinOk g.1 l ∧ g.1 < 2 ^ 40 ∧ (∃ x, ds = [x] ∧ SeqD x g.2) ∧ g.2 ≠ [] ∧ g.2.length < 2 ^ 40
abbrev Q_of : Nat × List PyData → List PyData → PyData → Prop := fun g l d => TinOk (g.1 + 1) l ∧ d ∈ g.2
abbrev SpTake : Y.Spec := SpO P_take Q_take
abbrev SpOf : Y.Spec := SpO P_of Q_of
section
variable {Γ : Sta} {ρ : Rh} {pos p : Pos} {P : PyData → Rh → Prop} {e : Expr} {y : Str} {i : Nat} {py : Pos} {p0 : Addr} {ds0 : List PyData}
theorem de_take (f : FnAt Γ "_law_take" SpTake) (g : GlbAt Γ "_law_take") (v : VarAt Γ i y) (hi : ρ[i]? = some (.ow p0 ds0)) (ns : NoStar e) (nst : NoStars [e])
    (h : DE Γ e ρ fun d ρ1 => ∃ p n m l, ρ1[i]? = some (.ow p l) ∧ TinOk n l ∧ n < 2 ^ 40 ∧ d = .int m ∧ 1 ≤ m ∧ m < 2 ^ 62 ∧ ∀ r l', 0 ≤ r → r < m → TinOk (n + 1) l' → P (.int r) (ρ1.set i (.ow p l'))) :
    DE Γ (.Call (.Name "_law_take" p) [.Name y py, e] [] pos) ρ P := de_callOw f g v nst hi (da_cons ns (h.mono fun d ρ1 ⟨p, n, m, l, h1, h2, h3, h4, h5, h6, h7⟩ => da_nil ⟨p, l, (n, m), h1, ⟨h2, h3, by rw [h4], h5, h6⟩, fun ds' d' ⟨q1, r, q2, q3, q4⟩ => by
  subst q2
  exact h7 r ds' q3 q4 q1⟩))
theorem de_of (f : FnAt Γ "_law_of" SpOf) (g : GlbAt Γ "_law_of") (v : VarAt Γ i y) (hi : ρ[i]? = some (.ow p0 ds0)) (ns : NoStar e) (nst : NoStars [e])
    (h : DE Γ e ρ fun d ρ1 => ∃ p n xs l, ρ1[i]? = some (.ow p l) ∧ TinOk n l ∧ n < 2 ^ 40 ∧ SeqD d xs ∧ xs ≠ [] ∧ xs.length < 2 ^ 40 ∧ ∀ d l', d ∈ xs → TinOk (n + 1) l' → P d (ρ1.set i (.ow p l'))) :
    DE Γ (.Call (.Name "_law_of" p) [.Name y py, e] [] pos) ρ P := de_callOw f g v nst hi (da_cons ns (h.mono fun d ρ1 ⟨p, n, xs, l, h1, h2, h3, h4, h5, h6, h7⟩ => da_nil ⟨p, l, (n, xs), h1, ⟨h2, h3, ⟨_, rfl, h4⟩, h5, h6⟩, fun ds' d' ⟨q1, q2⟩ => h7 d' ds' q2 q1⟩))
end
/-- a list of ints alone -/
def Ints (xs : List PyData) : Prop := ∀ x ∈ xs, ∃ i, x = .int i
abbrev P_cells : List PyData → List PyData → Prop := fun g ds => ds = [.list g, .int 1] ∧ Ints g ∧ g.length ≤ sizeLine
abbrev Q_cells : List PyData → PyData → Prop := fun g d => ∃ i, d = .list [.int i]
abbrev P_box : Int → List PyData → Prop := fun g ds => ds = [.list [.int g], .int 0]
abbrev Q_box : Int → List PyData → Prop := fun g l => TinOk 0 l
/-! ### lists in the place of tuples -/
mutual
def toL : PyData → PyData
  | .list xs => .list (toLs xs)
  | .tuple xs => .list (toLs xs)
  | .none => .none
  | .bool b => .bool b
  | .int i => .int i
  | .str s => .str s
  | .dict x => .dict x
def toLs : List PyData → List PyData
  | [] => []
  | x :: xs => toL x :: toLs xs
end
theorem toLs_map : ∀ xs : List PyData, toLs xs = xs.map toL
  | [] => rfl
  | x :: xs => by rw [toLs, List.map_cons, toLs_map xs]
/-- data of so many floors, each of a length that can be -/
def Dok : Nat → PyData → Prop
  | 0, _ => False
  | n + 1, .list xs => xs.length ≤ sizeLine ∧ ∀ x ∈ xs, Dok n x
  | n + 1, .tuple xs => xs.length ≤ sizeLine ∧ ∀ x ∈ xs, Dok n x
  | _ + 1, .dict _ => False
  | _ + 1, .str s => SeqAt.shaped (.str s) = true
  | _ + 1, _ => True
theorem Dok.mono : ∀ {m n : Nat} {x : PyData}, Dok m x → m ≤ n → Dok n x
  | 0, _, _, h, _ => h.elim
  | m + 1, 0, _, _, h => absurd h (by omega)
  | m + 1, n + 1, .list xs, h, k => ⟨h.1, fun x hx => (h.2 x hx).mono (by omega)⟩
  | m + 1, n + 1, .tuple xs, h, k => ⟨h.1, fun x hx => (h.2 x hx).mono (by omega)⟩
  | m + 1, n + 1, .none, _, _ => trivial
  | m + 1, n + 1, .bool _, _, _ => trivial
  | m + 1, n + 1, .int _, _, _ => trivial
  | m + 1, n + 1, .str _, h, _ => h
  | m + 1, n + 1, .dict _, h, _ => h
abbrev P_lists (n : Nat) : PyData → List PyData → Prop := fun g ds => ds = [g] ∧ Dok n g
abbrev Q_lists : PyData → PyData → Prop := fun g d => d = toL g
abbrev P_same (n : Nat) : PyData → List PyData → Prop := fun g ds => ds = [g, g] ∧ Dok n g
abbrev Q_same : PyData → PyData → Prop := fun g d => d = .bool true
end K

/-! ## part K00T -/
/-! the text by its places (printed by tools/gen.py) -/
namespace T
open PySem PySem.Spec PyProof.Rows L2 Y
def topS (i : Nat) : Stmt := PySem.Challenge.pw_crowdsuntold_k00_fractions_by_own_reckon.main.body.getD i (.Pass ⟨0, 0, 0, 0⟩)
theorem n__ : NmOk "_" := ⟨by decide, by decide⟩
theorem n_a : NmOk "a" := ⟨by decide, by decide⟩
theorem n_at_so : NmOk "at_so" := ⟨by decide, by decide⟩
theorem n_b : NmOk "b" := ⟨by decide, by decide⟩
theorem n_below_so : NmOk "below_so" := ⟨by decide, by decide⟩
theorem n_bit : NmOk "bit" := ⟨by decide, by decide⟩
theorem n_bottom : NmOk "bottom" := ⟨by decide, by decide⟩
theorem n_c : NmOk "c" := ⟨by decide, by decide⟩
theorem n_cell : NmOk "cell" := ⟨by decide, by decide⟩
theorem n_cell_so : NmOk "cell_so" := ⟨by decide, by decide⟩
theorem n_cells_so : NmOk "cells_so" := ⟨by decide, by decide⟩
theorem n_common : NmOk "common" := ⟨by decide, by decide⟩
theorem n_d : NmOk "d" := ⟨by decide, by decide⟩
theorem n_door : NmOk "door" := ⟨by decide, by decide⟩
theorem n_drawn : NmOk "drawn" := ⟨by decide, by decide⟩
theorem n_due : NmOk "due" := ⟨by decide, by decide⟩
theorem n_found : NmOk "found" := ⟨by decide, by decide⟩
theorem n_fractions : NmOk "fractions" := ⟨by decide, by decide⟩
theorem n_goods_so : NmOk "goods_so" := ⟨by decide, by decide⟩
theorem n_got : NmOk "got" := ⟨by decide, by decide⟩
theorem n_handed : NmOk "handed" := ⟨by decide, by decide⟩
theorem n_high : NmOk "high" := ⟨by decide, by decide⟩
theorem n_its : NmOk "its" := ⟨by decide, by decide⟩
theorem n_k : NmOk "k" := ⟨by decide, by decide⟩
theorem n_lap : NmOk "lap" := ⟨by decide, by decide⟩
theorem n_length : NmOk "length" := ⟨by decide, by decide⟩
theorem n_low : NmOk "low" := ⟨by decide, by decide⟩
theorem n_matter : NmOk "matter" := ⟨by decide, by decide⟩
theorem n_mine : NmOk "mine" := ⟨by decide, by decide⟩
theorem n_mixed : NmOk "mixed" := ⟨by decide, by decide⟩
theorem n_most_so : NmOk "most_so" := ⟨by decide, by decide⟩
theorem n_much : NmOk "much" := ⟨by decide, by decide⟩
theorem n_n : NmOk "n" := ⟨by decide, by decide⟩
theorem n_once_so : NmOk "once_so" := ⟨by decide, by decide⟩
theorem n_one : NmOk "one" := ⟨by decide, by decide⟩
theorem n_other : NmOk "other" := ⟨by decide, by decide⟩
theorem n_own : NmOk "own" := ⟨by decide, by decide⟩
theorem n_part : NmOk "part" := ⟨by decide, by decide⟩
theorem n_parts : NmOk "parts" := ⟨by decide, by decide⟩
theorem n_row : NmOk "row" := ⟨by decide, by decide⟩
theorem n_script : NmOk "script" := ⟨by decide, by decide⟩
theorem n_share : NmOk "share" := ⟨by decide, by decide⟩
theorem n_sign : NmOk "sign" := ⟨by decide, by decide⟩
theorem n_slip : NmOk "slip" := ⟨by decide, by decide⟩
theorem n_thing : NmOk "thing" := ⟨by decide, by decide⟩
theorem n_tin : NmOk "tin" := ⟨by decide, by decide⟩
theorem n_top : NmOk "top" := ⟨by decide, by decide⟩
theorem n_tops : NmOk "tops" := ⟨by decide, by decide⟩
theorem n_twice_so : NmOk "twice_so" := ⟨by decide, by decide⟩
theorem n_wide_so : NmOk "wide_so" := ⟨by decide, by decide⟩
/-- what the top leaves of the built-in names -/
structure MB (M : Mo) : Prop where
  ValueError' : M.mg "ValueError" = none
  abs' : M.mg "abs" = none
  all' : M.mg "all" = none
  bool' : M.mg "bool" = none
  enumerate' : M.mg "enumerate" = none
  int' : M.mg "int" = none
  isinstance' : M.mg "isinstance" = none
  len' : M.mg "len" = none
  list' : M.mg "list" = none
  min' : M.mg "min" = none
  range' : M.mg "range" = none
  str' : M.mg "str" = none
  tuple' : M.mg "tuple" = none
  zip' : M.mg "zip" = none
namespace is_number
abbrev st : Stmt := topS 3
abbrev N : List Str := ["thing"]
abbrev ps : List Str := ["thing"]
theorem sc : FnScope N ps (defScope st) := ⟨rfl, rfl, rfl, by decide +kernel, rfl, by decide +kernel, by decide +kernel⟩
abbrev Γ (M : Mo) (k : Nat) (W : Wr) (wx : WX) : Sta := ⟨M, N, defScope st, k, W, fun _ => true, wx, true⟩
structure Fa (M : Mo) (k : Nat) (W : Wr) (wx : WX) : Prop where
  v_thing : VarAt (Γ M k W wx) 0 "thing"
  l_thing : LocAt (Γ M k W wx) 0 "thing"
  i_thing : N[0]? = some ("thing" : Str)
  m_thing : NmOk "thing"
  b_bool : BltAt (Γ M k W wx) "bool"
  z_bool : M.mg "bool" = none
  b_int : BltAt (Γ M k W wx) "int"
  z_int : M.mg "int" = none
  b_isinstance : BltAt (Γ M k W wx) "isinstance"
  z_isinstance : M.mg "isinstance" = none
theorem fa {M : Mo} {k : Nat} {W : Wr} {wx : WX} (B : MB M) : Fa M k W wx where
  v_thing := ⟨rfl, .inl rfl, n_thing⟩
  l_thing := ⟨rfl, .inl rfl, .inl rfl⟩
  i_thing := rfl
  m_thing := n_thing
  b_bool := ⟨rfl, B.bool'⟩
  z_bool := B.bool'
  b_int := ⟨rfl, B.int'⟩
  z_int := B.int'
  b_isinstance := ⟨rfl, B.isinstance'⟩
  z_isinstance := B.isinstance'
end is_number
namespace is_tuple_of
abbrev st : Stmt := topS 4
abbrev N : List Str := ["thing", "length"]
abbrev ps : List Str := ["thing", "length"]
theorem sc : FnScope N ps (defScope st) := ⟨rfl, rfl, rfl, by decide +kernel, rfl, by decide +kernel, by decide +kernel⟩
abbrev Γ (M : Mo) (k : Nat) (W : Wr) (wx : WX) : Sta := ⟨M, N, defScope st, k, W, fun _ => true, wx, true⟩
structure Fa (M : Mo) (k : Nat) (W : Wr) (wx : WX) : Prop where
  v_thing : VarAt (Γ M k W wx) 0 "thing"
  l_thing : LocAt (Γ M k W wx) 0 "thing"
  i_thing : N[0]? = some ("thing" : Str)
  m_thing : NmOk "thing"
  v_length : VarAt (Γ M k W wx) 1 "length"
  l_length : LocAt (Γ M k W wx) 1 "length"
  i_length : N[1]? = some ("length" : Str)
  m_length : NmOk "length"
  b_isinstance : BltAt (Γ M k W wx) "isinstance"
  z_isinstance : M.mg "isinstance" = none
  b_len : BltAt (Γ M k W wx) "len"
  z_len : M.mg "len" = none
  b_tuple : BltAt (Γ M k W wx) "tuple"
  z_tuple : M.mg "tuple" = none
theorem fa {M : Mo} {k : Nat} {W : Wr} {wx : WX} (B : MB M) : Fa M k W wx where
  v_thing := ⟨rfl, .inl rfl, n_thing⟩
  l_thing := ⟨rfl, .inl rfl, .inl rfl⟩
  i_thing := rfl
  m_thing := n_thing
  v_length := ⟨rfl, .inl rfl, n_length⟩
  l_length := ⟨rfl, .inl rfl, .inl rfl⟩
  i_length := rfl
  m_length := n_length
  b_isinstance := ⟨rfl, B.isinstance'⟩
  z_isinstance := B.isinstance'
  b_len := ⟨rfl, B.len'⟩
  z_len := B.len'
  b_tuple := ⟨rfl, B.tuple'⟩
  z_tuple := B.tuple'
end is_tuple_of
namespace common_divisor
abbrev st : Stmt := topS 7
abbrev N : List Str := ["one", "other"]
abbrev ps : List Str := ["one", "other"]
theorem sc : FnScope N ps (defScope st) := ⟨rfl, rfl, rfl, by decide +kernel, rfl, by decide +kernel, by decide +kernel⟩
abbrev Γ (M : Mo) (k : Nat) (W : Wr) (wx : WX) : Sta := ⟨M, N, defScope st, k, W, fun _ => true, wx, true⟩
structure Fa (M : Mo) (k : Nat) (W : Wr) (wx : WX) : Prop where
  v_one : VarAt (Γ M k W wx) 0 "one"
  l_one : LocAt (Γ M k W wx) 0 "one"
  i_one : N[0]? = some ("one" : Str)
  m_one : NmOk "one"
  v_other : VarAt (Γ M k W wx) 1 "other"
  l_other : LocAt (Γ M k W wx) 1 "other"
  i_other : N[1]? = some ("other" : Str)
  m_other : NmOk "other"
  b_abs : BltAt (Γ M k W wx) "abs"
  z_abs : M.mg "abs" = none
theorem fa {M : Mo} {k : Nat} {W : Wr} {wx : WX} (B : MB M) : Fa M k W wx where
  v_one := ⟨rfl, .inl rfl, n_one⟩
  l_one := ⟨rfl, .inl rfl, .inl rfl⟩
  i_one := rfl
  m_one := n_one
  v_other := ⟨rfl, .inl rfl, n_other⟩
  l_other := ⟨rfl, .inl rfl, .inl rfl⟩
  i_other := rfl
  m_other := n_other
  b_abs := ⟨rfl, B.abs'⟩
  z_abs := B.abs'
end common_divisor
namespace is_fraction
abbrev st : Stmt := topS 8
abbrev N : List Str := ["thing"]
abbrev ps : List Str := ["thing"]
theorem sc : FnScope N ps (defScope st) := ⟨rfl, rfl, rfl, by decide +kernel, rfl, by decide +kernel, by decide +kernel⟩
abbrev Γ (M : Mo) (k : Nat) (W : Wr) (wx : WX) : Sta := ⟨M, N, defScope st, k, W, fun _ => true, wx, true⟩
structure Fa (M : Mo) (k : Nat) (W : Wr) (wx : WX) : Prop where
  v_thing : VarAt (Γ M k W wx) 0 "thing"
  l_thing : LocAt (Γ M k W wx) 0 "thing"
  i_thing : N[0]? = some ("thing" : Str)
  m_thing : NmOk "thing"
  g_PAIR : GlbAt (Γ M k W wx) "PAIR"
  g_common_divisor : GlbAt (Γ M k W wx) "common_divisor"
  g_is_number : GlbAt (Γ M k W wx) "is_number"
  g_is_tuple_of : GlbAt (Γ M k W wx) "is_tuple_of"
theorem fa {M : Mo} {k : Nat} {W : Wr} {wx : WX} (B : MB M) : Fa M k W wx where
  v_thing := ⟨rfl, .inl rfl, n_thing⟩
  l_thing := ⟨rfl, .inl rfl, .inl rfl⟩
  i_thing := rfl
  m_thing := n_thing
  g_PAIR := ⟨rfl, by decide⟩
  g_common_divisor := ⟨rfl, by decide⟩
  g_is_number := ⟨rfl, by decide⟩
  g_is_tuple_of := ⟨rfl, by decide⟩
end is_fraction
namespace fraction
abbrev st : Stmt := topS 9
abbrev N : List Str := ["top", "bottom", "common"]
abbrev ps : List Str := ["top", "bottom"]
theorem sc : FnScope N ps (defScope st) := ⟨rfl, rfl, rfl, by decide +kernel, rfl, by decide +kernel, by decide +kernel⟩
abbrev Γ (M : Mo) (k : Nat) (W : Wr) (wx : WX) : Sta := ⟨M, N, defScope st, k, W, fun _ => true, wx, true⟩
structure Fa (M : Mo) (k : Nat) (W : Wr) (wx : WX) : Prop where
  v_top : VarAt (Γ M k W wx) 0 "top"
  l_top : LocAt (Γ M k W wx) 0 "top"
  i_top : N[0]? = some ("top" : Str)
  m_top : NmOk "top"
  v_bottom : VarAt (Γ M k W wx) 1 "bottom"
  l_bottom : LocAt (Γ M k W wx) 1 "bottom"
  i_bottom : N[1]? = some ("bottom" : Str)
  m_bottom : NmOk "bottom"
  v_common : VarAt (Γ M k W wx) 2 "common"
  l_common : LocAt (Γ M k W wx) 2 "common"
  i_common : N[2]? = some ("common" : Str)
  m_common : NmOk "common"
  g_Unfit : GlbAt (Γ M k W wx) "Unfit"
  g_common_divisor : GlbAt (Γ M k W wx) "common_divisor"
theorem fa {M : Mo} {k : Nat} {W : Wr} {wx : WX} (B : MB M) : Fa M k W wx where
  v_top := ⟨rfl, .inl rfl, n_top⟩
  l_top := ⟨rfl, .inl rfl, .inl rfl⟩
  i_top := rfl
  m_top := n_top
  v_bottom := ⟨rfl, .inl rfl, n_bottom⟩
  l_bottom := ⟨rfl, .inl rfl, .inl rfl⟩
  i_bottom := rfl
  m_bottom := n_bottom
  v_common := ⟨rfl, .inl rfl, n_common⟩
  l_common := ⟨rfl, .inl rfl, .inl rfl⟩
  i_common := rfl
  m_common := n_common
  g_Unfit := ⟨rfl, by decide⟩
  g_common_divisor := ⟨rfl, by decide⟩
end fraction
namespace plus
abbrev st : Stmt := topS 10
abbrev N : List Str := ["one", "other"]
abbrev ps : List Str := ["one", "other"]
theorem sc : FnScope N ps (defScope st) := ⟨rfl, rfl, rfl, by decide +kernel, rfl, by decide +kernel, by decide +kernel⟩
abbrev Γ (M : Mo) (k : Nat) (W : Wr) (wx : WX) : Sta := ⟨M, N, defScope st, k, W, fun _ => true, wx, true⟩
structure Fa (M : Mo) (k : Nat) (W : Wr) (wx : WX) : Prop where
  v_one : VarAt (Γ M k W wx) 0 "one"
  l_one : LocAt (Γ M k W wx) 0 "one"
  i_one : N[0]? = some ("one" : Str)
  m_one : NmOk "one"
  v_other : VarAt (Γ M k W wx) 1 "other"
  l_other : LocAt (Γ M k W wx) 1 "other"
  i_other : N[1]? = some ("other" : Str)
  m_other : NmOk "other"
  g_fraction : GlbAt (Γ M k W wx) "fraction"
theorem fa {M : Mo} {k : Nat} {W : Wr} {wx : WX} (B : MB M) : Fa M k W wx where
  v_one := ⟨rfl, .inl rfl, n_one⟩
  l_one := ⟨rfl, .inl rfl, .inl rfl⟩
  i_one := rfl
  m_one := n_one
  v_other := ⟨rfl, .inl rfl, n_other⟩
  l_other := ⟨rfl, .inl rfl, .inl rfl⟩
  i_other := rfl
  m_other := n_other
  g_fraction := ⟨rfl, by decide⟩
end plus
namespace less
abbrev st : Stmt := topS 11
abbrev N : List Str := ["one", "other"]
abbrev ps : List Str := ["one", "other"]
theorem sc : FnScope N ps (defScope st) := ⟨rfl, rfl, rfl, by decide +kernel, rfl, by decide +kernel, by decide +kernel⟩
abbrev Γ (M : Mo) (k : Nat) (W : Wr) (wx : WX) : Sta := ⟨M, N, defScope st, k, W, fun _ => true, wx, true⟩
structure Fa (M : Mo) (k : Nat) (W : Wr) (wx : WX) : Prop where
  v_one : VarAt (Γ M k W wx) 0 "one"
  l_one : LocAt (Γ M k W wx) 0 "one"
  i_one : N[0]? = some ("one" : Str)
  m_one : NmOk "one"
  v_other : VarAt (Γ M k W wx) 1 "other"
  l_other : LocAt (Γ M k W wx) 1 "other"
  i_other : N[1]? = some ("other" : Str)
  m_other : NmOk "other"
  g_fraction : GlbAt (Γ M k W wx) "fraction"
theorem fa {M : Mo} {k : Nat} {W : Wr} {wx : WX} (B : MB M) : Fa M k W wx where
  v_one := ⟨rfl, .inl rfl, n_one⟩
  l_one := ⟨rfl, .inl rfl, .inl rfl⟩
  i_one := rfl
  m_one := n_one
  v_other := ⟨rfl, .inl rfl, n_other⟩
  l_other := ⟨rfl, .inl rfl, .inl rfl⟩
  i_other := rfl
  m_other := n_other
  g_fraction := ⟨rfl, by decide⟩
end less
namespace times
abbrev st : Stmt := topS 12
abbrev N : List Str := ["one", "other"]
abbrev ps : List Str := ["one", "other"]
theorem sc : FnScope N ps (defScope st) := ⟨rfl, rfl, rfl, by decide +kernel, rfl, by decide +kernel, by decide +kernel⟩
abbrev Γ (M : Mo) (k : Nat) (W : Wr) (wx : WX) : Sta := ⟨M, N, defScope st, k, W, fun _ => true, wx, true⟩
structure Fa (M : Mo) (k : Nat) (W : Wr) (wx : WX) : Prop where
  v_one : VarAt (Γ M k W wx) 0 "one"
  l_one : LocAt (Γ M k W wx) 0 "one"
  i_one : N[0]? = some ("one" : Str)
  m_one : NmOk "one"
  v_other : VarAt (Γ M k W wx) 1 "other"
  l_other : LocAt (Γ M k W wx) 1 "other"
  i_other : N[1]? = some ("other" : Str)
  m_other : NmOk "other"
  g_fraction : GlbAt (Γ M k W wx) "fraction"
theorem fa {M : Mo} {k : Nat} {W : Wr} {wx : WX} (B : MB M) : Fa M k W wx where
  v_one := ⟨rfl, .inl rfl, n_one⟩
  l_one := ⟨rfl, .inl rfl, .inl rfl⟩
  i_one := rfl
  m_one := n_one
  v_other := ⟨rfl, .inl rfl, n_other⟩
  l_other := ⟨rfl, .inl rfl, .inl rfl⟩
  i_other := rfl
  m_other := n_other
  g_fraction := ⟨rfl, by decide⟩
end times
namespace over
abbrev st : Stmt := topS 13
abbrev N : List Str := ["one", "other"]
abbrev ps : List Str := ["one", "other"]
theorem sc : FnScope N ps (defScope st) := ⟨rfl, rfl, rfl, by decide +kernel, rfl, by decide +kernel, by decide +kernel⟩
abbrev Γ (M : Mo) (k : Nat) (W : Wr) (wx : WX) : Sta := ⟨M, N, defScope st, k, W, fun _ => true, wx, true⟩
structure Fa (M : Mo) (k : Nat) (W : Wr) (wx : WX) : Prop where
  v_one : VarAt (Γ M k W wx) 0 "one"
  l_one : LocAt (Γ M k W wx) 0 "one"
  i_one : N[0]? = some ("one" : Str)
  m_one : NmOk "one"
  v_other : VarAt (Γ M k W wx) 1 "other"
  l_other : LocAt (Γ M k W wx) 1 "other"
  i_other : N[1]? = some ("other" : Str)
  m_other : NmOk "other"
  g_fraction : GlbAt (Γ M k W wx) "fraction"
theorem fa {M : Mo} {k : Nat} {W : Wr} {wx : WX} (B : MB M) : Fa M k W wx where
  v_one := ⟨rfl, .inl rfl, n_one⟩
  l_one := ⟨rfl, .inl rfl, .inl rfl⟩
  i_one := rfl
  m_one := n_one
  v_other := ⟨rfl, .inl rfl, n_other⟩
  l_other := ⟨rfl, .inl rfl, .inl rfl⟩
  i_other := rfl
  m_other := n_other
  g_fraction := ⟨rfl, by decide⟩
end over
namespace at_most
abbrev st : Stmt := topS 14
abbrev N : List Str := ["one", "other"]
abbrev ps : List Str := ["one", "other"]
theorem sc : FnScope N ps (defScope st) := ⟨rfl, rfl, rfl, by decide +kernel, rfl, by decide +kernel, by decide +kernel⟩
abbrev Γ (M : Mo) (k : Nat) (W : Wr) (wx : WX) : Sta := ⟨M, N, defScope st, k, W, fun _ => true, wx, true⟩
structure Fa (M : Mo) (k : Nat) (W : Wr) (wx : WX) : Prop where
  v_one : VarAt (Γ M k W wx) 0 "one"
  l_one : LocAt (Γ M k W wx) 0 "one"
  i_one : N[0]? = some ("one" : Str)
  m_one : NmOk "one"
  v_other : VarAt (Γ M k W wx) 1 "other"
  l_other : LocAt (Γ M k W wx) 1 "other"
  i_other : N[1]? = some ("other" : Str)
  m_other : NmOk "other"
theorem fa {M : Mo} {k : Nat} {W : Wr} {wx : WX} (B : MB M) : Fa M k W wx where
  v_one := ⟨rfl, .inl rfl, n_one⟩
  l_one := ⟨rfl, .inl rfl, .inl rfl⟩
  i_one := rfl
  m_one := n_one
  v_other := ⟨rfl, .inl rfl, n_other⟩
  l_other := ⟨rfl, .inl rfl, .inl rfl⟩
  i_other := rfl
  m_other := n_other
end at_most
namespace least_of
abbrev st : Stmt := topS 15
abbrev N : List Str := ["fractions", "found", "own"]
abbrev ps : List Str := ["fractions"]
theorem sc : FnScope N ps (defScope st) := ⟨rfl, rfl, rfl, by decide +kernel, rfl, by decide +kernel, by decide +kernel⟩
abbrev Γ (M : Mo) (k : Nat) (W : Wr) (wx : WX) : Sta := ⟨M, N, defScope st, k, W, fun _ => true, wx, true⟩
structure Fa (M : Mo) (k : Nat) (W : Wr) (wx : WX) : Prop where
  v_fractions : VarAt (Γ M k W wx) 0 "fractions"
  l_fractions : LocAt (Γ M k W wx) 0 "fractions"
  i_fractions : N[0]? = some ("fractions" : Str)
  m_fractions : NmOk "fractions"
  v_found : VarAt (Γ M k W wx) 1 "found"
  l_found : LocAt (Γ M k W wx) 1 "found"
  i_found : N[1]? = some ("found" : Str)
  m_found : NmOk "found"
  v_own : VarAt (Γ M k W wx) 2 "own"
  l_own : LocAt (Γ M k W wx) 2 "own"
  i_own : N[2]? = some ("own" : Str)
  m_own : NmOk "own"
  g_at_most : GlbAt (Γ M k W wx) "at_most"
  b_tuple : BltAt (Γ M k W wx) "tuple"
  z_tuple : M.mg "tuple" = none
theorem fa {M : Mo} {k : Nat} {W : Wr} {wx : WX} (B : MB M) : Fa M k W wx where
  v_fractions := ⟨rfl, .inl rfl, n_fractions⟩
  l_fractions := ⟨rfl, .inl rfl, .inl rfl⟩
  i_fractions := rfl
  m_fractions := n_fractions
  v_found := ⟨rfl, .inl rfl, n_found⟩
  l_found := ⟨rfl, .inl rfl, .inl rfl⟩
  i_found := rfl
  m_found := n_found
  v_own := ⟨rfl, .inl rfl, n_own⟩
  l_own := ⟨rfl, .inl rfl, .inl rfl⟩
  i_own := rfl
  m_own := n_own
  g_at_most := ⟨rfl, by decide⟩
  b_tuple := ⟨rfl, B.tuple'⟩
  z_tuple := B.tuple'
end least_of
namespace greatest_of
abbrev st : Stmt := topS 16
abbrev N : List Str := ["fractions", "found", "own"]
abbrev ps : List Str := ["fractions"]
theorem sc : FnScope N ps (defScope st) := ⟨rfl, rfl, rfl, by decide +kernel, rfl, by decide +kernel, by decide +kernel⟩
abbrev Γ (M : Mo) (k : Nat) (W : Wr) (wx : WX) : Sta := ⟨M, N, defScope st, k, W, fun _ => true, wx, true⟩
structure Fa (M : Mo) (k : Nat) (W : Wr) (wx : WX) : Prop where
  v_fractions : VarAt (Γ M k W wx) 0 "fractions"
  l_fractions : LocAt (Γ M k W wx) 0 "fractions"
  i_fractions : N[0]? = some ("fractions" : Str)
  m_fractions : NmOk "fractions"
  v_found : VarAt (Γ M k W wx) 1 "found"
  l_found : LocAt (Γ M k W wx) 1 "found"
  i_found : N[1]? = some ("found" : Str)
  m_found : NmOk "found"
  v_own : VarAt (Γ M k W wx) 2 "own"
  l_own : LocAt (Γ M k W wx) 2 "own"
  i_own : N[2]? = some ("own" : Str)
  m_own : NmOk "own"
  g_at_most : GlbAt (Γ M k W wx) "at_most"
  b_tuple : BltAt (Γ M k W wx) "tuple"
  z_tuple : M.mg "tuple" = none
theorem fa {M : Mo} {k : Nat} {W : Wr} {wx : WX} (B : MB M) : Fa M k W wx where
  v_fractions := ⟨rfl, .inl rfl, n_fractions⟩
  l_fractions := ⟨rfl, .inl rfl, .inl rfl⟩
  i_fractions := rfl
  m_fractions := n_fractions
  v_found := ⟨rfl, .inl rfl, n_found⟩
  l_found := ⟨rfl, .inl rfl, .inl rfl⟩
  i_found := rfl
  m_found := n_found
  v_own := ⟨rfl, .inl rfl, n_own⟩
  l_own := ⟨rfl, .inl rfl, .inl rfl⟩
  i_own := rfl
  m_own := n_own
  g_at_most := ⟨rfl, by decide⟩
  b_tuple := ⟨rfl, B.tuple'⟩
  z_tuple := B.tuple'
end greatest_of
namespace sum_of
abbrev st : Stmt := topS 17
abbrev N : List Str := ["fractions", "found", "own"]
abbrev ps : List Str := ["fractions"]
theorem sc : FnScope N ps (defScope st) := ⟨rfl, rfl, rfl, by decide +kernel, rfl, by decide +kernel, by decide +kernel⟩
abbrev Γ (M : Mo) (k : Nat) (W : Wr) (wx : WX) : Sta := ⟨M, N, defScope st, k, W, fun _ => true, wx, true⟩
structure Fa (M : Mo) (k : Nat) (W : Wr) (wx : WX) : Prop where
  v_fractions : VarAt (Γ M k W wx) 0 "fractions"
  l_fractions : LocAt (Γ M k W wx) 0 "fractions"
  i_fractions : N[0]? = some ("fractions" : Str)
  m_fractions : NmOk "fractions"
  v_found : VarAt (Γ M k W wx) 1 "found"
  l_found : LocAt (Γ M k W wx) 1 "found"
  i_found : N[1]? = some ("found" : Str)
  m_found : NmOk "found"
  v_own : VarAt (Γ M k W wx) 2 "own"
  l_own : LocAt (Γ M k W wx) 2 "own"
  i_own : N[2]? = some ("own" : Str)
  m_own : NmOk "own"
  g_plus : GlbAt (Γ M k W wx) "plus"
theorem fa {M : Mo} {k : Nat} {W : Wr} {wx : WX} (B : MB M) : Fa M k W wx where
  v_fractions := ⟨rfl, .inl rfl, n_fractions⟩
  l_fractions := ⟨rfl, .inl rfl, .inl rfl⟩
  i_fractions := rfl
  m_fractions := n_fractions
  v_found := ⟨rfl, .inl rfl, n_found⟩
  l_found := ⟨rfl, .inl rfl, .inl rfl⟩
  i_found := rfl
  m_found := n_found
  v_own := ⟨rfl, .inl rfl, n_own⟩
  l_own := ⟨rfl, .inl rfl, .inl rfl⟩
  i_own := rfl
  m_own := n_own
  g_plus := ⟨rfl, by decide⟩
end sum_of
namespace common_bottom
abbrev st : Stmt := topS 18
abbrev N : List Str := ["fractions", "found", "_", "bottom"]
abbrev ps : List Str := ["fractions"]
theorem sc : FnScope N ps (defScope st) := ⟨rfl, rfl, rfl, by decide +kernel, rfl, by decide +kernel, by decide +kernel⟩
abbrev Γ (M : Mo) (k : Nat) (W : Wr) (wx : WX) : Sta := ⟨M, N, defScope st, k, W, fun _ => true, wx, true⟩
structure Fa (M : Mo) (k : Nat) (W : Wr) (wx : WX) : Prop where
  v_fractions : VarAt (Γ M k W wx) 0 "fractions"
  l_fractions : LocAt (Γ M k W wx) 0 "fractions"
  i_fractions : N[0]? = some ("fractions" : Str)
  m_fractions : NmOk "fractions"
  v_found : VarAt (Γ M k W wx) 1 "found"
  l_found : LocAt (Γ M k W wx) 1 "found"
  i_found : N[1]? = some ("found" : Str)
  m_found : NmOk "found"
  v__ : VarAt (Γ M k W wx) 2 "_"
  l__ : LocAt (Γ M k W wx) 2 "_"
  i__ : N[2]? = some ("_" : Str)
  m__ : NmOk "_"
  v_bottom : VarAt (Γ M k W wx) 3 "bottom"
  l_bottom : LocAt (Γ M k W wx) 3 "bottom"
  i_bottom : N[3]? = some ("bottom" : Str)
  m_bottom : NmOk "bottom"
  g_common_divisor : GlbAt (Γ M k W wx) "common_divisor"
theorem fa {M : Mo} {k : Nat} {W : Wr} {wx : WX} (B : MB M) : Fa M k W wx where
  v_fractions := ⟨rfl, .inl rfl, n_fractions⟩
  l_fractions := ⟨rfl, .inl rfl, .inl rfl⟩
  i_fractions := rfl
  m_fractions := n_fractions
  v_found := ⟨rfl, .inl rfl, n_found⟩
  l_found := ⟨rfl, .inl rfl, .inl rfl⟩
  i_found := rfl
  m_found := n_found
  v__ := ⟨rfl, .inl rfl, n__⟩
  l__ := ⟨rfl, .inl rfl, .inl rfl⟩
  i__ := rfl
  m__ := n__
  v_bottom := ⟨rfl, .inl rfl, n_bottom⟩
  l_bottom := ⟨rfl, .inl rfl, .inl rfl⟩
  i_bottom := rfl
  m_bottom := n_bottom
  g_common_divisor := ⟨rfl, by decide⟩
end common_bottom
namespace whole_tops
abbrev st : Stmt := topS 19
abbrev N : List Str := ["fractions", "much", "top", "bottom"]
abbrev ps : List Str := ["fractions"]
abbrev own0 : List (Str × Nat) := [("top", 2), ("bottom", 3)]
theorem sc : FnScope N ps (defScope st) := ⟨rfl, rfl, rfl, by decide +kernel, rfl, by decide +kernel, by decide +kernel⟩
abbrev Γ (M : Mo) (k : Nat) (W : Wr) (wx : WX) : Sta := ⟨M, N, defScope st, k, W, fun _ => true, wx, true⟩
structure Fa (M : Mo) (k : Nat) (W : Wr) (wx : WX) : Prop where
  v_fractions : VarAt (Γ M k W wx) 0 "fractions"
  l_fractions : LocAt (Γ M k W wx) 0 "fractions"
  i_fractions : N[0]? = some ("fractions" : Str)
  m_fractions : NmOk "fractions"
  v_much : VarAt (Γ M k W wx) 1 "much"
  l_much : LocAt (Γ M k W wx) 1 "much"
  i_much : N[1]? = some ("much" : Str)
  m_much : NmOk "much"
  i_top : N[2]? = some ("top" : Str)
  m_top : NmOk "top"
  i_bottom : N[3]? = some ("bottom" : Str)
  m_bottom : NmOk "bottom"
  g_common_bottom : GlbAt (Γ M k W wx) "common_bottom"
  b_tuple : BltAt (Γ M k W wx) "tuple"
  z_tuple : M.mg "tuple" = none
theorem fa {M : Mo} {k : Nat} {W : Wr} {wx : WX} (B : MB M) : Fa M k W wx where
  v_fractions := ⟨rfl, .inl rfl, n_fractions⟩
  l_fractions := ⟨rfl, .inl rfl, .inl rfl⟩
  i_fractions := rfl
  m_fractions := n_fractions
  v_much := ⟨rfl, .inr (.inl rfl), n_much⟩
  l_much := ⟨rfl, .inr rfl, .inl rfl⟩
  i_much := rfl
  m_much := n_much
  i_top := rfl
  m_top := n_top
  i_bottom := rfl
  m_bottom := n_bottom
  g_common_bottom := ⟨rfl, by decide⟩
  b_tuple := ⟨rfl, B.tuple'⟩
  z_tuple := B.tuple'
end whole_tops
namespace rest_of
abbrev st : Stmt := topS 20
abbrev N : List Str := ["share"]
abbrev ps : List Str := ["share"]
theorem sc : FnScope N ps (defScope st) := ⟨rfl, rfl, rfl, by decide +kernel, rfl, by decide +kernel, by decide +kernel⟩
abbrev Γ (M : Mo) (k : Nat) (W : Wr) (wx : WX) : Sta := ⟨M, N, defScope st, k, W, fun _ => true, wx, true⟩
structure Fa (M : Mo) (k : Nat) (W : Wr) (wx : WX) : Prop where
  v_share : VarAt (Γ M k W wx) 0 "share"
  l_share : LocAt (Γ M k W wx) 0 "share"
  i_share : N[0]? = some ("share" : Str)
  m_share : NmOk "share"
  g_less : GlbAt (Γ M k W wx) "less"
theorem fa {M : Mo} {k : Nat} {W : Wr} {wx : WX} (B : MB M) : Fa M k W wx where
  v_share := ⟨rfl, .inl rfl, n_share⟩
  l_share := ⟨rfl, .inl rfl, .inl rfl⟩
  i_share := rfl
  m_share := n_share
  g_less := ⟨rfl, by decide⟩
end rest_of
namespace between
abbrev st : Stmt := topS 21
abbrev N : List Str := ["one", "other", "share"]
abbrev ps : List Str := ["one", "other", "share"]
theorem sc : FnScope N ps (defScope st) := ⟨rfl, rfl, rfl, by decide +kernel, rfl, by decide +kernel, by decide +kernel⟩
abbrev Γ (M : Mo) (k : Nat) (W : Wr) (wx : WX) : Sta := ⟨M, N, defScope st, k, W, fun _ => true, wx, true⟩
structure Fa (M : Mo) (k : Nat) (W : Wr) (wx : WX) : Prop where
  v_one : VarAt (Γ M k W wx) 0 "one"
  l_one : LocAt (Γ M k W wx) 0 "one"
  i_one : N[0]? = some ("one" : Str)
  m_one : NmOk "one"
  v_other : VarAt (Γ M k W wx) 1 "other"
  l_other : LocAt (Γ M k W wx) 1 "other"
  i_other : N[1]? = some ("other" : Str)
  m_other : NmOk "other"
  v_share : VarAt (Γ M k W wx) 2 "share"
  l_share : LocAt (Γ M k W wx) 2 "share"
  i_share : N[2]? = some ("share" : Str)
  m_share : NmOk "share"
  g_plus : GlbAt (Γ M k W wx) "plus"
  g_rest_of : GlbAt (Γ M k W wx) "rest_of"
  g_times : GlbAt (Γ M k W wx) "times"
theorem fa {M : Mo} {k : Nat} {W : Wr} {wx : WX} (B : MB M) : Fa M k W wx where
  v_one := ⟨rfl, .inl rfl, n_one⟩
  l_one := ⟨rfl, .inl rfl, .inl rfl⟩
  i_one := rfl
  m_one := n_one
  v_other := ⟨rfl, .inl rfl, n_other⟩
  l_other := ⟨rfl, .inl rfl, .inl rfl⟩
  i_other := rfl
  m_other := n_other
  v_share := ⟨rfl, .inl rfl, n_share⟩
  l_share := ⟨rfl, .inl rfl, .inl rfl⟩
  i_share := rfl
  m_share := n_share
  g_plus := ⟨rfl, by decide⟩
  g_rest_of := ⟨rfl, by decide⟩
  g_times := ⟨rfl, by decide⟩
end between
namespace _law_box
abbrev st : Stmt := topS 23
abbrev N : List Str := ["script", "k", "cell"]
abbrev ps : List Str := ["script", "k"]
theorem sc : FnScope N ps (defScope st) := ⟨rfl, rfl, rfl, by decide +kernel, rfl, by decide +kernel, by decide +kernel⟩
abbrev Γ (M : Mo) (k : Nat) (W : Wr) (wx : WX) : Sta := ⟨M, N, defScope st, k, W, fun _ => true, wx, true⟩
structure Fa (M : Mo) (k : Nat) (W : Wr) (wx : WX) : Prop where
  v_script : VarAt (Γ M k W wx) 0 "script"
  l_script : LocAt (Γ M k W wx) 0 "script"
  i_script : N[0]? = some ("script" : Str)
  m_script : NmOk "script"
  v_k : VarAt (Γ M k W wx) 1 "k"
  l_k : LocAt (Γ M k W wx) 1 "k"
  i_k : N[1]? = some ("k" : Str)
  m_k : NmOk "k"
  v_cell : VarAt (Γ M k W wx) 2 "cell"
  l_cell : LocAt (Γ M k W wx) 2 "cell"
  i_cell : N[2]? = some ("cell" : Str)
  m_cell : NmOk "cell"
  b_abs : BltAt (Γ M k W wx) "abs"
  z_abs : M.mg "abs" = none
  b_int : BltAt (Γ M k W wx) "int"
  z_int : M.mg "int" = none
  b_len : BltAt (Γ M k W wx) "len"
  z_len : M.mg "len" = none
theorem fa {M : Mo} {k : Nat} {W : Wr} {wx : WX} (B : MB M) : Fa M k W wx where
  v_script := ⟨rfl, .inl rfl, n_script⟩
  l_script := ⟨rfl, .inl rfl, .inl rfl⟩
  i_script := rfl
  m_script := n_script
  v_k := ⟨rfl, .inl rfl, n_k⟩
  l_k := ⟨rfl, .inl rfl, .inl rfl⟩
  i_k := rfl
  m_k := n_k
  v_cell := ⟨rfl, .inl rfl, n_cell⟩
  l_cell := ⟨rfl, .inl rfl, .inl rfl⟩
  i_cell := rfl
  m_cell := n_cell
  b_abs := ⟨rfl, B.abs'⟩
  z_abs := B.abs'
  b_int := ⟨rfl, B.int'⟩
  z_int := B.int'
  b_len := ⟨rfl, B.len'⟩
  z_len := B.len'
end _law_box
namespace _law_take
abbrev st : Stmt := topS 24
abbrev N : List Str := ["tin", "below_so", "drawn", "once_so", "wide_so", "twice_so"]
abbrev ps : List Str := ["tin", "below_so"]
theorem sc : FnScope N ps (defScope st) := ⟨rfl, rfl, rfl, by decide +kernel, rfl, by decide +kernel, by decide +kernel⟩
abbrev Γ (M : Mo) (k : Nat) (W : Wr) (wx : WX) : Sta := ⟨M, N, defScope st, k, W, fun _ => true, wx, true⟩
structure Fa (M : Mo) (k : Nat) (W : Wr) (wx : WX) : Prop where
  v_tin : VarAt (Γ M k W wx) 0 "tin"
  l_tin : LocAt (Γ M k W wx) 0 "tin"
  i_tin : N[0]? = some ("tin" : Str)
  m_tin : NmOk "tin"
  v_below_so : VarAt (Γ M k W wx) 1 "below_so"
  l_below_so : LocAt (Γ M k W wx) 1 "below_so"
  i_below_so : N[1]? = some ("below_so" : Str)
  m_below_so : NmOk "below_so"
  v_drawn : VarAt (Γ M k W wx) 2 "drawn"
  l_drawn : LocAt (Γ M k W wx) 2 "drawn"
  i_drawn : N[2]? = some ("drawn" : Str)
  m_drawn : NmOk "drawn"
  v_once_so : VarAt (Γ M k W wx) 3 "once_so"
  l_once_so : LocAt (Γ M k W wx) 3 "once_so"
  i_once_so : N[3]? = some ("once_so" : Str)
  m_once_so : NmOk "once_so"
  v_wide_so : VarAt (Γ M k W wx) 4 "wide_so"
  l_wide_so : LocAt (Γ M k W wx) 4 "wide_so"
  i_wide_so : N[4]? = some ("wide_so" : Str)
  m_wide_so : NmOk "wide_so"
  v_twice_so : VarAt (Γ M k W wx) 5 "twice_so"
  l_twice_so : LocAt (Γ M k W wx) 5 "twice_so"
  i_twice_so : N[5]? = some ("twice_so" : Str)
  m_twice_so : NmOk "twice_so"
  b_int : BltAt (Γ M k W wx) "int"
  z_int : M.mg "int" = none
theorem fa {M : Mo} {k : Nat} {W : Wr} {wx : WX} (B : MB M) : Fa M k W wx where
  v_tin := ⟨rfl, .inl rfl, n_tin⟩
  l_tin := ⟨rfl, .inl rfl, .inl rfl⟩
  i_tin := rfl
  m_tin := n_tin
  v_below_so := ⟨rfl, .inl rfl, n_below_so⟩
  l_below_so := ⟨rfl, .inl rfl, .inl rfl⟩
  i_below_so := rfl
  m_below_so := n_below_so
  v_drawn := ⟨rfl, .inl rfl, n_drawn⟩
  l_drawn := ⟨rfl, .inl rfl, .inl rfl⟩
  i_drawn := rfl
  m_drawn := n_drawn
  v_once_so := ⟨rfl, .inl rfl, n_once_so⟩
  l_once_so := ⟨rfl, .inl rfl, .inl rfl⟩
  i_once_so := rfl
  m_once_so := n_once_so
  v_wide_so := ⟨rfl, .inl rfl, n_wide_so⟩
  l_wide_so := ⟨rfl, .inl rfl, .inl rfl⟩
  i_wide_so := rfl
  m_wide_so := n_wide_so
  v_twice_so := ⟨rfl, .inl rfl, n_twice_so⟩
  l_twice_so := ⟨rfl, .inl rfl, .inl rfl⟩
  i_twice_so := rfl
  m_twice_so := n_twice_so
  b_int := ⟨rfl, B.int'⟩
  z_int := B.int'
end _law_take
namespace _law_cells
abbrev st : Stmt := topS 25
abbrev N : List Str := ["script", "most_so", "cells_so", "k", "cell_so", "at_so"]
abbrev ps : List Str := ["script", "most_so"]
theorem sc : FnScope N ps (defScope st) := ⟨rfl, rfl, rfl, by decide +kernel, rfl, by decide +kernel, by decide +kernel⟩
abbrev Γ (M : Mo) (k : Nat) (W : Wr) (wx : WX) : Sta := ⟨M, N, defScope st, k, W, fun _ => true, wx, true⟩
structure Fa (M : Mo) (k : Nat) (W : Wr) (wx : WX) : Prop where
  v_script : VarAt (Γ M k W wx) 0 "script"
  l_script : LocAt (Γ M k W wx) 0 "script"
  i_script : N[0]? = some ("script" : Str)
  m_script : NmOk "script"
  v_most_so : VarAt (Γ M k W wx) 1 "most_so"
  l_most_so : LocAt (Γ M k W wx) 1 "most_so"
  i_most_so : N[1]? = some ("most_so" : Str)
  m_most_so : NmOk "most_so"
  v_cells_so : VarAt (Γ M k W wx) 2 "cells_so"
  l_cells_so : LocAt (Γ M k W wx) 2 "cells_so"
  i_cells_so : N[2]? = some ("cells_so" : Str)
  m_cells_so : NmOk "cells_so"
  v_k : VarAt (Γ M k W wx) 3 "k"
  l_k : LocAt (Γ M k W wx) 3 "k"
  i_k : N[3]? = some ("k" : Str)
  m_k : NmOk "k"
  v_cell_so : VarAt (Γ M k W wx) 4 "cell_so"
  l_cell_so : LocAt (Γ M k W wx) 4 "cell_so"
  i_cell_so : N[4]? = some ("cell_so" : Str)
  m_cell_so : NmOk "cell_so"
  v_at_so : VarAt (Γ M k W wx) 5 "at_so"
  l_at_so : LocAt (Γ M k W wx) 5 "at_so"
  i_at_so : N[5]? = some ("at_so" : Str)
  m_at_so : NmOk "at_so"
  b_enumerate : BltAt (Γ M k W wx) "enumerate"
  z_enumerate : M.mg "enumerate" = none
  b_int : BltAt (Γ M k W wx) "int"
  z_int : M.mg "int" = none
  b_list : BltAt (Γ M k W wx) "list"
  z_list : M.mg "list" = none
theorem fa {M : Mo} {k : Nat} {W : Wr} {wx : WX} (B : MB M) : Fa M k W wx where
  v_script := ⟨rfl, .inl rfl, n_script⟩
  l_script := ⟨rfl, .inl rfl, .inl rfl⟩
  i_script := rfl
  m_script := n_script
  v_most_so := ⟨rfl, .inl rfl, n_most_so⟩
  l_most_so := ⟨rfl, .inl rfl, .inl rfl⟩
  i_most_so := rfl
  m_most_so := n_most_so
  v_cells_so := ⟨rfl, .inl rfl, n_cells_so⟩
  l_cells_so := ⟨rfl, .inl rfl, .inl rfl⟩
  i_cells_so := rfl
  m_cells_so := n_cells_so
  v_k := ⟨rfl, .inl rfl, n_k⟩
  l_k := ⟨rfl, .inl rfl, .inl rfl⟩
  i_k := rfl
  m_k := n_k
  v_cell_so := ⟨rfl, .inl rfl, n_cell_so⟩
  l_cell_so := ⟨rfl, .inl rfl, .inl rfl⟩
  i_cell_so := rfl
  m_cell_so := n_cell_so
  v_at_so := ⟨rfl, .inl rfl, n_at_so⟩
  l_at_so := ⟨rfl, .inl rfl, .inl rfl⟩
  i_at_so := rfl
  m_at_so := n_at_so
  b_enumerate := ⟨rfl, B.enumerate'⟩
  z_enumerate := B.enumerate'
  b_int := ⟨rfl, B.int'⟩
  z_int := B.int'
  b_list := ⟨rfl, B.list'⟩
  z_list := B.list'
end _law_cells
namespace _law_of
abbrev st : Stmt := topS 26
abbrev N : List Str := ["tin", "goods_so"]
abbrev ps : List Str := ["tin", "goods_so"]
theorem sc : FnScope N ps (defScope st) := ⟨rfl, rfl, rfl, by decide +kernel, rfl, by decide +kernel, by decide +kernel⟩
abbrev Γ (M : Mo) (k : Nat) (W : Wr) (wx : WX) : Sta := ⟨M, N, defScope st, k, W, fun _ => true, wx, true⟩
structure Fa (M : Mo) (k : Nat) (W : Wr) (wx : WX) : Prop where
  v_tin : VarAt (Γ M k W wx) 0 "tin"
  l_tin : LocAt (Γ M k W wx) 0 "tin"
  i_tin : N[0]? = some ("tin" : Str)
  m_tin : NmOk "tin"
  v_goods_so : VarAt (Γ M k W wx) 1 "goods_so"
  l_goods_so : LocAt (Γ M k W wx) 1 "goods_so"
  i_goods_so : N[1]? = some ("goods_so" : Str)
  m_goods_so : NmOk "goods_so"
  g__law_take : GlbAt (Γ M k W wx) "_law_take"
  b_len : BltAt (Γ M k W wx) "len"
  z_len : M.mg "len" = none
theorem fa {M : Mo} {k : Nat} {W : Wr} {wx : WX} (B : MB M) : Fa M k W wx where
  v_tin := ⟨rfl, .inl rfl, n_tin⟩
  l_tin := ⟨rfl, .inl rfl, .inl rfl⟩
  i_tin := rfl
  m_tin := n_tin
  v_goods_so := ⟨rfl, .inl rfl, n_goods_so⟩
  l_goods_so := ⟨rfl, .inl rfl, .inl rfl⟩
  i_goods_so := rfl
  m_goods_so := n_goods_so
  g__law_take := ⟨rfl, by decide⟩
  b_len := ⟨rfl, B.len'⟩
  z_len := B.len'
end _law_of
namespace _law_same
abbrev st : Stmt := topS 27
abbrev N : List Str := ["got", "due", "mine", "its"]
abbrev ps : List Str := ["got", "due"]
abbrev own0 : List (Str × Nat) := [("mine", 2), ("its", 3)]
theorem sc : FnScope N ps (defScope st) := ⟨rfl, rfl, rfl, by decide +kernel, rfl, by decide +kernel, by decide +kernel⟩
abbrev Γ (M : Mo) (k : Nat) (W : Wr) (wx : WX) : Sta := ⟨M, N, defScope st, k, W, fun _ => true, wx, true⟩
structure Fa (M : Mo) (k : Nat) (W : Wr) (wx : WX) : Prop where
  v_got : VarAt (Γ M k W wx) 0 "got"
  l_got : LocAt (Γ M k W wx) 0 "got"
  i_got : N[0]? = some ("got" : Str)
  m_got : NmOk "got"
  v_due : VarAt (Γ M k W wx) 1 "due"
  l_due : LocAt (Γ M k W wx) 1 "due"
  i_due : N[1]? = some ("due" : Str)
  m_due : NmOk "due"
  i_mine : N[2]? = some ("mine" : Str)
  m_mine : NmOk "mine"
  i_its : N[3]? = some ("its" : Str)
  m_its : NmOk "its"
  b_all : BltAt (Γ M k W wx) "all"
  z_all : M.mg "all" = none
  b_bool : BltAt (Γ M k W wx) "bool"
  z_bool : M.mg "bool" = none
  b_int : BltAt (Γ M k W wx) "int"
  z_int : M.mg "int" = none
  b_isinstance : BltAt (Γ M k W wx) "isinstance"
  z_isinstance : M.mg "isinstance" = none
  b_len : BltAt (Γ M k W wx) "len"
  z_len : M.mg "len" = none
  b_list : BltAt (Γ M k W wx) "list"
  z_list : M.mg "list" = none
  b_str : BltAt (Γ M k W wx) "str"
  z_str : M.mg "str" = none
  b_tuple : BltAt (Γ M k W wx) "tuple"
  z_tuple : M.mg "tuple" = none
  b_zip : BltAt (Γ M k W wx) "zip"
  z_zip : M.mg "zip" = none
theorem fa {M : Mo} {k : Nat} {W : Wr} {wx : WX} (B : MB M) : Fa M k W wx where
  v_got := ⟨rfl, .inl rfl, n_got⟩
  l_got := ⟨rfl, .inl rfl, .inl rfl⟩
  i_got := rfl
  m_got := n_got
  v_due := ⟨rfl, .inl rfl, n_due⟩
  l_due := ⟨rfl, .inl rfl, .inl rfl⟩
  i_due := rfl
  m_due := n_due
  i_mine := rfl
  m_mine := n_mine
  i_its := rfl
  m_its := n_its
  b_all := ⟨rfl, B.all'⟩
  z_all := B.all'
  b_bool := ⟨rfl, B.bool'⟩
  z_bool := B.bool'
  b_int := ⟨rfl, B.int'⟩
  z_int := B.int'
  b_isinstance := ⟨rfl, B.isinstance'⟩
  z_isinstance := B.isinstance'
  b_len := ⟨rfl, B.len'⟩
  z_len := B.len'
  b_list := ⟨rfl, B.list'⟩
  z_list := B.list'
  b_str := ⟨rfl, B.str'⟩
  z_str := B.str'
  b_tuple := ⟨rfl, B.tuple'⟩
  z_tuple := B.tuple'
  b_zip := ⟨rfl, B.zip'⟩
  z_zip := B.zip'
end _law_same
namespace _law_lists
abbrev st : Stmt := topS 28
abbrev N : List Str := ["matter", "bit"]
abbrev ps : List Str := ["matter"]
abbrev own0 : List (Str × Nat) := [("bit", 1)]
theorem sc : FnScope N ps (defScope st) := ⟨rfl, rfl, rfl, by decide +kernel, rfl, by decide +kernel, by decide +kernel⟩
abbrev Γ (M : Mo) (k : Nat) (W : Wr) (wx : WX) : Sta := ⟨M, N, defScope st, k, W, fun _ => true, wx, true⟩
structure Fa (M : Mo) (k : Nat) (W : Wr) (wx : WX) : Prop where
  v_matter : VarAt (Γ M k W wx) 0 "matter"
  l_matter : LocAt (Γ M k W wx) 0 "matter"
  i_matter : N[0]? = some ("matter" : Str)
  m_matter : NmOk "matter"
  i_bit : N[1]? = some ("bit" : Str)
  m_bit : NmOk "bit"
  b_isinstance : BltAt (Γ M k W wx) "isinstance"
  z_isinstance : M.mg "isinstance" = none
  b_list : BltAt (Γ M k W wx) "list"
  z_list : M.mg "list" = none
  b_tuple : BltAt (Γ M k W wx) "tuple"
  z_tuple : M.mg "tuple" = none
theorem fa {M : Mo} {k : Nat} {W : Wr} {wx : WX} (B : MB M) : Fa M k W wx where
  v_matter := ⟨rfl, .inl rfl, n_matter⟩
  l_matter := ⟨rfl, .inl rfl, .inl rfl⟩
  i_matter := rfl
  m_matter := n_matter
  i_bit := rfl
  m_bit := n_bit
  b_isinstance := ⟨rfl, B.isinstance'⟩
  z_isinstance := B.isinstance'
  b_list := ⟨rfl, B.list'⟩
  z_list := B.list'
  b_tuple := ⟨rfl, B.tuple'⟩
  z_tuple := B.tuple'
end _law_lists
namespace _law_frac
abbrev st : Stmt := topS 29
abbrev N : List Str := ["top", "bottom", "a", "b", "sign"]
abbrev ps : List Str := ["top", "bottom"]
theorem sc : FnScope N ps (defScope st) := ⟨rfl, rfl, rfl, by decide +kernel, rfl, by decide +kernel, by decide +kernel⟩
abbrev Γ (M : Mo) (k : Nat) (W : Wr) (wx : WX) : Sta := ⟨M, N, defScope st, k, W, fun _ => true, wx, true⟩
structure Fa (M : Mo) (k : Nat) (W : Wr) (wx : WX) : Prop where
  v_top : VarAt (Γ M k W wx) 0 "top"
  l_top : LocAt (Γ M k W wx) 0 "top"
  i_top : N[0]? = some ("top" : Str)
  m_top : NmOk "top"
  v_bottom : VarAt (Γ M k W wx) 1 "bottom"
  l_bottom : LocAt (Γ M k W wx) 1 "bottom"
  i_bottom : N[1]? = some ("bottom" : Str)
  m_bottom : NmOk "bottom"
  v_a : VarAt (Γ M k W wx) 2 "a"
  l_a : LocAt (Γ M k W wx) 2 "a"
  i_a : N[2]? = some ("a" : Str)
  m_a : NmOk "a"
  v_b : VarAt (Γ M k W wx) 3 "b"
  l_b : LocAt (Γ M k W wx) 3 "b"
  i_b : N[3]? = some ("b" : Str)
  m_b : NmOk "b"
  v_sign : VarAt (Γ M k W wx) 4 "sign"
  l_sign : LocAt (Γ M k W wx) 4 "sign"
  i_sign : N[4]? = some ("sign" : Str)
  m_sign : NmOk "sign"
  b_abs : BltAt (Γ M k W wx) "abs"
  z_abs : M.mg "abs" = none
  b_int : BltAt (Γ M k W wx) "int"
  z_int : M.mg "int" = none
theorem fa {M : Mo} {k : Nat} {W : Wr} {wx : WX} (B : MB M) : Fa M k W wx where
  v_top := ⟨rfl, .inl rfl, n_top⟩
  l_top := ⟨rfl, .inl rfl, .inl rfl⟩
  i_top := rfl
  m_top := n_top
  v_bottom := ⟨rfl, .inl rfl, n_bottom⟩
  l_bottom := ⟨rfl, .inl rfl, .inl rfl⟩
  i_bottom := rfl
  m_bottom := n_bottom
  v_a := ⟨rfl, .inl rfl, n_a⟩
  l_a := ⟨rfl, .inl rfl, .inl rfl⟩
  i_a := rfl
  m_a := n_a
  v_b := ⟨rfl, .inl rfl, n_b⟩
  l_b := ⟨rfl, .inl rfl, .inl rfl⟩
  i_b := rfl
  m_b := n_b
  v_sign := ⟨rfl, .inl rfl, n_sign⟩
  l_sign := ⟨rfl, .inl rfl, .inl rfl⟩
  i_sign := rfl
  m_sign := n_sign
  b_abs := ⟨rfl, B.abs'⟩
  z_abs := B.abs'
  b_int := ⟨rfl, B.int'⟩
  z_int := B.int'
end _law_frac
namespace _law_plus
abbrev st : Stmt := topS 30
abbrev N : List Str := ["one", "other"]
abbrev ps : List Str := ["one", "other"]
theorem sc : FnScope N ps (defScope st) := ⟨rfl, rfl, rfl, by decide +kernel, rfl, by decide +kernel, by decide +kernel⟩
abbrev Γ (M : Mo) (k : Nat) (W : Wr) (wx : WX) : Sta := ⟨M, N, defScope st, k, W, fun _ => true, wx, true⟩
structure Fa (M : Mo) (k : Nat) (W : Wr) (wx : WX) : Prop where
  v_one : VarAt (Γ M k W wx) 0 "one"
  l_one : LocAt (Γ M k W wx) 0 "one"
  i_one : N[0]? = some ("one" : Str)
  m_one : NmOk "one"
  v_other : VarAt (Γ M k W wx) 1 "other"
  l_other : LocAt (Γ M k W wx) 1 "other"
  i_other : N[1]? = some ("other" : Str)
  m_other : NmOk "other"
  g__law_frac : GlbAt (Γ M k W wx) "_law_frac"
theorem fa {M : Mo} {k : Nat} {W : Wr} {wx : WX} (B : MB M) : Fa M k W wx where
  v_one := ⟨rfl, .inl rfl, n_one⟩
  l_one := ⟨rfl, .inl rfl, .inl rfl⟩
  i_one := rfl
  m_one := n_one
  v_other := ⟨rfl, .inl rfl, n_other⟩
  l_other := ⟨rfl, .inl rfl, .inl rfl⟩
  i_other := rfl
  m_other := n_other
  g__law_frac := ⟨rfl, by decide⟩
end _law_plus
namespace _law_less
abbrev st : Stmt := topS 31
abbrev N : List Str := ["one", "other"]
abbrev ps : List Str := ["one", "other"]
theorem sc : FnScope N ps (defScope st) := ⟨rfl, rfl, rfl, by decide +kernel, rfl, by decide +kernel, by decide +kernel⟩
abbrev Γ (M : Mo) (k : Nat) (W : Wr) (wx : WX) : Sta := ⟨M, N, defScope st, k, W, fun _ => true, wx, true⟩
structure Fa (M : Mo) (k : Nat) (W : Wr) (wx : WX) : Prop where
  v_one : VarAt (Γ M k W wx) 0 "one"
  l_one : LocAt (Γ M k W wx) 0 "one"
  i_one : N[0]? = some ("one" : Str)
  m_one : NmOk "one"
  v_other : VarAt (Γ M k W wx) 1 "other"
  l_other : LocAt (Γ M k W wx) 1 "other"
  i_other : N[1]? = some ("other" : Str)
  m_other : NmOk "other"
  g__law_frac : GlbAt (Γ M k W wx) "_law_frac"
theorem fa {M : Mo} {k : Nat} {W : Wr} {wx : WX} (B : MB M) : Fa M k W wx where
  v_one := ⟨rfl, .inl rfl, n_one⟩
  l_one := ⟨rfl, .inl rfl, .inl rfl⟩
  i_one := rfl
  m_one := n_one
  v_other := ⟨rfl, .inl rfl, n_other⟩
  l_other := ⟨rfl, .inl rfl, .inl rfl⟩
  i_other := rfl
  m_other := n_other
  g__law_frac := ⟨rfl, by decide⟩
end _law_less
namespace _law_times
abbrev st : Stmt := topS 32
abbrev N : List Str := ["one", "other"]
abbrev ps : List Str := ["one", "other"]
theorem sc : FnScope N ps (defScope st) := ⟨rfl, rfl, rfl, by decide +kernel, rfl, by decide +kernel, by decide +kernel⟩
abbrev Γ (M : Mo) (k : Nat) (W : Wr) (wx : WX) : Sta := ⟨M, N, defScope st, k, W, fun _ => true, wx, true⟩
structure Fa (M : Mo) (k : Nat) (W : Wr) (wx : WX) : Prop where
  v_one : VarAt (Γ M k W wx) 0 "one"
  l_one : LocAt (Γ M k W wx) 0 "one"
  i_one : N[0]? = some ("one" : Str)
  m_one : NmOk "one"
  v_other : VarAt (Γ M k W wx) 1 "other"
  l_other : LocAt (Γ M k W wx) 1 "other"
  i_other : N[1]? = some ("other" : Str)
  m_other : NmOk "other"
  g__law_frac : GlbAt (Γ M k W wx) "_law_frac"
theorem fa {M : Mo} {k : Nat} {W : Wr} {wx : WX} (B : MB M) : Fa M k W wx where
  v_one := ⟨rfl, .inl rfl, n_one⟩
  l_one := ⟨rfl, .inl rfl, .inl rfl⟩
  i_one := rfl
  m_one := n_one
  v_other := ⟨rfl, .inl rfl, n_other⟩
  l_other := ⟨rfl, .inl rfl, .inl rfl⟩
  i_other := rfl
  m_other := n_other
  g__law_frac := ⟨rfl, by decide⟩
end _law_times
namespace _law_below
abbrev st : Stmt := topS 33
abbrev N : List Str := ["one", "other"]
abbrev ps : List Str := ["one", "other"]
theorem sc : FnScope N ps (defScope st) := ⟨rfl, rfl, rfl, by decide +kernel, rfl, by decide +kernel, by decide +kernel⟩
abbrev Γ (M : Mo) (k : Nat) (W : Wr) (wx : WX) : Sta := ⟨M, N, defScope st, k, W, fun _ => true, wx, true⟩
structure Fa (M : Mo) (k : Nat) (W : Wr) (wx : WX) : Prop where
  v_one : VarAt (Γ M k W wx) 0 "one"
  l_one : LocAt (Γ M k W wx) 0 "one"
  i_one : N[0]? = some ("one" : Str)
  m_one : NmOk "one"
  v_other : VarAt (Γ M k W wx) 1 "other"
  l_other : LocAt (Γ M k W wx) 1 "other"
  i_other : N[1]? = some ("other" : Str)
  m_other : NmOk "other"
theorem fa {M : Mo} {k : Nat} {W : Wr} {wx : WX} (B : MB M) : Fa M k W wx where
  v_one := ⟨rfl, .inl rfl, n_one⟩
  l_one := ⟨rfl, .inl rfl, .inl rfl⟩
  i_one := rfl
  m_one := n_one
  v_other := ⟨rfl, .inl rfl, n_other⟩
  l_other := ⟨rfl, .inl rfl, .inl rfl⟩
  i_other := rfl
  m_other := n_other
end _law_below
namespace _law_sum
abbrev st : Stmt := topS 34
abbrev N : List Str := ["parts", "found", "part"]
abbrev ps : List Str := ["parts"]
theorem sc : FnScope N ps (defScope st) := ⟨rfl, rfl, rfl, by decide +kernel, rfl, by decide +kernel, by decide +kernel⟩
abbrev Γ (M : Mo) (k : Nat) (W : Wr) (wx : WX) : Sta := ⟨M, N, defScope st, k, W, fun _ => true, wx, true⟩
structure Fa (M : Mo) (k : Nat) (W : Wr) (wx : WX) : Prop where
  v_parts : VarAt (Γ M k W wx) 0 "parts"
  l_parts : LocAt (Γ M k W wx) 0 "parts"
  i_parts : N[0]? = some ("parts" : Str)
  m_parts : NmOk "parts"
  v_found : VarAt (Γ M k W wx) 1 "found"
  l_found : LocAt (Γ M k W wx) 1 "found"
  i_found : N[1]? = some ("found" : Str)
  m_found : NmOk "found"
  v_part : VarAt (Γ M k W wx) 2 "part"
  l_part : LocAt (Γ M k W wx) 2 "part"
  i_part : N[2]? = some ("part" : Str)
  m_part : NmOk "part"
  g__law_plus : GlbAt (Γ M k W wx) "_law_plus"
theorem fa {M : Mo} {k : Nat} {W : Wr} {wx : WX} (B : MB M) : Fa M k W wx where
  v_parts := ⟨rfl, .inl rfl, n_parts⟩
  l_parts := ⟨rfl, .inl rfl, .inl rfl⟩
  i_parts := rfl
  m_parts := n_parts
  v_found := ⟨rfl, .inl rfl, n_found⟩
  l_found := ⟨rfl, .inl rfl, .inl rfl⟩
  i_found := rfl
  m_found := n_found
  v_part := ⟨rfl, .inl rfl, n_part⟩
  l_part := ⟨rfl, .inl rfl, .inl rfl⟩
  i_part := rfl
  m_part := n_part
  g__law_plus := ⟨rfl, by decide⟩
end _law_sum
namespace _law_heard
abbrev st : Stmt := topS 35
abbrev N : List Str := ["door", "one", "other", "slip"]
abbrev ps : List Str := ["door", "one", "other"]
theorem sc : FnScope N ps (defScope st) := ⟨rfl, rfl, rfl, by decide +kernel, rfl, by decide +kernel, by decide +kernel⟩
abbrev Γ (M : Mo) (k : Nat) (W : Wr) (wx : WX) : Sta := ⟨M, N, defScope st, k, W, fun _ => true, wx, true⟩
structure Fa (M : Mo) (k : Nat) (W : Wr) (wx : WX) : Prop where
  v_door : VarAt (Γ M k W wx) 0 "door"
  l_door : LocAt (Γ M k W wx) 0 "door"
  i_door : N[0]? = some ("door" : Str)
  m_door : NmOk "door"
  v_one : VarAt (Γ M k W wx) 1 "one"
  l_one : LocAt (Γ M k W wx) 1 "one"
  i_one : N[1]? = some ("one" : Str)
  m_one : NmOk "one"
  v_other : VarAt (Γ M k W wx) 2 "other"
  l_other : LocAt (Γ M k W wx) 2 "other"
  i_other : N[2]? = some ("other" : Str)
  m_other : NmOk "other"
  v_slip : VarAt (Γ M k W wx) 3 "slip"
  l_slip : LocAt (Γ M k W wx) 3 "slip"
  i_slip : N[3]? = some ("slip" : Str)
  m_slip : NmOk "slip"
  g_Unfit : GlbAt (Γ M k W wx) "Unfit"
  g_fraction : GlbAt (Γ M k W wx) "fraction"
  g_over : GlbAt (Γ M k W wx) "over"
  b_ValueError : BltAt (Γ M k W wx) "ValueError"
  z_ValueError : M.mg "ValueError" = none
  b_isinstance : BltAt (Γ M k W wx) "isinstance"
  z_isinstance : M.mg "isinstance" = none
theorem fa {M : Mo} {k : Nat} {W : Wr} {wx : WX} (B : MB M) : Fa M k W wx where
  v_door := ⟨rfl, .inl rfl, n_door⟩
  l_door := ⟨rfl, .inl rfl, .inl rfl⟩
  i_door := rfl
  m_door := n_door
  v_one := ⟨rfl, .inl rfl, n_one⟩
  l_one := ⟨rfl, .inl rfl, .inl rfl⟩
  i_one := rfl
  m_one := n_one
  v_other := ⟨rfl, .inl rfl, n_other⟩
  l_other := ⟨rfl, .inl rfl, .inl rfl⟩
  i_other := rfl
  m_other := n_other
  v_slip := ⟨rfl, .inl rfl, n_slip⟩
  l_slip := ⟨rfl, .inl rfl, .inl rfl⟩
  i_slip := rfl
  m_slip := n_slip
  g_Unfit := ⟨rfl, by decide⟩
  g_fraction := ⟨rfl, by decide⟩
  g_over := ⟨rfl, by decide⟩
  b_ValueError := ⟨rfl, B.ValueError'⟩
  z_ValueError := B.ValueError'
  b_isinstance := ⟨rfl, B.isinstance'⟩
  z_isinstance := B.isinstance'
end _law_heard
namespace _law_is
abbrev st : Stmt := topS 36
abbrev N : List Str := ["thing", "own"]
abbrev ps : List Str := ["thing"]
abbrev own0 : List (Str × Nat) := [("own", 1)]
theorem sc : FnScope N ps (defScope st) := ⟨rfl, rfl, rfl, by decide +kernel, rfl, by decide +kernel, by decide +kernel⟩
abbrev Γ (M : Mo) (k : Nat) (W : Wr) (wx : WX) : Sta := ⟨M, N, defScope st, k, W, fun _ => true, wx, true⟩
structure Fa (M : Mo) (k : Nat) (W : Wr) (wx : WX) : Prop where
  v_thing : VarAt (Γ M k W wx) 0 "thing"
  l_thing : LocAt (Γ M k W wx) 0 "thing"
  i_thing : N[0]? = some ("thing" : Str)
  m_thing : NmOk "thing"
  i_own : N[1]? = some ("own" : Str)
  m_own : NmOk "own"
  g__law_frac : GlbAt (Γ M k W wx) "_law_frac"
  z_bool : M.mg "bool" = none
  z_int : M.mg "int" = none
  b_isinstance : BltAt (Γ M k W wx) "isinstance"
  z_isinstance : M.mg "isinstance" = none
  b_len : BltAt (Γ M k W wx) "len"
  z_len : M.mg "len" = none
  b_tuple : BltAt (Γ M k W wx) "tuple"
  z_tuple : M.mg "tuple" = none
theorem fa {M : Mo} {k : Nat} {W : Wr} {wx : WX} (B : MB M) : Fa M k W wx where
  v_thing := ⟨rfl, .inl rfl, n_thing⟩
  l_thing := ⟨rfl, .inl rfl, .inl rfl⟩
  i_thing := rfl
  m_thing := n_thing
  i_own := rfl
  m_own := n_own
  g__law_frac := ⟨rfl, by decide⟩
  z_bool := B.bool'
  z_int := B.int'
  b_isinstance := ⟨rfl, B.isinstance'⟩
  z_isinstance := B.isinstance'
  b_len := ⟨rfl, B.len'⟩
  z_len := B.len'
  b_tuple := ⟨rfl, B.tuple'⟩
  z_tuple := B.tuple'
end _law_is
namespace _law_drawn
abbrev st : Stmt := topS 37
abbrev N : List Str := ["tin", "top"]
abbrev ps : List Str := ["tin"]
theorem sc : FnScope N ps (defScope st) := ⟨rfl, rfl, rfl, by decide +kernel, rfl, by decide +kernel, by decide +kernel⟩
abbrev Γ (M : Mo) (k : Nat) (W : Wr) (wx : WX) : Sta := ⟨M, N, defScope st, k, W, fun _ => true, wx, true⟩
structure Fa (M : Mo) (k : Nat) (W : Wr) (wx : WX) : Prop where
  v_tin : VarAt (Γ M k W wx) 0 "tin"
  l_tin : LocAt (Γ M k W wx) 0 "tin"
  i_tin : N[0]? = some ("tin" : Str)
  m_tin : NmOk "tin"
  v_top : VarAt (Γ M k W wx) 1 "top"
  l_top : LocAt (Γ M k W wx) 1 "top"
  i_top : N[1]? = some ("top" : Str)
  m_top : NmOk "top"
  g__law_frac : GlbAt (Γ M k W wx) "_law_frac"
  g__law_of : GlbAt (Γ M k W wx) "_law_of"
  g__law_take : GlbAt (Γ M k W wx) "_law_take"
theorem fa {M : Mo} {k : Nat} {W : Wr} {wx : WX} (B : MB M) : Fa M k W wx where
  v_tin := ⟨rfl, .inl rfl, n_tin⟩
  l_tin := ⟨rfl, .inl rfl, .inl rfl⟩
  i_tin := rfl
  m_tin := n_tin
  v_top := ⟨rfl, .inl rfl, n_top⟩
  l_top := ⟨rfl, .inl rfl, .inl rfl⟩
  i_top := rfl
  m_top := n_top
  g__law_frac := ⟨rfl, by decide⟩
  g__law_of := ⟨rfl, by decide⟩
  g__law_take := ⟨rfl, by decide⟩
end _law_drawn
namespace law
abbrev st : Stmt := topS 38
abbrev N : List Str := ["script", "tin", "lap", "one", "other", "a", "b", "c", "d", "got", "due", "top", "bottom", "part", "mixed", "thing", "row", "low", "high", "much", "tops", "handed", "k", "n"]
abbrev ps : List Str := ["script"]
abbrev own0 : List (Str × Nat) := [("k", 22)]
abbrev own1 : List (Str × Nat) := [("top", 11), ("bottom", 12)]
abbrev own2 : List (Str × Nat) := [("top", 11), ("bottom", 12)]
abbrev own3 : List (Str × Nat) := [("n", 23)]
abbrev own4 : List (Str × Nat) := [("top", 11), ("bottom", 12)]
theorem sc : FnScope N ps (defScope st) := ⟨rfl, rfl, rfl, by decide +kernel, rfl, by decide +kernel, by decide +kernel⟩
abbrev Γ (M : Mo) (k : Nat) (W : Wr) (wx : WX) : Sta := ⟨M, N, defScope st, k, W, fun _ => true, wx, true⟩
structure Fa (M : Mo) (k : Nat) (W : Wr) (wx : WX) : Prop where
  v_script : VarAt (Γ M k W wx) 0 "script"
  l_script : LocAt (Γ M k W wx) 0 "script"
  i_script : N[0]? = some ("script" : Str)
  m_script : NmOk "script"
  v_tin : VarAt (Γ M k W wx) 1 "tin"
  l_tin : LocAt (Γ M k W wx) 1 "tin"
  i_tin : N[1]? = some ("tin" : Str)
  m_tin : NmOk "tin"
  v_lap : VarAt (Γ M k W wx) 2 "lap"
  l_lap : LocAt (Γ M k W wx) 2 "lap"
  i_lap : N[2]? = some ("lap" : Str)
  m_lap : NmOk "lap"
  v_one : VarAt (Γ M k W wx) 3 "one"
  l_one : LocAt (Γ M k W wx) 3 "one"
  i_one : N[3]? = some ("one" : Str)
  m_one : NmOk "one"
  v_other : VarAt (Γ M k W wx) 4 "other"
  l_other : LocAt (Γ M k W wx) 4 "other"
  i_other : N[4]? = some ("other" : Str)
  m_other : NmOk "other"
  v_a : VarAt (Γ M k W wx) 5 "a"
  l_a : LocAt (Γ M k W wx) 5 "a"
  i_a : N[5]? = some ("a" : Str)
  m_a : NmOk "a"
  v_b : VarAt (Γ M k W wx) 6 "b"
  l_b : LocAt (Γ M k W wx) 6 "b"
  i_b : N[6]? = some ("b" : Str)
  m_b : NmOk "b"
  v_c : VarAt (Γ M k W wx) 7 "c"
  l_c : LocAt (Γ M k W wx) 7 "c"
  i_c : N[7]? = some ("c" : Str)
  m_c : NmOk "c"
  v_d : VarAt (Γ M k W wx) 8 "d"
  l_d : LocAt (Γ M k W wx) 8 "d"
  i_d : N[8]? = some ("d" : Str)
  m_d : NmOk "d"
  v_got : VarAt (Γ M k W wx) 9 "got"
  l_got : LocAt (Γ M k W wx) 9 "got"
  i_got : N[9]? = some ("got" : Str)
  m_got : NmOk "got"
  v_due : VarAt (Γ M k W wx) 10 "due"
  l_due : LocAt (Γ M k W wx) 10 "due"
  i_due : N[10]? = some ("due" : Str)
  m_due : NmOk "due"
  v_top : VarAt (Γ M k W wx) 11 "top"
  l_top : LocAt (Γ M k W wx) 11 "top"
  i_top : N[11]? = some ("top" : Str)
  m_top : NmOk "top"
  v_bottom : VarAt (Γ M k W wx) 12 "bottom"
  l_bottom : LocAt (Γ M k W wx) 12 "bottom"
  i_bottom : N[12]? = some ("bottom" : Str)
  m_bottom : NmOk "bottom"
  v_part : VarAt (Γ M k W wx) 13 "part"
  l_part : LocAt (Γ M k W wx) 13 "part"
  i_part : N[13]? = some ("part" : Str)
  m_part : NmOk "part"
  v_mixed : VarAt (Γ M k W wx) 14 "mixed"
  l_mixed : LocAt (Γ M k W wx) 14 "mixed"
  i_mixed : N[14]? = some ("mixed" : Str)
  m_mixed : NmOk "mixed"
  v_thing : VarAt (Γ M k W wx) 15 "thing"
  l_thing : LocAt (Γ M k W wx) 15 "thing"
  i_thing : N[15]? = some ("thing" : Str)
  m_thing : NmOk "thing"
  v_row : VarAt (Γ M k W wx) 16 "row"
  l_row : LocAt (Γ M k W wx) 16 "row"
  i_row : N[16]? = some ("row" : Str)
  m_row : NmOk "row"
  v_low : VarAt (Γ M k W wx) 17 "low"
  l_low : LocAt (Γ M k W wx) 17 "low"
  i_low : N[17]? = some ("low" : Str)
  m_low : NmOk "low"
  v_high : VarAt (Γ M k W wx) 18 "high"
  l_high : LocAt (Γ M k W wx) 18 "high"
  i_high : N[18]? = some ("high" : Str)
  m_high : NmOk "high"
  v_much : VarAt (Γ M k W wx) 19 "much"
  l_much : LocAt (Γ M k W wx) 19 "much"
  i_much : N[19]? = some ("much" : Str)
  m_much : NmOk "much"
  v_tops : VarAt (Γ M k W wx) 20 "tops"
  l_tops : LocAt (Γ M k W wx) 20 "tops"
  i_tops : N[20]? = some ("tops" : Str)
  m_tops : NmOk "tops"
  v_handed : VarAt (Γ M k W wx) 21 "handed"
  l_handed : LocAt (Γ M k W wx) 21 "handed"
  i_handed : N[21]? = some ("handed" : Str)
  m_handed : NmOk "handed"
  i_k : N[22]? = some ("k" : Str)
  m_k : NmOk "k"
  i_n : N[23]? = some ("n" : Str)
  m_n : NmOk "n"
  g__law_below : GlbAt (Γ M k W wx) "_law_below"
  g__law_box : GlbAt (Γ M k W wx) "_law_box"
  g__law_cells : GlbAt (Γ M k W wx) "_law_cells"
  g__law_drawn : GlbAt (Γ M k W wx) "_law_drawn"
  g__law_frac : GlbAt (Γ M k W wx) "_law_frac"
  g__law_heard : GlbAt (Γ M k W wx) "_law_heard"
  g__law_is : GlbAt (Γ M k W wx) "_law_is"
  g__law_less : GlbAt (Γ M k W wx) "_law_less"
  g__law_lists : GlbAt (Γ M k W wx) "_law_lists"
  g__law_of : GlbAt (Γ M k W wx) "_law_of"
  g__law_plus : GlbAt (Γ M k W wx) "_law_plus"
  g__law_same : GlbAt (Γ M k W wx) "_law_same"
  g__law_sum : GlbAt (Γ M k W wx) "_law_sum"
  g__law_take : GlbAt (Γ M k W wx) "_law_take"
  g__law_times : GlbAt (Γ M k W wx) "_law_times"
  g_at_most : GlbAt (Γ M k W wx) "at_most"
  g_between : GlbAt (Γ M k W wx) "between"
  g_common_bottom : GlbAt (Γ M k W wx) "common_bottom"
  g_greatest_of : GlbAt (Γ M k W wx) "greatest_of"
  g_is_fraction : GlbAt (Γ M k W wx) "is_fraction"
  g_least_of : GlbAt (Γ M k W wx) "least_of"
  g_less : GlbAt (Γ M k W wx) "less"
  g_plus : GlbAt (Γ M k W wx) "plus"
  g_rest_of : GlbAt (Γ M k W wx) "rest_of"
  g_sum_of : GlbAt (Γ M k W wx) "sum_of"
  g_times : GlbAt (Γ M k W wx) "times"
  g_whole_tops : GlbAt (Γ M k W wx) "whole_tops"
  z_int : M.mg "int" = none
  b_len : BltAt (Γ M k W wx) "len"
  z_len : M.mg "len" = none
  b_min : BltAt (Γ M k W wx) "min"
  z_min : M.mg "min" = none
  b_range : BltAt (Γ M k W wx) "range"
  z_range : M.mg "range" = none
  b_tuple : BltAt (Γ M k W wx) "tuple"
  z_tuple : M.mg "tuple" = none
theorem fa {M : Mo} {k : Nat} {W : Wr} {wx : WX} (B : MB M) : Fa M k W wx where
  v_script := ⟨rfl, .inl rfl, n_script⟩
  l_script := ⟨rfl, .inl rfl, .inl rfl⟩
  i_script := rfl
  m_script := n_script
  v_tin := ⟨rfl, .inr (.inl rfl), n_tin⟩
  l_tin := ⟨rfl, .inr rfl, .inl rfl⟩
  i_tin := rfl
  m_tin := n_tin
  v_lap := ⟨rfl, .inl rfl, n_lap⟩
  l_lap := ⟨rfl, .inl rfl, .inl rfl⟩
  i_lap := rfl
  m_lap := n_lap
  v_one := ⟨rfl, .inl rfl, n_one⟩
  l_one := ⟨rfl, .inl rfl, .inl rfl⟩
  i_one := rfl
  m_one := n_one
  v_other := ⟨rfl, .inl rfl, n_other⟩
  l_other := ⟨rfl, .inl rfl, .inl rfl⟩
  i_other := rfl
  m_other := n_other
  v_a := ⟨rfl, .inl rfl, n_a⟩
  l_a := ⟨rfl, .inl rfl, .inl rfl⟩
  i_a := rfl
  m_a := n_a
  v_b := ⟨rfl, .inl rfl, n_b⟩
  l_b := ⟨rfl, .inl rfl, .inl rfl⟩
  i_b := rfl
  m_b := n_b
  v_c := ⟨rfl, .inl rfl, n_c⟩
  l_c := ⟨rfl, .inl rfl, .inl rfl⟩
  i_c := rfl
  m_c := n_c
  v_d := ⟨rfl, .inl rfl, n_d⟩
  l_d := ⟨rfl, .inl rfl, .inl rfl⟩
  i_d := rfl
  m_d := n_d
  v_got := ⟨rfl, .inl rfl, n_got⟩
  l_got := ⟨rfl, .inl rfl, .inl rfl⟩
  i_got := rfl
  m_got := n_got
  v_due := ⟨rfl, .inl rfl, n_due⟩
  l_due := ⟨rfl, .inl rfl, .inl rfl⟩
  i_due := rfl
  m_due := n_due
  v_top := ⟨rfl, .inl rfl, n_top⟩
  l_top := ⟨rfl, .inl rfl, .inl rfl⟩
  i_top := rfl
  m_top := n_top
  v_bottom := ⟨rfl, .inl rfl, n_bottom⟩
  l_bottom := ⟨rfl, .inl rfl, .inl rfl⟩
  i_bottom := rfl
  m_bottom := n_bottom
  v_part := ⟨rfl, .inl rfl, n_part⟩
  l_part := ⟨rfl, .inl rfl, .inl rfl⟩
  i_part := rfl
  m_part := n_part
  v_mixed := ⟨rfl, .inl rfl, n_mixed⟩
  l_mixed := ⟨rfl, .inl rfl, .inl rfl⟩
  i_mixed := rfl
  m_mixed := n_mixed
  v_thing := ⟨rfl, .inl rfl, n_thing⟩
  l_thing := ⟨rfl, .inl rfl, .inl rfl⟩
  i_thing := rfl
  m_thing := n_thing
  v_row := ⟨rfl, .inr (.inl rfl), n_row⟩
  l_row := ⟨rfl, .inr rfl, .inl rfl⟩
  i_row := rfl
  m_row := n_row
  v_low := ⟨rfl, .inl rfl, n_low⟩
  l_low := ⟨rfl, .inl rfl, .inl rfl⟩
  i_low := rfl
  m_low := n_low
  v_high := ⟨rfl, .inl rfl, n_high⟩
  l_high := ⟨rfl, .inl rfl, .inl rfl⟩
  i_high := rfl
  m_high := n_high
  v_much := ⟨rfl, .inr (.inl rfl), n_much⟩
  l_much := ⟨rfl, .inr rfl, .inl rfl⟩
  i_much := rfl
  m_much := n_much
  v_tops := ⟨rfl, .inl rfl, n_tops⟩
  l_tops := ⟨rfl, .inl rfl, .inl rfl⟩
  i_tops := rfl
  m_tops := n_tops
  v_handed := ⟨rfl, .inl rfl, n_handed⟩
  l_handed := ⟨rfl, .inl rfl, .inl rfl⟩
  i_handed := rfl
  m_handed := n_handed
  i_k := rfl
  m_k := n_k
  i_n := rfl
  m_n := n_n
  g__law_below := ⟨rfl, by decide⟩
  g__law_box := ⟨rfl, by decide⟩
  g__law_cells := ⟨rfl, by decide⟩
  g__law_drawn := ⟨rfl, by decide⟩
  g__law_frac := ⟨rfl, by decide⟩
  g__law_heard := ⟨rfl, by decide⟩
  g__law_is := ⟨rfl, by decide⟩
  g__law_less := ⟨rfl, by decide⟩
  g__law_lists := ⟨rfl, by decide⟩
  g__law_of := ⟨rfl, by decide⟩
  g__law_plus := ⟨rfl, by decide⟩
  g__law_same := ⟨rfl, by decide⟩
  g__law_sum := ⟨rfl, by decide⟩
  g__law_take := ⟨rfl, by decide⟩
  g__law_times := ⟨rfl, by decide⟩
  g_at_most := ⟨rfl, by decide⟩
  g_between := ⟨rfl, by decide⟩
  g_common_bottom := ⟨rfl, by decide⟩
  g_greatest_of := ⟨rfl, by decide⟩
  g_is_fraction := ⟨rfl, by decide⟩
  g_least_of := ⟨rfl, by decide⟩
  g_less := ⟨rfl, by decide⟩
  g_plus := ⟨rfl, by decide⟩
  g_rest_of := ⟨rfl, by decide⟩
  g_sum_of := ⟨rfl, by decide⟩
  g_times := ⟨rfl, by decide⟩
  g_whole_tops := ⟨rfl, by decide⟩
  z_int := B.int'
  b_len := ⟨rfl, B.len'⟩
  z_len := B.len'
  b_min := ⟨rfl, B.min'⟩
  z_min := B.min'
  b_range := ⟨rfl, B.range'⟩
  z_range := B.range'
  b_tuple := ⟨rfl, B.tuple'⟩
  z_tuple := B.tuple'
end law
end T

/-! ## part K00M -/
/-! the numbers of k00: plain Lean -/
namespace K
def gI (a b : Int) : Int := (Int.gcd a b : Int)
theorem gI_nn (a b : Int) : 0 ≤ gI a b := Int.natCast_nonneg _
theorem gI_dl (a b : Int) : gI a b ∣ a := Int.gcd_dvd_left a b
theorem gI_dr (a b : Int) : gI a b ∣ b := Int.gcd_dvd_right a b
theorem gI_pos {a b : Int} (h : b ≠ 0) : 0 < gI a b := by
  unfold gI
  have : Int.gcd a b ≠ 0 := fun z => h (Int.gcd_eq_zero_iff.mp z).2
  omega
theorem gI_zero (a : Int) : gI a 0 = if a < 0 then -a else a := by
  unfold gI
  rw [Int.gcd_zero_right]
  split <;> omega
theorem gI_comm (a b : Int) : gI a b = gI b a := by unfold gI; rw [Int.gcd_comm]
theorem gI_fmod {a b : Int} (h : b ≠ 0) : gI b (a.fmod b) = gI a b := by
  have e : a.fmod b = a - b * a.fdiv b := by
    have := Int.fmod_add_mul_fdiv a b
    omega
  have d1 : gI a b ∣ a.fmod b := by
    rw [e]
    exact Int.dvd_sub (gI_dl a b) (Int.dvd_mul_of_dvd_left (gI_dr a b))
  have d2 : gI b (a.fmod b) ∣ a := by
    have e2 : a = a.fmod b + b * a.fdiv b := by omega
    rw [e2]
    exact Int.dvd_add (by rw [← e2]; exact gI_dr b _) (Int.dvd_mul_of_dvd_left (by rw [← e2]; exact gI_dl b _))
  have n1 := gI_nn a b
  have n2 := gI_nn b (a.fmod b)
  refine Int.dvd_antisymm n2 n1 ?_ ?_
  · exact Int.dvd_coe_gcd d2 (gI_dl b _)
  · exact Int.dvd_coe_gcd (gI_dr a b) d1
theorem fmod_lt {a b : Int} (h : b ≠ 0) : (a.fmod b).natAbs < b.natAbs := by
  rcases Int.lt_or_lt_of_ne h with h | h
  · have e := Int.neg_fmod_neg a b
    have h1 := Int.fmod_lt_of_pos (-a) (show 0 < -b by omega)
    have h2 := Int.fmod_nonneg_of_pos (-a) (show 0 < -b by omega)
    omega
  · have h1 := Int.fmod_lt_of_pos a h
    have h2 := Int.fmod_nonneg_of_pos a h
    omega
/-- the FRACTION of two numbers -/
def redQ (t b : Int) : Int × Int := if b < 0 then (-t / gI t b, -b / gI t b) else (t / gI t b, b / gI t b)
theorem fdiv_pos {x g : Int} (h : 0 < g) : x.fdiv g = x / g := Int.fdiv_eq_ediv_of_nonneg x (by omega)
theorem fdiv_neg {x g : Int} (h : 0 < g) (d : g ∣ x) : x.fdiv (-g) = -x / g := by
  obtain ⟨c, rfl⟩ := d
  have e : g * c = (-c) * (-g) := by rw [Int.neg_mul_neg, Int.mul_comm]
  rw [e, Int.mul_fdiv_cancel _ (by omega)]
  have e2 : -(-c * -g) = g * (-c) := by rw [Int.neg_mul_neg, Int.mul_neg, Int.mul_comm]
  rw [e2, Int.mul_ediv_cancel_left _ (by omega)]
theorem redQ_pos {t b : Int} (h : b ≠ 0) : 0 < (redQ t b).2 := by
  have g := gI_pos (a := t) h
  unfold redQ
  split
  · obtain ⟨c, e⟩ := gI_dr t b
    show 0 < -b / gI t b
    have e3 : -b = gI t b * (-c) := by rw [Int.mul_neg, ← e]
    rw [e3, Int.mul_ediv_cancel_left _ (by omega)]
    by_cases hc : 0 < -c
    · exact hc
    · have : 0 ≤ gI t b * c := Int.mul_nonneg (by omega) (by omega)
      omega
  · obtain ⟨c, e⟩ := gI_dr t b
    show 0 < b / gI t b
    rw [show b / gI t b = c by
      have := Int.mul_ediv_cancel_left c (show gI t b ≠ 0 by omega)
      rw [← e] at this
      exact this]
    by_cases hc : 0 < c
    · exact hc
    · have : gI t b * c ≤ 0 := Int.mul_nonpos_of_nonneg_of_nonpos (by omega) (by omega)
      omega
/-- a FRACTION's bottom is no greater -/
theorem ediv_le {x g : Int} (h : 0 < g) (h0 : 0 ≤ x) : x / g ≤ x := by
  have := Int.ediv_le_self g h0
  exact this
theorem redQ_le {t b : Int} (h : b ≠ 0) : (redQ t b).2 ≤ (b.natAbs : Int) := by
  have g := gI_pos (a := t) h
  unfold redQ
  split
  · show -b / gI t b ≤ _
    have := ediv_le g (show 0 ≤ -b by omega)
    omega
  · show b / gI t b ≤ _
    have := ediv_le g (show 0 ≤ b by omega)
    omega
theorem redQ_top {t b : Int} (h : b ≠ 0) : ((redQ t b).1.natAbs : Int) ≤ t.natAbs := by
  have g := gI_pos (a := t) h
  have key : ∀ x : Int, gI t b ∣ x → ((x / gI t b).natAbs : Int) ≤ x.natAbs := fun x ⟨c, e⟩ => by
    have e2 : x / gI t b = c := by rw [e, Int.mul_ediv_cancel_left _ (by omega)]
    rw [e2, e, Int.natAbs_mul]
    have : 1 ≤ (gI t b).natAbs := by omega
    have h3 : c.natAbs * 1 ≤ c.natAbs * (gI t b).natAbs := Nat.mul_le_mul_left _ this
    rw [Nat.mul_comm (gI t b).natAbs]
    omega
  unfold redQ
  split
  · have := key (-t) (Int.dvd_neg.mpr (gI_dl t b))
    show ((-t / gI t b).natAbs : Int) ≤ _
    omega
  · exact key t (gI_dl t b)
/-- least terms -/
theorem redQ_cop {t b : Int} (h : b ≠ 0) : gI (redQ t b).1 (redQ t b).2 = 1 := by
  have g := gI_pos (a := t) h
  obtain ⟨c, e1⟩ := gI_dl t b
  obtain ⟨d, e2⟩ := gI_dr t b
  have q1 : t / gI t b = c := by
    have := Int.mul_ediv_cancel_left c (show gI t b ≠ 0 by omega)
    rw [← e1] at this
    exact this
  have q2 : b / gI t b = d := by
    have := Int.mul_ediv_cancel_left d (show gI t b ≠ 0 by omega)
    rw [← e2] at this
    exact this
  have q3 : -t / gI t b = -c := by
    have e : -t = gI t b * (-c) := by rw [Int.mul_neg, ← e1]
    rw [e, Int.mul_ediv_cancel_left _ (by omega)]
  have q4 : -b / gI t b = -d := by
    have e : -b = gI t b * (-d) := by rw [Int.mul_neg, ← e2]
    rw [e, Int.mul_ediv_cancel_left _ (by omega)]
  have cd : gI c d = 1 := by
    have h1 : gI t b = gI t b * gI c d := by
      have z : Int.gcd t b = Int.gcd (gI t b * c) (gI t b * d) := by rw [← e1, ← e2]
      have z2 : Int.gcd (gI t b * c) (gI t b * d) = (gI t b).natAbs * Int.gcd c d := Int.gcd_mul_left ..
      have z3 : gI t b = ((gI t b).natAbs : Int) := by omega
      show (Int.gcd t b : Int) = gI t b * (Int.gcd c d : Int)
      rw [z, z2, Int.natCast_mul, ← z3]
    have h2 : gI t b * 1 = gI t b * gI c d := by rw [Int.mul_one]; exact h1
    exact (Int.eq_of_mul_eq_mul_left (by omega) h2).symm
  unfold redQ
  split
  · show gI (-t / gI t b) (-b / gI t b) = 1
    rw [q3, q4]
    unfold gI at cd ⊢
    rw [Int.neg_gcd, Int.gcd_neg]
    exact cd
  · show gI (t / gI t b) (b / gI t b) = 1
    rw [q1, q2]
    exact cd
/-- what is in least terms stays -/
theorem redQ_self {t b : Int} (hb : 0 < b) (h : gI t b = 1) : redQ t b = (t, b) := by
  unfold redQ
  rw [if_neg (by omega), h, Int.ediv_one, Int.ediv_one]
theorem redQ_iff {t b : Int} (hb : 0 < b) : redQ t b = (t, b) ↔ gI t b = 1 := by
  refine ⟨fun h => ?_, redQ_self hb⟩
  have := redQ_cop (t := t) (show b ≠ 0 by omega)
  rw [h] at this
  exact this
end K

/-! ## part K00A -/
namespace K
open PySem PySem.Spec PyProof.Rows L2 Y
/-! the walk: one step a construct -/
local macro_rules | `(tactic| walk_at "v") => `(tactic| first
  | with_reducible assumption
  | exact ⟨by with_reducible assumption, by (first | exact Or.inl rfl | exact Or.inr (Or.inl rfl) | exact Or.inr (Or.inr rfl)), by with_reducible assumption⟩)
local macro_rules | `(tactic| walk_at "l") => `(tactic| first
  | with_reducible assumption
  | exact ⟨by with_reducible assumption, by (first | exact Or.inl rfl | exact Or.inr rfl), by (first | exact Or.inl rfl | exact Or.inr rfl)⟩)
local macro_rules | `(tactic| walk_at "b") => `(tactic| first
  | with_reducible assumption
  | exact ⟨rfl, by with_reducible assumption⟩)
local macro_rules | `(tactic| walk_at "g") => `(tactic| first
  | with_reducible assumption
  | exact ⟨rfl, by decide⟩)
/-- the scope of a context told -/
local macro_rules | `(tactic| walk_at "sw") => `(tactic| first
  | (intro _ _; rfl)
  | (intro env h; cases env; cases h; rfl))
local macro_rules | `(tactic| walk_at "ty") => `(tactic| with_reducible first | exact ty_int | exact ty_bool | exact ty_str | exact ty_list | exact ty_tuple)
local macro_rules | `(tactic| walk_at "s1") => `(tactic| first
  | (with_reducible refine' dss_nil ?_)
  | (with_reducible refine' dss_cons ?_)
  | (with_reducible refine' ds_ret ?_)
  | (with_reducible refine' ds_retN ?_)
  | (with_reducible refine' ds_if ?_)
  | (with_reducible refine' ds_pass ?_)
  | ((with_reducible refine' ds_set ?l ?s ?_); (case l => walk_at "l"); (case s => walk_at "sw"))
  | ((with_reducible refine' ds_par ?i ?j ?n ?lx ?ly ?w ?_); (case i => walk_at "l"); (case j => walk_at "l"); (case n => decide); (case lx => rfl); (case ly => rfl); (case w => walk_at "sw"))
  | ((with_reducible refine' ds_par3 ?i ?j ?k ?n ?n2 ?n3 ?lx ?ly ?lz ?w ?_); (case i => walk_at "l"); (case j => walk_at "l"); (case k => walk_at "l"); (case n => decide); (case n2 => decide); (case n3 => decide); (case lx => rfl); (case ly => rfl); (case lz => rfl); (case w => walk_at "sw"))
  | ((with_reducible refine' ds_setitem ?v ?s ?w ?q1 ?q2 ?_); (case v => walk_at "v"); (case s => walk_at "sw"); (case w => walk_at "sw"); (case q1 => exact fun _ _ => rfl); (case q2 => exact fun _ _ => rfl))
  | ((with_reducible refine' ds_asg ?s ?w ?q1 ?_); (case s => walk_at "sw"); (case w => walk_at "sw"); (case q1 => exact fun _ _ => rfl))
  | ((with_reducible refine' ds_expr ?s ?_); (case s => walk_at "sw"))
  | ((with_reducible refine' ds_for ?q1 ?_); (case q1 => exact fun _ _ => rfl)))
local macro_rules | `(tactic| walk_at "i1") => `(tactic| first
  | ((with_reducible refine' di_varL ?v ?h ?_); (case v => walk_at "v"); (case h => rfl))
  | ((with_reducible refine' di_varT ?v ?h ?_); (case v => walk_at "v"); (case h => rfl))
  | ((with_reducible refine' di_rng1 ?b ?q1 ?_); (case b => walk_at "b"); (case q1 => exact fun _ _ => rfl))
  | ((with_reducible refine' di_rng2 ?b ?q1 ?q2 ?_); (case b => walk_at "b"); (case q1 => exact fun _ _ => rfl); (case q2 => exact fun _ _ => rfl))
  | ((with_reducible refine' di_enum ?b ?q1 ?_); (case b => walk_at "b"); (case q1 => exact fun _ _ => rfl))
  | ((with_reducible refine' di_zip ?b ?q1 ?q2 ?_); (case b => walk_at "b"); (case q1 => exact fun _ _ => rfl); (case q2 => exact fun _ _ => rfl))
  | (with_reducible refine' di_tup (de_tup ?_)))
/-- targets -/
local macro_rules | `(tactic| walk_at "g1") => `(tactic| first
  | ((with_reducible refine' dg_name ?l ?V ?_); (case l => walk_at "l"); (case V => first | trivial | decide | simp))
  | ((with_reducible refine' dg_tup ?n ?s ?hl ?_); (case s => first | with_reducible assumption | exact .inl rfl | exact .inr rfl); (case hl => rfl); (case n => exact fun _ => ⟨rfl, rfl⟩))
  | ((with_reducible refine' dgs_cons ?q1 ?_); (case q1 => exact fun _ _ => rfl))
  | (with_reducible refine' dgs_nil ?_))
local macro_rules | `(tactic| walk_at "e1") => `(tactic| first
  | ((with_reducible refine' de_var ?v ?h ?_); (case v => walk_at "v"); (case h => rfl))
  | (with_reducible refine' de_int ?_)
  | (with_reducible refine' de_bl ?_)
  | (with_reducible refine' de_str ?_)
  | (with_reducible refine' de_non ?_)
  | ((with_reducible refine' de_ixO ?v ?q1 ?h ?_); (case v => walk_at "v"); (case h => rfl); (case q1 => exact fun _ _ => rfl))
  | ((with_reducible refine' de_ix ?q1 ?_); (case q1 => exact fun _ _ => rfl))
  | (with_reducible refine' de_add ?_)
  | (with_reducible refine' de_sub ?_)
  | (with_reducible refine' de_mul ?_)
  | (with_reducible refine' de_mod ?_)
  | (with_reducible refine' de_fdiv ?_)
  | (with_reducible refine' de_pow ?_)
  | (with_reducible refine' de_neg ?_)
  | (with_reducible refine' de_eq ?_)
  | (with_reducible refine' de_ne ?_)
  | (with_reducible refine' de_ltI ?_)
  | (with_reducible refine' de_leI ?_)
  | (with_reducible refine' de_gtI ?_)
  | (with_reducible refine' de_geI ?_)
  | (with_reducible refine' de_isN ?_)
  | (with_reducible refine' de_notN ?_)
  | (with_reducible refine' de_and ?_)
  | (with_reducible refine' de_or ?_)
  | (with_reducible refine' de_one ?_)
  | (with_reducible refine' de_not ?_)
  | (with_reducible refine' de_ifE ?_)
  | (with_reducible refine' de_tup ?_)
  | (with_reducible refine' de_dn (dn_lst ?_))
  | ((with_reducible refine' de_glob ?g ?_); (case g => with_reducible assumption))
  | ((with_reducible refine' de_lenO ?b ?v ?h ?_); (case b => walk_at "b"); (case v => walk_at "v"); (case h => rfl))
  | ((with_reducible refine' de_len ?b ?q1 ?_); (case b => walk_at "b"); (case q1 => exact fun _ _ => rfl))
  | ((with_reducible refine' de_abs ?b ?q1 ?_); (case b => walk_at "b"); (case q1 => exact fun _ _ => rfl))
  | ((with_reducible refine' de_intc ?b ?q1 ?_); (case b => walk_at "b"); (case q1 => exact fun _ _ => rfl))
  | ((with_reducible refine' de_min2 ?b ?q1 ?q2 ?_); (case b => walk_at "b"); (case q1 => exact fun _ _ => rfl); (case q2 => exact fun _ _ => rfl))
  | ((with_reducible refine' de_tupc ?b ?q1 ?_); (case b => walk_at "b"); (case q1 => exact fun _ _ => rfl))
  | ((with_reducible refine' de_dn (dn_listc ?b ?q1 ?_)); (case b => walk_at "b"); (case q1 => exact fun _ _ => rfl))
  | ((with_reducible refine' de_all ?b ?q1 ?_); (case b => walk_at "b"); (case q1 => exact fun _ _ => rfl))
  | ((with_reducible refine' de_any ?b ?q1 ?_); (case b => walk_at "b"); (case q1 => exact fun _ _ => rfl))
  | ((with_reducible refine' de_isi ?b ?t ?ty ?q1 ?_); (case b => walk_at "b"); (case t => walk_at "b"); (case ty => walk_at "ty"); (case q1 => exact fun _ _ => rfl))
  | ((with_reducible refine' de_isi2 ?b ?t ?t2 ?ty ?ty2 ?q1 ?_); (case b => walk_at "b"); (case t => walk_at "b"); (case t2 => walk_at "b"); (case ty => walk_at "ty"); (case ty2 => walk_at "ty"); (case q1 => exact fun _ _ => rfl))
  | ((with_reducible refine' de_callD ?f ?g ?q1 ?q2 ?_); (case f => with_reducible assumption); (case g => walk_at "g"); (case q1 => exact fun _ _ => rfl); (case q2 => exact fun _ _ => rfl))
  | ((with_reducible refine' de_callOw ?f ?g ?v ?q1 ?h ?_); (case f => with_reducible assumption); (case g => walk_at "g"); (case v => walk_at "v"); (case h => rfl); (case q1 => exact fun _ _ => rfl))
  | (with_reducible refine' da_nil ?_)
  | ((with_reducible refine' da_cons ?q1 ?_); (case q1 => exact fun _ _ => rfl))
  | (with_reducible refine' dts_nil ?_)
  | (with_reducible refine' dts_one ?_))
local macro_rules | `(tactic| walk_at "t1") => `(tactic| first
  | (with_reducible refine' dt_eq ?_)
  | (with_reducible refine' dt_ne ?_)
  | (with_reducible refine' dt_ltI ?_)
  | (with_reducible refine' dt_leI ?_)
  | (with_reducible refine' dt_gtI ?_)
  | (with_reducible refine' dt_geI ?_)
  | (with_reducible refine' dt_isN ?_)
  | (with_reducible refine' dt_notN ?_)
  | (with_reducible refine' dt_not ?_)
  | (with_reducible refine' dt_w (dw_and ?_))
  | (with_reducible refine' dt_w (dw_or ?_))
  | (with_reducible refine' dw_and ?_)
  | (with_reducible refine' dw_or ?_)
  | (with_reducible refine' dw_and1 ?_)
  | (with_reducible refine' dw_or1 ?_)
  | ((with_reducible refine' dt_val ?q1 ?_); (case q1 => exact fun _ _ => rfl)))
/-- what a step asks of data -/
local macro_rules | `(tactic| walk_at "d1") => `(tactic| first
  | ((with_reducible refine' And.intro (show SeqAt.shaped _ = true from ?_) ?_); (focus rfl))
  | (with_reducible refine' if_t rfl ?_)
  | (with_reducible refine' if_f rfl ?_)
  | (with_reducible refine' Exists.intro _ (Exists.intro _ (And.intro rfl (And.intro rfl ?_))))
  | (with_reducible refine' Exists.intro _ (And.intro rfl ?_))
  | (with_reducible refine' Exists.intro _ (Exists.intro _ (And.intro rfl ?_)))
  | ((with_reducible refine' atD_of ?h ?i ?_); (case h => first | with_reducible assumption | exact .inl rfl | exact .inr rfl); (case i => first | rfl | exact atI_zero))
  | ((with_reducible refine' Exists.intro _ (And.intro (lenD_of ?h) ?_)); (case h => first | with_reducible assumption | exact .inl rfl | exact .inr rfl))
  | ((with_reducible refine' And.intro (show List.length _ ≤ sizeLine from ?h) ?_); (case h => exact Nat.le_of_ble_eq_true rfl))
  | (with_reducible refine' do_none ?_)
  | (with_reducible refine' do_some ?_)
  | (with_reducible refine' Exists.intro _ (And.intro seqD_l ?_))
  | (with_reducible refine' Exists.intro _ (And.intro seqD_t ?_))
  | ((with_reducible refine' Exists.intro _ (And.intro (seqD_h ?h) ?_)); (case h => with_reducible assumption))
  | ((with_reducible refine' And.intro (isO_of ?h) ?_); (case h => rfl))
  | ((with_reducible refine' atO_of ?h ?i ?_); (case h => rfl); (case i => first | rfl | exact atI_zero))
  | ((with_reducible refine' setO_of ?h ?i ?_); (case h => rfl); (case i => rfl))
  | ((with_reducible refine' And.intro (show TrOk _ from ?_) ?_); focus exact trivial))
local macro_rules | `(tactic| walk_at "y") => `(tactic| first | walk_at "e1" | walk_at "d1" | walk_at "s1" | walk_at "t1" | walk_at "g1" | walk_at "i1")
local macro_rules | `(tactic| walk_at "n") => `(tactic| first | walk_at "e1" | walk_at "d1" | walk_at "t1" | walk_at "g1" | walk_at "i1")
local macro_rules | `(tactic| walk_at "nn") => `(tactic| repeat (walk_at "n"))
local macro_rules | `(tactic| walk_at "yy") => `(tactic| repeat (walk_at "y"))
def frT (q : Int × Int) : PyData := .tuple [.int q.1, .int q.2]
abbrev IsFr (x : PyData) (q : Int × Int) : Prop := SeqD x [.int q.1, .int q.2]
theorem isFr_T (q : Int × Int) : IsFr (frT q) q := .inr rfl
/-- two FRACTIONS of small bottoms -/
def Sm2 (p q : Int × Int) : Prop := 0 < p.2 ∧ 0 < q.2 ∧ p.2 * q.2 < 2 ^ 62
theorem Sm2.l {p q : Int × Int} (h : Sm2 p q) : p.2 < 2 ^ 62 := by
  have h1 : p.2 * 1 ≤ p.2 * q.2 := Int.mul_le_mul_of_nonneg_left (by have := h.2.1; omega) (by have := h.1; omega)
  have := h.2.2
  omega
theorem Sm2.r {p q : Int × Int} (h : Sm2 p q) : q.2 < 2 ^ 62 := by
  have h1 : 1 * q.2 ≤ p.2 * q.2 := Int.mul_le_mul_of_nonneg_right (by have := h.1; omega) (by have := h.2.1; omega)
  have := h.2.2
  omega
theorem Sm2.pos {p q : Int × Int} (h : Sm2 p q) : 0 < p.2 * q.2 := Int.mul_pos h.1 h.2.1
def plusQ (p q : Int × Int) : Int × Int := redQ (p.1 * q.2 + q.1 * p.2) (p.2 * q.2)
def lessQ (p q : Int × Int) : Int × Int := redQ (p.1 * q.2 - q.1 * p.2) (p.2 * q.2)
def timesQ (p q : Int × Int) : Int × Int := redQ (p.1 * q.1) (p.2 * q.2)
def overQ (p q : Int × Int) : Int × Int := redQ (p.1 * q.2) (p.2 * q.1)
abbrev PP := (Int × Int) × (Int × Int)
abbrev P_2 (c : Int × Int → Int × Int → Prop) : PP → List PyData → Prop := fun g ds => ∃ x y, ds = [x, y] ∧ IsFr x g.1 ∧ IsFr y g.2 ∧ c g.1 g.2
abbrev Q_2 (f : Int × Int → Int × Int → Int × Int) : PP → PyData → Prop := fun g d => d = frT (f g.1 g.2)
section
variable {M : Mo} {k : Nat} (B : T.MB M)
include B
/-! ### the greatest divisor -/
abbrev P_cd : Int × Int → List PyData → Prop := fun g ds => ds = [.int g.1, .int g.2]
abbrev Q_cd : Int × Int → PyData → Prop := fun g d => d = .int (gI g.1 g.2)
theorem b_cd : ∀ W g ds, P_cd g ds → DSs (T.common_divisor.Γ M k W nowx) (defBody T.common_divisor.st) (ds.map .va ++ List.replicate (T.common_divisor.N.length - T.common_divisor.ps.length) .un) { nx := fun _ => Q_cd g .none, rt := fun d _ => Q_cd g d } := by
  rintro W ⟨t, b⟩ _ rfl
  cases (T.common_divisor.fa B : T.common_divisor.Fa M k W nowx)
  show DSs _ _ [.va (.int t), .va (.int b)] _
  refine dss_cons ?_
  refine ds_while (fun m ρ => ∃ x y : Int, ρ = [.va (.int x), .va (.int y)] ∧ gI x y = gI t b ∧ m = y.natAbs) b.natAbs ⟨t, b, rfl, rfl, rfl⟩ ?_
  rintro m _ ⟨x, y, rfl, hg, rfl⟩
  walk_at "yy"
  by_cases h : y = 0
  · subst h
    refine if_f (by simp [PyData.eqv]) ?_
    walk_at "yy"
    show _ = _
    rw [← hg, gI_zero]
  · refine if_t (by simp [PyData.eqv, h]) ?_
    refine dss_cons ?_
    walk_at "yy"
    refine ⟨h, ?_⟩
    walk_at "yy"
    exact ⟨_, fmod_lt h, _, _, rfl, by rw [gI_fmod h]; exact hg, rfl⟩

theorem mk_cd (h : DefAt M "common_divisor" T.common_divisor.st T.common_divisor.ps) : FnM M (k + 1) "common_divisor" (SpD P_cd Q_cd) := h.fnD T.common_divisor.sc (fun g ds e => by rw [e] <;> rfl) (b_cd B)

/-! ### is it a number, a tuple of so many -/
def numD : PyData → Bool
  | .int _ => true
  | _ => false
theorem b_num : ∀ W g ds, ds = [g] → DSs (T.is_number.Γ M k W nowx) (defBody T.is_number.st) (ds.map .va ++ List.replicate (T.is_number.N.length - T.is_number.ps.length) .un) { nx := fun _ => .none = PyData.bool (numD g), rt := fun d _ => d = .bool (numD g) } := by
  rintro W x _ rfl
  cases (T.is_number.fa B : T.is_number.Fa M k W nowx)
  show DSs _ _ [.va x] _
  refine dss_cons ?_
  walk_at "yy"
  cases x with
  | int i =>
    refine if_t rfl ?_
    walk_at "yy"
    rw [isTy_bool]
    rfl
  | bool i =>
    refine if_t rfl ?_
    walk_at "yy"
    rw [isTy_bool]
    rfl
  | _ =>
    refine if_f rfl ?_
    rw [isTy_int]
    rfl
theorem mk_num (h : DefAt M "is_number" T.is_number.st T.is_number.ps) : FnM M (k + 1) "is_number" (SpD (fun g ds => ds = [g]) fun g d => d = .bool (numD g)) := h.fnD T.is_number.sc (fun g ds e => by rw [e] <;> rfl) (b_num B)
def tupD (n : Nat) : PyData → Bool
  | .tuple xs => xs.length == n
  | _ => false
theorem b_tupof : ∀ W (g : PyData × Nat) ds, ds = [g.1, .int g.2] → DSs (T.is_tuple_of.Γ M k W nowx) (defBody T.is_tuple_of.st) (ds.map .va ++ List.replicate (T.is_tuple_of.N.length - T.is_tuple_of.ps.length) .un) { nx := fun _ => .none = PyData.bool (tupD g.2 g.1), rt := fun d _ => d = .bool (tupD g.2 g.1) } := by
  rintro W ⟨x, n⟩ _ rfl
  cases (T.is_tuple_of.fa B : T.is_tuple_of.Fa M k W nowx)
  show DSs _ _ [.va x, .va (.int n)] _
  refine dss_cons ?_
  walk_at "yy"
  cases x with
  | tuple xs =>
    refine if_t rfl ?_
    walk_at "yy"
    show PyData.bool _ = PyData.bool _
    congr 1
    show ((xs.length : Int) == (n : Int)) = (xs.length == n)
    rw [Bool.eq_iff_iff, beq_iff_eq, beq_iff_eq]
    omega
  | _ =>
    refine if_f rfl ?_
    rw [isTy_tuple]
    rfl
theorem mk_tupof (h : DefAt M "is_tuple_of" T.is_tuple_of.st T.is_tuple_of.ps) : FnM M (k + 1) "is_tuple_of" (SpD (fun (g : PyData × Nat) ds => ds = [g.1, .int g.2]) fun g d => d = .bool (tupD g.2 g.1)) := h.fnD T.is_tuple_of.sc (fun g ds e => by rw [e] <;> rfl) (b_tupof B)

/-! ### the FRACTION of two numbers -/
abbrev P_fr : Int × Int → List PyData → Prop := fun g ds => ds = [.int g.1, .int g.2] ∧ g.2.natAbs < 2 ^ 64
abbrev Q_fr : Int × Int → PyData → Prop := fun g d => g.2 ≠ 0 ∧ d = frT (redQ g.1 g.2)
abbrev X_fr (C : Addr) : Int × Int → Value → Prop := fun g cls => g.2 = 0 ∧ cls = .ref C
theorem b_fr {C : Addr} (hC : ExAt M "Unfit" C) (hcd : FnM M k "common_divisor" (SpD P_cd Q_cd)) : ∀ W wx g ds, P_fr g ds → (∀ ρ cls, X_fr C g cls → XOk (T.fraction.Γ M k W wx) ρ cls) →
    DSs (T.fraction.Γ M k W wx) (defBody T.fraction.st) (ds.map .va ++ List.replicate (T.fraction.N.length - T.fraction.ps.length) .un) { nx := fun _ => Q_fr g .none, rt := fun d _ => Q_fr g d } := by
  rintro W wx ⟨t, b⟩ _ ⟨rfl, hb⟩ hx
  cases (T.fraction.fa B : T.fraction.Fa M k W wx)
  show DSs _ _ [.va (.int t), .va (.int b), .un] _
  refine dss_cons ?_
  walk_at "yy"
  by_cases h : b = 0
  · subst h
    refine if_t (by simp [PyData.eqv]) ?_
    refine dss_cons ?_
    exact ds_raise hC (by walk_at "g") (hx _ _ ⟨rfl, rfl⟩)
  · refine if_f (by simp [PyData.eqv, h]) ?_
    walk_at "yy"
    refine ⟨(t, b), rfl, ?_⟩
    intro d hd
    obtain rfl : d = .int (gI t b) := hd
    walk_at "yy"
    have g := gI_pos (a := t) h
    have gle : gI t b ≤ (b.natAbs : Int) := Int.le_of_dvd (by omega) (Int.dvd_natAbs.mpr (gI_dr t b))
    refine if_c (fun hb => ?_) (fun hb => ?_)
    · have hb := of_decide_eq_true hb
      walk_at "yy"
      refine ⟨divOk (by omega) (by omega) (by omega), ?_⟩
      walk_at "yy"
      refine ⟨divOk (by omega) (by omega) (by omega), ?_⟩
      walk_at "yy"
      refine ⟨h, ?_⟩
      rw [fdiv_pos g, fdiv_pos g]
      unfold redQ
      rw [if_neg (by omega)]
      rfl
    · have hb := of_decide_eq_false hb
      walk_at "yy"
      refine ⟨divOk (by omega) (by omega) (by omega), ?_⟩
      walk_at "yy"
      refine ⟨divOk (by omega) (by omega) (by omega), ?_⟩
      walk_at "yy"
      refine ⟨h, ?_⟩
      rw [fdiv_neg g (gI_dl t b), fdiv_neg g (gI_dr t b)]
      unfold redQ
      rw [if_pos (by omega)]
      rfl
theorem mk_fr {C : Addr} (hC : ExAt M "Unfit" C) (hcd : FnM M k "common_divisor" (SpD P_cd Q_cd)) (h : DefAt M "fraction" T.fraction.st T.fraction.ps) : FnX M (k + 1) "fraction" (SpD P_fr Q_fr) (X_fr C) := h.fnX T.fraction.sc (fun g ds e => by rw [e.1] <;> rfl) (b_fr B hC hcd)

/-! ### sums, products, quotients -/
abbrev F_fr (M : Mo) (k : Nat) : Prop := FnM M k "fraction" (SpD (fun (g : Int × Int) ds => P_fr g ds ∧ g.2 ≠ 0) Q_fr)
theorem fr_no {C : Addr} (h : FnX M k "fraction" (SpD P_fr Q_fr) (X_fr C)) : F_fr M k := h.noexD.impD id (fun g ds ⟨p, q⟩ => ⟨p, fun cls z => q z.1⟩) (fun _ _ _ _ q => q)
theorem b_plus (hf : F_fr M k) : ∀ W g ds, P_2 Sm2 g ds → DSs (T.plus.Γ M k W nowx) (defBody T.plus.st) (ds.map .va ++ List.replicate (T.plus.N.length - T.plus.ps.length) .un) { nx := fun _ => Q_2 plusQ g .none, rt := fun d _ => Q_2 plusQ g d } := by
  rintro W ⟨⟨a, b⟩, ⟨c, d⟩⟩ _ ⟨x, y, rfl, hx, hy, h⟩
  cases (T.plus.fa B : T.plus.Fa M k W nowx)
  show DSs _ _ [.va x, .va y] _
  have h1 : b < 2 ^ 62 := h.l
  have h2 : d < 2 ^ 62 := h.r
  have h3 : 0 < b := h.1
  have h4 : 0 < d := h.2.1
  have h5 : b * d < 2 ^ 62 := h.2.2
  have h6 : 0 < b * d := h.pos
  have hx : SeqD x [.int a, .int b] := hx
  have hy : SeqD y [.int c, .int d] := hy
  refine dss_cons ?_
  walk_at "yy"
  refine ⟨mulR (by omega) (by omega), ?_⟩
  walk_at "yy"
  refine ⟨mulR (by omega) (by omega), ?_⟩
  walk_at "yy"
  refine ⟨mulR (by omega) (by omega), ?_⟩
  walk_at "yy"
  refine ⟨(a * d + c * b, b * d), ⟨⟨rfl, by show (b * d).natAbs < 2 ^ 64; omega⟩, by show b * d ≠ 0; omega⟩, fun e he => ?_⟩
  exact he.2
theorem mk_plus (hf : F_fr M k) (h : DefAt M "plus" T.plus.st T.plus.ps) : FnM M (k + 1) "plus" (SpD (P_2 Sm2) (Q_2 plusQ)) := h.fnD T.plus.sc (fun g ds ⟨x, y, e, _⟩ => by rw [e] <;> rfl) (b_plus B hf)
theorem b_less (hf : F_fr M k) : ∀ W g ds, P_2 Sm2 g ds → DSs (T.less.Γ M k W nowx) (defBody T.less.st) (ds.map .va ++ List.replicate (T.less.N.length - T.less.ps.length) .un) { nx := fun _ => Q_2 lessQ g .none, rt := fun d _ => Q_2 lessQ g d } := by
  rintro W ⟨⟨a, b⟩, ⟨c, d⟩⟩ _ ⟨x, y, rfl, hx, hy, h⟩
  cases (T.less.fa B : T.less.Fa M k W nowx)
  show DSs _ _ [.va x, .va y] _
  have h1 : b < 2 ^ 62 := h.l
  have h2 : d < 2 ^ 62 := h.r
  have h3 : 0 < b := h.1
  have h4 : 0 < d := h.2.1
  have h5 : b * d < 2 ^ 62 := h.2.2
  have h6 : 0 < b * d := h.pos
  have hx : SeqD x [.int a, .int b] := hx
  have hy : SeqD y [.int c, .int d] := hy
  refine dss_cons ?_
  walk_at "yy"
  refine ⟨mulR (by omega) (by omega), ?_⟩
  walk_at "yy"
  refine ⟨mulR (by omega) (by omega), ?_⟩
  walk_at "yy"
  refine ⟨mulR (by omega) (by omega), ?_⟩
  walk_at "yy"
  refine ⟨(a * d - c * b, b * d), ⟨⟨rfl, by show (b * d).natAbs < 2 ^ 64; omega⟩, by show b * d ≠ 0; omega⟩, fun e he => ?_⟩
  exact he.2
theorem mk_less (hf : F_fr M k) (h : DefAt M "less" T.less.st T.less.ps) : FnM M (k + 1) "less" (SpD (P_2 Sm2) (Q_2 lessQ)) := h.fnD T.less.sc (fun g ds ⟨x, y, e, _⟩ => by rw [e] <;> rfl) (b_less B hf)
/-- .. and of small tops, one of them -/
def SmT (p q : Int × Int) : Prop := Sm2 p q ∧ (p.1.natAbs < 2 ^ 62 ∨ q.1.natAbs < 2 ^ 62)
theorem b_times (hf : F_fr M k) : ∀ W g ds, P_2 SmT g ds → DSs (T.times.Γ M k W nowx) (defBody T.times.st) (ds.map .va ++ List.replicate (T.times.N.length - T.times.ps.length) .un) { nx := fun _ => Q_2 timesQ g .none, rt := fun d _ => Q_2 timesQ g d } := by
  rintro W ⟨⟨a, b⟩, ⟨c, d⟩⟩ _ ⟨x, y, rfl, hx, hy, h, ht⟩
  cases (T.times.fa B : T.times.Fa M k W nowx)
  show DSs _ _ [.va x, .va y] _
  have h1 : b < 2 ^ 62 := h.l
  have h2 : d < 2 ^ 62 := h.r
  have h3 : 0 < b := h.1
  have h4 : 0 < d := h.2.1
  have h5 : b * d < 2 ^ 62 := h.2.2
  have h6 : 0 < b * d := h.pos
  have hx : SeqD x [.int a, .int b] := hx
  have hy : SeqD y [.int c, .int d] := hy
  have ht : a.natAbs < 2 ^ 62 ∨ c.natAbs < 2 ^ 62 := ht
  refine dss_cons ?_
  walk_at "yy"
  refine ⟨ht.elim (fun z => mulL (by omega) (by omega)) (fun z => mulR (by omega) (by omega)), ?_⟩
  walk_at "yy"
  refine ⟨mulR (by omega) (by omega), ?_⟩
  walk_at "yy"
  refine ⟨(a * c, b * d), ⟨⟨rfl, by show (b * d).natAbs < 2 ^ 64; omega⟩, by show b * d ≠ 0; omega⟩, fun e he => ?_⟩
  exact he.2
theorem mk_times (hf : F_fr M k) (h : DefAt M "times" T.times.st T.times.ps) : FnM M (k + 1) "times" (SpD (P_2 SmT) (Q_2 timesQ)) := h.fnD T.times.sc (fun g ds ⟨x, y, e, _⟩ => by rw [e] <;> rfl) (b_times B hf)
/-- what over asks -/
def SmO (p q : Int × Int) : Prop := 0 < p.2 ∧ p.2 < 2 ^ 62 ∧ 0 < q.2 ∧ q.2 < 2 ^ 62 ∧ (p.2 * q.1).natAbs < 2 ^ 64
abbrev X_ov (C : Addr) : PP → Value → Prop := fun g cls => g.2.1 = 0 ∧ cls = .ref C
abbrev Q_ov : PP → PyData → Prop := fun g d => g.2.1 ≠ 0 ∧ d = frT (overQ g.1 g.2)
theorem b_over {C : Addr} (hf : FnX M k "fraction" (SpD P_fr Q_fr) (X_fr C)) : ∀ W wx g ds, P_2 SmO g ds → (∀ ρ cls, X_ov C g cls → XOk (T.over.Γ M k W wx) ρ cls) → DSs (T.over.Γ M k W wx) (defBody T.over.st) (ds.map .va ++ List.replicate (T.over.N.length - T.over.ps.length) .un) { nx := fun _ => Q_ov g .none, rt := fun d _ => Q_ov g d } := by
  rintro W wx ⟨⟨a, b⟩, ⟨c, d⟩⟩ _ ⟨x, y, rfl, hx, hy, h⟩ hX
  cases (T.over.fa B : T.over.Fa M k W wx)
  show DSs _ _ [.va x, .va y] _
  have h1 : b < 2 ^ 62 := h.2.1
  have h2 : d < 2 ^ 62 := h.2.2.2.1
  have h3 : 0 < b := h.1
  have h4 : 0 < d := h.2.2.1
  have h5 : (b * c).natAbs < 2 ^ 64 := h.2.2.2.2
  have hx : SeqD x [.int a, .int b] := hx
  have hy : SeqD y [.int c, .int d] := hy
  refine dss_cons ?_
  refine ds_ret ?_
  refine de_callX hf (by walk_at "g") (fun _ _ => rfl) (fun _ _ => rfl) ?_
  walk_at "yy"
  refine ⟨mulR (by omega) (by omega), ?_⟩
  walk_at "yy"
  refine ⟨mulL (by omega) (by omega), ?_⟩
  walk_at "yy"
  refine ⟨(a * d, b * c), ⟨rfl, h5⟩, fun e he => ?_, fun cls hc => ?_⟩
  · refine ⟨fun z => he.1 ?_, he.2⟩
    have z : c = 0 := z
    show b * c = 0
    rw [z, Int.mul_zero]
  · refine hX _ _ ⟨?_, hc.2⟩
    have z : b * c = 0 := hc.1
    rcases Int.mul_eq_zero.mp z with z | z
    · omega
    · exact z
theorem mk_over {C : Addr} (hf : FnX M k "fraction" (SpD P_fr Q_fr) (X_fr C)) (h : DefAt M "over" T.over.st T.over.ps) : FnX M (k + 1) "over" (SpD (P_2 SmO) Q_ov) (X_ov C) := h.fnX T.over.sc (fun g ds ⟨x, y, e, _⟩ => by rw [e] <;> rfl) (b_over B hf)
/-- at_most, by crosswise products -/
abbrev Q_le : PP → PyData → Prop := fun g d => d = .bool (decide (g.1.1 * g.2.2 ≤ g.2.1 * g.1.2))
def SmB (p q : Int × Int) : Prop := 0 < p.2 ∧ p.2 < 2 ^ 62 ∧ 0 < q.2 ∧ q.2 < 2 ^ 62
theorem b_at_most : ∀ W g ds, P_2 SmB g ds → DSs (T.at_most.Γ M k W nowx) (defBody T.at_most.st) (ds.map .va ++ List.replicate (T.at_most.N.length - T.at_most.ps.length) .un) { nx := fun _ => Q_le g .none, rt := fun d _ => Q_le g d } := by
  rintro W ⟨⟨a, b⟩, ⟨c, d⟩⟩ _ ⟨x, y, rfl, hx, hy, h⟩
  cases (T.at_most.fa B : T.at_most.Fa M k W nowx)
  show DSs _ _ [.va x, .va y] _
  have h1 : b < 2 ^ 62 := h.2.1
  have h2 : d < 2 ^ 62 := h.2.2.2
  have h3 : 0 < b := h.1
  have h4 : 0 < d := h.2.2.1
  have hx : SeqD x [.int a, .int b] := hx
  have hy : SeqD y [.int c, .int d] := hy
  refine dss_cons ?_
  walk_at "yy"
  refine ⟨mulR (by omega) (by omega), ?_⟩
  walk_at "yy"
  refine ⟨mulR (by omega) (by omega), ?_⟩
  walk_at "yy"
  rfl
theorem mk_at_most (h : DefAt M "at_most" T.at_most.st T.at_most.ps) : FnM M (k + 1) "at_most" (SpD (P_2 SmB) Q_le) := h.fnD T.at_most.sc (fun g ds ⟨x, y, e, _⟩ => by rw [e] <;> rfl) (b_at_most B)
end

/-! ## part K00B -/
open PySem PySem.Spec PyProof.Rows L2 Y
/-! ### several FRACTIONS -/
def AllFr (xs : List PyData) (qs : List (Int × Int)) : Prop := xs.length = qs.length ∧ ∀ (i : Nat) (x : PyData), xs[i]? = some x → ∃ q, qs[i]? = some q ∧ IsFr x q
theorem fold_more {α β : Type} {f : β → α → β} {b : β} {l : List α} {i : Nat} {a : α} (h : l[i]? = some a) : (l.take (i + 1)).foldl f b = f ((l.take i).foldl f b) a := by
  rw [List.take_succ, h, List.foldl_append]
  rfl
def minQ (p q : Int × Int) : Int × Int := if p.1 * q.2 ≤ q.1 * p.2 then p else q
def maxQ (p q : Int × Int) : Int × Int := if q.1 * p.2 ≤ p.1 * q.2 then p else q
def AllB (n : Int) (qs : List (Int × Int)) : Prop := ∀ q ∈ qs, 0 < q.2 ∧ q.2 ≤ n
theorem minQ_or (p q : Int × Int) : minQ p q = p ∨ minQ p q = q := by
  unfold minQ
  split
  · exact .inl rfl
  · exact .inr rfl
theorem maxQ_or (p q : Int × Int) : maxQ p q = p ∨ maxQ p q = q := by
  unfold maxQ
  split
  · exact .inl rfl
  · exact .inr rfl
theorem foldQ_mem {f : Int × Int → Int × Int → Int × Int} (hf : ∀ p q, f p q = p ∨ f p q = q) : ∀ (qs : List (Int × Int)) (p : Int × Int), qs.foldl f p = p ∨ qs.foldl f p ∈ qs
  | [], p => .inl rfl
  | q :: r, p => by
    rw [List.foldl_cons]
    rcases foldQ_mem hf r (f p q) with h | h
    · rcases hf p q with h2 | h2
      · exact .inl (h.trans h2)
      · exact .inr (by rw [h, h2]; exact List.mem_cons_self)
    · exact .inr (List.mem_cons_of_mem _ h)
abbrev P_ls (n : Int) : List (Int × Int) → List PyData → Prop := fun qs ds => ∃ x xs, ds = [x] ∧ SeqD x xs ∧ AllFr xs qs ∧ AllB n qs ∧ qs ≠ []
theorem allB_take {n : Int} {qs : List (Int × Int)} {f : Int × Int → Int × Int → Int × Int} (hf : ∀ p q, f p q = p ∨ f p q = q) (h : AllB n qs) {q0 : Int × Int} (h0 : q0 ∈ qs) (i : Nat) : 0 < ((qs.take i).foldl f q0).2 ∧ ((qs.take i).foldl f q0).2 ≤ n := by
  rcases foldQ_mem hf (qs.take i) q0 with e | e
  · rw [e]; exact h q0 h0
  · exact h _ (List.mem_of_mem_take e)
section
variable {M : Mo} {k : Nat} (B : T.MB M)
include B
theorem b_least (hm : FnM M k "at_most" (SpD (P_2 SmB) Q_le)) : ∀ W g ds, P_ls 1000000 g ds → DSs (T.least_of.Γ M k W nowx) (defBody T.least_of.st) (ds.map .va ++ List.replicate (T.least_of.N.length - T.least_of.ps.length) .un) { nx := fun _ => PyData.none = frT (g.foldl minQ (g.headD (0, 1))), rt := fun d _ => d = frT (g.foldl minQ (g.headD (0, 1))) } := by
  rintro W qs _ ⟨x, xs, rfl, hx, ⟨hl, hg⟩, hb, hne⟩
  cases (T.least_of.fa B : T.least_of.Fa M k W nowx)
  show DSs _ _ [.va x, .un, .un] _
  obtain ⟨q0, qr, rfl⟩ : ∃ q0 qr, qs = q0 :: qr := by
    cases qs with
    | nil => exact absurd rfl hne
    | cons a b => exact ⟨a, b, rfl⟩
  obtain ⟨x0, xr, rfl⟩ : ∃ x0 xr, xs = x0 :: xr := by
    cases xs with
    | nil => cases hl
    | cons a b => exact ⟨a, b, rfl⟩
  obtain ⟨q0', e0, h0⟩ := hg 0 x0 rfl
  cases e0
  rcases hx with rfl | rfl
  all_goals
    refine dss_cons ?_
    walk_at "yy"
    refine ⟨fun i ρ => ∃ v o, ρ = [.va _, .va v, o] ∧ IsFr v (((q0 :: qr).take i).foldl minQ q0), ⟨x0, .un, rfl, h0⟩, ?_, ?_⟩
    · rintro i d _ hi ⟨v, o, rfl, hv⟩
      obtain ⟨q, hq, hd⟩ := hg i d hi
      walk_at "yy"
      refine ⟨(_, q), ⟨_, _, rfl, hv, hd, ?_⟩, fun e he => ?_⟩
      · have h1 := allB_take minQ_or hb (q0 := q0) List.mem_cons_self i
        have h2 := hb q (List.mem_of_getElem? hq)
        exact ⟨h1.1, Int.lt_of_le_of_lt h1.2 (by decide), h2.1, Int.lt_of_le_of_lt h2.2 (by decide)⟩
      · obtain rfl := he
        walk_at "yy"
        refine if_c (fun hc => ?_) (fun hc => ?_)
        · have hc := of_decide_eq_true hc
          walk_at "yy"
          rw [fold_more hq, minQ, if_pos hc]
          exact hv
        · have hc := of_decide_eq_false hc
          walk_at "yy"
          rw [fold_more hq, minQ, if_neg hc]
          exact hd
    · rintro _ ⟨v, o, rfl, hv⟩
      rw [hl, List.take_length] at hv
      walk_at "yy"
      rfl
theorem mk_least (hm : FnM M k "at_most" (SpD (P_2 SmB) Q_le)) (h : DefAt M "least_of" T.least_of.st T.least_of.ps) : FnM M (k + 1) "least_of" (SpD (P_ls 1000000) fun g d => d = frT (g.foldl minQ (g.headD (0, 1)))) := h.fnD T.least_of.sc (fun g ds ⟨x, xs, e, _⟩ => by rw [e] <;> rfl) (b_least B hm)
theorem b_great (hm : FnM M k "at_most" (SpD (P_2 SmB) Q_le)) : ∀ W g ds, P_ls 1000000 g ds → DSs (T.greatest_of.Γ M k W nowx) (defBody T.greatest_of.st) (ds.map .va ++ List.replicate (T.greatest_of.N.length - T.greatest_of.ps.length) .un) { nx := fun _ => PyData.none = frT (g.foldl maxQ (g.headD (0, 1))), rt := fun d _ => d = frT (g.foldl maxQ (g.headD (0, 1))) } := by
  rintro W qs _ ⟨x, xs, rfl, hx, ⟨hl, hg⟩, hb, hne⟩
  cases (T.greatest_of.fa B : T.greatest_of.Fa M k W nowx)
  show DSs _ _ [.va x, .un, .un] _
  obtain ⟨q0, qr, rfl⟩ : ∃ q0 qr, qs = q0 :: qr := by
    cases qs with
    | nil => exact absurd rfl hne
    | cons a b => exact ⟨a, b, rfl⟩
  obtain ⟨x0, xr, rfl⟩ : ∃ x0 xr, xs = x0 :: xr := by
    cases xs with
    | nil => cases hl
    | cons a b => exact ⟨a, b, rfl⟩
  obtain ⟨q0', e0, h0⟩ := hg 0 x0 rfl
  cases e0
  rcases hx with rfl | rfl
  all_goals
    refine dss_cons ?_
    walk_at "yy"
    refine ⟨fun i ρ => ∃ v o, ρ = [.va _, .va v, o] ∧ IsFr v (((q0 :: qr).take i).foldl maxQ q0), ⟨x0, .un, rfl, h0⟩, ?_, ?_⟩
    · rintro i d _ hi ⟨v, o, rfl, hv⟩
      obtain ⟨q, hq, hd⟩ := hg i d hi
      walk_at "yy"
      refine ⟨(q, _), ⟨_, _, rfl, hd, hv, ?_⟩, fun e he => ?_⟩
      · have h1 := allB_take maxQ_or hb (q0 := q0) List.mem_cons_self i
        have h2 := hb q (List.mem_of_getElem? hq)
        exact ⟨h2.1, Int.lt_of_le_of_lt h2.2 (by decide), h1.1, Int.lt_of_le_of_lt h1.2 (by decide)⟩
      · obtain rfl := he
        walk_at "yy"
        refine if_c (fun hc => ?_) (fun hc => ?_)
        · have hc := of_decide_eq_true hc
          walk_at "yy"
          rw [fold_more hq, maxQ, if_pos hc]
          exact hv
        · have hc := of_decide_eq_false hc
          walk_at "yy"
          rw [fold_more hq, maxQ, if_neg hc]
          exact hd
    · rintro _ ⟨v, o, rfl, hv⟩
      rw [hl, List.take_length] at hv
      walk_at "yy"
      rfl
theorem mk_great (hm : FnM M k "at_most" (SpD (P_2 SmB) Q_le)) (h : DefAt M "greatest_of" T.greatest_of.st T.greatest_of.ps) : FnM M (k + 1) "greatest_of" (SpD (P_ls 1000000) fun g d => d = frT (g.foldl maxQ (g.headD (0, 1)))) := h.fnD T.greatest_of.sc (fun g ds ⟨x, xs, e, _⟩ => by rw [e] <;> rfl) (b_great B hm)

end
/-! ### sums -/
theorem plusQ_small {p q : Int × Int} {n m : Int} (h1 : 0 < p.2) (h2 : p.2 ≤ n) (h3 : 0 < q.2) (h4 : q.2 ≤ m) : 0 < (plusQ p q).2 ∧ (plusQ p q).2 ≤ n * m := by
  have hp : 0 < p.2 * q.2 := Int.mul_pos h1 h3
  refine ⟨redQ_pos (by omega), ?_⟩
  have h5 := redQ_le (t := p.1 * q.2 + q.1 * p.2) (b := p.2 * q.2) (by omega)
  have h6 : p.2 * q.2 ≤ n * m := Int.mul_le_mul h2 h4 (by omega) (by omega)
  show (redQ (p.1 * q.2 + q.1 * p.2) (p.2 * q.2)).2 ≤ _
  omega
theorem sum_small {qs : List (Int × Int)} (h : AllB 99 qs) (hl : qs.length ≤ 6) : ∀ i, i ≤ qs.length → 0 < ((qs.take i).foldl plusQ (0, 1)).2 ∧ ((qs.take i).foldl plusQ (0, 1)).2 ≤ 99 ^ i
  | 0, _ => by simp
  | i + 1, hi => by
    have ih := sum_small h hl i (by omega)
    have hq : qs[i]? = some qs[i] := List.getElem?_eq_getElem (by omega)
    rw [fold_more hq]
    have hb := h qs[i] (List.getElem_mem _)
    have z := plusQ_small ih.1 ih.2 hb.1 hb.2
    exact ⟨z.1, by rw [Int.pow_succ]; exact z.2⟩
theorem pow99 {i : Nat} (h : i ≤ 6) : (99 : Int) ^ i ≤ 941480149401 := by
  have : i = 0 ∨ i = 1 ∨ i = 2 ∨ i = 3 ∨ i = 4 ∨ i = 5 ∨ i = 6 := by omega
  rcases this with e | e | e | e | e | e | e <;> subst e <;> decide
abbrev P_l6 : List (Int × Int) → List PyData → Prop := fun qs ds => ∃ x xs, ds = [x] ∧ SeqD x xs ∧ AllFr xs qs ∧ AllB 99 qs ∧ qs.length ≤ 6
section
variable {M : Mo} {k : Nat} (B : T.MB M)
include B
theorem b_sum (hp : FnM M k "plus" (SpD (P_2 Sm2) (Q_2 plusQ))) : ∀ W g ds, P_l6 g ds → DSs (T.sum_of.Γ M k W nowx) (defBody T.sum_of.st) (ds.map .va ++ List.replicate (T.sum_of.N.length - T.sum_of.ps.length) .un) { nx := fun _ => PyData.none = frT (g.foldl plusQ (0, 1)), rt := fun d _ => d = frT (g.foldl plusQ (0, 1)) } := by
  rintro W qs _ ⟨x, xs, rfl, hx, ⟨hl, hg⟩, hb, h6⟩
  cases (T.sum_of.fa B : T.sum_of.Fa M k W nowx)
  show DSs _ _ [.va x, .un, .un] _
  rcases hx with rfl | rfl
  all_goals
    refine dss_cons ?_
    walk_at "yy"
    refine ⟨fun i ρ => ∃ o, ρ = [.va _, .va (frT ((qs.take i).foldl plusQ (0, 1))), o], ⟨.un, rfl⟩, ?_, ?_⟩
    · rintro i d _ hi ⟨o, rfl⟩
      obtain ⟨q, hq, hd⟩ := hg i d hi
      walk_at "yy"
      have hil : i < qs.length := (List.getElem?_eq_some_iff.mp hq).1
      have h1 := sum_small hb h6 i (by omega)
      have h2 := hb q (List.mem_of_getElem? hq)
      have h3 := pow99 (i := i) (by omega)
      have h5 : ((qs.take i).foldl plusQ (0, 1)).2 * q.2 ≤ 941480149401 * 99 := Int.mul_le_mul (by omega) h2.2 (by omega) (by omega)
      refine ⟨(_, q), ⟨_, _, rfl, isFr_T _, hd, h1.1, h2.1, Int.lt_of_le_of_lt h5 (by decide)⟩, fun e he => ?_⟩
      obtain rfl := he
      walk_at "yy"
      exact ⟨.va d, by rw [fold_more hq]; rfl⟩
    · rintro _ ⟨o, rfl⟩
      rw [hl, List.take_length]
      walk_at "yy"
      rfl
theorem mk_sum (hp : FnM M k "plus" (SpD (P_2 Sm2) (Q_2 plusQ))) (h : DefAt M "sum_of" T.sum_of.st T.sum_of.ps) : FnM M (k + 1) "sum_of" (SpD P_l6 fun g d => d = frT (g.foldl plusQ (0, 1))) := h.fnD T.sum_of.sc (fun g ds ⟨x, xs, e, _⟩ => by rw [e] <;> rfl) (b_sum B hp)
end
/-! ### the least common bottom -/
def lcmI (a b : Int) : Int := a * b / gI a b
def lcmQ (qs : List (Int × Int)) : Int := qs.foldl (fun f q => lcmI f q.2) 1
theorem lcmI_small {a b n m : Int} (h1 : 0 < a) (h2 : a ≤ n) (h3 : 0 < b) (h4 : b ≤ m) : 0 < lcmI a b ∧ lcmI a b ≤ n * m := by
  have g := gI_pos (a := a) (show b ≠ 0 by omega)
  have hp : 0 < a * b := Int.mul_pos h1 h3
  obtain ⟨c, e⟩ := gI_dl a b
  have hc : 0 < c := by
    by_cases z : 0 < c
    · exact z
    · have : gI a b * c ≤ 0 := Int.mul_nonpos_of_nonneg_of_nonpos (by omega) (by omega)
      omega
  have e2 : lcmI a b = c * b := by
    unfold lcmI
    have e3 : a * b = gI a b * (c * b) := by rw [← Int.mul_assoc, ← e]
    rw [e3, Int.mul_ediv_cancel_left _ (by omega)]
  have hca : c ≤ a := by
    have : 1 * c ≤ gI a b * c := Int.mul_le_mul_of_nonneg_right (by omega) (by omega)
    omega
  rw [e2]
  exact ⟨Int.mul_pos hc h3, Int.mul_le_mul (by omega) h4 (by omega) (by omega)⟩
theorem lcm_small {qs : List (Int × Int)} (h : AllB 99 qs) (hl : qs.length ≤ 6) : ∀ i, i ≤ qs.length → 0 < lcmQ (qs.take i) ∧ lcmQ (qs.take i) ≤ 99 ^ i
  | 0, _ => by simp [lcmQ]
  | i + 1, hi => by
    have ih := lcm_small h hl i (by omega)
    have hq : qs[i]? = some qs[i] := List.getElem?_eq_getElem (by omega)
    unfold lcmQ at ih ⊢
    rw [fold_more hq]
    have hb := h qs[i] (List.getElem_mem _)
    have z := lcmI_small ih.1 ih.2 hb.1 hb.2
    exact ⟨z.1, by rw [Int.pow_succ]; exact z.2⟩
theorem lcm_le {qs : List (Int × Int)} (h : AllB 99 qs) (hl : qs.length ≤ 6) : 0 < lcmQ qs ∧ lcmQ qs ≤ 941480149401 := by
  have z := lcm_small h hl qs.length (Nat.le_refl _)
  rw [List.take_length] at z
  have := pow99 hl
  exact ⟨z.1, by omega⟩
section
variable {M : Mo} {k : Nat} (B : T.MB M)
include B
theorem b_cb (hc : FnM M k "common_divisor" (SpD P_cd Q_cd)) : ∀ W g ds, P_l6 g ds → DSs (T.common_bottom.Γ M k W nowx) (defBody T.common_bottom.st) (ds.map .va ++ List.replicate (T.common_bottom.N.length - T.common_bottom.ps.length) .un) { nx := fun _ => PyData.none = .int (lcmQ g), rt := fun d _ => d = .int (lcmQ g) } := by
  rintro W qs _ ⟨x, xs, rfl, hx, ⟨hl, hg⟩, hb, h6⟩
  cases (T.common_bottom.fa B : T.common_bottom.Fa M k W nowx)
  show DSs _ _ [.va x, .un, .un, .un] _
  rcases hx with rfl | rfl
  all_goals
    refine dss_cons ?_
    walk_at "yy"
    refine ⟨fun i ρ => ∃ o o', ρ = [.va _, .va (.int (lcmQ (qs.take i))), o, o'], ⟨.un, .un, rfl⟩, ?_, ?_⟩
    · rintro i d _ hi ⟨o, o', rfl⟩
      obtain ⟨q, hq, hd⟩ := hg i d hi
      have hil : i < qs.length := (List.getElem?_eq_some_iff.mp hq).1
      have h1 := lcm_small hb h6 i (by omega)
      have h2 := hb q (List.mem_of_getElem? hq)
      have h3 := pow99 (i := i) (by omega)
      have g := gI_pos (a := lcmQ (qs.take i)) (show q.2 ≠ 0 by omega)
      have g2 : gI (lcmQ (qs.take i)) q.2 ≤ q.2 := Int.le_of_dvd h2.1 (gI_dr _ _)
      walk_at "yy"
      refine ⟨mulR (by omega) (by omega), ?_⟩
      walk_at "yy"
      refine ⟨(lcmQ (qs.take i), q.2), rfl, fun e he => ?_⟩
      have he : e = .int (gI (lcmQ (qs.take i)) q.2) := he
      subst he
      walk_at "yy"
      refine ⟨divOk (by omega) (by omega) (by omega), ?_⟩
      walk_at "yy"
      refine ⟨.va (.int q.1), .va (.int q.2), ?_⟩
      rw [fdiv_pos g, show lcmQ (qs.take (i + 1)) = lcmQ (qs.take i) * q.2 / gI (lcmQ (qs.take i)) q.2 from fold_more hq]
      rfl
    · rintro _ ⟨o, o', rfl⟩
      rw [hl, List.take_length]
      walk_at "yy"
      rfl
theorem mk_cb (hc : FnM M k "common_divisor" (SpD P_cd Q_cd)) (h : DefAt M "common_bottom" T.common_bottom.st T.common_bottom.ps) : FnM M (k + 1) "common_bottom" (SpD P_l6 fun g d => d = .int (lcmQ g)) := h.fnD T.common_bottom.sc (fun g ds ⟨x, xs, e, _⟩ => by rw [e] <;> rfl) (b_cb B hc)
theorem b_wt (hc : FnM M k "common_bottom" (SpD P_l6 fun g d => d = .int (lcmQ g))) : ∀ W g ds, P_l6 g ds → DSs (T.whole_tops.Γ M k W nowx) (defBody T.whole_tops.st) (ds.map .va ++ List.replicate (T.whole_tops.N.length - T.whole_tops.ps.length) .un) { nx := fun _ => False, rt := fun d _ => d = .tuple (g.map fun q => .int (q.1 * (lcmQ g / q.2))) } := by
  rintro W qs _ ⟨x, xs, rfl, hx, ⟨hl, hg⟩, hb, h6⟩
  cases (T.whole_tops.fa B : T.whole_tops.Fa M k W nowx)
  show DSs _ _ [.va x, .un, .un, .un] _
  have hlc := lcm_le hb h6
  refine dss_cons ?_
  walk_at "yy"
  refine ⟨qs, ⟨x, xs, rfl, hx, ⟨hl, hg⟩, hb, h6⟩, fun e he => ?_⟩
  obtain rfl := he
  walk_at "yy"
  refine de_dn (dn_lc (own := T.whole_tops.own0) (blkOk_by (by kernel_rfl)) (fun _ _ => rfl) ?_)
  have hall : ∀ d ∈ xs, ∃ q ∈ qs, IsFr d q := fun d hd => by
    obtain ⟨i, hi⟩ := List.getElem?_of_mem hd
    obtain ⟨q, hq, h⟩ := hg i d hi
    exact ⟨q, List.mem_of_getElem? hq, h⟩
  let f : PyData → PyData := fun d => match d with | .list [.int a, .int b] => .int (a * (lcmQ qs / b)) | .tuple [.int a, .int b] => .int (a * (lcmQ qs / b)) | _ => .none
  have hf : ∀ d q, IsFr d q → f d = .int (q.1 * (lcmQ qs / q.2)) := fun d q h => by
    rcases h with rfl | rfl <;> rfl
  have hm : (xs.filter fun _ => true).map f = qs.map fun q => PyData.int (q.1 * (lcmQ qs / q.2)) := by
    rw [List.filter_eq_self.mpr (fun _ _ => rfl)]
    apply List.ext_getElem?
    intro i
    rw [List.getElem?_map, List.getElem?_map]
    cases e : xs[i]? with
    | none =>
      have : qs[i]? = none := by
        rw [List.getElem?_eq_none_iff] at e ⊢
        omega
      rw [this] <;> rfl
    | some d =>
      obtain ⟨q, hq, h⟩ := hg i d e
      rw [hq]
      exact congrArg some (hf d q h)
  rcases hx with rfl | rfl
  all_goals
    walk_at "yy"
    refine lcd_pure (fun _ => true) f ?_ ?_ ?_ ?_
    · intro j hj p ds
      have : j = 2 ∨ j = 3 := by simpa using hj
      rcases this with rfl | rfl <;> exact fun z => nomatch z
    · rw [hl]
      exact Nat.le_trans h6 (by decide)
    · intro W' d hd
      obtain ⟨q, hq, h⟩ := hall d hd
      have h2 := hb q hq
      walk_at "yy"
      refine ⟨rfl, if_t rfl ?_⟩
      walk_at "yy"
      refine ⟨divOk (by omega) (by omega) (by omega), ?_⟩
      walk_at "yy"
      refine ⟨mulR ?_ ?_, ?_⟩
      · rw [fdiv_pos h2.1]
        have := Int.ediv_nonneg (show 0 ≤ lcmQ qs by omega) (show 0 ≤ q.2 by omega)
        omega
      · rw [fdiv_pos h2.1]
        have := ediv_le h2.1 (show 0 ≤ lcmQ qs by omega)
        omega
      · walk_at "yy"
        exact ⟨by rw [fdiv_pos h2.1]; exact (hf d q h).symm, rfl⟩
    · rw [hm]
      exact ⟨_, .inl rfl, rfl⟩
theorem mk_wt (hc : FnM M k "common_bottom" (SpD P_l6 fun g d => d = .int (lcmQ g))) (h : DefAt M "whole_tops" T.whole_tops.st T.whole_tops.ps) : FnM M (k + 1) "whole_tops" (SpD P_l6 fun g d => d = .tuple (g.map fun q => .int (q.1 * (lcmQ g / q.2)))) := h.fnD T.whole_tops.sc (fun g ds ⟨x, xs, e, _⟩ => by rw [e] <;> rfl) (fun W g ds h => (b_wt B hc W g ds h).mono (fun _ z => z.elim) (fun _ _ z => z) (fun _ z => z) (fun _ z => z))
/-! ### what is left of 1, what lies between -/
abbrev P_1 : Int × Int → List PyData → Prop := fun q ds => ∃ x, ds = [x] ∧ IsFr x q ∧ 0 < q.2 ∧ q.2 < 2 ^ 62
theorem b_rest (hl : FnM M k "less" (SpD (P_2 Sm2) (Q_2 lessQ))) : ∀ W g ds, P_1 g ds → DSs (T.rest_of.Γ M k W nowx) (defBody T.rest_of.st) (ds.map .va ++ List.replicate (T.rest_of.N.length - T.rest_of.ps.length) .un) { nx := fun _ => PyData.none = frT (lessQ (1, 1) g), rt := fun d _ => d = frT (lessQ (1, 1) g) } := by
  rintro W q _ ⟨x, rfl, hx, h1, h2⟩
  cases (T.rest_of.fa B : T.rest_of.Fa M k W nowx)
  show DSs _ _ [.va x] _
  refine dss_cons ?_
  walk_at "yy"
  refine ⟨((1, 1), q), ⟨_, _, rfl, .inr rfl, hx, (show (0 : Int) < 1 by decide), h1, by show 1 * q.2 < _; omega⟩, fun e he => he⟩
theorem mk_rest (hl : FnM M k "less" (SpD (P_2 Sm2) (Q_2 lessQ))) (h : DefAt M "rest_of" T.rest_of.st T.rest_of.ps) : FnM M (k + 1) "rest_of" (SpD P_1 fun g d => d = frT (lessQ (1, 1) g)) := h.fnD T.rest_of.sc (fun g ds ⟨x, e, _⟩ => by rw [e] <;> rfl) (b_rest B hl)
end
/-- small, as drawn -/
def SmD (q : Int × Int) : Prop := 0 < q.2 ∧ q.2 ≤ 99 ∧ q.1.natAbs < 2 ^ 40
def mixQ (p q s : Int × Int) : Int × Int := plusQ (timesQ p s) (timesQ q (lessQ (1, 1) s))
theorem rest_small {s : Int × Int} (h : SmD s) : 0 < (lessQ (1, 1) s).2 ∧ (lessQ (1, 1) s).2 ≤ 99 := by
  have e : (1 : Int) * s.2 = s.2 := Int.one_mul _
  have h1 : 0 < (redQ (1 * s.2 - s.1 * 1) (1 * s.2)).2 := redQ_pos (by have := h.1; omega)
  have h2 := redQ_le (t := 1 * s.2 - s.1 * 1) (b := 1 * s.2) (by have := h.1; omega)
  have := h.1
  have := h.2.1
  exact ⟨h1, by show (redQ (1 * s.2 - s.1 * 1) (1 * s.2)).2 ≤ 99; omega⟩
theorem times_small {p q : Int × Int} {n m : Int} (h1 : 0 < p.2) (h2 : p.2 ≤ n) (h3 : 0 < q.2) (h4 : q.2 ≤ m) : 0 < (timesQ p q).2 ∧ (timesQ p q).2 ≤ n * m := by
  have hp : 0 < p.2 * q.2 := Int.mul_pos h1 h3
  refine ⟨redQ_pos (by omega), ?_⟩
  have h5 := redQ_le (t := p.1 * q.1) (b := p.2 * q.2) (by omega)
  have h6 : p.2 * q.2 ≤ n * m := Int.mul_le_mul h2 h4 (by omega) (by omega)
  show (redQ (p.1 * q.1) (p.2 * q.2)).2 ≤ _
  omega
theorem sm2_of {p q : Int × Int} {n m : Int} (h1 : 0 < p.2) (h2 : p.2 ≤ n) (h3 : 0 < q.2) (h4 : q.2 ≤ m) (h5 : n * m < 2 ^ 62) : Sm2 p q := by
  have h6 : p.2 * q.2 ≤ n * m := Int.mul_le_mul h2 h4 (by omega) (by omega)
  exact ⟨h1, h3, by omega⟩
abbrev P_3 : (Int × Int) × (Int × Int) × (Int × Int) → List PyData → Prop := fun g ds => ∃ x y z, ds = [x, y, z] ∧ IsFr x g.1 ∧ IsFr y g.2.1 ∧ IsFr z g.2.2 ∧ SmD g.1 ∧ SmD g.2.1 ∧ SmD g.2.2
section
variable {M : Mo} {k : Nat} (B : T.MB M)
include B
theorem b_between (hp : FnM M k "plus" (SpD (P_2 Sm2) (Q_2 plusQ))) (ht : FnM M k "times" (SpD (P_2 SmT) (Q_2 timesQ))) (hr : FnM M k "rest_of" (SpD P_1 fun g d => d = frT (lessQ (1, 1) g))) :
    ∀ W g ds, P_3 g ds → DSs (T.between.Γ M k W nowx) (defBody T.between.st) (ds.map .va ++ List.replicate (T.between.N.length - T.between.ps.length) .un) { nx := fun _ => PyData.none = frT (mixQ g.1 g.2.1 g.2.2), rt := fun d _ => d = frT (mixQ g.1 g.2.1 g.2.2) } := by
  rintro W ⟨p, q, s⟩ _ ⟨x, y, z, rfl, hx, hy, hz, hp1, hq1, hs1⟩
  cases (T.between.fa B : T.between.Fa M k W nowx)
  show DSs _ _ [.va x, .va y, .va z] _
  have hx : IsFr x p := hx
  have hy : IsFr y q := hy
  have hz : IsFr z s := hz
  have hp1 : SmD p := hp1
  have hq1 : SmD q := hq1
  have hs1 : SmD s := hs1
  have hr1 := rest_small hs1
  refine dss_cons ?_
  walk_at "yy"
  refine ⟨(p, s), ⟨_, _, rfl, hx, hz, sm2_of hp1.1 hp1.2.1 hs1.1 hs1.2.1 (by decide), .inl (Nat.lt_trans hp1.2.2 (by decide))⟩, fun e he => ?_⟩
  have he : e = frT (timesQ p s) := he
  subst he
  walk_at "yy"
  refine ⟨s, ⟨_, rfl, hz, hs1.1, Int.lt_of_le_of_lt hs1.2.1 (by decide)⟩, fun e he => ?_⟩
  subst he
  walk_at "yy"
  refine ⟨(q, lessQ (1, 1) s), ⟨_, _, rfl, hy, isFr_T _, sm2_of hq1.1 hq1.2.1 hr1.1 hr1.2 (by decide), .inl (Nat.lt_trans hq1.2.2 (by decide))⟩, fun e he => ?_⟩
  have he : e = frT (timesQ q (lessQ (1, 1) s)) := he
  subst he
  walk_at "yy"
  have t1 := times_small hp1.1 hp1.2.1 hs1.1 hs1.2.1
  have t2 := times_small hq1.1 hq1.2.1 hr1.1 hr1.2
  exact ⟨(timesQ p s, timesQ q (lessQ (1, 1) s)), ⟨_, _, rfl, isFr_T _, isFr_T _, sm2_of t1.1 t1.2 t2.1 t2.2 (by decide)⟩, fun e he => he⟩
theorem mk_between (hp : FnM M k "plus" (SpD (P_2 Sm2) (Q_2 plusQ))) (ht : FnM M k "times" (SpD (P_2 SmT) (Q_2 timesQ))) (hr : FnM M k "rest_of" (SpD P_1 fun g d => d = frT (lessQ (1, 1) g))) (h : DefAt M "between" T.between.st T.between.ps) :
    FnM M (k + 1) "between" (SpD P_3 fun g d => d = frT (mixQ g.1 g.2.1 g.2.2)) := h.fnD T.between.sc (fun g ds ⟨x, y, z, e, _⟩ => by rw [e] <;> rfl) (b_between B hp ht hr)
end

/-! ## part K00C -/
open PySem PySem.Spec PyProof.Rows L2 Y
/-! ### is it a FRACTION -/
def isFrD : PyData → Bool
  | .tuple [.int t, .int b] => decide (1 ≤ b) && (gI t b == 1)
  | _ => false
theorem tup2 {x : PyData} (h : tupD 2 x = true) : ∃ u v, x = .tuple [u, v] := by
  cases x with
  | tuple xs =>
    have h : (xs.length == 2) = true := h
    rw [beq_iff_eq] at h
    match xs, h with
    | [u, v], _ => exact ⟨u, v, rfl⟩
  | _ => exact nomatch h
theorem isFr_no2 {x : PyData} (h : tupD 2 x = false) : isFrD x = false := by
  unfold isFrD
  split
  · exact nomatch h
  · rfl
theorem isFr_noL {u v : PyData} (h : numD u = false) : isFrD (.tuple [u, v]) = false := by
  unfold isFrD
  split
  · rename_i t b e
    injection e with e
    injection e with e1 e2
    subst e1
    exact nomatch h
  · rfl
theorem isFr_noR {u v : PyData} (h : numD v = false) : isFrD (.tuple [u, v]) = false := by
  unfold isFrD
  split
  · rename_i t b e
    injection e with e
    injection e with e1 e2
    injection e2 with e2 _
    subst e2
    exact nomatch h
  · rfl
theorem num_of {x : PyData} (h : numD x = true) : ∃ i, x = .int i := by
  cases x with
  | int i => exact ⟨i, rfl⟩
  | _ => exact nomatch h
section
variable {M : Mo} {k : Nat} (B : T.MB M)
include B
theorem b_isfr (hP : ∃ u v, M.mg "PAIR" = some u ∧ RelV v u ∧ ∀ F, Dp M.K F v (.int 2)) (hcd : FnM M k "common_divisor" (SpD P_cd Q_cd)) (hn : FnM M k "is_number" (SpD (fun g ds => ds = [g]) fun g d => d = .bool (numD g)))
    (ht : FnM M k "is_tuple_of" (SpD (fun (g : PyData × Nat) ds => ds = [g.1, .int g.2]) fun g d => d = .bool (tupD g.2 g.1))) :
    ∀ W g ds, ds = [g] → DSs (T.is_fraction.Γ M k W nowx) (defBody T.is_fraction.st) (ds.map .va ++ List.replicate (T.is_fraction.N.length - T.is_fraction.ps.length) .un) { nx := fun _ => PyData.none = .bool (isFrD g), rt := fun d _ => d = .bool (isFrD g) } := by
  rintro W x _ rfl
  cases (T.is_fraction.fa B : T.is_fraction.Fa M k W nowx)
  have gP : GlobAt (T.is_fraction.Γ M k W nowx) "PAIR" (.int 2) := ⟨rfl, hP, by decide⟩
  show DSs _ _ [.va x] _
  refine dss_cons ?_
  walk_at "yy"
  refine ⟨(x, 2), rfl, fun e he => ?_⟩
  have he : e = .bool (tupD 2 x) := he
  subst he
  walk_at "yy"
  cases h2 : tupD 2 x with
  | false =>
    refine if_t rfl ?_
    walk_at "yy"
    rw [isFr_no2 h2]
  | true =>
    obtain ⟨u, v, rfl⟩ := tup2 h2
    refine if_f rfl ?_
    walk_at "yy"
    intro e he
    subst he
    walk_at "yy"
    cases hu : numD u with
    | false =>
      refine if_t rfl ?_
      walk_at "yy"
      rw [isFr_noL hu]
    | true =>
      obtain ⟨t, rfl⟩ := num_of hu
      refine if_f rfl ?_
      walk_at "yy"
      intro e he
      subst he
      walk_at "yy"
      cases hv : numD v with
      | false =>
        refine if_t rfl ?_
        walk_at "yy"
        rw [isFr_noR hv]
      | true =>
        obtain ⟨b, rfl⟩ := num_of hv
        refine if_f rfl ?_
        walk_at "yy"
        refine if_c (fun hb => ?_) (fun hb => ?_)
        · have hb := of_decide_eq_true hb
          walk_at "yy"
          show _ = PyData.bool (decide (1 ≤ b) && (gI t b == 1))
          rw [decide_eq_false (by omega), Bool.false_and]
        · have hb := of_decide_eq_false hb
          walk_at "yy"
          refine ⟨(t, b), rfl, fun e he => ?_⟩
          have he : e = .int (gI t b) := he
          subst he
          walk_at "yy"
          show _ = PyData.bool (decide (1 ≤ b) && (gI t b == 1))
          rw [decide_eq_true (by omega), Bool.true_and]
          rfl
theorem mk_isfr (hP : ∃ u v, M.mg "PAIR" = some u ∧ RelV v u ∧ ∀ F, Dp M.K F v (.int 2)) (hcd : FnM M k "common_divisor" (SpD P_cd Q_cd)) (hn : FnM M k "is_number" (SpD (fun g ds => ds = [g]) fun g d => d = .bool (numD g)))
    (ht : FnM M k "is_tuple_of" (SpD (fun (g : PyData × Nat) ds => ds = [g.1, .int g.2]) fun g d => d = .bool (tupD g.2 g.1))) (h : DefAt M "is_fraction" T.is_fraction.st T.is_fraction.ps) : FnM M (k + 1) "is_fraction" (SpD (fun g ds => ds = [g]) fun g d => d = .bool (isFrD g)) :=
  h.fnD T.is_fraction.sc (fun g ds e => by rw [e] <;> rfl) (b_isfr B hP hcd hn ht)
end

/-! ## part L2 -/
open PySem PySem.Spec PyProof.Rows L2 RZ Y
local macro_rules | `(tactic| walk_at "e1") => `(tactic| first
  | ((with_reducible refine' de_take ?f ?g ?v ?h ?q1 ?q2 ?_); (case f => with_reducible assumption); (case g => walk_at "g"); (case v => walk_at "v"); (case h => rfl); (case q1 => exact fun _ _ => rfl); (case q2 => exact fun _ _ => rfl))
  | ((with_reducible refine' de_of ?f ?g ?v ?h ?q1 ?q2 ?_); (case f => with_reducible assumption); (case g => walk_at "g"); (case v => walk_at "v"); (case h => rfl); (case q1 => exact fun _ _ => rfl); (case q2 => exact fun _ _ => rfl)))
/-- a number drawn -/
local macro_rules | `(tactic| walk_at "tk") => `(tactic| (refine ⟨_, _, _, _, rfl, by with_reducible assumption, by omega, rfl, ?_, by omega, ?_⟩; (try (focus omega))))
theorem fmod_rng {a b : Int} (h : 0 < b) : 0 ≤ a.fmod b ∧ a.fmod b < b := ⟨Int.fmod_nonneg_of_pos a h, Int.fmod_lt_of_pos a h⟩
theorem fdiv_nn {a b : Int} (h : 0 ≤ a) (hb : 0 < b) : 0 ≤ a.fdiv b := by
  rw [Int.fdiv_eq_ediv_of_nonneg a (by omega)]
  exact Int.ediv_nonneg h (by omega)
theorem fdiv_le {a b : Int} (h : 0 ≤ a) (hb : 0 < b) : a.fdiv b ≤ a := by
  rw [Int.fdiv_eq_ediv_of_nonneg a (by omega)]
  exact Int.ediv_le_self b h
theorem b01 (b : Bool) : 0 ≤ (if b = true then (1 : Int) else 0) ∧ (if b = true then (1 : Int) else 0) ≤ 1 := by cases b <;> decide
theorem enD_get {xs : List PyData} {i : Nat} {d : PyData} (h : (enD xs)[i]? = some d) : ∃ x, xs[i]? = some x ∧ d = .tuple [.int (i : Int), x] := by
  unfold enD at h
  rw [List.getElem?_map, List.getElem?_zipIdx] at h
  cases k : xs[i]? with
  | none => rw [k] at h; cases h
  | some x =>
    rw [k] at h
    have h : PyData.tuple [.int ((0 + i : Nat) : Int), x] = d := Option.some.inj h
    rw [Nat.zero_add] at h
    exact ⟨x, rfl, h.symm⟩
theorem mem_cut {xs : List PyData} {lo hi : Option Int} {i : Nat} {x : PyData} (h : (Y.cutD xs lo hi)[i]? = some x) : x ∈ xs := by
  unfold Y.cutD at h
  exact List.mem_of_mem_drop (List.mem_of_mem_take (List.mem_of_getElem? h))
theorem cut_len (xs : List PyData) (lo hi : Option Int) : (Y.cutD xs lo hi).length ≤ xs.length := by
  unfold Y.cutD
  rw [List.length_take, List.length_drop]
  omega
theorem cut_one (x : PyData) (r : List PyData) : Y.cutD (x :: r) none (some 1) = [x] := by
  unfold Y.cutD
  rw [List.length_cons]
  simp [HT.sIx]
section
variable {M : Mo} {k : Nat} (B : T.MB M)
include B
theorem b_take : ∀ W p g l ds, P_take g l ds → DSs (T._law_take.Γ M k W nowx) (defBody T._law_take.st) ((.ow p l :: ds.map .va) ++ List.replicate (T._law_take.N.length - T._law_take.ps.length) .un) { nx := fun ρ' => ∃ l', ρ'[0]? = some (.ow p l') ∧ Q_take g l' .none, rt := fun d ρ' => ∃ l', ρ'[0]? = some (.ow p l') ∧ Q_take g l' d } := by
  rintro W p ⟨n, m⟩ _ _ ⟨⟨a, b, c, rfl, ha, hb, hb2, hc, hc2⟩, hn, rfl, hm, hm2⟩
  have hm : 1 ≤ m := hm
  have hm2 : m < 2 ^ 62 := hm2
  have hn : n < 2 ^ 40 := hn
  have hc2 : c ≤ (n : Int) := hc2
  cases (T._law_take.fa B : T._law_take.Fa M k W nowx)
  show DSs _ _ [.ow p _, .va (.int m), .un, .un, .un, .un] _
  refine dss_cons ?_
  walk_at "yy"
  refine if_c (fun h => ?_) (fun h => ?_)
  · have h := of_decide_eq_true h
    walk_at "yy"
    refine ⟨by omega, ?_⟩
    walk_at "yy"
    refine ⟨divOk (by omega) (by omega) (by omega), ?_⟩
    walk_at "yy"
    have := fmod_rng (a := a) (b := m) (by omega)
    exact ⟨⟨a.fdiv m, b, c, rfl, fdiv_nn ha (by omega), hb, hb2, hc, by show c ≤ ((n + 1 : Nat) : Int); omega⟩, _, rfl, this.1, this.2⟩
  · walk_at "yy"
    refine ⟨mulL (by omega) (by omega), ?_⟩
    walk_at "yy"
    refine ⟨mulR (by omega) (by omega), ?_⟩
    walk_at "yy"
    refine ⟨by decide, ?_⟩
    walk_at "yy"
    have h1 := fmod_rng (a := (b + 48271 * (c + 1)) * (39373 + (c + 1))) (b := 2147483647) (by decide)
    revert h1
    generalize ((b + 48271 * (c + 1)) * (39373 + (c + 1))).fmod 2147483647 = on
    intro h1
    refine ⟨by decide, ?_⟩
    walk_at "yy"
    have h2 := fmod_rng (a := on) (b := 40009) (by decide)
    refine ⟨divOk (by decide) (by decide) (by decide), ?_⟩
    walk_at "yy"
    refine ⟨mulR (by omega) (by omega), ?_⟩
    walk_at "yy"
    refine ⟨by decide, ?_⟩
    walk_at "yy"
    have h3 := fmod_rng (a := (on + (c + 1) + b.fdiv 1000003) * (on.fmod 40009 + 7)) (b := 2147483629) (by decide)
    revert h3
    generalize ((on + (c + 1) + b.fdiv 1000003) * (on.fmod 40009 + 7)).fmod 2147483629 = tw
    intro h3
    refine ⟨mulR (by omega) (by omega), ?_⟩
    walk_at "yy"
    refine ⟨by decide, ?_⟩
    walk_at "yy"
    refine ⟨divOk (by decide) (by decide) (by decide), ?_⟩
    walk_at "yy"
    refine ⟨by omega, ?_⟩
    walk_at "yy"
    have := fmod_rng (a := ((tw * 48271 + on).fmod 2147483587).fdiv 64) (b := m) (by omega)
    exact ⟨⟨a, b, c + 1, rfl, ha, hb, hb2, by omega, by show c + 1 ≤ ((n + 1 : Nat) : Int); omega⟩, _, rfl, this.1, this.2⟩
theorem mk_take (h : DefAt M "_law_take" T._law_take.st T._law_take.ps) : FnM M (k + 1) "_law_take" SpTake := h.fnO T._law_take.sc (fun g l ds ⟨_, _, e, _⟩ => by rw [e] <;> rfl) (b_take B)
theorem b_of (ht : FnM M k "_law_take" SpTake) : ∀ W p g l ds, P_of g l ds → DSs (T._law_of.Γ M k W nowx) (defBody T._law_of.st) ((.ow p l :: ds.map .va) ++ List.replicate (T._law_of.N.length - T._law_of.ps.length) .un) { nx := fun ρ' => ∃ l', ρ'[0]? = some (.ow p l') ∧ Q_of g l' .none, rt := fun d ρ' => ∃ l', ρ'[0]? = some (.ow p l') ∧ Q_of g l' d } := by
  rintro W p ⟨n, xs⟩ l _ ⟨hl, hn, ⟨x, rfl, hx⟩, hne, hlen⟩
  have hn : n < 2 ^ 40 := hn
  have hlen : xs.length < 2 ^ 40 := hlen
  cases (T._law_of.fa B : T._law_of.Fa M k W nowx)
  show DSs _ _ [.ow p l, .va x] _
  refine dss_cons ?_
  walk_at "yy"
  walk_at "tk"
  · have : 0 < xs.length := List.length_pos_iff.mpr hne
    show 1 ≤ (xs.length : Int)
    omega
  intro r l' h0 h1 hl'
  have h1 : r < (xs.length : Int) := h1
  have hr : r.toNat < xs.length := by omega
  have hk : atI xs r = some xs[r.toNat] := by
    have := atI_nat (List.getElem?_eq_getElem hr)
    rw [Int.toNat_of_nonneg h0] at this
    exact this
  refine atD_of hx hk ?_
  exact ⟨_, rfl, hl', List.getElem_mem _⟩
theorem mk_of (ht : FnM M k "_law_take" SpTake) (h : DefAt M "_law_of" T._law_of.st T._law_of.ps) : FnM M (k + 1) "_law_of" SpOf := h.fnO T._law_of.sc (fun g l ds ⟨_, _, ⟨x, e, _⟩, _⟩ => by rw [e] <;> rfl) (b_of B ht)
/-! ### the box of one number -/
theorem b_box : ∀ W g ds, P_box g ds → DSs (T._law_box.Γ M k W nowx) (defBody T._law_box.st) (ds.map .va ++ List.replicate (T._law_box.N.length - T._law_box.ps.length) .un) { nx := fun _ => False, rt := fun _ _ => False, rn := fun es _ => Q_box g es } := by
  rintro W x _ rfl
  cases (T._law_box.fa B : T._law_box.Fa M k W nowx)
  show DSs _ _ [.va (.list [.int x]), .va (.int 0), .un] _
  refine dss_cons ?_
  walk_at "s1"
  walk_at "nn"
  refine dss_cons ?_
  refine ds_retF (dn_lst ?_)
  walk_at "nn"
  refine ⟨⟨by decide, by decide, by decide⟩, ?_⟩
  walk_at "nn"
  refine ⟨mulR (by have := b01 (decide ((10 : Int) ^ Int.toNat 18 ≤ if x < 0 then -x else x)); omega) (by have := b01 (decide ((10 : Int) ^ Int.toNat 18 ≤ if x < 0 then -x else x)); omega), ?_⟩
  walk_at "nn"
  refine ⟨by decide, ?_⟩
  walk_at "nn"
  refine ⟨mulL (by decide) (by decide), ?_⟩
  walk_at "nn"
  have h := fmod_rng (a := x) (b := 2305843009213693951) (by decide)
  refine ⟨_, _, _, rfl, Int.mul_nonneg (by split <;> omega) (b01 _).1, by omega, by omega, by decide, by decide⟩
theorem mk_box (h : DefAt M "_law_box" T._law_box.st T._law_box.ps) : FnN M (k + 1) "_law_box" P_box Q_box := h.fnN T._law_box.sc (fun g ds e => by rw [e] <;> rfl) (b_box B)
theorem b_cells : ∀ W g ds, P_cells g ds → DSs (T._law_cells.Γ M k W nowx) (defBody T._law_cells.st) (ds.map .va ++ List.replicate (T._law_cells.N.length - T._law_cells.ps.length) .un) { nx := fun _ => Q_cells g .none, rt := fun d _ => Q_cells g d } := by
  rintro W xs _ ⟨rfl, hi, hl⟩
  cases (T._law_cells.fa B : T._law_cells.Fa M k W nowx)
  show DSs _ _ [.va (.list xs), .va (.int 1), .un, .un, .un, .un] _
  refine dss_cons ?_
  have key : ∀ (p : Addr) (c : Int), DSs (T._law_cells.Γ M k W nowx) (List.tail (defBody T._law_cells.st)) [.va (.list xs), .va (.int 1), .ow p [.int c], .un, .un, .un] { nx := fun _ => Q_cells xs .none, rt := fun d _ => Q_cells xs d } := by
    intro p c
    refine dss_cons ?_
    refine ds_for (fun _ _ => rfl) (di_enum (by walk_at "b") (fun _ _ => rfl) (de_dn (dn_sl ?_)))
    walk_at "nn"
    refine ⟨fun i ρ => ∃ (c : Int) (o1 o2 o3 : Sl), ρ = [.va (.list xs), .va (.int 1), .ow p [.int c], o1, o2, o3], ⟨c, _, _, _, rfl⟩, ?_, ?_⟩
    · rintro i d _ hd ⟨c, o1, o2, o3, rfl⟩
      obtain ⟨x, hx, rfl⟩ := enD_get hd
      obtain ⟨j, rfl⟩ := hi x (mem_cut hx)
      have hlt : i < sizeLine := Nat.lt_of_lt_of_le (List.getElem?_eq_some_iff.mp hx).1 (Nat.le_trans (cut_len _ _ _) hl)
      have hs : sizeLine < 2 ^ 63 := by decide
      walk_at "yy"
      refine ⟨by decide, ?_⟩
      walk_at "yy"
      rw [Int.fmod_one]
      walk_at "yy"
      refine ⟨mulR (by omega) (by omega), ?_⟩
      walk_at "yy"
      exact ⟨_, _, _, _, rfl⟩
    · rintro _ ⟨c, o1, o2, o3, rfl⟩
      show DSs _ _ _ _
      refine dss_freeze (i := 2) (p := p) (ds := [.int c]) rfl ?_
      refine dss_cons ?_
      walk_at "yy"
      exact ⟨_, rfl⟩
  refine ds_setN (by walk_at "l") (by walk_at "sw") ?_
  refine dn_or (dn_listc (by walk_at "b") (fun _ _ => rfl) (de_dn (dn_sl ?_)))
  walk_at "nn"
  cases xs with
  | nil =>
    refine ⟨fun h => absurd rfl h, fun _ => dn_one (dn_lst ?_)⟩
    walk_at "nn"
    exact fun p => key p 0
  | cons x r =>
    obtain ⟨c, rfl⟩ := hi x List.mem_cons_self
    have e : Y.cutD (.int c :: r) none (some 1) = [.int c] := cut_one _ _
    rw [e]
    exact ⟨fun _ p => key p c, fun h => nomatch h⟩
theorem mk_cells (h : DefAt M "_law_cells" T._law_cells.st T._law_cells.ps) : FnM M (k + 1) "_law_cells" (SpD P_cells Q_cells) := h.fnD T._law_cells.sc (fun g ds ⟨e, _⟩ => by rw [e] <;> rfl) (b_cells B)
end

/-! ## part L3 -/
open PySem PySem.Spec PyProof.Rows L2 RZ Y
theorem all_keep (xs : List PyData) : (xs.filter fun _ => true) = xs := List.filter_eq_self.mpr (fun _ _ => rfl)
theorem all_rep (n : Nat) : (List.replicate n true).all id = true := by
  rw [List.all_eq_true]
  intro b hb
  rw [List.eq_of_mem_replicate hb]
  rfl
section
variable {M : Mo} {k : Nat} (B : T.MB M)
include B
theorem b_lists {n : Nat} (hr : FnM M k "_law_lists" (SpD (P_lists n) Q_lists)) : ∀ W g ds, P_lists (n + 1) g ds → DSs (T._law_lists.Γ M k W nowx) (defBody T._law_lists.st) (ds.map .va ++ List.replicate (T._law_lists.N.length - T._law_lists.ps.length) .un) { nx := fun _ => Q_lists g .none, rt := fun d _ => Q_lists g d } := by
  rintro W x _ ⟨rfl, hd⟩
  cases (T._law_lists.fa B : T._law_lists.Fa M k W nowx)
  show DSs _ _ [.va x, .un] _
  refine dss_cons ?_
  walk_at "yy"
  cases x with
  | list xs =>
    refine if_t (by rw [isTy_list] <;> rfl) ?_
    refine de_dn (dn_lc (own := T._law_lists.own0) (blkOk_by (by kernel_rfl)) (fun _ _ => rfl) ?_)
    walk_at "yy"
    refine lcd_pure (fun _ => true) toL (fun j hj p ds => ?_) hd.1 ?_ ?_
    · have : j = 1 := by simpa using hj
      subst this
      exact fun z => nomatch z
    · intro W' d hdm
      walk_at "yy"
      refine ⟨rfl, if_t rfl ?_⟩
      walk_at "yy"
      exact ⟨d, ⟨rfl, hd.2 d hdm⟩, fun e he => ⟨he, rfl⟩⟩
    · rw [all_keep]
      show PyData.list _ = toL (.list xs)
      rw [toL, toLs_map]
  | tuple xs =>
    refine if_t (by rw [isTy_list, isTy_tuple] <;> rfl) ?_
    refine de_dn (dn_lc (own := T._law_lists.own0) (blkOk_by (by kernel_rfl)) (fun _ _ => rfl) ?_)
    walk_at "yy"
    refine lcd_pure (fun _ => true) toL (fun j hj p ds => ?_) hd.1 ?_ ?_
    · have : j = 1 := by simpa using hj
      subst this
      exact fun z => nomatch z
    · intro W' d hdm
      walk_at "yy"
      refine ⟨rfl, if_t rfl ?_⟩
      walk_at "yy"
      exact ⟨d, ⟨rfl, hd.2 d hdm⟩, fun e he => ⟨he, rfl⟩⟩
    · rw [all_keep]
      show PyData.list _ = toL (.tuple xs)
      rw [toL, toLs_map]
  | _ =>
    refine if_f (by rw [isTy_list, isTy_tuple] <;> rfl) ?_
    walk_at "yy"
    show _ = toL _
    rw [toL]
theorem mk_lists (h : DefAt M "_law_lists" T._law_lists.st T._law_lists.ps) : ∀ n, FnM M (n + 1) "_law_lists" (SpD (P_lists n) Q_lists)
  | 0 => h.fnD T._law_lists.sc (fun g ds ⟨e, _⟩ => by rw [e] <;> rfl) (fun W g ds ⟨_, z⟩ => z.elim)
  | n + 1 => h.fnD T._law_lists.sc (fun g ds ⟨e, _⟩ => by rw [e] <;> rfl) (b_lists B (mk_lists h n))
theorem b_same {n : Nat} (hr : FnM M k "_law_same" (SpD (P_same n) Q_same)) : ∀ W g ds, P_same (n + 1) g ds → DSs (T._law_same.Γ M k W nowx) (defBody T._law_same.st) (ds.map .va ++ List.replicate (T._law_same.N.length - T._law_same.ps.length) .un) { nx := fun _ => Q_same g .none, rt := fun d _ => Q_same g d } := by
  rintro W x _ ⟨rfl, hd⟩
  cases (T._law_same.fa B : T._law_same.Fa M k W nowx)
  show DSs _ _ [.va x, .va x, .un, .un] _
  refine dss_cons ?_
  walk_at "yy"
  cases x with
  | list xs =>
    refine if_t (by rw [isTy_list, isTy_tuple] <;> rfl) ?_
    walk_at "yy"
    refine if_t (by simp [PyData.eqv, truD]) ?_
    walk_at "yy"
    refine de_dn (dn_lc (own := T._law_same.own0) (blkOk_by (by kernel_rfl)) (fun _ _ => rfl) ?_)
    walk_at "yy"
    refine ⟨xs, xs, by simp, ?_⟩
    refine lcd_pure (fun _ => true) (fun _ => .bool true) (fun j hj p ds => ?_) (by rw [zip_len]; have := hd.1; omega) ?_ ?_
    · have : j = 2 ∨ j = 3 := by simpa using hj
      rcases this with rfl | rfl <;> exact fun z => nomatch z
    · intro W' d hdm
      obtain ⟨i, hi⟩ := List.getElem?_of_mem hdm
      obtain ⟨y, z, h1, h2, rfl⟩ := Y.zip_get hi
      rw [h1] at h2
      obtain rfl := Option.some.inj h2
      walk_at "yy"
      refine ⟨rfl, if_t rfl ?_⟩
      walk_at "yy"
      exact ⟨y, ⟨rfl, hd.2 y (List.mem_of_getElem? h1)⟩, fun e he => ⟨he, rfl⟩⟩
    · rw [all_keep]
      refine ⟨List.replicate (zipD xs xs).length true, ?_, ?_⟩
      · rw [List.map_replicate, List.map_const']
      · show _ = PyData.bool true
        rw [all_rep]
  | tuple xs =>
    refine if_t (by rw [isTy_list, isTy_tuple] <;> rfl) ?_
    walk_at "yy"
    refine if_t (by simp [PyData.eqv, truD]) ?_
    walk_at "yy"
    refine de_dn (dn_lc (own := T._law_same.own0) (blkOk_by (by kernel_rfl)) (fun _ _ => rfl) ?_)
    walk_at "yy"
    refine ⟨xs, xs, by simp, ?_⟩
    refine lcd_pure (fun _ => true) (fun _ => .bool true) (fun j hj p ds => ?_) (by rw [zip_len]; have := hd.1; omega) ?_ ?_
    · have : j = 2 ∨ j = 3 := by simpa using hj
      rcases this with rfl | rfl <;> exact fun z => nomatch z
    · intro W' d hdm
      obtain ⟨i, hi⟩ := List.getElem?_of_mem hdm
      obtain ⟨y, z, h1, h2, rfl⟩ := Y.zip_get hi
      rw [h1] at h2
      obtain rfl := Option.some.inj h2
      walk_at "yy"
      refine ⟨rfl, if_t rfl ?_⟩
      walk_at "yy"
      exact ⟨y, ⟨rfl, hd.2 y (List.mem_of_getElem? h1)⟩, fun e he => ⟨he, rfl⟩⟩
    · rw [all_keep]
      refine ⟨List.replicate (zipD xs xs).length true, ?_, ?_⟩
      · rw [List.map_replicate, List.map_const']
      · show _ = PyData.bool true
        rw [all_rep]
  | int i =>
    refine if_f (by rw [isTy_list, isTy_tuple] <;> rfl) ?_
    walk_at "yy"
    show _ = _
    simp [PyData.eqv]
  | none =>
    refine if_f (by rw [isTy_list, isTy_tuple] <;> rfl) ?_
    walk_at "yy"
    rfl
  | bool b =>
    refine if_f (by rw [isTy_list, isTy_tuple] <;> rfl) ?_
    walk_at "yy"
    refine if_t (by cases b <;> rfl) ?_
    walk_at "yy"
    rfl
  | str s =>
    refine if_f (by rw [isTy_list, isTy_tuple] <;> rfl) ?_
    walk_at "yy"
    refine ⟨hd, hd, ?_⟩
    walk_at "yy"
    refine if_t (by simp [PyData.eqv, truD]) ?_
    walk_at "yy"
    rfl
  | dict _ => exact hd.elim
theorem mk_same (h : DefAt M "_law_same" T._law_same.st T._law_same.ps) : ∀ n, FnM M (n + 1) "_law_same" (SpD (P_same n) Q_same)
  | 0 => h.fnD T._law_same.sc (fun g ds ⟨e, _⟩ => by rw [e] <;> rfl) (fun W g ds ⟨_, z⟩ => z.elim)
  | n + 1 => h.fnD T._law_same.sc (fun g ds ⟨e, _⟩ => by rw [e] <;> rfl) (b_same B (mk_same h n))
end

/-! ## part K00D -/
open PySem PySem.Spec PyProof.Rows L2 RZ Y
local macro_rules | `(tactic| walk_at "e1") => `(tactic| first
  | ((with_reducible refine' de_take ?f ?g ?v ?h ?q1 ?q2 ?_); (case f => with_reducible assumption); (case g => walk_at "g"); (case v => walk_at "v"); (case h => rfl); (case q1 => exact fun _ _ => rfl); (case q2 => exact fun _ _ => rfl))
  | ((with_reducible refine' de_of ?f ?g ?v ?h ?q1 ?q2 ?_); (case f => with_reducible assumption); (case g => walk_at "g"); (case v => walk_at "v"); (case h => rfl); (case q1 => exact fun _ _ => rfl); (case q2 => exact fun _ _ => rfl)))
/-- a number drawn -/
local macro_rules | `(tactic| walk_at "tk") => `(tactic| (refine ⟨_, _, _, _, rfl, by with_reducible assumption, by omega, rfl, ?_, by omega, ?_⟩; (try (focus omega))))
theorem gI_abs (t b : Int) : gI (if t < 0 then -t else t) (if b < 0 then -b else b) = gI t b := by
  unfold gI
  congr 1
  split <;> split <;> simp
/-- the law's own way to the FRACTION -/
abbrev P_lf : Int × Int → List PyData → Prop := fun g ds => ds = [.int g.1, .int g.2] ∧ g.2 ≠ 0 ∧ g.2.natAbs < 2 ^ 64
abbrev Q_lf : Int × Int → PyData → Prop := fun g d => d = frT (redQ g.1 g.2)
section
variable {M : Mo} {k : Nat} (B : T.MB M)
include B
theorem b_lf : ∀ W g ds, P_lf g ds → DSs (T._law_frac.Γ M k W nowx) (defBody T._law_frac.st) (ds.map .va ++ List.replicate (T._law_frac.N.length - T._law_frac.ps.length) .un) { nx := fun _ => Q_lf g .none, rt := fun d _ => Q_lf g d } := by
  rintro W ⟨t, b⟩ _ ⟨rfl, h0, hb⟩
  have h0 : b ≠ 0 := h0
  have hb : b.natAbs < 2 ^ 64 := hb
  cases (T._law_frac.fa B : T._law_frac.Fa M k W nowx)
  show DSs _ _ [.va (.int t), .va (.int b), .un, .un, .un] _
  refine dss_cons ?_
  walk_at "yy"
  refine ds_while (fun m ρ => ∃ x y : Int, ρ = [.va (.int t), .va (.int b), .va (.int x), .va (.int y), .un] ∧ 0 ≤ x ∧ 0 ≤ y ∧ gI x y = gI t b ∧ m = y.natAbs) (if b < 0 then -b else b).natAbs ⟨_, _, rfl, by split <;> omega, by split <;> omega, gI_abs t b, rfl⟩ ?_
  rintro m _ ⟨x, y, rfl, hx, hy, hg, rfl⟩
  walk_at "yy"
  refine if_c (fun h => ?_) (fun h => ?_)
  · have h := of_decide_eq_true h
    refine dss_cons ?_
    walk_at "yy"
    refine ⟨by omega, ?_⟩
    walk_at "yy"
    refine ⟨_, fmod_lt (by omega), y, x.fmod y, rfl, hy, (fmod_rng h).1, by rw [gI_fmod (by omega)]; exact hg, rfl⟩
  · have h := of_decide_eq_false h
    have e : y = 0 := by omega
    subst e
    rw [gI_zero, if_neg (by omega)] at hg
    subst hg
    have g := gI_pos (a := t) h0
    have gle : gI t b ≤ (b.natAbs : Int) := Int.le_of_dvd (by omega) (Int.dvd_natAbs.mpr (gI_dr t b))
    walk_at "yy"
    refine if_c (fun hs => ?_) (fun hs => ?_)
    · have hs := of_decide_eq_true hs
      walk_at "yy"
      refine ⟨mulL (by decide) (by decide), ?_⟩
      walk_at "yy"
      refine ⟨divOk (by omega) (by omega) (by omega), ?_⟩
      walk_at "yy"
      refine ⟨mulL (by decide) (by decide), ?_⟩
      walk_at "yy"
      refine ⟨divOk (by omega) (by omega) (by omega), ?_⟩
      walk_at "yy"
      rw [fdiv_pos g, fdiv_pos g]
      show _ = frT _
      unfold redQ
      rw [if_pos hs, Int.neg_one_mul, Int.neg_one_mul]
      rfl
    · have hs := of_decide_eq_false hs
      walk_at "yy"
      refine ⟨mulL (by decide) (by decide), ?_⟩
      walk_at "yy"
      refine ⟨divOk (by omega) (by omega) (by omega), ?_⟩
      walk_at "yy"
      refine ⟨mulL (by decide) (by decide), ?_⟩
      walk_at "yy"
      refine ⟨divOk (by omega) (by omega) (by omega), ?_⟩
      walk_at "yy"
      rw [fdiv_pos g, fdiv_pos g]
      show _ = frT _
      unfold redQ
      rw [if_neg hs, Int.one_mul, Int.one_mul]
      rfl
theorem mk_lf (h : DefAt M "_law_frac" T._law_frac.st T._law_frac.ps) : FnM M (k + 1) "_law_frac" (SpD P_lf Q_lf) := h.fnD T._law_frac.sc (fun g ds e => by rw [e.1] <;> rfl) (b_lf B)
theorem b_lplus (hf : FnM M k "_law_frac" (SpD P_lf Q_lf)) : ∀ W g ds, P_2 Sm2 g ds → DSs (T._law_plus.Γ M k W nowx) (defBody T._law_plus.st) (ds.map .va ++ List.replicate (T._law_plus.N.length - T._law_plus.ps.length) .un) { nx := fun _ => Q_2 plusQ g .none, rt := fun d _ => Q_2 plusQ g d } := by
  rintro W ⟨⟨a, b⟩, ⟨c, d⟩⟩ _ ⟨x, y, rfl, hx, hy, h⟩
  cases (T._law_plus.fa B : T._law_plus.Fa M k W nowx)
  show DSs _ _ [.va x, .va y] _
  skip
  have h1 : b < 2 ^ 62 := h.l
  have h2 : d < 2 ^ 62 := h.r
  have h3 : 0 < b := h.1
  have h4 : 0 < d := h.2.1
  have h5 : b * d < 2 ^ 62 := h.2.2
  have h6 : 0 < b * d := h.pos
  have hx : SeqD x [.int a, .int b] := hx
  have hy : SeqD y [.int c, .int d] := hy
  skip
  refine dss_cons ?_
  walk_at "yy"
  refine ⟨mulR (by omega) (by omega), ?_⟩
  walk_at "yy"
  refine ⟨mulR (by omega) (by omega), ?_⟩
  walk_at "yy"
  refine ⟨mulR (by omega) (by omega), ?_⟩
  walk_at "yy"
  exact ⟨(a * d + c * b, b * d), ⟨rfl, by show b * d ≠ 0; omega, by show (b * d).natAbs < 2 ^ 64; omega⟩, fun e he => he⟩
theorem mk_lplus (hf : FnM M k "_law_frac" (SpD P_lf Q_lf)) (h : DefAt M "_law_plus" T._law_plus.st T._law_plus.ps) : FnM M (k + 1) "_law_plus" (SpD (P_2 Sm2) (Q_2 plusQ)) := h.fnD T._law_plus.sc (fun g ds ⟨x, y, e, _⟩ => by rw [e] <;> rfl) (b_lplus B hf)
theorem b_lless (hf : FnM M k "_law_frac" (SpD P_lf Q_lf)) : ∀ W g ds, P_2 Sm2 g ds → DSs (T._law_less.Γ M k W nowx) (defBody T._law_less.st) (ds.map .va ++ List.replicate (T._law_less.N.length - T._law_less.ps.length) .un) { nx := fun _ => Q_2 lessQ g .none, rt := fun d _ => Q_2 lessQ g d } := by
  rintro W ⟨⟨a, b⟩, ⟨c, d⟩⟩ _ ⟨x, y, rfl, hx, hy, h⟩
  cases (T._law_less.fa B : T._law_less.Fa M k W nowx)
  show DSs _ _ [.va x, .va y] _
  skip
  have h1 : b < 2 ^ 62 := h.l
  have h2 : d < 2 ^ 62 := h.r
  have h3 : 0 < b := h.1
  have h4 : 0 < d := h.2.1
  have h5 : b * d < 2 ^ 62 := h.2.2
  have h6 : 0 < b * d := h.pos
  have hx : SeqD x [.int a, .int b] := hx
  have hy : SeqD y [.int c, .int d] := hy
  skip
  refine dss_cons ?_
  walk_at "yy"
  refine ⟨mulR (by omega) (by omega), ?_⟩
  walk_at "yy"
  refine ⟨mulR (by omega) (by omega), ?_⟩
  walk_at "yy"
  refine ⟨mulR (by omega) (by omega), ?_⟩
  walk_at "yy"
  exact ⟨(a * d - c * b, b * d), ⟨rfl, by show b * d ≠ 0; omega, by show (b * d).natAbs < 2 ^ 64; omega⟩, fun e he => he⟩
theorem mk_lless (hf : FnM M k "_law_frac" (SpD P_lf Q_lf)) (h : DefAt M "_law_less" T._law_less.st T._law_less.ps) : FnM M (k + 1) "_law_less" (SpD (P_2 Sm2) (Q_2 lessQ)) := h.fnD T._law_less.sc (fun g ds ⟨x, y, e, _⟩ => by rw [e] <;> rfl) (b_lless B hf)
theorem b_ltimes (hf : FnM M k "_law_frac" (SpD P_lf Q_lf)) : ∀ W g ds, P_2 SmT g ds → DSs (T._law_times.Γ M k W nowx) (defBody T._law_times.st) (ds.map .va ++ List.replicate (T._law_times.N.length - T._law_times.ps.length) .un) { nx := fun _ => Q_2 timesQ g .none, rt := fun d _ => Q_2 timesQ g d } := by
  rintro W ⟨⟨a, b⟩, ⟨c, d⟩⟩ _ ⟨x, y, rfl, hx, hy, h⟩
  cases (T._law_times.fa B : T._law_times.Fa M k W nowx)
  show DSs _ _ [.va x, .va y] _
  obtain ⟨h, ht⟩ := h
  have h1 : b < 2 ^ 62 := h.l
  have h2 : d < 2 ^ 62 := h.r
  have h3 : 0 < b := h.1
  have h4 : 0 < d := h.2.1
  have h5 : b * d < 2 ^ 62 := h.2.2
  have h6 : 0 < b * d := h.pos
  have hx : SeqD x [.int a, .int b] := hx
  have hy : SeqD y [.int c, .int d] := hy
  have ht : a.natAbs < 2 ^ 62 ∨ c.natAbs < 2 ^ 62 := ht
  refine dss_cons ?_
  walk_at "yy"
  refine ⟨ht.elim (fun z => mulL (by omega) (by omega)) (fun z => mulR (by omega) (by omega)), ?_⟩
  walk_at "yy"
  refine ⟨mulR (by omega) (by omega), ?_⟩
  walk_at "yy"
  exact ⟨(a * c, b * d), ⟨rfl, by show b * d ≠ 0; omega, by show (b * d).natAbs < 2 ^ 64; omega⟩, fun e he => he⟩
theorem mk_ltimes (hf : FnM M k "_law_frac" (SpD P_lf Q_lf)) (h : DefAt M "_law_times" T._law_times.st T._law_times.ps) : FnM M (k + 1) "_law_times" (SpD (P_2 SmT) (Q_2 timesQ)) := h.fnD T._law_times.sc (fun g ds ⟨x, y, e, _⟩ => by rw [e] <;> rfl) (b_ltimes B hf)
abbrev Q_lb : PP → PyData → Prop := fun g d => d = .bool (decide (g.1.1 * g.2.2 < g.2.1 * g.1.2))
theorem b_lbelow : ∀ W g ds, P_2 SmB g ds → DSs (T._law_below.Γ M k W nowx) (defBody T._law_below.st) (ds.map .va ++ List.replicate (T._law_below.N.length - T._law_below.ps.length) .un) { nx := fun _ => Q_lb g .none, rt := fun d _ => Q_lb g d } := by
  rintro W ⟨⟨a, b⟩, ⟨c, d⟩⟩ _ ⟨x, y, rfl, hx, hy, h⟩
  cases (T._law_below.fa B : T._law_below.Fa M k W nowx)
  show DSs _ _ [.va x, .va y] _
  have h1 : b < 2 ^ 62 := h.2.1
  have h2 : d < 2 ^ 62 := h.2.2.2
  have h3 : 0 < b := h.1
  have h4 : 0 < d := h.2.2.1
  have hx : SeqD x [.int a, .int b] := hx
  have hy : SeqD y [.int c, .int d] := hy
  refine dss_cons ?_
  walk_at "yy"
  refine ⟨mulR (by omega) (by omega), ?_⟩
  walk_at "yy"
  refine ⟨mulR (by omega) (by omega), ?_⟩
  walk_at "yy"
  rfl
theorem mk_lbelow (h : DefAt M "_law_below" T._law_below.st T._law_below.ps) : FnM M (k + 1) "_law_below" (SpD (P_2 SmB) Q_lb) := h.fnD T._law_below.sc (fun g ds ⟨x, y, e, _⟩ => by rw [e] <;> rfl) (b_lbelow B)
theorem b_lsum (hp : FnM M k "_law_plus" (SpD (P_2 Sm2) (Q_2 plusQ))) : ∀ W g ds, P_l6 g ds → DSs (T._law_sum.Γ M k W nowx) (defBody T._law_sum.st) (ds.map .va ++ List.replicate (T._law_sum.N.length - T._law_sum.ps.length) .un) { nx := fun _ => PyData.none = frT (g.foldl plusQ (0, 1)), rt := fun d _ => d = frT (g.foldl plusQ (0, 1)) } := by
  rintro W qs _ ⟨x, xs, rfl, hx, ⟨hl, hg⟩, hb, h6⟩
  cases (T._law_sum.fa B : T._law_sum.Fa M k W nowx)
  show DSs _ _ [.va x, .un, .un] _
  rcases hx with rfl | rfl
  all_goals
    refine dss_cons ?_
    walk_at "yy"
    refine ⟨fun i ρ => ∃ o, ρ = [.va _, .va (frT ((qs.take i).foldl plusQ (0, 1))), o], ⟨.un, rfl⟩, ?_, ?_⟩
    · rintro i d _ hi ⟨o, rfl⟩
      obtain ⟨q, hq, hd⟩ := hg i d hi
      walk_at "yy"
      have hil : i < qs.length := (List.getElem?_eq_some_iff.mp hq).1
      have h1 := sum_small hb h6 i (by omega)
      have h2 := hb q (List.mem_of_getElem? hq)
      have h3 := pow99 (i := i) (by omega)
      have h5 : ((qs.take i).foldl plusQ (0, 1)).2 * q.2 ≤ 941480149401 * 99 := Int.mul_le_mul (by omega) h2.2 (by omega) (by omega)
      refine ⟨(_, q), ⟨_, _, rfl, isFr_T _, hd, h1.1, h2.1, Int.lt_of_le_of_lt h5 (by decide)⟩, fun e he => ?_⟩
      obtain rfl := he
      walk_at "yy"
      exact ⟨.va d, by rw [fold_more hq]; rfl⟩
    · rintro _ ⟨o, rfl⟩
      rw [hl, List.take_length]
      walk_at "yy"
      rfl
theorem mk_lsum (hp : FnM M k "_law_plus" (SpD (P_2 Sm2) (Q_2 plusQ))) (h : DefAt M "_law_sum" T._law_sum.st T._law_sum.ps) : FnM M (k + 1) "_law_sum" (SpD P_l6 fun g d => d = frT (g.foldl plusQ (0, 1))) := h.fnD T._law_sum.sc (fun g ds ⟨x, xs, e, _⟩ => by rw [e] <;> rfl) (b_lsum B hp)
/-! ### what is heard -/
abbrev HG := (Int × Int) ⊕ PP
abbrev P_hd : HG → List PyData → Prop := fun g ds => match g with
  | .inl p => ds = [.int 0, .int p.1, .int p.2] ∧ p.2.natAbs < 2 ^ 64
  | .inr q => ∃ x y, ds = [.int 1, x, y] ∧ IsFr x q.1 ∧ IsFr y q.2 ∧ SmO q.1 q.2
abbrev Q_hd : HG → PyData → Prop := fun g d => match g with
  | .inl p => d = if p.2 = 0 then .list [.str "Unfit", .bool true] else .list [.str "told", frT (redQ p.1 p.2)]
  | .inr q => d = if q.2.1 = 0 then .list [.str "Unfit", .bool true] else .list [.str "told", frT (overQ q.1 q.2)]
theorem b_heard {C : Addr} (hC : ExAt M "Unfit" C) (hf : FnX M k "fraction" (SpD P_fr Q_fr) (X_fr C)) (ho : FnX M k "over" (SpD (P_2 SmO) Q_ov) (X_ov C)) : ∀ W g ds, P_hd g ds → DSs (T._law_heard.Γ M k W nowx) (defBody T._law_heard.st) (ds.map .va ++ List.replicate (T._law_heard.N.length - T._law_heard.ps.length) .un) { nx := fun _ => Q_hd g .none, rt := fun d _ => Q_hd g d } := by
  rintro W g ds hg
  cases g with
  | inl p =>
    obtain ⟨rfl, hb⟩ := hg
    cases (T._law_heard.fa B : T._law_heard.Fa M k W nowx)
    show DSs _ _ [.va (.int 0), .va (.int p.1), .va (.int p.2), .un] _
    refine dss_one ?_
    refine ds_try_ret (i := 3) (cv := .ty "ValueError") (u := .type "ValueError") (k := true) hC (by walk_at "g") (by walk_at "b") ⟨rfl, .inr ⟨B.ValueError', by decide +kernel, by decide⟩, by decide, fun w => Iff.rfl⟩ hC.vE (by walk_at "l") (by walk_at "v") rfl rfl ?_
    intro W' wx hx
    refine dss_cons ?_
    walk_at "yy"
    refine de_callX hf (by walk_at "g") (fun _ _ => rfl) (fun _ _ => rfl) ?_
    walk_at "yy"
    refine ⟨p, ⟨rfl, hb⟩, fun d hd => ?_, fun cls hc => ?_⟩
    · obtain ⟨h0, rfl⟩ := hd
      walk_at "yy"
      show _ = _
      rw [if_neg h0]
    · obtain ⟨h0, rfl⟩ := hc
      refine hx _ (by show 3 < 4; decide) ?_
      show _ = _
      rw [if_pos h0]
  | inr q =>
    obtain ⟨x, y, rfl, h1, h2, h3⟩ := hg
    cases (T._law_heard.fa B : T._law_heard.Fa M k W nowx)
    show DSs _ _ [.va (.int 1), .va x, .va y, .un] _
    refine dss_one ?_
    refine ds_try_ret (i := 3) (cv := .ty "ValueError") (u := .type "ValueError") (k := true) hC (by walk_at "g") (by walk_at "b") ⟨rfl, .inr ⟨B.ValueError', by decide +kernel, by decide⟩, by decide, fun w => Iff.rfl⟩ hC.vE (by walk_at "l") (by walk_at "v") rfl rfl ?_
    intro W' wx hx
    refine dss_cons ?_
    walk_at "yy"
    refine de_callX ho (by walk_at "g") (fun _ _ => rfl) (fun _ _ => rfl) ?_
    walk_at "yy"
    refine ⟨q, ⟨x, y, rfl, h1, h2, h3⟩, fun d hd => ?_, fun cls hc => ?_⟩
    · obtain ⟨h0, rfl⟩ := hd
      walk_at "yy"
      show _ = _
      rw [if_neg h0]
    · obtain ⟨h0, rfl⟩ := hc
      refine hx _ (by show 3 < 4; decide) ?_
      show _ = _
      rw [if_pos h0]
theorem mk_heard {C : Addr} (hC : ExAt M "Unfit" C) (hf : FnX M k "fraction" (SpD P_fr Q_fr) (X_fr C)) (ho : FnX M k "over" (SpD (P_2 SmO) Q_ov) (X_ov C)) (h : DefAt M "_law_heard" T._law_heard.st T._law_heard.ps) : FnM M (k + 1) "_law_heard" (SpD P_hd Q_hd) := h.fnD T._law_heard.sc (fun g ds e => by
  cases g with
  | inl p => rw [e.1] <;> rfl
  | inr q =>
    obtain ⟨x, y, e, _⟩ := e
    rw [e] <;> rfl) (b_heard B hC hf ho)
/-! ### the law's own look whether a thing is a FRACTION -/
end
/-- a thing that the law asks of -/
def Sc (u : PyData) : Prop := (∃ i, u = .int i) ∨ (∃ b, u = .bool b) ∨ u = .none
def Tame (x : PyData) : Prop := (tupD 2 x = true → ∃ u v, x = .tuple [u, v] ∧ Sc u ∧ Sc v ∧ ∀ b, v = .int b → b.natAbs < 2 ^ 64) ∧ ∀ xs, x = .tuple xs → xs.length ≤ 10
theorem isFr_eq {t b : Int} (hb : 0 < b) : PyData.eqv (frT (redQ t b)) (.tuple [.int t, .int b]) = isFrD (.tuple [.int t, .int b]) := by
  show ((redQ t b).1 == t && ((redQ t b).2 == b && true)) = (decide (1 ≤ b) && (gI t b == 1))
  rw [decide_eq_true (show 1 ≤ b by omega), Bool.true_and, Bool.and_true, Bool.eq_iff_iff, Bool.and_eq_true, beq_iff_eq, beq_iff_eq, beq_iff_eq, ← redQ_iff hb]
  constructor
  · intro h
    exact Prod.ext h.1 h.2
  · intro h
    rw [h]
    exact ⟨rfl, rfl⟩
theorem isFr_nn {u v : PyData} (h : (numD u && numD v) = false) : isFrD (.tuple [u, v]) = false := by
  cases hu : numD u with
  | false => exact isFr_noL hu
  | true =>
    rw [hu, Bool.true_and] at h
    exact isFr_noR h
theorem keep_num (d : PyData) : (isTy "bool" d || !isTy "int" d) = !numD d := by
  rw [isTy_bool, isTy_int]
  cases d <;> rfl
section
variable {M : Mo} {k : Nat} (B : T.MB M)
include B
theorem b_is (hf : FnM M k "_law_frac" (SpD P_lf Q_lf)) : ∀ W g ds, ds = [g] ∧ Tame g → DSs (T._law_is.Γ M k W nowx) (defBody T._law_is.st) (ds.map .va ++ List.replicate (T._law_is.N.length - T._law_is.ps.length) .un) { nx := fun _ => PyData.none = .bool (isFrD g), rt := fun d _ => d = .bool (isFrD g) } := by
  rintro W x _ ⟨rfl, ht⟩
  cases (T._law_is.fa B : T._law_is.Fa M k W nowx)
  show DSs _ _ [.va x, .un] _
  refine dss_cons ?_
  walk_at "yy"
  cases h2 : tupD 2 x with
  | false =>
    cases x with
    | tuple xs =>
      refine if_f (by rw [isTy_tuple] <;> rfl) ?_
      walk_at "yy"
      have hl : ¬ xs.length = 2 := by
        have h2 : (xs.length == 2) = false := h2
        simpa using h2
      refine if_t ?_ ?_
      · show (!((xs.length : Int) == 2)) = true
        rw [Bool.not_eq_true', beq_eq_false_iff_ne]
        omega
      walk_at "yy"
      show _ = _
      rw [isFr_no2 h2]
    | _ =>
      refine if_t (by rw [isTy_tuple] <;> rfl) ?_
      walk_at "yy"
      rfl
  | true =>
    obtain ⟨u, v, e, hu, hv, hb⟩ := ht.1 h2
    subst e
    walk_at "yy"
    refine de_dn (dn_lc (own := T._law_is.own0) (blkOk_by (by kernel_rfl)) (fun _ _ => rfl) ?_)
    walk_at "yy"
    refine lcd_pure (fun d => !numD d) id (fun j hj p ds => ?_) (by show 2 ≤ sizeLine; decide) ?_ ?_
    · have : j = 1 := by simpa using hj
      subst this
      exact fun z => nomatch z
    · intro W' d hdm
      walk_at "yy"
      cases d with
      | bool b =>
        refine if_t (by rw [isTy_bool] <;> rfl) ⟨rfl, if_t rfl ?_⟩
        walk_at "yy"
        exact ⟨rfl, rfl⟩
      | int i =>
        refine if_f (by rw [isTy_bool] <;> rfl) ?_
        walk_at "yy"
        rw [isTy_int]
        exact ⟨rfl, if_f rfl rfl⟩
      | _ =>
        refine if_f (by rw [isTy_bool] <;> rfl) ?_
        walk_at "yy"
        rw [isTy_int]
        refine ⟨rfl, if_t rfl ?_⟩
        walk_at "yy"
        exact ⟨rfl, rfl⟩
    · walk_at "yy"
      cases hn : numD u && numD v with
      | true =>
        rw [Bool.and_eq_true] at hn
        obtain ⟨t, rfl⟩ := num_of hn.1
        obtain ⟨b, rfl⟩ := num_of hn.2
        refine ⟨rfl, rfl, if_f rfl ?_⟩
        walk_at "yy"
        by_cases h0 : 0 < b
        · refine if_t (decide_eq_true h0) ?_
          walk_at "yy"
          refine ⟨(t, b), ⟨rfl, by show b ≠ 0; omega, hb b rfl⟩, fun e he => ?_⟩
          have he : e = frT (redQ t b) := he
          subst he
          walk_at "yy"
          show _ = _
          rw [isFr_eq h0]
        · refine if_f (decide_eq_false h0) ?_
          walk_at "yy"
          show _ = PyData.bool (decide (1 ≤ b) && _)
          rw [decide_eq_false (show ¬ 1 ≤ b by omega), Bool.false_and, decide_eq_false h0]
      | false =>
        have hs : SeqAt.shaped (.list (List.map id (List.filter (fun d => !numD d) [u, v]))) = true ∧ (!(PyData.list (List.map id (List.filter (fun d => !numD d) [u, v]))).eqv (.list [])) = true := by
          rcases hu with ⟨i, rfl⟩ | ⟨i, rfl⟩ | rfl <;> rcases hv with ⟨j, rfl⟩ | ⟨j, rfl⟩ | rfl <;> first | exact ⟨rfl, rfl⟩ | exact nomatch hn
        refine ⟨hs.1, rfl, if_t hs.2 ?_⟩
        walk_at "yy"
        show _ = _
        rw [isFr_nn hn]
theorem mk_is (hf : FnM M k "_law_frac" (SpD P_lf Q_lf)) (h : DefAt M "_law_is" T._law_is.st T._law_is.ps) : FnM M (k + 1) "_law_is" (SpD (fun g ds => ds = [g] ∧ Tame g) fun g d => d = .bool (isFrD g)) := h.fnD T._law_is.sc (fun g ds e => by rw [e.1] <;> rfl) (b_is B hf)
end

/-! ## part K00E -/
open PySem PySem.Spec PyProof.Rows L2 RZ Y
local macro_rules | `(tactic| walk_at "e1") => `(tactic| first
  | ((with_reducible refine' de_take ?f ?g ?v ?h ?q1 ?q2 ?_); (case f => with_reducible assumption); (case g => walk_at "g"); (case v => walk_at "v"); (case h => rfl); (case q1 => exact fun _ _ => rfl); (case q2 => exact fun _ _ => rfl))
  | ((with_reducible refine' de_of ?f ?g ?v ?h ?q1 ?q2 ?_); (case f => with_reducible assumption); (case g => walk_at "g"); (case v => walk_at "v"); (case h => rfl); (case q1 => exact fun _ _ => rfl); (case q2 => exact fun _ _ => rfl)))
/-- a number drawn -/
local macro_rules | `(tactic| walk_at "tk") => `(tactic| (refine ⟨_, _, _, _, rfl, by with_reducible assumption, by omega, rfl, ?_, by omega, ?_⟩; (try (focus omega))))
/-- as drawn: small, in least terms -/
def DrQ (q : Int × Int) : Prop := 0 < q.2 ∧ q.2 ≤ 99 ∧ q.1.natAbs < 2 ^ 40 ∧ gI q.1 q.2 = 1
theorem DrQ.sm {q : Int × Int} (h : DrQ q) : SmD q := ⟨h.1, h.2.1, h.2.2.1⟩
abbrev P_dr : Nat → List PyData → List PyData → Prop := fun g l ds => TinOk g l ∧ g < 2 ^ 39 ∧ ds = []
abbrev Q_dr : Nat → List PyData → PyData → Prop := fun g l d => TinOk (g + 7) l ∧ ∃ q, d = frT q ∧ DrQ q
abbrev SpDrawn : Y.Spec := SpO P_dr Q_dr
section
variable {Γ : Sta} {ρ : Rh} {pos p : Pos} {P : PyData → Rh → Prop} {y : Str} {i : Nat} {py : Pos} {p0 : Addr} {ds0 : List PyData}
theorem de_drawn (f : FnAt Γ "_law_drawn" SpDrawn) (g : GlbAt Γ "_law_drawn") (v : VarAt Γ i y) (hi : ρ[i]? = some (.ow p0 ds0))
    (h : ∃ n, TinOk n ds0 ∧ n < 2 ^ 39 ∧ ∀ q l', DrQ q → TinOk (n + 7) l' → P (frT q) (ρ.set i (.ow p0 l'))) :
    DE Γ (.Call (.Name "_law_drawn" p) [.Name y py] [] pos) ρ P := de_callOw f g v (fun _ _ => rfl) hi (by
  obtain ⟨n, h2, h3, h7⟩ := h
  exact da_nil ⟨p0, ds0, n, hi, ⟨h2, h3, rfl⟩, fun ds' d' ⟨q1, r, q2, q3⟩ => by
    subst q2
    exact h7 r ds' q3 q1⟩)
end
theorem drawn_q {t b : Int} (h1 : 0 < b) (h2 : b ≤ 99) (h3 : t.natAbs < 2 ^ 40) : DrQ (redQ t b) := by
  have a1 := redQ_pos (t := t) (show b ≠ 0 by omega)
  have a2 := redQ_le (t := t) (show b ≠ 0 by omega)
  have a3 := redQ_top (t := t) (show b ≠ 0 by omega)
  exact ⟨a1, by omega, by omega, redQ_cop (by omega)⟩
section
variable {M : Mo} {k : Nat} (B : T.MB M)
include B
theorem b_drawn (ht : FnM M k "_law_take" SpTake) (ho : FnM M k "_law_of" SpOf) (hf : FnM M k "_law_frac" (SpD P_lf Q_lf)) : ∀ W p g l ds, P_dr g l ds → DSs (T._law_drawn.Γ M k W nowx) (defBody T._law_drawn.st) ((.ow p l :: ds.map .va) ++ List.replicate (T._law_drawn.N.length - T._law_drawn.ps.length) .un) { nx := fun ρ' => ∃ l', ρ'[0]? = some (.ow p l') ∧ Q_dr g l' .none, rt := fun d ρ' => ∃ l', ρ'[0]? = some (.ow p l') ∧ Q_dr g l' d } := by
  rintro W p n l _ ⟨hl, hn, rfl⟩
  cases (T._law_drawn.fa B : T._law_drawn.Fa M k W nowx)
  show DSs _ _ [.ow p l, .un] _
  refine dss_cons ?_
  walk_at "yy"
  walk_at "tk"
  intro r1 l1 a1 b1 t1
  walk_at "yy"
  walk_at "tk"
  intro r2 l2 a2 b2 t2
  walk_at "yy"
  walk_at "tk"
  intro r3 l3 a3 b3 t3
  walk_at "yy"
  walk_at "tk"
  intro r4 l4 a4 b4 t4
  walk_at "yy"
  refine ⟨⟨by decide, by decide, by decide⟩, ?_⟩
  walk_at "yy"
  walk_at "tk"
  intro r5 l5 a5 b5 t5
  walk_at "yy"
  refine ⟨_, _, _, _, rfl, t5, by omega, seqD_l, List.cons_ne_nil _ _, by show 8 < 2 ^ 40; decide, ?_⟩
  intro d l6 hd t6
  obtain ⟨t, rfl, hb⟩ : ∃ t : Int, d = .int t ∧ t.natAbs < 2 ^ 40 := by
    simp only [List.mem_cons, List.not_mem_nil, or_false] at hd
    have hp : (10 : Int) ^ Int.toNat 9 = 1000000000 := by decide
    rcases hd with h | h | h | h | h | h | h | h <;> exact ⟨_, h, by omega⟩
  walk_at "yy"
  walk_at "tk"
  intro r7 l7 a7 b7 t7
  walk_at "yy"
  refine ⟨(t, 1 + r7), ⟨rfl, by show 1 + r7 ≠ 0; omega, by show (1 + r7).natAbs < _; omega⟩, fun e he => ?_⟩
  exact ⟨_, rfl, t7, _, he, drawn_q (by omega) (by omega) hb⟩
theorem mk_drawn (ht : FnM M k "_law_take" SpTake) (ho : FnM M k "_law_of" SpOf) (hf : FnM M k "_law_frac" (SpD P_lf Q_lf)) (h : DefAt M "_law_drawn" T._law_drawn.st T._law_drawn.ps) : FnM M (k + 1) "_law_drawn" SpDrawn := h.fnO T._law_drawn.sc (fun g l ds ⟨_, _, e⟩ => by rw [e] <;> rfl) (b_drawn B ht ho hf)
end

/-! ## part K00F -/
open PySem PySem.Spec PyProof.Rows L2 RZ Y
section
variable {Γ : Sta} {ρ : Rh} {pos p : Pos} {P : PyData → Rh → Prop} {e e2 : Expr} {n : Nat}
theorem de_lists (f : FnAt Γ "_law_lists" (SpD (P_lists n) Q_lists)) (g : GlbAt Γ "_law_lists") (ns : NoStar e) (nst : NoStars [])
    (h : DE Γ e ρ fun d ρ1 => Dok n d ∧ P (toL d) ρ1) : DE Γ (.Call (.Name "_law_lists" p) [e] [] pos) ρ P := de_callD f g ns nst (da_cons ns (h.mono fun d ρ1 h => da_nil ⟨d, ⟨rfl, h.1⟩, fun d' hd => by
  have hd : d' = toL d := hd
  subst hd
  exact h.2⟩))
theorem de_same (f : FnAt Γ "_law_same" (SpD (P_same n) Q_same)) (g : GlbAt Γ "_law_same") (ns : NoStar e) (nst : NoStars [e2])
    (h : DA Γ [e, e2] ρ fun xs ρ1 => ∃ x, xs = [x, x] ∧ Dok n x ∧ P (.bool true) ρ1) : DE Γ (.Call (.Name "_law_same" p) [e, e2] [] pos) ρ P := de_callD f g ns nst (h.mono fun xs ρ1 ⟨x, h1, h2, h3⟩ => ⟨x, ⟨h1, h2⟩, fun d' hd => by
  have hd : d' = .bool true := hd
  subst hd
  exact h3⟩)
end
local macro_rules | `(tactic| walk_at "e1") => `(tactic| first
  | ((with_reducible refine' de_take ?f ?g ?v ?h ?q1 ?q2 ?_); (case f => with_reducible assumption); (case g => walk_at "g"); (case v => walk_at "v"); (case h => rfl); (case q1 => exact fun _ _ => rfl); (case q2 => exact fun _ _ => rfl))
  | ((with_reducible refine' de_of ?f ?g ?v ?h ?q1 ?q2 ?_); (case f => with_reducible assumption); (case g => walk_at "g"); (case v => walk_at "v"); (case h => rfl); (case q1 => exact fun _ _ => rfl); (case q2 => exact fun _ _ => rfl)))
/-- a number drawn -/
local macro_rules | `(tactic| walk_at "tk") => `(tactic| (refine ⟨_, _, _, _, rfl, by with_reducible assumption, by omega, rfl, ?_, by omega, ?_⟩; (try (focus omega))))
local macro_rules | `(tactic| walk_at "e1") => `(tactic| first
  | ((with_reducible refine' de_lists ?f ?g ?q1 ?q2 ?_); (case f => with_reducible assumption); (case g => walk_at "g"); (case q1 => exact fun _ _ => rfl); (case q2 => exact fun _ _ => rfl))
  | ((with_reducible refine' de_same ?f ?g ?q1 ?q2 ?_); (case f => with_reducible assumption); (case g => walk_at "g"); (case q1 => exact fun _ _ => rfl); (case q2 => exact fun _ _ => rfl))
  | ((with_reducible refine' de_drawn ?f ?g ?v ?h ?_); (case f => with_reducible assumption); (case g => walk_at "g"); (case v => walk_at "v"); (case h => rfl)))
local macro_rules | `(tactic| walk_at "m") => `(tactic| first | (refine ⟨mulL (by decide) (by decide), ?_⟩) | (refine ⟨mulR (by decide) (by decide), ?_⟩) | (refine ⟨mulL (by omega) (by omega), ?_⟩) | (refine ⟨mulR (by omega) (by omega), ?_⟩))
local macro_rules | `(tactic| walk_at "ym") => `(tactic| repeat (first | walk_at "y" | walk_at "m"))
/-! ### plain laws of FRACTIONS -/
theorem toL_fr (q : Int × Int) : toL (frT q) = .list [.int q.1, .int q.2] := by
  simp [frT, toL, toLs]
theorem isFr_L {q : Int × Int} : IsFr (toL (frT q)) q := .inl (toL_fr q)
theorem timesQ_comm (p q : Int × Int) : timesQ p q = timesQ q p := by
  unfold timesQ
  rw [Int.mul_comm p.1, Int.mul_comm p.2]
theorem lessQ_11 : lessQ (1, 1) (1, 1) = (0, 1) := by decide
theorem lessQ_01 : lessQ (1, 1) (0, 1) = (1, 1) := by decide
theorem timesQ_1 {p : Int × Int} (h : DrQ p) : timesQ p (1, 1) = p := by
  unfold timesQ
  rw [Int.mul_one, Int.mul_one, redQ_self h.1 h.2.2.2]
theorem timesQ_0 {p : Int × Int} (h : DrQ p) : timesQ p (0, 1) = (0, 1) := by
  unfold timesQ
  rw [Int.mul_zero, Int.mul_one]
  have h1 := h.1
  unfold redQ
  rw [if_neg (by omega)]
  have e : gI 0 p.2 = p.2 := by rw [gI_comm, gI_zero, if_neg (by omega)]
  rw [e, Int.zero_ediv, Int.ediv_self (by omega)]
theorem plusQ_0 {p : Int × Int} (h : DrQ p) : plusQ p (0, 1) = p := by
  show redQ (p.1 * 1 + 0 * p.2) (p.2 * 1) = p
  rw [Int.mul_one, Int.mul_one, Int.zero_mul, Int.add_zero, redQ_self h.1 h.2.2.2]
theorem plusQ_0l {p : Int × Int} (h : DrQ p) : plusQ (0, 1) p = p := by
  show redQ (0 * p.2 + p.1 * 1) (1 * p.2) = p
  rw [Int.mul_one, Int.one_mul, Int.zero_mul, Int.zero_add, redQ_self h.1 h.2.2.2]
theorem mixQ_1 {p q : Int × Int} (hp : DrQ p) (hq : DrQ q) : mixQ p q (1, 1) = p := by
  unfold mixQ
  rw [lessQ_11, timesQ_1 hp, timesQ_0 hq, plusQ_0 hp]
theorem mixQ_0 {p q : Int × Int} (hp : DrQ p) (hq : DrQ q) : mixQ p q (0, 1) = q := by
  unfold mixQ
  rw [lessQ_01, timesQ_1 hq, timesQ_0 hp, plusQ_0l hq]
theorem abs_mul_lt {b c : Int} (h1 : 0 < b) (h2 : b ≤ 99) (h3 : c.natAbs < 2 ^ 40) : (b * c).natAbs < 2 ^ 64 := by
  rw [Int.natAbs_mul]
  have : b.natAbs * c.natAbs ≤ 99 * 2 ^ 40 := Nat.mul_le_mul (by omega) (by omega)
  omega
theorem dok_fr {n : Nat} {q : Int × Int} : Dok (n + 2) (frT q) := ⟨by show 2 ≤ sizeLine; decide, fun x hx => by
  simp only [List.mem_cons, List.not_mem_nil, or_false] at hx
  rcases hx with rfl | rfl <;> trivial⟩
theorem dok_list {n : Nat} {xs : List PyData} (h : xs.length ≤ 64) (h2 : ∀ x ∈ xs, Dok n x) : Dok (n + 1) (.list xs) := ⟨Nat.le_trans h (by decide), h2⟩
theorem sm_dr {p q : Int × Int} (hp : DrQ p) (hq : DrQ q) : Sm2 p q := sm2_of hp.1 hp.2.1 hq.1 hq.2.1 (by decide)
theorem smT_dr {p q : Int × Int} (hp : DrQ p) (hq : DrQ q) : SmT p q := ⟨sm_dr hp hq, .inl (Nat.lt_trans hp.2.2.1 (by decide))⟩
theorem smB_dr {p q : Int × Int} (hp : DrQ p) (hq : DrQ q) : SmB p q := ⟨hp.1, Int.lt_of_le_of_lt hp.2.1 (by decide), hq.1, Int.lt_of_le_of_lt hq.2.1 (by decide)⟩
theorem smO_dr {p q : Int × Int} (hp : DrQ p) (hq : DrQ q) : SmO p q := ⟨hp.1, Int.lt_of_le_of_lt hp.2.1 (by decide), hq.1, Int.lt_of_le_of_lt hq.2.1 (by decide), abs_mul_lt hp.1 hp.2.1 hq.2.2.1⟩
/-! ### what is proved of each def, at one floor -/
structure KF (M : Mo) (k : Nat) : Prop where
  take : FnM M k "_law_take" SpTake
  of : FnM M k "_law_of" SpOf
  drawn : FnM M k "_law_drawn" SpDrawn
  lists : FnM M k "_law_lists" (SpD (P_lists 8) Q_lists)
  same : FnM M k "_law_same" (SpD (P_same 8) Q_same)
  lf : FnM M k "_law_frac" (SpD P_lf Q_lf)
  lplus : FnM M k "_law_plus" (SpD (P_2 Sm2) (Q_2 plusQ))
  lless : FnM M k "_law_less" (SpD (P_2 Sm2) (Q_2 lessQ))
  ltimes : FnM M k "_law_times" (SpD (P_2 SmT) (Q_2 timesQ))
  lbelow : FnM M k "_law_below" (SpD (P_2 SmB) Q_lb)
  lsum : FnM M k "_law_sum" (SpD P_l6 fun g d => d = frT (g.foldl plusQ (0, 1)))
  heard : FnM M k "_law_heard" (SpD P_hd Q_hd)
  is : FnM M k "_law_is" (SpD (fun g ds => ds = [g] ∧ Tame g) fun g d => d = .bool (isFrD g))
  plus : FnM M k "plus" (SpD (P_2 Sm2) (Q_2 plusQ))
  less : FnM M k "less" (SpD (P_2 Sm2) (Q_2 lessQ))
  times : FnM M k "times" (SpD (P_2 SmT) (Q_2 timesQ))
  atm : FnM M k "at_most" (SpD (P_2 SmB) Q_le)
  least : FnM M k "least_of" (SpD (P_ls 1000000) fun g d => d = frT (g.foldl minQ (g.headD (0, 1))))
  great : FnM M k "greatest_of" (SpD (P_ls 1000000) fun g d => d = frT (g.foldl maxQ (g.headD (0, 1))))
  sum : FnM M k "sum_of" (SpD P_l6 fun g d => d = frT (g.foldl plusQ (0, 1)))
  cb : FnM M k "common_bottom" (SpD P_l6 fun g d => d = .int (lcmQ g))
  wt : FnM M k "whole_tops" (SpD P_l6 fun g d => d = .tuple (g.map fun q => .int (q.1 * (lcmQ g / q.2))))
  rest : FnM M k "rest_of" (SpD P_1 fun g d => d = frT (lessQ (1, 1) g))
  between : FnM M k "between" (SpD P_3 fun g d => d = frT (mixQ g.1 g.2.1 g.2.2))
  isfr : FnM M k "is_fraction" (SpD (fun g ds => ds = [g]) fun g d => d = .bool (isFrD g))
  cells : FnM M k "_law_cells" (SpD P_cells Q_cells)
  box : FnN M k "_law_box" P_box Q_box
abbrev lapBody : List Stmt := match (defBody T.law.st) with | _ :: .For _ _ b _ _ :: _ => b | _ => []
abbrev lapRest : List Stmt := match lapBody with | _ :: _ :: r => r | _ => []
abbrev lapRest3 : List Stmt := match lapRest with | _ :: _ :: _ :: _ :: r => r | _ => []
theorem dok_ut : Dok 8 (.list [.str "Unfit", .bool true]) := dok_list (by show 2 ≤ 64; decide) fun x hx => by
  simp only [List.mem_cons, List.not_mem_nil, or_false] at hx
  rcases hx with rfl | rfl
  · exact (by decide +kernel : SeqAt.shaped (.str "Unfit") = true)
  · trivial
theorem dok_told (q : Int × Int) : Dok 8 (.list [.str "told", frT q]) := dok_list (by show 2 ≤ 64; decide) fun x hx => by
  simp only [List.mem_cons, List.not_mem_nil, or_false] at hx
  rcases hx with rfl | rfl
  · exact (by decide +kernel : SeqAt.shaped (.str "told") = true)
  · exact dok_fr
abbrev lapRest5 : List Stmt := match lapRest3 with | _ :: _ :: r => r | _ => []
abbrev lapRest8 : List Stmt := match lapRest5 with | _ :: _ :: _ :: r => r | _ => []

/-! ## part K00G -/
open PySem PySem.Spec PyProof.Rows L2 RZ Y
theorem tame_non {x : PyData} (h : tupD 2 x = false) (h2 : ∀ xs, x = .tuple xs → xs.length ≤ 10) : Tame x := ⟨fun z => (by rw [h] at z; exact nomatch z), h2⟩
theorem tame_pair {u v : PyData} (hu : Sc u) (hv : Sc v) (hb : ∀ b, v = .int b → b.natAbs < 2 ^ 64) : Tame (.tuple [u, v]) := ⟨fun _ => ⟨u, v, rfl, hu, hv, hb⟩, fun xs h => by
  injection h with h
  subst h
  exact Nat.le_of_ble_eq_true rfl⟩
section
variable {M : Mo} {k : Nat} (B : T.MB M)
include B
theorem b_lap8 (hf : KF M k) (W : Wr) (s x : PyData) (o9 o10 o11 o12 o13 o14 : Sl) (pa : Addr) (l : List PyData) (n : Nat) (hl : TinOk n l) (p q : Int × Int) (hp : DrQ p) (hq : DrQ q) :
    DSs (T.law.Γ M k W nowx) lapRest8 [.va s, .ow pa l, .va x, .va (frT p), .va (frT q), .va (.int p.1), .va (.int p.2), .va (.int q.1), .va (.int q.2), o9, o10, o11, o12, o13, o14, .un, .un, .un, .un, .un, .un, .un, .un, .un]
      { nx := fun ρ' => ∃ l', TinOk (n + 0) l' ∧ Le [.va s, .ow pa l', .un, .un, .un, .un, .un, .un, .un, .un, .un, .un, .un, .un, .un, .un, .un, .un, .un, .un, .un, .un, .un, .un] ρ', rt := fun d _ => d = .bool true } := by
  obtain ⟨a, b⟩ := p
  obtain ⟨c, d⟩ := q
  have h1 : 0 < b := hp.1
  have h2 : b ≤ 99 := hp.2.1
  have h3 : a.natAbs < 2 ^ 40 := hp.2.2.1
  have h4 : 0 < d := hq.1
  have h5 : d ≤ 99 := hq.2.1
  have h6 : c.natAbs < 2 ^ 40 := hq.2.2.1
  have hf' := hf
  cases hf'
  cases (T.law.fa B : T.law.Fa M k W nowx)
  change DSs _ _ [.va s, .ow pa l, .va x, .va (.tuple [.int a, .int b]), .va (.tuple [.int c, .int d]), .va (.int a), .va (.int b), .va (.int c), .va (.int d), o9, o10, o11, o12, o13, o14, .un, .un, .un, .un, .un, .un, .un, .un, .un] _
  refine dss_cons ?_
  walk_at "ym"
  refine ⟨fun i ρ => ∃ o, ρ = [.va s, .ow pa l, .va x, .va (.tuple [.int a, .int b]), .va (.tuple [.int c, .int d]), .va (.int a), .va (.int b), .va (.int c), .va (.int d), o9, o10, o11, o12, o13, o14, o, .un, .un, .un, .un, .un, .un, .un, .un], ⟨_, rfl⟩, ?_, ?_⟩
  · rintro i dd _ hi ⟨o, rfl⟩
    have ht : Tame dd := by
      have hm := List.mem_of_getElem? hi
      simp only [List.mem_cons, List.not_mem_nil, or_false] at hm
      rcases hm with rfl | rfl | rfl | rfl | rfl | rfl | rfl | rfl | rfl | rfl | rfl | rfl | rfl | rfl | rfl | rfl | rfl | rfl
      all_goals first
        | exact tame_non rfl (by intro xs hx; first | (injection hx with hx; subst hx; exact Nat.le_of_ble_eq_true rfl) | exact nomatch hx)
        | exact tame_pair (.inl ⟨_, rfl⟩) (.inl ⟨_, rfl⟩) (fun j hj => by injection hj with hj; omega)
        | exact tame_pair (.inr (.inl ⟨_, rfl⟩)) (.inl ⟨_, rfl⟩) (fun j hj => by injection hj with hj; omega)
        | exact tame_pair (.inl ⟨_, rfl⟩) (.inr (.inl ⟨_, rfl⟩)) (fun j hj => nomatch hj)
        | exact tame_pair (.inl ⟨_, rfl⟩) (.inr (.inr rfl)) (fun j hj => nomatch hj)
    walk_at "yy"
    intro e he
    subst he
    walk_at "yy"
    refine ⟨dd, ⟨rfl, ht⟩, fun e he => ?_⟩
    obtain rfl := he
    walk_at "yy"
    refine if_f (by simp [PyData.eqv]) ?_
    walk_at "yy"
    exact ⟨_, rfl⟩
  · rintro _ ⟨o, rfl⟩
    refine dss_nil ?_
    refine ⟨l, hl, ?_⟩
    repeat (first | exact le_nil | refine le_cons ?_ | refine le_unc ?_)
end

/-! ## part K00H -/
open PySem PySem.Spec PyProof.Rows L2 RZ Y
theorem sm2_1 {s : Int × Int} (hs : SmD s) : Sm2 (1, 1) s := sm2_of (n := 1) (m := 99) (show (0 : Int) < 1 by decide) (show (1 : Int) ≤ 1 by decide) hs.1 hs.2.1 (by decide)
theorem smd_11 : SmD (1, 1) := ⟨by decide, by decide, by decide⟩
theorem smd_01 : SmD (0, 1) := ⟨by decide, by decide, by decide⟩
section
variable {M : Mo} {k : Nat} (B : T.MB M)
include B
theorem b_lap5 (hf : KF M k) (W : Wr) (s x : PyData) (o9 o10 o11 o12 : Sl) (pa : Addr) (l : List PyData) (n : Nat) (hl : TinOk n l) (hn : n < 2 ^ 39) (p q : Int × Int) (hp : DrQ p) (hq : DrQ q) :
    DSs (T.law.Γ M k W nowx) lapRest5 [.va s, .ow pa l, .va x, .va (frT p), .va (frT q), .va (.int p.1), .va (.int p.2), .va (.int q.1), .va (.int q.2), o9, o10, o11, o12, .un, .un, .un, .un, .un, .un, .un, .un, .un, .un, .un]
      { nx := fun ρ' => ∃ l', TinOk (n + 1) l' ∧ Le [.va s, .ow pa l', .un, .un, .un, .un, .un, .un, .un, .un, .un, .un, .un, .un, .un, .un, .un, .un, .un, .un, .un, .un, .un, .un] ρ', rt := fun d _ => d = .bool true } := by
  obtain ⟨a, b⟩ := p
  obtain ⟨c, d⟩ := q
  have h1 : 0 < b := hp.1
  have h2 : b ≤ 99 := hp.2.1
  have h3 : a.natAbs < 2 ^ 40 := hp.2.2.1
  have h4 : 0 < d := hq.1
  have h5 : d ≤ 99 := hq.2.1
  have h6 : c.natAbs < 2 ^ 40 := hq.2.2.1
  have hf' := hf
  cases hf'
  cases (T.law.fa B : T.law.Fa M k W nowx)
  change DSs _ _ [.va s, .ow pa l, .va x, .va (.tuple [.int a, .int b]), .va (.tuple [.int c, .int d]), .va (.int a), .va (.int b), .va (.int c), .va (.int d), o9, o10, o11, o12, .un, .un, .un, .un, .un, .un, .un, .un, .un, .un, .un] _
  refine dss_cons ?_
  walk_at "ym"
  walk_at "tk"
  intro r1 l1 a1 b1 t1
  walk_at "ym"
  refine ⟨(r1, b), ⟨rfl, by show b ≠ 0; omega, by show b.natAbs < _; omega⟩, fun e he => ?_⟩
  have he : e = frT (redQ r1 b) := he
  have hs : SmD (redQ r1 b) := by
    have z1 := redQ_pos (t := r1) (show b ≠ 0 by omega)
    have z2 := redQ_le (t := r1) (show b ≠ 0 by omega)
    have z3 := redQ_top (t := r1) (show b ≠ 0 by omega)
    exact ⟨z1, by omega, by omega⟩
  revert he hs
  generalize redQ r1 b = sq
  intro he hs
  subst he
  have hr := rest_small hs
  have ts := times_small hp.1 hp.2.1 hs.1 hs.2.1
  have tr := times_small hq.1 hq.2.1 hr.1 hr.2
  walk_at "ym"
  refine ⟨(sq, (a, b)), ⟨_, _, rfl, isFr_T sq, isFr_T (a, b), sm2_of hs.1 hs.2.1 hp.1 hp.2.1 (by decide), .inl (Nat.lt_trans hs.2.2 (by decide))⟩, fun e he => ?_⟩
  have he : e = frT (timesQ sq (a, b)) := he
  rw [timesQ_comm] at he
  subst he
  walk_at "ym"
  refine ⟨((1, 1), sq), ⟨_, _, rfl, .inr rfl, isFr_T sq, sm2_1 hs⟩, fun e he => ?_⟩
  have he : e = frT (lessQ (1, 1) sq) := he
  subst he
  walk_at "ym"
  refine ⟨(lessQ (1, 1) sq, (c, d)), ⟨_, _, rfl, isFr_T _, isFr_T (c, d), sm2_of hr.1 hr.2 hq.1 hq.2.1 (by decide), .inr (Nat.lt_trans hq.2.2.1 (by decide))⟩, fun e he => ?_⟩
  have he : e = frT (timesQ (lessQ (1, 1) sq) (c, d)) := he
  rw [timesQ_comm] at he
  subst he
  walk_at "ym"
  refine ⟨(timesQ (a, b) sq, timesQ (c, d) (lessQ (1, 1) sq)), ⟨_, _, rfl, isFr_T _, isFr_T _, sm2_of ts.1 ts.2 tr.1 tr.2 (by decide)⟩, fun e he => ?_⟩
  have he : e = frT (mixQ (a, b) (c, d) sq) := he
  subst he
  walk_at "ym"
  refine ⟨dok_fr (q := sq), ?_⟩
  walk_at "ym"
  refine ⟨sq, ⟨_, rfl, isFr_L, hs.1, Int.lt_of_le_of_lt hs.2.1 (by decide)⟩, fun e he => ?_⟩
  subst he
  walk_at "ym"
  refine ⟨((a, b), (c, d), sq), ⟨_, _, _, rfl, isFr_T (a, b), isFr_T (c, d), isFr_T sq, hp.sm, hq.sm, hs⟩, fun e he => ?_⟩
  have he : e = frT (mixQ (a, b) (c, d) sq) := he
  subst he
  walk_at "ym"
  refine ⟨((a, b), (c, d), (1, 1)), ⟨_, _, _, rfl, isFr_T (a, b), isFr_T (c, d), .inr rfl, hp.sm, hq.sm, smd_11⟩, fun e he => ?_⟩
  have he : e = frT (mixQ (a, b) (c, d) (1, 1)) := he
  rw [mixQ_1 hp hq] at he
  subst he
  walk_at "ym"
  refine ⟨((a, b), (c, d), (0, 1)), ⟨_, _, _, rfl, isFr_T (a, b), isFr_T (c, d), .inr rfl, hp.sm, hq.sm, smd_01⟩, fun e he => ?_⟩
  have he : e = frT (mixQ (a, b) (c, d) (0, 1)) := he
  rw [mixQ_0 hp hq] at he
  subst he
  walk_at "ym"
  refine ⟨((1, 1), sq), ⟨_, _, rfl, .inr rfl, isFr_T sq, sm2_1 hs⟩, fun e he => ?_⟩
  have he : e = frT (lessQ (1, 1) sq) := he
  subst he
  walk_at "ym"
  refine ⟨?_, ?_⟩
  · refine dok_list (by show 4 ≤ 64; decide) fun x hx => ?_
    simp only [List.mem_cons, List.not_mem_nil, or_false] at hx
    rcases hx with rfl | rfl | rfl | rfl <;> exact dok_fr
  walk_at "nn"
  refine dss_nil ?_
  exact b_lap8 B hf W s x _ _ _ _ _ _ pa l1 (n + 1) t1 (a, b) (c, d) hp hq
theorem b_lap3 (hf : KF M k) (W : Wr) (s x : PyData) (o9 o10 : Sl) (pa : Addr) (l : List PyData) (n : Nat) (hl : TinOk n l) (hn : n < 2 ^ 38) (p q : Int × Int) (hp : DrQ p) (hq : DrQ q) :
    DSs (T.law.Γ M k W nowx) lapRest3 [.va s, .ow pa l, .va x, .va (frT p), .va (frT q), .va (.int p.1), .va (.int p.2), .va (.int q.1), .va (.int q.2), o9, o10, .un, .un, .un, .un, .un, .un, .un, .un, .un, .un, .un, .un, .un]
      { nx := fun ρ' => ∃ l', TinOk (n + 5) l' ∧ Le [.va s, .ow pa l', .un, .un, .un, .un, .un, .un, .un, .un, .un, .un, .un, .un, .un, .un, .un, .un, .un, .un, .un, .un, .un, .un] ρ', rt := fun d _ => d = .bool true } := by
  obtain ⟨a, b⟩ := p
  obtain ⟨c, d⟩ := q
  have h1 : 0 < b := hp.1
  have h2 : b ≤ 99 := hp.2.1
  have h3 : a.natAbs < 2 ^ 40 := hp.2.2.1
  have h4 : 0 < d := hq.1
  have h5 : d ≤ 99 := hq.2.1
  have h6 : c.natAbs < 2 ^ 40 := hq.2.2.1
  have hf' := hf
  cases hf'
  cases (T.law.fa B : T.law.Fa M k W nowx)
  change DSs _ _ [.va s, .ow pa l, .va x, .va (.tuple [.int a, .int b]), .va (.tuple [.int c, .int d]), .va (.int a), .va (.int b), .va (.int c), .va (.int d), o9, o10, .un, .un, .un, .un, .un, .un, .un, .un, .un, .un, .un, .un, .un] _
  refine dss_cons ?_
  walk_at "ym"
  walk_at "tk"
  intro r1 l1 a1 b1 t1
  walk_at "ym"
  refine ⟨_, _, _, _, rfl, t1, by omega, seqD_l, List.cons_ne_nil _ _, by show 5 < 2 ^ 40; decide, ?_⟩
  intro e l2 hm t2
  obtain ⟨ti, rfl⟩ : ∃ i : Int, e = .int i := by
    simp only [List.mem_cons, List.not_mem_nil, or_false] at hm
    rcases hm with h | h | h | h | h <;> exact ⟨_, h⟩
  clear hm
  walk_at "ym"
  walk_at "tk"
  intro r3 l3 a3 b3 t3
  walk_at "ym"
  refine ⟨_, _, _, _, rfl, t3, by omega, seqD_l, List.cons_ne_nil _ _, by show 6 < 2 ^ 40; decide, ?_⟩
  intro e l4 hm t4
  obtain ⟨bi, rfl, hb⟩ : ∃ i : Int, e = .int i ∧ i.natAbs < 2 ^ 64 := by
    simp only [List.mem_cons, List.not_mem_nil, or_false] at hm
    rcases hm with h | h | h | h | h | h <;> exact ⟨_, h, by omega⟩
  clear hm
  walk_at "ym"
  refine ⟨.inl (ti, bi), ⟨rfl, hb⟩, fun e he => ?_⟩
  have he : e = if bi = 0 then .list [.str "Unfit", .bool true] else .list [.str "told", frT (redQ ti bi)] := he
  by_cases h0 : bi = 0
  · rw [if_pos h0] at he
    subst he
    walk_at "yy"
    refine if_f (by simp [PyData.eqv, h0]) ?_
    walk_at "yy"
    refine ⟨dok_ut, ?_⟩
    walk_at "nn"
    refine dss_nil ?_
    exact b_lap5 B hf W s x _ _ _ _ pa l4 (n + 1 + 1 + 1 + 1) t4 (by omega) (a, b) (c, d) hp hq
  · rw [if_neg h0] at he
    subst he
    walk_at "yy"
    refine if_t (by simp [PyData.eqv, h0]) ?_
    walk_at "ym"
    refine ⟨(ti, bi), ⟨rfl, h0, hb⟩, fun e he => ?_⟩
    have he : e = frT (redQ ti bi) := he
    subst he
    walk_at "yy"
    refine ⟨dok_told _, ?_⟩
    walk_at "nn"
    refine dss_nil ?_
    exact b_lap5 B hf W s x _ _ _ _ pa l4 (n + 1 + 1 + 1 + 1) t4 (by omega) (a, b) (c, d) hp hq
end

/-! ## part K00I -/
open PySem PySem.Spec PyProof.Rows L2 RZ Y
section
variable {M : Mo} {k : Nat} (B : T.MB M)
include B
theorem b_lap2 (hf : KF M k) (W : Wr) (s x : PyData) (pa : Addr) (l : List PyData) (n : Nat) (hl : TinOk n l) (hn : n < 2 ^ 38) (p q : Int × Int) (hp : DrQ p) (hq : DrQ q) :
    DSs (T.law.Γ M k W nowx) lapRest [.va s, .ow pa l, .va x, .va (frT p), .va (frT q), .un, .un, .un, .un, .un, .un, .un, .un, .un, .un, .un, .un, .un, .un, .un, .un, .un, .un, .un]
      { nx := fun ρ' => ∃ l', TinOk (n + 5) l' ∧ Le [.va s, .ow pa l', .un, .un, .un, .un, .un, .un, .un, .un, .un, .un, .un, .un, .un, .un, .un, .un, .un, .un, .un, .un, .un, .un] ρ', rt := fun d _ => d = .bool true } := by
  obtain ⟨a, b⟩ := p
  obtain ⟨c, d⟩ := q
  have h1 : 0 < b := hp.1
  have h2 : b ≤ 99 := hp.2.1
  have h3 : a.natAbs < 2 ^ 40 := hp.2.2.1
  have h4 : 0 < d := hq.1
  have h5 : d ≤ 99 := hq.2.1
  have h6 : c.natAbs < 2 ^ 40 := hq.2.2.1
  have hf' := hf
  cases hf'
  cases (T.law.fa B : T.law.Fa M k W nowx)
  have h7 : 0 < b * d := Int.mul_pos h1 h4
  have h8 : b * d ≤ 99 * 99 := Int.mul_le_mul h2 h5 (by omega) (by omega)
  change DSs _ _ [.va s, .ow pa l, .va x, .va (.tuple [.int a, .int b]), .va (.tuple [.int c, .int d]), .un, .un, .un, .un, .un, .un, .un, .un, .un, .un, .un, .un, .un, .un, .un, .un, .un, .un, .un] _
  refine dss_cons ?_
  walk_at "yy"
  refine ⟨dok_fr (q := (a, b)), ?_⟩
  walk_at "yy"
  refine ⟨((a, b), (c, d)), ⟨_, _, rfl, isFr_L (q := (a, b)), isFr_T (c, d), sm_dr hp hq⟩, fun e he => ?_⟩
  obtain rfl := he
  walk_at "yy"
  refine ⟨dok_fr (q := (c, d)), ?_⟩
  walk_at "yy"
  refine ⟨((a, b), (c, d)), ⟨_, _, rfl, isFr_T (a, b), isFr_L (q := (c, d)), sm_dr hp hq⟩, fun e he => ?_⟩
  obtain rfl := he
  walk_at "yy"
  refine ⟨((a, b), (c, d)), ⟨_, _, rfl, isFr_T (a, b), isFr_T (c, d), smT_dr hp hq⟩, fun e he => ?_⟩
  obtain rfl := he
  walk_at "yy"
  refine ⟨((a, b), (c, d)), ⟨_, _, rfl, isFr_T (a, b), isFr_T (c, d), smB_dr hp hq⟩, fun e he => ?_⟩
  obtain rfl := he
  walk_at "yy"
  refine ⟨((c, d), (a, b)), ⟨_, _, rfl, isFr_T (c, d), isFr_T (a, b), smB_dr hq hp⟩, fun e he => ?_⟩
  obtain rfl := he
  walk_at "ym"
  refine ⟨(a * d + c * b, b * d), ⟨rfl, by show b * d ≠ 0; omega, by show (b * d).natAbs < _; omega⟩, fun e he => ?_⟩
  obtain rfl := he
  walk_at "ym"
  refine ⟨(a * d - c * b, b * d), ⟨rfl, by show b * d ≠ 0; omega, by show (b * d).natAbs < _; omega⟩, fun e he => ?_⟩
  obtain rfl := he
  walk_at "ym"
  refine ⟨(a * c, b * d), ⟨rfl, by show b * d ≠ 0; omega, by show (b * d).natAbs < _; omega⟩, fun e he => ?_⟩
  obtain rfl := he
  walk_at "ym"
  refine ⟨?_, ?_⟩
  · refine dok_list (by show 5 ≤ 64; decide) fun x hx => ?_
    simp only [List.mem_cons, List.not_mem_nil, or_false] at hx
    rcases hx with rfl | rfl | rfl | rfl | rfl <;> first | exact dok_fr | trivial
  walk_at "yy"
  refine ⟨dok_fr (q := (c, d)), ?_⟩
  walk_at "yy"
  refine ⟨.inr ((a, b), (c, d)), ⟨_, _, rfl, isFr_T (a, b), isFr_L (q := (c, d)), smO_dr hp hq⟩, fun e he => ?_⟩
  have he : e = if c = 0 then .list [.str "Unfit", .bool true] else .list [.str "told", frT (overQ (a, b) (c, d))] := he
  have hbc := abs_mul_lt h1 h2 h6
  by_cases hc : c = 0
  · rw [if_pos hc] at he
    subst he
    walk_at "yy"
    refine if_f (by simp [PyData.eqv, hc]) ?_
    walk_at "yy"
    refine ⟨dok_ut, ?_⟩
    walk_at "nn"
    refine dss_nil ?_
    exact b_lap3 B hf W s x _ _ pa l n hl hn (a, b) (c, d) hp hq
  · rw [if_neg hc] at he
    subst he
    walk_at "yy"
    refine if_t (by simp [PyData.eqv, hc]) ?_
    walk_at "ym"
    refine ⟨(a * d, b * c), ⟨rfl, fun z => hc ((Int.mul_eq_zero.mp z).elim (fun z => by omega) id), by show (b * c).natAbs < _; exact hbc⟩, fun e he => ?_⟩
    obtain rfl := he
    walk_at "yy"
    refine ⟨dok_told _, ?_⟩
    walk_at "nn"
    refine dss_nil ?_
    exact b_lap3 B hf W s x _ _ pa l n hl hn (a, b) (c, d) hp hq
end

/-! ## part K00J -/
open PySem PySem.Spec PyProof.Rows L2 RZ Y
section
variable {M : Mo} {k : Nat} (B : T.MB M)
include B
theorem b_lap (hf : KF M k) (W : Wr) (s x : PyData) (pa : Addr) (l : List PyData) (n : Nat) (hl : TinOk n l) (hn : n < 2 ^ 37) :
    DSs (T.law.Γ M k W nowx) lapBody [.va s, .ow pa l, .va x, .un, .un, .un, .un, .un, .un, .un, .un, .un, .un, .un, .un, .un, .un, .un, .un, .un, .un, .un, .un, .un]
      { nx := fun ρ' => ∃ l', TinOk (n + 20) l' ∧ Le [.va s, .ow pa l', .un, .un, .un, .un, .un, .un, .un, .un, .un, .un, .un, .un, .un, .un, .un, .un, .un, .un, .un, .un, .un, .un] ρ', rt := fun d _ => d = .bool true } := by
  have hf' := hf
  cases hf'
  cases (T.law.fa B : T.law.Fa M k W nowx)
  refine dss_cons ?_
  walk_at "yy"
  refine ⟨n, hl, by omega, fun p l1 hp t1 => ?_⟩
  walk_at "yy"
  refine ⟨n + 7, t1, by omega, fun q l2 hq t2 => ?_⟩
  walk_at "yy"
  walk_at "tk"
  intro r3 l3 a3 b3 t3
  walk_at "yy"
  refine if_c (fun hc => ?_) (fun hc => ?_)
  · refine dss_cons ?_
    walk_at "s1"
    walk_at "nn"
    refine dss_nil ?_
    exact (b_lap2 B hf W s x pa l3 (n + 7 + 7 + 1) t3 (by omega) p p hp hp).mono (fun ρ' ⟨l', z1, z2⟩ => ⟨l', z1, z2⟩) (fun d _ z => z) (fun _ z => z) (fun _ z => z)
  · refine dss_nil ?_
    exact (b_lap2 B hf W s x pa l3 (n + 7 + 7 + 1) t3 (by omega) p q hp hq).mono (fun ρ' ⟨l', z1, z2⟩ => ⟨l', z1, z2⟩) (fun d _ z => z) (fun _ z => z) (fun _ z => z)
end

/-! ## part K00N -/
/-! the numbers of the rows: plain Lean -/
open PySem PySem.Spec PyProof.Rows L2 RZ Y
theorem lcmI_lcm {a b : Int} (ha : 0 < a) (hb : 0 < b) : lcmI a b = (Int.lcm a b : Int) := by
  have hg := gI_pos (a := a) (show b ≠ 0 by omega)
  have h : (Int.gcd a b : Int) * (Int.lcm a b : Int) = a * b := by
    have h := Int.gcd_mul_lcm a b
    have h2 : ((Int.gcd a b * Int.lcm a b : Nat) : Int) = ((a * b).natAbs : Int) := by rw [h, Int.natAbs_mul]
    rw [Int.natCast_mul] at h2
    have h3 : 0 < a * b := Int.mul_pos ha hb
    omega
  unfold lcmI
  rw [← h]
  exact Int.mul_ediv_cancel_left _ (by unfold gI at hg; omega)
theorem lcmI_pos {a b : Int} (ha : 0 < a) (hb : 0 < b) : 0 < lcmI a b := (lcmI_small ha (Int.le_refl a) hb (Int.le_refl b)).1
theorem dvd_lcmI_l {a b : Int} (ha : 0 < a) (hb : 0 < b) : a ∣ lcmI a b := by
  rw [lcmI_lcm ha hb]
  exact Int.dvd_lcm_left _ _
theorem dvd_lcmI_r {a b : Int} (ha : 0 < a) (hb : 0 < b) : b ∣ lcmI a b := by
  rw [lcmI_lcm ha hb]
  exact Int.dvd_lcm_right _ _
theorem lcmI_dvd {a b n : Int} (ha : 0 < a) (hb : 0 < b) (h1 : a ∣ n) (h2 : b ∣ n) : lcmI a b ∣ n := by
  rw [lcmI_lcm ha hb]
  exact Int.coe_lcm_dvd h1 h2
theorem lcm_fold : ∀ (qs : List (Int × Int)) (f0 : Int), 0 < f0 → (∀ q ∈ qs, 0 < q.2) → 0 < qs.foldl (fun f q => lcmI f q.2) f0 ∧ f0 ∣ qs.foldl (fun f q => lcmI f q.2) f0 ∧ (∀ q ∈ qs, q.2 ∣ qs.foldl (fun f q => lcmI f q.2) f0) ∧ ∀ n, f0 ∣ n → (∀ q ∈ qs, q.2 ∣ n) → qs.foldl (fun f q => lcmI f q.2) f0 ∣ n
  | [], f0, h, _ => ⟨h, Int.dvd_refl _, fun q hq => absurd hq List.not_mem_nil, fun n h _ => h⟩
  | q :: r, f0, h, hq => by
    have h2 := hq q List.mem_cons_self
    obtain ⟨i1, i2, i3, i4⟩ := lcm_fold r (lcmI f0 q.2) (lcmI_pos h h2) (fun x hx => hq x (List.mem_cons_of_mem _ hx))
    rw [List.foldl_cons]
    refine ⟨i1, Int.dvd_trans (dvd_lcmI_l h h2) i2, fun x hx => ?_, fun n hn hr => i4 n (lcmI_dvd h h2 hn (hr q List.mem_cons_self)) (fun x hx => hr x (List.mem_cons_of_mem _ hx))⟩
    rcases List.mem_cons.mp hx with e | hx
    · rw [e]
      exact Int.dvd_trans (dvd_lcmI_r h h2) i2
    · exact i3 x hx
theorem lcmQ_dvd {qs : List (Int × Int)} (h : ∀ q ∈ qs, 0 < q.2) {q : Int × Int} (hq : q ∈ qs) : q.2 ∣ lcmQ qs := (lcm_fold qs 1 (by decide) h).2.2.1 q hq
theorem lcmQ_least {qs : List (Int × Int)} (h : ∀ q ∈ qs, 0 < q.2) {n : Int} (hn : ∀ q ∈ qs, q.2 ∣ n) : lcmQ qs ∣ n := (lcm_fold qs 1 (by decide) h).2.2.2 n (Int.one_dvd n) hn
theorem fmod_zero {a b : Int} (hb : 0 < b) : a.fmod b = 0 ↔ b ∣ a := by
  rw [Int.fmod_eq_emod_of_nonneg a (by omega)]
  exact ⟨Int.dvd_of_emod_eq_zero, Int.emod_eq_zero_of_dvd⟩
/-- below the least common bottom some bottom does not divide -/
theorem some_not {qs : List (Int × Int)} (h : ∀ q ∈ qs, 0 < q.2) {n : Int} (h1 : 0 < n) (h2 : n < lcmQ qs) : ∃ q ∈ qs, n.fmod q.2 ≠ 0 := by
  refine Classical.byContradiction fun hn => ?_
  have hd := lcmQ_least h (n := n) fun q hq => Classical.byContradiction fun z => hn ⟨q, hq, fun e => z ((fmod_zero (h q hq)).mp e)⟩
  have := Int.le_of_dvd h1 hd
  omega
/-- one more -/
theorem red_lcm {m b : Int} (hm : 0 < m) (hb : 0 < b) : m * (redQ b m).1 = lcmI m b := by
  unfold redQ lcmI
  rw [if_neg (by omega), gI_comm b m]
  obtain ⟨c, e⟩ := gI_dr m b
  have hg := gI_pos (a := m) (show b ≠ 0 by omega)
  show m * (b / gI m b) = m * b / gI m b
  rw [Int.mul_ediv_assoc _ (gI_dr m b)]
theorem min_law (p q : Int × Int) : (if q.1 * p.2 < p.1 * q.2 then q else p) = minQ p q := by
  unfold minQ
  by_cases h : p.1 * q.2 ≤ q.1 * p.2
  · rw [if_pos h, if_neg (by omega)]
  · rw [if_neg h, if_pos (by omega)]
theorem max_law (p q : Int × Int) : (if p.1 * q.2 < q.1 * p.2 then q else p) = maxQ p q := by
  unfold maxQ
  by_cases h : q.1 * p.2 ≤ p.1 * q.2
  · rw [if_pos h, if_neg (by omega)]
  · rw [if_neg h, if_pos (by omega)]
theorem shaped_ints {xs : List PyData} (h : ∀ x ∈ xs, ∃ i, x = .int i) : SeqAt.shaped (.list xs) = true := by
  have : PyData.canLayAll0 xs = true ∧ PyData.depthAll xs = 0 := by
    induction xs with
    | nil => exact ⟨rfl, rfl⟩
    | cons x r ih =>
      obtain ⟨i, rfl⟩ := h x List.mem_cons_self
      have ih := ih fun y hy => h y (List.mem_cons_of_mem _ hy)
      refine ⟨?_, ?_⟩
      · show (PyData.canLay0 (.int i) && PyData.canLayAll0 r) = true
        rw [ih.1]
        rfl
      · show max 0 (PyData.depthAll r) = 0
        rw [ih.2]
        rfl
  show (PyData.canLayAll0 xs && decide (PyData.depthAll xs + 1 ≤ 64)) = true
  rw [this.1, this.2]
  rfl
theorem eqv_nil {x : PyData} {r : List PyData} : PyData.eqv (.list (x :: r)) (.list []) = false := rfl
/-- FRACTIONS as drawn, a row of them -/
def DrAll (qs : List (Int × Int)) : Prop := (∀ q ∈ qs, DrQ q) ∧ qs ≠ [] ∧ qs.length ≤ 6
theorem DrAll.b {qs : List (Int × Int)} (h : DrAll qs) : AllB 99 qs := fun q hq => ⟨(h.1 q hq).1, (h.1 q hq).2.1⟩
theorem DrAll.bm {qs : List (Int × Int)} (h : DrAll qs) : AllB 1000000 qs := fun q hq => ⟨(h.1 q hq).1, Int.le_trans (h.1 q hq).2.1 (by decide)⟩
theorem allFr_map (qs : List (Int × Int)) : AllFr (qs.map frT) qs := ⟨by rw [List.length_map], fun i x hx => by
  rw [List.getElem?_map] at hx
  cases e : qs[i]? with
  | none => rw [e] at hx; cases hx
  | some q =>
    rw [e] at hx
    obtain rfl : frT q = x := Option.some.inj hx
    exact ⟨q, rfl, isFr_T q⟩⟩
theorem allFr_L (qs : List (Int × Int)) : AllFr (toLs (qs.map frT)) qs := ⟨by rw [toLs_map, List.length_map, List.length_map], fun i x hx => by
  rw [toLs_map, List.map_map, List.getElem?_map] at hx
  cases e : qs[i]? with
  | none => rw [e] at hx; cases hx
  | some q =>
    rw [e] at hx
    obtain rfl : toL (frT q) = x := Option.some.inj hx
    exact ⟨q, rfl, isFr_L⟩⟩
theorem dok_row {n : Nat} {qs : List (Int × Int)} (h : qs.length ≤ 6) : Dok (n + 3) (.list (qs.map frT)) := ⟨by rw [List.length_map]; exact Nat.le_trans h (by decide), fun x hx => by
  obtain ⟨q, _, rfl⟩ := List.mem_map.mp hx
  exact dok_fr⟩
theorem dok_rowL {n : Nat} {qs : List (Int × Int)} (h : qs.length ≤ 6) : Dok (n + 3) (toL (.list (qs.map frT))) := by
  rw [toL, toLs_map]
  refine ⟨by rw [List.length_map, List.length_map]; exact Nat.le_trans h (by decide), fun x hx => ?_⟩
  rw [List.map_map] at hx
  obtain ⟨q, _, rfl⟩ := List.mem_map.mp hx
  show Dok (n + 2) (toL (frT q))
  rw [toL_fr]
  refine ⟨Nat.le_of_ble_eq_true rfl, fun y hy => ?_⟩
  simp only [List.mem_cons, List.not_mem_nil, or_false] at hy
  rcases hy with rfl | rfl <;> trivial

/-! ## part K00K -/
open PySem PySem.Spec PyProof.Rows L2 RZ Y
abbrev tailB : List Stmt := match (defBody T.law.st) with | _ :: _ :: r => r | _ => []
abbrev tail4 : List Stmt := match tailB with | _ :: _ :: r => r | _ => []
abbrev tail6 : List Stmt := match tail4 with | _ :: _ :: r => r | _ => []
abbrev tail7 : List Stmt := match tail6 with | _ :: r => r | _ => []
abbrev tail10 : List Stmt := match tail7 with | _ :: _ :: _ :: r => r | _ => []
abbrev tail11 : List Stmt := match tail10 with | _ :: r => r | _ => []
theorem de_val {Γ : Sta} {ρ : Rh} {e : Expr} {v : PyData} {P : PyData → Rh → Prop} (h : DE Γ e ρ fun d ρ1 => d = v ∧ ρ1 = ρ) (k : P v ρ) : DE Γ e ρ P := h.mono fun d ρ1 ⟨e1, e2⟩ => by
  subst e1 e2
  exact k
theorem least_0 : (([] : List (Int × Int)).foldl plusQ (0, 1)) = (0, 1) := rfl
theorem sum_3 : ([(1, 3), (1, 3), (1, 3)] : List (Int × Int)).foldl plusQ (0, 1) = (1, 1) := by decide +kernel
theorem lcm_0 : lcmQ [] = 1 := rfl
theorem lcm_2 : lcmQ [(1, 98), (1, 99)] = 9702 := by decide +kernel
theorem P_l6_of {x : PyData} {xs : List PyData} {qs : List (Int × Int)} (h : SeqD x xs) (e : xs = qs.map frT) (hb : ∀ q ∈ qs, 0 < q.2 ∧ q.2 ≤ 99) (hl : qs.length ≤ 6) : P_l6 qs [x] := by
  subst e
  exact ⟨x, _, rfl, h, allFr_map qs, hb, hl⟩
theorem rgD_len {lo : Int} {n : Nat} : (rgD lo n).length = n := by unfold rgD; rw [List.length_map, List.length_range]
theorem rgD_mem {lo : Int} {m : Nat} {d : PyData} (h : d ∈ rgD lo m) : ∃ n : Int, d = .int n ∧ lo ≤ n ∧ n < lo + m := by
  unfold rgD at h
  obtain ⟨i, hi, rfl⟩ := List.mem_map.mp h
  have := List.mem_range.mp hi
  exact ⟨lo + i, rfl, by omega, by omega⟩
section
variable {M : Mo} {k : Nat} (B : T.MB M)
include B
theorem b_t11 (hf : KF M k) (W : Wr) (ρ : Rh) : DSs (T.law.Γ M k W nowx) tail11 ρ { nx := fun _ => False, rt := fun d _ => d = .bool true } := by
  have hf' := hf
  cases hf'
  cases (T.law.fa B : T.law.Fa M k W nowx)
  refine dss_cons (ds_ret (de_same (by assumption) (by walk_at "g") (fun _ _ => rfl) (fun _ _ => rfl) (da_cons (fun _ _ => rfl) (de_dn (dn_lst ?_)))))
  refine da_cons (fun _ _ => rfl) (de_callD hf.sum (by walk_at "g") (fun _ _ => rfl) (fun _ _ => rfl) ?_)
  walk_at "nn"
  refine ⟨[], P_l6_of (.inr rfl) rfl (fun q hq => absurd hq List.not_mem_nil) (Nat.le_of_ble_eq_true rfl), fun e he => ?_⟩
  have he : e = frT (0, 1) := he
  subst he
  walk_at "nn"
  refine ⟨[], P_l6_of (.inr rfl) rfl (fun q hq => absurd hq List.not_mem_nil) (Nat.le_of_ble_eq_true rfl), fun e he => ?_⟩
  have he : e = .int 1 := he
  subst he
  walk_at "nn"
  refine ⟨[], P_l6_of (.inr rfl) rfl (fun q hq => absurd hq List.not_mem_nil) (Nat.le_of_ble_eq_true rfl), fun e he => ?_⟩
  have he : e = .tuple [] := he
  subst he
  refine da_cons (fun _ _ => rfl) (de_callD hf.sum (by walk_at "g") (fun _ _ => rfl) (fun _ _ => rfl) (da_cons (fun _ _ => rfl) (de_repT ?_)))
  walk_at "nn"
  refine ⟨⟨List.cons_ne_nil _ _, by decide, by decide, by show 1 ≤ 1000; decide⟩, ?_⟩
  walk_at "nn"
  refine ⟨[(1, 3), (1, 3), (1, 3)], P_l6_of (.inr rfl) rfl (by decide) (Nat.le_of_ble_eq_true rfl), fun e he => ?_⟩
  rw [sum_3] at he
  subst he
  walk_at "nn"
  refine ⟨[(1, 98), (1, 99)], P_l6_of (.inr rfl) rfl (by decide) (Nat.le_of_ble_eq_true rfl), fun e he => ?_⟩
  rw [lcm_2] at he
  subst he
  walk_at "nn"
  refine ⟨?_, rfl⟩
  refine dok_list (Nat.le_of_ble_eq_true rfl) fun x hx => ?_
  simp only [List.mem_cons, List.not_mem_nil, or_false] at hx
  rcases hx with rfl | rfl | rfl | rfl | rfl
  · exact dok_fr
  · trivial
  · exact ⟨Nat.zero_le _, fun x hx => absurd hx List.not_mem_nil⟩
  · exact dok_fr
  · trivial
theorem b_t10 (hf : KF M k) (W : Wr) (s : PyData) (pa : Addr) (l : List PyData) (qs : List (Int × Int)) (hq : DrAll qs) : DSs (T.law.Γ M k W nowx) tail10 [.va s, .ow pa l, .un, .un, .un, .un, .un, .un, .un, .un, .un, .un, .un, .un, .un, .un, .va (.list (qs.map frT)), .un, .un, .va (.int (lcmQ qs)), .un, .un, .un, .un] { nx := fun _ => False, rt := fun d _ => d = .bool true } := by
  have hf' := hf
  cases hf'
  cases (T.law.fa B : T.law.Fa M k W nowx)
  have hL := lcm_le hq.b hq.2.2
  have hpos : ∀ q ∈ qs, 0 < q.2 := fun q h => (hq.1 q h).1
  refine dss_cons ?_
  walk_at "yy"
  refine de_dn (dn_lc (own := T.law.own2) (blkOk_by (by kernel_rfl)) (fun _ _ => rfl) ?_)
  walk_at "yy"
  refine lcd_pure (fun _ => false) (fun _ => .int 1) (fun j hj p ds => ?_) (by rw [List.length_map]; exact Nat.le_trans hq.2.2 (by decide)) ?_ ?_
  · have : j = 11 ∨ j = 12 := by simpa using hj
    rcases this with rfl | rfl <;> exact fun z => nomatch z
  · intro W' d hdm
    obtain ⟨q, hm, rfl⟩ := List.mem_map.mp hdm
    have hp := hpos q hm
    walk_at "yy"
    refine ⟨by omega, ?_⟩
    walk_at "yy"
    rw [(fmod_zero hp).mpr (lcmQ_dvd hpos hm)]
    exact ⟨rfl, if_f rfl rfl⟩
  · rw [List.filter_eq_nil_iff.mpr (fun _ _ => Bool.false_ne_true)]
    walk_at "yy"
    refine de_dn (dn_lc (own := T.law.own3) (blkOk_by (by kernel_rfl)) (fun _ _ => rfl) ?_)
    walk_at "yy"
    refine ⟨⟨by decide, by decide, by split <;> omega, by split <;> omega⟩, ?_⟩
    refine lcd_pure (fun _ => false) id (fun j hj p ds => ?_) (by rw [rgD_len]; exact Nat.le_trans (show _ ≤ 400 by split <;> omega) (by decide)) ?_ ?_
    · have : j = 23 := by simpa using hj
      subst this
      exact fun z => nomatch z
    · intro W' d hdm
      obtain ⟨n, rfl, hn1, hn2⟩ := rgD_mem hdm
      have hn3 : n < lcmQ qs := by
        revert hn2
        split <;> omega
      obtain ⟨q, hm, hne⟩ := some_not hpos (show 0 < n by omega) hn3
      walk_at "yy"
      refine de_dn (dn_lc (own := T.law.own4) (blkOk_by (by kernel_rfl)) (fun _ _ => rfl) ?_)
      walk_at "yy"
      refine lcd_pure (fun d => match d with | .tuple [_, .int b] => !(n.fmod b == 0) | _ => false) (fun _ => .int 1) (fun j hj p ds => ?_) (by rw [List.length_map]; exact Nat.le_trans hq.2.2 (by decide)) ?_ ?_
      · have : j = 11 ∨ j = 12 := by simpa using hj
        rcases this with rfl | rfl <;> exact fun z => nomatch z
      · intro W'' d hdm
        obtain ⟨q, hm, rfl⟩ := List.mem_map.mp hdm
        have hp := hpos q hm
        walk_at "yy"
        refine ⟨by omega, ?_⟩
        walk_at "yy"
        refine ⟨rfl, if_c (fun _ => ?_) (fun _ => rfl)⟩
        walk_at "yy"
        exact ⟨rfl, rfl⟩
      · walk_at "yy"
        obtain ⟨y, r, e⟩ : ∃ y r, (qs.map frT).filter (fun d => match d with | .tuple [_, .int b] => !(n.fmod b == 0) | _ => false) = y :: r := by
          have hmem : frT q ∈ (qs.map frT).filter (fun d => match d with | .tuple [_, .int b] => !(n.fmod b == 0) | _ => false) := by
            rw [List.mem_filter]
            refine ⟨List.mem_map_of_mem hm, ?_⟩
            show (!(n.fmod q.2 == 0)) = true
            rw [Bool.not_eq_true', beq_eq_false_iff_ne]
            exact hne
          cases e : (qs.map frT).filter (fun d => match d with | .tuple [_, .int b] => !(n.fmod b == 0) | _ => false) with
          | nil => rw [e] at hmem; exact absurd hmem List.not_mem_nil
          | cons y r => exact ⟨y, r, rfl⟩
        rw [e]
        refine ⟨shaped_ints (fun x hx => ?_), rfl, rfl, if_f rfl rfl⟩
        obtain ⟨_, _, rfl⟩ := List.mem_map.mp hx
        exact ⟨1, rfl⟩
    · rw [List.filter_eq_nil_iff.mpr (fun _ _ => Bool.false_ne_true)]
      walk_at "nn"
      refine dss_nil ?_
      exact (b_t11 B hf W _).mono (fun _ z => z) (fun _ _ z => z) (fun _ z => z) (fun _ z => z)
theorem b_t7 (hf : KF M k) (W : Wr) (s : PyData) (pa : Addr) (l : List PyData) (qs : List (Int × Int)) (hq : DrAll qs) : DSs (T.law.Γ M k W nowx) tail7 [.va s, .ow pa l, .un, .un, .un, .un, .un, .un, .un, .un, .un, .un, .un, .un, .un, .un, .va (.list (qs.map frT)), .va (frT (qs.foldl minQ (qs.headD (0, 1)))), .va (frT (qs.foldl maxQ (qs.headD (0, 1)))), .va (.int (lcmQ qs)), .va (.list (qs.map fun q => .int (q.1 * (lcmQ qs / q.2)))), .un, .un, .un] { nx := fun _ => False, rt := fun d _ => d = .bool true } := by
  have hf' := hf
  cases hf'
  cases (T.law.fa B : T.law.Fa M k W nowx)
  have hL := lcm_le hq.b hq.2.2
  refine dss_cons ?_
  walk_at "yy"
  refine ⟨dok_row hq.2.2, ?_⟩
  walk_at "yy"
  refine ⟨qs, ⟨_, toLs (qs.map frT), rfl, .inl (by rw [toL]), allFr_L qs, hq.bm, hq.2.1⟩, fun e he => ?_⟩
  subst he
  walk_at "yy"
  refine ⟨qs, ⟨_, _, rfl, .inr rfl, allFr_map qs, hq.bm, hq.2.1⟩, fun e he => ?_⟩
  subst he
  walk_at "yy"
  refine ⟨qs, P_l6_of (.inr rfl) rfl hq.b hq.2.2, fun e he => ?_⟩
  subst he
  walk_at "yy"
  refine ⟨qs, ⟨_, toLs (qs.map frT), rfl, .inl (by rw [toL]), allFr_L qs, hq.b, hq.2.2⟩, fun e he => ?_⟩
  subst he
  walk_at "yy"
  refine ⟨qs, P_l6_of (.inr rfl) rfl hq.b hq.2.2, fun e he => ?_⟩
  subst he
  walk_at "yy"
  refine ⟨qs, P_l6_of (.inl rfl) rfl hq.b hq.2.2, fun e he => ?_⟩
  subst he
  walk_at "yy"
  refine ⟨?_, ?_⟩
  · refine dok_list (Nat.le_of_ble_eq_true rfl) fun x hx => ?_
    simp only [List.mem_cons, List.not_mem_nil, or_false] at hx
    rcases hx with rfl | rfl | rfl | rfl | rfl
    · exact dok_fr
    · exact dok_fr
    · exact dok_fr
    · trivial
    · refine ⟨by rw [List.length_map]; exact Nat.le_trans hq.2.2 (by decide), fun x hx => ?_⟩
      obtain ⟨q, _, rfl⟩ := List.mem_map.mp hx
      trivial
  walk_at "yy"
  refine ⟨dok_row hq.2.2, ?_⟩
  walk_at "yy"
  refine ⟨dok_rowL hq.2.2, ?_⟩
  walk_at "nn"
  refine dss_nil ?_
  refine dss_le (ρ' := [.va s, .ow pa l, .un, .un, .un, .un, .un, .un, .un, .un, .un, .un, .un, .un, .un, .un, .va (.list (qs.map frT)), .un, .un, .va (.int (lcmQ qs)), .un, .un, .un, .un]) ?_ ((b_t10 B hf W s pa l qs hq).mono (fun _ z => z) (fun _ _ z => z) (fun _ z => z) (fun _ z => z))
  repeat (first | exact le_nil | refine le_cons ?_ | refine le_unc ?_)
theorem b_t4 (hf : KF M k) (W : Wr) (s : PyData) (pa : Addr) (l : List PyData) (qs : List (Int × Int)) (hq : DrAll qs) : DSs (T.law.Γ M k W nowx) tail4 [.va s, .ow pa l, .un, .un, .un, .un, .un, .un, .un, .un, .un, .un, .un, .un, .un, .un, .va (.list (qs.map frT)), .un, .un, .un, .un, .un, .un, .un] { nx := fun _ => False, rt := fun d _ => d = .bool true } := by
  have hf' := hf
  cases hf'
  cases (T.law.fa B : T.law.Fa M k W nowx)
  obtain ⟨q0, qr, rfl⟩ : ∃ q0 qr, qs = q0 :: qr := by
    cases qs with
    | nil => exact absurd rfl hq.2.1
    | cons a b => exact ⟨a, b, rfl⟩
  refine dss_cons ?_
  walk_at "yy"
  refine ⟨fun i ρ => ∃ o11 o12, ρ = [.va s, .ow pa l, .un, .un, .un, .un, .un, .un, .un, .un, .un, o11, o12, .un, .un, .un, .va (.list ((q0 :: qr).map frT)), .va (frT (((q0 :: qr).take i).foldl minQ q0)), .va (frT (((q0 :: qr).take i).foldl maxQ q0)), .va (.int (lcmQ ((q0 :: qr).take i))), .un, .un, .un, .un], ⟨_, _, rfl⟩, ?_, ?_⟩
  · rintro i d _ hi ⟨o11, o12, rfl⟩
    obtain ⟨q, hqi, hd⟩ := (allFr_map (q0 :: qr)).2 i d hi
    have hdq : DrQ q := hq.1 q (List.mem_of_getElem? hqi)
    have hil : i < (q0 :: qr).length := (List.getElem?_eq_some_iff.mp hqi).1
    have hd : d = frT q := by
      rw [List.getElem?_map, hqi] at hi
      exact (Option.some.inj hi).symm
    subst hd
    have hlo := allB_take minQ_or hq.bm (q0 := q0) List.mem_cons_self i
    have hhi := allB_take maxQ_or hq.bm (q0 := q0) List.mem_cons_self i
    have hL := lcm_small hq.b hq.2.2 i (by omega)
    have hp := pow99 (i := i) (by have := hq.2.2; omega)
    have m1 := fold_more (f := minQ) (b := q0) hqi
    have m2 := fold_more (f := maxQ) (b := q0) hqi
    have m3 : lcmQ ((q0 :: qr).take (i + 1)) = lcmI (lcmQ ((q0 :: qr).take i)) q.2 := fold_more hqi
    revert hlo hhi hL m1 m2 m3
    generalize ((q0 :: qr).take i).foldl minQ q0 = lo
    generalize ((q0 :: qr).take i).foldl maxQ q0 = hi'
    generalize lcmQ ((q0 :: qr).take i) = L
    intro hlo hhi hL m1 m2 m3
    have hq1 := hdq.1
    have hq2 := hdq.2.1
    refine dg_tup (n := 2) (fun _ => ⟨rfl, rfl⟩) (.inr rfl) rfl ?_
    walk_at "g1"
    walk_at "g1"
    walk_at "g1"
    walk_at "g1"
    walk_at "g1"
    refine dss_cons ?_
    walk_at "s1"
    refine de_val (v := frT (minQ lo q)) ?_ ?_
    · walk_at "nn"
      refine ⟨(q, lo), ⟨_, _, rfl, .inr rfl, isFr_T lo, hdq.1, Int.lt_of_le_of_lt hdq.2.1 (by decide), hlo.1, Int.lt_of_le_of_lt hlo.2 (by decide)⟩, fun e he => ?_⟩
      obtain rfl := he
      walk_at "nn"
      rw [← min_law]
      refine if_c (fun hc => ?_) (fun hc => ?_)
      · rw [if_pos (of_decide_eq_true hc)]
        walk_at "nn"
        exact ⟨rfl, rfl⟩
      · rw [if_neg (of_decide_eq_false hc)]
        walk_at "nn"
        exact ⟨rfl, rfl⟩
    refine dss_cons ?_
    walk_at "s1"
    refine de_val (v := frT (maxQ hi' q)) ?_ ?_
    · walk_at "nn"
      refine ⟨(hi', q), ⟨_, _, rfl, isFr_T hi', .inr rfl, hhi.1, Int.lt_of_le_of_lt hhi.2 (by decide), hdq.1, Int.lt_of_le_of_lt hdq.2.1 (by decide)⟩, fun e he => ?_⟩
      obtain rfl := he
      walk_at "nn"
      rw [← max_law]
      refine if_c (fun hc => ?_) (fun hc => ?_)
      · rw [if_pos (of_decide_eq_true hc)]
        walk_at "nn"
        exact ⟨rfl, rfl⟩
      · rw [if_neg (of_decide_eq_false hc)]
        walk_at "nn"
        exact ⟨rfl, rfl⟩
    walk_at "yy"
    refine if_t (decide_eq_true hL.1) ?_
    walk_at "yy"
    refine ⟨(q.2, L), ⟨rfl, by show L ≠ 0; omega, by show L.natAbs < _; omega⟩, fun e he => ?_⟩
    have he : e = .tuple [.int (redQ q.2 L).1, .int (redQ q.2 L).2] := he
    subst he
    walk_at "yy"
    refine ⟨mulL (by omega) (by omega), ?_⟩
    walk_at "yy"
    rw [red_lcm hL.1 hq1]
    exact ⟨_, _, by rw [m1, m2, m3]; rfl⟩
  · rintro _ ⟨o11, o12, rfl⟩
    rw [List.length_map, List.take_length]
    have hL := lcm_le hq.b hq.2.2
    show DSs _ _ _ _
    refine dss_le (ρ' := [.va s, .ow pa l, .un, .un, .un, .un, .un, .un, .un, .un, .un, .un, .un, .un, .un, .un, .va (.list ((q0 :: qr).map frT)), .va (frT ((q0 :: qr).foldl minQ q0)), .va (frT ((q0 :: qr).foldl maxQ q0)), .va (.int (lcmQ (q0 :: qr))), .un, .un, .un, .un]) ?_ ?_
    · repeat (first | exact le_nil | refine le_cons ?_ | refine le_unc ?_)
    refine dss_cons ?_
    refine ds_setLc (i := 20) (own := T.law.own1) (by walk_at "l") rfl (by walk_at "sw") (blkOk_by (by kernel_rfl)) (fun _ _ => rfl) ?_
    walk_at "nn"
    refine lcd_pure (fun _ => true) (fun d => match d with | .tuple [.int a, .int b] => .int (a * (lcmQ (q0 :: qr) / b)) | _ => .none) (fun j hj p ds => ?_) (by rw [List.length_map]; exact Nat.le_trans hq.2.2 (by decide)) ?_ ?_
    · have : j = 11 ∨ j = 12 := by simpa using hj
      rcases this with rfl | rfl <;> exact fun z => nomatch z
    · intro W' d hdm
      obtain ⟨q, hm, rfl⟩ := List.mem_map.mp hdm
      have hd := hq.1 q hm
      have hd1 := hd.1
      have hd2 := hd.2.1
      walk_at "yy"
      refine ⟨rfl, if_t rfl ?_⟩
      walk_at "yy"
      refine ⟨divOk (by omega) (by omega) (by omega), ?_⟩
      walk_at "yy"
      rw [fdiv_pos hd1]
      have e1 := Int.ediv_nonneg (show 0 ≤ lcmQ (q0 :: qr) by omega) (show 0 ≤ q.2 by omega)
      have e2 := ediv_le hd1 (show 0 ≤ lcmQ (q0 :: qr) by omega)
      refine ⟨mulR (by omega) (by omega), ?_⟩
      walk_at "yy"
      exact ⟨rfl, rfl⟩
    · rw [all_keep, List.map_map]
      refine ⟨by show 20 < 24; decide, ?_⟩
      exact b_t7 B hf W s pa l (q0 :: qr) hq
theorem b_t2 (hf : KF M k) (W : Wr) (s : PyData) (pa : Addr) (l : List PyData) (n : Nat) (hl : TinOk n l) (hn : n < 2 ^ 37) : DSs (T.law.Γ M k W nowx) tailB [.va s, .ow pa l, .un, .un, .un, .un, .un, .un, .un, .un, .un, .un, .un, .un, .un, .un, .un, .un, .un, .un, .un, .un, .un, .un] { nx := fun _ => False, rt := fun d _ => d = .bool true } := by
  have hf' := hf
  cases hf'
  cases (T.law.fa B : T.law.Fa M k W nowx)
  have key : ∀ (l' : List PyData) (p : Addr) (qs : List (Int × Int)), DrAll qs → DSs (T.law.Γ M k W nowx) tail4 [.va s, .ow pa l', .un, .un, .un, .un, .un, .un, .un, .un, .un, .un, .un, .un, .un, .un, .ow p (qs.map frT), .un, .un, .un, .un, .un, .un, .un] { nx := fun _ => False, rt := fun d _ => d = .bool true } := fun l' p qs hq =>
    dss_freeze (i := 16) (p := p) (ds := qs.map frT) rfl (b_t4 B hf W s pa l' qs hq)
  refine dss_cons ?_
  refine ds_setN (by walk_at "l") (by walk_at "sw") (dn_lc (own := T.law.own0) (blkOk_by (by kernel_rfl)) (fun _ _ => rfl) ?_)
  walk_at "nn"
  walk_at "tk"
  intro r1 l1 a1 b1 t1
  walk_at "nn"
  refine ⟨⟨by omega, by omega⟩, ?_⟩
  have hm : (1 + r1).toNat ≤ 6 := by omega
  have hm1 : 1 ≤ (1 + r1).toNat := by omega
  revert hm hm1
  generalize (1 + r1).toNat = m
  intro hm hm1
  refine ⟨fun j hj p ds => ?_, fun j acc ρ2 => ∃ (l' : List PyData) (qs : List (Int × Int)), ρ2 = [.va s, .ow pa l', .un, .un, .un, .un, .un, .un, .un, .un, .un, .un, .un, .un, .un, .un, .un, .un, .un, .un, .un, .un, .un, .un] ∧ TinOk (n + 1 + 7 * j) l' ∧ acc = qs.map frT ∧ qs.length = j ∧ ∀ q ∈ qs, DrQ q, ⟨l1, [], rfl, t1, rfl, rfl, fun q hq => absurd hq List.not_mem_nil⟩, ?_, ?_⟩
  · have : j = 22 := by simpa using hj
    subst this
    exact fun z => nomatch z
  · rintro W' i d acc ρ2 hi ⟨l', qs, rfl, t, rfl, hlen, hq⟩
    have hil := (List.getElem?_eq_some_iff.mp hi).1
    rw [rgD_len] at hil
    walk_at "yy"
    refine ⟨_, t, by omega, fun q l2 hq2 t2 => ?_⟩
    refine ⟨by rw [List.length_map, hlen]; exact Nat.lt_of_lt_of_le (show i < 6 by omega) (by decide), l2, qs ++ [q], rfl, t2, by rw [List.map_append]; rfl, by rw [List.length_append, hlen]; rfl, fun x hx => ?_⟩
    rcases List.mem_append.mp hx with hx | hx
    · exact hq x hx
    · rw [List.mem_singleton.mp hx]
      exact hq2
  · rintro acc ρ2 ⟨l', qs, rfl, t, rfl, hlen, hq⟩ p
    rw [rgD_len] at hlen t
    have hqs : DrAll qs := ⟨hq, fun z => by rw [z] at hlen; simp at hlen; omega, by omega⟩
    show DSs _ _ [.va s, .ow pa l', .un, .un, .un, .un, .un, .un, .un, .un, .un, .un, .un, .un, .un, .un, .ow p (qs.map frT), .un, .un, .un, .un, .un, .un, .un] _
    refine dss_cons ?_
    walk_at "yy"
    refine if_c (fun hc => ?_) (fun hc => if_f rfl (dss_nil (key l' p qs hqs)))
    have hc := of_decide_eq_true hc
    walk_at "nn"
    walk_at "tk"
    intro r2 l2 a2 b2 t2
    walk_at "nn"
    refine if_c (fun h => ?_) (fun h => dss_nil (key l2 p qs hqs))
    obtain ⟨q0, qr, rfl⟩ : ∃ q0 qr, qs = q0 :: qr := by
      cases qs with
      | nil => exact absurd rfl hqs.2.1
      | cons a b => exact ⟨a, b, rfl⟩
    refine dss_cons ?_
    walk_at "s1"
    walk_at "nn"
    refine setO_of rfl (j := qr.length) ?_ ?_
    · rw [List.length_map]
      show (if (0 : Int) ≤ -1 then _ else if -(((q0 :: qr).length : Nat) : Int) ≤ -1 then some (-1 + (((q0 :: qr).length : Nat) : Int)).toNat else none) = _
      rw [if_neg (by decide), if_pos (by rw [List.length_cons]; omega)]
      congr 1
      rw [List.length_cons]
      omega
    refine dss_nil ?_
    have e : ((q0 :: qr).map frT).set qr.length (frT q0) = ((q0 :: qr).set qr.length q0).map frT := List.map_set.symm
    show DSs _ _ [.va s, .ow pa l2, .un, .un, .un, .un, .un, .un, .un, .un, .un, .un, .un, .un, .un, .un, .ow p (((q0 :: qr).map frT).set qr.length (frT q0)), .un, .un, .un, .un, .un, .un, .un] _
    rw [e]
    refine key l2 p _ ⟨fun x hx => ?_, fun z => ?_, by rw [List.length_set]; exact hqs.2.2⟩
    · rcases List.mem_or_eq_of_mem_set hx with hx | hx
      · exact hqs.1 x hx
      · rw [hx]
        exact hqs.1 q0 List.mem_cons_self
    · have z2 : ((q0 :: qr).set qr.length q0).length = 0 := by rw [z]; rfl
      rw [List.length_set, List.length_cons] at z2
      omega
abbrev P_law : List PyData → List PyData → Prop := fun xs ds => ds = [.list xs] ∧ Ints xs ∧ xs.length ≤ sizeLine
abbrev Q_law : List PyData → PyData → Prop := fun _ d => d = .bool true
theorem b_law (hf : KF M k) : ∀ W g ds, P_law g ds → DSs (T.law.Γ M k W nowx) (defBody T.law.st) (ds.map .va ++ List.replicate (T.law.N.length - T.law.ps.length) .un) { nx := fun _ => Q_law g .none, rt := fun d _ => Q_law g d } := by
  rintro W xs _ ⟨rfl, hi, hl⟩
  have hf' := hf
  cases hf'
  cases (T.law.fa B : T.law.Fa M k W nowx)
  show DSs _ _ [.va (.list xs), .un, .un, .un, .un, .un, .un, .un, .un, .un, .un, .un, .un, .un, .un, .un, .un, .un, .un, .un, .un, .un, .un, .un] _
  refine dss_cons ?_
  refine ds_setN (by walk_at "l") (by walk_at "sw") (dn_callN hf.box (by walk_at "g") (fun _ _ => rfl) (fun _ _ => rfl) ?_)
  walk_at "nn"
  refine ⟨xs, ⟨rfl, hi, hl⟩, fun e he => ?_⟩
  obtain ⟨c, rfl⟩ := he
  walk_at "nn"
  intro l hl' pa
  refine dss_cons ?_
  walk_at "s1"
  walk_at "nn"
  refine ⟨⟨by decide, by decide⟩, ?_⟩
  refine ⟨fun i ρ => ∃ l, TinOk (20 * i) l ∧ Le [.va (.list xs), .ow pa l, .un, .un, .un, .un, .un, .un, .un, .un, .un, .un, .un, .un, .un, .un, .un, .un, .un, .un, .un, .un, .un, .un] ρ, ⟨l, hl', le_refl _⟩, ?_, ?_⟩
  · rintro i d ρ2 hid ⟨l, t, hle⟩
    have hil := (List.getElem?_eq_some_iff.mp hid).1
    rw [rgD_len] at hil
    have hil : i < 12 := hil
    refine dgv_le hle ?_
    walk_at "g1"
    exact (b_lap B hf W _ d pa l (20 * i) t (by omega)).mono (fun ρ' ⟨l', z1, z2⟩ => ⟨l', z1.mono (by omega), z2⟩) (fun d ρ' z => z) (fun _ z => z.elim) (fun _ z => z.elim)
  · rintro ρ ⟨l, t, hle⟩
    rw [rgD_len] at t
    refine dss_le hle ?_
    exact (b_t2 B hf W _ pa l _ t (by decide)).mono (fun _ z => z.elim) (fun _ _ z => z) (fun _ z => z) (fun _ z => z)
theorem mk_law (hf : KF M k) (h : DefAt M "law" T.law.st T.law.ps) : FnM M (k + 1) "law" (SpD P_law Q_law) := h.fnD T.law.sc (fun g ds e => by rw [e.1] <;> rfl) (b_law B hf)
end

/-! ## part K00Z -/
open PySem PySem.Spec PyProof.Rows L2 RZ Y
theorem exm_self {K : PySem.W.Frag} {S : Addr} (h1 : PySem.W.subIn K (.ref S) (.type "BaseException") = some true) (h2 : PySem.W.isClsIn K S = true) (h3 : PySem.W.typeIn K (.ref S) = some (.type "type")) (h4 : PySem.W.subIn K (.ref S) (.ref S) = some true) :
    PySem.W.exmOne K (.ref S) (.ref S) = some true := by
  have e1 : (PySem.W.subIn K (.ref S) (.type "BaseException") == some true) = true := by rw [h1] <;> rfl
  have e2 : ((PySem.W.clsIn K S).isSome && PySem.W.typeIn K (.ref S) == some (.type "type")) = true := by
    have h2' : (PySem.W.clsIn K S).isSome = true := h2
    rw [h2', h3] <;> rfl
  show (if (PySem.W.subIn K (.ref S) (.type "BaseException") == some true) = true then (if ((PySem.W.clsIn K S).isSome && PySem.W.typeIn K (.ref S) == some (.type "type")) = true then PySem.W.subIn K (.ref S) (.ref S) else none) else none) = some true
  rw [if_pos e1, if_pos e2]
  exact h4
theorem kit_val {K : PySem.W.Frag} {C : Addr} (h : PySem.W.subIn K (.ref C) (.type "ValueError") = some true) : PySem.W.kitOne K (.ref C) (.type "ValueError") = some true := by
  show (if (Value.ref C == Value.type "ValueError") = true then some true else if PySem.W.kitMeta "ValueError" = true then PySem.W.subIn K (.ref C) (.type "ValueError") else none) = some true
  rw [if_neg (by rw [show (Value.ref C == Value.type "ValueError") = false from rfl]; exact Bool.false_ne_true), if_pos (by decide +kernel)]
  exact h
theorem mk_all {M : Mo} (B : T.MB M) {C : Addr} (hC : ExAt M "Unfit" C) (hP : ∃ u v, M.mg "PAIR" = some u ∧ RelV v u ∧ ∀ F, Dp M.K F v (.int 2))
    (d_is_number : DefAt M "is_number" T.is_number.st T.is_number.ps)
    (d_is_tuple_of : DefAt M "is_tuple_of" T.is_tuple_of.st T.is_tuple_of.ps)
    (d_common_divisor : DefAt M "common_divisor" T.common_divisor.st T.common_divisor.ps)
    (d_is_fraction : DefAt M "is_fraction" T.is_fraction.st T.is_fraction.ps)
    (d_fraction : DefAt M "fraction" T.fraction.st T.fraction.ps)
    (d_plus : DefAt M "plus" T.plus.st T.plus.ps)
    (d_less : DefAt M "less" T.less.st T.less.ps)
    (d_times : DefAt M "times" T.times.st T.times.ps)
    (d_over : DefAt M "over" T.over.st T.over.ps)
    (d_at_most : DefAt M "at_most" T.at_most.st T.at_most.ps)
    (d_least_of : DefAt M "least_of" T.least_of.st T.least_of.ps)
    (d_greatest_of : DefAt M "greatest_of" T.greatest_of.st T.greatest_of.ps)
    (d_sum_of : DefAt M "sum_of" T.sum_of.st T.sum_of.ps)
    (d_common_bottom : DefAt M "common_bottom" T.common_bottom.st T.common_bottom.ps)
    (d_whole_tops : DefAt M "whole_tops" T.whole_tops.st T.whole_tops.ps)
    (d_rest_of : DefAt M "rest_of" T.rest_of.st T.rest_of.ps)
    (d_between : DefAt M "between" T.between.st T.between.ps)
    (d__law_box : DefAt M "_law_box" T._law_box.st T._law_box.ps)
    (d__law_take : DefAt M "_law_take" T._law_take.st T._law_take.ps)
    (d__law_cells : DefAt M "_law_cells" T._law_cells.st T._law_cells.ps)
    (d__law_of : DefAt M "_law_of" T._law_of.st T._law_of.ps)
    (d__law_same : DefAt M "_law_same" T._law_same.st T._law_same.ps)
    (d__law_lists : DefAt M "_law_lists" T._law_lists.st T._law_lists.ps)
    (d__law_frac : DefAt M "_law_frac" T._law_frac.st T._law_frac.ps)
    (d__law_plus : DefAt M "_law_plus" T._law_plus.st T._law_plus.ps)
    (d__law_less : DefAt M "_law_less" T._law_less.st T._law_less.ps)
    (d__law_times : DefAt M "_law_times" T._law_times.st T._law_times.ps)
    (d__law_below : DefAt M "_law_below" T._law_below.st T._law_below.ps)
    (d__law_sum : DefAt M "_law_sum" T._law_sum.st T._law_sum.ps)
    (d__law_heard : DefAt M "_law_heard" T._law_heard.st T._law_heard.ps)
    (d__law_is : DefAt M "_law_is" T._law_is.st T._law_is.ps)
    (d__law_drawn : DefAt M "_law_drawn" T._law_drawn.st T._law_drawn.ps)
    : KF M 9 := by
  have cd := mk_cd (k := 0) B d_common_divisor
  have num := mk_num (k := 0) B d_is_number
  have tup := mk_tupof (k := 0) B d_is_tuple_of
  have fr := mk_fr B hC cd d_fraction
  have ff := fr_no B fr
  have plus := mk_plus B ff d_plus
  have less := mk_less B ff d_less
  have times := mk_times B ff d_times
  have over := mk_over B fr d_over
  have atm := mk_at_most (k := 0) B d_at_most
  have least := mk_least B atm d_least_of
  have great := mk_great B atm d_greatest_of
  have sum := mk_sum B plus d_sum_of
  have cb := mk_cb B cd d_common_bottom
  have wt := mk_wt B cb d_whole_tops
  have rest := mk_rest B less d_rest_of
  have between := mk_between B (plus.mono (by decide)) (times.mono (by decide)) rest d_between
  have isfr := mk_isfr B hP cd num tup d_is_fraction
  have take := mk_take (k := 0) B d__law_take
  have of := mk_of B take d__law_of
  have cells := mk_cells (k := 0) B d__law_cells
  have box := mk_box (k := 0) B d__law_box
  have lists := mk_lists B d__law_lists 8
  have same := mk_same B d__law_same 8
  have lf := mk_lf (k := 0) B d__law_frac
  have lplus := mk_lplus B lf d__law_plus
  have lless := mk_lless B lf d__law_less
  have ltimes := mk_ltimes B lf d__law_times
  have lbelow := mk_lbelow (k := 0) B d__law_below
  have lsum := mk_lsum B lplus d__law_sum
  have heard := mk_heard B hC (fr.mono (by decide)) over d__law_heard
  have is := mk_is B lf d__law_is
  have drawn := mk_drawn B (take.mono (by decide)) of (lf.mono (by decide)) d__law_drawn
  exact ⟨take.mono (by decide), of.mono (by decide), drawn.mono (by decide), lists, same, lf.mono (by decide), lplus.mono (by decide), lless.mono (by decide), ltimes.mono (by decide), lbelow.mono (by decide), lsum.mono (by decide), heard.mono (by decide), is.mono (by decide), plus.mono (by decide), less.mono (by decide), times.mono (by decide), atm.mono (by decide), least.mono (by decide), great.mono (by decide), sum.mono (by decide), cb.mono (by decide), wt.mono (by decide), rest.mono (by decide), between.mono (by decide), isfr.mono (by decide), cells.mono (by decide), box.mono (by decide)⟩
theorem end_mk {l : PySem.W.OpenLaw} {w : World} {K : PySem.W.Frag} {h : Heap} {mg : Str → Option Value} {tP : Tok} {fa C f1 f2 f3 f4 f5 f6 f7 f8 f9 f10 f11 f12 f13 f14 f15 f16 f17 f18 f19 f20 f21 f22 f23 f24 f25 f26 f27 f28 f29 f30 f31 f32 f33 : Addr} (X : K.In h) (G : h.Ns mainGlobals mg) (hfa : mg "law" = some (.ref fa))
    {od1 an1 od2 an2 od3 an3 od4 an4 od5 an5 od6 an6 od7 an7 od8 an8 od9 an9 od10 an10 od11 an11 od12 an12 od13 an13 od14 an14 od15 an15 od16 an16 od17 an17 od18 an18 od19 an19 od20 an20 od21 an21 od22 an22 od23 an23 od24 an24 od25 an25 od26 an26 od27 an27 od28 an28 od29 an29 od30 an30 od31 an31 od32 an32 od33 an33 : Option Addr} {sl1 sl2 sl3 sl4 sl5 sl6 sl7 sl8 sl9 sl10 sl11 sl12 sl13 sl14 sl15 sl16 sl17 sl18 sl19 sl20 sl21 sl22 sl23 sl24 sl25 sl26 sl27 sl28 sl29 sl30 sl31 sl32 sl33 : Array (Option Value)} {oc1 kV1 dc1 pm1 cd1 ct1 oc2 kV2 dc2 pm2 cd2 ct2 oc3 kV3 dc3 pm3 cd3 ct3 oc4 kV4 dc4 pm4 cd4 ct4 oc5 kV5 dc5 pm5 cd5 ct5 oc6 kV6 dc6 pm6 cd6 ct6 oc7 kV7 dc7 pm7 cd7 ct7 oc8 kV8 dc8 pm8 cd8 ct8 oc9 kV9 dc9 pm9 cd9 ct9 oc10 kV10 dc10 pm10 cd10 ct10 oc11 kV11 dc11 pm11 cd11 ct11 oc12 kV12 dc12 pm12 cd12 ct12 oc13 kV13 dc13 pm13 cd13 ct13 oc14 kV14 dc14 pm14 cd14 ct14 oc15 kV15 dc15 pm15 cd15 ct15 oc16 kV16 dc16 pm16 cd16 ct16 oc17 kV17 dc17 pm17 cd17 ct17 oc18 kV18 dc18 pm18 cd18 ct18 oc19 kV19 dc19 pm19 cd19 ct19 oc20 kV20 dc20 pm20 cd20 ct20 oc21 kV21 dc21 pm21 cd21 ct21 oc22 kV22 dc22 pm22 cd22 ct22 oc23 kV23 dc23 pm23 cd23 ct23 oc24 kV24 dc24 pm24 cd24 ct24 oc25 kV25 dc25 pm25 cd25 ct25 oc26 kV26 dc26 pm26 cd26 ct26 oc27 kV27 dc27 pm27 cd27 ct27 oc28 kV28 dc28 pm28 cd28 ct28 oc29 kV29 dc29 pm29 cd29 ct29 oc30 kV30 dc30 pm30 cd30 ct30 oc31 kV31 dc31 pm31 cd31 ct31 oc32 kV32 dc32 pm32 cd32 ct32 oc33 kV33 dc33 pm33 cd33 ct33 : Value}
    (a1 : PySem.W.nsIn K mainGlobals "is_number" = some (some (.ref f1))) (l1 : K.lookup f1 = some ⟨oc1, od1, .func (PySem.W.fnOf "is_number" "is_number" (defArgs T.is_number.st) (defBody T.is_number.st) (defScope T.is_number.st) .none kV1 dc1 pm1 an1 cd1 ct1), sl1⟩) (c1 : PySem.W.codeIn K cd1 "is_number" = true) (k1 : PySem.W.keepIn K (.ref f1) = true)
    (a2 : PySem.W.nsIn K mainGlobals "is_tuple_of" = some (some (.ref f2))) (l2 : K.lookup f2 = some ⟨oc2, od2, .func (PySem.W.fnOf "is_tuple_of" "is_tuple_of" (defArgs T.is_tuple_of.st) (defBody T.is_tuple_of.st) (defScope T.is_tuple_of.st) .none kV2 dc2 pm2 an2 cd2 ct2), sl2⟩) (c2 : PySem.W.codeIn K cd2 "is_tuple_of" = true) (k2 : PySem.W.keepIn K (.ref f2) = true)
    (a3 : PySem.W.nsIn K mainGlobals "common_divisor" = some (some (.ref f3))) (l3 : K.lookup f3 = some ⟨oc3, od3, .func (PySem.W.fnOf "common_divisor" "common_divisor" (defArgs T.common_divisor.st) (defBody T.common_divisor.st) (defScope T.common_divisor.st) .none kV3 dc3 pm3 an3 cd3 ct3), sl3⟩) (c3 : PySem.W.codeIn K cd3 "common_divisor" = true) (k3 : PySem.W.keepIn K (.ref f3) = true)
    (a4 : PySem.W.nsIn K mainGlobals "is_fraction" = some (some (.ref f4))) (l4 : K.lookup f4 = some ⟨oc4, od4, .func (PySem.W.fnOf "is_fraction" "is_fraction" (defArgs T.is_fraction.st) (defBody T.is_fraction.st) (defScope T.is_fraction.st) .none kV4 dc4 pm4 an4 cd4 ct4), sl4⟩) (c4 : PySem.W.codeIn K cd4 "is_fraction" = true) (k4 : PySem.W.keepIn K (.ref f4) = true)
    (a5 : PySem.W.nsIn K mainGlobals "fraction" = some (some (.ref f5))) (l5 : K.lookup f5 = some ⟨oc5, od5, .func (PySem.W.fnOf "fraction" "fraction" (defArgs T.fraction.st) (defBody T.fraction.st) (defScope T.fraction.st) .none kV5 dc5 pm5 an5 cd5 ct5), sl5⟩) (c5 : PySem.W.codeIn K cd5 "fraction" = true) (k5 : PySem.W.keepIn K (.ref f5) = true)
    (a6 : PySem.W.nsIn K mainGlobals "plus" = some (some (.ref f6))) (l6 : K.lookup f6 = some ⟨oc6, od6, .func (PySem.W.fnOf "plus" "plus" (defArgs T.plus.st) (defBody T.plus.st) (defScope T.plus.st) .none kV6 dc6 pm6 an6 cd6 ct6), sl6⟩) (c6 : PySem.W.codeIn K cd6 "plus" = true) (k6 : PySem.W.keepIn K (.ref f6) = true)
    (a7 : PySem.W.nsIn K mainGlobals "less" = some (some (.ref f7))) (l7 : K.lookup f7 = some ⟨oc7, od7, .func (PySem.W.fnOf "less" "less" (defArgs T.less.st) (defBody T.less.st) (defScope T.less.st) .none kV7 dc7 pm7 an7 cd7 ct7), sl7⟩) (c7 : PySem.W.codeIn K cd7 "less" = true) (k7 : PySem.W.keepIn K (.ref f7) = true)
    (a8 : PySem.W.nsIn K mainGlobals "times" = some (some (.ref f8))) (l8 : K.lookup f8 = some ⟨oc8, od8, .func (PySem.W.fnOf "times" "times" (defArgs T.times.st) (defBody T.times.st) (defScope T.times.st) .none kV8 dc8 pm8 an8 cd8 ct8), sl8⟩) (c8 : PySem.W.codeIn K cd8 "times" = true) (k8 : PySem.W.keepIn K (.ref f8) = true)
    (a9 : PySem.W.nsIn K mainGlobals "over" = some (some (.ref f9))) (l9 : K.lookup f9 = some ⟨oc9, od9, .func (PySem.W.fnOf "over" "over" (defArgs T.over.st) (defBody T.over.st) (defScope T.over.st) .none kV9 dc9 pm9 an9 cd9 ct9), sl9⟩) (c9 : PySem.W.codeIn K cd9 "over" = true) (k9 : PySem.W.keepIn K (.ref f9) = true)
    (a10 : PySem.W.nsIn K mainGlobals "at_most" = some (some (.ref f10))) (l10 : K.lookup f10 = some ⟨oc10, od10, .func (PySem.W.fnOf "at_most" "at_most" (defArgs T.at_most.st) (defBody T.at_most.st) (defScope T.at_most.st) .none kV10 dc10 pm10 an10 cd10 ct10), sl10⟩) (c10 : PySem.W.codeIn K cd10 "at_most" = true) (k10 : PySem.W.keepIn K (.ref f10) = true)
    (a11 : PySem.W.nsIn K mainGlobals "least_of" = some (some (.ref f11))) (l11 : K.lookup f11 = some ⟨oc11, od11, .func (PySem.W.fnOf "least_of" "least_of" (defArgs T.least_of.st) (defBody T.least_of.st) (defScope T.least_of.st) .none kV11 dc11 pm11 an11 cd11 ct11), sl11⟩) (c11 : PySem.W.codeIn K cd11 "least_of" = true) (k11 : PySem.W.keepIn K (.ref f11) = true)
    (a12 : PySem.W.nsIn K mainGlobals "greatest_of" = some (some (.ref f12))) (l12 : K.lookup f12 = some ⟨oc12, od12, .func (PySem.W.fnOf "greatest_of" "greatest_of" (defArgs T.greatest_of.st) (defBody T.greatest_of.st) (defScope T.greatest_of.st) .none kV12 dc12 pm12 an12 cd12 ct12), sl12⟩) (c12 : PySem.W.codeIn K cd12 "greatest_of" = true) (k12 : PySem.W.keepIn K (.ref f12) = true)
    (a13 : PySem.W.nsIn K mainGlobals "sum_of" = some (some (.ref f13))) (l13 : K.lookup f13 = some ⟨oc13, od13, .func (PySem.W.fnOf "sum_of" "sum_of" (defArgs T.sum_of.st) (defBody T.sum_of.st) (defScope T.sum_of.st) .none kV13 dc13 pm13 an13 cd13 ct13), sl13⟩) (c13 : PySem.W.codeIn K cd13 "sum_of" = true) (k13 : PySem.W.keepIn K (.ref f13) = true)
    (a14 : PySem.W.nsIn K mainGlobals "common_bottom" = some (some (.ref f14))) (l14 : K.lookup f14 = some ⟨oc14, od14, .func (PySem.W.fnOf "common_bottom" "common_bottom" (defArgs T.common_bottom.st) (defBody T.common_bottom.st) (defScope T.common_bottom.st) .none kV14 dc14 pm14 an14 cd14 ct14), sl14⟩) (c14 : PySem.W.codeIn K cd14 "common_bottom" = true) (k14 : PySem.W.keepIn K (.ref f14) = true)
    (a15 : PySem.W.nsIn K mainGlobals "whole_tops" = some (some (.ref f15))) (l15 : K.lookup f15 = some ⟨oc15, od15, .func (PySem.W.fnOf "whole_tops" "whole_tops" (defArgs T.whole_tops.st) (defBody T.whole_tops.st) (defScope T.whole_tops.st) .none kV15 dc15 pm15 an15 cd15 ct15), sl15⟩) (c15 : PySem.W.codeIn K cd15 "whole_tops" = true) (k15 : PySem.W.keepIn K (.ref f15) = true)
    (a16 : PySem.W.nsIn K mainGlobals "rest_of" = some (some (.ref f16))) (l16 : K.lookup f16 = some ⟨oc16, od16, .func (PySem.W.fnOf "rest_of" "rest_of" (defArgs T.rest_of.st) (defBody T.rest_of.st) (defScope T.rest_of.st) .none kV16 dc16 pm16 an16 cd16 ct16), sl16⟩) (c16 : PySem.W.codeIn K cd16 "rest_of" = true) (k16 : PySem.W.keepIn K (.ref f16) = true)
    (a17 : PySem.W.nsIn K mainGlobals "between" = some (some (.ref f17))) (l17 : K.lookup f17 = some ⟨oc17, od17, .func (PySem.W.fnOf "between" "between" (defArgs T.between.st) (defBody T.between.st) (defScope T.between.st) .none kV17 dc17 pm17 an17 cd17 ct17), sl17⟩) (c17 : PySem.W.codeIn K cd17 "between" = true) (k17 : PySem.W.keepIn K (.ref f17) = true)
    (a18 : PySem.W.nsIn K mainGlobals "_law_box" = some (some (.ref f18))) (l18 : K.lookup f18 = some ⟨oc18, od18, .func (PySem.W.fnOf "_law_box" "_law_box" (defArgs T._law_box.st) (defBody T._law_box.st) (defScope T._law_box.st) .none kV18 dc18 pm18 an18 cd18 ct18), sl18⟩) (c18 : PySem.W.codeIn K cd18 "_law_box" = true) (k18 : PySem.W.keepIn K (.ref f18) = true)
    (a19 : PySem.W.nsIn K mainGlobals "_law_take" = some (some (.ref f19))) (l19 : K.lookup f19 = some ⟨oc19, od19, .func (PySem.W.fnOf "_law_take" "_law_take" (defArgs T._law_take.st) (defBody T._law_take.st) (defScope T._law_take.st) .none kV19 dc19 pm19 an19 cd19 ct19), sl19⟩) (c19 : PySem.W.codeIn K cd19 "_law_take" = true) (k19 : PySem.W.keepIn K (.ref f19) = true)
    (a20 : PySem.W.nsIn K mainGlobals "_law_cells" = some (some (.ref f20))) (l20 : K.lookup f20 = some ⟨oc20, od20, .func (PySem.W.fnOf "_law_cells" "_law_cells" (defArgs T._law_cells.st) (defBody T._law_cells.st) (defScope T._law_cells.st) .none kV20 dc20 pm20 an20 cd20 ct20), sl20⟩) (c20 : PySem.W.codeIn K cd20 "_law_cells" = true) (k20 : PySem.W.keepIn K (.ref f20) = true)
    (a21 : PySem.W.nsIn K mainGlobals "_law_of" = some (some (.ref f21))) (l21 : K.lookup f21 = some ⟨oc21, od21, .func (PySem.W.fnOf "_law_of" "_law_of" (defArgs T._law_of.st) (defBody T._law_of.st) (defScope T._law_of.st) .none kV21 dc21 pm21 an21 cd21 ct21), sl21⟩) (c21 : PySem.W.codeIn K cd21 "_law_of" = true) (k21 : PySem.W.keepIn K (.ref f21) = true)
    (a22 : PySem.W.nsIn K mainGlobals "_law_same" = some (some (.ref f22))) (l22 : K.lookup f22 = some ⟨oc22, od22, .func (PySem.W.fnOf "_law_same" "_law_same" (defArgs T._law_same.st) (defBody T._law_same.st) (defScope T._law_same.st) .none kV22 dc22 pm22 an22 cd22 ct22), sl22⟩) (c22 : PySem.W.codeIn K cd22 "_law_same" = true) (k22 : PySem.W.keepIn K (.ref f22) = true)
    (a23 : PySem.W.nsIn K mainGlobals "_law_lists" = some (some (.ref f23))) (l23 : K.lookup f23 = some ⟨oc23, od23, .func (PySem.W.fnOf "_law_lists" "_law_lists" (defArgs T._law_lists.st) (defBody T._law_lists.st) (defScope T._law_lists.st) .none kV23 dc23 pm23 an23 cd23 ct23), sl23⟩) (c23 : PySem.W.codeIn K cd23 "_law_lists" = true) (k23 : PySem.W.keepIn K (.ref f23) = true)
    (a24 : PySem.W.nsIn K mainGlobals "_law_frac" = some (some (.ref f24))) (l24 : K.lookup f24 = some ⟨oc24, od24, .func (PySem.W.fnOf "_law_frac" "_law_frac" (defArgs T._law_frac.st) (defBody T._law_frac.st) (defScope T._law_frac.st) .none kV24 dc24 pm24 an24 cd24 ct24), sl24⟩) (c24 : PySem.W.codeIn K cd24 "_law_frac" = true) (k24 : PySem.W.keepIn K (.ref f24) = true)
    (a25 : PySem.W.nsIn K mainGlobals "_law_plus" = some (some (.ref f25))) (l25 : K.lookup f25 = some ⟨oc25, od25, .func (PySem.W.fnOf "_law_plus" "_law_plus" (defArgs T._law_plus.st) (defBody T._law_plus.st) (defScope T._law_plus.st) .none kV25 dc25 pm25 an25 cd25 ct25), sl25⟩) (c25 : PySem.W.codeIn K cd25 "_law_plus" = true) (k25 : PySem.W.keepIn K (.ref f25) = true)
    (a26 : PySem.W.nsIn K mainGlobals "_law_less" = some (some (.ref f26))) (l26 : K.lookup f26 = some ⟨oc26, od26, .func (PySem.W.fnOf "_law_less" "_law_less" (defArgs T._law_less.st) (defBody T._law_less.st) (defScope T._law_less.st) .none kV26 dc26 pm26 an26 cd26 ct26), sl26⟩) (c26 : PySem.W.codeIn K cd26 "_law_less" = true) (k26 : PySem.W.keepIn K (.ref f26) = true)
    (a27 : PySem.W.nsIn K mainGlobals "_law_times" = some (some (.ref f27))) (l27 : K.lookup f27 = some ⟨oc27, od27, .func (PySem.W.fnOf "_law_times" "_law_times" (defArgs T._law_times.st) (defBody T._law_times.st) (defScope T._law_times.st) .none kV27 dc27 pm27 an27 cd27 ct27), sl27⟩) (c27 : PySem.W.codeIn K cd27 "_law_times" = true) (k27 : PySem.W.keepIn K (.ref f27) = true)
    (a28 : PySem.W.nsIn K mainGlobals "_law_below" = some (some (.ref f28))) (l28 : K.lookup f28 = some ⟨oc28, od28, .func (PySem.W.fnOf "_law_below" "_law_below" (defArgs T._law_below.st) (defBody T._law_below.st) (defScope T._law_below.st) .none kV28 dc28 pm28 an28 cd28 ct28), sl28⟩) (c28 : PySem.W.codeIn K cd28 "_law_below" = true) (k28 : PySem.W.keepIn K (.ref f28) = true)
    (a29 : PySem.W.nsIn K mainGlobals "_law_sum" = some (some (.ref f29))) (l29 : K.lookup f29 = some ⟨oc29, od29, .func (PySem.W.fnOf "_law_sum" "_law_sum" (defArgs T._law_sum.st) (defBody T._law_sum.st) (defScope T._law_sum.st) .none kV29 dc29 pm29 an29 cd29 ct29), sl29⟩) (c29 : PySem.W.codeIn K cd29 "_law_sum" = true) (k29 : PySem.W.keepIn K (.ref f29) = true)
    (a30 : PySem.W.nsIn K mainGlobals "_law_heard" = some (some (.ref f30))) (l30 : K.lookup f30 = some ⟨oc30, od30, .func (PySem.W.fnOf "_law_heard" "_law_heard" (defArgs T._law_heard.st) (defBody T._law_heard.st) (defScope T._law_heard.st) .none kV30 dc30 pm30 an30 cd30 ct30), sl30⟩) (c30 : PySem.W.codeIn K cd30 "_law_heard" = true) (k30 : PySem.W.keepIn K (.ref f30) = true)
    (a31 : PySem.W.nsIn K mainGlobals "_law_is" = some (some (.ref f31))) (l31 : K.lookup f31 = some ⟨oc31, od31, .func (PySem.W.fnOf "_law_is" "_law_is" (defArgs T._law_is.st) (defBody T._law_is.st) (defScope T._law_is.st) .none kV31 dc31 pm31 an31 cd31 ct31), sl31⟩) (c31 : PySem.W.codeIn K cd31 "_law_is" = true) (k31 : PySem.W.keepIn K (.ref f31) = true)
    (a32 : PySem.W.nsIn K mainGlobals "_law_drawn" = some (some (.ref f32))) (l32 : K.lookup f32 = some ⟨oc32, od32, .func (PySem.W.fnOf "_law_drawn" "_law_drawn" (defArgs T._law_drawn.st) (defBody T._law_drawn.st) (defScope T._law_drawn.st) .none kV32 dc32 pm32 an32 cd32 ct32), sl32⟩) (c32 : PySem.W.codeIn K cd32 "_law_drawn" = true) (k32 : PySem.W.keepIn K (.ref f32) = true)
    (a33 : PySem.W.nsIn K mainGlobals "law" = some (some (.ref f33))) (l33 : K.lookup f33 = some ⟨oc33, od33, .func (PySem.W.fnOf "law" "law" (defArgs T.law.st) (defBody T.law.st) (defScope T.law.st) .none kV33 dc33 pm33 an33 cd33 ct33), sl33⟩) (c33 : PySem.W.codeIn K cd33 "law" = true) (k33 : PySem.W.keepIn K (.ref f33) = true)
    (z_ValueError : PySem.W.nsIn K mainGlobals "ValueError" = some none)
    (z_abs : PySem.W.nsIn K mainGlobals "abs" = some none)
    (z_all : PySem.W.nsIn K mainGlobals "all" = some none)
    (z_bool : PySem.W.nsIn K mainGlobals "bool" = some none)
    (z_enumerate : PySem.W.nsIn K mainGlobals "enumerate" = some none)
    (z_int : PySem.W.nsIn K mainGlobals "int" = some none)
    (z_isinstance : PySem.W.nsIn K mainGlobals "isinstance" = some none)
    (z_len : PySem.W.nsIn K mainGlobals "len" = some none)
    (z_list : PySem.W.nsIn K mainGlobals "list" = some none)
    (z_min : PySem.W.nsIn K mainGlobals "min" = some none)
    (z_range : PySem.W.nsIn K mainGlobals "range" = some none)
    (z_str : PySem.W.nsIn K mainGlobals "str" = some none)
    (z_tuple : PySem.W.nsIn K mainGlobals "tuple" = some none)
    (z_zip : PySem.W.nsIn K mainGlobals "zip" = some none)
    (aP : PySem.W.nsIn K mainGlobals "PAIR" = some (some (.int 2 tP)))
    (aC : PySem.W.nsIn K mainGlobals "Unfit" = some (some (.ref C))) (xC : PySem.W.excIn K C [.type "ValueError", .type "Exception", .type "BaseException", .type "object"] "ValueError.__new__" = true) (kC : PySem.W.keepIn K (.ref C) = true) (bC : PySem.W.subIn K (.ref C) (.type "BaseException") = some true) (tC : PySem.W.typeIn K (.ref C) = some (.type "type")) (iC : PySem.W.isClsIn K C = true) (sC : PySem.W.subIn K (.ref C) (.ref C) = some true) (vC : PySem.W.subIn K (.ref C) (.type "ValueError") = some true)
    (e1 : PySem.W.findIn K (.ref C) "__getattribute__" = some (some (.builtin "BaseException.__getattribute__"))) (e2 : PySem.W.findIn K (.ref C) "__getattr__" = some none) (e3 : PySem.W.hasDictIn K C = true) (e4 : PySem.W.findIn K (.ref C) "__class__" = some (some (.builtin "object.__class__"))) (e5 : PySem.W.specialIn K (.builtin "object.__class__") "__get__" = some (some (.builtin "getset_descriptor.__get__"))) (e6 : PySem.W.takesIn K (.builtin "object.__class__") = some true) (e7 : PySem.W.mroIn K C (.type "object") = some true) :
    ∃ fd : FuncData, (∀ (s : Shared) (v : Value), BindsTo s fd ⟨[v], []⟩ [("script", v)]) ∧ ∀ base : Heap, K.In base → base.Ns mainGlobals mg → FnOk l.prog w K mg base CX0 10 fa fd ["script"] (spW K (SpD P_law Q_law)) := by
  have e := hfa.symm.trans (PySem.W.mg_of X G a33)
  cases e
  have F1 := fun_mk (st := T.is_number.st) l1 c1 k1
  have b1 := F1.binds (ps := T.is_number.ps) fun _ _ _ _ _ _ us hl => match us, hl with | [_], _ => rfl
  have F2 := fun_mk (st := T.is_tuple_of.st) l2 c2 k2
  have b2 := F2.binds (ps := T.is_tuple_of.ps) fun _ _ _ _ _ _ us hl => match us, hl with | [_, _], _ => rfl
  have F3 := fun_mk (st := T.common_divisor.st) l3 c3 k3
  have b3 := F3.binds (ps := T.common_divisor.ps) fun _ _ _ _ _ _ us hl => match us, hl with | [_, _], _ => rfl
  have F4 := fun_mk (st := T.is_fraction.st) l4 c4 k4
  have b4 := F4.binds (ps := T.is_fraction.ps) fun _ _ _ _ _ _ us hl => match us, hl with | [_], _ => rfl
  have F5 := fun_mk (st := T.fraction.st) l5 c5 k5
  have b5 := F5.binds (ps := T.fraction.ps) fun _ _ _ _ _ _ us hl => match us, hl with | [_, _], _ => rfl
  have F6 := fun_mk (st := T.plus.st) l6 c6 k6
  have b6 := F6.binds (ps := T.plus.ps) fun _ _ _ _ _ _ us hl => match us, hl with | [_, _], _ => rfl
  have F7 := fun_mk (st := T.less.st) l7 c7 k7
  have b7 := F7.binds (ps := T.less.ps) fun _ _ _ _ _ _ us hl => match us, hl with | [_, _], _ => rfl
  have F8 := fun_mk (st := T.times.st) l8 c8 k8
  have b8 := F8.binds (ps := T.times.ps) fun _ _ _ _ _ _ us hl => match us, hl with | [_, _], _ => rfl
  have F9 := fun_mk (st := T.over.st) l9 c9 k9
  have b9 := F9.binds (ps := T.over.ps) fun _ _ _ _ _ _ us hl => match us, hl with | [_, _], _ => rfl
  have F10 := fun_mk (st := T.at_most.st) l10 c10 k10
  have b10 := F10.binds (ps := T.at_most.ps) fun _ _ _ _ _ _ us hl => match us, hl with | [_, _], _ => rfl
  have F11 := fun_mk (st := T.least_of.st) l11 c11 k11
  have b11 := F11.binds (ps := T.least_of.ps) fun _ _ _ _ _ _ us hl => match us, hl with | [_], _ => rfl
  have F12 := fun_mk (st := T.greatest_of.st) l12 c12 k12
  have b12 := F12.binds (ps := T.greatest_of.ps) fun _ _ _ _ _ _ us hl => match us, hl with | [_], _ => rfl
  have F13 := fun_mk (st := T.sum_of.st) l13 c13 k13
  have b13 := F13.binds (ps := T.sum_of.ps) fun _ _ _ _ _ _ us hl => match us, hl with | [_], _ => rfl
  have F14 := fun_mk (st := T.common_bottom.st) l14 c14 k14
  have b14 := F14.binds (ps := T.common_bottom.ps) fun _ _ _ _ _ _ us hl => match us, hl with | [_], _ => rfl
  have F15 := fun_mk (st := T.whole_tops.st) l15 c15 k15
  have b15 := F15.binds (ps := T.whole_tops.ps) fun _ _ _ _ _ _ us hl => match us, hl with | [_], _ => rfl
  have F16 := fun_mk (st := T.rest_of.st) l16 c16 k16
  have b16 := F16.binds (ps := T.rest_of.ps) fun _ _ _ _ _ _ us hl => match us, hl with | [_], _ => rfl
  have F17 := fun_mk (st := T.between.st) l17 c17 k17
  have b17 := F17.binds (ps := T.between.ps) fun _ _ _ _ _ _ us hl => match us, hl with | [_, _, _], _ => rfl
  have F18 := fun_mk (st := T._law_box.st) l18 c18 k18
  have b18 := F18.binds (ps := T._law_box.ps) fun _ _ _ _ _ _ us hl => match us, hl with | [_, _], _ => rfl
  have F19 := fun_mk (st := T._law_take.st) l19 c19 k19
  have b19 := F19.binds (ps := T._law_take.ps) fun _ _ _ _ _ _ us hl => match us, hl with | [_, _], _ => rfl
  have F20 := fun_mk (st := T._law_cells.st) l20 c20 k20
  have b20 := F20.binds (ps := T._law_cells.ps) fun _ _ _ _ _ _ us hl => match us, hl with | [_, _], _ => rfl
  have F21 := fun_mk (st := T._law_of.st) l21 c21 k21
  have b21 := F21.binds (ps := T._law_of.ps) fun _ _ _ _ _ _ us hl => match us, hl with | [_, _], _ => rfl
  have F22 := fun_mk (st := T._law_same.st) l22 c22 k22
  have b22 := F22.binds (ps := T._law_same.ps) fun _ _ _ _ _ _ us hl => match us, hl with | [_, _], _ => rfl
  have F23 := fun_mk (st := T._law_lists.st) l23 c23 k23
  have b23 := F23.binds (ps := T._law_lists.ps) fun _ _ _ _ _ _ us hl => match us, hl with | [_], _ => rfl
  have F24 := fun_mk (st := T._law_frac.st) l24 c24 k24
  have b24 := F24.binds (ps := T._law_frac.ps) fun _ _ _ _ _ _ us hl => match us, hl with | [_, _], _ => rfl
  have F25 := fun_mk (st := T._law_plus.st) l25 c25 k25
  have b25 := F25.binds (ps := T._law_plus.ps) fun _ _ _ _ _ _ us hl => match us, hl with | [_, _], _ => rfl
  have F26 := fun_mk (st := T._law_less.st) l26 c26 k26
  have b26 := F26.binds (ps := T._law_less.ps) fun _ _ _ _ _ _ us hl => match us, hl with | [_, _], _ => rfl
  have F27 := fun_mk (st := T._law_times.st) l27 c27 k27
  have b27 := F27.binds (ps := T._law_times.ps) fun _ _ _ _ _ _ us hl => match us, hl with | [_, _], _ => rfl
  have F28 := fun_mk (st := T._law_below.st) l28 c28 k28
  have b28 := F28.binds (ps := T._law_below.ps) fun _ _ _ _ _ _ us hl => match us, hl with | [_, _], _ => rfl
  have F29 := fun_mk (st := T._law_sum.st) l29 c29 k29
  have b29 := F29.binds (ps := T._law_sum.ps) fun _ _ _ _ _ _ us hl => match us, hl with | [_], _ => rfl
  have F30 := fun_mk (st := T._law_heard.st) l30 c30 k30
  have b30 := F30.binds (ps := T._law_heard.ps) fun _ _ _ _ _ _ us hl => match us, hl with | [_, _, _], _ => rfl
  have F31 := fun_mk (st := T._law_is.st) l31 c31 k31
  have b31 := F31.binds (ps := T._law_is.ps) fun _ _ _ _ _ _ us hl => match us, hl with | [_], _ => rfl
  have F32 := fun_mk (st := T._law_drawn.st) l32 c32 k32
  have b32 := F32.binds (ps := T._law_drawn.ps) fun _ _ _ _ _ _ us hl => match us, hl with | [_], _ => rfl
  have F33 := fun_mk (st := T.law.st) l33 c33 k33
  have b33 := F33.binds (ps := T.law.ps) fun _ _ _ _ _ _ us hl => match us, hl with | [_], _ => rfl
  refine ⟨PySem.W.fnOf "law" "law" (defArgs T.law.st) (defBody T.law.st) (defScope T.law.st) .none kV33 dc33 pm33 an33 cd33 ct33, fun s v => .of_eq rfl, fun base _ _ => ?_⟩
  let M : Mo := ⟨l.prog, w, K, mg, base⟩
  have B : T.MB M := ⟨PySem.W.mg_none_of X G z_ValueError, PySem.W.mg_none_of X G z_abs, PySem.W.mg_none_of X G z_all, PySem.W.mg_none_of X G z_bool, PySem.W.mg_none_of X G z_enumerate, PySem.W.mg_none_of X G z_int, PySem.W.mg_none_of X G z_isinstance, PySem.W.mg_none_of X G z_len, PySem.W.mg_none_of X G z_list, PySem.W.mg_none_of X G z_min, PySem.W.mg_none_of X G z_range, PySem.W.mg_none_of X G z_str, PySem.W.mg_none_of X G z_tuple, PySem.W.mg_none_of X G z_zip⟩
  have hC : ExAt M "Unfit" C := ⟨PySem.W.mg_of X G aC, kC, xC, bC, tC, exm_self bC iC tC sC, ⟨e1, e2, bC, e3, e4, e5, e6, e7⟩, kit_val vC⟩
  have hP : ∃ u v, M.mg "PAIR" = some u ∧ RelV v u ∧ ∀ F, Dp M.K F v (.int 2) := ⟨.int 2 tP, .int 2, PySem.W.mg_of X G aP, ⟨tP, rfl⟩, fun F => .int 2⟩
  have hK : KF M 9 := mk_all B hC hP ⟨f1, _, F1, PySem.W.mg_of X G a1, b1⟩ ⟨f2, _, F2, PySem.W.mg_of X G a2, b2⟩ ⟨f3, _, F3, PySem.W.mg_of X G a3, b3⟩ ⟨f4, _, F4, PySem.W.mg_of X G a4, b4⟩ ⟨f5, _, F5, PySem.W.mg_of X G a5, b5⟩ ⟨f6, _, F6, PySem.W.mg_of X G a6, b6⟩ ⟨f7, _, F7, PySem.W.mg_of X G a7, b7⟩ ⟨f8, _, F8, PySem.W.mg_of X G a8, b8⟩ ⟨f9, _, F9, PySem.W.mg_of X G a9, b9⟩ ⟨f10, _, F10, PySem.W.mg_of X G a10, b10⟩ ⟨f11, _, F11, PySem.W.mg_of X G a11, b11⟩ ⟨f12, _, F12, PySem.W.mg_of X G a12, b12⟩ ⟨f13, _, F13, PySem.W.mg_of X G a13, b13⟩ ⟨f14, _, F14, PySem.W.mg_of X G a14, b14⟩ ⟨f15, _, F15, PySem.W.mg_of X G a15, b15⟩ ⟨f16, _, F16, PySem.W.mg_of X G a16, b16⟩ ⟨f17, _, F17, PySem.W.mg_of X G a17, b17⟩ ⟨f18, _, F18, PySem.W.mg_of X G a18, b18⟩ ⟨f19, _, F19, PySem.W.mg_of X G a19, b19⟩ ⟨f20, _, F20, PySem.W.mg_of X G a20, b20⟩ ⟨f21, _, F21, PySem.W.mg_of X G a21, b21⟩ ⟨f22, _, F22, PySem.W.mg_of X G a22, b22⟩ ⟨f23, _, F23, PySem.W.mg_of X G a23, b23⟩ ⟨f24, _, F24, PySem.W.mg_of X G a24, b24⟩ ⟨f25, _, F25, PySem.W.mg_of X G a25, b25⟩ ⟨f26, _, F26, PySem.W.mg_of X G a26, b26⟩ ⟨f27, _, F27, PySem.W.mg_of X G a27, b27⟩ ⟨f28, _, F28, PySem.W.mg_of X G a28, b28⟩ ⟨f29, _, F29, PySem.W.mg_of X G a29, b29⟩ ⟨f30, _, F30, PySem.W.mg_of X G a30, b30⟩ ⟨f31, _, F31, PySem.W.mg_of X G a31, b31⟩ ⟨f32, _, F32, PySem.W.mg_of X G a32, b32⟩
  exact Y.fnD (M := M) F33 T.law.sc (fun g ds e => by rw [e.1] <;> rfl) (b_law B hK)
theorem dp_ints {K : PySem.W.Frag} {F : Hp} : ∀ ns : List Int, DpAll K F (ns.map V.int) (ns.map PyData.int)
  | [] => .nil
  | n :: r => .cons (.int n) (dp_ints r)
theorem end_walk {l : PySem.W.OpenLaw} {q : Program} {loose : List Str} {XP : (Str → Option Value) → Heap → Prop} {YP : World → Heap → Prop} {d : DefRec} {K : Params → PySem.W.Frag} (hn : l.most = some 63) (hdf : d.params.defaults = [])
    (hY : ∀ (w : World) (h : Heap), YP w h → (K w.params).In h)
    (F : ∀ (w : World) (mg : Str → Option Value) (fa : Addr) (h : Heap), (K w.params).In h → h.Ns mainGlobals mg → mg d.name = some (.ref fa) →
      ∃ fd : FuncData, (∀ (s : Shared) (u : Value), BindsTo s fd ⟨[u], []⟩ [("script", u)]) ∧ ∀ base : Heap, (K w.params).In base → base.Ns mainGlobals mg → FnOk l.prog w (K w.params) mg base CX0 10 fa fd ["script"] (spW (K w.params) (SpD P_law Q_law))) :
    PySem.W.WalkO q loose XP YP l.row.toRowW d [] (fun f vs => PySem.call f vs) :=
  L2.walk_of (n := 63) (k := 10) (x := "script") (CX := fun _ => CX0) (sp := fun w => spW (K w.params) (SpD P_law Q_law)) hn (by decide) hdf ⟨rfl, by decide, by decide⟩ hY F (fun w H a ns hl _ hS => by
    refine ⟨H, [.va (.list (ns.map .int))], ns.map .int, ⟨fun _ _ h => h, rfl, fun i d e => ?_, fun i p ds e => ?_, fun i j p ds es e => ?_, fun x hx => .inl hx, .refl⟩, ⟨_, rfl, rfl, fun x hx => ?_, ?_⟩, fun as' d v F' H' po _ _ dv => ?_⟩
    · cases i with
      | zero =>
        cases e
        exact ⟨.ref a, rfl, .lst hS (dp_ints ns)⟩
      | succ i => cases e
    · cases i with
      | zero => cases e
      | succ i => cases e
    · cases i with
      | zero => cases e
      | succ i => cases e
    · obtain ⟨i, _, rfl⟩ := List.mem_map.mp hx
      exact ⟨i, rfl⟩
    · rw [List.length_map]
      exact Nat.le_trans hl (by decide)
    · have po : d = .bool true := po
      subst po
      cases dv
      rfl) fun _ _ _ _ _ z => z
end K
open PySem PySem.W PyProof.Rows
set_option maxRecDepth 100000 in
set_option maxHeartbeats 0 in
theorem PySem.Challenge.cw_crowdsuntold_k00_fractions_by_own_reckon_holds : PySem.Challenge.rw_crowdsuntold_k00_fractions_by_own_reckon.Holds := by
  w_on; o_law; k_head; (case hw => w_witness2)
  k_fill
  refine K.end_walk (l := PySem.Challenge.rw_crowdsuntold_k00_fractions_by_own_reckon) rfl rfl (fun w h Y => PySem.W.kIn_of Y) ?F
  case F =>
    intro w mg fa h KX G hmg
    refine' K.end_mk KX G hmg ?a1 ?l1 ?c1 ?k1 ?a2 ?l2 ?c2 ?k2 ?a3 ?l3 ?c3 ?k3 ?a4 ?l4 ?c4 ?k4 ?a5 ?l5 ?c5 ?k5 ?a6 ?l6 ?c6 ?k6 ?a7 ?l7 ?c7 ?k7 ?a8 ?l8 ?c8 ?k8 ?a9 ?l9 ?c9 ?k9 ?a10 ?l10 ?c10 ?k10 ?a11 ?l11 ?c11 ?k11 ?a12 ?l12 ?c12 ?k12 ?a13 ?l13 ?c13 ?k13 ?a14 ?l14 ?c14 ?k14 ?a15 ?l15 ?c15 ?k15 ?a16 ?l16 ?c16 ?k16 ?a17 ?l17 ?c17 ?k17 ?a18 ?l18 ?c18 ?k18 ?a19 ?l19 ?c19 ?k19 ?a20 ?l20 ?c20 ?k20 ?a21 ?l21 ?c21 ?k21 ?a22 ?l22 ?c22 ?k22 ?a23 ?l23 ?c23 ?k23 ?a24 ?l24 ?c24 ?k24 ?a25 ?l25 ?c25 ?k25 ?a26 ?l26 ?c26 ?k26 ?a27 ?l27 ?c27 ?k27 ?a28 ?l28 ?c28 ?k28 ?a29 ?l29 ?c29 ?k29 ?a30 ?l30 ?c30 ?k30 ?a31 ?l31 ?c31 ?k31 ?a32 ?l32 ?c32 ?k32 ?a33 ?l33 ?c33 ?k33 ?z_ValueError ?z_abs ?z_all ?z_bool ?z_enumerate ?z_int ?z_isinstance ?z_len ?z_list ?z_min ?z_range ?z_str ?z_tuple ?z_zip ?aP ?aC ?xC ?kC ?bC ?tC ?iC ?sC ?vC ?e1 ?e2 ?e3 ?e4 ?e5 ?e6 ?e7
    (case a1 => k_is)
    (case l1 => k_is)
    (case c1 => k_is)
    (case k1 => k_is)
    (case a2 => k_is)
    (case l2 => k_is)
    (case c2 => k_is)
    (case k2 => k_is)
    (case a3 => k_is)
    (case l3 => k_is)
    (case c3 => k_is)
    (case k3 => k_is)
    (case a4 => k_is)
    (case l4 => k_is)
    (case c4 => k_is)
    (case k4 => k_is)
    (case a5 => k_is)
    (case l5 => k_is)
    (case c5 => k_is)
    (case k5 => k_is)
    (case a6 => k_is)
    (case l6 => k_is)
    (case c6 => k_is)
    (case k6 => k_is)
    (case a7 => k_is)
    (case l7 => k_is)
    (case c7 => k_is)
    (case k7 => k_is)
    (case a8 => k_is)
    (case l8 => k_is)
    (case c8 => k_is)
    (case k8 => k_is)
    (case a9 => k_is)
    (case l9 => k_is)
    (case c9 => k_is)
    (case k9 => k_is)
    (case a10 => k_is)
    (case l10 => k_is)
    (case c10 => k_is)
    (case k10 => k_is)
    (case a11 => k_is)
    (case l11 => k_is)
    (case c11 => k_is)
    (case k11 => k_is)
    (case a12 => k_is)
    (case l12 => k_is)
    (case c12 => k_is)
    (case k12 => k_is)
    (case a13 => k_is)
    (case l13 => k_is)
    (case c13 => k_is)
    (case k13 => k_is)
    (case a14 => k_is)
    (case l14 => k_is)
    (case c14 => k_is)
    (case k14 => k_is)
    (case a15 => k_is)
    (case l15 => k_is)
    (case c15 => k_is)
    (case k15 => k_is)
    (case a16 => k_is)
    (case l16 => k_is)
    (case c16 => k_is)
    (case k16 => k_is)
    (case a17 => k_is)
    (case l17 => k_is)
    (case c17 => k_is)
    (case k17 => k_is)
    (case a18 => k_is)
    (case l18 => k_is)
    (case c18 => k_is)
    (case k18 => k_is)
    (case a19 => k_is)
    (case l19 => k_is)
    (case c19 => k_is)
    (case k19 => k_is)
    (case a20 => k_is)
    (case l20 => k_is)
    (case c20 => k_is)
    (case k20 => k_is)
    (case a21 => k_is)
    (case l21 => k_is)
    (case c21 => k_is)
    (case k21 => k_is)
    (case a22 => k_is)
    (case l22 => k_is)
    (case c22 => k_is)
    (case k22 => k_is)
    (case a23 => k_is)
    (case l23 => k_is)
    (case c23 => k_is)
    (case k23 => k_is)
    (case a24 => k_is)
    (case l24 => k_is)
    (case c24 => k_is)
    (case k24 => k_is)
    (case a25 => k_is)
    (case l25 => k_is)
    (case c25 => k_is)
    (case k25 => k_is)
    (case a26 => k_is)
    (case l26 => k_is)
    (case c26 => k_is)
    (case k26 => k_is)
    (case a27 => k_is)
    (case l27 => k_is)
    (case c27 => k_is)
    (case k27 => k_is)
    (case a28 => k_is)
    (case l28 => k_is)
    (case c28 => k_is)
    (case k28 => k_is)
    (case a29 => k_is)
    (case l29 => k_is)
    (case c29 => k_is)
    (case k29 => k_is)
    (case a30 => k_is)
    (case l30 => k_is)
    (case c30 => k_is)
    (case k30 => k_is)
    (case a31 => k_is)
    (case l31 => k_is)
    (case c31 => k_is)
    (case k31 => k_is)
    (case a32 => k_is)
    (case l32 => k_is)
    (case c32 => k_is)
    (case k32 => k_is)
    (case a33 => k_is)
    (case l33 => k_is)
    (case c33 => k_is)
    (case k33 => k_is)
    (case z_ValueError => k_is)
    (case z_abs => k_is)
    (case z_all => k_is)
    (case z_bool => k_is)
    (case z_enumerate => k_is)
    (case z_int => k_is)
    (case z_isinstance => k_is)
    (case z_len => k_is)
    (case z_list => k_is)
    (case z_min => k_is)
    (case z_range => k_is)
    (case z_str => k_is)
    (case z_tuple => k_is)
    (case z_zip => k_is)
    (case aP => k_is)
    (case aC => k_is)
    (case xC => k_exc)
    (case kC => k_is)
    (case bC => k_is)
    (case tC => k_is)
    (case iC => k_is)
    (case sC => first | rfl | k_is)
    (case vC => k_is)
    (case e1 => k_is)
    (case e2 => k_is)
    (case e3 => k_is)
    (case e4 => k_is)
    (case e5 => k_is)
    (case e6 => k_is)
    (case e7 => k_is)
#print axioms PySem.Challenge.cw_crowdsuntold_k00_fractions_by_own_reckon_holds
