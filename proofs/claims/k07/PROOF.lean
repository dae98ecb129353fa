import PyProof.Rows.All
import Wide.All
import OpenK.AllK
import Wide.FinOn
import HandS.ForMost
import HandS.Wide
import HandS.Style
import HandS.NoneIn
import HandS.IsInst
import HandS.RaiseMore
import HandS.Walk
import HandS.Zip
import HandS.Conv
import HandS.Flow
import HandS.WideBits
import HandS.ExcOwn
import HandS.TryOnly
import PySem.Challenge.RW_onewayrings_k07_whole_great_dials_over_o
set_option Elab.async false
set_option linter.all false
set_option maxRecDepth 100000
set_option maxHeartbeats 4000000
/-! PwA: a heap-free layer over the hand layer: slots and cells told as data. -/
namespace Pw
open PySem PySem.Spec L2

abbrev D := PyData

/-! ### readings as they are meant -/
def wE (X : Cx) (e : Expr) : TE := fun σ H Q => ∀ (pins : List (Addr × Obj)) (s : Shared), Inv X pins σ H s → wpAny (model X.prog X.w) X.A (eval e X.env) (EP X pins σ Q) X.xe s
def wT (X : Cx) (e : Expr) : TT := fun σ H Q => ∀ (pins : List (Addr × Obj)) (s : Shared), Inv X pins σ H s → wpAny (model X.prog X.w) X.A (isTrue e X.env (eval e X.env)) (TP X pins σ Q) X.xe s
def wW (X : Cx) (e : Expr) : TT := fun σ H Q => ∀ (whole : Sem Value) (pins : List (Addr × Obj)) (s : Shared), Inv X pins σ H s → wpAny (model X.prog X.w) X.A (isTrue e X.env whole) (TP X pins σ Q) X.xe s
def wA (X : Cx) (es : List Expr) : TA := fun σ H Q => ∀ (pos : Pos) (pins : List (Addr × Obj)) (s : Shared), Inv X pins σ H s → wpAny (model X.prog X.w) X.A (spliced (backTo pos (starEach es X.env))) (AP X pins σ Q) X.xe s
def wS (X : Cx) (st : Stmt) : TS := fun Dn σ H => ∀ (pins : List (Addr × Obj)) (s : Shared), Inv X pins σ H s → wpAny (model X.prog X.w) X.A (exec st X.env) (SP X pins Dn) X.xe s
def wSs (X : Cx) (st : List Stmt) : TS := fun Dn σ H => ∀ (pins : List (Addr × Obj)) (s : Shared), Inv X pins σ H s → wpAny (model X.prog X.w) X.A (execs st X.env) (SP X pins Dn) X.xe s
def wG (X : Cx) (tg : Expr) : TG := fun v σ H Q => ∀ (pins : List (Addr × Obj)) (s : Shared) (u : Value), Inv X pins σ H s → RelV v u → wpAny (model X.prog X.w) X.A (assign tg X.env u) (fun _ s' => ∃ σ' H', Inv X pins σ' H' s' ∧ Q σ' H') X.xe s
def wGs (X : Cx) (ts : List Expr) : TGs := fun vs σ H Q => ∀ (pins : List (Addr × Obj)) (s : Shared) (us : List Value), Inv X pins σ H s → Vals vs us →
  wpAny (model X.prog X.w) X.A (assignInOrder ((assignEach ts X.env).map (·.2)) us) (fun _ s' => ∃ σ' H', Inv X pins σ' H' s' ∧ Q σ' H') X.xe s
def wI (X : Cx) (tg iter : Expr) : TI := fun σ H R => ∀ (pins : List (Addr × Obj)) (s : Shared), Inv X pins σ H s →
  wpAny (model X.prog X.w) X.A (eval iter X.env) (fun v s1 => wpAny (model X.prog X.w) X.A (pyIter v) (PIE X pins σ tg R) X.xe s1) X.xe s
section
variable {X : Cx} {e tg iter : Expr} {es : List Expr} {st : Stmt} {sts : List Stmt}
theorem pe_w : PE X e (wE X e) := ⟨fun pins s _ _ _ I h => h pins s I⟩
theorem pt_w : PT X e (wT X e) := ⟨fun pins s _ _ _ I h => h pins s I⟩
theorem pw_w : PW X e (wW X e) := ⟨fun w pins s _ _ _ I h => h w pins s I⟩
theorem pa_w : PA X es (wA X es) := ⟨fun pos pins s _ _ _ I h => h pos pins s I⟩
theorem ps_w : PS X st (wS X st) := ⟨fun pins s _ _ _ I h => h pins s I⟩
theorem pss_w : PSs X sts (wSs X sts) := ⟨fun pins s _ _ _ I h => h pins s I⟩
theorem pg_w : PG X tg (wG X tg) := ⟨fun pins s _ _ _ u _ I r h => h pins s u I r⟩
theorem pgs_w : PGs X es (wGs X es) := ⟨fun pins s _ _ _ us _ I r h => h pins s us I r⟩
theorem pi_w : PI X tg iter (wI X tg iter) := ⟨fun pins s _ _ _ I h => h pins s I⟩
theorem of_pe {t : TE} (h : PE X e t) {σ : St} {H : Hp} {Q : VK} (q : t σ H Q) : wE X e σ H Q := fun pins s I => h.run pins s σ H Q I q
theorem of_pt {t : TT} (h : PT X e t) {σ : St} {H : Hp} {Q : Bool → Hp → Prop} (q : t σ H Q) : wT X e σ H Q := fun pins s I => h.run pins s σ H Q I q
theorem of_pw {t : TT} (h : PW X e t) {σ : St} {H : Hp} {Q : Bool → Hp → Prop} (q : t σ H Q) : wW X e σ H Q := fun w pins s I => h.run w pins s σ H Q I q
theorem of_pa {t : TA} (h : PA X es t) {σ : St} {H : Hp} {Q : List V → Hp → Prop} (q : t σ H Q) : wA X es σ H Q := fun pos pins s I => h.run pos pins s σ H Q I q
theorem of_ps {t : TS} (h : PS X st t) {σ : St} {H : Hp} {Dn : Ends} (q : t Dn σ H) : wS X st Dn σ H := fun pins s I => h.run pins s σ H Dn I q
theorem of_pss {t : TS} (h : PSs X sts t) {σ : St} {H : Hp} {Dn : Ends} (q : t Dn σ H) : wSs X sts Dn σ H := fun pins s I => h.run pins s σ H Dn I q
theorem of_pg {t : TG} (h : PG X tg t) {v : V} {σ : St} {H : Hp} {Q : St → Hp → Prop} (q : t v σ H Q) : wG X tg v σ H Q := fun pins s u I r => h.run pins s σ H v u Q I r q
theorem of_pgs {t : TGs} (h : PGs X es t) {vs : List V} {σ : St} {H : Hp} {Q : St → Hp → Prop} (q : t vs σ H Q) : wGs X es vs σ H Q := fun pins s us I r => h.run pins s σ H vs us Q I r q
theorem of_pi {t : TI} (h : PI X tg iter t) {σ : St} {H : Hp} {R : It → Hp → Prop} (q : t σ H R) : wI X tg iter σ H R := fun pins s I => h.run pins s σ H R I q
end

/-! ### data in the heap -/
theorem Same.sqt {K : PySem.W.Frag} {H H' : Hp} {a : Addr} {xs : List V} (e : Same H H') (h : SqT K H a xs) : SqT K H' a xs := by
  rcases h with (h | ⟨o, h⟩) | h
  · exact .inl (.inl (e _ _ h))
  · exact .inl (.inr ⟨o, e _ _ h⟩)
  · exact .inr h
mutual
theorem dp_mono {K : PySem.W.Frag} {H H' : Hp} (e : Same H H') : ∀ (d : PyData) (v : V), Dp K H v d → Dp K H' v d
  | .none, _, h => by cases h; exact .non
  | .bool b, _, h => by cases h; exact .bl b
  | .int i, _, h => by cases h; exact .int i
  | .str x, _, h => by cases h; exact .str x
  | .list ds, _, h => by
    cases h with
    | lst hs ha => exact .lst (e.seq hs) (dpa_mono e ds _ ha)
  | .tuple ds, _, h => by
    cases h with
    | tup hs ha => exact .tup (Same.sqt e hs) (dpa_mono e ds _ ha)
  | .dict _, _, h => by cases h
theorem dpa_mono {K : PySem.W.Frag} {H H' : Hp} (e : Same H H') : ∀ (ds : List PyData) (vs : List V), DpAll K H vs ds → DpAll K H' vs ds
  | [], _, h => by cases h; exact .nil
  | d :: ds, _, h => by
    cases h with
    | cons h1 h2 => exact .cons (dp_mono e d _ h1) (dpa_mono e ds _ h2)
end
section
variable {K : PySem.W.Frag} {H : Hp}
theorem _root_.L2.DpAll.length : ∀ {vs : List V} {ds : List D}, DpAll K H vs ds → vs.length = ds.length
  | _, [], h => by cases h; rfl
  | _, d :: ds, h => by
    cases h with
    | cons h1 h2 => simp [L2.DpAll.length h2]
theorem _root_.L2.DpAll.get : ∀ {vs : List V} {ds : List D} {i : Nat} {d : D}, DpAll K H vs ds → ds[i]? = some d → ∃ v, vs[i]? = some v ∧ Dp K H v d
  | _, [], i, d, h, e => by simp at e
  | _, x :: ds, 0, d, h, e => by
    cases h with
    | cons h1 h2 =>
      simp at e
      subst e
      exact ⟨_, rfl, h1⟩
  | _, x :: ds, i + 1, d, h, e => by
    cases h with
    | cons h1 h2 =>
      obtain ⟨v, a, b⟩ := L2.DpAll.get (i := i) h2 (by simpa using e)
      exact ⟨v, by simpa using a, b⟩
theorem _root_.L2.DpAll.app : ∀ {vs ws : List V} {ds es : List D}, DpAll K H vs ds → DpAll K H ws es → DpAll K H (vs ++ ws) (ds ++ es)
  | _, _, [], _, h, g => by cases h; exact g
  | _, _, d :: ds, _, h, g => by
    cases h with
    | cons h1 h2 => exact .cons h1 (L2.DpAll.app h2 g)
theorem _root_.L2.DpAll.take : ∀ {vs : List V} {ds : List D} (n : Nat), DpAll K H vs ds → DpAll K H (vs.take n) (ds.take n)
  | _, [], n, h => by cases h; simp; exact .nil
  | _, d :: ds, 0, h => by simp; exact .nil
  | _, d :: ds, n + 1, h => by
    cases h with
    | cons h1 h2 => simpa using .cons h1 (L2.DpAll.take n h2)
theorem _root_.L2.DpAll.drop : ∀ {vs : List V} {ds : List D} (n : Nat), DpAll K H vs ds → DpAll K H (vs.drop n) (ds.drop n)
  | _, [], n, h => by cases h; simp; exact .nil
  | _, d :: ds, 0, h => by simpa using h
  | _, d :: ds, n + 1, h => by
    cases h with
    | cons h1 h2 => simpa using L2.DpAll.drop n h2
theorem _root_.L2.DpAll.set : ∀ {vs : List V} {ds : List D} {v : V} {d : D} (n : Nat), DpAll K H vs ds → Dp K H v d → DpAll K H (vs.set n v) (ds.set n d)
  | _, [], _, _, n, h, _ => by cases h; simp; exact .nil
  | _, x :: ds, _, _, 0, h, g => by
    cases h with
    | cons h1 h2 => simpa using .cons g h2
  | _, x :: ds, _, _, n + 1, h, g => by
    cases h with
    | cons h1 h2 => simpa using .cons h1 (L2.DpAll.set n h2 g)
theorem dp_int {v : V} {i : Int} (h : Dp K H v (.int i)) : v = .int i := by cases h; rfl
theorem dp_bl {v : V} {b : Bool} (h : Dp K H v (.bool b)) : v = .bl b := by cases h; rfl
theorem dp_str {v : V} {x : Str} (h : Dp K H v (.str x)) : v = .str x := by cases h; rfl
theorem dp_non {v : V} (h : Dp K H v .none) : v = .non := by cases h; rfl
theorem dp_lst {v : V} {ds : List D} (h : Dp K H v (.list ds)) : ∃ a xs, v = .ref a ∧ SqL K H a xs ∧ DpAll K H xs ds := by
  cases h with
  | lst a b => exact ⟨_, _, rfl, a, b⟩
theorem dp_tup {v : V} {ds : List D} (h : Dp K H v (.tuple ds)) : ∃ a xs, v = .ref a ∧ SqT K H a xs ∧ DpAll K H xs ds := by
  cases h with
  | tup a b => exact ⟨_, _, rfl, a, b⟩
end

/-! ### cells: the lists that may still be changed -/
abbrev As := List (Option Addr)
def hide (H : Hp) (as : As) : Hp := fun b => if some b ∈ as then none else H b
def Kp (as : As) (H H' : Hp) : Prop := ∀ b o, some b ∉ as → H b = some o → H' b = some o
theorem Kp.refl (as : As) (H : Hp) : Kp as H H := fun _ _ _ h => h
theorem Kp.trans {as : As} {H H1 H2 : Hp} (a : Kp as H H1) (b : Kp as H1 H2) : Kp as H H2 := fun c o n h => b c o n (a c o n h)
theorem hide_same {H : Hp} {as : As} : Same (hide H as) H := fun b o e => by
  unfold hide at e
  split at e
  · cases e
  · exact e
theorem hide_of {H : Hp} {as : As} {b : Addr} {o : HO} (n : some b ∉ as) (e : H b = some o) : hide H as b = some o := by
  unfold hide
  rw [if_neg n]
  exact e
theorem of_hide {H : Hp} {as : As} {b : Addr} {o : HO} (e : hide H as b = some o) : some b ∉ as ∧ H b = some o := by
  unfold hide at e
  split at e
  · cases e
  · rename_i n
    exact ⟨n, e⟩
theorem Kp.view {as : As} {H H' : Hp} (k : Kp as H H') : Same (hide H as) (hide H' as) := fun b o e => by
  obtain ⟨n, e⟩ := of_hide e
  exact hide_of n (k b o n e)
theorem Kp.new {as : As} {H : Hp} {p : Addr} {o : HO} (h : H p = none) : Kp as H (upd H p o) := fun b u _ e => by
  rw [upd_ne (ne_of_none e h)]
  exact e
theorem Kp.write {as : As} {H : Hp} {p : Addr} {o : HO} (h : some p ∈ as) : Kp as H (upd H p o) := fun b u n e => by
  have : b ≠ p := fun z => n (by rw [z]; exact h)
  rw [upd_ne this]
  exact e
theorem kp_of {as : As} {H H' : Hp} (s : Same H H') : Kp as H H' := fun b o _ e => s b o e

inductive MO where
  | lst (l : List D)
  /-- a cell of a caller, as it stands -/
  | opq (o : HO)
/-- data; a cell; a value that is no data (a class, a def) -/
inductive Ent where
  | d (x : D) | c (k : Nat) | v (x : V)
abbrev Mu := List MO
abbrev Slots := List (Option Ent)

def MOk (K : PySem.W.Frag) (F H : Hp) (a : Addr) : MO → Prop
  | .lst l => ∃ xs, H a = some (.lst xs) ∧ DpAll K F xs l
  | .opq o => H a = some o
def EntOk (K : PySem.W.Frag) (F : Hp) (as : As) (v : V) : Ent → Prop
  | .d x => Dp K F v x
  | .c k => ∃ a, as[k]? = some (some a) ∧ v = .ref a
  | .v x => v = x
structure Cells (K : PySem.W.Frag) (H : Hp) (as : As) (μ : Mu) : Prop where
  len : as.length = μ.length
  nd : ∀ (i j : Nat) (a : Addr), as[i]? = some (some a) → as[j]? = some (some a) → i = j
  ok : ∀ (i : Nat) (a : Addr) (m : MO), as[i]? = some (some a) → μ[i]? = some m → MOk K (hide H as) H a m
inductive EntsOk (K : PySem.W.Frag) (F : Hp) (as : As) : List V → List Ent → Prop
  | nil : EntsOk K F as [] []
  | cons {v : V} {vs : List V} {e : Ent} {es : List Ent} : EntOk K F as v e → EntsOk K F as vs es → EntsOk K F as (v :: vs) (e :: es)

/-- where a def's body began: its cells, its heap, what must stay to be seen -/
structure En where
  as0 : As
  H0 : Hp
  F : Hp
structure Rel (K : PySem.W.Frag) (E : En) (H : Hp) (as : As) (σ : St) (ρ : Slots) (μ : Mu) : Prop where
  cells : Cells K H as μ
  slen : σ.length = ρ.length
  slot : ∀ (i : Nat) en, ρ[i]? = some (some en) → ∃ v, σ[i]? = some (some v) ∧ EntOk K (hide H as) as v en
  ent : E.as0 <+: as
  keep : Kp E.as0 E.H0 H
  fresh : ∀ (i : Nat) a, E.as0.length ≤ i → as[i]? = some (some a) → E.H0 a = none
  view : Same E.F (hide H as)

section
variable {K : PySem.W.Frag} {E : En} {H H' F F' : Hp} {as : As} {σ : St} {ρ : Slots} {μ μ' : Mu} {v : V} {en : Ent}
theorem EntOk.mono (e : Same F F') (h : EntOk K F as v en) : EntOk K F' as v en := by
  cases en with
  | d x => exact dp_mono e x v h
  | c k => exact h
  | v x => exact h
theorem EntsOk.mono (e : Same F F') : ∀ {vs : List V} {es : List Ent}, EntsOk K F as vs es → EntsOk K F' as vs es
  | _, _, .nil => .nil
  | _, _, .cons a b => .cons (a.mono e) (b.mono e)
theorem MOk.mono {a : Addr} {m : MO} (e : Same F F') (hH : H' a = H a) (h : MOk K F H a m) : MOk K F' H' a m := by
  cases m with
  | lst l =>
    obtain ⟨xs, h1, h2⟩ := h
    exact ⟨xs, hH.trans h1, dpa_mono e l xs h2⟩
  | opq o => exact hH.trans h
theorem Rel.kp0 (R : Rel K E H as σ ρ μ) (k : Kp as H H') : Kp E.as0 E.H0 H' := fun b o n e => by
  refine k b o (fun hm => ?_) (R.keep b o n e)
  obtain ⟨i, hi⟩ := List.mem_iff_getElem?.mp hm
  by_cases hl : i < E.as0.length
  · apply n
    obtain ⟨t, ht⟩ := R.ent
    have : E.as0[i]? = some (some b) := by
      rw [← ht, List.getElem?_append_left hl] at hi
      exact hi
    exact List.mem_of_getElem? this
  · rw [R.fresh i b (by omega) hi] at e
    cases e
/-- behind a step that keeps all but the cells, the cells told anew -/
theorem Rel.step (R : Rel K E H as σ ρ μ) (k : Kp as H H') (c : Cells K H' as μ') : Rel K E H' as σ ρ μ' :=
  ⟨c, R.slen, fun i en e => let ⟨v, a, b⟩ := R.slot i en e; ⟨v, a, b.mono k.view⟩, R.ent, R.kp0 k, R.fresh, R.view.trans k.view⟩
theorem Cells.same (c : Cells K H as μ) (s : Same H H') : Cells K H' as μ :=
  ⟨c.len, c.nd, fun i a m h1 h2 => by
    have q := c.ok i a m h1 h2
    cases m with
    | lst l =>
      obtain ⟨xs, h3, h4⟩ := q
      exact ⟨xs, s _ _ h3, dpa_mono (kp_of (as := as) s).view l xs h4⟩
    | opq o => exact s _ _ q⟩
theorem Rel.same (R : Rel K E H as σ ρ μ) (s : Same H H') : Rel K E H' as σ ρ μ := R.step (kp_of s) (R.cells.same s)
theorem Rel.set {i : Nat} (R : Rel K E H as σ ρ μ) (h : EntOk K (hide H as) as v en) : Rel K E H as (σ.set i (some v)) (ρ.set i (some en)) μ :=
  ⟨R.cells, by simp [R.slen], fun j en' e => by
    by_cases hj : i = j
    · subst hj
      have hlt : i < ρ.length := by
        have := (List.getElem?_eq_some_iff.mp e).1
        simpa using this
      rw [List.getElem?_set_self hlt] at e
      cases e
      exact ⟨v, by rw [List.getElem?_set_self (by rw [R.slen]; exact hlt)], h⟩
    · rw [List.getElem?_set_ne hj] at e
      obtain ⟨w, a, b⟩ := R.slot j en' e
      exact ⟨w, by rw [List.getElem?_set_ne hj]; exact a, b⟩, R.ent, R.keep, R.fresh, R.view⟩
theorem Rel.forget {i : Nat} {x : Option V} (R : Rel K E H as σ ρ μ) : Rel K E H as (σ.set i x) (ρ.set i none) μ :=
  ⟨R.cells, by simp [R.slen], fun j en' e => by
    by_cases hj : i = j
    · subst hj
      have hlt : i < ρ.length := by
        have := (List.getElem?_eq_some_iff.mp e).1
        simpa using this
      rw [List.getElem?_set_self hlt] at e
      cases e
    · rw [List.getElem?_set_ne hj] at e
      obtain ⟨w, a, b⟩ := R.slot j en' e
      exact ⟨w, by rw [List.getElem?_set_ne hj]; exact a, b⟩, R.ent, R.keep, R.fresh, R.view⟩
end
end Pw

/-! PwB: expressions and tests over data. -/
namespace Pw
open PySem PySem.Spec L2

def DE (X : Cx) (e : Expr) (ρ : Slots) (μ : Mu) (P : Ent → Mu → Prop) : Prop :=
  ∀ (E : En) (as : As) (H : Hp) (σ : L2.St) (Q : VK), Rel X.K E H as σ ρ μ →
    (∀ v H' en μ', Kp as H H' → Rel X.K E H' as σ ρ μ' → EntOk X.K (hide H' as) as v en → P en μ' → Q v H') → wE X e σ H Q
def DT (X : Cx) (e : Expr) (ρ : Slots) (μ : Mu) (P : Bool → Mu → Prop) : Prop :=
  ∀ (E : En) (as : As) (H : Hp) (σ : L2.St) (Q : Bool → Hp → Prop), Rel X.K E H as σ ρ μ →
    (∀ b H' μ', Kp as H H' → Rel X.K E H' as σ ρ μ' → P b μ' → Q b H') → wT X e σ H Q
def DW (X : Cx) (e : Expr) (ρ : Slots) (μ : Mu) (P : Bool → Mu → Prop) : Prop :=
  ∀ (E : En) (as : As) (H : Hp) (σ : L2.St) (Q : Bool → Hp → Prop), Rel X.K E H as σ ρ μ →
    (∀ b H' μ', Kp as H H' → Rel X.K E H' as σ ρ μ' → P b μ' → Q b H') → wW X e σ H Q
def DA (X : Cx) (es : List Expr) (ρ : Slots) (μ : Mu) (P : List Ent → Mu → Prop) : Prop :=
  ∀ (E : En) (as : As) (H : Hp) (σ : L2.St) (Q : List V → Hp → Prop), Rel X.K E H as σ ρ μ →
    (∀ vs H' ens μ', Kp as H H' → Rel X.K E H' as σ ρ μ' → EntsOk X.K (hide H' as) as vs ens → P ens μ' → Q vs H') → wA X es σ H Q
/-- a two-place operation on values, told by data -/
def RV (X : Cx) (r : R2) (e1 e2 : Ent) (μ : Mu) (P : Ent → Mu → Prop) : Prop :=
  ∀ (E : En) (as : As) (H : Hp) (σ : L2.St) (ρ : Slots) (v1 v2 : V) (Q : VK), Rel X.K E H as σ ρ μ → EntOk X.K (hide H as) as v1 e1 → EntOk X.K (hide H as) as v2 e2 →
    (∀ v H' en μ', Kp as H H' → Rel X.K E H' as σ ρ μ' → EntOk X.K (hide H' as) as v en → P en μ' → Q v H') → r v1 v2 H Q
def RU (X : Cx) (r : V → Hp → VK → Prop) (e1 : Ent) (μ : Mu) (P : Ent → Mu → Prop) : Prop :=
  ∀ (E : En) (as : As) (H : Hp) (σ : L2.St) (ρ : Slots) (v1 : V) (Q : VK), Rel X.K E H as σ ρ μ → EntOk X.K (hide H as) as v1 e1 →
    (∀ v H' en μ', Kp as H H' → Rel X.K E H' as σ ρ μ' → EntOk X.K (hide H' as) as v en → P en μ' → Q v H') → r v1 H Q
def RC (X : Cx) (r : List V → Hp → VK → Prop) (ens : List Ent) (μ : Mu) (P : Ent → Mu → Prop) : Prop :=
  ∀ (E : En) (as : As) (H : Hp) (σ : L2.St) (ρ : Slots) (vs : List V) (Q : VK), Rel X.K E H as σ ρ μ → EntsOk X.K (hide H as) as vs ens →
    (∀ v H' en μ', Kp as H H' → Rel X.K E H' as σ ρ μ' → EntOk X.K (hide H' as) as v en → P en μ' → Q v H') → r vs H Q

theorem ok_d {K : PySem.W.Frag} {F : Hp} {as : As} {v : V} {x : D} (h : Dp K F v x) : EntOk K F as v (.d x) := h
/-- the def's own names that may be read: by their places -/
structure Nm (X : Cx) (vi : List Nat) : Prop where
  vis : ∀ i ∈ vi, ∀ x, X.N[i]? = some x → Vis X.env.scope x ∧ (x == ("__debug__" : Str)) = false ∧ (x == ("__classdict__" : Str)) = false
/-- a name of the module or a built-in, as the def sees it -/
structure Gb (X : Cx) (x : Str) : Prop where
  gl : Gl X x
  nn : x ≠ "__name__"
  db : (x == ("__debug__" : Str)) = false

section
variable {X : Cx} {a b c e : Expr} {es : List Expr} {pos p : Pos} {ρ : Slots} {μ : Mu} {P : Ent → Mu → Prop} {PB : Bool → Mu → Prop} {PL : List Ent → Mu → Prop} {r r' : R2} {e1 e2 : Ent}

theorem DE.imp {P' : Ent → Mu → Prop} (h : DE X e ρ μ P) (q : ∀ en μ', P en μ' → P' en μ') : DE X e ρ μ P' :=
  fun E as H σ Q R k => h E as H σ Q R fun v H' en μ' k1 R1 e1 p1 => k v H' en μ' k1 R1 e1 (q en μ' p1)
theorem DT.imp {P' : Bool → Mu → Prop} (h : DT X e ρ μ PB) (q : ∀ b μ', PB b μ' → P' b μ') : DT X e ρ μ P' :=
  fun E as H σ Q R k => h E as H σ Q R fun b H' μ' k1 R1 p1 => k b H' μ' k1 R1 (q b μ' p1)

/-! ### names, constants -/
theorem de_var {vi : List Nat} {i : Nat} {x : Str} {en : Ent} (M : Nm X vi) (hN : X.N[i]? = some x) (hi : i ∈ vi) (hρ : ρ[i]? = some (some en)) (k : P en μ) : DE X (.Name x p) ρ μ P := by
  intro E as H σ Q R q
  obtain ⟨h1, h2, h3⟩ := M.vis i hi x hN
  obtain ⟨v, hv, ho⟩ := R.slot i en hρ
  exact of_pe (pe_var hN h1 h2 h3) ⟨v, hv, q v H en μ (Kp.refl _ _) R ho k⟩
theorem de_int {i : Int} {j : Nat} (k : P (.d (.int i)) μ) : DE X (.Constant (.int i) j p) ρ μ P := fun E as H σ Q R q =>
  of_pe pe_int (q _ H _ μ (Kp.refl _ _) R (ok_d (Dp.int i)) k)
theorem de_bl {i : Bool} {j : Nat} (k : P (.d (.bool i)) μ) : DE X (.Constant (.bool i) j p) ρ μ P := fun E as H σ Q R q =>
  of_pe pe_bl (q _ H _ μ (Kp.refl _ _) R (ok_d (Dp.bl i)) k)
theorem de_str {i : Str} {j : Nat} (k : P (.d (.str i)) μ) : DE X (.Constant (.str i) j p) ρ μ P := fun E as H σ Q R q =>
  of_pe pe_str (q _ H _ μ (Kp.refl _ _) R (ok_d (Dp.str i)) k)
theorem de_non {j : Nat} (k : P (.d .none) μ) : DE X (.Constant .none j p) ρ μ P := fun E as H σ Q R q =>
  of_pe pe_non (q _ H _ μ (Kp.refl _ _) R (ok_d Dp.non) k)
/-- a constant of the module: an int -/
theorem de_glI {x : Str} {i : Int} {t : Tok} (g : Gb X x) (hm : X.mg x = some (.int i t)) (k : P (.d (.int i)) μ) : DE X (.Name x p) ρ μ P := fun E as H σ Q R q =>
  of_pe (pe_glob (v := .int i) g.gl hm ⟨t, rfl⟩ g.db) (q _ H _ μ (Kp.refl _ _) R (ok_d (Dp.int i)) k)
theorem de_glS {x : Str} {i : Str} {t : Tok} (g : Gb X x) (hm : X.mg x = some (.str i t)) (k : P (.d (.str i)) μ) : DE X (.Name x p) ρ μ P := fun E as H σ Q R q =>
  of_pe (pe_glob (v := .str i) g.gl hm ⟨t, rfl⟩ g.db) (q _ H _ μ (Kp.refl _ _) R (ok_d (Dp.str i)) k)
/-- a built-in type as a value -/
theorem de_ty {x : Str} {n : String} (g : Gb X x) (hm : X.mg x = none) (hv : bootBuiltins x = some (.type n)) (k : P (.v (.ty n)) μ) : DE X (.Name x p) ρ μ P := fun E as H σ Q R q =>
  of_pe (pe_bltn (v := .ty n) g.gl hm hv rfl g.nn g.db) (q _ H (.v (.ty n)) μ (Kp.refl _ _) R rfl k)

/-! ### operators -/
theorem de_bin {op : Operator} (ho : OpR X (binaryOp op) r) (h : DE X a ρ μ fun e1 μ1 => DE X b ρ μ1 fun e2 μ2 => RV X r e1 e2 μ2 P) : DE X (.BinOp a op b pos) ρ μ P := by
  intro E as H σ Q R q
  refine of_pe (pe_op ho pe_w pe_w) (h E as H σ _ R fun v1 H1 e1 μ1 k1 R1 o1 p1 => ?_)
  refine p1 E as H1 σ _ R1 fun v2 H2 e2 μ2 k2 R2 o2 p2 => ?_
  exact p2 E as H2 σ ρ v1 v2 Q R2 (o1.mono k2.view) o2 fun v H3 en μ3 k3 R3 o3 p3 => q v H3 en μ3 ((k1.trans k2).trans k3) R3 o3 p3
theorem de_un {op : UnaryOp} {r : V → Hp → VK → Prop} (ho : UnR X (unaryOp op) r) (h : DE X a ρ μ fun e1 μ1 => RU X r e1 μ1 P) : DE X (.UnaryOp op a pos) ρ μ P := by
  intro E as H σ Q R q
  refine of_pe (pe_un ho pe_w) (h E as H σ _ R fun v1 H1 e1 μ1 k1 R1 o1 p1 => ?_)
  exact p1 E as H1 σ ρ v1 Q R1 o1 fun v H3 en μ3 k3 R3 o3 p3 => q v H3 en μ3 (k1.trans k3) R3 o3 p3
theorem de_cmp {op : CmpOp} (ho : OpR X (compareOp op) r) (hm : behindInMarks op b = false) (h : DE X a ρ μ fun e1 μ1 => DE X b ρ μ1 fun e2 μ2 => RV X r e1 e2 μ2 P) : DE X (.Compare a [op] [b] pos) ρ μ P := by
  intro E as H σ Q R q
  refine of_pe (pe_cmpR ho pe_w pe_w hm) (h E as H σ _ R fun v1 H1 e1 μ1 k1 R1 o1 p1 => ?_)
  refine p1 E as H1 σ _ R1 fun v2 H2 e2 μ2 k2 R2 o2 p2 => ?_
  exact p2 E as H2 σ ρ v1 v2 Q R2 (o1.mono k2.view) o2 fun v H3 en μ3 k3 R3 o3 p3 => q v H3 en μ3 ((k1.trans k2).trans k3) R3 o3 p3
/-- what a test asks of a value that is a bool -/
def TB (PB : Bool → Mu → Prop) : Ent → Mu → Prop := fun en μ => ∃ b, en = .d (.bool b) ∧ PB b μ
theorem dt_cmp {op : CmpOp} (ho : OpR X (compareOp op) r) (hm : behindInMarks op b = false) (h : DE X a ρ μ fun e1 μ1 => DE X b ρ μ1 fun e2 μ2 => RV X r e1 e2 μ2 (TB PB)) : DT X (.Compare a [op] [b] pos) ρ μ PB := by
  intro E as H σ Q R q
  refine of_pt (pt_cmpR ho pe_w pe_w hm) (h E as H σ _ R fun v1 H1 e1 μ1 k1 R1 o1 p1 => ?_)
  refine p1 E as H1 σ _ R1 fun v2 H2 e2 μ2 k2 R2 o2 p2 => ?_
  refine p2 E as H2 σ ρ v1 v2 _ R2 (o1.mono k2.view) o2 fun v H3 en μ3 k3 R3 o3 p3 => ?_
  obtain ⟨b, rfl, pb⟩ := p3
  exact ⟨b, dp_bl o3, q b H3 μ3 ((k1.trans k2).trans k3) R3 pb⟩
theorem dt_val (h : DE X e ρ μ (TB PB)) (he : ∀ whole, isTrue e X.env whole = (do let v ← whole; standAt e.pos; holding [v] (truthy v)) := by intro _; rfl) : DT X e ρ μ PB := by
  intro E as H σ Q R q
  refine of_pt (pt_val pe_w he) (h E as H σ _ R fun v H3 en μ3 k3 R3 o3 p3 => ?_)
  obtain ⟨b, rfl, pb⟩ := p3
  exact ⟨b, dp_bl o3, q b H3 μ3 k3 R3 pb⟩
/-- a op b op' c -/
theorem de_chain {op op' : CmpOp} (ho : OpR X (compareOp op) r) (ho' : OpR X (compareOp op') r') (hm : lastMarks [op, op'] [b, c] = false)
    (h : DE X a ρ μ fun e1 μ1 => DE X b ρ μ1 fun e2 μ2 => RV X r e1 e2 μ2 fun en μ3 => ∃ k, en = .d (.bool k) ∧ (k = true → DE X c ρ μ3 fun e3 μ4 => RV X r' e2 e3 μ4 P) ∧ (k = false → P (.d (.bool false)) μ3)) : DE X (.Compare a [op, op'] [b, c] pos) ρ μ P := by
  intro E as H σ Q R q
  refine of_pe (pe_chain ho ho' pe_w pe_w pe_w hm) (h E as H σ _ R fun v1 H1 e1 μ1 k1 R1 o1 p1 => ?_)
  refine p1 E as H1 σ _ R1 fun v2 H2 e2 μ2 k2 R2 o2 p2 => ?_
  refine p2 E as H2 σ ρ v1 v2 _ R2 (o1.mono k2.view) o2 fun v H3 en μ3 k3 R3 o3 p3 => ?_
  obtain ⟨k, rfl, pt, pf⟩ := p3
  refine ⟨k, dp_bl o3, ?_⟩
  cases k with
  | true =>
    rw [if_pos rfl]
    refine pt rfl E as H3 σ _ R3 fun v3 H4 e3 μ4 k4 R4 o4 p4 => ?_
    exact p4 E as H4 σ ρ v2 v3 Q R4 (o2.mono (k3.trans k4).view) o4 fun v H5 en μ5 k5 R5 o5 p5 => q v H5 en μ5 ((((k1.trans k2).trans k3).trans k4).trans k5) R5 o5 p5
  | false =>
    rw [if_neg Bool.false_ne_true]
    exact q _ H3 _ μ3 ((k1.trans k2).trans k3) R3 (ok_d (Dp.bl false)) (pf rfl)
theorem dt_chain {op op' : CmpOp} (ho : OpR X (compareOp op) r) (ho' : OpR X (compareOp op') r') (hm : lastMarks [op, op'] [b, c] = false)
    (h : DE X a ρ μ fun e1 μ1 => DE X b ρ μ1 fun e2 μ2 => RV X r e1 e2 μ2 fun en μ3 => ∃ k, en = .d (.bool k) ∧ (k = true → DE X c ρ μ3 fun e3 μ4 => RV X r' e2 e3 μ4 (TB PB)) ∧ (k = false → PB false μ3)) : DT X (.Compare a [op, op'] [b, c] pos) ρ μ PB := by
  intro E as H σ Q R q
  refine of_pt (pt_chain ho ho' pe_w pe_w pe_w hm) (h E as H σ _ R fun v1 H1 e1 μ1 k1 R1 o1 p1 => ?_)
  refine p1 E as H1 σ _ R1 fun v2 H2 e2 μ2 k2 R2 o2 p2 => ?_
  refine p2 E as H2 σ ρ v1 v2 _ R2 (o1.mono k2.view) o2 fun v H3 en μ3 k3 R3 o3 p3 => ?_
  obtain ⟨k, rfl, pt, pf⟩ := p3
  refine ⟨k, dp_bl o3, ?_⟩
  cases k with
  | true =>
    rw [if_pos rfl]
    refine pt rfl E as H3 σ _ R3 fun v3 H4 e3 μ4 k4 R4 o4 p4 => ?_
    refine p4 E as H4 σ ρ v2 v3 _ R4 (o2.mono (k3.trans k4).view) o4 fun v H5 en μ5 k5 R5 o5 p5 => ?_
    obtain ⟨b, rfl, pb⟩ := p5
    exact ⟨b, dp_bl o5, q b H5 μ5 ((((k1.trans k2).trans k3).trans k4).trans k5) R5 pb⟩
  | false =>
    rw [if_neg Bool.false_ne_true]
    exact ⟨false, rfl, q _ H3 μ3 ((k1.trans k2).trans k3) R3 (pf rfl)⟩

/-! ### operations by data -/
theorem rv_i0 {f : Int → Int → Int} (h : ∃ i j, e1 = .d (.int i) ∧ e2 = .d (.int j) ∧ P (.d (.int (f i j))) μ) : RV X (rI0 fun i j => .int (f i j)) e1 e2 μ P := by
  intro E as H σ ρ v1 v2 Q R o1 o2 q
  obtain ⟨i, j, rfl, rfl, p⟩ := h
  exact ⟨i, j, dp_int o1, dp_int o2, q _ H _ μ (Kp.refl _ _) R (ok_d (Dp.int _)) p⟩
theorem rv_ic {C : Int → Int → Prop} {f : Int → Int → Int} (h : ∃ i j, e1 = .d (.int i) ∧ e2 = .d (.int j) ∧ C i j ∧ P (.d (.int (f i j))) μ) : RV X (rI C fun i j => .int (f i j)) e1 e2 μ P := by
  intro E as H σ ρ v1 v2 Q R o1 o2 q
  obtain ⟨i, j, rfl, rfl, c, p⟩ := h
  exact ⟨i, j, dp_int o1, dp_int o2, c, q _ H _ μ (Kp.refl _ _) R (ok_d (Dp.int _)) p⟩
theorem rv_b0 {f : Int → Int → Bool} (h : ∃ i j, e1 = .d (.int i) ∧ e2 = .d (.int j) ∧ P (.d (.bool (f i j))) μ) : RV X (rI0 fun i j => .bl (f i j)) e1 e2 μ P := by
  intro E as H σ ρ v1 v2 Q R o1 o2 q
  obtain ⟨i, j, rfl, rfl, p⟩ := h
  exact ⟨i, j, dp_int o1, dp_int o2, q _ H _ μ (Kp.refl _ _) R (ok_d (Dp.bl _)) p⟩
theorem dec_int' {i j : Int} : decide (V.int i = V.int j) = decide (i = j) := by
  rw [Bool.eq_iff_iff]; simp
theorem dec_str' {i j : Str} : decide (V.str i = V.str j) = decide (i = j) := by
  rw [Bool.eq_iff_iff]; simp
theorem dec_bl' {i j : Bool} : decide (V.bl i = V.bl j) = decide (i = j) := by
  rw [Bool.eq_iff_iff]; simp
theorem rv_eqI (h : ∃ i j, e1 = .d (.int i) ∧ e2 = .d (.int j) ∧ P (.d (.bool (decide (i = j)))) μ) : RV X rEq e1 e2 μ P := by
  intro E as H σ ρ v1 v2 Q R o1 o2 q
  obtain ⟨i, j, rfl, rfl, p⟩ := h
  cases dp_int o1
  cases dp_int o2
  exact ⟨rfl, q _ H _ μ (Kp.refl _ _) R (ok_d (Dp.bl _)) (by rw [dec_int']; exact p)⟩
theorem rv_neI (h : ∃ i j, e1 = .d (.int i) ∧ e2 = .d (.int j) ∧ P (.d (.bool (!decide (i = j)))) μ) : RV X rNe e1 e2 μ P := by
  intro E as H σ ρ v1 v2 Q R o1 o2 q
  obtain ⟨i, j, rfl, rfl, p⟩ := h
  cases dp_int o1
  cases dp_int o2
  exact ⟨rfl, q _ H _ μ (Kp.refl _ _) R (ok_d (Dp.bl _)) (by rw [dec_int']; exact p)⟩
theorem rv_eqS (h : ∃ i j, e1 = .d (.str i) ∧ e2 = .d (.str j) ∧ P (.d (.bool (decide (i = j)))) μ) : RV X rEq e1 e2 μ P := by
  intro E as H σ ρ v1 v2 Q R o1 o2 q
  obtain ⟨i, j, rfl, rfl, p⟩ := h
  cases dp_str o1
  cases dp_str o2
  exact ⟨rfl, q _ H _ μ (Kp.refl _ _) R (ok_d (Dp.bl _)) (by rw [dec_str']; exact p)⟩
theorem rv_neS (h : ∃ i j, e1 = .d (.str i) ∧ e2 = .d (.str j) ∧ P (.d (.bool (!decide (i = j)))) μ) : RV X rNe e1 e2 μ P := by
  intro E as H σ ρ v1 v2 Q R o1 o2 q
  obtain ⟨i, j, rfl, rfl, p⟩ := h
  cases dp_str o1
  cases dp_str o2
  exact ⟨rfl, q _ H _ μ (Kp.refl _ _) R (ok_d (Dp.bl _)) (by rw [dec_str']; exact p)⟩
theorem rv_eqB (h : ∃ i j, e1 = .d (.bool i) ∧ e2 = .d (.bool j) ∧ P (.d (.bool (decide (i = j)))) μ) : RV X rEq e1 e2 μ P := by
  intro E as H σ ρ v1 v2 Q R o1 o2 q
  obtain ⟨i, j, rfl, rfl, p⟩ := h
  cases dp_bl o1
  cases dp_bl o2
  exact ⟨rfl, q _ H _ μ (Kp.refl _ _) R (ok_d (Dp.bl _)) (by rw [dec_bl']; exact p)⟩
theorem rv_neB (h : ∃ i j, e1 = .d (.bool i) ∧ e2 = .d (.bool j) ∧ P (.d (.bool (!decide (i = j)))) μ) : RV X rNe e1 e2 μ P := by
  intro E as H σ ρ v1 v2 Q R o1 o2 q
  obtain ⟨i, j, rfl, rfl, p⟩ := h
  cases dp_bl o1
  cases dp_bl o2
  exact ⟨rfl, q _ H _ μ (Kp.refl _ _) R (ok_d (Dp.bl _)) (by rw [dec_bl']; exact p)⟩
theorem rv_eqD (h : ∃ d1 d2, e1 = .d d1 ∧ e2 = .d d2 ∧ SeqAt.shaped d1 = true ∧ SeqAt.shaped d2 = true ∧ P (.d (.bool (PyData.eqv d1 d2))) μ) : RV X (rEqD X.K) e1 e2 μ P := by
  intro E as H σ ρ v1 v2 Q R o1 o2 q
  obtain ⟨i, j, rfl, rfl, s1, s2, p⟩ := h
  exact ⟨i, j, dp_mono hide_same _ _ o1, dp_mono hide_same _ _ o2, s1, s2, q _ H _ μ (Kp.refl _ _) R (ok_d (Dp.bl _)) p⟩
theorem rv_neD (h : ∃ d1 d2, e1 = .d d1 ∧ e2 = .d d2 ∧ SeqAt.shaped d1 = true ∧ SeqAt.shaped d2 = true ∧ P (.d (.bool (!PyData.eqv d1 d2))) μ) : RV X (rNeD X.K) e1 e2 μ P := by
  intro E as H σ ρ v1 v2 Q R o1 o2 q
  obtain ⟨i, j, rfl, rfl, s1, s2, p⟩ := h
  exact ⟨i, j, dp_mono hide_same _ _ o1, dp_mono hide_same _ _ o2, s1, s2, q _ H _ μ (Kp.refl _ _) R (ok_d (Dp.bl _)) p⟩
def isNon : D → Bool
  | .none => true
  | _ => false
theorem dp_isNon {K : PySem.W.Frag} {H : Hp} {v : V} {d : D} (h : Dp K H v d) : decide (v = .non) = isNon d := by
  cases h <;> first | rfl | (simp [isNon])
theorem rv_isN (h : ∃ d, e1 = .d d ∧ e2 = .d .none ∧ P (.d (.bool (isNon d))) μ) : RV X (fun x y H Q => y = .non ∧ Q (.bl (decide (x = .non))) H) e1 e2 μ P := by
  intro E as H σ ρ v1 v2 Q R o1 o2 q
  obtain ⟨d, rfl, rfl, p⟩ := h
  exact ⟨dp_non o2, q _ H _ μ (Kp.refl _ _) R (ok_d (Dp.bl _)) (by rw [dp_isNon o1]; exact p)⟩
theorem rv_notN (h : ∃ d, e1 = .d d ∧ e2 = .d .none ∧ P (.d (.bool (!isNon d))) μ) : RV X (fun x y H Q => y = .non ∧ Q (.bl (!decide (x = .non))) H) e1 e2 μ P := by
  intro E as H σ ρ v1 v2 Q R o1 o2 q
  obtain ⟨d, rfl, rfl, p⟩ := h
  exact ⟨dp_non o2, q _ H _ μ (Kp.refl _ _) R (ok_d (Dp.bl _)) (by rw [dp_isNon o1]; exact p)⟩
theorem ru_i {f : Int → Int} (h : ∃ i, e1 = .d (.int i) ∧ P (.d (.int (f i))) μ) : RU X (rU fun i => .int (f i)) e1 μ P := by
  intro E as H σ ρ v1 Q R o1 q
  obtain ⟨i, rfl, p⟩ := h
  exact ⟨i, dp_int o1, q _ H _ μ (Kp.refl _ _) R (ok_d (Dp.int _)) p⟩

/-! ### and, or, not, if -/
theorem de_one {op : BoolOp} (h : DE X a ρ μ P) : DE X (.BoolOp op [a] pos) ρ μ P := fun E as H σ Q R q => of_pe (pe_one pe_w) (h E as H σ Q R q)
theorem de_and {rest : List Expr} (h : DE X a ρ μ fun en μ1 => ∃ c, en = .d (.bool c) ∧ (c = true → DE X (.BoolOp .And (b :: rest) pos) ρ μ1 P) ∧ (c = false → P (.d (.bool false)) μ1)) : DE X (.BoolOp .And (a :: b :: rest) pos) ρ μ P := by
  intro E as H σ Q R q
  refine of_pe (pe_and pe_w pe_w) (h E as H σ _ R fun v H1 en μ1 k1 R1 o1 p1 => ?_)
  obtain ⟨c, rfl, pt, pf⟩ := p1
  refine ⟨c, dp_bl o1, ?_⟩
  cases c with
  | true =>
    rw [if_pos rfl]
    exact pt rfl E as H1 σ Q R1 fun v H2 en μ2 k2 R2 o2 p2 => q v H2 en μ2 (k1.trans k2) R2 o2 p2
  | false =>
    rw [if_neg Bool.false_ne_true]
    exact q _ H1 _ μ1 k1 R1 (ok_d (Dp.bl false)) (pf rfl)
theorem de_or {rest : List Expr} (h : DE X a ρ μ fun en μ1 => ∃ c, en = .d (.bool c) ∧ (c = false → DE X (.BoolOp .Or (b :: rest) pos) ρ μ1 P) ∧ (c = true → P (.d (.bool true)) μ1)) : DE X (.BoolOp .Or (a :: b :: rest) pos) ρ μ P := by
  intro E as H σ Q R q
  refine of_pe (pe_or pe_w pe_w) (h E as H σ _ R fun v H1 en μ1 k1 R1 o1 p1 => ?_)
  obtain ⟨c, rfl, pf, pt⟩ := p1
  refine ⟨c, dp_bl o1, ?_⟩
  cases c with
  | false =>
    rw [if_neg Bool.false_ne_true]
    exact pf rfl E as H1 σ Q R1 fun v H2 en μ2 k2 R2 o2 p2 => q v H2 en μ2 (k1.trans k2) R2 o2 p2
  | true =>
    rw [if_pos rfl]
    exact q _ H1 _ μ1 k1 R1 (ok_d (Dp.bl true)) (pt rfl)
theorem de_not (h : DE X a ρ μ fun en μ1 => ∃ c, en = .d (.bool c) ∧ P (.d (.bool (!c))) μ1) : DE X (.UnaryOp .Not a pos) ρ μ P := by
  intro E as H σ Q R q
  refine of_pe (pe_not pe_w) (h E as H σ _ R fun v H1 en μ1 k1 R1 o1 p1 => ?_)
  obtain ⟨c, rfl, p⟩ := p1
  exact ⟨c, dp_bl o1, q _ H1 _ μ1 k1 R1 (ok_d (Dp.bl _)) p⟩
theorem de_if (h : DT X c ρ μ fun k μ1 => (k = true → DE X a ρ μ1 P) ∧ (k = false → DE X b ρ μ1 P)) : DE X (.IfExp c a b pos) ρ μ P := by
  intro E as H σ Q R q
  refine of_pe (pe_ifExp pt_w pe_w pe_w) (h E as H σ _ R fun k H1 μ1 k1 R1 p1 => ?_)
  cases k with
  | true =>
    rw [if_pos rfl]
    exact p1.1 rfl E as H1 σ Q R1 fun v H2 en μ2 k2 R2 o2 p2 => q v H2 en μ2 (k1.trans k2) R2 o2 p2
  | false =>
    rw [if_neg Bool.false_ne_true]
    exact p1.2 rfl E as H1 σ Q R1 fun v H2 en μ2 k2 R2 o2 p2 => q v H2 en μ2 (k1.trans k2) R2 o2 p2
theorem dt_not (h : DT X a ρ μ fun k μ1 => PB (!k) μ1) : DT X (.UnaryOp .Not a pos) ρ μ PB := fun E as H σ Q R q =>
  of_pt (pt_not pt_w) (h E as H σ _ R fun k H1 μ1 k1 R1 p1 => q _ H1 μ1 k1 R1 p1)
theorem dt_bool {op : BoolOp} (h : DW X (.BoolOp op es pos) ρ μ PB) : DT X (.BoolOp op es pos) ρ μ PB := fun E as H σ Q R q =>
  of_pt pw_w.pt (h E as H σ Q R q)
theorem dw_and1 (h : DT X a ρ μ PB) : DW X (.BoolOp .And [a] pos) ρ μ PB := fun E as H σ Q R q => of_pw (pw_and1 pt_w) (h E as H σ Q R q)
theorem dw_or1 (h : DT X a ρ μ PB) : DW X (.BoolOp .Or [a] pos) ρ μ PB := fun E as H σ Q R q => of_pw (pw_or1 pt_w) (h E as H σ Q R q)
theorem dw_and {rest : List Expr} (h : DT X a ρ μ fun k μ1 => (k = true → DW X (.BoolOp .And (b :: rest) pos) ρ μ1 PB) ∧ (k = false → PB false μ1)) : DW X (.BoolOp .And (a :: b :: rest) pos) ρ μ PB := by
  intro E as H σ Q R q
  refine of_pw (pw_and pt_w pw_w) (h E as H σ _ R fun k H1 μ1 k1 R1 p1 => ?_)
  cases k with
  | true =>
    rw [if_pos rfl]
    exact p1.1 rfl E as H1 σ Q R1 fun b H2 μ2 k2 R2 p2 => q b H2 μ2 (k1.trans k2) R2 p2
  | false =>
    rw [if_neg Bool.false_ne_true]
    exact q _ H1 μ1 k1 R1 (p1.2 rfl)
theorem dw_or {rest : List Expr} (h : DT X a ρ μ fun k μ1 => (k = false → DW X (.BoolOp .Or (b :: rest) pos) ρ μ1 PB) ∧ (k = true → PB true μ1)) : DW X (.BoolOp .Or (a :: b :: rest) pos) ρ μ PB := by
  intro E as H σ Q R q
  refine of_pw (pw_or pt_w pw_w) (h E as H σ _ R fun k H1 μ1 k1 R1 p1 => ?_)
  cases k with
  | false =>
    rw [if_neg Bool.false_ne_true]
    exact p1.1 rfl E as H1 σ Q R1 fun b H2 μ2 k2 R2 p2 => q b H2 μ2 (k1.trans k2) R2 p2
  | true =>
    rw [if_pos rfl]
    exact q _ H1 μ1 k1 R1 (p1.2 rfl)

/-! ### arguments, displays -/
theorem da_nil (k : PL [] μ) : DA X [] ρ μ PL := fun E as H σ Q R q => of_pa pa_nil (q _ H _ μ (Kp.refl _ _) R .nil k)
theorem da_cons (h : DE X a ρ μ fun en μ1 => DA X es ρ μ1 fun ens μ2 => PL (en :: ens) μ2) (hs : starEach (a :: es) X.env = (false, eval a X.env) :: starEach es X.env := by rfl) : DA X (a :: es) ρ μ PL := by
  intro E as H σ Q R q
  refine of_pa (pa_cons pe_w pa_w hs) (h E as H σ _ R fun v H1 en μ1 k1 R1 o1 p1 => ?_)
  exact p1 E as H1 σ _ R1 fun vs H2 ens μ2 k2 R2 o2 p2 => q _ H2 _ μ2 (k1.trans k2) R2 (.cons (o1.mono k2.view) o2) p2
theorem ents_data {K : PySem.W.Frag} {F : Hp} {as : As} : ∀ {vs : List V} {ds : List D}, EntsOk K F as vs (ds.map .d) → DpAll K F vs ds
  | _, [], h => by cases h; exact .nil
  | _, d :: ds, h => by
    cases h with
    | cons h1 h2 => exact .cons h1 (ents_data h2)
theorem Rel.lay {K : PySem.W.Frag} {E : En} {H : Hp} {as : As} {σ : L2.St} {p' : Addr} {o : HO} (R : Rel K E H as σ ρ μ) (hp : H p' = none) : Rel K E (upd H p' o) as σ ρ μ := R.same fun b u e => by
  rw [upd_ne (ne_of_none e hp)]
  exact e
theorem not_cell {K : PySem.W.Frag} {H : Hp} {as : As} {p' : Addr} (c : Cells K H as μ) (hp : H p' = none) : some p' ∉ as := fun hm => by
  obtain ⟨i, hi⟩ := List.mem_iff_getElem?.mp hm
  have hl : i < μ.length := by
    rw [← c.len]
    exact (List.getElem?_eq_some_iff.mp hi).1
  have q := c.ok i p' (μ[i]) hi (by simp [hl])
  cases hmo : μ[i] with
  | lst l =>
    rw [hmo] at q
    obtain ⟨xs, h1, _⟩ := q
    rw [hp] at h1
    cases h1
  | opq o =>
    rw [hmo] at q
    have q' : H p' = some o := q
    rw [hp] at q'
    cases q'
theorem de_tup {x1 : Nat} (h : DA X es ρ μ fun ens μ1 => ∃ ds, ens = ds.map .d ∧ ds.length ≤ sizeLine ∧ P (.d (.tuple ds)) μ1) : DE X (.Tuple es x1 pos) ρ μ P := by
  intro E as H σ Q R q
  refine of_pe (pe_tup pa_w) (h E as H σ _ R fun vs H1 ens μ1 k1 R1 o1 p1 => ?_)
  obtain ⟨ds, rfl, hl, p⟩ := p1
  have da := ents_data o1
  refine ⟨by rw [da.length]; exact hl, fun p' hp => ?_⟩
  have nc := not_cell R1.cells hp
  refine q _ _ (.d (.tuple ds)) μ1 (k1.trans (Kp.new hp)) (R1.lay hp) ?_ p
  exact .tup (.inl (.inl (hide_of nc upd_same))) (dpa_mono (Kp.new hp).view _ _ da)
theorem de_lst (h : DA X es ρ μ fun ens μ1 => ∃ ds, ens = ds.map .d ∧ ds.length ≤ sizeLine ∧ P (.d (.list ds)) μ1) : DE X (.List es pos) ρ μ P := by
  intro E as H σ Q R q
  refine of_pe (pe_lst pa_w) (h E as H σ _ R fun vs H1 ens μ1 k1 R1 o1 p1 => ?_)
  obtain ⟨ds, rfl, hl, p⟩ := p1
  have da := ents_data o1
  refine ⟨by rw [da.length]; exact hl, fun p' hp => ?_⟩
  have nc := not_cell R1.cells hp
  refine q _ _ (.d (.list ds)) μ1 (k1.trans (Kp.new hp)) (R1.lay hp) ?_ p
  exact .lst (.inl (.inl (hide_of nc upd_same))) (dpa_mono (Kp.new hp).view _ _ da)

/-! ### subscripts -/
theorem de_ix (hr : IxR X r) (hs : PlainIx b) (h : DE X a ρ μ fun e1 μ1 => DE X b ρ μ1 fun e2 μ2 => RV X r e1 e2 μ2 P) : DE X (.Subscript a b pos) ρ μ P := by
  intro E as H σ Q R q
  refine of_pe (pe_ix hr pe_w pe_w hs) (h E as H σ _ R fun v1 H1 e1 μ1 k1 R1 o1 p1 => ?_)
  refine p1 E as H1 σ _ R1 fun v2 H2 e2 μ2 k2 R2 o2 p2 => ?_
  exact p2 E as H2 σ ρ v1 v2 Q R2 (o1.mono k2.view) o2 fun v H3 en μ3 k3 R3 o3 p3 => q v H3 en μ3 ((k1.trans k2).trans k3) R3 o3 p3
theorem ix_at {K : PySem.W.Frag} {H : Hp} {xs : List V} {ds : List D} {i : Int} {d : D} (ha : DpAll K H xs ds) (h : atI ds i = some d) : ∃ v, atI xs i = some v ∧ Dp K H v d := by
  have hl := ha.length
  unfold atI at h ⊢
  rw [hl]
  cases hj : ixN ds.length i with
  | none => rw [hj] at h; cases h
  | some j =>
    rw [hj] at h
    obtain ⟨v, a, b⟩ := ha.get (i := j) h
    exact ⟨v, a, b⟩
theorem rv_ixT (h : ∃ ds i d, e1 = .d (.tuple ds) ∧ e2 = .d (.int i) ∧ atI ds i = some d ∧ P (.d d) μ) : RV X (rIxT X.K) e1 e2 μ P := by
  intro E as H σ ρ v1 v2 Q R o1 o2 q
  obtain ⟨ds, i, d, rfl, rfl, hd, p⟩ := h
  obtain ⟨a, xs, rfl, hs, ha⟩ := dp_tup o1
  obtain ⟨v, hv, hp⟩ := ix_at ha hd
  exact ⟨a, xs, i, v, rfl, dp_int o2, Same.sqt hide_same hs, hv, q _ H _ μ (Kp.refl _ _) R (ok_d hp) p⟩
theorem rv_ixL (h : ∃ ds i d, e1 = .d (.list ds) ∧ e2 = .d (.int i) ∧ atI ds i = some d ∧ P (.d d) μ) : RV X (rIxL X.K) e1 e2 μ P := by
  intro E as H σ ρ v1 v2 Q R o1 o2 q
  obtain ⟨ds, i, d, rfl, rfl, hd, p⟩ := h
  obtain ⟨a, xs, rfl, hs, ha⟩ := dp_lst o1
  obtain ⟨v, hv, hp⟩ := ix_at ha hd
  exact ⟨a, xs, i, v, rfl, dp_int o2, Same.seq hide_same hs, hv, q _ H _ μ (Kp.refl _ _) R (ok_d hp) p⟩
/-- of a cell -/
theorem rv_ixC (h : ∃ k ds i d, e1 = .c k ∧ e2 = .d (.int i) ∧ μ[k]? = some (.lst ds) ∧ atI ds i = some d ∧ P (.d d) μ) : RV X (rIxL X.K) e1 e2 μ P := by
  intro E as H σ ρ v1 v2 Q R o1 o2 q
  obtain ⟨k, ds, i, d, rfl, rfl, hk, hd, p⟩ := h
  obtain ⟨a, ha, rfl⟩ := o1
  obtain ⟨xs, h1, h2⟩ := R.cells.ok k a _ ha hk
  obtain ⟨v, hv, hp⟩ := ix_at h2 hd
  exact ⟨a, xs, i, v, rfl, dp_int o2, .inl (.inl h1), hv, q _ H _ μ (Kp.refl _ _) R (ok_d hp) p⟩
theorem at_nat {ds : List D} {i : Int} {d : D} (h0 : 0 ≤ i) (h : ds[i.toNat]? = some d) : atI ds i = some d := by
  have e : i = (i.toNat : Int) := by omega
  rw [e]
  exact atI_nat h

/-! ### calls of built-ins -/
theorem de_callB {x : Str} {id : String} {r : List V → Hp → VK → Prop} (hc : CallR X (.builtin id) r) (g : Gb X x) (hm : X.mg x = none) (hv : bootBuiltins x = some (.builtin id)) (h : DA X (a :: es) ρ μ fun ens μ1 => RC X r ens μ1 P)
    (he : starEach (a :: es) X.env = (false, eval a X.env) :: starEach es X.env := by rfl) (hpl : (backTo pos (starEach es X.env)).any (·.1) = false := by rfl) : DE X (.Call (.Name x p) (a :: es) [] pos) ρ μ P := by
  intro E as H σ Q R q
  refine of_pe (pe_callB hc g.gl hm hv pa_w g.nn g.db he hpl) (h E as H σ _ R fun vs H1 ens μ1 k1 R1 o1 p1 => ?_)
  exact p1 E as H1 σ ρ vs Q R1 o1 fun v H3 en μ3 k3 R3 o3 p3 => q v H3 en μ3 (k1.trans k3) R3 o3 p3
theorem de_callT {x : Str} {T : String} {r : List V → Hp → VK → Prop} (hc : CallR X (.type T) r) (g : Gb X x) (hm : X.mg x = none) (hv : bootBuiltins x = some (.type T)) (h : DA X (a :: es) ρ μ fun ens μ1 => RC X r ens μ1 P)
    (he : starEach (a :: es) X.env = (false, eval a X.env) :: starEach es X.env := by rfl) (hpl : (backTo pos (starEach es X.env)).any (·.1) = false := by rfl) : DE X (.Call (.Name x p) (a :: es) [] pos) ρ μ P := by
  intro E as H σ Q R q
  refine of_pe (pe_callTy hc g.gl hm hv pa_w g.nn g.db he hpl) (h E as H σ _ R fun vs H1 ens μ1 k1 R1 o1 p1 => ?_)
  exact p1 E as H1 σ ρ vs Q R1 o1 fun v H3 en μ3 k3 R3 o3 p3 => q v H3 en μ3 (k1.trans k3) R3 o3 p3
section
variable {ens : List Ent}
theorem ents1 {K : PySem.W.Frag} {F : Hp} {as : As} {vs : List V} {x : Ent} (h : EntsOk K F as vs [x]) : ∃ v, vs = [v] ∧ EntOk K F as v x := by
  cases h with
  | cons a b => cases b; exact ⟨_, rfl, a⟩
theorem ents2 {K : PySem.W.Frag} {F : Hp} {as : As} {vs : List V} {x y : Ent} (h : EntsOk K F as vs [x, y]) : ∃ v w, vs = [v, w] ∧ EntOk K F as v x ∧ EntOk K F as w y := by
  cases h with
  | cons a b =>
    obtain ⟨w, rfl, c⟩ := ents1 b
    exact ⟨_, w, rfl, a, c⟩
theorem rc_abs (h : ∃ i, ens = [.d (.int i)] ∧ P (.d (.int (if i < 0 then -i else i))) μ) : RC X (fun xs H Q => ∃ i, xs = [.int i] ∧ Q (.int (if i < 0 then -i else i)) H) ens μ P := by
  intro E as H σ ρ vs Q R o q
  obtain ⟨i, rfl, p⟩ := h
  obtain ⟨v, rfl, o1⟩ := ents1 o
  cases dp_int o1
  exact ⟨i, rfl, q _ H _ μ (Kp.refl _ _) R (ok_d (Dp.int _)) p⟩
theorem rc_int (h : ∃ i, ens = [.d (.int i)] ∧ P (.d (.int i)) μ) : RC X (fun xs H Q => (∃ i, xs = [.int i] ∧ Q (.int i) H) ∨ ∃ k, xs = [.bl k] ∧ Q (.int (if k then 1 else 0)) H) ens μ P := by
  intro E as H σ ρ vs Q R o q
  obtain ⟨i, rfl, p⟩ := h
  obtain ⟨v, rfl, o1⟩ := ents1 o
  cases dp_int o1
  exact .inl ⟨i, rfl, q _ H _ μ (Kp.refl _ _) R (ok_d (Dp.int _)) p⟩
theorem rc_intB (h : ∃ k, ens = [.d (.bool k)] ∧ P (.d (.int (if k then 1 else 0))) μ) : RC X (fun xs H Q => (∃ i, xs = [.int i] ∧ Q (.int i) H) ∨ ∃ k, xs = [.bl k] ∧ Q (.int (if k then 1 else 0)) H) ens μ P := by
  intro E as H σ ρ vs Q R o q
  obtain ⟨i, rfl, p⟩ := h
  obtain ⟨v, rfl, o1⟩ := ents1 o
  cases dp_bl o1
  exact .inr ⟨i, rfl, q _ H _ μ (Kp.refl _ _) R (ok_d (Dp.int _)) p⟩
theorem rc_max2 (h : ∃ i j, ens = [.d (.int i), .d (.int j)] ∧ P (.d (.int (if j > i then j else i))) μ) : RC X (fun xs H Q => ∃ i j, xs = [.int i, .int j] ∧ Q (.int (if j > i then j else i)) H) ens μ P := by
  intro E as H σ ρ vs Q R o q
  obtain ⟨i, j, rfl, p⟩ := h
  obtain ⟨v, w, rfl, o1, o2⟩ := ents2 o
  cases dp_int o1
  cases dp_int o2
  exact ⟨i, j, rfl, q _ H _ μ (Kp.refl _ _) R (ok_d (Dp.int _)) p⟩
theorem rc_min2 (h : ∃ i j, ens = [.d (.int i), .d (.int j)] ∧ P (.d (.int (if j < i then j else i))) μ) : RC X (fun xs H Q => ∃ i j, xs = [.int i, .int j] ∧ Q (.int (if j < i then j else i)) H) ens μ P := by
  intro E as H σ ρ vs Q R o q
  obtain ⟨i, j, rfl, p⟩ := h
  obtain ⟨v, w, rfl, o1, o2⟩ := ents2 o
  cases dp_int o1
  cases dp_int o2
  exact ⟨i, j, rfl, q _ H _ μ (Kp.refl _ _) R (ok_d (Dp.int _)) p⟩
theorem rc_lenL (h : ∃ ds, ens = [.d (.list ds)] ∧ P (.d (.int ds.length)) μ) : RC X (fun xs H Q => ∃ p ys, xs = [.ref p] ∧ (SqL X.K H p ys ∨ SqT X.K H p ys) ∧ Q (.int ys.length) H) ens μ P := by
  intro E as H σ ρ vs Q R o q
  obtain ⟨ds, rfl, p⟩ := h
  obtain ⟨v, rfl, o1⟩ := ents1 o
  obtain ⟨a, xs, rfl, hs, ha⟩ := dp_lst o1
  exact ⟨a, xs, rfl, .inl (Same.seq hide_same hs), by rw [ha.length]; exact q _ H _ μ (Kp.refl _ _) R (ok_d (Dp.int _)) p⟩
theorem rc_lenT (h : ∃ ds, ens = [.d (.tuple ds)] ∧ P (.d (.int ds.length)) μ) : RC X (fun xs H Q => ∃ p ys, xs = [.ref p] ∧ (SqL X.K H p ys ∨ SqT X.K H p ys) ∧ Q (.int ys.length) H) ens μ P := by
  intro E as H σ ρ vs Q R o q
  obtain ⟨ds, rfl, p⟩ := h
  obtain ⟨v, rfl, o1⟩ := ents1 o
  obtain ⟨a, xs, rfl, hs, ha⟩ := dp_tup o1
  exact ⟨a, xs, rfl, .inr (Same.sqt hide_same hs), by rw [ha.length]; exact q _ H _ μ (Kp.refl _ _) R (ok_d (Dp.int _)) p⟩
theorem rc_lenC (h : ∃ k ds, ens = [.c k] ∧ μ[k]? = some (.lst ds) ∧ P (.d (.int ds.length)) μ) : RC X (fun xs H Q => ∃ p ys, xs = [.ref p] ∧ (SqL X.K H p ys ∨ SqT X.K H p ys) ∧ Q (.int ys.length) H) ens μ P := by
  intro E as H σ ρ vs Q R o q
  obtain ⟨k, ds, rfl, hk, p⟩ := h
  obtain ⟨v, rfl, a, ha, rfl⟩ := ents1 o
  obtain ⟨xs, h1, h2⟩ := R.cells.ok k a _ ha hk
  exact ⟨a, xs, rfl, .inl (.inl (.inl h1)), by rw [h2.length]; exact q _ H _ μ (Kp.refl _ _) R (ok_d (Dp.int _)) p⟩
theorem rc_all (h : ∃ bs : List Bool, ens = [.d (.list (bs.map .bool))] ∧ P (.d (.bool (bs.all id))) μ) : RC X (rAll X.K) ens μ P := by
  intro E as H σ ρ vs Q R o q
  obtain ⟨bs, rfl, p⟩ := h
  obtain ⟨v, rfl, o1⟩ := ents1 o
  obtain ⟨a, xs, rfl, hs, ha⟩ := dp_lst o1
  have e : xs = bs.map V.bl := by
    clear hs o o1 q p
    induction bs generalizing xs with
    | nil => cases ha; rfl
    | cons b bs ih =>
      cases ha with
      | cons h1 h2 =>
        cases dp_bl h1
        rw [List.map_cons, ih _ h2]
  subst e
  exact ⟨a, bs, rfl, Same.seq hide_same hs, q _ H _ μ (Kp.refl _ _) R (ok_d (Dp.bl _)) p⟩
theorem rc_any (h : ∃ bs : List Bool, ens = [.d (.list (bs.map .bool))] ∧ P (.d (.bool (bs.any id))) μ) : RC X (rAny X.K) ens μ P := by
  intro E as H σ ρ vs Q R o q
  obtain ⟨bs, rfl, p⟩ := h
  obtain ⟨v, rfl, o1⟩ := ents1 o
  obtain ⟨a, xs, rfl, hs, ha⟩ := dp_lst o1
  have e : xs = bs.map V.bl := by
    clear hs o o1 q p
    induction bs generalizing xs with
    | nil => cases ha; rfl
    | cons b bs ih =>
      cases ha with
      | cons h1 h2 =>
        cases dp_bl h1
        rw [List.map_cons, ih _ h2]
  subst e
  exact ⟨a, bs, rfl, Same.seq hide_same hs, q _ H _ μ (Kp.refl _ _) R (ok_d (Dp.bl _)) p⟩
/-- list(xs), list(t): a new list -/
theorem rc_listOf (h : ∃ ds, (ens = [.d (.list ds)] ∨ ens = [.d (.tuple ds)]) ∧ P (.d (.list ds)) μ) : RC X (fun xs H Q => ∃ p ys, xs = [.ref p] ∧ (SqL X.K H p ys ∨ SqT X.K H p ys) ∧ ∀ l, H l = none → Q (.ref l) (upd H l (.lst ys))) ens μ P := by
  intro E as H σ ρ vs Q R o q
  obtain ⟨ds, hh, p⟩ := h
  have fin : ∀ ys, DpAll X.K (hide H as) ys ds → ∀ l, H l = none → Q (.ref l) (upd H l (.lst ys)) := fun ys ha l hl =>
    q _ _ _ μ (Kp.new hl) (R.lay hl) (ok_d <| .lst (.inl (.inl (hide_of (not_cell R.cells hl) upd_same))) (dpa_mono (Kp.new hl).view _ _ ha)) p
  rcases hh with rfl | rfl
  · obtain ⟨v, rfl, o1⟩ := ents1 o
    obtain ⟨a, xs, rfl, hs, ha⟩ := dp_lst o1
    exact ⟨a, xs, rfl, .inl (Same.seq hide_same hs), fin xs ha⟩
  · obtain ⟨v, rfl, o1⟩ := ents1 o
    obtain ⟨a, xs, rfl, hs, ha⟩ := dp_tup o1
    exact ⟨a, xs, rfl, .inr (Same.sqt hide_same hs), fin xs ha⟩
theorem rc_tupleOf (h : ∃ ds, (ens = [.d (.list ds)] ∨ ens = [.d (.tuple ds)]) ∧ P (.d (.tuple ds)) μ) : RC X (fun xs H Q => ∃ p ys, xs = [.ref p] ∧ ((SqL X.K H p ys ∧ ∀ l, H l = none → Q (.ref l) (upd H l (.tup ys))) ∨ (SqT X.K H p ys ∧ Q (.ref p) H))) ens μ P := by
  intro E as H σ ρ vs Q R o q
  obtain ⟨ds, hh, p⟩ := h
  rcases hh with rfl | rfl
  · obtain ⟨v, rfl, o1⟩ := ents1 o
    obtain ⟨a, xs, rfl, hs, ha⟩ := dp_lst o1
    exact ⟨a, xs, rfl, .inl ⟨Same.seq hide_same hs, fun l hl => q _ _ _ μ (Kp.new hl) (R.lay hl) (ok_d <| .tup (.inl (.inl (hide_of (not_cell R.cells hl) upd_same))) (dpa_mono (Kp.new hl).view _ _ ha)) p⟩⟩
  · obtain ⟨v, rfl, o1⟩ := ents1 o
    obtain ⟨a, xs, rfl, hs, ha⟩ := dp_tup o1
    exact ⟨a, xs, rfl, .inr ⟨Same.sqt hide_same hs, q _ H _ μ (Kp.refl _ _) R o1 p⟩⟩
/-- lists put together -/
theorem rv_cat (h : ∃ ds es', e1 = .d (.list ds) ∧ e2 = .d (.list es') ∧ ds.length + es'.length ≤ sizeLine ∧ P (.d (.list (ds ++ es'))) μ) : RV X (fun x y H Q => ∃ (a b : Addr) (xs ys : List V), x = .ref a ∧ y = .ref b ∧ SqL X.K H a xs ∧ SqL X.K H b ys ∧ xs.length + ys.length ≤ sizeLine ∧ ∀ p, H p = none → Q (.ref p) (upd H p (.lst (xs ++ ys)))) e1 e2 μ P := by
  intro E as H σ ρ v1 v2 Q R o1 o2 q
  obtain ⟨ds, es', rfl, rfl, hz, p⟩ := h
  obtain ⟨a, xs, rfl, hs, ha⟩ := dp_lst o1
  obtain ⟨b, ys, rfl, ht, hb⟩ := dp_lst o2
  exact ⟨a, b, xs, ys, rfl, rfl, Same.seq hide_same hs, Same.seq hide_same ht, by rw [ha.length, hb.length]; exact hz, fun l hl =>
    q _ _ _ μ (Kp.new hl) (R.lay hl) (ok_d <| .lst (.inl (.inl (hide_of (not_cell R.cells hl) upd_same))) (dpa_mono (Kp.new hl).view _ _ (ha.app hb))) p⟩
/-- divmod -/
theorem rc_divmod (h : ∃ i j, ens = [.d (.int i), .d (.int j)] ∧ CDiv i j ∧ P (.d (.tuple [.int (i / j), .int (i % j)])) μ) :
    RC X (fun xs H Q => ∃ i j, xs = [.int i, .int j] ∧ CDiv i j ∧ ∀ p, H p = none → Q (.ref p) (upd H p (.tup [.int (i / j), .int (i % j)]))) ens μ P := by
  intro E as H σ ρ vs Q R o q
  obtain ⟨i, j, rfl, hc, p⟩ := h
  obtain ⟨v, w, rfl, o1, o2⟩ := ents2 o
  cases dp_int o1
  cases dp_int o2
  exact ⟨i, j, rfl, hc, fun l hl => q _ _ _ μ (Kp.new hl) (R.lay hl) (ok_d <| .tup (.inl (.inl (hide_of (not_cell R.cells hl) upd_same))) (.cons (.int _) (.cons (.int _) .nil))) p⟩
end
end
end Pw

/-! PwC: statements, loops, comprehensions, calls of own defs, over data. -/
namespace Pw
open PySem PySem.Spec L2

/-! ### what is wanted behind a statement -/
structure Po where
  nx : Slots → Mu → Prop
  rt : Ent → Mu → Prop
  bk : Slots → Mu → Prop := fun _ _ => False
  ct : Slots → Mu → Prop := fun _ _ => False
structure EndsOk (K : PySem.W.Frag) (E : En) (Z : Po) (Dn : Ends) : Prop where
  nx : ∀ as H σ ρ μ, Rel K E H as σ ρ μ → Z.nx ρ μ → Dn.nx σ H
  rt : ∀ as H σ ρ μ v en, Rel K E H as σ ρ μ → EntOk K (hide H as) as v en → Z.rt en μ → Dn.rt v H
  bk : ∀ as H σ ρ μ, Rel K E H as σ ρ μ → Z.bk ρ μ → Dn.bk σ H
  ct : ∀ as H σ ρ μ, Rel K E H as σ ρ μ → Z.ct ρ μ → Dn.ct σ H
def DS (X : Cx) (st : Stmt) (ρ : Slots) (μ : Mu) (Z : Po) : Prop :=
  ∀ (E : En) (as : As) (H : Hp) (σ : L2.St) (Dn : Ends), Rel X.K E H as σ ρ μ → EndsOk X.K E Z Dn → wS X st Dn σ H
def DSs (X : Cx) (sts : List Stmt) (ρ : Slots) (μ : Mu) (Z : Po) : Prop :=
  ∀ (E : En) (as : As) (H : Hp) (σ : L2.St) (Dn : Ends), Rel X.K E H as σ ρ μ → EndsOk X.K E Z Dn → wSs X sts Dn σ H
def DG (X : Cx) (tg : Expr) (en : Ent) (ρ : Slots) (μ : Mu) (P : Slots → Mu → Prop) : Prop :=
  ∀ (E : En) (as : As) (H : Hp) (σ : L2.St) (v : V) (Q : L2.St → Hp → Prop), Rel X.K E H as σ ρ μ → EntOk X.K (hide H as) as v en →
    (∀ as' σ' H' ρ' μ', Rel X.K E H' as' σ' ρ' μ' → P ρ' μ' → Q σ' H') → wG X tg v σ H Q
/-- targets of the items of a tuple or a list: the heap stays -/
def DGs (X : Cx) (ts : List Expr) (ds : List D) (ρ : Slots) (μ : Mu) (P : Slots → Prop) : Prop :=
  ∀ (E : En) (as : As) (H : Hp) (σ : L2.St) (vs : List V) (Q : L2.St → Hp → Prop), Rel X.K E H as σ ρ μ → DpAll X.K (hide H as) vs ds →
    (∀ σ' ρ', Rel X.K E H as σ' ρ' μ → P ρ' → Q σ' H) → wGs X ts vs σ H Q
/-- names that may be stored -/
structure Lc (X : Cx) (li : List Nat) : Prop where
  nd : X.N.Nodup
  loc : ∀ i ∈ li, ∀ x, X.N[i]? = some x → Loc X.env.scope x ∧ (X.fn x = true ∨ X.env.scope.names.lookup x = some .local)

section
variable {X : Cx} {a b c e tg : Expr} {es : List Expr} {st : Stmt} {sts : List Stmt} {pos p : Pos} {ρ : Slots} {μ : Mu} {Z Z' : Po}
theorem DSs.imp (h : DSs X sts ρ μ Z) (h1 : ∀ ρ μ, Z.nx ρ μ → Z'.nx ρ μ) (h2 : ∀ e μ, Z.rt e μ → Z'.rt e μ) (h3 : ∀ ρ μ, Z.bk ρ μ → Z'.bk ρ μ) (h4 : ∀ ρ μ, Z.ct ρ μ → Z'.ct ρ μ) : DSs X sts ρ μ Z' :=
  fun E as H σ Dn R q => h E as H σ Dn R ⟨fun a b c d f g k => q.nx a b c d f g (h1 _ _ k), fun a b c d f v e g k l => q.rt a b c d f v e g k (h2 _ _ l), fun a b c d f g k => q.bk a b c d f g (h3 _ _ k), fun a b c d f g k => q.ct a b c d f g (h4 _ _ k)⟩
theorem dss_nil (k : Z.nx ρ μ) : DSs X [] ρ μ Z := fun E as H σ Dn R q => of_pss pss_nil (q.nx as H σ ρ μ R k)
theorem dss_one (h : DS X st ρ μ Z) : DSs X [st] ρ μ Z := fun E as H σ Dn R q => of_pss (pss_one ps_w) (h E as H σ Dn R q)
theorem dss_cons (h : DS X st ρ μ { Z with nx := fun ρ' μ' => DSs X sts ρ' μ' Z }) : DSs X (st :: sts) ρ μ Z := by
  intro E as H σ Dn R q
  refine of_pss (pss_cons ps_w pss_w) (h E as H σ _ R ⟨fun as' H' σ' ρ' μ' R' k => ?_, q.rt, q.bk, q.ct⟩)
  exact k E as' H' σ' Dn R' q
theorem ds_set {i : Nat} {x : Str} {li : List Nat} (L : Lc X li) (hN : X.N[i]? = some x) (hi : i ∈ li) (h : DE X e ρ μ fun en μ' => Z.nx (ρ.set i (some en)) μ')
    (hs : swapsWith e (some (.Name x p)) pos.line X.env = pure false := by rfl) : DS X (.Assign [.Name x p] e pos) ρ μ Z := by
  intro E as H σ Dn R q
  obtain ⟨l1, l2⟩ := L.loc i hi x hN
  refine of_ps (ps_set L.nd hN l1 pe_w hs l2) (h E as H σ _ R fun v H1 en μ1 k1 R1 o1 p1 => ?_)
  exact q.nx as H1 _ _ μ1 (R1.set o1) p1
/-- any target -/
theorem ds_asg (h : DE X e ρ μ fun en μ' => DG X tg en ρ μ' Z.nx) (hs : swapsWithSole [tg] e pos.line X.env = pure false := by rfl) (hw : swappedStores [tg] e X.env = pure none := by rfl)
    (h1 : (assignEach [tg] X.env).map (·.2) = [assign tg X.env] := by rfl) : DS X (.Assign [tg] e pos) ρ μ Z := by
  intro E as H σ Dn R q
  refine of_ps (ps_asg pe_w pg_w hs hw h1) (h E as H σ _ R fun v H1 en μ1 k1 R1 o1 p1 => ?_)
  exact p1 E as H1 σ v _ R1 o1 fun as' σ' H' ρ' μ' R' z => q.nx as' H' σ' ρ' μ' R' z
theorem dg_name {i : Nat} {x : Str} {li : List Nat} {en : Ent} {P : Slots → Mu → Prop} (L : Lc X li) (hN : X.N[i]? = some x) (hi : i ∈ li) (k : P (ρ.set i (some en)) μ) : DG X (.Name x p) en ρ μ P := by
  intro E as H σ v Q R o q
  obtain ⟨l1, l2⟩ := L.loc i hi x hN
  exact of_pg (pg_name L.nd hN l1 l2) (q as _ H _ μ (R.set o) k)
theorem dgs_nil {P : Slots → Prop} (k : P ρ) : DGs X [] [] ρ μ P := fun E as H σ vs Q R o q => by
  cases o
  exact of_pgs pgs_nil ⟨rfl, q σ ρ R k⟩
theorem dgs_name {i : Nat} {x : Str} {li : List Nat} {d : D} {ds : List D} {P : Slots → Prop} (L : Lc X li) (hN : X.N[i]? = some x) (hi : i ∈ li) (k : DGs X es ds (ρ.set i (some (.d d))) μ P)
    (hs : (assignEach (.Name x p :: es) X.env).map (·.2) = assign (.Name x p) X.env :: (assignEach es X.env).map (·.2) := by rfl) : DGs X (.Name x p :: es) (d :: ds) ρ μ P := by
  intro E as H σ vs Q R o q
  obtain ⟨l1, l2⟩ := L.loc i hi x hN
  cases o with
  | cons o1 o2 => exact of_pgs (pgs_cons (pg_name L.nd hN l1 l2) pgs_w hs) ⟨_, _, rfl, k E as H _ _ Q (R.set (en := .d d) o1) o2 fun σ' ρ' R' z => q σ' ρ' R' z⟩
theorem dg_tup {k : Nat} {ds : List D} {P : Slots → Mu → Prop} {n : Nat} (hc : X.calm = true) (hl : ds.length = n) (h : DGs X es ds ρ μ fun ρ' => P ρ' μ)
    (hn : (assignEach es X.env).length = n := by rfl) (hst : (assignEach es X.env).findIdx? (·.1) = none := by rfl) : DG X (.Tuple es k pos) (.d (.tuple ds)) ρ μ P := by
  intro E as H σ v Q R o q
  obtain ⟨a, xs, rfl, hs, ha⟩ := dp_tup o
  exact of_pg (pg_tup hc pgs_w hn hst) ⟨a, xs, rfl, Same.sqt hide_same hs, by rw [ha.length, hl], h E as H σ xs Q R ha fun σ' ρ' R' z => q as σ' H ρ' μ R' z⟩
theorem dg_unl {k : Nat} {ds : List D} {P : Slots → Mu → Prop} {n : Nat} (hc : X.calm = true) (hl : ds.length = n) (h : DGs X es ds ρ μ fun ρ' => P ρ' μ)
    (hn : (assignEach es X.env).length = n := by rfl) (hst : (assignEach es X.env).findIdx? (·.1) = none := by rfl) : DG X (.Tuple es k pos) (.d (.list ds)) ρ μ P := by
  intro E as H σ v Q R o q
  obtain ⟨a, xs, rfl, hs, ha⟩ := dp_lst o
  exact of_pg (pg_unl hc pgs_w hn hst) ⟨a, xs, rfl, Same.seq hide_same hs, by rw [ha.length, hl], h E as H σ xs Q R ha fun σ' ρ' R' z => q as σ' H ρ' μ R' z⟩
/-- a nested tuple among the targets: of a list, of a tuple -/
theorem dgs_unl {k : Nat} {ts : List Expr} {d1 ds : List D} {P : Slots → Prop} {n : Nat} (hc : X.calm = true) (hl : d1.length = n) (h : DGs X ts d1 ρ μ fun ρ' => DGs X es ds ρ' μ P)
    (hn : (assignEach ts X.env).length = n := by rfl) (hst : (assignEach ts X.env).findIdx? (·.1) = none := by rfl)
    (hs : (assignEach (.Tuple ts k pos :: es) X.env).map (·.2) = assign (.Tuple ts k pos) X.env :: (assignEach es X.env).map (·.2) := by rfl) : DGs X (.Tuple ts k pos :: es) (.list d1 :: ds) ρ μ P := by
  intro E as H σ vs Q R o q
  cases o with
  | cons o1 o2 =>
    obtain ⟨a, xs, rfl, hx, ha⟩ := dp_lst o1
    refine of_pgs (pgs_cons (pg_unl hc pgs_w hn hst) pgs_w hs) ⟨_, _, rfl, a, xs, rfl, Same.seq hide_same hx, by rw [ha.length, hl], ?_⟩
    exact h E as H σ xs _ R ha fun σ' ρ' R' z => z E as H σ' _ Q R' o2 q
theorem dgs_tup {k : Nat} {ts : List Expr} {d1 ds : List D} {P : Slots → Prop} {n : Nat} (hc : X.calm = true) (hl : d1.length = n) (h : DGs X ts d1 ρ μ fun ρ' => DGs X es ds ρ' μ P)
    (hn : (assignEach ts X.env).length = n := by rfl) (hst : (assignEach ts X.env).findIdx? (·.1) = none := by rfl)
    (hs : (assignEach (.Tuple ts k pos :: es) X.env).map (·.2) = assign (.Tuple ts k pos) X.env :: (assignEach es X.env).map (·.2) := by rfl) : DGs X (.Tuple ts k pos :: es) (.tuple d1 :: ds) ρ μ P := by
  intro E as H σ vs Q R o q
  cases o with
  | cons o1 o2 =>
    obtain ⟨a, xs, rfl, hx, ha⟩ := dp_tup o1
    refine of_pgs (pgs_cons (pg_tup hc pgs_w hn hst) pgs_w hs) ⟨_, _, rfl, a, xs, rfl, Same.sqt hide_same hx, by rw [ha.length, hl], ?_⟩
    exact h E as H σ xs _ R ha fun σ' ρ' R' z => z E as H σ' _ Q R' o2 q
/-- a, b = x, y of plain local names -/
theorem ds_par {i j : Nat} {x y : Str} {li : List Nat} {px py pt pt2 : Pos} {kt k2 : Nat} (L : Lc X li) (hc : X.calm = true) (hi : X.N[i]? = some x) (hj : X.N[j]? = some y) (hij : i ≠ j)
    (hx : X.env.scope.names.lookup x = some .local) (hy : X.env.scope.names.lookup y = some .local) (h : DA X [a, b] ρ μ fun ens μ1 => ∃ e1 e2, ens = [e1, e2] ∧ Z.nx ((ρ.set i (some e1)).set j (some e2)) μ1)
    (hw : swappedStores [.Tuple [.Name x px, .Name y py] kt pt] (.Tuple [a, b] k2 pt2) X.env = pure (some [x, y]))
    (hs : swapsWithSole [.Tuple [.Name x px, .Name y py] kt pt] (.Tuple [a, b] k2 pt2) pos.line X.env = pure false := by rfl) :
    DS X (.Assign [.Tuple [.Name x px, .Name y py] kt pt] (.Tuple [a, b] k2 pt2) pos) ρ μ Z := by
  intro E as H σ Dn R q
  refine of_ps (ps_par hc L.nd hi hj hij hx hy pa_w hw hs) (h E as H σ _ R fun vs H1 ens μ1 k1 R1 o1 p1 => ?_)
  obtain ⟨e1, e2, rfl, z⟩ := p1
  obtain ⟨v, w, rfl, q1, q2⟩ := ents2 o1
  exact ⟨v, w, rfl, q.nx as H1 _ _ μ1 ((R1.set q1).set q2) z⟩
theorem ents3 {K : PySem.W.Frag} {F : Hp} {as : As} {vs : List V} {x y z : Ent} (h : EntsOk K F as vs [x, y, z]) : ∃ u v w, vs = [u, v, w] ∧ EntOk K F as u x ∧ EntOk K F as v y ∧ EntOk K F as w z := by
  cases h with
  | cons a b =>
    obtain ⟨v, w, rfl, c, d⟩ := ents2 b
    exact ⟨_, v, w, rfl, a, c, d⟩
theorem ds_par3 {i j l : Nat} {x y z : Str} {li : List Nat} {px py pz pt pt2 : Pos} {kt k2 : Nat} (L : Lc X li) (hc : X.calm = true) (hi : X.N[i]? = some x) (hj : X.N[j]? = some y) (hl : X.N[l]? = some z) (hij : i ≠ j) (hil : i ≠ l) (hjl : j ≠ l)
    (hx : X.env.scope.names.lookup x = some .local) (hy : X.env.scope.names.lookup y = some .local) (hz : X.env.scope.names.lookup z = some .local)
    (h : DA X [a, b, c] ρ μ fun ens μ1 => ∃ e1 e2 e3, ens = [e1, e2, e3] ∧ Z.nx (((ρ.set i (some e1)).set j (some e2)).set l (some e3)) μ1)
    (hw : swappedStores [.Tuple [.Name x px, .Name y py, .Name z pz] kt pt] (.Tuple [a, b, c] k2 pt2) X.env = pure (some [x, y, z]))
    (hs : swapsWithSole [.Tuple [.Name x px, .Name y py, .Name z pz] kt pt] (.Tuple [a, b, c] k2 pt2) pos.line X.env = pure false := by rfl) :
    DS X (.Assign [.Tuple [.Name x px, .Name y py, .Name z pz] kt pt] (.Tuple [a, b, c] k2 pt2) pos) ρ μ Z := by
  intro E as H σ Dn R q
  refine of_ps (ps_par3 hc L.nd hi hj hl hij hil hjl hx hy hz pa_w hw hs) (h E as H σ _ R fun vs H1 ens μ1 k1 R1 o1 p1 => ?_)
  obtain ⟨e1, e2, e3, rfl, zz⟩ := p1
  obtain ⟨u, v, w, rfl, q1, q2, q3⟩ := ents3 o1
  exact ⟨u, v, w, rfl, q.nx as H1 _ _ μ1 (((R1.set q1).set q2).set q3) zz⟩
/-- n += e, n -= e of rgi at a name -/
theorem ds_aug {i : Nat} {x : Str} {li : List Nat} {op : Operator} {f : Int → Int → Int} (L : Lc X li) (hN : X.N[i]? = some x) (hi : i ∈ li) (ho : PIp X op (ipI f))
    (h : ∃ n, ρ[i]? = some (some (.d (.int n))) ∧ DE X e ρ μ fun en μ' => ∃ m, en = .d (.int m) ∧ Z.nx (ρ.set i (some (.d (.int (f n m))))) μ') : DS X (.AugAssign (.Name x p) op e pos) ρ μ Z := by
  intro E as H σ Dn R q
  obtain ⟨l1, l2⟩ := L.loc i hi x hN
  obtain ⟨n, hn, h⟩ := h
  obtain ⟨v, hv, ov⟩ := R.slot i _ hn
  cases dp_int ov
  refine of_ps (ps_aug L.nd hN l1 pe_w ho l2) ⟨_, hv, h E as H σ _ R fun v H1 en μ1 k1 R1 o1 p1 => ?_⟩
  obtain ⟨m, rfl, z⟩ := p1
  exact ⟨n, m, rfl, dp_int o1, q.nx as H1 _ _ μ1 (R1.set (en := .d (.int (f n m))) (.int _)) z⟩
/-- a cell's item stored -/
theorem Cells.put {K : PySem.W.Frag} {H : Hp} {as : As} {k : Nat} {a : Addr} {xs : List V} {l : List D} (c : Cells K H as μ) (ha : as[k]? = some (some a)) (hx : DpAll K (hide H as) xs l) : Cells K (upd H a (.lst xs)) as (μ.set k (.lst l)) := by
  have ma : some a ∈ as := List.mem_of_getElem? ha
  have vw := (Kp.write (o := HO.lst xs) (H := H) ma).view
  refine ⟨by simp [c.len], c.nd, fun i b m h1 h2 => ?_⟩
  by_cases hk : k = i
  · subst hk
    rw [ha] at h1
    cases h1
    have hlt : k < μ.length := by
      have := (List.getElem?_eq_some_iff.mp h2).1
      simpa using this
    rw [List.getElem?_set_self hlt] at h2
    cases h2
    exact ⟨xs, upd_same, dpa_mono vw _ _ hx⟩
  · rw [List.getElem?_set_ne hk] at h2
    have hb : b ≠ a := fun z => hk (c.nd k i a ha (by rw [← z]; exact h1))
    exact (c.ok i b m h1 h2).mono vw (upd_ne hb)
theorem ds_setC {o i : Expr} (h : DE X e ρ μ fun en μ1 => DE X o ρ μ1 fun eo μ2 => DE X i ρ μ2 fun ei μ3 => ∃ k l j jn d, eo = .c k ∧ ei = .d (.int j) ∧ en = .d d ∧ μ3[k]? = some (.lst l) ∧ ixN l.length j = some jn ∧ Z.nx ρ (μ3.set k (.lst (l.set jn d))))
    (hs : swapsWithSole [.Subscript o i p] e pos.line X.env = pure false := by rfl) (hw : swappedStores [.Subscript o i p] e X.env = pure none := by rfl)
    (h1 : (assignEach [.Subscript o i p] X.env).map (·.2) = [assign (.Subscript o i p) X.env] := by rfl)
    (ha : ∀ v, assign (.Subscript o i p) X.env v = (do
      let ov ← holding [v] (eval o X.env)
      let iv ← holding [v, ov] (eval i X.env)
      standAt p
      holding [v, ov, iv] (setItem ov iv v)
      release [v, ov, iv] []) := by intro _; rfl) : DS X (.Assign [.Subscript o i p] e pos) ρ μ Z := by
  intro E as H σ Dn R q
  refine of_ps (ps_asg pe_w (pg_sub pe_w pe_w set_list ha) hs hw h1) (h E as H σ _ R fun v H1 en μ1 k1 R1 o1 p1 => ?_)
  refine p1 E as H1 σ _ R1 fun ov H2 eo μ2 k2 R2 o2 p2 => ?_
  refine p2 E as H2 σ _ R2 fun iv H3 ei μ3 k3 R3 o3 p3 => ?_
  obtain ⟨k, l, j, jn, d, rfl, rfl, rfl, hk, hj, z⟩ := p3
  obtain ⟨a, ha', rfl⟩ := o2
  obtain ⟨xs, hx, hd⟩ := R3.cells.ok k a _ ha' hk
  refine ⟨a, xs, j, jn, rfl, dp_int o3, hx, by rw [hd.length]; exact hj, ?_⟩
  have ov' : Dp X.K (hide H3 as) v d := o1.mono (k2.trans k3).view
  exact q.nx as _ σ ρ _ (R3.step (Kp.write (List.mem_of_getElem? ha')) (R3.cells.put ha' (hd.set jn ov'))) z
theorem ds_ret (h : DE X e ρ μ Z.rt) : DS X (.Return (some e) pos) ρ μ Z := fun E as H σ Dn R q =>
  of_ps (ps_ret pe_w) (h E as H σ _ R fun v H1 en μ1 k1 R1 o1 p1 => q.rt as H1 σ ρ μ1 v en R1 o1 p1)
theorem ds_retN (k : Z.rt (.d .none) μ) : DS X (.Return none pos) ρ μ Z := fun E as H σ Dn R q => of_ps ps_retN (q.rt as H σ ρ μ .non (.d .none) R .non k)
theorem ds_expr (h : DE X e ρ μ fun _ μ' => Z.nx ρ μ') (hs : swapsWith e none pos.line X.env = pure false := by rfl) : DS X (.Expr e pos) ρ μ Z := fun E as H σ Dn R q =>
  of_ps (ps_expr pe_w hs) (h E as H σ _ R fun v H1 en μ1 k1 R1 o1 p1 => q.nx as H1 σ ρ μ1 R1 p1)
theorem ds_if {s1 s2 : List Stmt} (h : DT X c ρ μ fun k μ1 => (k = true → DSs X s1 ρ μ1 Z) ∧ (k = false → DSs X s2 ρ μ1 Z)) : DS X (.If c s1 s2 pos) ρ μ Z := by
  intro E as H σ Dn R q
  refine of_ps (ps_if pt_w pss_w pss_w) (h E as H σ _ R fun k H1 μ1 k1 R1 p1 => ?_)
  cases k with
  | true => rw [if_pos rfl]; exact p1.1 rfl E as H1 σ Dn R1 q
  | false => rw [if_neg Bool.false_ne_true]; exact p1.2 rfl E as H1 σ Dn R1 q
theorem ds_pass (k : Z.nx ρ μ) : DS X (.Pass pos) ρ μ Z := fun E as H σ Dn R q => of_ps ps_pass (q.nx as H σ ρ μ R k)
theorem ds_brk (k : Z.bk ρ μ) : DS X (.Break pos) ρ μ Z := fun E as H σ Dn R q => of_ps ps_break (q.bk as H σ ρ μ R k)
theorem ds_cont (k : Z.ct ρ μ) : DS X (.Continue pos) ρ μ Z := fun E as H σ Dn R q => of_ps ps_continue (q.ct as H σ ρ μ R k)
theorem ds_while {body : List Stmt} (hp : PassesOwn (model X.prog X.w) X.A X.env X.xe) (Iv : Nat → Slots → Mu → Prop) (m0 : Nat) (h0 : Iv m0 ρ μ)
    (hs : ∀ m ρ' μ', Iv m ρ' μ' → DT X c ρ' μ' fun k μ1 => (k = true → DSs X body ρ' μ1 { nx := fun ρ2 μ2 => ∃ m', m' < m ∧ Iv m' ρ2 μ2, ct := fun ρ2 μ2 => ∃ m', m' < m ∧ Iv m' ρ2 μ2, bk := Z.nx, rt := Z.rt }) ∧ (k = false → Z.nx ρ' μ1)) :
    DS X (.While c body [] pos) ρ μ Z := by
  intro E as H σ Dn R q
  refine of_ps (ps_while hp pt_w pss_w) ⟨fun m σ' H' => ∃ as' ρ' μ', Rel X.K E H' as' σ' ρ' μ' ∧ Iv m ρ' μ', ⟨m0, as, ρ, μ, R, h0⟩, ?_⟩
  rintro m σ' H' ⟨as', ρ', μ', R', i'⟩
  refine hs m ρ' μ' i' E as' H' σ' _ R' fun k H1 μ1 k1 R1 p1 => ?_
  cases k with
  | true =>
    rw [if_pos rfl]
    refine ⟨fun σ2 H2 => ∃ m' < m, ∃ as2 ρ2 μ2, Rel X.K E H2 as2 σ2 ρ2 μ2 ∧ Iv m' ρ2 μ2, fun σ2 H2 ⟨m', hm, as2, ρ2, μ2, R2, i2⟩ => ⟨m', hm, as2, ρ2, μ2, R2, i2⟩, ?_⟩
    exact p1.1 rfl E as' H1 σ' _ R1 ⟨fun a b c d f R2 ⟨m', hm, i2⟩ => ⟨m', hm, a, d, f, R2, i2⟩, q.rt, q.nx, fun a b c d f R2 ⟨m', hm, i2⟩ => ⟨m', hm, a, d, f, R2, i2⟩⟩
  | false =>
    rw [if_neg Bool.false_ne_true]
    exact q.nx as' H1 σ' ρ' μ1 R1 (p1.2 rfl)
end

/-! ### what is walked -/
/-- the iterator gives the data ds, one by one, while the view F stands -/
def ItOk (K : PySem.W.Frag) (F : Hp) (J : It) (ds : List D) : Prop :=
  ∀ (i : Nat) (H : Hp) (as : As), Same F (hide H as) → (∀ p, H p = none → some p ∉ as) → (i < ds.length → J.go i H) ∧ (ds.length ≤ i → J.stop i H) ∧
    ∀ x H', i < ds.length → J.yld i H x H' → Same H H' ∧ ∀ d, ds[i]? = some d → Dp K (hide H' as) x d
def DI (X : Cx) (tg iter : Expr) (ρ : Slots) (μ : Mu) (P : List D → Mu → Prop) : Prop :=
  ∀ (E : En) (as : As) (H : Hp) (σ : L2.St) (R' : It → Hp → Prop), Rel X.K E H as σ ρ μ →
    (∀ J H' ds μ', Kp as H H' → Rel X.K E H' as σ ρ μ' → ItOk X.K (hide H' as) J ds → P ds μ' → R' J H') → wI X tg iter σ H R'
section
variable {X : Cx} {a b c e tg iter : Expr} {es : List Expr} {pos p : Pos} {ρ : Slots} {μ : Mu} {Z : Po} {P : List D → Mu → Prop}
theorem di_list (h : DE X e ρ μ fun en μ' => ∃ ds, en = .d (.list ds) ∧ P ds μ') : DI X tg e ρ μ P := by
  intro E as H σ R' R q
  refine of_pi (pi_list pe_w) (h E as H σ _ R fun v H1 en μ1 k1 R1 o1 p1 => ?_)
  obtain ⟨ds, rfl, z⟩ := p1
  obtain ⟨a, xs, rfl, hs, ha⟩ := dp_lst o1
  refine ⟨a, rfl, ⟨xs, Same.seq hide_same hs⟩, q _ H1 ds μ1 k1 R1 (fun i H2 as2 hv _ => ?_) z⟩
  have hs2 : SqL X.K H2 a xs := Same.seq hide_same (Same.seq hv hs)
  have hl := ha.length
  refine ⟨fun hi => ⟨xs, xs[i]'(by omega), hs2, by simp⟩, fun hi => ⟨xs, hs2, by omega⟩, fun x H3 hi hy => ?_⟩
  obtain ⟨rfl, hy⟩ := hy
  refine ⟨Same.refl _, fun d hd => ?_⟩
  obtain ⟨v, h1, h2⟩ := ha.get hd
  have h3 := hy xs hs2
  rw [h1] at h3
  cases h3
  exact dp_mono hv _ _ h2
theorem di_tup (h : DE X e ρ μ fun en μ' => ∃ ds, en = .d (.tuple ds) ∧ P ds μ') : DI X tg e ρ μ P := by
  intro E as H σ R' R q
  refine of_pi (pi_tup pe_w) (h E as H σ _ R fun v H1 en μ1 k1 R1 o1 p1 => ?_)
  obtain ⟨ds, rfl, z⟩ := p1
  obtain ⟨a, xs, rfl, hs, ha⟩ := dp_tup o1
  refine ⟨a, rfl, ⟨xs, Same.sqt hide_same hs⟩, q _ H1 ds μ1 k1 R1 (fun i H2 as2 hv _ => ?_) z⟩
  have hs2 : SqT X.K H2 a xs := Same.sqt hide_same (Same.sqt hv hs)
  have hl := ha.length
  refine ⟨fun hi => ⟨xs, xs[i]'(by omega), hs2, by simp⟩, fun hi => ⟨xs, hs2, by omega⟩, fun x H3 hi hy => ?_⟩
  obtain ⟨rfl, hy⟩ := hy
  refine ⟨Same.refl _, fun d hd => ?_⟩
  obtain ⟨v, h1, h2⟩ := ha.get hd
  have h3 := hy xs hs2
  rw [h1] at h3
  cases h3
  exact dp_mono hv _ _ h2
/-- the ints from lo on, n of them -/
def rgi (lo : Int) (n : Nat) : List D := (List.range n).map fun (i : Nat) => PyData.int (lo + (i : Int))
theorem rgi_len {lo : Int} {n : Nat} : (rgi lo n).length = n := by simp [rgi]
theorem rgi_get {lo : Int} {n i : Nat} {d : D} (h : (rgi lo n)[i]? = some d) : i < n ∧ d = .int (lo + (i : Int)) := by
  have hi : i < n := by
    have := (List.getElem?_eq_some_iff.mp h).1
    rwa [rgi_len] at this
  refine ⟨hi, ?_⟩
  unfold rgi at h
  rw [List.getElem?_map, List.getElem?_range hi] at h
  cases h
  rfl
theorem it_range {K : PySem.W.Frag} {F : Hp} {lo : Int} {n : Nat} : ItOk K F (Itr lo n) (rgi lo n) := by
  intro i H as hv _
  rw [rgi_len]
  refine ⟨fun hi => hi, fun hi => hi, fun x H' hi hy => ?_⟩
  obtain ⟨rfl, rfl⟩ := hy
  refine ⟨Same.refl _, fun d hd => ?_⟩
  obtain ⟨_, rfl⟩ := rgi_get hd
  exact .int _
theorem di_range1 (g : Gb X "range") (hm : X.mg "range" = none) (h : DE X a ρ μ fun en μ' => ∃ n, en = .d (.int n) ∧ -(2 ^ 62) ≤ n ∧ n < 2 ^ 62 ∧ P (rgi 0 n.toNat) μ') (hs : starEach [a] X.env = [(false, eval a X.env)] := by rfl) :
    DI X tg (.Call (.Name "range" p) [a] [] pos) ρ μ P := by
  intro E as H σ R' R q
  refine of_pi (pi_range1 g.gl hm pa_w hs) (da_cons (es := []) (PL := fun ens μ' => ∃ n, ens = [.d (.int n)] ∧ -(2 ^ 62) ≤ n ∧ n < 2 ^ 62 ∧ P (rgi 0 n.toNat) μ') (h.imp fun en μ' ⟨n, e1, e2, e3, z⟩ => da_nil ⟨n, by rw [e1], e2, e3, z⟩) hs E as H σ _ R fun vs H1 ens μ1 k1 R1 o1 p1 => ?_)
  obtain ⟨n, rfl, h1, h2, z⟩ := p1
  obtain ⟨v, rfl, o⟩ := ents1 o1
  cases dp_int o
  exact ⟨n, rfl, h1, h2, q _ H1 _ μ1 k1 R1 it_range z⟩
theorem di_range2 (g : Gb X "range") (hm : X.mg "range" = none) (h : DE X a ρ μ fun e1 μ1 => DE X b ρ μ1 fun e2 μ2 => ∃ i j, e1 = .d (.int i) ∧ e2 = .d (.int j) ∧ (-(2 ^ 62) ≤ i ∧ i < 2 ^ 62 ∧ -(2 ^ 62) ≤ j ∧ j < 2 ^ 62) ∧ P (rgi i (j - i).toNat) μ2)
    (hs : starEach [a, b] X.env = [(false, eval a X.env), (false, eval b X.env)] := by rfl) (hs2 : starEach [b] X.env = [(false, eval b X.env)] := by rfl) :
    DI X tg (.Call (.Name "range" p) [a, b] [] pos) ρ μ P := by
  intro E as H σ R' R q
  have hs' : starEach (a :: [b]) X.env = (false, eval a X.env) :: starEach [b] X.env := by rw [hs, hs2]
  refine of_pi (pi_range2 g.gl hm pa_w hs hs2) (da_cons (es := [b]) (PL := fun ens μ' => ∃ i j, ens = [.d (.int i), .d (.int j)] ∧ (-(2 ^ 62) ≤ i ∧ i < 2 ^ 62 ∧ -(2 ^ 62) ≤ j ∧ j < 2 ^ 62) ∧ P (rgi i (j - i).toNat) μ')
    (h.imp fun e1 μ1 z1 => da_cons (z1.imp fun e2 μ2 ⟨i, j, q1, q2, q3, z⟩ => da_nil ⟨i, j, by rw [q1, q2], q3, z⟩) hs2) hs' E as H σ _ R fun vs H1 ens μ1 k1 R1 o1 p1 => ?_)
  obtain ⟨i, j, rfl, hb, z⟩ := p1
  obtain ⟨v, w, rfl, o, o'⟩ := ents2 o1
  cases dp_int o
  cases dp_int o'
  exact ⟨i, j, rfl, hb, q _ H1 _ μ1 k1 R1 it_range z⟩
theorem Rel.yield {K : PySem.W.Frag} {E : En} {H H' : Hp} {as : As} {σ : L2.St} (R : Rel K E H as σ ρ μ) (s : Same H H') : Rel K E H' as σ ρ μ := R.same s
/-- the same body's beginning, another view to be kept -/
theorem Rel.look {K : PySem.W.Frag} {E : En} {H F : Hp} {as : As} {σ : L2.St} (R : Rel K E H as σ ρ μ) (v : Same F (hide H as)) : Rel K { E with F := F } H as σ ρ μ :=
  ⟨R.cells, R.slen, R.slot, R.ent, R.keep, R.fresh, v⟩
theorem ds_for {body : List Stmt} (hp : PassesOwn (model X.prog X.w) X.A X.env X.xe) (hc : X.calm = true)
    (h : DI X tg iter ρ μ fun ds μ1 => ∃ Iv : Nat → Slots → Mu → Prop, Iv 0 ρ μ1 ∧
      (∀ i d ρ' μ', ds[i]? = some d → Iv i ρ' μ' → DG X tg (.d d) ρ' μ' fun ρ2 μ2 => DSs X body ρ2 μ2 { nx := Iv (i + 1), ct := Iv (i + 1), bk := Z.nx, rt := Z.rt }) ∧ ∀ ρ' μ', Iv ds.length ρ' μ' → Z.nx ρ' μ')
    (hs : ∀ x, foldedSetIterable iter X.env x = pure x := by intro _; rfl) : DS X (.For tg iter body [] pos) ρ μ Z := by
  intro E as H σ Dn R q
  refine of_ps (ps_for hp hc pi_w pg_w pss_w hs) (h E as H σ _ R fun J H1 ds μ1 k1 R1 it p1 => ?_)
  obtain ⟨Iv, i0, step, fin⟩ := p1
  have vE : Same E.F (hide H1 as) := R1.view
  refine ⟨fun i m σ' H' => m = ds.length - i ∧ i ≤ ds.length ∧ ∃ as' ρ' μ', Rel X.K { E with F := hide H1 as } H' as' σ' ρ' μ' ∧ Iv i ρ' μ', ⟨ds.length, by simp, Nat.zero_le _, as, ρ, μ1, R1.look (Same.refl _), i0⟩, ?_⟩
  rintro i m σ' H' ⟨rfl, hi, as', ρ', μ', R', iv⟩
  have hE : ∀ {as2 H2 σ2 ρ2 μ2}, Rel X.K { E with F := hide H1 as } H2 as2 σ2 ρ2 μ2 → Rel X.K E H2 as2 σ2 ρ2 μ2 := fun R2 => R2.look (vE.trans R2.view)
  obtain ⟨hgo, hstop, hy⟩ := it i H' as' R'.view fun _ hp => not_cell R'.cells hp
  by_cases hlt : i < ds.length
  · refine .inr ⟨hgo hlt, fun σ2 H2 => ∃ as2 ρ2 μ2, Rel X.K { E with F := hide H1 as } H2 as2 σ2 ρ2 μ2 ∧ Iv (i + 1) ρ2 μ2, fun σ2 H2 ⟨as2, ρ2, μ2, R2, i2⟩ => ⟨ds.length - (i + 1), by omega, rfl, hlt, as2, ρ2, μ2, R2, i2⟩, fun x H2 y => ?_⟩
    obtain ⟨sm, hd⟩ := hy x H2 hlt y
    have hg : ds[i]? = some ds[i] := List.getElem?_eq_getElem hlt
    refine step i ds[i] ρ' μ' hg iv _ as' H2 σ' x _ (R'.same sm) (hd _ hg) fun as3 σ3 H3 ρ3 μ3 R3 b3 => ?_
    exact b3 _ as3 H3 σ3 _ R3 ⟨fun a b c d f R4 i4 => ⟨a, d, f, R4, i4⟩, fun a b c d f v en R4 o4 z => q.rt a b c d f v en (hE R4) o4 z, fun a b c d f R4 z => q.nx a b c d f (hE R4) z, fun a b c d f R4 i4 => ⟨a, d, f, R4, i4⟩⟩
  · have e : i = ds.length := by omega
    exact .inl ⟨hstop (by omega), q.nx as' H' σ' ρ' μ' (hE R') (fin ρ' μ' (e ▸ iv))⟩
end

/-! ### comprehensions -/
def wipeD (ρ : Slots) : List Nat → Slots
  | [] => ρ
  | v :: vs => (wipeD ρ vs).set v none
theorem Rel.wipe {K : PySem.W.Frag} {E : En} {H : Hp} {as : As} {σ : L2.St} {ρ : Slots} {μ : Mu} (R : Rel K E H as σ ρ μ) : ∀ vs : List Nat, Rel K E H as (L2.wipe σ vs) (wipeD ρ vs) μ
  | [] => R
  | v :: vs => (R.wipe vs).forget
/-- a comprehension's target -/
def DGc (K : PySem.W.Frag) (g : TG) (vs : List Nat) (d : D) (ρ : Slots) (μ : Mu) (P : Slots → Prop) : Prop :=
  ∀ (E : En) (as : As) (H : Hp) (σ : L2.St) (v : V) (Q : L2.St → Hp → Prop), Rel K E H as σ ρ μ → EntOk K (hide H as) as v (.d d) →
    (∀ σ' ρ', (∀ τ, L2.wipe σ vs = τ → L2.wipe σ' vs = τ) → Rel K E H as σ' ρ' μ → P ρ' → Q σ' H) → g v σ H Q
theorem wipe_set : ∀ (σ : L2.St) (vs : List Nat) (i : Nat) (x : Option V), i ∈ vs → L2.wipe (σ.set i x) vs = L2.wipe σ vs
  | σ, [], i, x, h => by cases h
  | σ, v :: vs, i, x, h => by
    show (L2.wipe (σ.set i x) vs).set v none = (L2.wipe σ vs).set v none
    by_cases hm : i ∈ vs
    · rw [wipe_set σ vs i x hm]
    · have hv : i = v := by
        rcases List.mem_cons.mp h with e | e
        · exact e
        · exact absurd e hm
      subst hv
      have key : ∀ (ws : List Nat), i ∉ ws → L2.wipe (σ.set i x) ws = (L2.wipe σ ws).set i x := by
        intro ws
        induction ws with
        | nil => intro _; rfl
        | cons w ws ih =>
          intro hn
          have h1 : i ≠ w := fun z => hn (by rw [z]; exact List.mem_cons_self)
          have h2 : i ∉ ws := fun z => hn (List.mem_cons_of_mem _ z)
          show (L2.wipe (σ.set i x) ws).set w none = ((L2.wipe σ ws).set w none).set i x
          rw [ih h2, List.set_comm _ _ h1]
      rw [key vs hm, List.set_set]
theorem dgc_name {K : PySem.W.Frag} {i : Nat} {vs : List Nat} {d : D} {ρ : Slots} {μ : Mu} {P : Slots → Prop} (hi : i ∈ vs) (k : P (ρ.set i (some (.d d)))) : DGc K (gName i) vs d ρ μ P := by
  intro E as H σ v Q R o q
  exact q _ _ (fun τ h => by rw [wipe_set _ _ _ _ hi]; exact h) (R.set o) k
theorem dgc_two {K : PySem.W.Frag} {i j : Nat} {vs : List Nat} {d1 d2 : D} {ρ : Slots} {μ : Mu} {P : Slots → Prop} (hi : i ∈ vs) (hj : j ∈ vs) (k : P ((ρ.set i (some (.d d1))).set j (some (.d d2)))) :
    DGc K (gTup K 2 (gCons (gName i) (gCons (gName j) gNil))) vs (.tuple [d1, d2]) ρ μ P := by
  intro E as H σ v Q R o q
  obtain ⟨a, xs, rfl, hs, ha⟩ := dp_tup o
  cases ha with
  | cons h1 h2 =>
    cases h2 with
    | cons h3 h4 =>
      cases h4
      exact ⟨a, _, rfl, Same.sqt hide_same hs, rfl, _, _, rfl, _, _, rfl, rfl, q _ _ (fun τ h => by rw [wipe_set _ _ _ _ hj, wipe_set _ _ _ _ hi]; exact h) ((R.set (en := .d d1) h1).set (en := .d d2) h3) k⟩
/-- the contexts of a comprehension's block -/
def Blk (X : Cx) (scope : Scope) (p : Cx → Prop) : Prop := ∀ (s : Shared) (H : Hp) (C : Addr) (cl : List (Str × Addr)) (fp : List Addr), p (X.blk s H scope (compEnvC scope cl C X.env) fp)
def LcTest (X : Cx) (scope : Scope) (ifs : List Expr) (ρ : Slots) (μ : Mu) (P : Bool → Mu → Prop) : Prop := match ifs with
  | [] => P true μ
  | [c] => Blk X scope fun Y => DT Y c ρ μ P
  | _ => False
def tyes (X : Cx) (scope : Scope) (ifs : List Expr) : TT := fun σ H Q => match ifs with
  | [] => Q true H
  | [c] => ∀ (s : Shared) (H0 : Hp) (C : Addr) (cl : List (Str × Addr)) (fp : List Addr), wT (X.blk s H0 scope (compEnvC scope cl C X.env) fp) c σ H Q
  | _ => False
theorem pts_w {X : Cx} {scope : Scope} {ifs : List Expr} (s : Shared) (H0 : Hp) (C : Addr) (cl : List (Str × Addr)) (fp : List Addr) : PTs (X.blk s H0 scope (compEnvC scope cl C X.env) fp) ifs (tyes X scope ifs) := by
  match ifs with
  | [] => exact pts_nil
  | [c] => exact ⟨fun pins s' σ H Q I h => (pts_one (c := c) (pt_w (X := X.blk s H0 scope (compEnvC scope cl C X.env) fp))).run pins s' σ H Q I (h s H0 C cl fp)⟩
  | _ :: _ :: _ => exact ⟨fun _ _ _ _ _ _ h => False.elim h⟩
def LcTurn (X : Cx) (scope : Scope) (g : TG) (vs : List Nat) (ifs : List Expr) (elt : Expr) (ρ : Slots) (Iv : Nat → List D → Mu → Prop) (i : Nat) (d : D) (acc : List D) (μ : Mu) : Prop :=
  DGc X.K g vs d (wipeD ρ vs) (μ ++ [.lst acc]) fun ρ2 => LcTest X scope ifs ρ2 (μ ++ [.lst acc]) fun b μ2 =>
    (b = true → Blk X scope fun Y => DE Y elt ρ2 μ2 fun en μ3 => ∃ d' μ4, en = .d d' ∧ μ3 = μ4 ++ [.lst acc] ∧ Iv (i + 1) (acc ++ [d']) μ4) ∧ (b = false → ∃ μ4, μ2 = μ4 ++ [.lst acc] ∧ Iv (i + 1) acc μ4)
end Pw

/-! PwD: comprehensions, zip, calls of own defs, repr. -/
namespace Pw
open PySem PySem.Spec L2

section
variable {X : Cx} {a b c e tg iter elt : Expr} {es ifs : List Expr} {pos p : Pos} {ρ : Slots} {μ : Mu} {P : Ent → Mu → Prop} {scope : Scope}
theorem it_zipT {K : PySem.W.Frag} {F : Hp} {a b : Addr} {xs ys : List V} {ds es : List D} (hx : SqT K F a xs) (hy : SqT K F b ys) (ha : DpAll K F xs ds) (hb : DpAll K F ys es) : ItOk K F (RZ.ItzT K a b) (List.zipWith (fun d e => .tuple [d, e]) ds es) := by
  intro i H as hv hn
  have hx' : SqT K H a xs := Same.sqt hide_same (Same.sqt hv hx)
  have hy' : SqT K H b ys := Same.sqt hide_same (Same.sqt hv hy)
  have l1 := ha.length
  have l2 := hb.length
  rw [List.length_zipWith]
  refine ⟨fun hi => ⟨xs, ys, xs[i]'(by omega), ys[i]'(by omega), hx', hy', by simp, by simp⟩, fun hi => ⟨xs, ys, hx', hy', by omega⟩, fun v H' hi hyl => ?_⟩
  obtain ⟨T, x, y, rfl, hT, rfl, f1, f2⟩ := hyl
  refine ⟨fun b' o e => by rw [upd_ne (ne_of_none e hT)]; exact e, fun d hd => ?_⟩
  have hi1 : i < ds.length := by omega
  have hi2 : i < es.length := by omega
  rw [List.getElem?_zipWith, List.getElem?_eq_getElem hi1, List.getElem?_eq_getElem hi2] at hd
  cases hd
  have vw := (Kp.new (as := as) (o := HO.tup [x, y]) hT).view
  obtain ⟨v1, q1, d1⟩ := ha.get (List.getElem?_eq_getElem hi1)
  obtain ⟨v2, q2, d2⟩ := hb.get (List.getElem?_eq_getElem hi2)
  have e1 := f1 xs hx'
  have e2 := f2 ys hy'
  rw [q1] at e1
  rw [q2] at e2
  cases e1
  cases e2
  exact .tup (.inl (.inl (hide_of (hn T hT) upd_same))) (.cons (dp_mono (hv.trans vw) _ _ d1) (.cons (dp_mono (hv.trans vw) _ _ d2) .nil))
theorem it_zipL {K : PySem.W.Frag} {F : Hp} {a b : Addr} {xs ys : List V} {ds es : List D} (hx : SqL K F a xs) (hy : SqL K F b ys) (ha : DpAll K F xs ds) (hb : DpAll K F ys es) : ItOk K F (Itz K a b) (List.zipWith (fun d e => .tuple [d, e]) ds es) := by
  intro i H as hv hn
  have hx' : SqL K H a xs := Same.seq hide_same (Same.seq hv hx)
  have hy' : SqL K H b ys := Same.seq hide_same (Same.seq hv hy)
  have l1 := ha.length
  have l2 := hb.length
  rw [List.length_zipWith]
  refine ⟨fun hi => ⟨xs, ys, xs[i]'(by omega), ys[i]'(by omega), hx', hy', by simp, by simp⟩, fun hi => ⟨xs, ys, hx', hy', by omega⟩, fun v H' hi hyl => ?_⟩
  obtain ⟨T, x, y, rfl, hT, rfl, f1, f2⟩ := hyl
  refine ⟨fun b' o e => by rw [upd_ne (ne_of_none e hT)]; exact e, fun d hd => ?_⟩
  have hi1 : i < ds.length := by omega
  have hi2 : i < es.length := by omega
  rw [List.getElem?_zipWith, List.getElem?_eq_getElem hi1, List.getElem?_eq_getElem hi2] at hd
  cases hd
  have vw := (Kp.new (as := as) (o := HO.tup [x, y]) hT).view
  obtain ⟨v1, q1, d1⟩ := ha.get (List.getElem?_eq_getElem hi1)
  obtain ⟨v2, q2, d2⟩ := hb.get (List.getElem?_eq_getElem hi2)
  have e1 := f1 xs hx'
  have e2 := f2 ys hy'
  rw [q1] at e1
  rw [q2] at e2
  cases e1
  cases e2
  exact .tup (.inl (.inl (hide_of (hn T hT) upd_same))) (.cons (dp_mono (hv.trans vw) _ _ d1) (.cons (dp_mono (hv.trans vw) _ _ d2) .nil))
/-- zip of two lists, of two tuples -/
theorem di_zip {elts : List Expr} {kk : Nat} {tpos : Pos} {P : List D → Mu → Prop} (g : Gb X "zip") (hm : X.mg "zip" = none)
    (h : DA X [a, b] ρ μ fun ens μ1 => ∃ ds es', (ens = [.d (.list ds), .d (.list es')] ∨ ens = [.d (.tuple ds), .d (.tuple es')]) ∧ P (List.zipWith (fun d e => .tuple [d, e]) ds es') μ1)
    (hs : starEach [a, b] X.env = (false, eval a X.env) :: starEach [b] X.env := by rfl) (hpl : (backTo pos (starEach [b] X.env)).any (·.1) = false := by rfl) :
    DI X (.Tuple elts kk tpos) (.Call (.Name "zip" p) [a, b] [] pos) ρ μ P := by
  intro E as H σ R' R q
  refine of_pi (RZ.pi_zipA g.gl hm pa_w hs hpl) (h E as H σ _ R fun vs H1 ens μ1 k1 R1 o1 p1 => ?_)
  obtain ⟨ds, es', hens, z⟩ := p1
  rcases hens with rfl | rfl
  · obtain ⟨v, w, rfl, o, o'⟩ := ents2 o1
    obtain ⟨a1, xs, rfl, hx, hdx⟩ := dp_lst o
    obtain ⟨b1, ys, rfl, hy, hdy⟩ := dp_lst o'
    exact ⟨a1, b1, xs, ys, rfl, .inl ⟨Same.seq hide_same hx, Same.seq hide_same hy, q _ H1 _ μ1 k1 R1 (it_zipL hx hy hdx hdy) z⟩⟩
  · obtain ⟨v, w, rfl, o, o'⟩ := ents2 o1
    obtain ⟨a1, xs, rfl, hx, hdx⟩ := dp_tup o
    obtain ⟨b1, ys, rfl, hy, hdy⟩ := dp_tup o'
    exact ⟨a1, b1, xs, ys, rfl, .inr ⟨Same.sqt hide_same hx, Same.sqt hide_same hy, q _ H1 _ μ1 k1 R1 (it_zipT hx hy hdx hdy) z⟩⟩

/-! ### comprehensions -/
theorem wipe_idem (σ : L2.St) (vs : List Nat) : L2.wipe (L2.wipe σ vs) vs = L2.wipe σ vs := by
  have key : ∀ ws : List Nat, (∀ w ∈ ws, w ∈ vs) → L2.wipe (L2.wipe σ ws) vs = L2.wipe σ vs := by
    intro ws
    induction ws with
    | nil => intro _; rfl
    | cons w ws ih =>
      intro h
      show L2.wipe ((L2.wipe σ ws).set w none) vs = _
      rw [wipe_set _ _ _ _ (h w List.mem_cons_self)]
      exact ih fun x hx => h x (List.mem_cons_of_mem _ hx)
  exact key vs fun _ h => h
theorem hide_more {H : Hp} {as : As} {q : Option Addr} : Same (hide H (as ++ [q])) (hide H as) := fun b o e => by
  obtain ⟨n, e⟩ := of_hide e
  exact hide_of (fun hm => n (List.mem_append_left _ hm)) e
/-- a new list becomes a cell -/
theorem Rel.grow {K : PySem.W.Frag} {E : En} {H : Hp} {as : As} {σ : L2.St} {q : Addr} {xs : List V} {l : List D} (R : Rel K E H as σ ρ μ) (hq : H q = none) (hx : DpAll K (hide H as) xs l) : Rel K E (upd H q (.lst xs)) (as ++ [some q]) σ ρ (μ ++ [.lst l]) := by
  have nq := not_cell R.cells hq
  have vw : Same (hide H as) (hide (upd H q (.lst xs)) (as ++ [some q])) := fun b o e => by
    obtain ⟨n, e⟩ := of_hide e
    have hb : b ≠ q := ne_of_none e hq
    refine hide_of (fun hm => ?_) (by rw [upd_ne hb]; exact e)
    rcases List.mem_append.mp hm with z | z
    · exact n z
    · exact hb (Option.some.inj (List.mem_singleton.mp z))
  have h0 : E.H0 q = none := by
    cases hc : E.H0 q with
    | none => rfl
    | some o =>
      by_cases hm : some q ∈ E.as0
      · exact absurd (R.ent.subset hm) nq
      · rw [R.keep q o hm hc] at hq
        cases hq
  have len := R.cells.len
  refine ⟨⟨by simp [len], fun i j a h1 h2 => ?_, fun i a m h1 h2 => ?_⟩, R.slen, fun i en e => ?_, R.ent.trans (List.prefix_append _ _), fun b o n e => ?_, fun i a hi ha => ?_, R.view.trans vw⟩
  · rcases Nat.lt_or_ge i as.length with hi | hi <;> rcases Nat.lt_or_ge j as.length with hj | hj
    · rw [List.getElem?_append_left hi] at h1
      rw [List.getElem?_append_left hj] at h2
      exact R.cells.nd i j a h1 h2
    · rw [List.getElem?_append_left hi] at h1
      rw [List.getElem?_append_right hj] at h2
      have hj0 : j - as.length = 0 := by
        have := (List.getElem?_eq_some_iff.mp h2).1
        simp at this
        omega
      rw [hj0] at h2
      cases h2
      exact absurd (List.mem_of_getElem? h1) nq
    · rw [List.getElem?_append_right hi] at h1
      rw [List.getElem?_append_left hj] at h2
      have hi0 : i - as.length = 0 := by
        have := (List.getElem?_eq_some_iff.mp h1).1
        simp at this
        omega
      rw [hi0] at h1
      cases h1
      exact absurd (List.mem_of_getElem? h2) nq
    · have a1 := (List.getElem?_eq_some_iff.mp h1).1
      have a2 := (List.getElem?_eq_some_iff.mp h2).1
      simp at a1 a2
      omega
  · rcases Nat.lt_or_ge i as.length with hi | hi
    · rw [List.getElem?_append_left hi] at h1
      rw [List.getElem?_append_left (by omega)] at h2
      have hb : a ≠ q := fun z => nq (by rw [← z]; exact List.mem_of_getElem? h1)
      exact (R.cells.ok i a m h1 h2).mono vw (upd_ne hb)
    · rw [List.getElem?_append_right hi] at h1
      rw [List.getElem?_append_right (by omega)] at h2
      have hi0 : i - as.length = 0 := by
        have := (List.getElem?_eq_some_iff.mp h1).1
        simp at this
        omega
      rw [hi0] at h1
      rw [← len, hi0] at h2
      cases h1
      cases h2
      exact ⟨xs, upd_same, dpa_mono vw _ _ hx⟩
  · obtain ⟨v, h1, h2⟩ := R.slot i en e
    refine ⟨v, h1, ?_⟩
    cases en with
    | d x => exact dp_mono vw _ _ h2
    | c k =>
      obtain ⟨a, ha, hv⟩ := h2
      exact ⟨a, by rw [List.getElem?_append_left (List.getElem?_eq_some_iff.mp ha).1]; exact ha, hv⟩
    | v x => exact h2
  · have e' := R.keep b o n e
    rw [upd_ne (ne_of_none e' hq)]
    exact e'
  · rcases Nat.lt_or_ge i as.length with hl | hl
    · rw [List.getElem?_append_left hl] at ha
      exact R.fresh i a hi ha
    · rw [List.getElem?_append_right hl] at ha
      have hi0 : i - as.length = 0 := by
        have := (List.getElem?_eq_some_iff.mp ha).1
        simp at this
        omega
      rw [hi0] at ha
      cases ha
      exact h0
theorem Cells.shrink {K : PySem.W.Frag} {H : Hp} {as : As} {q : Option Addr} {m : MO} (c : Cells K H (as ++ [q]) (μ ++ [m])) : Cells K H as μ := by
  have len : as.length = μ.length := by
    have := c.len
    simp at this
    exact this
  refine ⟨len, fun i j a h1 h2 => ?_, fun i a mo h1 h2 => ?_⟩
  · exact c.nd i j a (by rw [List.getElem?_append_left (List.getElem?_eq_some_iff.mp h1).1]; exact h1) (by rw [List.getElem?_append_left (List.getElem?_eq_some_iff.mp h2).1]; exact h2)
  · have l1 := (List.getElem?_eq_some_iff.mp h1).1
    exact (c.ok i a mo (by rw [List.getElem?_append_left l1]; exact h1) (by rw [List.getElem?_append_left (by omega)]; exact h2)).mono hide_more rfl
abbrev teB (X : Cx) (scope : Scope) (elt : Expr) : TE := fun σ H Q => ∀ (s : Shared) (H0 : Hp) (C : Addr) (cl : List (Str × Addr)) (fp : List Addr), wE (X.blk s H0 scope (compEnvC scope cl C X.env) fp) elt σ H Q
theorem lc_t {own : List (Str × Nat)} {g : TG}
    (h : DI X tg iter ρ μ fun ds μ1 => ∃ Iv : Nat → List D → Mu → Prop, Iv 0 [] μ1 ∧ ds.length < sizeLine ∧
      (∀ i d acc μ', ds[i]? = some d → acc.length ≤ i → Iv i acc μ' → LcTurn X scope g (own.map (·.2)) ifs elt ρ Iv i d acc μ') ∧ ∀ acc μ', Iv ds.length acc μ' → P (.d (.list acc)) μ') :
    ∀ (E : En) (as : As) (H : Hp) (σ : L2.St) (Q : VK), Rel X.K E H as σ ρ μ → (∀ v H' en μ', Kp as H H' → Rel X.K E H' as σ ρ μ' → EntOk X.K (hide H' as) as v en → P en μ' → Q v H') →
      tLc (wI X tg iter) g (tyes X scope ifs) (teB X scope elt) (own.map (·.2)) σ H Q := by
  intro E as H σ Q R q
  let te : TE := teB X scope elt
  refine h E as H σ _ R fun J H1 ds μ1 k1 R1 it p1 => ?_
  obtain ⟨Iv, i0, hz, step, fin⟩ := p1
  intro Dl hD
  refine ⟨fun i m H' => m = ds.length - i ∧ i ≤ ds.length ∧ ∃ acc μ', acc.length ≤ i ∧ Iv i acc μ' ∧ Rel X.K { E with F := hide H1 as } H' (as ++ [some Dl]) (L2.wipe σ (own.map (·.2))) (wipeD ρ (own.map (·.2))) (μ' ++ [.lst acc]), ⟨ds.length, by simp, Nat.zero_le _, [], μ1, Nat.le_refl _, i0, ((R1.look (Same.refl _)).wipe _).grow hD .nil⟩, ?_⟩
  rintro i m H' ⟨rfl, hi, acc, μ', hacc, iv, R'⟩
  have la : μ'.length = as.length := by
    have := R'.cells.len
    simp at this
    omega
  have kall : Kp as H1 H' := fun b o n e => (of_hide (R'.view b o (hide_of n e))).2
  obtain ⟨hgo, hstop, hy⟩ := it i H' (as ++ [some Dl]) R'.view fun _ hp => not_cell R'.cells hp
  by_cases hlt : i < ds.length
  · refine .inr ⟨hgo hlt, fun H2 => ∃ acc2 μ2, acc2.length ≤ i + 1 ∧ Iv (i + 1) acc2 μ2 ∧ Rel X.K { E with F := hide H1 as } H2 (as ++ [some Dl]) (L2.wipe σ (own.map (·.2))) (wipeD ρ (own.map (·.2))) (μ2 ++ [.lst acc2]),
      fun H2 ⟨acc2, μ2, l2, i2, R2⟩ => ⟨ds.length - (i + 1), by omega, rfl, hlt, acc2, μ2, l2, i2, R2⟩, fun x H2 y => ?_⟩
    obtain ⟨sm, hd⟩ := hy x H2 hlt y
    have hgt : ds[i]? = some ds[i] := List.getElem?_eq_getElem hlt
    have RS := R'.same sm
    refine step i ds[i] acc μ' hgt hacc iv _ _ H2 _ x _ RS (hd _ hgt) fun σ2 ρ2 hw R2 b2 => ⟨hw _ (wipe_idem _ _), ?_⟩
    -- the turn's end
    have done : ∀ {H4 : Hp} {μ4 : Mu}, Kp (as ++ [some Dl]) H2 H4 → Rel X.K { E with F := hide H1 as } H4 (as ++ [some Dl]) σ2 ρ2 μ4 → Rel X.K { E with F := hide H1 as } H4 (as ++ [some Dl]) (L2.wipe σ (own.map (·.2))) (wipeD ρ (own.map (·.2))) μ4 := fun k4 R4 => RS.step k4 R4.cells
    have test : tyes X scope ifs σ2 H2 fun bb H3 => if bb = true then te σ2 H3 fun y H4 => ∃ acc0, H4 Dl = some (.lst acc0) ∧ acc0.length < sizeLine ∧ (∃ acc2 μ2, acc2.length ≤ i + 1 ∧ Iv (i + 1) acc2 μ2 ∧ Rel X.K { E with F := hide H1 as } (upd H4 Dl (.lst (acc0 ++ [y]))) (as ++ [some Dl]) (L2.wipe σ (own.map (·.2))) (wipeD ρ (own.map (·.2))) (μ2 ++ [.lst acc2]))
        else (∃ acc2 μ2, acc2.length ≤ i + 1 ∧ Iv (i + 1) acc2 μ2 ∧ Rel X.K { E with F := hide H1 as } H3 (as ++ [some Dl]) (L2.wipe σ (own.map (·.2))) (wipeD ρ (own.map (·.2))) (μ2 ++ [.lst acc2])) := by
      have behind : ∀ (bb : Bool) (H3 : Hp) (μ3 : Mu), Kp (as ++ [some Dl]) H2 H3 → Rel X.K { E with F := hide H1 as } H3 (as ++ [some Dl]) σ2 ρ2 μ3 →
          ((bb = true → Blk X scope fun Y => DE Y elt ρ2 μ3 fun en μ3 => ∃ d' μ4, en = .d d' ∧ μ3 = μ4 ++ [.lst acc] ∧ Iv (i + 1) (acc ++ [d']) μ4) ∧ (bb = false → ∃ μ4, μ3 = μ4 ++ [.lst acc] ∧ Iv (i + 1) acc μ4)) →
          if bb = true then te σ2 H3 fun y H4 => ∃ acc0, H4 Dl = some (.lst acc0) ∧ acc0.length < sizeLine ∧ (∃ acc2 μ2, acc2.length ≤ i + 1 ∧ Iv (i + 1) acc2 μ2 ∧ Rel X.K { E with F := hide H1 as } (upd H4 Dl (.lst (acc0 ++ [y]))) (as ++ [some Dl]) (L2.wipe σ (own.map (·.2))) (wipeD ρ (own.map (·.2))) (μ2 ++ [.lst acc2]))
          else (∃ acc2 μ2, acc2.length ≤ i + 1 ∧ Iv (i + 1) acc2 μ2 ∧ Rel X.K { E with F := hide H1 as } H3 (as ++ [some Dl]) (L2.wipe σ (own.map (·.2))) (wipeD ρ (own.map (·.2))) (μ2 ++ [.lst acc2])) := by
        intro bb H3 μ3 k3 R3 pb
        cases bb with
        | false =>
          rw [if_neg Bool.false_ne_true]
          obtain ⟨μ4, rfl, i4⟩ := pb.2 rfl
          exact ⟨acc, μ4, by omega, i4, done k3 R3⟩
        | true =>
          rw [if_pos rfl]
          intro s0 H0 C0 cl0 fp0
          refine pb.1 rfl s0 H0 C0 cl0 fp0 _ _ H3 σ2 _ R3 fun v H4 en μ4' k4 R4 o4 z => ?_
          obtain ⟨d', μ4, rfl, rfl, i4⟩ := z
          have l4 : μ4.length = as.length := by
            have := R4.cells.len
            simp at this
            omega
          have gc : (as ++ [some Dl])[as.length]? = some (some Dl) := by simp
          obtain ⟨xs, hx1, hx2⟩ := R4.cells.ok as.length Dl (.lst acc) gc (by rw [← l4]; simp)
          refine ⟨xs, hx1, by rw [hx2.length]; omega, acc ++ [d'], μ4, by simp; omega, i4, ?_⟩
          have cp := R4.cells.put gc (xs := xs ++ [v]) (hx2.app (.cons o4 .nil))
          rw [← l4, List.set_append_right _ _ (Nat.le_refl _)] at cp
          simp at cp
          exact RS.step ((k3.trans k4).trans (Kp.write (by simp))) cp
      match ifs, b2 with
      | [], b2 => exact behind true H2 _ (Kp.refl _ _) R2 b2
      | [c], b2 => exact fun s0 H0 C0 cl0 fp0 => b2 s0 H0 C0 cl0 fp0 _ _ H2 σ2 _ R2 fun bb H3 μ3 k3 R3 pb => behind bb H3 μ3 k3 R3 pb
      | _ :: _ :: _, b2 => exact False.elim b2
    exact test
  · have e : i = ds.length := by omega
    subst e
    have gc : (as ++ [some Dl])[as.length]? = some (some Dl) := by simp
    obtain ⟨xs, hx1, hx2⟩ := R'.cells.ok as.length Dl (.lst acc) gc (by rw [← la]; simp)
    have nD : some Dl ∉ as := not_cell R1.cells hD
    have cs : Cells X.K H' as μ' := R'.cells.shrink
    refine .inl ⟨hstop (Nat.le_refl _), q _ H' (.d (.list acc)) μ' (k1.trans kall) (R1.step kall cs) ?_ (fin acc μ' iv)⟩
    exact .lst (.inl (.inl (hide_of nD hx1))) (dpa_mono hide_more _ _ hx2)
theorem de_lc {own : List (Str × Nat)} {g : TG} (hc : X.calm = true) (hN : X.N.Nodup) (ok : BlkOk X.N X.env.scope scope own)
    (hg : ∀ (s : Shared) (H : Hp) (C : Addr) (cl : List (Str × Addr)) (fp : List Addr), PG (X.blk s H scope (compEnvC scope cl C X.env) fp) tg g)
    (h : DI X tg iter ρ μ fun ds μ1 => ∃ Iv : Nat → List D → Mu → Prop, Iv 0 [] μ1 ∧ ds.length < sizeLine ∧
      (∀ i d acc μ', ds[i]? = some d → acc.length ≤ i → Iv i acc μ' → LcTurn X scope g (own.map (·.2)) ifs elt ρ Iv i d acc μ') ∧ ∀ acc μ', Iv ds.length acc μ' → P (.d (.list acc)) μ')
    (hs : ∀ x, foldedSetIterable iter X.env x = pure x := by intro _; rfl) : DE X (.ListComp elt [⟨tg, iter, ifs, 0⟩] scope pos) ρ μ P := fun E as H σ Q R q =>
  of_pe (pe_lc (te := teB X scope elt) hc hN pi_w ok hg (fun s H0 C cl fp => pts_w s H0 C cl fp) (fun s H0 C cl fp => ⟨fun pins s' σ H Q I hw => hw s H0 C cl fp pins s' I⟩) hs) (lc_t h E as H σ Q R q)
/-- name = [..] on one line, a plain local -/
theorem ds_setLc {Z : Po} {i : Nat} {x : Str} {py spos : Pos} {li : List Nat} {own : List (Str × Nat)} {g : TG} (L : Lc X li) (hx : X.N[i]? = some x) (hl : X.env.scope.names.lookup x = some .local) (hc : X.calm = true) (ok : BlkOk X.N X.env.scope scope own)
    (hg : ∀ (s : Shared) (H : Hp) (C : Addr) (cl : List (Str × Addr)) (fp : List Addr), PG (X.blk s H scope (compEnvC scope cl C X.env) fp) tg g)
    (h : DI X tg iter ρ μ fun ds μ1 => ∃ Iv : Nat → List D → Mu → Prop, Iv 0 [] μ1 ∧ ds.length < sizeLine ∧
      (∀ i d acc μ', ds[i]? = some d → acc.length ≤ i → Iv i acc μ' → LcTurn X scope g (own.map (·.2)) ifs elt ρ Iv i d acc μ') ∧ ∀ acc μ', Iv ds.length acc μ' → Z.nx (ρ.set i (some (.d (.list acc)))) μ')
    (hsw : swapsWith (.ListComp elt [⟨tg, iter, ifs, 0⟩] scope pos) (some (.Name x py)) spos.line X.env = pure true) (hs : ∀ x, foldedSetIterable iter X.env x = pure x := by intro _; rfl) :
    DS X (.Assign [.Name x py] (.ListComp elt [⟨tg, iter, ifs, 0⟩] scope pos) spos) ρ μ Z := fun E as H σ Dn R q =>
  of_ps (ps_setLc (te := teB X scope elt) hc L.nd hx hl hsw pi_w ok hg (fun s H0 C cl fp => pts_w s H0 C cl fp) (fun s H0 C cl fp => ⟨fun pins s' σ H Q I hw => hw s H0 C cl fp pins s' I⟩) hs)
    (lc_t (P := fun en μ' => Z.nx (ρ.set i (some en)) μ') h E as H σ _ R fun v H1 en μ1 k1 R1 o1 p1 => q.nx as H1 _ _ μ1 (R1.set o1) p1)
end
end Pw

/-! PwE: own defs called and walked, repr, the law's end. -/
namespace Pw
open PySem PySem.Spec L2

/-! ### a def's promise where nothing is being shown -/
structure FnG (P : Program) (w : World) (K : PySem.W.Frag) (mg : Str → Option Value) (base : Heap) (CX : CXT) (k : Nat) (f : Addr) (fd : FuncData) (ps : List Str) (sp : Sp) : Prop where
  len : ∀ vs H Q E, sp vs H Q E → vs.length = ps.length
  run : ∀ (A : Around) (outer : List PySem.Env) (s : Shared) (H : Hp) (args : Args) (us : List Value) (vs : List V) (Q : VK) (E : XK), Room k A → A.guards = some [] → Env0 P w K mg base A outer s H →
    BindsTo s fd args (ps.zip us) → Vals vs us → sp vs H Q E → codeAny (model P w) A (.call (.ref f) args) (CR CX outer P w H s Q E) s
section
variable {P : Program} {w : World} {K : PySem.W.Frag} {mg : Str → Option Value} {base : Heap} {CX : CXT}
theorem FnG.mono {j k : Nat} {f : Addr} {fd : FuncData} {ps : List Str} {sp : Sp} (F : FnG P w K mg base CX j f fd ps sp) (h : j ≤ k) : FnG P w K mg base CX k f fd ps sp :=
  ⟨F.len, fun A outer s H args us vs Q E hr => F.run A outer s H args us vs Q E (hr.mono h)⟩
theorem run_g {X : Cx} {k : Nat} {f : Addr} {fd : FuncData} {ps : List Str} {sp : Sp} {E : XK} {pins : List (Addr × Obj)} {σ : L2.St} {H : Hp} {s : Shared} {Q : VK} {us : List Value} {vs : List V}
    (F : FnG X.prog X.w X.K X.mg X.base CX k f fd ps sp) (hr : Room k X.A) (hgd : X.A.guards = some []) (hb : Binds X.K fd ps []) (hx : Passes CX X E)
    (I : Inv X pins σ H s) (r : Vals vs us) (h : sp vs H Q E) : wpAny (model X.prog X.w) X.A (call (.ref f) us) (EP X pins σ Q) X.xe s := by
  have hl : (us ++ ([] : List Value)).length = ps.length := by
    rw [List.append_nil, ← r.length]
    exact F.len _ _ _ _ h
  have bd := hb s us I.kIn hl
  rw [List.append_nil] at bd
  refine wpAny_call (codeAny_mono (F.run X.A X.stack s H ⟨us, []⟩ us vs Q E hr hgd I.env0 bd r h) fun res s' hq => ?_)
  cases res with
  | error e =>
    have hq' : CX X.stack H s E e s' := hq
    exact hx pins σ H s e s' I hq'
  | ok fl =>
    cases fl with
    | ret u =>
      have hq' : CE X.stack X.prog X.w H s Q u s' := hq
      exact I.after hq'
    | next => exact hq.elim
    | brk => exact hq.elim
    | cont => exact hq.elim
theorem fnG_of {x qual : Str} {st : Stmt} {f : Addr} {fd : FuncData} {N ps : List Str} {k : Nat} {sp : Sp} (F : Fun K x qual st f fd) (S : FnScope N ps (defScope st)) (len : ∀ vs H Q E, sp vs H Q E → vs.length = ps.length)
    (hbody : ∀ (cdv : Value) (A : Around) (outer : List PySem.Env) (s : Shared) (H : Hp) (vs : List V) (Q : VK) (E : XK), Room k (A.deeper (PyProof.Rows.envOfC qual (defScope st) s.heap.objs.size f cdv)) → A.guards = some [] → sp vs H Q E →
      wSs (cxOf CX P w K mg base N qual (defScope st) f cdv A outer s H E) (defBody st) { nx := fun _ H' => Q .non H', rt := Q } (start N vs) H) : FnG P w K mg base CX (k + 1) f fd ps sp := by
  obtain ⟨oc, od, kV, doc, pm, an, cdv, ct, osl, rfl, lk, hcd⟩ := F.ex
  refine ⟨len, ?_⟩
  intro A outer s H args us vs Q E hr hgd e0 hb rv hsp
  have KX : K.In s.heap := e0.mod.kin.keeps fun b o e => (e0.bs b o e).1
  have lim : s.heap.NoLimit := e0.mod.nolimit.keeps fun b o e => (e0.bs b o e).1
  have kinds : ∀ y ∈ ps.zip us, (defScope st).names.lookup y.1 = some .local ∨ ((defScope st).names.lookup y.1 = some .cell ∧ ((cellsFrom (s.heap.objs.size + 1) (defScope st).names []).lookup y.1).isSome = true) := by
    rintro ⟨n, v⟩ hy
    cases S.par n (List.of_mem_zip hy).1 with
    | inl q => exact Or.inl q
    | inr q => exact Or.inr ⟨q, PySem.W.cellsFrom_some _ _ _ (Or.inl q)⟩
  refine codeAny_call_function hr.depth (KX _ _ lk) rfl S.co S.gen rfl (PySem.W.codeRec_of KX hcd) (hb _ _ _ _ ?_)
  refine wpAny_newFunctionEnv_cells S.kind kinds fun env he s1 ic => ?_
  subst he
  refine ⟨lim.keeps ic.toInCall.keep, codeAny_func ?_⟩
  have I := inv_start (CX := CX) (P := P) (w := w) (K := K) (mg := mg) (base := base) (E := E) S hr.hd e0 (len _ _ _ _ hsp) rv ic
  refine wpAny_mono (hbody cdv A outer s H vs Q E (hr.deeper _) hgd hsp [] s1 I) (fun fl s' hs => ?_) fun e s' hs => hs
  cases fl with
  | ret u =>
    obtain ⟨v, σ', H', J, r', q⟩ := hs
    exact ⟨v, H', J.os, J.bare, J.base, J.hok, r', q⟩
  | next =>
    obtain ⟨σ', H', J, q⟩ := hs
    exact ⟨.non, H', J.os, J.bare, J.base, J.hok, rfl, q⟩
  | brk =>
    obtain ⟨_, _, _, q⟩ := hs
    exact q.elim
  | cont =>
    obtain ⟨_, _, _, q⟩ := hs
    exact q.elim
end

/-! ### promises over data -/
abbrev SpF := List Ent → Mu → (Ent → Mu → Prop) → Prop
def opqs (H : Hp) (hid : As) : Mu := hid.map fun q => match q with
  | some a => .opq ((H a).getD (.tup []))
  | none => .lst []
def lift (K : PySem.W.Frag) (sp : SpF) : Sp := fun vs H Q _ => ∃ (as hid : As) (es : List Ent) (μ : Mu) (P : Ent → Mu → Prop), as.length = μ.length ∧ Cells K H (as ++ hid) (μ ++ opqs H hid) ∧ EntsOk K (hide H (as ++ hid)) as vs es ∧
  sp es μ P ∧ ∀ en μ', P en μ' → ∀ v H', Kp as H H' → as.length = μ'.length → Cells K H' (as ++ hid) (μ' ++ opqs H hid) → EntOk K (hide H' (as ++ hid)) as v en → Q v H'
/-- a def of the module, callable -/
def Cal (P : Program) (w : World) (K : PySem.W.Frag) (mg : Str → Option Value) (base : Heap) (CX : CXT) (x : Str) (k : Nat) (sp : Sp) : Prop :=
  ∃ (f : Addr) (fd : FuncData) (ps : List Str), mg x = some (.ref f) ∧ PySem.W.keepIn K (.ref f) = true ∧ Binds K fd ps [] ∧ FnG P w K mg base CX k f fd ps sp
abbrev CalX (X : Cx) (x : Str) (k : Nat) (sp : SpF) : Prop := Cal X.prog X.w X.K X.mg X.base CX0 x k (lift X.K sp)
theorem Cal.mono {P : Program} {w : World} {K : PySem.W.Frag} {mg : Str → Option Value} {base : Heap} {CX : CXT} {x : Str} {j k : Nat} {sp : Sp} (h : Cal P w K mg base CX x j sp) (hj : j ≤ k) : Cal P w K mg base CX x k sp :=
  let ⟨f, fd, ps, a, b, c, d⟩ := h
  ⟨f, fd, ps, a, b, c, d.mono hj⟩
/-- what a body has around it -/
structure Bx (X : Cx) (k : Nat) : Prop where
  gd : X.A.guards = some []
  hr : Room k X.A
theorem hide_congr {H : Hp} {as as' : As} (h : ∀ b, some b ∈ as ↔ some b ∈ as') : hide H as = hide H as' := by
  funext b
  unfold hide
  by_cases hb : some b ∈ as
  · rw [if_pos hb, if_pos ((h b).mp hb)]
  · rw [if_neg hb, if_neg fun z => hb ((h b).mpr z)]
def Ent.plain : Ent → Bool
  | .c _ => false
  | _ => true
theorem EntOk.plain {K : PySem.W.Frag} {F : Hp} {as as' : As} {v : V} {en : Ent} (p : en.plain = true) (h : EntOk K F as v en) : EntOk K F as' v en := by
  cases en with
  | d x => exact h
  | c k => cases p
  | v x => exact h
theorem EntsOk.plain {K : PySem.W.Frag} {F : Hp} {as as' : As} : ∀ {vs : List V} {es : List Ent}, es.all Ent.plain = true → EntsOk K F as vs es → EntsOk K F as' vs es
  | _, _, _, .nil => .nil
  | _, _, p, .cons a b => by
    rw [List.all_cons, Bool.and_eq_true] at p
    exact .cons (a.plain p.1) (EntsOk.plain p.2 b)
theorem cells_there {K : PySem.W.Frag} {H : Hp} {as : As} {μ : Mu} (c : Cells K H as μ) {a : Addr} (h : some a ∈ as) : ∃ o, H a = some o := by
  cases q : H a with
  | none => exact absurd h (not_cell c q)
  | some o => exact ⟨o, rfl⟩
theorem cells_opq {K : PySem.W.Frag} {H : Hp} {as : As} {μ : Mu} (c : Cells K H as μ) : Cells K H as (opqs H as) := by
  refine ⟨by simp [opqs], c.nd, fun i a m h1 h2 => ?_⟩
  obtain ⟨o, ho⟩ := cells_there c (List.mem_of_getElem? h1)
  unfold opqs at h2
  rw [List.getElem?_map, h1] at h2
  cases h2
  show H a = some ((H a).getD (.tup []))
  rw [ho]
  rfl
section
variable {X : Cx} {a e : Expr} {es : List Expr} {pos p : Pos} {ρ : Slots} {μ : Mu} {P : Ent → Mu → Prop}
/-- f(..), no cell handed in -/
theorem de_call {x : Str} {k j : Nat} {sp : SpF} (B : Bx X k) (C : CalX X x j sp) (hj : j ≤ k) (g : Gb X x) (h : DA X (a :: es) ρ μ fun ens μ1 => ens.all Ent.plain = true ∧ sp ens [] fun en μ' => en.plain = true ∧ P en μ1)
    (he : starEach (a :: es) X.env = (false, eval a X.env) :: starEach es X.env := by rfl) (hpl : (backTo pos (starEach es X.env)).any (·.1) = false := by rfl) : DE X (.Call (.Name x p) (a :: es) [] pos) ρ μ P := by
  intro E as H σ Q R q
  obtain ⟨f, fd, ps, hm, hk, hb, F⟩ := C
  intro pins s I
  refine wpAny_Call_Name_kw (ld_glob I g.gl hm ?_ g.db)
  have args : wA X (a :: es) σ H fun vs H1 => lift X.K sp vs H1 Q E0 := h E as H σ _ R fun vs H1 ens μ1 k1 R1 o1 p1 => by
    obtain ⟨pl, hs⟩ := p1
    refine ⟨[], as, ens, [], fun en _ => en.plain = true ∧ P en μ1, rfl, cells_opq R1.cells, o1.plain pl, hs, ?_⟩
    intro en μ' z v H' k2 _ c2 o2
    have sm : Same H1 H' := fun b o hb => k2 b o (by simp) hb
    exact q v H' en μ1 (k1.trans (kp_of sm)) (R1.same sm) (EntOk.plain z.1 o2) z.2
  refine PySem.W.callWith_K (h₀ := X.base) I.ok.mod.kin hk (thn (args pos pins s I) fun us s1 ⟨vs, H1, I1, r, q1⟩ => ⟨I1.kIn, ?_⟩) he hpl
  exact run_g (E := E0) (F.mono hj) B.hr B.gd hb pass0 I1 r q1
theorem mem_set_none {as : As} {k : Nat} {a : Addr} (ha : as[k]? = some (some a)) (b : Addr) : some b ∈ ([some a] ++ as.set k none) ↔ some b ∈ as := by
  constructor
  · intro h
    rcases List.mem_append.mp h with z | z
    · rw [List.mem_singleton.mp z]
      exact List.mem_of_getElem? ha
    · rcases List.mem_or_eq_of_mem_set z with z | z
      · exact z
      · cases z
  · intro h
    obtain ⟨i, hi⟩ := List.mem_iff_getElem?.mp h
    by_cases hk : k = i
    · subst hk
      rw [ha] at hi
      cases hi
      exact List.mem_append_left _ (List.mem_singleton.mpr rfl)
    · refine List.mem_append_right _ (List.mem_iff_getElem?.mpr ⟨i, ?_⟩)
      rw [List.getElem?_set_ne hk]
      exact hi
/-- f(hand, ..): the first argument a cell -/
theorem de_callH {x : Str} {k j : Nat} {sp : SpF} (B : Bx X k) (C : CalX X x j sp) (hj : j ≤ k) (g : Gb X x)
    (h : DA X (a :: es) ρ μ fun ens μ1 => ∃ n m r, ens = .c n :: r ∧ r.all Ent.plain = true ∧ μ1[n]? = some m ∧ sp (.c 0 :: r) [m] fun en μ' => ∃ m', μ' = [m'] ∧ en.plain = true ∧ P en (μ1.set n m'))
    (he : starEach (a :: es) X.env = (false, eval a X.env) :: starEach es X.env := by rfl) (hpl : (backTo pos (starEach es X.env)).any (·.1) = false := by rfl) : DE X (.Call (.Name x p) (a :: es) [] pos) ρ μ P := by
  intro E as H σ Q R q
  obtain ⟨f, fd, ps, hm, hk, hb, F⟩ := C
  intro pins s I
  refine wpAny_Call_Name_kw (ld_glob I g.gl hm ?_ g.db)
  have args : wA X (a :: es) σ H fun vs H1 => lift X.K sp vs H1 Q E0 := h E as H σ _ R fun vs H1 ens μ1 k1 R1 o1 p1 => by
    obtain ⟨n, m, r, rfl, pl, hm1, hs⟩ := p1
    cases o1 with
    | cons oc or =>
      obtain ⟨c, hc, rfl⟩ := oc
      have hv : ∀ G : Hp, hide G ([some c] ++ as.set n none) = hide G as := fun G => hide_congr (mem_set_none hc)
      have hcm := R1.cells.ok n c m hc hm1
      have oo := cells_opq R1.cells
      have cs : Cells X.K H1 ([some c] ++ as.set n none) ([m] ++ opqs H1 (as.set n none)) := by
        refine ⟨by simp [opqs], fun i i' b h1 h2 => ?_, fun i b mo h1 h2 => ?_⟩
        · match i, i' with
          | 0, 0 => rfl
          | 0, i' + 1 =>
            have e1 : c = b := by simpa using h1
            subst e1
            have h2 : (as.set n none)[i']? = some (some c) := by simpa using h2
            by_cases hk' : n = i'
            · subst hk'
              rw [List.getElem?_set_self (by have := (List.getElem?_eq_some_iff.mp hc).1; exact this)] at h2
              cases h2
            · rw [List.getElem?_set_ne hk'] at h2
              exact absurd (R1.cells.nd _ _ _ hc h2) hk'
          | i + 1, 0 =>
            have e1 : c = b := by simpa using h2
            subst e1
            have h1 : (as.set n none)[i]? = some (some c) := by simpa using h1
            by_cases hk' : n = i
            · subst hk'
              rw [List.getElem?_set_self (by have := (List.getElem?_eq_some_iff.mp hc).1; exact this)] at h1
              cases h1
            · rw [List.getElem?_set_ne hk'] at h1
              exact absurd (R1.cells.nd _ _ _ hc h1) hk'
          | i + 1, i' + 1 =>
            have h1 : (as.set n none)[i]? = some (some b) := by simpa using h1
            have h2 : (as.set n none)[i']? = some (some b) := by simpa using h2
            have key : ∀ {z : Nat}, (as.set n none)[z]? = some (some b) → as[z]? = some (some b) := fun {z} hz => by
              by_cases hk' : n = z
              · subst hk'
                rw [List.getElem?_set_self (by have := (List.getElem?_eq_some_iff.mp hc).1; exact this)] at hz
                cases hz
              · rw [List.getElem?_set_ne hk'] at hz
                exact hz
            rw [R1.cells.nd _ _ _ (key h1) (key h2)]
        · rw [hv]
          match i with
          | 0 =>
            have e1 : c = b := by simpa using h1
            have e2 : m = mo := by simpa using h2
            subst e1 e2
            exact hcm
          | i + 1 =>
            have h1 : (as.set n none)[i]? = some (some b) := by simpa using h1
            have h2 : (opqs H1 (as.set n none))[i]? = some mo := by simpa using h2
            have hb' : ∃ o, H1 b = some o := cells_there R1.cells (by
              rcases List.mem_or_eq_of_mem_set (List.mem_of_getElem? h1) with z | z
              · exact z
              · cases z)
            obtain ⟨o, ho⟩ := hb'
            unfold opqs at h2
            rw [List.getElem?_map, h1] at h2
            cases h2
            show H1 b = some ((H1 b).getD (.tup []))
            rw [ho]
            rfl
      refine ⟨[some c], as.set n none, .c 0 :: r, [m], _, rfl, cs, .cons ⟨c, rfl, rfl⟩ ?_, hs, ?_⟩
      · rw [hv]
        exact or.plain pl
      · intro en μ' z v H' k2 _ c2 o2
        obtain ⟨m', rfl, z1, z2⟩ := z
        have kk : Kp as H1 H' := fun b o nb hb => k2 b o (fun hz => nb (by rw [List.mem_singleton.mp hz]; exact List.mem_of_getElem? hc)) hb
        refine q v H' en (μ1.set n m') (k1.trans kk) (R1.step kk ?_) ?_ z2
        · refine ⟨by simp [R1.cells.len], R1.cells.nd, fun i b mo h1 h2 => ?_⟩
          by_cases hk' : n = i
          · subst hk'
            rw [hc] at h1
            cases h1
            have hlt : n < μ1.length := by
              have := (List.getElem?_eq_some_iff.mp h2).1
              simpa using this
            rw [List.getElem?_set_self hlt] at h2
            cases h2
            have q0 := c2.ok 0 c m' (by simp) (by simp)
            rw [hv] at q0
            exact q0
          · rw [List.getElem?_set_ne hk'] at h2
            have hbc : b ≠ c := fun zz => hk' (R1.cells.nd n i c hc (by rw [← zz]; exact h1))
            have keep : H' b = H1 b := by
              obtain ⟨o, ho⟩ := cells_there R1.cells (List.mem_of_getElem? h1)
              rw [ho, k2 b o (fun hz => hbc (Option.some.inj (List.mem_singleton.mp hz))) ho]
            exact (R1.cells.ok i b mo h1 h2).mono kk.view keep
        · rw [hv] at o2
          exact o2.plain z1
  refine PySem.W.callWith_K (h₀ := X.base) I.ok.mod.kin hk (thn (args pos pins s I) fun us s1 ⟨vs, H1, I1, r, q1⟩ => ⟨I1.kIn, ?_⟩) he hpl
  exact run_g (E := E0) (F.mono hj) B.hr B.gd hb pass0 I1 r q1
end
end Pw

/-! PwF: bodies of defs, their names, repr, the law's end. -/
namespace Pw
open PySem PySem.Spec L2

/-! ### a def's body -/
/-- a context whose names and scope are written out -/
abbrev mkX (X0 : Cx) (env0 : PySem.Env) (N : List Str) (sc : Scope) : Cx :=
  { X0 with N := N, env := { env0 with scope := sc }, calm := true, fn := fun _ => true, xe := fun _ _ => False }
def RetP (n : Nat) (μh : Mu) (P : Ent → Mu → Prop) (en : Ent) (μ' : Mu) : Prop := ∃ μ1 loc, μ' = (μ1 ++ μh) ++ loc ∧ μ1.length = n ∧ en.plain = true ∧ P en μ1
abbrev Zof (n : Nat) (μh : Mu) (P : Ent → Mu → Prop) : Po := { nx := fun _ μ' => RetP n μh P (.d .none) μ', rt := RetP n μh P }
theorem ret0 {μh : Mu} {P : Ent → Mu → Prop} {x : D} (h : P (.d x) []) : RetP 0 μh P (.d x) μh := ⟨[], [], by simp, rfl, rfl, h⟩
theorem ret1 {μh : Mu} {P : Ent → Mu → Prop} {x : D} {m : MO} (h : P (.d x) [m]) : RetP 1 μh P (.d x) (m :: μh) := ⟨[m], [], by simp, rfl, rfl, h⟩
def slots0 (N : List Str) (es : List Ent) : Slots := es.map some ++ List.replicate (N.length - es.length) none
theorem ents_len {K : PySem.W.Frag} {F : Hp} {as : As} : ∀ {vs : List V} {es : List Ent}, EntsOk K F as vs es → vs.length = es.length
  | _, _, .nil => rfl
  | _, _, .cons _ b => by simp [ents_len b]
theorem ents_get {K : PySem.W.Frag} {F : Hp} {as : As} : ∀ {vs : List V} {es : List Ent} {i : Nat} {en : Ent}, EntsOk K F as vs es → es[i]? = some en → ∃ v, vs[i]? = some v ∧ EntOk K F as v en
  | _, _, i, en, .nil, h => by simp at h
  | _, _, 0, en, .cons a b, h => by
    simp at h
    subst h
    exact ⟨_, rfl, a⟩
  | _, _, i + 1, en, .cons a b, h => by
    obtain ⟨v, q1, q2⟩ := ents_get (i := i) b (by simpa using h)
    exact ⟨v, by simpa using q1, q2⟩
theorem Cells.pre {K : PySem.W.Frag} {H : Hp} {as t : As} {μa loc : Mu} (c : Cells K H (as ++ t) (μa ++ loc)) (h : as.length = μa.length) : Cells K H as μa := by
  have vw : Same (hide H (as ++ t)) (hide H as) := fun b o e => by
    obtain ⟨n, e⟩ := of_hide e
    exact hide_of (fun hm => n (List.mem_append_left _ hm)) e
  refine ⟨h, fun i j a h1 h2 => ?_, fun i a mo h1 h2 => ?_⟩
  · exact c.nd i j a (by rw [List.getElem?_append_left (List.getElem?_eq_some_iff.mp h1).1]; exact h1) (by rw [List.getElem?_append_left (List.getElem?_eq_some_iff.mp h2).1]; exact h2)
  · have l1 := (List.getElem?_eq_some_iff.mp h1).1
    exact (c.ok i a mo (by rw [List.getElem?_append_left l1]; exact h1) (by rw [List.getElem?_append_left (by omega)]; exact h2)).mono vw rfl
section
variable {P : Program} {w : World} {K : PySem.W.Frag} {mg : Str → Option Value} {base : Heap}
/-- a def of the module's top, where it stands -/
def Top1 (K : PySem.W.Frag) (mg : Str → Option Value) (x : Str) (st : Stmt) (ps : List Str) : Prop := ∃ (f : Addr) (fd : FuncData), Fun K x x st f fd ∧ mg x = some (.ref f) ∧ Binds K fd ps []
theorem exit_ok {E : En} {H H' : Hp} {as hid asf : As} {σ : L2.St} {ρ : Slots} {μ' μ1 loc : Mu} {v : V} {x : D} (hE : E.as0 = as ++ hid) (hH : E.H0 = H) (R : Rel K E H' asf σ ρ μ') (e : μ' = (μ1 ++ opqs H hid) ++ loc) (hl : as.length = μ1.length)
    (c0 : ∀ a, some a ∈ hid → ∃ o, H a = some o) : Kp as H H' ∧ Cells K H' (as ++ hid) (μ1 ++ opqs H hid) ∧ (Dp K (hide H' asf) v x → Dp K (hide H' (as ++ hid)) v x) := by
  subst e
  obtain ⟨t, ht⟩ := R.ent
  rw [hE] at ht
  subst ht
  have cs : Cells K H' (as ++ hid) (μ1 ++ opqs H hid) := R.cells.pre (by simp [opqs, hl])
  refine ⟨fun b o n hb => ?_, cs, fun h => dp_mono (fun b o e => ?_) _ _ h⟩
  · by_cases hm : some b ∈ hid
    · obtain ⟨j, hj⟩ := List.mem_iff_getElem?.mp hm
      have q := cs.ok (as.length + j) b (.opq ((H b).getD (.tup []))) (by rw [List.getElem?_append_right (by omega)]; simpa using hj) (by
        rw [List.getElem?_append_right (by omega), hl]
        simp [opqs, hj])
      have q' : H' b = some ((H b).getD (.tup [])) := q
      rw [q', hb]
      rfl
    · refine R.keep b o ?_ (by rw [hH]; exact hb)
      rw [hE]
      intro z
      rcases List.mem_append.mp z with z | z
      · exact n z
      · exact hm z
  · obtain ⟨n, e⟩ := of_hide e
    exact hide_of (fun hm => n (List.mem_append_left _ hm)) e
theorem cal_of {x : Str} {st : Stmt} {N ps : List Str} {k : Nat} {sp : SpF} (T : Top1 K mg x st ps) (S : FnScope N ps (defScope st)) (len : ∀ es μ Q, sp es μ Q → es.length = ps.length)
    (hbody : ∀ (f : Addr) (cdv : Value) (A : Around) (outer : List PySem.Env) (s : Shared) (H : Hp) (E : XK),
      Bx (mkX (cxOf CX0 P w K mg base N x (defScope st) f cdv A outer s H E) (PyProof.Rows.envOfC x (defScope st) s.heap.objs.size f cdv) N (defScope st)) k → ∀ (es : List Ent) (μ μh : Mu) (Q : Ent → Mu → Prop), sp es μ Q →
      DSs (mkX (cxOf CX0 P w K mg base N x (defScope st) f cdv A outer s H E) (PyProof.Rows.envOfC x (defScope st) s.heap.objs.size f cdv) N (defScope st)) (defBody st) (slots0 N es) (μ ++ μh) (Zof μ.length μh Q)) :
    Cal P w K mg base CX0 x (k + 1) (lift K sp) := by
  obtain ⟨f, fd, F, hm, hb⟩ := T
  refine ⟨f, fd, ps, hm, F.kp, hb, fnG_of F S ?_ ?_⟩
  · rintro vs H Q E ⟨as, hid, es, μ, P0, _, _, he, hs, _⟩
    rw [ents_len he]
    exact len _ _ _ hs
  · rintro cdv A outer s H vs Q E hr hg ⟨as, hid, es, μ, P0, hl, cs, he, hs, hq⟩
    have B : Bx (mkX (cxOf CX0 P w K mg base N x (defScope st) f cdv A outer s H E) (PyProof.Rows.envOfC x (defScope st) s.heap.objs.size f cdv) N (defScope st)) k := ⟨hg, hr⟩
    have body := hbody f cdv A outer s H E B es μ (opqs H hid) P0 hs
    refine of_pss (PSs.nox pss_w) ?_
    have vl := ents_len he
    have c0 : ∀ a, some a ∈ hid → ∃ o, H a = some o := fun a ha => cells_there cs (List.mem_append_right _ ha)
    refine body ⟨as ++ hid, H, hide H (as ++ hid)⟩ (as ++ hid) H (L2.start N vs) _ ⟨cs, ?_, fun i en e => ?_, List.prefix_refl _, Kp.refl _ _, fun i a h1 h2 => ?_, Same.refl _⟩ ⟨fun as' H' σ ρ μ' R z => ?_, fun as' H' σ ρ μ' v en R o z => ?_, fun _ _ _ _ _ _ z => z.elim, fun _ _ _ _ _ _ z => z.elim⟩
    · unfold L2.start slots0
      simp [vl]
    · have hi : i < es.length := by
        rcases Nat.lt_or_ge i es.length with h | h
        · exact h
        · unfold slots0 at e
          rw [List.getElem?_append_right (by simpa using h), List.getElem?_replicate] at e
          split at e <;> cases e
      have e' : es[i]? = some en := by
        unfold slots0 at e
        rw [List.getElem?_append_left (by simpa using hi), List.getElem?_map] at e
        cases q : es[i]? with
        | none => rw [q] at e; cases e
        | some y =>
          rw [q] at e
          cases e
          rfl
      obtain ⟨v, q1, q2⟩ := ents_get he e'
      refine ⟨v, ?_, ?_⟩
      · unfold L2.start
        rw [List.getElem?_append_left (by simpa [vl] using hi), List.getElem?_map, q1]
        rfl
      · cases en with
        | d y => exact q2
        | c n =>
          obtain ⟨a, ha, hv⟩ := q2
          exact ⟨a, by rw [List.getElem?_append_left (List.getElem?_eq_some_iff.mp ha).1]; exact ha, hv⟩
        | v y => exact q2
    · have l2 := (List.getElem?_eq_some_iff.mp h2).1
      have l3 : (as ++ hid).length ≤ i := h1
      exact absurd l2 (Nat.not_lt.mpr l3)
    · obtain ⟨μ1, loc, e, l1, _, p⟩ := z
      obtain ⟨z1, z2, z3⟩ := exit_ok (v := .non) (x := .none) rfl rfl R e (hl.trans l1.symm) c0
      exact hq (.d .none) μ1 p .non H' z1 (hl.trans l1.symm) z2 .non
    · obtain ⟨μ1, loc, e, l1, pl, p⟩ := z
      cases en with
      | d y =>
        obtain ⟨z1, z2, z3⟩ := exit_ok (v := v) (x := y) rfl rfl R e (hl.trans l1.symm) c0
        exact hq (.d y) μ1 p v H' z1 (hl.trans l1.symm) z2 (z3 o)
      | c n => cases pl
      | v y =>
        obtain ⟨z1, z2, z3⟩ := exit_ok (v := .non) (x := .none) rfl rfl R e (hl.trans l1.symm) c0
        exact hq (.v y) μ1 p v H' z1 (hl.trans l1.symm) z2 o
end

/-! ### names, by computation -/
def visB (sc : Scope) (x : Str) : Bool :=
  (match sc.names.lookup x with
    | some .local => true
    | some .cell => true
    | some .free => true
    | _ => false) && !(x == ("__debug__" : Str)) && !(x == ("__classdict__" : Str))
def nmC (N : List Str) (sc : Scope) (vi : List Nat) : Bool := vi.all fun i => match N[i]? with
  | some x => visB sc x
  | none => true
def lcB (sc : Scope) (x : Str) : Bool := match sc.names.lookup x with
  | some .local => true
  | some .cell => true
  | _ => false
def lcC (N : List Str) (sc : Scope) (li : List Nat) : Bool := decide N.Nodup && li.all fun i => match N[i]? with
  | some x => lcB sc x
  | none => true
def gbC (sc : Scope) (x : Str) : Bool := (match sc.names.lookup x with
  | some .globalImplicit => true
  | _ => false) && !(x == ("__name__" : Str)) && !(x == ("__debug__" : Str))
theorem vis_of {sc : Scope} {x : Str} (h : visB sc x = true) : Vis sc x ∧ (x == ("__debug__" : Str)) = false ∧ (x == ("__classdict__" : Str)) = false := by
  unfold visB at h
  rw [Bool.and_eq_true, Bool.and_eq_true] at h
  obtain ⟨⟨h1, h2⟩, h3⟩ := h
  refine ⟨?_, by simpa using h2, by simpa using h3⟩
  split at h1
  · exact .inl (by assumption)
  · exact .inr (.inl (by assumption))
  · exact .inr (.inr (by assumption))
  · cases h1
theorem nm_of {X : Cx} {N : List Str} {sc : Scope} {vi : List Nat} (h : nmC N sc vi = true) (hN : X.N = N := by rfl) (hs : X.env.scope = sc := by rfl) : Nm X vi := by
  refine ⟨fun i hi x hx => ?_⟩
  unfold nmC at h
  rw [List.all_eq_true] at h
  have q := h i hi
  rw [hN] at hx
  rw [hx] at q
  rw [hs]
  exact vis_of q
theorem lc_of {X : Cx} {N : List Str} {sc : Scope} {li : List Nat} (h : lcC N sc li = true) (hN : X.N = N := by rfl) (hs : X.env.scope = sc := by rfl) (hf : ∀ x, X.fn x = true := by intro _; rfl) : Lc X li := by
  unfold lcC at h
  rw [Bool.and_eq_true] at h
  refine ⟨by rw [hN]; exact of_decide_eq_true h.1, fun i hi x hx => ?_⟩
  have q := (List.all_eq_true.mp h.2) i hi
  rw [hN] at hx
  rw [hx] at q
  rw [hs]
  refine ⟨?_, .inl (hf x)⟩
  have q : lcB sc x = true := q
  unfold lcB at q
  split at q
  · exact .inl (by assumption)
  · exact .inr (by assumption)
  · cases q
theorem gb_of {X : Cx} {sc : Scope} {x : Str} (h : gbC sc x = true) (hs : X.env.scope = sc := by rfl) : Gb X x := by
  unfold gbC at h
  rw [Bool.and_eq_true, Bool.and_eq_true] at h
  obtain ⟨⟨h1, h2⟩, h3⟩ := h
  refine ⟨?_, ?_, by simpa using h3⟩
  · show X.env.scope.names.lookup x = some .globalImplicit
    rw [hs]
    split at h1
    · assumption
    · cases h1
  · simpa using h2

/-! ### repr -/
mutual
def Fit : D → Prop
  | .none => True
  | .bool _ => True
  | .int i => i.natAbs < 10 ^ 150
  | .str x => ∀ c ∈ x.cps.toList, c < 16 ^ 8
  | .list xs => FitAll xs
  | .tuple xs => FitAll xs
  | .dict _ => False
def FitAll : List D → Prop
  | [] => True
  | x :: xs => Fit x ∧ FitAll xs
end
mutual
def lenB : D → Nat
  | .none => 4
  | .bool _ => 5
  | .int _ => 151
  | .str x => 10 * x.length + 2
  | .list xs => lenBs xs + 3
  | .tuple xs => lenBs xs + 3
  | .dict _ => 0
def lenBs : List D → Nat
  | [] => 0
  | x :: xs => lenB x + 2 + lenBs xs
end
mutual
theorem shown_lenB : ∀ d : D, Fit d → d.shown.length ≤ lenB d
  | .none, _ => Nat.le_of_eq rfl
  | .bool b, _ => by cases b <;> exact Nat.le_of_ble_eq_true rfl
  | .int i, h => by
    have e := PySem.int_text_length_le10 (k := 150) (by decide) (show i.natAbs < 10 ^ 150 from h)
    show (Str.ofString (toString i)).length ≤ 151
    rw [PySem.ofString_length]
    exact e
  | .str x, h => StrLaws.reprText_len x h
  | .list xs, h => by
    have h1 := shown_lenBs xs h
    have h2 := PySem.listText_len_le (PyData.shownAll xs)
    show (PySem.listText (PyData.shownAll xs)).length ≤ lenBs xs + 3
    omega
  | .tuple xs, h => by
    have h1 := shown_lenBs xs h
    have h2 := PySem.tupleText_len_le (PyData.shownAll xs)
    show (PySem.tupleText (PyData.shownAll xs)).length ≤ lenBs xs + 3
    omega
  | .dict _, h => h.elim
theorem shown_lenBs : ∀ xs : List D, FitAll xs → ((PyData.shownAll xs).map (·.length)).sum + 2 * (PyData.shownAll xs).length ≤ lenBs xs
  | [], _ => Nat.le_of_eq rfl
  | x :: xs, h => by
    have h1 := shown_lenB x h.1
    have h2 := shown_lenBs xs h.2
    show ((x.shown :: PyData.shownAll xs).map (·.length)).sum + 2 * (x.shown :: PyData.shownAll xs).length ≤ lenB x + 2 + lenBs xs
    simp only [List.map_cons, List.sum_cons, List.length_cons]
    omega
end
theorem log2_small {n : Nat} (h : n < 10 ^ 150) : n.log2 < 1920 := by
  by_cases h0 : n = 0
  · subst h0
    decide
  · exact (Nat.log2_lt h0).mpr (Nat.lt_trans h (by decide +kernel))
mutual
theorem fit_showable : ∀ d : D, Fit d → d.showable = true ∧ d.hasDict = false
  | .none, _ => ⟨rfl, rfl⟩
  | .bool _, _ => ⟨rfl, rfl⟩
  | .int i, h => ⟨by
      show decide (i.natAbs.log2 < 1920) = true
      exact decide_eq_true (log2_small h), rfl⟩
  | .str _, _ => ⟨rfl, rfl⟩
  | .list xs, h => by
    have z := fitAll_showable xs h
    exact ⟨by simp only [PyData.showable]; exact z.1, by simp only [PyData.hasDict]; exact z.2⟩
  | .tuple xs, h => by
    have z := fitAll_showable xs h
    exact ⟨by simp only [PyData.showable]; exact z.1, by simp only [PyData.hasDict]; exact z.2⟩
  | .dict _, h => h.elim
theorem fitAll_showable : ∀ xs : List D, FitAll xs → PyData.showableAll xs = true ∧ PyData.hasDictAll xs = false
  | [], _ => ⟨rfl, rfl⟩
  | x :: xs, h => by
    have h1 := fit_showable x h.1
    have h2 := fitAll_showable xs h.2
    exact ⟨by simp only [PyData.showableAll, h1.1, h2.1, Bool.and_self], by simp only [PyData.hasDictAll, h1.2, h2.2, Bool.or_self]⟩
end
def rRepr (K : PySem.W.Frag) : List V → Hp → VK → Prop := fun xs H Q => ∃ v d, xs = [v] ∧ Dp K H v d ∧ Fit d ∧ PyProof.Rows.isDisplay d = true ∧ d.depth ≤ 100 ∧ lenB d ≤ sizeLine ∧ Q (.str d.shown) H
theorem call_repr {X : Cx} {k : Nat} (B : Bx X k) : CallR X (.builtin "repr") (rRepr X.K) := by
  intro pins s σ H xs us Q I r h
  obtain ⟨v, d, rfl, hd, hf, hp, hz, hl, q⟩ := h
  cases r with
  | cons rv rr =>
    cases rr
    obtain ⟨as, hr⟩ := Dp.reads I d v _ hd rv
    obtain ⟨a, rfl⟩ := PyProof.Rows.isRef_of_reads hr hp
    have f := fit_showable d hf
    have u := B.hr.un
    exact repr_of_reads' hr f.1 (PyData.noDict_hsm f.2) B.gd (by omega) (fun _ _ e => e) (fun h' u' tk hk => ⟨.str d.shown, H, I.kept hk, ⟨_, rfl⟩, q⟩) (Nat.le_trans (shown_lenB d hf) hl)
theorem rc_repr {X : Cx} {ens : List Ent} {μ : Mu} {P : Ent → Mu → Prop} (h : ∃ d, ens = [.d d] ∧ Fit d ∧ PyProof.Rows.isDisplay d = true ∧ d.depth ≤ 100 ∧ lenB d ≤ sizeLine ∧ P (.d (.str d.shown)) μ) : RC X (rRepr X.K) ens μ P := by
  intro E as H σ ρ vs Q R o q
  obtain ⟨d, rfl, h1, h2, h3, h4, p⟩ := h
  obtain ⟨v, rfl, o1⟩ := ents1 o
  exact ⟨v, d, rfl, dp_mono hide_same _ _ o1, h1, h2, h3, h4, q _ H _ μ (Kp.refl _ _) R (ok_d (Dp.str _)) p⟩

/-! ### the law's own call -/
theorem law_run {P : Program} {w : World} {K : PySem.W.Frag} {mg mb : Str → Option Value} {k : Nat} {fa a : Addr} {fd : FuncData} {ps : List Str} {sp : Sp} {s₁ : Shared} {vs : List Value} {ns : List Int}
    (KX : K.In s₁.heap) (gl : s₁.heap.Ns mainGlobals mg) (bl : s₁.heap.Ns builtinsNs mb) (bb : ∀ x : Str, x ≠ "__name__" → mb x = bootBuiltins x) (nl : s₁.heap.NoLimit) (ge : s₁.gens = #[])
    (ha : s₁.heap.get? a = some { cls := .type "list", data := .seq vs.toArray }) (hi : PyProof.Rows.IntsAre vs ns) (hl : ns.length ≤ sizeLine) (hr : Room k PySem.callerA)
    (F : ∀ base : Heap, K.In base → base.Ns mainGlobals mg → FnG P w K mg base CX0 k fa fd ps sp) (hb : ∀ (s : Shared) (u : Value), BindsTo s fd ⟨[u], []⟩ (ps.zip [u]))
    (hsp : ∀ H : Hp, SqL K H a (ns.map V.int) → sp [.ref a] H (fun v _ => v = .bl true) fun _ _ _ => False) :
    codeAny (model P w) PySem.callerA (.call (.ref fa) ⟨[.ref a], []⟩) (fun r s' => r = .ok (.ret (.bool true)) ∧ PySem.OldK s₁.heap s'.heap ∧ s'.os = s₁.os ∧ PyProof.Rows.AllBare s'.gens) s₁ := by
  have rv : Vals (ns.map V.int) vs := vals_ints hi
  suffices core : ∀ H : Hp, SqL K H a (ns.map V.int) → HOk P w H s₁.heap → (∀ b o, H b = some o → b = a ∧ K.lookup a = none ∧ ∃ ob xs, o = .frz ob (.lst xs)) →
      codeAny (model P w) PySem.callerA (.call (.ref fa) ⟨[.ref a], []⟩) (fun r s' => r = .ok (.ret (.bool true)) ∧ PySem.OldK s₁.heap s'.heap ∧ s'.os = s₁.os ∧ PyProof.Rows.AllBare s'.gens) s₁ by
    cases hk : K.lookup a with
    | some o =>
      have e := KX a o hk
      rw [ha] at e
      cases e
      have sq : SqL K (fun _ => none) a (ns.map V.int) := .inr ⟨_, vs.toArray, _, hk, rfl, rfl, rfl, by rw [List.size_toArray, hi.length]; exact hl, by simpa using rv⟩
      exact core _ sq (fun b o z => nomatch z) fun b o z => nomatch z
    | none =>
      refine core (upd (fun _ => none) a (.frz { cls := .type "list", data := .seq vs.toArray } (.lst (ns.map V.int)))) (.inl (.inr ⟨_, upd_same⟩)) (fun b o z => ?_) fun b o z => ?_
      · by_cases e : b = a
        · subst e
          rw [upd_same] at z
          cases z
          exact ⟨ha, by rw [List.length_map]; exact hl, vs, _, rv, ha⟩
        · rw [upd_ne e] at z
          cases z
      · by_cases e : b = a
        · subst e
          rw [upd_same] at z
          cases z
          exact ⟨rfl, hk, _, _, rfl⟩
        · rw [upd_ne e] at z
          cases z
  intro H hS hok hO
  have toB : ∀ {b : Addr} {o : Obj}, s₁.heap.get? b = some o → H b = none → (hidT s₁.heap H).get? b = some o := fun e n => hidT_get e n
  have nsB : ∀ {b : Addr} {m : Str → Option Value}, s₁.heap.Ns b m → (hidT s₁.heap H).Ns b m := by
    rintro b m ⟨o, es, ep, e, d, r⟩
    refine ⟨o, es, ep, toB e ?_, d, r⟩
    cases q : H b with
    | none => rfl
    | some u =>
      obtain ⟨rfl, _⟩ := hO b u q
      rw [ha] at e
      cases e
      exact nomatch d
  have KB : K.In (hidT s₁.heap H) := fun b o e => by
    refine toB (KX b o e) ?_
    cases q : H b with
    | none => rfl
    | some u =>
      obtain ⟨rfl, z, _⟩ := hO b u q
      rw [e] at z
      cases z
  obtain ⟨mc, n1, n2⟩ := nl
  have md : Mod K mg (hidT s₁.heap H) := ⟨KB, nsB gl, ⟨mb, nsB bl, bb⟩, ⟨mc, nsB n1, n2⟩⟩
  have e0 : Env0 P w K mg (hidT s₁.heap H) PySem.callerA [] s₁ H := ⟨rfl, md, fun _ _ e => of_hidT e, Nat.le_of_eq (hidT_size _ _), trivial, fun b z => absurd z List.not_mem_nil, hok, .of_eq ge⟩
  refine codeAny_mono ((F _ KB (nsB gl)).run PySem.callerA [] s₁ H ⟨[.ref a], []⟩ [.ref a] [.ref a] _ _ hr rfl e0 (hb s₁ (.ref a)) (.cons rfl .nil) (hsp H hS)) fun r s' h => ?_
  cases r with
  | error e => exact h.elim
  | ok fl =>
    cases fl with
    | ret u =>
      obtain ⟨v, H', os, bare, un, hok', r', q⟩ := h
      have q' : v = .bl true := q
      subst q'
      have r'' : u = Value.bool true := r'
      subst r''
      refine ⟨rfl, PySem.OldK.of_keep fun b o e => ?_, os, bare⟩
      cases q : H b with
      | none => exact un.keep b o e q (fun z => absurd (show b ∈ ([] : List Addr) from z) List.not_mem_nil) List.not_mem_nil
      | some u =>
        obtain ⟨rfl, _, ob, xs, rfl⟩ := hO b u q
        have z1 := (hok b _ q).1
        have z2 := (hok' b _ (un.frzs b ob _ q)).1
        rw [e] at z1
        cases z1
        exact z2
    | next => exact h.elim
    | brk => exact h.elim
    | cont => exact h.elim
/-- the goal behind the head -/
theorem law_end {l : PySem.W.OpenLaw} {n k : Nat} {q : Program} {loose : List Str} {XP : (Str → Option Value) → Heap → Prop} {YP : World → Heap → Prop} {d : PySem.DefRec} {K : Params → PySem.W.Frag} {sp : World → Sp} {ps : List Str}
    (hn : l.most = some n) (hn2 : n ≤ sizeLine) (hdf : d.params.defaults = []) (hr : Room k PySem.callerA) (hY : ∀ (w : World) (h : Heap), YP w h → (K w.params).In h)
    (F : ∀ (w : World) (mg : Str → Option Value) (fa : Addr) (h : Heap), (K w.params).In h → h.Ns mainGlobals mg → mg d.name = some (.ref fa) →
      ∃ fd : FuncData, (∀ (s : Shared) (u : Value), BindsTo s fd ⟨[u], []⟩ (ps.zip [u])) ∧ ∀ base : Heap, (K w.params).In base → base.Ns mainGlobals mg → FnG l.prog w (K w.params) mg base CX0 k fa fd ps (sp w))
    (hsp : ∀ (w : World) (H : Hp) (a : Addr) (ns : List Int), ns.length ≤ n → SqL (K w.params) H a (ns.map V.int) → sp w [.ref a] H (fun v _ => v = .bl true) fun _ _ _ => False) :
    PySem.W.WalkO q loose XP YP l.row.toRowW d [] (fun f vs => PySem.call f vs) := by
  refine Att.attach_call hn hdf fun w s₀ s₁ mg mb fa o pm cd doc a vs ns G Y ho hd hcd hmg hobj hints hlen hg => ?_
  obtain ⟨fd, hb, hF⟩ := F w mg fa _ (hY w _ Y) G.T.g hmg
  exact law_run (hY w _ Y) G.T.g G.T.b G.T.builtins G.T.nolimit hg hobj hints (Nat.le_trans hlen hn2) hr hF hb fun H hS => hsp w H a ns hlen hS
end Pw

/-! PwG: comprehensions of the plain kinds, blocks' names, bounds. -/
namespace Pw
open PySem PySem.Spec L2

section
variable {X : Cx} {scope : Scope} {s : Shared} {H : Hp} {C : Addr} {cl : List (Str × Addr)} {fp : List Addr}
theorem nm_blk {vi : List Nat} (h : nmC X.N (relS scope X.env.scope) vi = true) : Nm (X.blk s H scope (compEnvC scope cl C X.env) fp) vi := nm_of h rfl rfl
theorem gb_blk {x : Str} (h : gbC (relS scope X.env.scope) x = true) : Gb (X.blk s H scope (compEnvC scope cl C X.env) fp) x := gb_of h rfl
theorem bx_blk {k : Nat} (B : Bx X k) : Bx (X.blk s H scope (compEnvC scope cl C X.env) fp) k := ⟨B.gd, B.hr⟩
end

/-! ### bounds of great ints -/
theorem log2_big {n : Nat} (h : n ≤ 10 ^ 200) : n.log2 < 1000 := by
  by_cases h0 : n = 0
  · subst h0
    decide
  · exact (Nat.log2_lt h0).mpr (Nat.lt_of_le_of_lt h (by decide +kernel))
theorem cmulB {i j : Int} (hi : i.natAbs ≤ 10 ^ 200) (hj : j.natAbs ≤ 10 ^ 200) : CMulW i j := by
  have a := log2_big hi
  have b := log2_big hj
  show i.natAbs.log2 + j.natAbs.log2 < 1000000
  omega
theorem cdivB {i j : Int} (h : 0 < j) (hj : j.natAbs ≤ 10 ^ 200) : CDivW i j := ⟨h, Nat.lt_of_lt_of_le (log2_big hj) (by decide)⟩
theorem abs_le_of {i : Int} {n : Nat} (h1 : -(n : Int) ≤ i) (h2 : i ≤ (n : Int)) : i.natAbs ≤ n := by omega

section
variable {X : Cx} {a b c e tg iter elt : Expr} {es ifs : List Expr} {pos p : Pos} {ρ : Slots} {μ : Mu} {P : Ent → Mu → Prop} {scope : Scope} {e1 e2 : Ent}
/-- a new word for an int's value -/
theorem namI {Q : Int → Prop} {v : Int} (h : ∀ n, n = v → Q n) : Q v := h v rfl
/-- what an expression comes to, told once -/
theorem de_cut {P' : Ent → Mu → Prop} (h : DE X e ρ μ P') (q : ∀ en μ', P' en μ' → P en μ') : DE X e ρ μ P := h.imp q
theorem dt_cut {PB PB' : Bool → Mu → Prop} (h : DT X e ρ μ PB') (q : ∀ b μ', PB' b μ' → PB b μ') : DT X e ρ μ PB := h.imp q
theorem ds_cut {st : Stmt} {Z : Po} {J : Slots → Mu → Prop} (h : DS X st ρ μ { Z with nx := J }) (q : ∀ ρ' μ', J ρ' μ' → Z.nx ρ' μ') : DS X st ρ μ Z :=
  fun E as H σ Dn R k => h E as H σ Dn R ⟨fun a b c d f g z => k.nx a b c d f g (q d f z), k.rt, k.bk, k.ct⟩
theorem rv_isB (h : ∃ i j, e1 = .d (.bool i) ∧ e2 = .d (.bool j) ∧ P (.d (.bool (decide (i = j)))) μ) : RV X rIsB e1 e2 μ P := by
  intro E as H σ ρ v1 v2 Q R o1 o2 q
  obtain ⟨i, j, rfl, rfl, p⟩ := h
  exact ⟨i, j, dp_bl o1, dp_bl o2, q _ H _ μ (Kp.refl _ _) R (ok_d (Dp.bl _)) p⟩
theorem de_lcMap {own : List (Str × Nat)} {g : TG} (f : D → D) (hc : X.calm = true) (hN : X.N.Nodup) (ok : BlkOk X.N X.env.scope scope own)
    (hg : ∀ (s : Shared) (H : Hp) (C : Addr) (cl : List (Str × Addr)) (fp : List Addr), PG (X.blk s H scope (compEnvC scope cl C X.env) fp) tg g)
    (h : DI X tg iter ρ μ fun ds μ1 => ds.length < sizeLine ∧ (∀ d, d ∈ ds → ∀ acc, DGc X.K g (own.map (·.2)) d (wipeD ρ (own.map (·.2))) (μ1 ++ [.lst acc]) fun ρ2 => Blk X scope fun Y => DE Y elt ρ2 (μ1 ++ [.lst acc]) fun en μ3 => en = .d (f d) ∧ μ3 = μ1 ++ [.lst acc]) ∧ P (.d (.list (ds.map f))) μ1)
    (hs : ∀ x, foldedSetIterable iter X.env x = pure x := by intro _; rfl) : DE X (.ListComp elt [⟨tg, iter, [], 0⟩] scope pos) ρ μ P := by
  refine de_lc hc hN ok hg (fun E as H σ R' R q => h E as H σ R' R fun J H' ds μ1 k1 R1 it z => q J H' ds μ1 k1 R1 it ?_) hs
  obtain ⟨hz, step, fin⟩ := z
  refine ⟨fun i acc μ' => μ' = μ1 ∧ acc = (ds.take i).map f, ⟨rfl, by simp⟩, hz, ?_, ?_⟩
  · rintro i d acc μ' hd _ ⟨rfl, rfl⟩
    intro E as H σ v Q R o k
    refine step d (List.mem_of_getElem? hd) _ E as H σ v Q R o fun σ' ρ' hw R' b => k σ' ρ' hw R' ?_
    refine ⟨fun _ s0 H0 C0 cl0 fp0 => (b s0 H0 C0 cl0 fp0).imp fun en μ3 ⟨q1, q2⟩ => ⟨f d, μ', q1, q2, rfl, ?_⟩, fun z => nomatch z⟩
    rw [List.take_add_one, hd, List.map_append]
    rfl
  · rintro acc μ' ⟨rfl, rfl⟩
    rw [List.take_length]
    exact fin
theorem de_lcFil {own : List (Str × Nat)} {g : TG} (f : D → D) (cf : D → Bool) (hc : X.calm = true) (hN : X.N.Nodup) (ok : BlkOk X.N X.env.scope scope own)
    (hg : ∀ (s : Shared) (H : Hp) (C : Addr) (cl : List (Str × Addr)) (fp : List Addr), PG (X.blk s H scope (compEnvC scope cl C X.env) fp) tg g)
    (h : DI X tg iter ρ μ fun ds μ1 => ds.length < sizeLine ∧ (∀ d, d ∈ ds → ∀ acc, DGc X.K g (own.map (·.2)) d (wipeD ρ (own.map (·.2))) (μ1 ++ [.lst acc]) fun ρ2 => Blk X scope fun Y => DT Y c ρ2 (μ1 ++ [.lst acc]) fun b μ2 =>
      b = cf d ∧ μ2 = μ1 ++ [.lst acc] ∧ (cf d = true → Blk X scope fun Y => DE Y elt ρ2 (μ1 ++ [.lst acc]) fun en μ3 => en = .d (f d) ∧ μ3 = μ1 ++ [.lst acc])) ∧ P (.d (.list ((ds.filter cf).map f))) μ1)
    (hs : ∀ x, foldedSetIterable iter X.env x = pure x := by intro _; rfl) : DE X (.ListComp elt [⟨tg, iter, [c], 0⟩] scope pos) ρ μ P := by
  refine de_lc hc hN ok hg (fun E as H σ R' R q => h E as H σ R' R fun J H' ds μ1 k1 R1 it z => q J H' ds μ1 k1 R1 it ?_) hs
  obtain ⟨hz, step, fin⟩ := z
  refine ⟨fun i acc μ' => μ' = μ1 ∧ acc = ((ds.take i).filter cf).map f, ⟨rfl, by simp⟩, hz, ?_, ?_⟩
  · rintro i d acc μ' hd _ ⟨rfl, rfl⟩
    intro E as H σ v Q R o k
    refine step d (List.mem_of_getElem? hd) _ E as H σ v Q R o fun σ' ρ' hw R' b => k σ' ρ' hw R' ?_
    refine fun s0 H0 C0 cl0 fp0 => (b s0 H0 C0 cl0 fp0).imp fun bb μ2 ⟨q1, q2, q3⟩ => ⟨fun hb => ?_, fun hb => ?_⟩
    · subst q2
      rw [q1] at hb
      intro s1 H1 C1 cl1 fp1
      refine (q3 hb s1 H1 C1 cl1 fp1).imp fun en μ3 ⟨z1, z2⟩ => ⟨f d, μ', z1, z2, rfl, ?_⟩
      rw [List.take_add_one, hd]
      simp [hb]
    · refine ⟨μ', q2, rfl, ?_⟩
      rw [q1] at hb
      rw [List.take_add_one, hd]
      simp [hb]
  · rintro acc μ' ⟨rfl, rfl⟩
    rw [List.take_length]
    exact fin
/-- elements that draw -/
theorem de_lcHand {own : List (Str × Nat)} {g : TG} (MI : Mu → Prop) (Pd : D → Prop) (hc : X.calm = true) (hN : X.N.Nodup) (ok : BlkOk X.N X.env.scope scope own)
    (hg : ∀ (s : Shared) (H : Hp) (C : Addr) (cl : List (Str × Addr)) (fp : List Addr), PG (X.blk s H scope (compEnvC scope cl C X.env) fp) tg g)
    (h : DI X tg iter ρ μ fun ds μ1 => ds.length < sizeLine ∧ MI μ1 ∧ (∀ d, d ∈ ds → ∀ acc μ', MI μ' → DGc X.K g (own.map (·.2)) d (wipeD ρ (own.map (·.2))) (μ' ++ [.lst acc]) fun ρ2 => Blk X scope fun Y => DE Y elt ρ2 (μ' ++ [.lst acc]) fun en μ3 => ∃ d' μ4, en = .d d' ∧ μ3 = μ4 ++ [.lst acc] ∧ MI μ4 ∧ Pd d') ∧
      ∀ acc μ', acc.length = ds.length → (∀ d, d ∈ acc → Pd d) → MI μ' → P (.d (.list acc)) μ')
    (hs : ∀ x, foldedSetIterable iter X.env x = pure x := by intro _; rfl) : DE X (.ListComp elt [⟨tg, iter, [], 0⟩] scope pos) ρ μ P := by
  refine de_lc hc hN ok hg (fun E as H σ R' R q => h E as H σ R' R fun J H' ds μ1 k1 R1 it z => q J H' ds μ1 k1 R1 it ?_) hs
  obtain ⟨hz, m0, step, fin⟩ := z
  refine ⟨fun i acc μ' => MI μ' ∧ acc.length = min i ds.length ∧ ∀ d, d ∈ acc → Pd d, ⟨m0, by simp, fun d h => nomatch h⟩, hz, ?_, ?_⟩
  · rintro i d acc μ' hd _ ⟨mi, hl, ha⟩
    intro E as H σ v Q R o k
    refine step d (List.mem_of_getElem? hd) _ _ mi E as H σ v Q R o fun σ' ρ' hw R' b => k σ' ρ' hw R' ?_
    have hi := (List.getElem?_eq_some_iff.mp hd).1
    refine ⟨fun _ s0 H0 C0 cl0 fp0 => (b s0 H0 C0 cl0 fp0).imp fun en μ3 ⟨d', μ4, q1, q2, q3, q4⟩ => ⟨d', μ4, q1, q2, q3, by simp; omega, fun x hx => ?_⟩, fun z => nomatch z⟩
    rcases List.mem_append.mp hx with z | z
    · exact ha x z
    · rw [List.mem_singleton.mp z]
      exact q4
  · rintro acc μ' ⟨mi, hl, ha⟩
    exact fin acc μ' (by omega) ha mi
end

/-! ### list + list, whatever lists they are -/
def rCatL (K : PySem.W.Frag) : R2 := fun x y H Q => ∃ (a b : Addr) (xs ys : List V), x = .ref a ∧ y = .ref b ∧ SqL K H a xs ∧ SqL K H b ys ∧ xs.length + ys.length ≤ sizeLine ∧ ∀ p, H p = none → Q (.ref p) (upd H p (.lst (xs ++ ys)))
theorem op_catL {X : Cx} : OpR X (binaryOp .Add) (rCatL X.K) := by
  intro pins s σ H x y v u Q I rx ry h
  obtain ⟨a, b, xs, ys, rfl, rfl, ha, hb, hz, q⟩ := h
  cases rx
  cases ry
  obtain ⟨its, r, ⟨⟨cls, dd, data, sl⟩, n, ho, hc, _, hd⟩, _⟩ := I.list ha
  obtain ⟨its2, r2, ⟨⟨cls2, dd2, data2, sl2⟩, n2, ho2, hc2, _, hd2⟩, _⟩ := I.list hb
  simp only at hc hd hc2 hd2
  subst hc hd hc2 hd2
  have l1 := r.length
  have l2 := r2.length
  refine PySem.concat_meets ⟨_, ho, rfl⟩ ⟨_, ho2, rfl⟩ PySem.noFill_list_add PySem.seq_list_add PySem.F.slot_list_add PySem.F.entry_list_add (PySem.F.args_list_add_2 _ _)
    (PyProof.Rows.list_addW a b its.toArray its2.toArray n n2 dd dd2 sl sl2 (by simp; omega)) ⟨ho, ho2, ?_⟩
  rw [show its.toArray ++ its2.toArray = (its ++ its2).toArray by simp]
  exact ⟨.ref _, _, I.lnew (t' := s.toks) (r.append r2) (by rw [List.length_append]; omega), rfl, q _ I.fresh⟩
theorem rv_catL {X : Cx} {e1 e2 : Ent} {μ : Mu} {P : Ent → Mu → Prop} (h : ∃ ds es', e1 = .d (.list ds) ∧ e2 = .d (.list es') ∧ ds.length + es'.length ≤ sizeLine ∧ P (.d (.list (ds ++ es'))) μ) : RV X (rCatL X.K) e1 e2 μ P := rv_cat h

/-! ### isinstance, divmod -/
def tyD : D → String
  | .none => "NoneType"
  | .bool _ => "bool"
  | .int _ => "int"
  | .str _ => "str"
  | .list _ => "list"
  | .tuple _ => "tuple"
  | .dict _ => "dict"
theorem tyx_of {K : PySem.W.Frag} {H : Hp} {v : V} {d : D} (h : Dp K H v d) : TyX K H v (.type (tyD d)) := by
  cases h with
  | non => exact .base .non
  | bl b => exact .base (.bl b)
  | int i => exact .base (.int i)
  | str x => exact .base (.str x)
  | lst hs _ =>
    rcases hs with (hs | ⟨o, hs⟩) | ⟨o, its, n, hk, hc, _⟩
    · exact .base (.lst hs)
    · exact .base (.frz hs)
    · exact .kList hk hc
  | tup hs _ =>
    rcases hs with (hs | ⟨o, hs⟩) | ⟨o, its, n, hk, hc, _⟩
    · exact .base (.tup hs)
    · exact .fTuple hs
    · exact .kTuple hk hc
theorem rc_isi {X : Cx} {ens : List Ent} {μ : Mu} {P : Ent → Mu → Prop} (b : Bool) (h : ∃ d n, ens = [.d d, .v (.ty n)] ∧ kitB (tyD d) n = some b ∧ P (.d (.bool b)) μ) : RC X (rIsi X.K) ens μ P := by
  intro E as H σ ρ vs Q R o q
  obtain ⟨d, n, rfl, hk, p⟩ := h
  obtain ⟨v, w, rfl, o1, o2⟩ := ents2 o
  have e : w = .ty n := o2
  subst e
  exact ⟨v, _, _, _, b, rfl, .ty n, tyx_of (dp_mono hide_same _ _ o1), kit_ty hk, q _ H _ μ (Kp.refl _ _) R (ok_d (Dp.bl _)) p⟩
theorem kb_ii : kitB "int" "int" = some true := by decide +kernel
theorem kb_ib : kitB "int" "bool" = some false := by decide +kernel
theorem kb_tt : kitB "tuple" "tuple" = some true := by decide +kernel
/-- divmod by a positive number of any size that C divides by itself -/
def CDivG (i j : Int) : Prop := 0 < j ∧ j.natAbs.log2 < 9000
theorem call_divmodG {X : Cx} : CallR X (.builtin "divmod") (fun xs H Q => ∃ i j, xs = [.int i, .int j] ∧ CDivG i j ∧ ∀ p, H p = none → Q (.ref p) (upd H p (.tup [.int (i / j), .int (i % j)]))) := by
  intro pins s σ H xs us Q I r h
  obtain ⟨i, j, rfl, hc, q⟩ := h
  exact call_divmodW pins s σ H _ us Q I r ⟨i, j, rfl, ⟨hc.1, PyProof.noPylong_of_log2 hc.2⟩, q⟩
theorem rc_divmodW {X : Cx} {ens : List Ent} {μ : Mu} {P : Ent → Mu → Prop} (h : ∃ i j, ens = [.d (.int i), .d (.int j)] ∧ CDivG i j ∧ P (.d (.tuple [.int (i / j), .int (i % j)])) μ) :
    RC X (fun xs H Q => ∃ i j, xs = [.int i, .int j] ∧ CDivG i j ∧ ∀ p, H p = none → Q (.ref p) (upd H p (.tup [.int (i / j), .int (i % j)]))) ens μ P := by
  intro E as H σ ρ vs Q R o q
  obtain ⟨i, j, rfl, hc, p⟩ := h
  obtain ⟨v, w, rfl, o1, o2⟩ := ents2 o
  cases dp_int o1
  cases dp_int o2
  exact ⟨i, j, rfl, hc, fun l hl => q _ _ _ μ (Kp.new hl) (R.lay hl) (ok_d <| .tup (.inl (.inl (hide_of (not_cell R.cells hl) upd_same))) (.cons (.int _) (.cons (.int _) .nil))) p⟩
theorem cdivG {i j : Int} (h : 0 < j) (hj : j.natAbs ≤ 10 ^ 200) : CDivG i j := ⟨h, Nat.lt_of_lt_of_le (log2_big hj) (by decide)⟩
/-! ### bounds of quotients, of products -/
theorem ediv_abs {x b : Int} {n : Nat} (hb : 0 < b) (h : x.natAbs ≤ n) : (x / b).natAbs ≤ n := by
  have h1 : x / b * b + x % b = x := Int.ediv_mul_add_emod x b
  have h2 : 0 ≤ x % b := Int.emod_nonneg x (by omega)
  have h3 : x % b < b := Int.emod_lt_of_pos x hb
  rcases Int.lt_or_le x 0 with hx | hx
  · have h4 : x / b < 0 := Int.ediv_neg_of_neg_of_pos hx hb
    have h5 : x ≤ x / b := by
      have h6 : (x / b + 1) * b > x := by
        rw [Int.add_mul, Int.one_mul]
        omega
      rcases Int.lt_or_le (x / b) x with z | z
      · have h7 : x / b + 1 ≤ x := by omega
        have h8 : (x / b + 1) * b ≤ x * b := Int.mul_le_mul_of_nonneg_right h7 (by omega)
        have h9 : x * b ≤ x * 1 := Int.mul_le_mul_of_nonpos_left (by omega) (by omega)
        omega
      · exact z
    omega
  · have h4 : 0 ≤ x / b := Int.ediv_nonneg hx (by omega)
    have h5 : x / b ≤ x := Int.ediv_le_self b hx
    omega
theorem mul_abs {x y : Int} {n m k : Nat} (hx : x.natAbs ≤ n) (hy : y.natAbs ≤ m) (hk : n * m ≤ k) : (x * y).natAbs ≤ k := by
  rw [Int.natAbs_mul]
  exact Nat.le_trans (Nat.mul_le_mul hx hy) hk
/-! ### lengths of displays -/
theorem lenS {ds : List D} {n : Nat} (h : ds.length = n) (h2 : n ≤ sizeLine) : ds.length ≤ sizeLine := by rw [h]; exact h2
theorem ltS {ds : List D} {n : Nat} (h : ds.length = n) (h2 : n < sizeLine) : ds.length < sizeLine := by rw [h]; exact h2
end Pw

/-! PwH: a def that may raise one own error, and the try around its call. -/
namespace Pw
open PySem PySem.Spec L2

section
variable {X : Cx} {a b c e tg : Expr} {es : List Expr} {st : Stmt} {sts s1 s2 : List Stmt} {pos p : Pos} {ρ : Slots} {μ : Mu} {Z Z' : Po} {W : WX} {cls : Value} {Rz : Mu → Prop}
/-- statements of which one may raise cls: then Rz holds -/
def DSx (X : Cx) (W : WX) (cls : Value) (Rz : Mu → Prop) (sts : List Stmt) (ρ : Slots) (μ : Mu) (Z : Po) : Prop :=
  ∀ (E : En) (as : As) (H : Hp) (σ : L2.St) (Dn : Ends), Rel X.K E H as σ ρ μ → EndsOk X.K E Z Dn → (∀ as H σ ρ μ, Rel X.K E H as σ ρ μ → Rz μ → W cls none σ H) → wSs X sts Dn σ H
theorem dsx_of (h : DSs X sts ρ μ Z) : DSx X W cls Rz sts ρ μ Z := fun E as H σ Dn R q _ => h E as H σ Dn R q
theorem dsx_cons (h : DS X st ρ μ { Z with nx := fun ρ' μ' => DSx X W cls Rz sts ρ' μ' Z }) : DSx X W cls Rz (st :: sts) ρ μ Z := by
  intro E as H σ Dn R q x
  refine of_pss (pss_cons ps_w pss_w) (h E as H σ _ R ⟨fun as' H' σ' ρ' μ' R' k => ?_, q.rt, q.bk, q.ct⟩)
  exact k E as' H' σ' Dn R' q x
theorem dsx_if (h : DT X c ρ μ fun k μ1 => (k = true → DSx X W cls Rz s1 ρ μ1 { Z with nx := fun ρ' μ' => DSx X W cls Rz sts ρ' μ' Z }) ∧ (k = false → DSx X W cls Rz s2 ρ μ1 { Z with nx := fun ρ' μ' => DSx X W cls Rz sts ρ' μ' Z })) : DSx X W cls Rz (.If c s1 s2 pos :: sts) ρ μ Z := by
  intro E as H σ Dn R q x
  refine of_pss (pss_cons (ps_if pt_w pss_w pss_w) pss_w) (h E as H σ _ R fun k H1 μ1 k1 R1 p1 => ?_)
  have fin : EndsOk X.K E { Z with nx := fun ρ' μ' => DSx X W cls Rz sts ρ' μ' Z } { Dn with nx := wSs X sts Dn } := ⟨fun as' H' σ' ρ' μ' R' k => k E as' H' σ' Dn R' q x, q.rt, q.bk, q.ct⟩
  cases k with
  | true => rw [if_pos rfl]; exact p1.1 rfl E as H1 σ _ R1 fin x
  | false => rw [if_neg Bool.false_ne_true]; exact p1.2 rfl E as H1 σ _ R1 fin x
theorem dsx_raise (hc : X.calm = true) (tk : Takes X W) (mk : PMk X e (fun _ H Q => Q cls none H)) (k : Rz μ) : DSx X W cls Rz (.Raise (some e) none pos :: sts) ρ μ Z := by
  intro E as H σ Dn R q x
  exact of_pss (pss_cons (ps_raise hc tk mk) pss_w) (x as H σ ρ μ R k)
/-- C(): an own error without own __init__ -/
theorem pmk_own0 {C : Addr} {bmB : List Value} {B newId initId : String} {x : Str} (F : ExcBaseFacts B newId initId bmB) (q : PySem.W.excIn X.K C bmB newId = true) (gC : X.mg x = some (.ref C)) (kC : PySem.W.keepIn X.K (.ref C) = true) (r : Raises X (.ref C)) (hg : Gl X x)
    (hdb : (x == ("__debug__" : Str)) = false := by decide) : PMk X (.Call (.Name x p) [] [] pos) (fun _ H Q => Q (.ref C) none H) := by
  intro pins s σ H Q I h
  refine wpAny_Call_Name_kw (ld_glob I hg gC ?_ hdb)
  refine PySem.W.callWith_K0 I.kIn kC ?_
  obtain ⟨bm, N, nm, qn, bs, hdct, sn, sub, ab, col, dd, k0, k1, k2, k3, k5, mN, hC, hN, hni, T⟩ := exc_obj I.kIn q
  exact wpAny_call_exc_subT F T hC hN hni (fun h' e hm => mk_of I hm r h (I.hok.gone hm.new)) (Nat.zero_le _)
end

/-! ### promises -/
/-- arguments, what is wanted of an answer, what a raise asks for; no cell goes in -/
abbrev SpX := List Ent → (Ent → Prop) → Prop → Prop
def liftX (K : PySem.W.Frag) (cls : Value) (sp : SpX) : Sp := fun vs H Q E => ∃ (hid : As) (es : List Ent) (P : Ent → Prop) (R : Prop), Cells K H hid (opqs H hid) ∧ EntsOk K (hide H hid) [] vs es ∧ sp es P R ∧
  (∀ en, P en → ∀ v H', Same H H' → Cells K H' hid (opqs H hid) → EntOk K (hide H' hid) [] v en → Q v H') ∧ (R → ∀ H', Same H H' → Cells K H' hid (opqs H hid) → E cls none H')
section
variable {P : Program} {w : World} {K : PySem.W.Frag} {mg : Str → Option Value} {base : Heap}
/-- the context of such a body -/
abbrev mkY (X0 : Cx) (env0 : PySem.Env) (N : List Str) (sc : Scope) : Cx := { X0 with N := N, env := { env0 with scope := sc }, calm := true, fn := fun _ => true }
theorem cal_ofX {x : Str} {st : Stmt} {N ps : List Str} {k : Nat} {sp : SpX} {cls : Value} (T : Top1 K mg x st ps) (S : FnScope N ps (defScope st)) (len : ∀ es Q R, sp es Q R → es.length = ps.length)
    (hbody : ∀ (f : Addr) (cdv : Value) (A : Around) (outer : List PySem.Env) (s : Shared) (H : Hp) (E : XK),
      Bx (mkY (cxOf (L2.CX P w) P w K mg base N x (defScope st) f cdv A outer s H E) (PyProof.Rows.envOfC x (defScope st) s.heap.objs.size f cdv) N (defScope st)) k →
      Takes (mkY (cxOf (L2.CX P w) P w K mg base N x (defScope st) f cdv A outer s H E) (PyProof.Rows.envOfC x (defScope st) s.heap.objs.size f cdv) N (defScope st)) (fun cls d _ H => E cls d H) → ∀ (es : List Ent) (μh : Mu) (Q : Ent → Prop) (R : Prop), sp es Q R →
      DSx (mkY (cxOf (L2.CX P w) P w K mg base N x (defScope st) f cdv A outer s H E) (PyProof.Rows.envOfC x (defScope st) s.heap.objs.size f cdv) N (defScope st)) (fun cls d _ H => E cls d H) cls (RetP 0 μh (fun _ _ => R) (.d .none)) (defBody st) (slots0 N es) μh (Zof 0 μh fun en _ => Q en)) :
    Cal P w K mg base (L2.CX P w) x (k + 1) (liftX K cls sp) := by
  obtain ⟨f, fd, F, hm, hb⟩ := T
  refine ⟨f, fd, ps, hm, F.kp, hb, fnG_of F S ?_ ?_⟩
  · rintro vs H Q E ⟨hid, es, P0, R, _, he, hs, _⟩
    rw [ents_len he]
    exact len _ _ _ hs
  · rintro cdv A outer s H vs Q E hr hg ⟨hid, es, P0, Rr, cs, he, hs, hq, hR⟩
    have B : Bx (mkY (cxOf (L2.CX P w) P w K mg base N x (defScope st) f cdv A outer s H E) (PyProof.Rows.envOfC x (defScope st) s.heap.objs.size f cdv) N (defScope st)) k := ⟨hg, hr⟩
    have tk : Takes (mkY (cxOf (L2.CX P w) P w K mg base N x (defScope st) f cdv A outer s H E) (PyProof.Rows.envOfC x (defScope st) s.heap.objs.size f cdv) N (defScope st)) (fun cls d _ H => E cls d H) := takes_of rfl rfl rfl rfl
    have body := hbody f cdv A outer s H E B tk es (opqs H hid) P0 Rr hs
    have vl := ents_len he
    have c0 : ∀ a, some a ∈ hid → ∃ o, H a = some o := fun a ha => cells_there cs ha
    have kp : ∀ {H' : Hp}, Kp [] H H' → Same H H' := fun k b o hb => k b o (by simp) hb
    refine body ⟨[] ++ hid, H, hide H ([] ++ hid)⟩ hid H (L2.start N vs) _ ⟨cs, ?_, fun i en e => ?_, List.prefix_refl _, Kp.refl _ _, fun i a h1 h2 => ?_, Same.refl _⟩ ⟨fun as' H' σ ρ μ' R z => ?_, fun as' H' σ ρ μ' v en R o z => ?_, fun _ _ _ _ _ _ z => z.elim, fun _ _ _ _ _ _ z => z.elim⟩ fun as' H' σ ρ μ' R z => ?_
    · unfold L2.start slots0
      simp [vl]
    · have hi : i < es.length := by
        rcases Nat.lt_or_ge i es.length with h | h
        · exact h
        · unfold slots0 at e
          rw [List.getElem?_append_right (by simpa using h), List.getElem?_replicate] at e
          split at e <;> cases e
      have e' : es[i]? = some en := by
        unfold slots0 at e
        rw [List.getElem?_append_left (by simpa using hi), List.getElem?_map] at e
        cases q : es[i]? with
        | none => rw [q] at e; cases e
        | some y =>
          rw [q] at e
          cases e
          rfl
      obtain ⟨v, q1, q2⟩ := ents_get he e'
      refine ⟨v, ?_, ?_⟩
      · unfold L2.start
        rw [List.getElem?_append_left (by simpa [vl] using hi), List.getElem?_map, q1]
        rfl
      · cases en with
        | d y => exact q2
        | c n =>
          obtain ⟨a, ha, hv⟩ := q2
          simp at ha
        | v y => exact q2
    · have l2 := (List.getElem?_eq_some_iff.mp h2).1
      have l3 : ([] ++ hid).length ≤ i := h1
      exact absurd l2 (Nat.not_lt.mpr l3)
    · obtain ⟨μ1, loc, e, l1, _, p⟩ := z
      obtain ⟨z1, z2, z3⟩ := exit_ok (as := []) (v := .non) (x := .none) rfl rfl R e l1.symm c0
      have e0 : μ1 = [] := List.length_eq_zero_iff.mp l1
      subst e0
      exact hq (.d .none) p .non H' (kp z1) z2 .non
    · obtain ⟨μ1, loc, e, l1, pl, p⟩ := z
      have e0 : μ1 = [] := List.length_eq_zero_iff.mp l1
      subst e0
      cases en with
      | d y =>
        obtain ⟨z1, z2, z3⟩ := exit_ok (as := []) (v := v) (x := y) rfl rfl R e rfl c0
        exact hq (.d y) p v H' (kp z1) z2 (z3 o)
      | c n => cases pl
      | v y =>
        obtain ⟨z1, z2, z3⟩ := exit_ok (as := []) (v := .non) (x := .none) rfl rfl R e rfl c0
        exact hq (.v y) p v H' (kp z1) z2 o
    · obtain ⟨μ1, loc, e, l1, _, p⟩ := z
      have e0 : μ1 = [] := List.length_eq_zero_iff.mp l1
      subst e0
      obtain ⟨z1, z2, z3⟩ := exit_ok (as := []) (v := .non) (x := .none) rfl rfl R e rfl c0
      exact hR p H' (kp z1) z2
end

/-! ### calls -/
section
variable {X : Cx} {a e : Expr} {es : List Expr} {pos p : Pos} {ρ : Slots} {μ : Mu} {P : Ent → Mu → Prop} {cls : Value}
abbrev CalXX (X : Cx) (cls : Value) (x : Str) (k : Nat) (sp : SpX) : Prop := Cal X.prog X.w X.K X.mg X.base (L2.CX X.prog X.w) x k (liftX X.K cls sp)
/-- f(..) that raises nothing here -/
theorem de_callX {x : Str} {k j : Nat} {sp : SpX} (B : Bx X k) (C : CalXX X cls x j sp) (hj : j ≤ k) (g : Gb X x) (h : DA X (a :: es) ρ μ fun ens μ1 => ens.all Ent.plain = true ∧ sp ens (fun en => en.plain = true ∧ P en μ1) False)
    (he : starEach (a :: es) X.env = (false, eval a X.env) :: starEach es X.env := by rfl) (hpl : (backTo pos (starEach es X.env)).any (·.1) = false := by rfl) : DE X (.Call (.Name x p) (a :: es) [] pos) ρ μ P := by
  intro E as H σ Q R q
  obtain ⟨f, fd, ps, hm, hk, hb, F⟩ := C
  intro pins s I
  refine wpAny_Call_Name_kw (ld_glob I g.gl hm ?_ g.db)
  have args : wA X (a :: es) σ H fun vs H1 => liftX X.K cls sp vs H1 Q (fun _ _ _ => False) := h E as H σ _ R fun vs H1 ens μ1 k1 R1 o1 p1 => by
    obtain ⟨pl, hs⟩ := p1
    refine ⟨as, ens, fun en => en.plain = true ∧ P en μ1, False, cells_opq R1.cells, o1.plain pl, hs, ?_, fun z => z.elim⟩
    intro en z v H' sm c2 o2
    exact q v H' en μ1 (k1.trans (kp_of sm)) (R1.same sm) (EntOk.plain z.1 o2) z.2
  refine PySem.W.callWith_K (h₀ := X.base) I.ok.mod.kin hk (thn (args pos pins s I) fun us s1 ⟨vs, H1, I1, r, q1⟩ => ⟨I1.kIn, ?_⟩) he hpl
  exact run_g (E := fun _ _ _ => False) (F.mono hj) B.hr B.gd hb (fun _ _ _ _ _ _ _ ⟨_, _, _, _, _, _, _, _, _, _, _, _, z⟩ => z.elim) I1 r q1
theorem run_gS {CX : CXT} {k : Nat} {f : Addr} {fd : FuncData} {ps : List Str} {sp : Sp} {E : XK} {pins : List (Addr × Obj)} {σ : L2.St} {H : Hp} {s : Shared} {Q : VK} {us : List Value} {vs : List V}
    (F : FnG X.prog X.w X.K X.mg X.base CX k f fd ps sp) (hr : Room k X.A) (hgd : X.A.guards = some []) (hb : Binds X.K fd ps []) (hx : PassesAt CX X σ E)
    (I : Inv X pins σ H s) (r : Vals vs us) (h : sp vs H Q E) : wpAny (model X.prog X.w) X.A (call (.ref f) us) (EP X pins σ Q) X.xe s := by
  have hl : (us ++ ([] : List Value)).length = ps.length := by
    rw [List.append_nil, ← r.length]
    exact F.len _ _ _ _ h
  have bd := hb s us I.kIn hl
  rw [List.append_nil] at bd
  refine wpAny_call (codeAny_mono (F.run X.A X.stack s H ⟨us, []⟩ us vs Q E hr hgd I.env0 bd r h) fun res s' hq => ?_)
  cases res with
  | error e =>
    have hq' : CX X.stack H s E e s' := hq
    exact hx pins H s e s' I hq'
  | ok fl =>
    cases fl with
    | ret u =>
      have hq' : CE X.stack X.prog X.w H s Q u s' := hq
      exact I.after hq'
    | next => exact hq.elim
    | brk => exact hq.elim
    | cont => exact hq.elim
theorem Nm.tr {vi : List Nat} {pn : List (Addr × Obj)} {xe : Value → Shared → Prop} (h : Nm X vi) : Nm (X.tr pn xe) vi := ⟨h.vis⟩
theorem Gb.tr {x : Str} {pn : List (Addr × Obj)} {xe : Value → Shared → Prop} (h : Gb X x) : Gb (X.tr pn xe) x := ⟨h.gl, h.nn, h.db⟩
/-- try: return f(..) except C: suite -/
theorem ds_tryRet {x xc : Str} {k j : Nat} {sp : SpX} {b₀ : Stmt} {suite : List Stmt} {np pos' rp : Pos} {Z : Po} (hs : X.stack = X.env :: X.outer) (hf : X.env.frame = some X.env.locals) (hc : Names X xc cls) (hex : PySem.W.exmOne X.K cls cls = some true)
    (B : Bx X k) (C : CalXX X cls x j sp) (hj : j ≤ k) (g : Gb X x)
    (h : ∀ pn xe, DA (X.tr pn xe) (a :: es) ρ μ fun ens μ1 => ens.all Ent.plain = true ∧ sp ens (fun en => en.plain = true ∧ Z.rt en μ1) (∀ (a : Addr) (oe : Obj) (pn : List (Addr × Obj)), DSs (X.suite a ((a, oe) :: pn)) (b₀ :: suite) ρ μ1 Z))
    (he : starEach (a :: es) X.env = (false, eval a X.env) :: starEach es X.env := by rfl) (hpl : (backTo p (starEach es X.env)).any (·.1) = false := by rfl) :
    DS X (.Try [.Return (some (.Call (.Name x np) (a :: es) [] p)) rp] [.ExceptHandler (some (.Name xc np')) none (b₀ :: suite) pos'] [] [] pos) ρ μ Z := by
  intro E as H σ Dn R q
  let tb : WX → TS := fun W D σ H => ∀ (pn : List (Addr × Obj)) (xe : Value → Shared → Prop), Takes (X.tr pn xe) W → PassesOwn (model X.prog X.w) X.A X.env xe → wSs (X.tr pn xe) [.Return (some (.Call (.Name x np) (a :: es) [] p)) rp] D σ H
  let ts : Addr → Value → Option Addr → TS := fun a _ _ D σ H => ∀ (oe : Obj) (pn : List (Addr × Obj)), wSs (X.suite a ((a, oe) :: pn)) (b₀ :: suite) D σ H
  refine of_ps (ps_try_only (tb := tb) (ts := ts) (Wout := fun _ _ _ _ => False) hs hf hc (fun u s' ⟨_, _, _, _, _, _, _, _, _, _, _, _, _, _, _, _, z⟩ => z.elim) (fun W pn xe tk po => ⟨fun pins s σ H D I hw => hw pn xe tk po pins s I⟩) (fun a oe cls d pn _ _ => ⟨fun pins s σ H D I hw => hw oe pn pins s I⟩)) ?_
  intro pn xe tk po
  refine of_pss (pss_one (ps_ret pe_w)) ?_
  obtain ⟨f, fd, ps, hm, hk, hb, F⟩ := C
  intro pins s I
  have g' : Gb (X.tr pn xe) x := g.tr
  refine wpAny_Call_Name_kw (ld_glob I g'.gl hm ?_ g'.db)
  have args : wA (X.tr pn xe) (a :: es) σ H fun vs H1 => liftX X.K cls sp vs H1 Dn.rt (fun c d H' => wOnly X.K cls ts (fun _ _ _ _ => False) Dn c d σ H') := h pn xe E as H σ _ R fun vs H1 ens μ1 k1 R1 o1 p1 => by
    obtain ⟨pl, hs⟩ := p1
    refine ⟨as, ens, _, _, cells_opq R1.cells, o1.plain pl, hs, ?_, ?_⟩
    · intro en z v H' sm c2 o2
      exact q.rt as H' σ ρ μ1 v en (R1.same sm) (EntOk.plain z.1 o2) z.2
    · intro z H' sm c2
      exact ⟨true, hex, fun _ a0 _ oe pn' => z a0 oe pn' E as H' σ Dn (R1.same sm) ⟨q.nx, q.rt, q.bk, q.ct⟩, fun y => nomatch y⟩
  refine PySem.W.callWith_K (h₀ := X.base) I.ok.mod.kin hk (thn (args p pins s I) fun us s1 ⟨vs, H1, I1, r, q1⟩ => ⟨I1.kIn, ?_⟩) he hpl
  exact run_gS (X := X.tr pn xe) (σ := σ) (F.mono hj) B.hr B.gd hb (passAt tk σ) I1 r q1
end
theorem rv_ic2 {X : Cx} {e1 e2 : Ent} {μ : Mu} {P : Ent → Mu → Prop} {C : Int → Int → Prop} {f : Int → Int → Int} (n : Int) (h : ∃ i j, e1 = .d (.int i) ∧ e2 = .d (.int j) ∧ C i j ∧ f i j = n ∧ P (.d (.int n)) μ) : RV X (rI C fun i j => .int (f i j)) e1 e2 μ P := by
  obtain ⟨i, j, a, b, c, rfl, p⟩ := h
  exact rv_ic ⟨i, j, a, b, c, p⟩
end Pw

/-! PwI: a fresh list handed back and kept as a cell; slices; comprehensions that draw. -/
namespace Pw
open PySem PySem.Spec L2

section
variable {X : Cx} {a b c e tg iter elt lo' hi' : Expr} {es : List Expr} {st : Stmt} {sts : List Stmt} {pos p p2 : Pos} {ρ : Slots} {μ : Mu} {P : Ent → Mu → Prop} {scope : Scope}
/-- xs[:n] -/
theorem de_sliceTo (h : DE X e ρ μ fun en μ1 => DE X hi' ρ μ1 fun eh μ2 => ∃ ds n, en = .d (.list ds) ∧ eh = .d (.int n) ∧ 0 ≤ n ∧ P (.d (.list (ds.take n.toNat))) μ2) (hcut : ∀ (xs : List V) (n : Int), 0 ≤ n → cutV xs none (some n) = xs.take n.toNat) :
    DE X (.Subscript e (.Slice none (some hi') none p2) pos) ρ μ P := by
  intro E as H σ Q R q
  refine of_pe (pe_slice sl_list pe_w po_none (po_some pe_w)) (h E as H σ _ R fun v1 H1 e1 μ1 k1 R1 o1 p1 => ?_)
  refine p1 E as H1 σ _ R1 fun v2 H2 e2 μ2 k2 R2 o2 p2 => ?_
  obtain ⟨ds, n, rfl, rfl, hn, z⟩ := p2
  cases dp_int o2
  have o1' : EntOk X.K (hide H2 as) as v1 (.d (.list ds)) := o1.mono k2.view
  obtain ⟨a, xs, rfl, hs, ha⟩ := dp_lst o1'
  refine ⟨n, rfl, a, xs, rfl, Same.seq hide_same hs, fun l hl => ?_⟩
  rw [hcut _ _ hn]
  exact q _ _ _ μ2 ((k1.trans k2).trans (Kp.new hl)) (R2.lay hl) (ok_d <| .lst (.inl (.inl (hide_of (not_cell R2.cells hl) upd_same))) (dpa_mono (Kp.new hl).view _ _ (ha.take _))) z
/-- statements that end in handing back a new list -/
def DSr (X : Cx) (sts : List Stmt) (ρ : Slots) (μ : Mu) (PL : List D → Mu → Prop) : Prop :=
  ∀ (E : En) (as : As) (H : Hp) (σ : L2.St) (Dn : Ends), Rel X.K E H as σ ρ μ →
    (∀ H1 as' σ' ρ' μ' q xs l, Rel X.K E H1 as' σ' ρ' μ' → H1 q = none → DpAll X.K (hide H1 as') xs l → PL l μ' → Dn.rt (.ref q) (upd H1 q (.lst xs))) → wSs X sts Dn σ H
theorem dsr_cons {PL : List D → Mu → Prop} (h : DS X st ρ μ { nx := fun ρ' μ' => DSr X sts ρ' μ' PL, rt := fun _ _ => False }) : DSr X (st :: sts) ρ μ PL := by
  intro E as H σ Dn R q
  exact of_pss (pss_cons ps_w pss_w) (h E as H σ _ R ⟨fun as' H' σ' ρ' μ' R' k => k E as' H' σ' Dn R' q, fun _ _ _ _ _ _ _ _ _ z => z.elim, fun _ _ _ _ _ _ z => z.elim, fun _ _ _ _ _ _ z => z.elim⟩)
theorem dsr_ret {PL : List D → Mu → Prop} {lp : Pos} (h : DA X es ρ μ fun ens μ1 => ∃ ds, ens = ds.map .d ∧ ds.length ≤ sizeLine ∧ PL ds μ1) : DSr X [.Return (some (.List es lp)) pos] ρ μ PL := by
  intro E as H σ Dn R q
  refine of_pss (pss_one (ps_ret (pe_lst pa_w))) (h E as H σ _ R fun vs H1 ens μ1 k1 R1 o1 p1 => ?_)
  obtain ⟨ds, rfl, hl, z⟩ := p1
  have da := ents_data o1
  exact ⟨by rw [da.length]; exact hl, fun p' hp => q H1 as σ ρ μ1 p' vs ds R1 hp da z⟩
end

abbrev SpH := List D → (List D → Prop) → Prop
def liftF (K : PySem.W.Frag) (sp : SpH) : Sp := fun vs H Q _ => ∃ (hid : As) (ds : List D) (P : List D → Prop), Cells K H hid (opqs H hid) ∧ DpAll K (hide H hid) vs ds ∧ sp ds P ∧
  ∀ l, P l → ∀ q H1 xs, Same H H1 → Cells K H1 hid (opqs H hid) → H1 q = none → DpAll K (hide H1 hid) xs l → Q (.ref q) (upd H1 q (.lst xs))
theorem ents_of {K : PySem.W.Frag} {F : Hp} {as : As} : ∀ {vs : List V} {ds : List D}, DpAll K F vs ds → EntsOk K F as vs (ds.map .d)
  | _, [], h => by cases h; exact .nil
  | _, d :: ds, h => by
    cases h with
    | cons h1 h2 => exact .cons h1 (ents_of h2)
section
variable {P : Program} {w : World} {K : PySem.W.Frag} {mg : Str → Option Value} {base : Heap}
theorem cal_ofF {x : Str} {st : Stmt} {N ps : List Str} {k : Nat} {sp : SpH} (T : Top1 K mg x st ps) (S : FnScope N ps (defScope st)) (len : ∀ ds Q, sp ds Q → ds.length = ps.length)
    (hbody : ∀ (f : Addr) (cdv : Value) (A : Around) (outer : List PySem.Env) (s : Shared) (H : Hp) (E : XK),
      Bx (mkX (cxOf CX0 P w K mg base N x (defScope st) f cdv A outer s H E) (PyProof.Rows.envOfC x (defScope st) s.heap.objs.size f cdv) N (defScope st)) k → ∀ (ds : List D) (μh : Mu) (Q : List D → Prop), sp ds Q →
      DSr (mkX (cxOf CX0 P w K mg base N x (defScope st) f cdv A outer s H E) (PyProof.Rows.envOfC x (defScope st) s.heap.objs.size f cdv) N (defScope st)) (defBody st) (slots0 N (ds.map .d)) μh (fun l μ' => (∃ loc, μ' = ([] ++ μh) ++ loc) ∧ Q l)) :
    Cal P w K mg base CX0 x (k + 1) (liftF K sp) := by
  obtain ⟨f, fd, F, hm, hb⟩ := T
  refine ⟨f, fd, ps, hm, F.kp, hb, fnG_of F S ?_ ?_⟩
  · rintro vs H Q E ⟨hid, ds, P0, _, he, hs, _⟩
    rw [he.length]
    exact len _ _ hs
  · rintro cdv A outer s H vs Q E hr hg ⟨hid, ds, P0, cs, hd, hs, hq⟩
    have B : Bx (mkX (cxOf CX0 P w K mg base N x (defScope st) f cdv A outer s H E) (PyProof.Rows.envOfC x (defScope st) s.heap.objs.size f cdv) N (defScope st)) k := ⟨hg, hr⟩
    have body := hbody f cdv A outer s H E B ds (opqs H hid) P0 hs
    refine of_pss (PSs.nox pss_w) ?_
    have he : EntsOk K (hide H hid) [] vs (ds.map .d) := ents_of hd
    have vl := ents_len he
    have c0 : ∀ a, some a ∈ hid → ∃ o, H a = some o := fun a ha => cells_there cs ha
    refine body ⟨[] ++ hid, H, hide H ([] ++ hid)⟩ hid H (L2.start N vs) _ ⟨cs, ?_, fun i en e => ?_, List.prefix_refl _, Kp.refl _ _, fun i a h1 h2 => ?_, Same.refl _⟩ fun H1 as' σ' ρ' μ' q xs l R hq1 hx z => ?_
    · unfold L2.start slots0
      simp [vl]
    · have hi : i < (ds.map Ent.d).length := by
        rcases Nat.lt_or_ge i (ds.map Ent.d).length with h | h
        · exact h
        · unfold slots0 at e
          rw [List.getElem?_append_right (by simpa using h), List.getElem?_replicate] at e
          split at e <;> cases e
      have e' : (ds.map Ent.d)[i]? = some en := by
        unfold slots0 at e
        rw [List.getElem?_append_left (by simpa using hi), List.getElem?_map] at e
        cases q : (ds.map Ent.d)[i]? with
        | none => rw [q] at e; cases e
        | some y =>
          rw [q] at e
          cases e
          rfl
      obtain ⟨v, q1, q2⟩ := ents_get he e'
      refine ⟨v, ?_, ?_⟩
      · unfold L2.start
        rw [List.getElem?_append_left (by rw [List.length_map, vl]; exact hi), List.getElem?_map, q1]
        rfl
      · cases en with
        | d y => exact q2
        | c n =>
          obtain ⟨a, ha, hv⟩ := q2
          simp at ha
        | v y => exact q2
    · have l2 := (List.getElem?_eq_some_iff.mp h2).1
      have l3 : ([] ++ hid).length ≤ i := h1
      exact absurd l2 (Nat.not_lt.mpr l3)
    · obtain ⟨⟨loc, e⟩, z⟩ := z
      obtain ⟨z1, z2, _⟩ := exit_ok (as := []) (v := .non) (x := .none) rfl rfl R e rfl c0
      have sm : Same H H1 := fun b o hb => z1 b o (by simp) hb
      have vw : Same (hide H1 as') (hide H1 hid) := fun b o e => by
        obtain ⟨n, e⟩ := of_hide e
        obtain ⟨t, ht⟩ := R.ent
        exact hide_of (fun hm => n (by rw [← ht]; exact List.mem_append_left _ hm)) e
      exact hq l z q H1 xs sm z2 hq1 (dpa_mono vw _ _ hx)
end

section
variable {X : Cx} {a e tg iter elt : Expr} {es : List Expr} {pos p : Pos} {ρ : Slots} {μ : Mu} {P : Ent → Mu → Prop} {scope : Scope}
/-- hand = f(..): the new list becomes a cell -/
theorem ds_setHand {Z : Po} {x y : Str} {i k j : Nat} {li : List Nat} {sp : SpH} {py spos : Pos} (L : Lc X li) (hN : X.N[i]? = some y) (hi : i ∈ li) (B : Bx X k) (C : Cal X.prog X.w X.K X.mg X.base CX0 x j (liftF X.K sp)) (hj : j ≤ k) (g : Gb X x)
    (h : DA X (a :: es) ρ μ fun ens μ1 => ∃ ds, ens = ds.map .d ∧ sp ds fun l => Z.nx (ρ.set i (some (.c μ1.length))) (μ1 ++ [.lst l]))
    (hs : swapsWith (.Call (.Name x p) (a :: es) [] pos) (some (.Name y py)) spos.line X.env = pure false := by rfl)
    (he : starEach (a :: es) X.env = (false, eval a X.env) :: starEach es X.env := by rfl) (hpl : (backTo pos (starEach es X.env)).any (·.1) = false := by rfl) : DS X (.Assign [.Name y py] (.Call (.Name x p) (a :: es) [] pos) spos) ρ μ Z := by
  intro E as H σ Dn R q
  obtain ⟨l1, l2⟩ := L.loc i hi y hN
  refine of_ps (ps_set L.nd hN l1 pe_w hs l2) ?_
  obtain ⟨f, fd, ps, hm, hk, hb, F⟩ := C
  intro pins s I
  refine wpAny_Call_Name_kw (ld_glob I g.gl hm ?_ g.db)
  have args : wA X (a :: es) σ H fun vs H1 => liftF X.K sp vs H1 (fun v H2 => Dn.nx (σ.set i (some v)) H2) E0 := h E as H σ _ R fun vs H1 ens μ1 k1 R1 o1 p1 => by
    obtain ⟨ds, rfl, hs⟩ := p1
    refine ⟨as, ds, _, cells_opq R1.cells, ents_data o1, hs, ?_⟩
    intro l z c H2 xs sm c2 hc hx
    have R2 := R1.same sm
    have R3 := R2.grow hc hx
    have la : μ1.length = as.length := R1.cells.len.symm
    refine q.nx _ _ _ _ _ (R3.set (i := i) (v := .ref c) (en := .c μ1.length) ⟨c, ?_, rfl⟩) z
    rw [la]
    simp
  refine PySem.W.callWith_K (h₀ := X.base) I.ok.mod.kin hk (thn (args pos pins s I) fun us s1 ⟨vs, H1, I1, r, q1⟩ => ⟨I1.kIn, ?_⟩) he hpl
  exact run_g (E := E0) (F.mono hj) B.hr B.gd hb pass0 I1 r q1
theorem de_lcHandI {own : List (Str × Nat)} {g : TG} (MI : Nat → Mu → Prop) (Pd : D → Prop) (hc : X.calm = true) (hN : X.N.Nodup) (ok : BlkOk X.N X.env.scope scope own)
    (hg : ∀ (s : Shared) (H : Hp) (C : Addr) (cl : List (Str × Addr)) (fp : List Addr), PG (X.blk s H scope (compEnvC scope cl C X.env) fp) tg g)
    (h : DI X tg iter ρ μ fun ds μ1 => ds.length < sizeLine ∧ MI 0 μ1 ∧ (∀ i d, ds[i]? = some d → ∀ acc μ', MI i μ' → DGc X.K g (own.map (·.2)) d (wipeD ρ (own.map (·.2))) (μ' ++ [.lst acc]) fun ρ2 => Blk X scope fun Y => DE Y elt ρ2 (μ' ++ [.lst acc]) fun en μ3 => ∃ d' μ4, en = .d d' ∧ μ3 = μ4 ++ [.lst acc] ∧ MI (i + 1) μ4 ∧ Pd d') ∧
      ∀ acc μ', acc.length = ds.length → (∀ d, d ∈ acc → Pd d) → MI ds.length μ' → P (.d (.list acc)) μ')
    (hs : ∀ x, foldedSetIterable iter X.env x = pure x := by intro _; rfl) : DE X (.ListComp elt [⟨tg, iter, [], 0⟩] scope pos) ρ μ P := by
  refine de_lc hc hN ok hg (fun E as H σ R' R q => h E as H σ R' R fun J H' ds μ1 k1 R1 it z => q J H' ds μ1 k1 R1 it ?_) hs
  obtain ⟨hz, m0, step, fin⟩ := z
  refine ⟨fun i acc μ' => MI i μ' ∧ acc.length = i ∧ ∀ d, d ∈ acc → Pd d, ⟨m0, by simp, fun d h => nomatch h⟩, hz, ?_, ?_⟩
  · rintro i d acc μ' hd _ ⟨mi, hl, ha⟩
    intro E as H σ v Q R o k
    refine step i d hd _ _ mi E as H σ v Q R o fun σ' ρ' hw R' b => k σ' ρ' hw R' ?_
    refine ⟨fun _ s0 H0 C0 cl0 fp0 => (b s0 H0 C0 cl0 fp0).imp fun en μ3 ⟨d', μ4, q1, q2, q3, q4⟩ => ⟨d', μ4, q1, q2, q3, by simp; omega, fun x hx => ?_⟩, fun z => nomatch z⟩
    rcases List.mem_append.mp hx with z | z
    · exact ha x z
    · rw [List.mem_singleton.mp z]
      exact q4
  · rintro acc μ' ⟨mi, hl, ha⟩
    exact fin acc μ' hl ha mi
theorem ds_setLcMap {Z : Po} {i : Nat} {x : Str} {py spos : Pos} {li : List Nat} {own : List (Str × Nat)} {g : TG} (f : D → D) (L : Lc X li) (hx : X.N[i]? = some x) (hl : X.env.scope.names.lookup x = some .local) (hc : X.calm = true) (ok : BlkOk X.N X.env.scope scope own)
    (hg : ∀ (s : Shared) (H : Hp) (C : Addr) (cl : List (Str × Addr)) (fp : List Addr), PG (X.blk s H scope (compEnvC scope cl C X.env) fp) tg g)
    (h : DI X tg iter ρ μ fun ds μ1 => ds.length < sizeLine ∧ (∀ d, d ∈ ds → ∀ acc, DGc X.K g (own.map (·.2)) d (wipeD ρ (own.map (·.2))) (μ1 ++ [.lst acc]) fun ρ2 => Blk X scope fun Y => DE Y elt ρ2 (μ1 ++ [.lst acc]) fun en μ3 => en = .d (f d) ∧ μ3 = μ1 ++ [.lst acc]) ∧ Z.nx (ρ.set i (some (.d (.list (ds.map f))))) μ1)
    (hsw : swapsWith (.ListComp elt [⟨tg, iter, [], 0⟩] scope pos) (some (.Name x py)) spos.line X.env = pure true) (hs : ∀ x, foldedSetIterable iter X.env x = pure x := by intro _; rfl) :
    DS X (.Assign [.Name x py] (.ListComp elt [⟨tg, iter, [], 0⟩] scope pos) spos) ρ μ Z := by
  refine ds_setLc L hx hl hc ok hg (fun E as H σ R' R q => h E as H σ R' R fun J H' ds μ1 k1 R1 it z => q J H' ds μ1 k1 R1 it ?_) hsw hs
  obtain ⟨hz, step, fin⟩ := z
  refine ⟨fun i acc μ' => μ' = μ1 ∧ acc = (ds.take i).map f, ⟨rfl, by simp⟩, hz, ?_, ?_⟩
  · rintro i d acc μ' hd _ ⟨rfl, rfl⟩
    intro E as H σ v Q R o k
    refine step d (List.mem_of_getElem? hd) _ E as H σ v Q R o fun σ' ρ' hw R' b => k σ' ρ' hw R' ?_
    refine ⟨fun _ s0 H0 C0 cl0 fp0 => (b s0 H0 C0 cl0 fp0).imp fun en μ3 ⟨q1, q2⟩ => ⟨_, _, q1, q2, rfl, ?_⟩, fun z => nomatch z⟩
    obtain ⟨hi, hg⟩ := List.getElem?_eq_some_iff.mp hd
    rw [List.take_succ_eq_append_getElem hi, List.map_append, hg]
    rfl
  · rintro acc μ' ⟨rfl, rfl⟩
    rw [List.take_length]
    exact fin
theorem cutV_to (xs : List V) (n : Int) (h : 0 ≤ n) : cutV xs none (some n) = xs.take n.toNat := by
  obtain ⟨k, rfl⟩ : ∃ k : Nat, n = k := ⟨n.toNat, by omega⟩
  unfold cutV
  rw [HT.sIx_none, HT.sIx_nat, List.drop_zero, Nat.sub_zero, Int.toNat_natCast, ← List.take_eq_take_min]
end
end Pw

/-! K07D: what the defs of k07 speak of. -/
namespace K07
open PySem PySem.Spec L2 Pw
abbrev topS (j : Nat) : Stmt := PySem.Challenge.pw_onewayrings_k07_whole_great_dials_over_o.main.body.getD j (.Pass ⟨0, 0, 0, 0⟩)
abbrev fl (a b c : Int) : D := .tuple [.int a, .int b, .int c]
abbrev pr (x y : Int) : D := .tuple [.int x, .int y]
abbrev IsF (a b c : Int) : Prop := 2 ≤ a ∧ a ≤ 10 ^ 15 ∧ 1 ≤ b ∧ b ≤ 10 ^ 15 ∧ 0 ≤ c ∧ c < a ∧ (b = 1 → 2 ≤ c)
abbrev Bd (x : Int) : Prop := -(10 ^ 40) ≤ x ∧ x ≤ 10 ^ 40
abbrev FB (a b c : Int) : Prop := 0 < a ∧ a ≤ 10 ^ 40 ∧ 0 < b ∧ b ≤ 10 ^ 40 ∧ Bd c
def Clo (a b c p s : Int) : Prop := s % b = 0 ∧ (p + s / b * c) % a = 0
abbrev IsV (p s : Int) : Prop := -(10 ^ 30) ≤ p ∧ p ≤ 10 ^ 30 ∧ -(10 ^ 30) ≤ s ∧ s ≤ 10 ^ 30
def Over (a b c a' b' c' : Int) : Prop := Clo a' b' c' a 0 ∧ Clo a' b' c' (-c) b
/-- the least x with t x and r alike by m, or none -/
def LeastSol (t r m : Int) (d : D) : Prop := (¬ ((Int.gcd t m : Int) ∣ r) ∧ d = .none) ∨ ((Int.gcd t m : Int) ∣ r ∧ ∃ x, d = .int x ∧ 0 ≤ x ∧ x < m / Int.gcd t m ∧ m ∣ t * x - r)
theorem isF_FB {a b c : Int} (h : IsF a b c) : FB a b c := by
  unfold IsF at h
  unfold FB Bd
  omega
def IsFd (d : D) : Prop := ∃ a b c, d = fl a b c ∧ IsF a b c
def TupD (d : D) (lo hi : Int) : Prop := ∃ ds, d = .tuple ds ∧ lo ≤ (ds.length : Int) ∧ (ds.length : Int) ≤ hi
theorem isFd_fl {a b c : Int} : IsFd (fl a b c) ↔ IsF a b c := ⟨fun ⟨_, _, _, e, h⟩ => by
  cases e
  exact h, fun h => ⟨_, _, _, rfl, h⟩⟩
theorem tupD_tup {ds : List D} {lo hi : Int} : TupD (.tuple ds) lo hi ↔ lo ≤ (ds.length : Int) ∧ (ds.length : Int) ≤ hi := ⟨fun ⟨_, e, h⟩ => by
  cases e
  exact h, fun h => ⟨_, rfl, h⟩⟩
theorem tupD_non {lo hi : Int} : ¬ TupD .none lo hi := fun ⟨_, e, _⟩ => by cases e
theorem isFd_non : ¬ IsFd .none := fun ⟨_, _, _, e, _⟩ => by cases e
theorem tupD_rfl {ds : List D} {n : Int} (h : (ds.length : Int) = n) : TupD (.tuple ds) n n := ⟨ds, rfl, by omega, by omega⟩
/-- a Bool told by what it says -/
theorem bf {r : Bool} {p : Prop} (h : r = true ↔ p) : r = false ↔ ¬ p := by
  cases r <;> simp_all
theorem kb_nt : kitB "NoneType" "tuple" = some false := by decide +kernel
def vecF : D → D
  | .int x => .bool (decide (-(10 ^ 30) ≤ x ∧ x ≤ 10 ^ 30))
  | _ => .none
theorem vec1 {r : Bool} {x : Int} (h : r = true ↔ -(10 ^ 30) ≤ x ∧ x ≤ 10 ^ 30) : Ent.d (.bool r) = .d (vecF (.int x)) := by
  have e : r = decide (-(10 ^ 30) ≤ x ∧ x ≤ 10 ^ 30) := by
    rw [Bool.eq_iff_iff, h]
    simp
  rw [e]
  rfl
open Classical in
noncomputable def ovF (a b c : Int) : D → D
  | .tuple [.int x, .int y] => .bool (decide (Clo a b c x y))
  | _ => .none
theorem ov1 {r : Bool} {a b c x y : Int} (h : r = true ↔ Clo a b c x y) : Ent.d (.bool r) = .d (ovF a b c (pr x y)) := by
  have e : r = @decide (Clo a b c x y) (Classical.propDecidable _) := by
    rw [Bool.eq_iff_iff, h]
    simp
  rw [e]
  rfl
/-- the draws' list, n of its draws told by b -/
def IsHand (b : Nat) (m : MO) : Prop := ∃ (cs : List Int) (at0 left mix n0 : Int), m = .lst [.list (cs.map .int), .int at0, .int left, .int mix, .int n0] ∧ (∀ c ∈ cs, 0 ≤ c) ∧ 0 ≤ at0 ∧ 0 ≤ left ∧ 0 ≤ mix ∧ mix < 2147483549 ∧ 0 ≤ n0 ∧ n0 ≤ b
theorem IsHand.mono {b b' : Nat} {m : MO} (h : IsHand b m) (hb : b ≤ b') : IsHand b' m :=
  let ⟨cs, at0, left, mix, n0, e, h1, h2, h3, h4, h5, h6, h7⟩ := h
  ⟨cs, at0, left, mix, n0, e, h1, h2, h3, h4, h5, h6, by omega⟩
/-- what repr tells -/
def OkR (d : D) : Prop := Fit d ∧ PyProof.Rows.isDisplay d = true ∧ d.depth ≤ 100 ∧ lenB d ≤ sizeLine
end K07

namespace K07
open PySem PySem.Spec L2 Pw
/-! ### is_integer -/
abbrev s_is_integer : Stmt := topS 1
abbrev N_is_integer : List Str := ["thing"]
theorem sc_is_integer : FnScope N_is_integer ["thing"] (defScope s_is_integer) := ⟨rfl, rfl, rfl, by decide +kernel, rfl, by decide +kernel, by decide +kernel⟩
theorem nm_is_integer : nmC N_is_integer (defScope s_is_integer) [0] = true := by decide +kernel
theorem lc_is_integer : lcC N_is_integer (defScope s_is_integer) [0] = true := by decide +kernel
theorem gb_is_integer_isinstance : gbC (defScope s_is_integer) "isinstance" = true := by decide +kernel
theorem gb_is_integer_int : gbC (defScope s_is_integer) "int" = true := by decide +kernel
theorem gb_is_integer_bool : gbC (defScope s_is_integer) "bool" = true := by decide +kernel
def sp_is_integer : SpF := fun es μ P => ∃ (i : Int), es = [.d (.int i)] ∧ μ = [] ∧ P (.d (.bool true)) []
theorem body_is_integer {X0 : Cx} {env0 : PySem.Env} (m_isinstance : X0.mg "isinstance" = none) (m_int : X0.mg "int" = none) (m_bool : X0.mg "bool" = none) (B : Bx (mkX X0 env0 N_is_integer (defScope s_is_integer)) 0) :
    ∀ (es : List Ent) (μ μh : Mu) (Q : Ent → Mu → Prop), sp_is_integer es μ Q → DSs (mkX X0 env0 N_is_integer (defScope s_is_integer)) (defBody s_is_integer) (slots0 N_is_integer es) (μ ++ μh) (Zof μ.length μh Q) := by
  rintro es μ μh Q ⟨i, rfl, rfl, q⟩
  have Mn : Nm (mkX X0 env0 N_is_integer (defScope s_is_integer)) [0] := nm_of nm_is_integer
  have Ln : Lc (mkX X0 env0 N_is_integer (defScope s_is_integer)) [0] := lc_of lc_is_integer
  have g_isinstance : Gb (mkX X0 env0 N_is_integer (defScope s_is_integer)) "isinstance" := gb_of gb_is_integer_isinstance
  have g_int : Gb (mkX X0 env0 N_is_integer (defScope s_is_integer)) "int" := gb_of gb_is_integer_int
  have g_bool : Gb (mkX X0 env0 N_is_integer (defScope s_is_integer)) "bool" := gb_of gb_is_integer_bool
  refine dss_cons (ds_ret (de_and (de_callB call_isi g_isinstance m_isinstance (by decide +kernel) (da_cons (de_var (i := 0) Mn rfl (by decide) rfl (da_cons (de_ty g_int m_int (by decide +kernel) (da_nil (rc_isi true ⟨_, _, rfl, kb_ii, ⟨_, rfl, fun hb1 => (de_one (de_not (de_callB call_isi g_isinstance m_isinstance (by decide +kernel) (da_cons (de_var (i := 0) Mn rfl (by decide) rfl (da_cons (de_ty g_bool m_bool (by decide +kernel) (da_nil (rc_isi false ⟨_, _, rfl, kb_ib, ⟨_, rfl, (ret0 ?_)⟩⟩))))))))), fun hb1 => (ret0 ?_)⟩⟩)))))))))
  · exact q
  · cases hb1
theorem ok_is_integer {P : Program} {w : World} {K : PySem.W.Frag} {mg : Str → Option Value} {base : Heap} (T : Top1 K mg "is_integer" s_is_integer ["thing"]) (m_isinstance : mg "isinstance" = none) (m_int : mg "int" = none) (m_bool : mg "bool" = none) : Cal P w K mg base CX0 "is_integer" 1 (lift K sp_is_integer) :=
  cal_of T sc_is_integer (by rintro es μ Q ⟨_, rfl, _⟩; rfl) fun f cdv A outer s H E B es μ μh Q h => body_is_integer (X0 := cxOf CX0 P w K mg base N_is_integer "is_integer" (defScope s_is_integer) f cdv A outer s H E) (env0 := PyProof.Rows.envOfC "is_integer" (defScope s_is_integer) s.heap.objs.size f cdv) m_isinstance m_int m_bool B es μ μh Q h
/-! ### is_within -/
abbrev s_is_within : Stmt := topS 2
abbrev N_is_within : List Str := ["thing", "least", "most"]
theorem sc_is_within : FnScope N_is_within ["thing", "least", "most"] (defScope s_is_within) := ⟨rfl, rfl, rfl, by decide +kernel, rfl, by decide +kernel, by decide +kernel⟩
theorem nm_is_within : nmC N_is_within (defScope s_is_within) [0, 1, 2] = true := by decide +kernel
theorem lc_is_within : lcC N_is_within (defScope s_is_within) [0, 1, 2] = true := by decide +kernel
theorem gb_is_within_is_integer : gbC (defScope s_is_within) "is_integer" = true := by decide +kernel
def sp_is_within : SpF := fun es μ P => ∃ (x lo hi : Int), es = [.d (.int x), .d (.int lo), .d (.int hi)] ∧ μ = [] ∧ ∀ (r : Bool), (r = true ↔ lo ≤ x ∧ x ≤ hi) → P (.d (.bool r)) []
theorem body_is_within {X0 : Cx} {env0 : PySem.Env} (c_is_integer : CalX X0 "is_integer" 1 sp_is_integer) (B : Bx (mkX X0 env0 N_is_within (defScope s_is_within)) 1) :
    ∀ (es : List Ent) (μ μh : Mu) (Q : Ent → Mu → Prop), sp_is_within es μ Q → DSs (mkX X0 env0 N_is_within (defScope s_is_within)) (defBody s_is_within) (slots0 N_is_within es) (μ ++ μh) (Zof μ.length μh Q) := by
  rintro es μ μh Q ⟨x, lo, hi, rfl, rfl, q⟩
  have Mn : Nm (mkX X0 env0 N_is_within (defScope s_is_within)) [0, 1, 2] := nm_of nm_is_within
  have Ln : Lc (mkX X0 env0 N_is_within (defScope s_is_within)) [0, 1, 2] := lc_of lc_is_within
  have g_is_integer : Gb (mkX X0 env0 N_is_within (defScope s_is_within)) "is_integer" := gb_of gb_is_within_is_integer
  refine dss_cons (ds_ret (de_and (de_call B c_is_integer (by decide) g_is_integer (da_cons (de_var (i := 0) Mn rfl (by decide) rfl (da_nil ⟨rfl, _, rfl, rfl, ⟨rfl, ⟨_, rfl, fun hb1 => (de_one (de_chain op_le op_le (by with_unfolding_all rfl) (de_var (i := 1) Mn rfl (by decide) rfl (de_var (i := 0) Mn rfl (by decide) rfl (rv_b0 ⟨_, _, rfl, rfl, ⟨_, rfl, fun hc => (de_var (i := 2) Mn rfl (by decide) rfl (rv_b0 ⟨_, _, rfl, rfl, (ret0 ?_)⟩)), fun hc => (ret0 ?_)⟩⟩))))), fun hb1 => (ret0 ?_)⟩⟩⟩))))))
  · exact q _ (by simp_all)
  · exact q _ (by simp at hc ⊢; omega)
  · cases hb1
theorem ok_is_within {P : Program} {w : World} {K : PySem.W.Frag} {mg : Str → Option Value} {base : Heap} (T : Top1 K mg "is_within" s_is_within ["thing", "least", "most"]) (c_is_integer : Cal P w K mg base CX0 "is_integer" 1 (lift K sp_is_integer)) : Cal P w K mg base CX0 "is_within" 2 (lift K sp_is_within) :=
  cal_of T sc_is_within (by rintro es μ Q ⟨_, _, _, rfl, _⟩; rfl) fun f cdv A outer s H E B es μ μh Q h => body_is_within (X0 := cxOf CX0 P w K mg base N_is_within "is_within" (defScope s_is_within) f cdv A outer s H E) (env0 := PyProof.Rows.envOfC "is_within" (defScope s_is_within) s.heap.objs.size f cdv) c_is_integer B es μ μh Q h
/-! ### is_tuple -/
abbrev s_is_tuple : Stmt := topS 3
abbrev N_is_tuple : List Str := ["thing", "least", "most"]
theorem sc_is_tuple : FnScope N_is_tuple ["thing", "least", "most"] (defScope s_is_tuple) := ⟨rfl, rfl, rfl, by decide +kernel, rfl, by decide +kernel, by decide +kernel⟩
theorem nm_is_tuple : nmC N_is_tuple (defScope s_is_tuple) [0, 1, 2] = true := by decide +kernel
theorem lc_is_tuple : lcC N_is_tuple (defScope s_is_tuple) [0, 1, 2] = true := by decide +kernel
theorem gb_is_tuple_isinstance : gbC (defScope s_is_tuple) "isinstance" = true := by decide +kernel
theorem gb_is_tuple_tuple : gbC (defScope s_is_tuple) "tuple" = true := by decide +kernel
theorem gb_is_tuple_len : gbC (defScope s_is_tuple) "len" = true := by decide +kernel
def sp_is_tuple : SpF := fun es μ P => ∃ (d : D) (lo hi : Int), es = [.d d, .d (.int lo), .d (.int hi)] ∧ μ = [] ∧ ((∃ ds, d = .tuple ds) ∨ d = .none) ∧ ∀ (r : Bool), (r = true ↔ TupD d lo hi) → P (.d (.bool r)) []
theorem body_is_tuple {X0 : Cx} {env0 : PySem.Env} (m_isinstance : X0.mg "isinstance" = none) (m_tuple : X0.mg "tuple" = none) (m_len : X0.mg "len" = none) (B : Bx (mkX X0 env0 N_is_tuple (defScope s_is_tuple)) 0) :
    ∀ (es : List Ent) (μ μh : Mu) (Q : Ent → Mu → Prop), sp_is_tuple es μ Q → DSs (mkX X0 env0 N_is_tuple (defScope s_is_tuple)) (defBody s_is_tuple) (slots0 N_is_tuple es) (μ ++ μh) (Zof μ.length μh Q) := by
  rintro es μ μh Q ⟨d, lo, hi, rfl, rfl, p0, q⟩
  have Mn : Nm (mkX X0 env0 N_is_tuple (defScope s_is_tuple)) [0, 1, 2] := nm_of nm_is_tuple
  have Ln : Lc (mkX X0 env0 N_is_tuple (defScope s_is_tuple)) [0, 1, 2] := lc_of lc_is_tuple
  have g_isinstance : Gb (mkX X0 env0 N_is_tuple (defScope s_is_tuple)) "isinstance" := gb_of gb_is_tuple_isinstance
  have g_tuple : Gb (mkX X0 env0 N_is_tuple (defScope s_is_tuple)) "tuple" := gb_of gb_is_tuple_tuple
  have g_len : Gb (mkX X0 env0 N_is_tuple (defScope s_is_tuple)) "len" := gb_of gb_is_tuple_len
  rcases p0 with ⟨ds, rfl⟩ | rfl
  rotate_left
  · refine dss_cons (ds_ret (de_and (de_callB call_isi g_isinstance m_isinstance (by decide +kernel) (da_cons (de_var (i := 0) Mn rfl (by decide) rfl (da_cons (de_ty g_tuple m_tuple (by decide +kernel) (da_nil (rc_isi false ⟨_, _, rfl, kb_nt, ⟨_, rfl, (fun hb => nomatch hb), fun hb => (ret0 ?_)⟩⟩)))))))))
    exact q _ ⟨(fun h => nomatch h), fun h => absurd h tupD_non⟩
  refine dss_cons (ds_ret (de_and (de_callB call_isi g_isinstance m_isinstance (by decide +kernel) (da_cons (de_var (i := 0) Mn rfl (by decide) rfl (da_cons (de_ty g_tuple m_tuple (by decide +kernel) (da_nil (rc_isi true ⟨_, _, rfl, kb_tt, ⟨_, rfl, fun hb1 => (de_one (de_chain op_le op_le (by with_unfolding_all rfl) (de_var (i := 1) Mn rfl (by decide) rfl (de_callB call_len_seq g_len m_len (by decide +kernel) (da_cons (de_var (i := 0) Mn rfl (by decide) rfl (da_nil (rc_lenT ⟨_, rfl, (rv_b0 ⟨_, _, rfl, rfl, ⟨_, rfl, fun hc => (de_var (i := 2) Mn rfl (by decide) rfl (rv_b0 ⟨_, _, rfl, rfl, (ret0 ?_)⟩)), fun hc => (ret0 ?_)⟩⟩)⟩)))))))), fun hb1 => (ret0 ?_)⟩⟩)))))))))
  · exact q _ (by rw [tupD_tup]; simp_all)
  · exact q _ (by rw [tupD_tup]; simp at hc ⊢; omega)
  · cases hb1
theorem ok_is_tuple {P : Program} {w : World} {K : PySem.W.Frag} {mg : Str → Option Value} {base : Heap} (T : Top1 K mg "is_tuple" s_is_tuple ["thing", "least", "most"]) (m_isinstance : mg "isinstance" = none) (m_tuple : mg "tuple" = none) (m_len : mg "len" = none) : Cal P w K mg base CX0 "is_tuple" 1 (lift K sp_is_tuple) :=
  cal_of T sc_is_tuple (by rintro es μ Q ⟨_, _, _, rfl, _⟩; rfl) fun f cdv A outer s H E B es μ μh Q h => body_is_tuple (X0 := cxOf CX0 P w K mg base N_is_tuple "is_tuple" (defScope s_is_tuple) f cdv A outer s H E) (env0 := PyProof.Rows.envOfC "is_tuple" (defScope s_is_tuple) s.heap.objs.size f cdv) m_isinstance m_tuple m_len B es μ μh Q h
theorem gcd_step {a b a' b' : Int} (h : Int.gcd a' b' = Int.gcd a b) : Int.gcd b' (a' % b') = Int.gcd a b := by
  rw [← h, Int.gcd_comm a' b', Int.emod_def, Int.gcd_sub_mul_left_right]
/-! ### common -/
abbrev s_common : Stmt := topS 4
abbrev N_common : List Str := ["one", "other"]
theorem sc_common : FnScope N_common ["one", "other"] (defScope s_common) := ⟨rfl, rfl, rfl, by decide +kernel, rfl, by decide +kernel, by decide +kernel⟩
theorem nm_common : nmC N_common (defScope s_common) [0, 1] = true := by decide +kernel
theorem lc_common : lcC N_common (defScope s_common) [0, 1] = true := by decide +kernel
theorem gb_common_abs : gbC (defScope s_common) "abs" = true := by decide +kernel
def sp_common : SpF := fun es μ P => ∃ (a b : Int), es = [.d (.int a), .d (.int b)] ∧ μ = [] ∧ P (.d (.int (Int.gcd a b))) []
theorem body_common {X0 : Cx} {env0 : PySem.Env} (m_abs : X0.mg "abs" = none) (B : Bx (mkX X0 env0 N_common (defScope s_common)) 0) :
    ∀ (es : List Ent) (μ μh : Mu) (Q : Ent → Mu → Prop), sp_common es μ Q → DSs (mkX X0 env0 N_common (defScope s_common)) (defBody s_common) (slots0 N_common es) (μ ++ μh) (Zof μ.length μh Q) := by
  rintro es μ μh Q ⟨a, b, rfl, rfl, q⟩
  have Mn : Nm (mkX X0 env0 N_common (defScope s_common)) [0, 1] := nm_of nm_common
  have Ln : Lc (mkX X0 env0 N_common (defScope s_common)) [0, 1] := lc_of lc_common
  have g_abs : Gb (mkX X0 env0 N_common (defScope s_common)) "abs" := gb_of gb_common_abs
  -- one, other = (abs(one), abs(other))
  refine dss_cons (ds_par (i := 0) (j := 1) Ln rfl rfl rfl (by decide) rfl rfl (da_cons (de_callB call_abs g_abs m_abs (by decide +kernel) (da_cons (de_var (i := 0) Mn rfl (by decide) rfl (da_nil (rc_abs ⟨_, rfl, (da_cons (de_callB call_abs g_abs m_abs (by decide +kernel) (da_cons (de_var (i := 1) Mn rfl (by decide) rfl (da_nil (rc_abs ⟨_, rfl, (da_nil ⟨_, _, rfl, ?_⟩)⟩))))))⟩)))))) rfl)
  -- while other > 0
  refine dss_cons (ds_while PassesOwn.never (fun m ρ μ => ∃ a' b' : Int, 0 ≤ a' ∧ 0 ≤ b' ∧ Int.gcd a' b' = Int.gcd a b ∧ m = b'.toNat ∧ ρ = [some (.d (.int a')), some (.d (.int b'))] ∧ μ = μh) _ ⟨_, _, ?_, ?_, ?_, rfl, rfl, rfl⟩ fun m ρ μ hI => ?_)
  · split <;> omega
  · split <;> omega
  · split <;> split <;> simp [Int.gcd_neg, Int.neg_gcd]
  obtain ⟨a', b', h1, h2, h3, rfl, rfl, rfl⟩ := hI
  refine (dt_cmp op_gt (nomark _) (de_var (i := 1) Mn rfl (by decide) rfl (de_int (rv_b0 ⟨_, _, rfl, rfl, ⟨_, rfl, ⟨fun ht => ?_, fun ht => ?_⟩⟩⟩))))
  · try simp only [decide_eq_true_eq, decide_eq_false_iff_not, bne_iff_ne, Bool.not_eq_true', Bool.not_eq_false', ne_eq, beq_iff_eq] at ht
    -- one, other = (other, one % other)
    refine dss_cons (ds_par (i := 0) (j := 1) Ln rfl rfl rfl (by decide) rfl rfl (da_cons (de_var (i := 1) Mn rfl (by decide) rfl (da_cons (de_bin op_mod (de_var (i := 0) Mn rfl (by decide) rfl (de_var (i := 1) Mn rfl (by decide) rfl (rv_ic ⟨_, _, rfl, rfl, (by show (0 : Int) < _; first | omega | (simp only [List.mem_cons, List.not_mem_nil, or_false] at *; omega) | (simp only [List.mem_cons, List.not_mem_nil, or_false] at *; split <;> omega)), (da_nil ⟨_, _, rfl, ?_⟩)⟩))))))) rfl)
    refine dss_nil ⟨_, ?_, b', a' % b', h2, Int.emod_nonneg _ (by omega), gcd_step h3, rfl, rfl, rfl⟩
    have := Int.emod_lt_of_pos a' ht
    omega
  · try simp only [decide_eq_true_eq, decide_eq_false_iff_not, bne_iff_ne, Bool.not_eq_true', Bool.not_eq_false', ne_eq, beq_iff_eq] at ht
    refine dss_cons (ds_ret (de_var (i := 0) Mn rfl (by decide) rfl (ret0 ?_)))
    have e : b' = 0 := by omega
    subst e
    have e : a' = Int.gcd a b := by rw [← h3]; simp; omega
    rw [e]
    exact q
theorem ok_common {P : Program} {w : World} {K : PySem.W.Frag} {mg : Str → Option Value} {base : Heap} (T : Top1 K mg "common" s_common ["one", "other"]) (m_abs : mg "abs" = none) : Cal P w K mg base CX0 "common" 1 (lift K sp_common) :=
  cal_of T sc_common (by rintro es μ Q ⟨_, _, rfl, _⟩; rfl) fun f cdv A outer s H E B es μ μh Q h => body_common (X0 := cxOf CX0 P w K mg base N_common "common" (defScope s_common) f cdv A outer s H E) (env0 := PyProof.Rows.envOfC "common" (defScope s_common) s.heap.objs.size f cdv) m_abs B es μ μh Q h
end K07

namespace K07
open PySem PySem.Spec L2 Pw
structure WI (a b r0 s0 t0 r1 s1 t1 : Int) : Prop where
  a0 : 0 ≤ r0
  b0 : 0 ≤ r1
  l0 : r0 ≤ 10 ^ 60
  l1 : r1 ≤ 10 ^ 60
  e0 : s0 * a + t0 * b = r0
  e1 : s1 * a + t1 * b = r1
  g : Int.gcd r0 r1 = Int.gcd a b
  ms : (s1.natAbs : Int) * r0 + s0.natAbs * r1 ≤ 10 ^ 60
  mt : (t1.natAbs : Int) * r0 + t0.natAbs * r1 ≤ 10 ^ 60
  bs : s0.natAbs ≤ 10 ^ 60 ∧ s1.natAbs ≤ 10 ^ 60 ∧ t0.natAbs ≤ 10 ^ 60 ∧ t1.natAbs ≤ 10 ^ 60
theorem absB {s0 s1 q r0 r1 : Int} {N : Nat} (hq : 0 ≤ q) (hr : 0 < r1) (hr' : 0 ≤ r0 - q * r1) (hm : (s1.natAbs : Int) * r0 + s0.natAbs * r1 ≤ (N : Nat)) :
    ((s0 - q * s1).natAbs : Int) * r1 + s1.natAbs * (r0 - q * r1) ≤ (N : Nat) ∧ (s0 - q * s1).natAbs ≤ N := by
  have h1 : ((s0 - q * s1).natAbs : Int) ≤ s0.natAbs + q * s1.natAbs := by
    have := Int.natAbs_sub_le s0 (q * s1)
    rw [Int.natAbs_mul] at this
    have h2 : (q.natAbs : Int) = q := by omega
    have h3 : ((q.natAbs * s1.natAbs : Nat) : Int) = q * s1.natAbs := by rw [Int.natCast_mul, h2]
    omega
  generalize ((s0 - q * s1).natAbs) = n' at h1 ⊢
  generalize s0.natAbs = n0 at *
  generalize s1.natAbs = n1 at *
  have h2 : (n' : Int) * r1 ≤ (n0 + q * n1) * r1 := Int.mul_le_mul_of_nonneg_right h1 (by omega)
  have h3 : (n' : Int) * r1 + n1 * (r0 - q * r1) ≤ N := by grind
  have h4 : 0 ≤ (n1 : Int) * (r0 - q * r1) := Int.mul_nonneg (by omega) hr'
  have h5 : (n' : Int) * 1 ≤ n' * r1 := Int.mul_le_mul_of_nonneg_left (by omega) (by omega)
  exact ⟨h3, by omega⟩
theorem abs_step {s0 s1 q r0 r1 : Int} (hq : 0 ≤ q) (hr : 0 < r1) (hr' : 0 ≤ r0 - q * r1) (hm : (s1.natAbs : Int) * r0 + s0.natAbs * r1 ≤ 10 ^ 60) :
    ((s0 - q * s1).natAbs : Int) * r1 + s1.natAbs * (r0 - q * r1) ≤ 10 ^ 60 ∧ (s0 - q * s1).natAbs ≤ 10 ^ 60 := by
  have := absB (N := 10 ^ 60) hq hr hr' (by simpa using hm)
  simpa using this
theorem WI.step {a b r0 s0 t0 r1 s1 t1 : Int} (h : WI a b r0 s0 t0 r1 s1 t1) (hr : r1 ≠ 0) :
    WI a b r1 s1 t1 (r0 - r0 / r1 * r1) (s0 - r0 / r1 * s1) (t0 - r0 / r1 * t1) ∧ (r0 - r0 / r1 * r1).toNat < r1.toNat := by
  have hp : 0 < r1 := by have := h.b0; omega
  have e : r0 - r0 / r1 * r1 = r0 % r1 := by rw [Int.emod_def, Int.mul_comm]
  have hq : 0 ≤ r0 / r1 := Int.ediv_nonneg h.a0 h.b0
  have m0 : 0 ≤ r0 % r1 := Int.emod_nonneg _ hr
  have m1 : r0 % r1 < r1 := Int.emod_lt_of_pos _ hp
  obtain ⟨x1, x2⟩ := abs_step hq hp (by rw [e]; exact m0) h.ms
  obtain ⟨y1, y2⟩ := abs_step hq hp (by rw [e]; exact m0) h.mt
  have l1 := h.l1
  obtain ⟨z1, z2, z3, z4⟩ := h.bs
  refine ⟨⟨h.b0, by rw [e]; exact m0, h.l1, by omega, h.e1, ?_, ?_, x1, y1, z2, x2, z4, y2⟩, by omega⟩
  · have := h.e0
    have := h.e1
    grind
  · rw [e]
    exact gcd_step h.g
theorem WI.start {a b : Int} (h1 : 0 ≤ a) (h2 : a ≤ 10 ^ 60) (h3 : 0 ≤ b) (h4 : b ≤ 10 ^ 60) : WI a b a 1 0 b 0 1 :=
  ⟨h1, h3, h2, h4, by omega, by omega, rfl, by simpa using h4, by simpa using h2, by decide⟩
def subF (q : Int) : D → D
  | .tuple [.int x, .int y] => .int (x - q * y)
  | _ => .none
/-! ### weights -/
abbrev s_weights : Stmt := topS 5
abbrev N_weights : List Str := ["one", "other", "rows", "times", "rest", "mine", "its"]
theorem sc_weights : FnScope N_weights ["one", "other"] (defScope s_weights) := ⟨rfl, rfl, rfl, by decide +kernel, rfl, by decide +kernel, by decide +kernel⟩
theorem nm_weights : nmC N_weights (defScope s_weights) [0, 1, 2, 3, 4] = true := by decide +kernel
theorem lc_weights : lcC N_weights (defScope s_weights) [0, 1, 2, 3, 4] = true := by decide +kernel
theorem gb_weights_tuple : gbC (defScope s_weights) "tuple" = true := by decide +kernel
theorem gb_weights_zip : gbC (defScope s_weights) "zip" = true := by decide +kernel
def sp_weights : SpF := fun es μ P => ∃ (a b : Int), es = [.d (.int a), .d (.int b)] ∧ μ = [] ∧ 0 ≤ a ∧ a ≤ 10 ^ 60 ∧ 0 ≤ b ∧ b ≤ 10 ^ 60 ∧ ∀ (g i j : Int), g = Int.gcd a b → i * a + j * b = g → P (.d (.tuple [.int g, .int i, .int j])) []
theorem body_weights {X0 : Cx} {env0 : PySem.Env} (m_tuple : X0.mg "tuple" = none) (m_zip : X0.mg "zip" = none) (B : Bx (mkX X0 env0 N_weights (defScope s_weights)) 0) :
    ∀ (es : List Ent) (μ μh : Mu) (Q : Ent → Mu → Prop), sp_weights es μ Q → DSs (mkX X0 env0 N_weights (defScope s_weights)) (defBody s_weights) (slots0 N_weights es) (μ ++ μh) (Zof μ.length μh Q) := by
  rintro es μ μh Q ⟨a, b, rfl, rfl, p0, p1, p2, p3, q⟩
  have Mn : Nm (mkX X0 env0 N_weights (defScope s_weights)) [0, 1, 2, 3, 4] := nm_of nm_weights
  have Ln : Lc (mkX X0 env0 N_weights (defScope s_weights)) [0, 1, 2, 3, 4] := lc_of lc_weights
  have g_tuple : Gb (mkX X0 env0 N_weights (defScope s_weights)) "tuple" := gb_of gb_weights_tuple
  have g_zip : Gb (mkX X0 env0 N_weights (defScope s_weights)) "zip" := gb_of gb_weights_zip
  -- rows = [(one, 1, 0), (other, 0, 1)]
  refine dss_cons (ds_set (i := 2) Ln rfl (by decide) (de_lst (da_cons (de_tup (da_cons (de_var (i := 0) Mn rfl (by decide) rfl (da_cons (de_int (da_cons (de_int (da_nil ⟨[_, _, _], rfl, lenS (n := 3) rfl (by decide), (da_cons (de_tup (da_cons (de_var (i := 1) Mn rfl (by decide) rfl (da_cons (de_int (da_cons (de_int (da_nil ⟨[_, _, _], rfl, lenS (n := 3) rfl (by decide), (da_nil ⟨[_, _], rfl, lenS (n := 2) rfl (by decide), ?_⟩)⟩)))))))))⟩)))))))))))
  -- while rows[1][0] != 0
  refine dss_cons (ds_while PassesOwn.never (fun m ρ μ => ∃ r0 s0 t0 r1 s1 t1 q1 q2, WI a b r0 s0 t0 r1 s1 t1 ∧ m = r1.toNat ∧ ρ = [some (.d (.int a)), some (.d (.int b)), some (.d (.list [.tuple [.int r0, .int s0, .int t0], .tuple [.int r1, .int s1, .int t1]])), q1, q2, none, none] ∧ μ = μh) _ ⟨_, _, _, _, _, _, _, _, .start p0 p1 p2 p3, rfl, rfl, rfl⟩ fun m ρ μ hI => ?_)
  obtain ⟨r0, s0, t0, r1, s1, t1, q1, q2, W, rfl, rfl, rfl⟩ := hI
  have w1 := W.a0
  have w2 := W.b0
  have w3 := W.l0
  have w4 := W.l1
  obtain ⟨z1, z2, z3, z4⟩ := W.bs
  refine (dt_cmp op_ne (nomark _) (de_ix ix_tup (fun _ _ => rfl) (de_ix ix_list (fun _ _ => rfl) (de_var (i := 2) Mn rfl (by decide) rfl (de_int (rv_ixL ⟨_, _, _, rfl, rfl, rfl, (de_int (rv_ixT ⟨_, _, _, rfl, rfl, rfl, (de_int (rv_neI ⟨_, _, rfl, rfl, ⟨_, rfl, ⟨fun ht => ?_, fun ht => ?_⟩⟩⟩))⟩))⟩))))))
  · try simp only [decide_eq_true_eq, decide_eq_false_iff_not, bne_iff_ne, Bool.not_eq_true', Bool.not_eq_false', ne_eq, beq_iff_eq] at ht
    have wq : (r0 / r1).natAbs ≤ 10 ^ 60 := ediv_abs (by omega) (by omega)
    -- times = rows[0][0] // rows[1][0]
    refine dss_cons (ds_set (i := 3) Ln rfl (by decide) (de_bin op_fdivW (de_ix ix_tup (fun _ _ => rfl) (de_ix ix_list (fun _ _ => rfl) (de_var (i := 2) Mn rfl (by decide) rfl (de_int (rv_ixL ⟨_, _, _, rfl, rfl, rfl, (de_int (rv_ixT ⟨_, _, _, rfl, rfl, rfl, (de_ix ix_tup (fun _ _ => rfl) (de_ix ix_list (fun _ _ => rfl) (de_var (i := 2) Mn rfl (by decide) rfl (de_int (rv_ixL ⟨_, _, _, rfl, rfl, rfl, (de_int (rv_ixT ⟨_, _, _, rfl, rfl, rfl, (rv_ic ⟨_, _, rfl, rfl, (cdivB (by first | omega | (simp only [List.mem_cons, List.not_mem_nil, or_false] at *; omega) | (simp only [List.mem_cons, List.not_mem_nil, or_false] at *; split <;> omega)) (by first | omega | (simp only [List.mem_cons, List.not_mem_nil, or_false] at *; omega) | (simp only [List.mem_cons, List.not_mem_nil, or_false] at *; split <;> omega))), ?_⟩)⟩))⟩)))))⟩))⟩)))))))
    -- rest = tuple([mine - times * its for mine, its in zip(rows[0], rows[1])])
    refine dss_cons (ds_set (i := 4) Ln rfl (by decide) (de_callT call_tuple_of g_tuple m_tuple (by decide +kernel) (da_cons (de_lcMap (own := [("mine", 5), ("its", 6)]) (g := (gTup _ 2 (gCons (gName 5) (gCons (gName 6) gNil)))) (subF (r0 / r1)) rfl Ln.nd (blkOk_by (by show blkC N_weights (defScope s_weights) _ _ = true; decide +kernel)) (fun _ _ _ _ _ => pg_tup rfl (pgs_cons (pg_name (i := 5) Ln.nd rfl (Or.inl rfl)) (pgs_cons (pg_name (i := 6) Ln.nd rfl (Or.inl rfl)) pgs_nil))) (di_zip g_zip m_zip (da_cons (de_ix ix_list (fun _ _ => rfl) (de_var (i := 2) Mn rfl (by decide) rfl (de_int (rv_ixL ⟨_, _, _, rfl, rfl, rfl, (da_cons (de_ix ix_list (fun _ _ => rfl) (de_var (i := 2) Mn rfl (by decide) rfl (de_int (rv_ixL ⟨_, _, _, rfl, rfl, rfl, (da_nil ⟨_, _, .inr rfl, ⟨(by first | exact ltS (n := 1) rfl (by decide) | exact ltS (n := 2) rfl (by decide) | exact ltS (n := 3) rfl (by decide) | exact ltS (n := 4) rfl (by decide) | exact ltS (n := 5) rfl (by decide) | exact ltS (n := 6) rfl (by decide)), ?_, (da_nil (rc_tupleOf ⟨_, .inl rfl, ?_⟩))⟩⟩)⟩)))))⟩))))))))))
    · intro d hd acc
      rcases List.mem_cons.mp hd with rfl | hd; rotate_left; rcases List.mem_cons.mp hd with rfl | hd; rotate_left; rcases List.mem_cons.mp hd with rfl | hd; rotate_left; cases hd; all_goals
      refine (dgc_two (by decide) (by decide) (fun _ _ _ _ _ => (de_bin op_sub (de_var (i := 5) (nm_blk (vi := [3, 5, 6]) rfl) rfl (by decide) rfl (de_bin op_mulW (de_var (i := 3) (nm_blk (vi := [3, 5, 6]) rfl) rfl (by decide) rfl (de_var (i := 6) (nm_blk (vi := [3, 5, 6]) rfl) rfl (by decide) rfl (rv_ic ⟨_, _, rfl, rfl, (cmulB (by first | omega | (simp only [List.mem_cons, List.not_mem_nil, or_false] at *; omega) | (simp only [List.mem_cons, List.not_mem_nil, or_false] at *; split <;> omega)) (by first | omega | (simp only [List.mem_cons, List.not_mem_nil, or_false] at *; omega) | (simp only [List.mem_cons, List.not_mem_nil, or_false] at *; split <;> omega))), (rv_i0 ⟨_, _, rfl, rfl, ⟨rfl, rfl⟩⟩)⟩))))))))
    -- rows = [rows[1], rest]
    refine dss_cons (ds_set (i := 2) Ln rfl (by decide) (de_lst (da_cons (de_ix ix_list (fun _ _ => rfl) (de_var (i := 2) Mn rfl (by decide) rfl (de_int (rv_ixL ⟨_, _, _, rfl, rfl, rfl, (da_cons (de_var (i := 4) Mn rfl (by decide) rfl (da_nil ⟨[_, _], rfl, lenS (n := 2) rfl (by decide), ?_⟩)))⟩)))))))
    obtain ⟨st, hm⟩ := W.step ht
    exact dss_nil ⟨_, hm, _, _, _, _, _, _, _, _, st, rfl, rfl, rfl⟩
  · try simp only [decide_eq_true_eq, decide_eq_false_iff_not, bne_iff_ne, Bool.not_eq_true', Bool.not_eq_false', ne_eq, beq_iff_eq] at ht
    refine dss_cons (ds_ret (de_ix ix_list (fun _ _ => rfl) (de_var (i := 2) Mn rfl (by decide) rfl (de_int (rv_ixL ⟨_, _, _, rfl, rfl, rfl, (ret0 ?_)⟩)))))
    subst ht
    refine q _ _ _ ?_ ?_
    · rw [← W.g]
      simp
      omega
    · exact W.e0
theorem ok_weights {P : Program} {w : World} {K : PySem.W.Frag} {mg : Str → Option Value} {base : Heap} (T : Top1 K mg "weights" s_weights ["one", "other"]) (m_tuple : mg "tuple" = none) (m_zip : mg "zip" = none) : Cal P w K mg base CX0 "weights" 1 (lift K sp_weights) :=
  cal_of T sc_weights (by rintro es μ Q ⟨_, _, rfl, _⟩; rfl) fun f cdv A outer s H E B es μ μh Q h => body_weights (X0 := cxOf CX0 P w K mg base N_weights "weights" (defScope s_weights) f cdv A outer s H E) (env0 := PyProof.Rows.envOfC "weights" (defScope s_weights) s.heap.objs.size f cdv) m_tuple m_zip B es μ μh Q h
theorem undone_law {n m i j : Int} (hg : Int.gcd n m = 1) (h : i * (n % m) + j * m = Int.gcd (n % m) m) : m ∣ i % m * n - 1 := by
  have e : Int.gcd (n % m) m = 1 := by rw [Int.emod_def, Int.gcd_sub_mul_left_left, hg]
  rw [e] at h
  have h1 := Int.emod_def n m
  have h2 := Int.emod_def i m
  exact ⟨i * (n / m) - i / m * n - j, by grind⟩
theorem gcd_pos' {t m : Int} (h : 0 < m) : 0 < (Int.gcd t m : Int) := by
  have := Int.gcd_pos_of_ne_zero_right t (show m ≠ 0 by omega)
  omega
theorem gcd_le' {t m : Int} (h : 0 < m) : (Int.gcd t m : Int) ≤ m := Int.gcd_le_right t h
theorem least_law {t r m u : Int} (hm : 0 < m) (hr : (Int.gcd t m : Int) ∣ r) (hu : Int.gcd (t / Int.gcd t m) (m / Int.gcd t m) = 1 → m / Int.gcd t m ∣ u * (t / Int.gcd t m) - 1) :
    LeastSol t r m (.int (r / Int.gcd t m * u % (m / Int.gcd t m))) := by
  have gp := gcd_pos' (t := t) hm
  obtain ⟨k, hk⟩ := hu (Int.gcd_ediv_gcd_ediv_gcd (by omega))
  obtain ⟨t', ht⟩ := Int.gcd_dvd_left t m
  obtain ⟨l, hl⟩ := Int.gcd_dvd_right t m
  obtain ⟨r', hr'⟩ := hr
  have hl0 : 0 < l := by
    rcases Int.lt_or_le 0 l with h | h
    · exact h
    · have := Int.mul_nonpos_of_nonneg_of_nonpos (Int.le_of_lt gp) h
      omega
  refine .inr ⟨⟨r', hr'⟩, _, rfl, ?_, ?_, ?_⟩
  · generalize (Int.gcd t m : Int) = g at *
    subst ht hl hr'
    simp only [Int.mul_ediv_cancel_left _ (show g ≠ 0 by omega)]
    exact Int.emod_nonneg _ (by omega)
  · generalize (Int.gcd t m : Int) = g at *
    subst ht hl hr'
    simp only [Int.mul_ediv_cancel_left _ (show g ≠ 0 by omega)]
    exact Int.emod_lt_of_pos _ hl0
  · generalize (Int.gcd t m : Int) = g at *
    subst ht hl hr'
    simp only [Int.mul_ediv_cancel_left _ (show g ≠ 0 by omega)] at hk ⊢
    rw [Int.emod_def]
    exact ⟨r' * k - r' * u / l * t', by grind⟩
/-! ### undone -/
abbrev s_undone : Stmt := topS 6
abbrev N_undone : List Str := ["number", "by"]
theorem sc_undone : FnScope N_undone ["number", "by"] (defScope s_undone) := ⟨rfl, rfl, rfl, by decide +kernel, rfl, by decide +kernel, by decide +kernel⟩
theorem nm_undone : nmC N_undone (defScope s_undone) [0, 1] = true := by decide +kernel
theorem lc_undone : lcC N_undone (defScope s_undone) [0, 1] = true := by decide +kernel
theorem gb_undone_weights : gbC (defScope s_undone) "weights" = true := by decide +kernel
def sp_undone : SpF := fun es μ P => ∃ (n by' : Int), es = [.d (.int n), .d (.int by')] ∧ μ = [] ∧ 0 < by' ∧ by' ≤ 10 ^ 60 ∧ ∀ (u : Int), 0 ≤ u → u < by' → (Int.gcd n by' = 1 → by' ∣ u * n - 1) → P (.d (.int u)) []
theorem body_undone {X0 : Cx} {env0 : PySem.Env} (c_weights : CalX X0 "weights" 1 sp_weights) (B : Bx (mkX X0 env0 N_undone (defScope s_undone)) 1) :
    ∀ (es : List Ent) (μ μh : Mu) (Q : Ent → Mu → Prop), sp_undone es μ Q → DSs (mkX X0 env0 N_undone (defScope s_undone)) (defBody s_undone) (slots0 N_undone es) (μ ++ μh) (Zof μ.length μh Q) := by
  rintro es μ μh Q ⟨n, by', rfl, rfl, p0, p1, q⟩
  have Mn : Nm (mkX X0 env0 N_undone (defScope s_undone)) [0, 1] := nm_of nm_undone
  have Ln : Lc (mkX X0 env0 N_undone (defScope s_undone)) [0, 1] := lc_of lc_undone
  have g_weights : Gb (mkX X0 env0 N_undone (defScope s_undone)) "weights" := gb_of gb_undone_weights
  have e0 := Int.emod_nonneg n (show by' ≠ 0 by omega)
  have e1 := Int.emod_lt_of_pos n p0
  refine dss_cons (ds_ret (de_bin op_mod (de_ix ix_tup (fun _ _ => rfl) (de_call B c_weights (by decide) g_weights (da_cons (de_bin op_mod (de_var (i := 0) Mn rfl (by decide) rfl (de_var (i := 1) Mn rfl (by decide) rfl (rv_ic ⟨_, _, rfl, rfl, (by show (0 : Int) < _; first | omega | (simp only [List.mem_cons, List.not_mem_nil, or_false] at *; omega) | (simp only [List.mem_cons, List.not_mem_nil, or_false] at *; split <;> omega)), (da_cons (de_var (i := 1) Mn rfl (by decide) rfl (da_nil ⟨rfl, _, _, rfl, rfl, (by first | assumption | omega | (simp; done) | exact .inl ⟨_, rfl⟩ | exact .inl ⟨_, _, _, rfl⟩ | exact .inr rfl), (by first | assumption | omega | (simp; done) | exact .inl ⟨_, rfl⟩ | exact .inl ⟨_, _, _, rfl⟩ | exact .inr rfl), (by first | assumption | omega | (simp; done) | exact .inl ⟨_, rfl⟩ | exact .inl ⟨_, _, _, rfl⟩ | exact .inr rfl), (by first | assumption | omega | (simp; done) | exact .inl ⟨_, rfl⟩ | exact .inl ⟨_, _, _, rfl⟩ | exact .inr rfl), fun g1 i1 j1 h10 h11 => ⟨rfl, (de_int (rv_ixT ⟨_, _, _, rfl, rfl, rfl, (de_var (i := 1) Mn rfl (by decide) rfl (rv_ic ⟨_, _, rfl, rfl, (by show (0 : Int) < _; first | omega | (simp only [List.mem_cons, List.not_mem_nil, or_false] at *; omega) | (simp only [List.mem_cons, List.not_mem_nil, or_false] at *; split <;> omega)), (ret0 ?_)⟩))⟩))⟩⟩)))⟩)))))))))
  exact q _ (Int.emod_nonneg _ (by omega)) (Int.emod_lt_of_pos _ p0) fun hg => undone_law hg (h11.trans h10)
theorem ok_undone {P : Program} {w : World} {K : PySem.W.Frag} {mg : Str → Option Value} {base : Heap} (T : Top1 K mg "undone" s_undone ["number", "by"]) (c_weights : Cal P w K mg base CX0 "weights" 1 (lift K sp_weights)) : Cal P w K mg base CX0 "undone" 2 (lift K sp_undone) :=
  cal_of T sc_undone (by rintro es μ Q ⟨_, _, rfl, _⟩; rfl) fun f cdv A outer s H E B es μ μh Q h => body_undone (X0 := cxOf CX0 P w K mg base N_undone "undone" (defScope s_undone) f cdv A outer s H E) (env0 := PyProof.Rows.envOfC "undone" (defScope s_undone) s.heap.objs.size f cdv) c_weights B es μ μh Q h
/-! ### least_solution -/
abbrev s_least_solution : Stmt := topS 7
abbrev N_least_solution : List Str := ["times", "rest", "by", "divisor", "less"]
theorem sc_least_solution : FnScope N_least_solution ["times", "rest", "by"] (defScope s_least_solution) := ⟨rfl, rfl, rfl, by decide +kernel, rfl, by decide +kernel, by decide +kernel⟩
theorem nm_least_solution : nmC N_least_solution (defScope s_least_solution) [0, 1, 2, 3, 4] = true := by decide +kernel
theorem lc_least_solution : lcC N_least_solution (defScope s_least_solution) [0, 1, 2, 3, 4] = true := by decide +kernel
theorem gb_least_solution_common : gbC (defScope s_least_solution) "common" = true := by decide +kernel
theorem gb_least_solution_undone : gbC (defScope s_least_solution) "undone" = true := by decide +kernel
def sp_least_solution : SpF := fun es μ P => ∃ (t r by' : Int), es = [.d (.int t), .d (.int r), .d (.int by')] ∧ μ = [] ∧ 0 ≤ t ∧ t ≤ 10 ^ 60 ∧ 0 ≤ r ∧ r ≤ 10 ^ 60 ∧ 0 < by' ∧ by' ≤ 10 ^ 60 ∧ ∀ (d : D), LeastSol t r by' d → P (.d d) []
theorem body_least_solution {X0 : Cx} {env0 : PySem.Env} (c_common : CalX X0 "common" 1 sp_common) (c_undone : CalX X0 "undone" 2 sp_undone) (B : Bx (mkX X0 env0 N_least_solution (defScope s_least_solution)) 2) :
    ∀ (es : List Ent) (μ μh : Mu) (Q : Ent → Mu → Prop), sp_least_solution es μ Q → DSs (mkX X0 env0 N_least_solution (defScope s_least_solution)) (defBody s_least_solution) (slots0 N_least_solution es) (μ ++ μh) (Zof μ.length μh Q) := by
  rintro es μ μh Q ⟨t, r, by', rfl, rfl, p0, p1, p2, p3, p4, p5, q⟩
  have Mn : Nm (mkX X0 env0 N_least_solution (defScope s_least_solution)) [0, 1, 2, 3, 4] := nm_of nm_least_solution
  have Ln : Lc (mkX X0 env0 N_least_solution (defScope s_least_solution)) [0, 1, 2, 3, 4] := lc_of lc_least_solution
  have g_common : Gb (mkX X0 env0 N_least_solution (defScope s_least_solution)) "common" := gb_of gb_least_solution_common
  have g_undone : Gb (mkX X0 env0 N_least_solution (defScope s_least_solution)) "undone" := gb_of gb_least_solution_undone
  -- divisor = common(times, by)
  refine dss_cons (ds_set (i := 3) Ln rfl (by decide) (de_call B c_common (by decide) g_common (da_cons (de_var (i := 0) Mn rfl (by decide) rfl (da_cons (de_var (i := 2) Mn rfl (by decide) rfl (da_nil ⟨rfl, _, _, rfl, rfl, ⟨rfl, ?_⟩⟩)))))))
  have gp := gcd_pos' (t := t) p4
  have gl := gcd_le' (t := t) p4
  -- if rest % divisor != 0
  refine dss_cons (ds_if (dt_cmp op_ne (nomark _) (de_bin op_mod (de_var (i := 1) Mn rfl (by decide) rfl (de_var (i := 3) Mn rfl (by decide) rfl (rv_ic ⟨_, _, rfl, rfl, (by show (0 : Int) < _; first | omega | (simp only [List.mem_cons, List.not_mem_nil, or_false] at *; omega) | (simp only [List.mem_cons, List.not_mem_nil, or_false] at *; split <;> omega)), (de_int (rv_neI ⟨_, _, rfl, rfl, ⟨_, rfl, ⟨fun ht => ?_, fun ht => ?_⟩⟩⟩))⟩))))))
  · try simp only [decide_eq_true_eq, decide_eq_false_iff_not, bne_iff_ne, Bool.not_eq_true', Bool.not_eq_false', ne_eq, beq_iff_eq] at ht
    refine dss_cons (ds_ret (de_non (ret0 ?_)))
    exact q _ (.inl ⟨fun hd => ht (Int.emod_eq_zero_of_dvd hd), rfl⟩)
  · try simp only [decide_eq_true_eq, decide_eq_false_iff_not, bne_iff_ne, Bool.not_eq_true', Bool.not_eq_false', ne_eq, beq_iff_eq] at ht
    refine dss_nil ?_
    have hd := Int.dvd_of_emod_eq_zero ht
    have lb : by' / ↑(Int.gcd t by') ≤ 10 ^ 60 := Int.le_trans (Int.ediv_le_self _ (by omega)) p5
    have lp : 0 < by' / ↑(Int.gcd t by') := Int.ediv_pos_of_pos_of_dvd p4 (by omega) (Int.gcd_dvd_right t by')
    have rb : (r / ↑(Int.gcd t by')).natAbs ≤ 10 ^ 60 := ediv_abs gp (by omega)
    -- less = by // divisor
    refine dss_cons (ds_set (i := 4) Ln rfl (by decide) (de_bin op_fdivW (de_var (i := 2) Mn rfl (by decide) rfl (de_var (i := 3) Mn rfl (by decide) rfl (rv_ic ⟨_, _, rfl, rfl, (cdivB (by first | omega | (simp only [List.mem_cons, List.not_mem_nil, or_false] at *; omega) | (simp only [List.mem_cons, List.not_mem_nil, or_false] at *; split <;> omega)) (by first | omega | (simp only [List.mem_cons, List.not_mem_nil, or_false] at *; omega) | (simp only [List.mem_cons, List.not_mem_nil, or_false] at *; split <;> omega))), ?_⟩)))))
    refine dss_cons (ds_ret (de_bin op_mod (de_bin op_mulW (de_bin op_fdivW (de_var (i := 1) Mn rfl (by decide) rfl (de_var (i := 3) Mn rfl (by decide) rfl (rv_ic ⟨_, _, rfl, rfl, (cdivB (by first | omega | (simp only [List.mem_cons, List.not_mem_nil, or_false] at *; omega) | (simp only [List.mem_cons, List.not_mem_nil, or_false] at *; split <;> omega)) (by first | omega | (simp only [List.mem_cons, List.not_mem_nil, or_false] at *; omega) | (simp only [List.mem_cons, List.not_mem_nil, or_false] at *; split <;> omega))), (de_call B c_undone (by decide) g_undone (da_cons (de_bin op_fdivW (de_var (i := 0) Mn rfl (by decide) rfl (de_var (i := 3) Mn rfl (by decide) rfl (rv_ic ⟨_, _, rfl, rfl, (cdivB (by first | omega | (simp only [List.mem_cons, List.not_mem_nil, or_false] at *; omega) | (simp only [List.mem_cons, List.not_mem_nil, or_false] at *; split <;> omega)) (by first | omega | (simp only [List.mem_cons, List.not_mem_nil, or_false] at *; omega) | (simp only [List.mem_cons, List.not_mem_nil, or_false] at *; split <;> omega))), (da_cons (de_var (i := 4) Mn rfl (by decide) rfl (da_nil ⟨rfl, _, _, rfl, rfl, (by first | assumption | omega | (simp; done) | exact .inl ⟨_, rfl⟩ | exact .inl ⟨_, _, _, rfl⟩ | exact .inr rfl), (by first | assumption | omega | (simp; done) | exact .inl ⟨_, rfl⟩ | exact .inl ⟨_, _, _, rfl⟩ | exact .inr rfl), fun u2 h20 h21 h22 => ⟨rfl, (rv_ic ⟨_, _, rfl, rfl, (cmulB (by first | omega | (simp only [List.mem_cons, List.not_mem_nil, or_false] at *; omega) | (simp only [List.mem_cons, List.not_mem_nil, or_false] at *; split <;> omega)) (by first | omega | (simp only [List.mem_cons, List.not_mem_nil, or_false] at *; omega) | (simp only [List.mem_cons, List.not_mem_nil, or_false] at *; split <;> omega))), (de_var (i := 4) Mn rfl (by decide) rfl (rv_ic ⟨_, _, rfl, rfl, (by show (0 : Int) < _; first | omega | (simp only [List.mem_cons, List.not_mem_nil, or_false] at *; omega) | (simp only [List.mem_cons, List.not_mem_nil, or_false] at *; split <;> omega)), (ret0 ?_)⟩))⟩)⟩⟩)))⟩))))))⟩)))))))
    exact q _ (least_law p4 hd h22)
theorem ok_least_solution {P : Program} {w : World} {K : PySem.W.Frag} {mg : Str → Option Value} {base : Heap} (T : Top1 K mg "least_solution" s_least_solution ["times", "rest", "by"]) (c_common : Cal P w K mg base CX0 "common" 1 (lift K sp_common)) (c_undone : Cal P w K mg base CX0 "undone" 2 (lift K sp_undone)) : Cal P w K mg base CX0 "least_solution" 3 (lift K sp_least_solution) :=
  cal_of T sc_least_solution (by rintro es μ Q ⟨_, _, _, rfl, _⟩; rfl) fun f cdv A outer s H E B es μ μh Q h => body_least_solution (X0 := cxOf CX0 P w K mg base N_least_solution "least_solution" (defScope s_least_solution) f cdv A outer s H E) (env0 := PyProof.Rows.envOfC "least_solution" (defScope s_least_solution) s.heap.objs.size f cdv) c_common c_undone B es μ μh Q h
end K07

namespace K07
open PySem PySem.Spec L2 Pw
/-! ### is_floor -/
abbrev s_is_floor : Stmt := topS 18
abbrev N_is_floor : List Str := ["thing"]
theorem sc_is_floor : FnScope N_is_floor ["thing"] (defScope s_is_floor) := ⟨rfl, rfl, rfl, by decide +kernel, rfl, by decide +kernel, by decide +kernel⟩
theorem nm_is_floor : nmC N_is_floor (defScope s_is_floor) [0] = true := by decide +kernel
theorem lc_is_floor : lcC N_is_floor (defScope s_is_floor) [0] = true := by decide +kernel
theorem gb_is_floor_is_tuple : gbC (defScope s_is_floor) "is_tuple" = true := by decide +kernel
theorem gb_is_floor_is_within : gbC (defScope s_is_floor) "is_within" = true := by decide +kernel
theorem gb_is_floor_MOST_SIZE : gbC (defScope s_is_floor) "MOST_SIZE" = true := by decide +kernel
def sp_is_floor : SpF := fun es μ P => ∃ (d : D), es = [.d d] ∧ μ = [] ∧ ((∃ a b c, d = fl a b c) ∨ d = .none) ∧ ∀ (r : Bool), (r = true ↔ IsFd d) → P (.d (.bool r)) []
theorem body_is_floor {X0 : Cx} {env0 : PySem.Env} (c_is_within : CalX X0 "is_within" 2 sp_is_within) (c_is_tuple : CalX X0 "is_tuple" 1 sp_is_tuple) (m_MOST_SIZE : ∃ t, X0.mg "MOST_SIZE" = some (.int (10 ^ 15) t)) (B : Bx (mkX X0 env0 N_is_floor (defScope s_is_floor)) 2) :
    ∀ (es : List Ent) (μ μh : Mu) (Q : Ent → Mu → Prop), sp_is_floor es μ Q → DSs (mkX X0 env0 N_is_floor (defScope s_is_floor)) (defBody s_is_floor) (slots0 N_is_floor es) (μ ++ μh) (Zof μ.length μh Q) := by
  rintro es μ μh Q ⟨d, rfl, rfl, p0, q⟩
  have Mn : Nm (mkX X0 env0 N_is_floor (defScope s_is_floor)) [0] := nm_of nm_is_floor
  have Ln : Lc (mkX X0 env0 N_is_floor (defScope s_is_floor)) [0] := lc_of lc_is_floor
  have g_is_tuple : Gb (mkX X0 env0 N_is_floor (defScope s_is_floor)) "is_tuple" := gb_of gb_is_floor_is_tuple
  have g_is_within : Gb (mkX X0 env0 N_is_floor (defScope s_is_floor)) "is_within" := gb_of gb_is_floor_is_within
  have g_MOST_SIZE : Gb (mkX X0 env0 N_is_floor (defScope s_is_floor)) "MOST_SIZE" := gb_of gb_is_floor_MOST_SIZE
  rcases p0 with ⟨a, b, c, rfl⟩ | rfl
  rotate_left
  · refine dss_cons (ds_if (dt_bool (dw_or (dt_not (dt_val (de_call B c_is_tuple (by decide) g_is_tuple (da_cons (de_var (i := 0) Mn rfl (by decide) rfl (da_cons (de_int (da_cons (de_int (da_nil ⟨rfl, _, _, _, rfl, rfl, .inr rfl, fun r3 h30 => ⟨rfl, ⟨_, rfl, ⟨fun hb => ?_, fun hb => ⟨fun ht => ?_, fun ht => ?_⟩⟩⟩⟩⟩)))))))))))))
    · exact absurd (h30.mp (by simpa using hb)) tupD_non
    · exact dss_cons (ds_ret (de_bl (ret0 (q _ ⟨(fun h => nomatch h), fun h => absurd h isFd_non⟩))))
    · cases ht
  -- if not is_tuple(thing, 3, 3) or not is_within(thing[0], 2, MOST_SIZE) or (not is_within(thing[1], 1, MOST_SIZE))
  refine dss_cons (ds_if (dt_bool (dw_or (dt_not (dt_val (de_call B c_is_tuple (by decide) g_is_tuple (da_cons (de_var (i := 0) Mn rfl (by decide) rfl (da_cons (de_int (da_cons (de_int (da_nil ⟨rfl, _, _, _, rfl, rfl, (by first | assumption | omega | (simp; done) | exact .inl ⟨_, rfl⟩ | exact .inl ⟨_, _, _, rfl⟩ | exact .inr rfl), fun r3 h30 => ⟨rfl, ⟨_, rfl, ⟨fun hb1 => (dw_or (dt_not (dt_val (de_call B c_is_within (by decide) g_is_within (da_cons (de_ix ix_tup (fun _ _ => rfl) (de_var (i := 0) Mn rfl (by decide) rfl (de_int (rv_ixT ⟨_, _, _, rfl, rfl, rfl, (da_cons (de_int (da_cons (de_glI g_MOST_SIZE m_MOST_SIZE.choose_spec (da_nil ⟨rfl, _, _, _, rfl, rfl, fun r2 h20 => ⟨rfl, ⟨_, rfl, ⟨fun hb2 => (dw_or1 (dt_not (dt_val (de_call B c_is_within (by decide) g_is_within (da_cons (de_ix ix_tup (fun _ _ => rfl) (de_var (i := 0) Mn rfl (by decide) rfl (de_int (rv_ixT ⟨_, _, _, rfl, rfl, rfl, (da_cons (de_int (da_cons (de_glI g_MOST_SIZE m_MOST_SIZE.choose_spec (da_nil ⟨rfl, _, _, _, rfl, rfl, fun r1 h10 => ⟨rfl, ⟨_, rfl, ⟨fun ht => ?_, fun ht => ?_⟩⟩⟩⟩)))))⟩))))))))), fun hb2 => ⟨fun ht => ?_, fun ht => ?_⟩⟩⟩⟩⟩)))))⟩))))))))), fun hb1 => ⟨fun ht => ?_, fun ht => ?_⟩⟩⟩⟩⟩)))))))))))))
  · try simp only [decide_eq_true_eq, decide_eq_false_iff_not, bne_iff_ne, Bool.not_eq_true', Bool.not_eq_false', ne_eq, beq_iff_eq] at ht
    refine dss_cons (ds_ret (de_bl (ret0 ?_)))
    have n := (bf h10).mp ht
    exact q _ ⟨(fun h => nomatch h), fun h => absurd (isFd_fl.mp h) (by unfold IsF; omega)⟩
  · try simp only [decide_eq_true_eq, decide_eq_false_iff_not, bne_iff_ne, Bool.not_eq_true', Bool.not_eq_false', ne_eq, beq_iff_eq] at ht
    refine dss_nil ?_
    refine dss_cons (ds_ret (de_call B c_is_within (by decide) g_is_within (da_cons (de_ix ix_tup (fun _ _ => rfl) (de_var (i := 0) Mn rfl (by decide) rfl (de_int (rv_ixT ⟨_, _, _, rfl, rfl, rfl, (da_cons (de_if (dt_cmp op_gt (nomark _) (de_ix ix_tup (fun _ _ => rfl) (de_var (i := 0) Mn rfl (by decide) rfl (de_int (rv_ixT ⟨_, _, _, rfl, rfl, rfl, (de_int (rv_b0 ⟨_, _, rfl, rfl, ⟨_, rfl, ⟨fun hi => (de_int (da_cons (de_bin op_sub (de_ix ix_tup (fun _ _ => rfl) (de_var (i := 0) Mn rfl (by decide) rfl (de_int (rv_ixT ⟨_, _, _, rfl, rfl, rfl, (de_int (rv_i0 ⟨_, _, rfl, rfl, (da_nil ⟨rfl, _, _, _, rfl, rfl, fun r4 h40 => ⟨rfl, (ret0 ?_)⟩⟩)⟩))⟩))))))), fun hi => (de_int (da_cons (de_bin op_sub (de_ix ix_tup (fun _ _ => rfl) (de_var (i := 0) Mn rfl (by decide) rfl (de_int (rv_ixT ⟨_, _, _, rfl, rfl, rfl, (de_int (rv_i0 ⟨_, _, rfl, rfl, (da_nil ⟨rfl, _, _, _, rfl, rfl, fun r4 h40 => ⟨rfl, (ret0 ?_)⟩⟩)⟩))⟩)))))))⟩⟩⟩))⟩)))))))⟩)))))))
    · have k1 := h10.mp ht
      have k2 := h20.mp (by simpa using hb2)
      have hi := of_decide_eq_true hi
      exact q _ (by rw [isFd_fl, h40]; unfold IsF; omega)
    · have k1 := h10.mp ht
      have k2 := h20.mp (by simpa using hb2)
      have hi := of_decide_eq_false hi
      exact q _ (by rw [isFd_fl, h40]; unfold IsF; omega)
  · refine dss_cons (ds_ret (de_bl (ret0 ?_)))
    have n := (bf h20).mp (by simpa using hb2)
    exact q _ ⟨(fun h => nomatch h), fun h => absurd (isFd_fl.mp h) (by unfold IsF; omega)⟩
  · cases ht
  · exact absurd (h30.mpr (tupD_rfl rfl)) (by simpa using hb1)
  · cases ht
theorem ok_is_floor {P : Program} {w : World} {K : PySem.W.Frag} {mg : Str → Option Value} {base : Heap} (T : Top1 K mg "is_floor" s_is_floor ["thing"]) (c_is_within : Cal P w K mg base CX0 "is_within" 2 (lift K sp_is_within)) (c_is_tuple : Cal P w K mg base CX0 "is_tuple" 1 (lift K sp_is_tuple)) (m_MOST_SIZE : ∃ t, mg "MOST_SIZE" = some (.int (10 ^ 15) t)) : Cal P w K mg base CX0 "is_floor" 3 (lift K sp_is_floor) :=
  cal_of T sc_is_floor (by rintro es μ Q ⟨_, rfl, _⟩; rfl) fun f cdv A outer s H E B es μ μh Q h => body_is_floor (X0 := cxOf CX0 P w K mg base N_is_floor "is_floor" (defScope s_is_floor) f cdv A outer s H E) (env0 := PyProof.Rows.envOfC "is_floor" (defScope s_is_floor) s.heap.objs.size f cdv) c_is_within c_is_tuple m_MOST_SIZE B es μ μh Q h
/-! ### check_floor -/
abbrev s_check_floor : Stmt := topS 19
abbrev N_check_floor : List Str := ["thing"]
theorem sc_check_floor : FnScope N_check_floor ["thing"] (defScope s_check_floor) := ⟨rfl, rfl, rfl, by decide +kernel, rfl, by decide +kernel, by decide +kernel⟩
theorem nm_check_floor : nmC N_check_floor (defScope s_check_floor) [0] = true := by decide +kernel
theorem lc_check_floor : lcC N_check_floor (defScope s_check_floor) [0] = true := by decide +kernel
theorem gb_check_floor_is_floor : gbC (defScope s_check_floor) "is_floor" = true := by decide +kernel
def sp_check_floor : SpF := fun es μ P => ∃ (a b c : Int), es = [.d (fl a b c)] ∧ μ = [] ∧ IsF a b c ∧ P (.d .none) []
theorem body_check_floor {X0 : Cx} {env0 : PySem.Env} (c_is_floor : CalX X0 "is_floor" 3 sp_is_floor) (B : Bx (mkX X0 env0 N_check_floor (defScope s_check_floor)) 3) :
    ∀ (es : List Ent) (μ μh : Mu) (Q : Ent → Mu → Prop), sp_check_floor es μ Q → DSs (mkX X0 env0 N_check_floor (defScope s_check_floor)) (defBody s_check_floor) (slots0 N_check_floor es) (μ ++ μh) (Zof μ.length μh Q) := by
  rintro es μ μh Q ⟨a, b, c, rfl, rfl, p0, q⟩
  have Mn : Nm (mkX X0 env0 N_check_floor (defScope s_check_floor)) [0] := nm_of nm_check_floor
  have Ln : Lc (mkX X0 env0 N_check_floor (defScope s_check_floor)) [0] := lc_of lc_check_floor
  have g_is_floor : Gb (mkX X0 env0 N_check_floor (defScope s_check_floor)) "is_floor" := gb_of gb_check_floor_is_floor
  -- if not is_floor(thing)
  refine dss_cons (ds_if (dt_not (dt_val (de_call B c_is_floor (by decide) g_is_floor (da_cons (de_var (i := 0) Mn rfl (by decide) rfl (da_nil ⟨rfl, _, rfl, rfl, (by first | assumption | omega | (simp; done) | exact .inl ⟨_, rfl⟩ | exact .inl ⟨_, _, _, rfl⟩ | exact .inr rfl), fun r1 h10 => ⟨rfl, ⟨_, rfl, ⟨fun ht => ?_, fun ht => ?_⟩⟩⟩⟩)))))))
  · try simp only [decide_eq_true_eq, decide_eq_false_iff_not, bne_iff_ne, Bool.not_eq_true', Bool.not_eq_false', ne_eq, beq_iff_eq] at ht
    -- raise raise NoFloor()
    exact absurd (h10.mpr (isFd_fl.mpr p0)) (by simp [ht])
  · try simp only [decide_eq_true_eq, decide_eq_false_iff_not, bne_iff_ne, Bool.not_eq_true', Bool.not_eq_false', ne_eq, beq_iff_eq] at ht
    exact dss_nil (dss_nil (ret0 q))
theorem ok_check_floor {P : Program} {w : World} {K : PySem.W.Frag} {mg : Str → Option Value} {base : Heap} (T : Top1 K mg "check_floor" s_check_floor ["thing"]) (c_is_floor : Cal P w K mg base CX0 "is_floor" 3 (lift K sp_is_floor)) : Cal P w K mg base CX0 "check_floor" 4 (lift K sp_check_floor) :=
  cal_of T sc_check_floor (by rintro es μ Q ⟨_, _, _, rfl, _⟩; rfl) fun f cdv A outer s H E B es μ μh Q h => body_check_floor (X0 := cxOf CX0 P w K mg base N_check_floor "check_floor" (defScope s_check_floor) f cdv A outer s H E) (env0 := PyProof.Rows.envOfC "check_floor" (defScope s_check_floor) s.heap.objs.size f cdv) c_is_floor B es μ μh Q h
/-! ### raw_is_cell -/
abbrev s_raw_is_cell : Stmt := topS 20
abbrev N_raw_is_cell : List Str := ["floor", "thing"]
theorem sc_raw_is_cell : FnScope N_raw_is_cell ["floor", "thing"] (defScope s_raw_is_cell) := ⟨rfl, rfl, rfl, by decide +kernel, rfl, by decide +kernel, by decide +kernel⟩
theorem nm_raw_is_cell : nmC N_raw_is_cell (defScope s_raw_is_cell) [0, 1] = true := by decide +kernel
theorem lc_raw_is_cell : lcC N_raw_is_cell (defScope s_raw_is_cell) [0, 1] = true := by decide +kernel
theorem gb_raw_is_cell_is_tuple : gbC (defScope s_raw_is_cell) "is_tuple" = true := by decide +kernel
theorem gb_raw_is_cell_is_within : gbC (defScope s_raw_is_cell) "is_within" = true := by decide +kernel
def sp_raw_is_cell : SpF := fun es μ P => ∃ (a b c x y : Int), es = [.d (fl a b c), .d (pr x y)] ∧ μ = [] ∧ ∀ (r : Bool), (r = true ↔ (0 ≤ x ∧ x ≤ a - 1) ∧ (0 ≤ y ∧ y ≤ b - 1)) → P (.d (.bool r)) []
theorem body_raw_is_cell {X0 : Cx} {env0 : PySem.Env} (c_is_tuple : CalX X0 "is_tuple" 1 sp_is_tuple) (c_is_within : CalX X0 "is_within" 2 sp_is_within) (B : Bx (mkX X0 env0 N_raw_is_cell (defScope s_raw_is_cell)) 2) :
    ∀ (es : List Ent) (μ μh : Mu) (Q : Ent → Mu → Prop), sp_raw_is_cell es μ Q → DSs (mkX X0 env0 N_raw_is_cell (defScope s_raw_is_cell)) (defBody s_raw_is_cell) (slots0 N_raw_is_cell es) (μ ++ μh) (Zof μ.length μh Q) := by
  rintro es μ μh Q ⟨a, b, c, x, y, rfl, rfl, q⟩
  have Mn : Nm (mkX X0 env0 N_raw_is_cell (defScope s_raw_is_cell)) [0, 1] := nm_of nm_raw_is_cell
  have Ln : Lc (mkX X0 env0 N_raw_is_cell (defScope s_raw_is_cell)) [0, 1] := lc_of lc_raw_is_cell
  have g_is_tuple : Gb (mkX X0 env0 N_raw_is_cell (defScope s_raw_is_cell)) "is_tuple" := gb_of gb_raw_is_cell_is_tuple
  have g_is_within : Gb (mkX X0 env0 N_raw_is_cell (defScope s_raw_is_cell)) "is_within" := gb_of gb_raw_is_cell_is_within
  refine dss_cons (ds_ret (de_and (de_call B c_is_tuple (by decide) g_is_tuple (da_cons (de_var (i := 1) Mn rfl (by decide) rfl (da_cons (de_int (da_cons (de_int (da_nil ⟨rfl, _, _, _, rfl, rfl, (by first | assumption | omega | (simp; done) | exact .inl ⟨_, rfl⟩ | exact .inl ⟨_, _, _, rfl⟩ | exact .inr rfl), fun r3 h30 => ⟨rfl, ⟨_, rfl, fun hb1 => (de_and (de_call B c_is_within (by decide) g_is_within (da_cons (de_ix ix_tup (fun _ _ => rfl) (de_var (i := 1) Mn rfl (by decide) rfl (de_int (rv_ixT ⟨_, _, _, rfl, rfl, rfl, (da_cons (de_int (da_cons (de_bin op_sub (de_ix ix_tup (fun _ _ => rfl) (de_var (i := 0) Mn rfl (by decide) rfl (de_int (rv_ixT ⟨_, _, _, rfl, rfl, rfl, (de_int (rv_i0 ⟨_, _, rfl, rfl, (da_nil ⟨rfl, _, _, _, rfl, rfl, fun r2 h20 => ⟨rfl, ⟨_, rfl, fun hb2 => (de_one (de_call B c_is_within (by decide) g_is_within (da_cons (de_ix ix_tup (fun _ _ => rfl) (de_var (i := 1) Mn rfl (by decide) rfl (de_int (rv_ixT ⟨_, _, _, rfl, rfl, rfl, (da_cons (de_int (da_cons (de_bin op_sub (de_ix ix_tup (fun _ _ => rfl) (de_var (i := 0) Mn rfl (by decide) rfl (de_int (rv_ixT ⟨_, _, _, rfl, rfl, rfl, (de_int (rv_i0 ⟨_, _, rfl, rfl, (da_nil ⟨rfl, _, _, _, rfl, rfl, fun r1 h10 => ⟨rfl, (ret0 ?_)⟩⟩)⟩))⟩))))))))⟩))))))), fun hb2 => (ret0 ?_)⟩⟩⟩)⟩))⟩))))))))⟩))))))), fun hb1 => (ret0 ?_)⟩⟩⟩))))))))))
  · exact q _ ⟨fun h => ⟨h20.mp hb2, h10.mp h⟩, fun h => h10.mpr h.2⟩
  · exact q _ ⟨(fun h => nomatch h), fun h => absurd (h20.mpr h.1) (by simp [hb2])⟩
  · exact absurd (h30.mpr (tupD_rfl rfl)) (by simp [hb1])
theorem ok_raw_is_cell {P : Program} {w : World} {K : PySem.W.Frag} {mg : Str → Option Value} {base : Heap} (T : Top1 K mg "raw_is_cell" s_raw_is_cell ["floor", "thing"]) (c_is_tuple : Cal P w K mg base CX0 "is_tuple" 1 (lift K sp_is_tuple)) (c_is_within : Cal P w K mg base CX0 "is_within" 2 (lift K sp_is_within)) : Cal P w K mg base CX0 "raw_is_cell" 3 (lift K sp_raw_is_cell) :=
  cal_of T sc_raw_is_cell (by rintro es μ Q ⟨_, _, _, _, _, rfl, _⟩; rfl) fun f cdv A outer s H E B es μ μh Q h => body_raw_is_cell (X0 := cxOf CX0 P w K mg base N_raw_is_cell "raw_is_cell" (defScope s_raw_is_cell) f cdv A outer s H E) (env0 := PyProof.Rows.envOfC "raw_is_cell" (defScope s_raw_is_cell) s.heap.objs.size f cdv) c_is_tuple c_is_within B es μ μh Q h
/-! ### need_cell -/
abbrev s_need_cell : Stmt := topS 21
abbrev N_need_cell : List Str := ["floor", "thing"]
theorem sc_need_cell : FnScope N_need_cell ["floor", "thing"] (defScope s_need_cell) := ⟨rfl, rfl, rfl, by decide +kernel, rfl, by decide +kernel, by decide +kernel⟩
theorem nm_need_cell : nmC N_need_cell (defScope s_need_cell) [0, 1] = true := by decide +kernel
theorem lc_need_cell : lcC N_need_cell (defScope s_need_cell) [0, 1] = true := by decide +kernel
theorem gb_need_cell_raw_is_cell : gbC (defScope s_need_cell) "raw_is_cell" = true := by decide +kernel
def sp_need_cell : SpF := fun es μ P => ∃ (a b c x y : Int), es = [.d (fl a b c), .d (pr x y)] ∧ μ = [] ∧ 0 ≤ x ∧ x < a ∧ 0 ≤ y ∧ y < b ∧ P (.d .none) []
theorem body_need_cell {X0 : Cx} {env0 : PySem.Env} (c_raw_is_cell : CalX X0 "raw_is_cell" 3 sp_raw_is_cell) (B : Bx (mkX X0 env0 N_need_cell (defScope s_need_cell)) 3) :
    ∀ (es : List Ent) (μ μh : Mu) (Q : Ent → Mu → Prop), sp_need_cell es μ Q → DSs (mkX X0 env0 N_need_cell (defScope s_need_cell)) (defBody s_need_cell) (slots0 N_need_cell es) (μ ++ μh) (Zof μ.length μh Q) := by
  rintro es μ μh Q ⟨a, b, c, x, y, rfl, rfl, p0, p1, p2, p3, q⟩
  have Mn : Nm (mkX X0 env0 N_need_cell (defScope s_need_cell)) [0, 1] := nm_of nm_need_cell
  have Ln : Lc (mkX X0 env0 N_need_cell (defScope s_need_cell)) [0, 1] := lc_of lc_need_cell
  have g_raw_is_cell : Gb (mkX X0 env0 N_need_cell (defScope s_need_cell)) "raw_is_cell" := gb_of gb_need_cell_raw_is_cell
  -- if not raw_is_cell(floor, thing)
  refine dss_cons (ds_if (dt_not (dt_val (de_call B c_raw_is_cell (by decide) g_raw_is_cell (da_cons (de_var (i := 0) Mn rfl (by decide) rfl (da_cons (de_var (i := 1) Mn rfl (by decide) rfl (da_nil ⟨rfl, _, _, _, _, _, rfl, rfl, fun r1 h10 => ⟨rfl, ⟨_, rfl, ⟨fun ht => ?_, fun ht => ?_⟩⟩⟩⟩)))))))))
  · try simp only [decide_eq_true_eq, decide_eq_false_iff_not, bne_iff_ne, Bool.not_eq_true', Bool.not_eq_false', ne_eq, beq_iff_eq] at ht
    -- raise raise NoCell()
    exact absurd (h10.mpr (by omega)) (by simp [ht])
  · try simp only [decide_eq_true_eq, decide_eq_false_iff_not, bne_iff_ne, Bool.not_eq_true', Bool.not_eq_false', ne_eq, beq_iff_eq] at ht
    exact dss_nil (dss_nil (ret0 q))
theorem ok_need_cell {P : Program} {w : World} {K : PySem.W.Frag} {mg : Str → Option Value} {base : Heap} (T : Top1 K mg "need_cell" s_need_cell ["floor", "thing"]) (c_raw_is_cell : Cal P w K mg base CX0 "raw_is_cell" 3 (lift K sp_raw_is_cell)) : Cal P w K mg base CX0 "need_cell" 4 (lift K sp_need_cell) :=
  cal_of T sc_need_cell (by rintro es μ Q ⟨_, _, _, _, _, rfl, _⟩; rfl) fun f cdv A outer s H E B es μ μh Q h => body_need_cell (X0 := cxOf CX0 P w K mg base N_need_cell "need_cell" (defScope s_need_cell) f cdv A outer s H E) (env0 := PyProof.Rows.envOfC "need_cell" (defScope s_need_cell) s.heap.objs.size f cdv) c_raw_is_cell B es μ μh Q h
/-! ### raw_many -/
abbrev s_raw_many : Stmt := topS 22
abbrev N_raw_many : List Str := ["floor"]
theorem sc_raw_many : FnScope N_raw_many ["floor"] (defScope s_raw_many) := ⟨rfl, rfl, rfl, by decide +kernel, rfl, by decide +kernel, by decide +kernel⟩
theorem nm_raw_many : nmC N_raw_many (defScope s_raw_many) [0] = true := by decide +kernel
theorem lc_raw_many : lcC N_raw_many (defScope s_raw_many) [0] = true := by decide +kernel
def sp_raw_many : SpF := fun es μ P => ∃ (a b c : Int), es = [.d (fl a b c)] ∧ μ = [] ∧ 0 ≤ a ∧ a ≤ 10 ^ 60 ∧ 0 ≤ b ∧ b ≤ 10 ^ 60 ∧ P (.d (.int (a * b))) []
theorem body_raw_many {X0 : Cx} {env0 : PySem.Env}  (B : Bx (mkX X0 env0 N_raw_many (defScope s_raw_many)) 0) :
    ∀ (es : List Ent) (μ μh : Mu) (Q : Ent → Mu → Prop), sp_raw_many es μ Q → DSs (mkX X0 env0 N_raw_many (defScope s_raw_many)) (defBody s_raw_many) (slots0 N_raw_many es) (μ ++ μh) (Zof μ.length μh Q) := by
  rintro es μ μh Q ⟨a, b, c, rfl, rfl, p0, p1, p2, p3, q⟩
  have Mn : Nm (mkX X0 env0 N_raw_many (defScope s_raw_many)) [0] := nm_of nm_raw_many
  have Ln : Lc (mkX X0 env0 N_raw_many (defScope s_raw_many)) [0] := lc_of lc_raw_many
  refine dss_cons (ds_ret (de_bin op_mulW (de_ix ix_tup (fun _ _ => rfl) (de_var (i := 0) Mn rfl (by decide) rfl (de_int (rv_ixT ⟨_, _, _, rfl, rfl, rfl, (de_ix ix_tup (fun _ _ => rfl) (de_var (i := 0) Mn rfl (by decide) rfl (de_int (rv_ixT ⟨_, _, _, rfl, rfl, rfl, (rv_ic ⟨_, _, rfl, rfl, (cmulB (by first | omega | (simp only [List.mem_cons, List.not_mem_nil, or_false] at *; omega) | (simp only [List.mem_cons, List.not_mem_nil, or_false] at *; split <;> omega)) (by first | omega | (simp only [List.mem_cons, List.not_mem_nil, or_false] at *; omega) | (simp only [List.mem_cons, List.not_mem_nil, or_false] at *; split <;> omega))), (ret0 ?_)⟩)⟩))))⟩))))))
  exact q
theorem ok_raw_many {P : Program} {w : World} {K : PySem.W.Frag} {mg : Str → Option Value} {base : Heap} (T : Top1 K mg "raw_many" s_raw_many ["floor"])  : Cal P w K mg base CX0 "raw_many" 1 (lift K sp_raw_many) :=
  cal_of T sc_raw_many (by rintro es μ Q ⟨_, _, _, rfl, _⟩; rfl) fun f cdv A outer s H E B es μ μh Q h => body_raw_many (X0 := cxOf CX0 P w K mg base N_raw_many "raw_many" (defScope s_raw_many) f cdv A outer s H E) (env0 := PyProof.Rows.envOfC "raw_many" (defScope s_raw_many) s.heap.objs.size f cdv)  B es μ μh Q h
/-! ### is_vector -/
abbrev s_is_vector : Stmt := topS 25
abbrev N_is_vector : List Str := ["thing", "one"]
theorem sc_is_vector : FnScope N_is_vector ["thing"] (defScope s_is_vector) := ⟨rfl, rfl, rfl, by decide +kernel, rfl, by decide +kernel, by decide +kernel⟩
theorem nm_is_vector : nmC N_is_vector (defScope s_is_vector) [0] = true := by decide +kernel
theorem lc_is_vector : lcC N_is_vector (defScope s_is_vector) [0] = true := by decide +kernel
theorem gb_is_vector_is_tuple : gbC (defScope s_is_vector) "is_tuple" = true := by decide +kernel
theorem gb_is_vector_all : gbC (defScope s_is_vector) "all" = true := by decide +kernel
def sp_is_vector : SpF := fun es μ P => ∃ (p s : Int), es = [.d (pr p s)] ∧ μ = [] ∧ ∀ (r : Bool), (r = true ↔ IsV p s) → P (.d (.bool r)) []
theorem body_is_vector {X0 : Cx} {env0 : PySem.Env} (c_is_tuple : CalX X0 "is_tuple" 1 sp_is_tuple) (m_all : X0.mg "all" = none) (c_is_within : CalX X0 "is_within" 2 sp_is_within) (m_MOST_PART : ∃ t, X0.mg "MOST_PART" = some (.int (10 ^ 30) t)) (B : Bx (mkX X0 env0 N_is_vector (defScope s_is_vector)) 2) :
    ∀ (es : List Ent) (μ μh : Mu) (Q : Ent → Mu → Prop), sp_is_vector es μ Q → DSs (mkX X0 env0 N_is_vector (defScope s_is_vector)) (defBody s_is_vector) (slots0 N_is_vector es) (μ ++ μh) (Zof μ.length μh Q) := by
  rintro es μ μh Q ⟨p, s, rfl, rfl, q⟩
  have Mn : Nm (mkX X0 env0 N_is_vector (defScope s_is_vector)) [0] := nm_of nm_is_vector
  have Ln : Lc (mkX X0 env0 N_is_vector (defScope s_is_vector)) [0] := lc_of lc_is_vector
  have g_is_tuple : Gb (mkX X0 env0 N_is_vector (defScope s_is_vector)) "is_tuple" := gb_of gb_is_vector_is_tuple
  have g_all : Gb (mkX X0 env0 N_is_vector (defScope s_is_vector)) "all" := gb_of gb_is_vector_all
  refine dss_cons (ds_ret (de_and (de_call B c_is_tuple (by decide) g_is_tuple (da_cons (de_var (i := 0) Mn rfl (by decide) rfl (da_cons (de_int (da_cons (de_int (da_nil ⟨rfl, _, _, _, rfl, rfl, (by first | assumption | omega | (simp; done) | exact .inl ⟨_, rfl⟩ | exact .inl ⟨_, _, _, rfl⟩ | exact .inr rfl), fun r2 h20 => ⟨rfl, ⟨_, rfl, fun hb1 => (de_one (de_callB (cr_all rfl) g_all m_all (by decide +kernel) (da_cons (de_lcMap (own := [("one", 1)]) (g := (gName 1)) (vecF) rfl Ln.nd (blkOk_by (by show blkC N_is_vector (defScope s_is_vector) _ _ = true; decide +kernel)) (fun _ _ _ _ _ => pg_name (i := 1) Ln.nd rfl (Or.inl rfl)) (di_tup (de_var (i := 0) Mn rfl (by decide) rfl ⟨_, rfl, ⟨(by first | exact ltS (n := 1) rfl (by decide) | exact ltS (n := 2) rfl (by decide) | exact ltS (n := 3) rfl (by decide) | exact ltS (n := 4) rfl (by decide) | exact ltS (n := 5) rfl (by decide) | exact ltS (n := 6) rfl (by decide)), ?_, (da_nil (rc_all ⟨[decide (-(10 ^ 30) ≤ p ∧ p ≤ 10 ^ 30), decide (-(10 ^ 30) ≤ s ∧ s ≤ 10 ^ 30)], rfl, (ret0 ?_)⟩))⟩⟩)))))), fun hb1 => (ret0 ?_)⟩⟩⟩))))))))))
  · intro d hd acc
    rcases List.mem_cons.mp hd with rfl | hd; rotate_left; rcases List.mem_cons.mp hd with rfl | hd; rotate_left; cases hd; all_goals
    refine (dgc_name (by decide) (fun _ _ _ _ _ => (de_call (bx_blk B) c_is_within (by decide) (gb_blk (x := "is_within") rfl) (da_cons (de_var (i := 1) (nm_blk (vi := [1]) rfl) rfl (by decide) rfl (da_cons (de_un un_neg (de_glI (gb_blk (x := "MOST_PART") rfl) m_MOST_PART.choose_spec (ru_i ⟨_, rfl, (da_cons (de_glI (gb_blk (x := "MOST_PART") rfl) m_MOST_PART.choose_spec (da_nil ⟨rfl, _, _, _, rfl, rfl, fun r1 h10 => ⟨rfl, ⟨vec1 h10, rfl⟩⟩⟩)))⟩)))))))))
  · exact q _ (by unfold IsV; simp; omega)
  · exact absurd (h20.mpr (tupD_rfl rfl)) (by simp [hb1])
theorem ok_is_vector {P : Program} {w : World} {K : PySem.W.Frag} {mg : Str → Option Value} {base : Heap} (T : Top1 K mg "is_vector" s_is_vector ["thing"]) (c_is_tuple : Cal P w K mg base CX0 "is_tuple" 1 (lift K sp_is_tuple)) (m_all : mg "all" = none) (c_is_within : Cal P w K mg base CX0 "is_within" 2 (lift K sp_is_within)) (m_MOST_PART : ∃ t, mg "MOST_PART" = some (.int (10 ^ 30) t)) : Cal P w K mg base CX0 "is_vector" 3 (lift K sp_is_vector) :=
  cal_of T sc_is_vector (by rintro es μ Q ⟨_, _, rfl, _⟩; rfl) fun f cdv A outer s H E B es μ μh Q h => body_is_vector (X0 := cxOf CX0 P w K mg base N_is_vector "is_vector" (defScope s_is_vector) f cdv A outer s H E) (env0 := PyProof.Rows.envOfC "is_vector" (defScope s_is_vector) s.heap.objs.size f cdv) c_is_tuple m_all c_is_within m_MOST_PART B es μ μh Q h
/-! ### need_vector -/
abbrev s_need_vector : Stmt := topS 26
abbrev N_need_vector : List Str := ["thing"]
theorem sc_need_vector : FnScope N_need_vector ["thing"] (defScope s_need_vector) := ⟨rfl, rfl, rfl, by decide +kernel, rfl, by decide +kernel, by decide +kernel⟩
theorem nm_need_vector : nmC N_need_vector (defScope s_need_vector) [0] = true := by decide +kernel
theorem lc_need_vector : lcC N_need_vector (defScope s_need_vector) [0] = true := by decide +kernel
theorem gb_need_vector_is_vector : gbC (defScope s_need_vector) "is_vector" = true := by decide +kernel
def sp_need_vector : SpF := fun es μ P => ∃ (p s : Int), es = [.d (pr p s)] ∧ μ = [] ∧ IsV p s ∧ P (.d .none) []
theorem body_need_vector {X0 : Cx} {env0 : PySem.Env} (c_is_vector : CalX X0 "is_vector" 3 sp_is_vector) (B : Bx (mkX X0 env0 N_need_vector (defScope s_need_vector)) 3) :
    ∀ (es : List Ent) (μ μh : Mu) (Q : Ent → Mu → Prop), sp_need_vector es μ Q → DSs (mkX X0 env0 N_need_vector (defScope s_need_vector)) (defBody s_need_vector) (slots0 N_need_vector es) (μ ++ μh) (Zof μ.length μh Q) := by
  rintro es μ μh Q ⟨p, s, rfl, rfl, p0, q⟩
  have Mn : Nm (mkX X0 env0 N_need_vector (defScope s_need_vector)) [0] := nm_of nm_need_vector
  have Ln : Lc (mkX X0 env0 N_need_vector (defScope s_need_vector)) [0] := lc_of lc_need_vector
  have g_is_vector : Gb (mkX X0 env0 N_need_vector (defScope s_need_vector)) "is_vector" := gb_of gb_need_vector_is_vector
  -- if not is_vector(thing)
  refine dss_cons (ds_if (dt_not (dt_val (de_call B c_is_vector (by decide) g_is_vector (da_cons (de_var (i := 0) Mn rfl (by decide) rfl (da_nil ⟨rfl, _, _, rfl, rfl, fun r1 h10 => ⟨rfl, ⟨_, rfl, ⟨fun ht => ?_, fun ht => ?_⟩⟩⟩⟩)))))))
  · try simp only [decide_eq_true_eq, decide_eq_false_iff_not, bne_iff_ne, Bool.not_eq_true', Bool.not_eq_false', ne_eq, beq_iff_eq] at ht
    -- raise raise NoVector()
    exact absurd (h10.mpr p0) (by simp [ht])
  · try simp only [decide_eq_true_eq, decide_eq_false_iff_not, bne_iff_ne, Bool.not_eq_true', Bool.not_eq_false', ne_eq, beq_iff_eq] at ht
    exact dss_nil (dss_nil (ret0 q))
theorem ok_need_vector {P : Program} {w : World} {K : PySem.W.Frag} {mg : Str → Option Value} {base : Heap} (T : Top1 K mg "need_vector" s_need_vector ["thing"]) (c_is_vector : Cal P w K mg base CX0 "is_vector" 3 (lift K sp_is_vector)) : Cal P w K mg base CX0 "need_vector" 4 (lift K sp_need_vector) :=
  cal_of T sc_need_vector (by rintro es μ Q ⟨_, _, rfl, _⟩; rfl) fun f cdv A outer s H E B es μ μh Q h => body_need_vector (X0 := cxOf CX0 P w K mg base N_need_vector "need_vector" (defScope s_need_vector) f cdv A outer s H E) (env0 := PyProof.Rows.envOfC "need_vector" (defScope s_need_vector) s.heap.objs.size f cdv) c_is_vector B es μ μh Q h
/-! ### raw_led -/
abbrev s_raw_led : Stmt := topS 27
abbrev N_raw_led : List Str := ["floor", "cell", "vector", "times", "y"]
theorem sc_raw_led : FnScope N_raw_led ["floor", "cell", "vector"] (defScope s_raw_led) := ⟨rfl, rfl, rfl, by decide +kernel, rfl, by decide +kernel, by decide +kernel⟩
theorem nm_raw_led : nmC N_raw_led (defScope s_raw_led) [0, 1, 2, 3, 4] = true := by decide +kernel
theorem lc_raw_led : lcC N_raw_led (defScope s_raw_led) [0, 1, 2, 3, 4] = true := by decide +kernel
theorem gb_raw_led_divmod : gbC (defScope s_raw_led) "divmod" = true := by decide +kernel
def sp_raw_led : SpF := fun es μ P => ∃ (a b c x y p s : Int), es = [.d (fl a b c), .d (pr x y), .d (pr p s)] ∧ μ = [] ∧ FB a b c ∧ (Bd x ∧ Bd y ∧ Bd p ∧ Bd s) ∧ P (.d (pr ((x + p + (y + s) / b * c) % a) ((y + s) % b))) []
theorem body_raw_led {X0 : Cx} {env0 : PySem.Env} (m_divmod : X0.mg "divmod" = none) (B : Bx (mkX X0 env0 N_raw_led (defScope s_raw_led)) 0) :
    ∀ (es : List Ent) (μ μh : Mu) (Q : Ent → Mu → Prop), sp_raw_led es μ Q → DSs (mkX X0 env0 N_raw_led (defScope s_raw_led)) (defBody s_raw_led) (slots0 N_raw_led es) (μ ++ μh) (Zof μ.length μh Q) := by
  rintro es μ μh Q ⟨a, b, c, x, y, p, s, rfl, rfl, p0, p1, q⟩
  have Mn : Nm (mkX X0 env0 N_raw_led (defScope s_raw_led)) [0, 1, 2, 3, 4] := nm_of nm_raw_led
  have Ln : Lc (mkX X0 env0 N_raw_led (defScope s_raw_led)) [0, 1, 2, 3, 4] := lc_of lc_raw_led
  have g_divmod : Gb (mkX X0 env0 N_raw_led (defScope s_raw_led)) "divmod" := gb_of gb_raw_led_divmod
  obtain ⟨f1, f2, f3, f4, f5, f6⟩ := p0
  obtain ⟨⟨b1, b2⟩, ⟨b3, b4⟩, ⟨b5, b6⟩, ⟨b7, b8⟩⟩ := p1
  have tb : ((y + s) / b).natAbs ≤ 10 ^ 60 := ediv_abs f3 (by omega)
  -- times, y = divmod(cell[1] + vector[1], floor[1])
  refine dss_cons (ds_asg (de_callB call_divmodG g_divmod m_divmod (by decide +kernel) (da_cons (de_bin op_add (de_ix ix_tup (fun _ _ => rfl) (de_var (i := 1) Mn rfl (by decide) rfl (de_int (rv_ixT ⟨_, _, _, rfl, rfl, rfl, (de_ix ix_tup (fun _ _ => rfl) (de_var (i := 2) Mn rfl (by decide) rfl (de_int (rv_ixT ⟨_, _, _, rfl, rfl, rfl, (rv_i0 ⟨_, _, rfl, rfl, (da_cons (de_ix ix_tup (fun _ _ => rfl) (de_var (i := 0) Mn rfl (by decide) rfl (de_int (rv_ixT ⟨_, _, _, rfl, rfl, rfl, (da_nil (rc_divmodW ⟨_, _, rfl, (cdivG (by omega) (by omega)), (dg_tup rfl rfl (dgs_name (i := 3) Ln rfl (by decide) (dgs_name (i := 4) Ln rfl (by decide) (dgs_nil ?_))))⟩))⟩)))))⟩)⟩))))⟩))))))))
  refine dss_cons (ds_ret (de_tup (da_cons (de_bin op_mod (de_bin op_add (de_bin op_add (de_ix ix_tup (fun _ _ => rfl) (de_var (i := 1) Mn rfl (by decide) rfl (de_int (rv_ixT ⟨_, _, _, rfl, rfl, rfl, (de_ix ix_tup (fun _ _ => rfl) (de_var (i := 2) Mn rfl (by decide) rfl (de_int (rv_ixT ⟨_, _, _, rfl, rfl, rfl, (rv_i0 ⟨_, _, rfl, rfl, (de_bin op_mulW (de_var (i := 3) Mn rfl (by decide) rfl (de_ix ix_tup (fun _ _ => rfl) (de_var (i := 0) Mn rfl (by decide) rfl (de_int (rv_ixT ⟨_, _, _, rfl, rfl, rfl, (rv_ic ⟨_, _, rfl, rfl, (cmulB (by first | omega | (simp only [List.mem_cons, List.not_mem_nil, or_false] at *; omega) | (simp only [List.mem_cons, List.not_mem_nil, or_false] at *; split <;> omega)) (by first | omega | (simp only [List.mem_cons, List.not_mem_nil, or_false] at *; omega) | (simp only [List.mem_cons, List.not_mem_nil, or_false] at *; split <;> omega))), (rv_i0 ⟨_, _, rfl, rfl, (de_ix ix_tup (fun _ _ => rfl) (de_var (i := 0) Mn rfl (by decide) rfl (de_int (rv_ixT ⟨_, _, _, rfl, rfl, rfl, (rv_ic ⟨_, _, rfl, rfl, (by show (0 : Int) < _; first | omega | (simp only [List.mem_cons, List.not_mem_nil, or_false] at *; omega) | (simp only [List.mem_cons, List.not_mem_nil, or_false] at *; split <;> omega)), (da_cons (de_var (i := 4) Mn rfl (by decide) rfl (da_nil ⟨[_, _], rfl, lenS (n := 2) rfl (by decide), (ret0 ?_)⟩)))⟩)⟩))))⟩)⟩)⟩))))))⟩)⟩))))⟩))))))))))
  exact q
theorem ok_raw_led {P : Program} {w : World} {K : PySem.W.Frag} {mg : Str → Option Value} {base : Heap} (T : Top1 K mg "raw_led" s_raw_led ["floor", "cell", "vector"]) (m_divmod : mg "divmod" = none) : Cal P w K mg base CX0 "raw_led" 1 (lift K sp_raw_led) :=
  cal_of T sc_raw_led (by rintro es μ Q ⟨_, _, _, _, _, _, _, rfl, _⟩; rfl) fun f cdv A outer s H E B es μ μh Q h => body_raw_led (X0 := cxOf CX0 P w K mg base N_raw_led "raw_led" (defScope s_raw_led) f cdv A outer s H E) (env0 := PyProof.Rows.envOfC "raw_led" (defScope s_raw_led) s.heap.objs.size f cdv) m_divmod B es μ μh Q h
/-! ### raw_closes -/
abbrev s_raw_closes : Stmt := topS 28
abbrev N_raw_closes : List Str := ["floor", "vector"]
theorem sc_raw_closes : FnScope N_raw_closes ["floor", "vector"] (defScope s_raw_closes) := ⟨rfl, rfl, rfl, by decide +kernel, rfl, by decide +kernel, by decide +kernel⟩
theorem nm_raw_closes : nmC N_raw_closes (defScope s_raw_closes) [0, 1] = true := by decide +kernel
theorem lc_raw_closes : lcC N_raw_closes (defScope s_raw_closes) [0, 1] = true := by decide +kernel
def sp_raw_closes : SpF := fun es μ P => ∃ (a b c p s : Int), es = [.d (fl a b c), .d (pr p s)] ∧ μ = [] ∧ FB a b c ∧ (Bd p ∧ Bd s) ∧ ∀ (r : Bool), (r = true ↔ Clo a b c p s) → P (.d (.bool r)) []
theorem body_raw_closes {X0 : Cx} {env0 : PySem.Env}  (B : Bx (mkX X0 env0 N_raw_closes (defScope s_raw_closes)) 0) :
    ∀ (es : List Ent) (μ μh : Mu) (Q : Ent → Mu → Prop), sp_raw_closes es μ Q → DSs (mkX X0 env0 N_raw_closes (defScope s_raw_closes)) (defBody s_raw_closes) (slots0 N_raw_closes es) (μ ++ μh) (Zof μ.length μh Q) := by
  rintro es μ μh Q ⟨a, b, c, p, s, rfl, rfl, p0, p1, q⟩
  have Mn : Nm (mkX X0 env0 N_raw_closes (defScope s_raw_closes)) [0, 1] := nm_of nm_raw_closes
  have Ln : Lc (mkX X0 env0 N_raw_closes (defScope s_raw_closes)) [0, 1] := lc_of lc_raw_closes
  obtain ⟨f1, f2, f3, f4, f5, f6⟩ := p0
  obtain ⟨⟨b5, b6⟩, ⟨b7, b8⟩⟩ := p1
  have tb : (s / b).natAbs ≤ 10 ^ 60 := ediv_abs f3 (by omega)
  refine dss_cons (ds_ret (de_and (de_cmp op_eq (nomark _) (de_bin op_mod (de_ix ix_tup (fun _ _ => rfl) (de_var (i := 1) Mn rfl (by decide) rfl (de_int (rv_ixT ⟨_, _, _, rfl, rfl, rfl, (de_ix ix_tup (fun _ _ => rfl) (de_var (i := 0) Mn rfl (by decide) rfl (de_int (rv_ixT ⟨_, _, _, rfl, rfl, rfl, (rv_ic ⟨_, _, rfl, rfl, (by show (0 : Int) < _; first | omega | (simp only [List.mem_cons, List.not_mem_nil, or_false] at *; omega) | (simp only [List.mem_cons, List.not_mem_nil, or_false] at *; split <;> omega)), (de_int (rv_eqI ⟨_, _, rfl, rfl, ⟨_, rfl, fun hb1 => (de_one (de_cmp op_eq (nomark _) (de_bin op_mod (de_bin op_add (de_ix ix_tup (fun _ _ => rfl) (de_var (i := 1) Mn rfl (by decide) rfl (de_int (rv_ixT ⟨_, _, _, rfl, rfl, rfl, (de_bin op_mulW (de_bin op_fdivW (de_ix ix_tup (fun _ _ => rfl) (de_var (i := 1) Mn rfl (by decide) rfl (de_int (rv_ixT ⟨_, _, _, rfl, rfl, rfl, (de_ix ix_tup (fun _ _ => rfl) (de_var (i := 0) Mn rfl (by decide) rfl (de_int (rv_ixT ⟨_, _, _, rfl, rfl, rfl, (rv_ic ⟨_, _, rfl, rfl, (cdivB (by first | omega | (simp only [List.mem_cons, List.not_mem_nil, or_false] at *; omega) | (simp only [List.mem_cons, List.not_mem_nil, or_false] at *; split <;> omega)) (by first | omega | (simp only [List.mem_cons, List.not_mem_nil, or_false] at *; omega) | (simp only [List.mem_cons, List.not_mem_nil, or_false] at *; split <;> omega))), (de_ix ix_tup (fun _ _ => rfl) (de_var (i := 0) Mn rfl (by decide) rfl (de_int (rv_ixT ⟨_, _, _, rfl, rfl, rfl, (rv_ic ⟨_, _, rfl, rfl, (cmulB (by first | omega | (simp only [List.mem_cons, List.not_mem_nil, or_false] at *; omega) | (simp only [List.mem_cons, List.not_mem_nil, or_false] at *; split <;> omega)) (by first | omega | (simp only [List.mem_cons, List.not_mem_nil, or_false] at *; omega) | (simp only [List.mem_cons, List.not_mem_nil, or_false] at *; split <;> omega))), (rv_i0 ⟨_, _, rfl, rfl, (de_ix ix_tup (fun _ _ => rfl) (de_var (i := 0) Mn rfl (by decide) rfl (de_int (rv_ixT ⟨_, _, _, rfl, rfl, rfl, (rv_ic ⟨_, _, rfl, rfl, (by show (0 : Int) < _; first | omega | (simp only [List.mem_cons, List.not_mem_nil, or_false] at *; omega) | (simp only [List.mem_cons, List.not_mem_nil, or_false] at *; split <;> omega)), (de_int (rv_eqI ⟨_, _, rfl, rfl, (ret0 ?_)⟩))⟩)⟩))))⟩)⟩)⟩))))⟩)⟩))))⟩))))))⟩)))))))), fun hb1 => (ret0 ?_)⟩⟩))⟩)⟩))))⟩))))))))
  · exact q _ (by unfold Clo; simp_all)
  · exact q _ (by unfold Clo; simp_all)
theorem ok_raw_closes {P : Program} {w : World} {K : PySem.W.Frag} {mg : Str → Option Value} {base : Heap} (T : Top1 K mg "raw_closes" s_raw_closes ["floor", "vector"])  : Cal P w K mg base CX0 "raw_closes" 1 (lift K sp_raw_closes) :=
  cal_of T sc_raw_closes (by rintro es μ Q ⟨_, _, _, _, _, rfl, _⟩; rfl) fun f cdv A outer s H E B es μ μh Q h => body_raw_closes (X0 := cxOf CX0 P w K mg base N_raw_closes "raw_closes" (defScope s_raw_closes) f cdv A outer s H E) (env0 := PyProof.Rows.envOfC "raw_closes" (defScope s_raw_closes) s.heap.objs.size f cdv)  B es μ μh Q h
end K07

namespace K07
open PySem PySem.Spec L2 Pw
/-! ### check_vector -/
abbrev s_check_vector : Stmt := topS 29
abbrev N_check_vector : List Str := ["floor", "vector"]
theorem sc_check_vector : FnScope N_check_vector ["floor", "vector"] (defScope s_check_vector) := ⟨rfl, rfl, rfl, by decide +kernel, rfl, by decide +kernel, by decide +kernel⟩
theorem nm_check_vector : nmC N_check_vector (defScope s_check_vector) [0, 1] = true := by decide +kernel
theorem lc_check_vector : lcC N_check_vector (defScope s_check_vector) [0, 1] = true := by decide +kernel
theorem gb_check_vector_check_floor : gbC (defScope s_check_vector) "check_floor" = true := by decide +kernel
theorem gb_check_vector_need_vector : gbC (defScope s_check_vector) "need_vector" = true := by decide +kernel
def sp_check_vector : SpF := fun es μ P => ∃ (a b c p s : Int), es = [.d (fl a b c), .d (pr p s)] ∧ μ = [] ∧ IsF a b c ∧ IsV p s ∧ P (.d .none) []
theorem body_check_vector {X0 : Cx} {env0 : PySem.Env} (c_check_floor : CalX X0 "check_floor" 4 sp_check_floor) (c_need_vector : CalX X0 "need_vector" 4 sp_need_vector) (B : Bx (mkX X0 env0 N_check_vector (defScope s_check_vector)) 4) :
    ∀ (es : List Ent) (μ μh : Mu) (Q : Ent → Mu → Prop), sp_check_vector es μ Q → DSs (mkX X0 env0 N_check_vector (defScope s_check_vector)) (defBody s_check_vector) (slots0 N_check_vector es) (μ ++ μh) (Zof μ.length μh Q) := by
  rintro es μ μh Q ⟨a, b, c, p, s, rfl, rfl, p0, p1, q⟩
  have Mn : Nm (mkX X0 env0 N_check_vector (defScope s_check_vector)) [0, 1] := nm_of nm_check_vector
  have Ln : Lc (mkX X0 env0 N_check_vector (defScope s_check_vector)) [0, 1] := lc_of lc_check_vector
  have g_check_floor : Gb (mkX X0 env0 N_check_vector (defScope s_check_vector)) "check_floor" := gb_of gb_check_vector_check_floor
  have g_need_vector : Gb (mkX X0 env0 N_check_vector (defScope s_check_vector)) "need_vector" := gb_of gb_check_vector_need_vector
  refine dss_cons (ds_expr (de_call B c_check_floor (by decide) g_check_floor (da_cons (de_var (i := 0) Mn rfl (by decide) rfl (da_nil ⟨rfl, _, _, _, rfl, rfl, (by first | assumption | omega | (simp; done) | exact .inl ⟨_, rfl⟩ | exact .inl ⟨_, _, _, rfl⟩ | exact .inr rfl), ⟨rfl, ?_⟩⟩)))))
  refine dss_cons (ds_expr (de_call B c_need_vector (by decide) g_need_vector (da_cons (de_var (i := 1) Mn rfl (by decide) rfl (da_nil ⟨rfl, _, _, rfl, rfl, (by first | assumption | omega | (simp; done) | exact .inl ⟨_, rfl⟩ | exact .inl ⟨_, _, _, rfl⟩ | exact .inr rfl), ⟨rfl, ?_⟩⟩)))))
  exact dss_nil (ret0 q)
theorem ok_check_vector {P : Program} {w : World} {K : PySem.W.Frag} {mg : Str → Option Value} {base : Heap} (T : Top1 K mg "check_vector" s_check_vector ["floor", "vector"]) (c_check_floor : Cal P w K mg base CX0 "check_floor" 4 (lift K sp_check_floor)) (c_need_vector : Cal P w K mg base CX0 "need_vector" 4 (lift K sp_need_vector)) : Cal P w K mg base CX0 "check_vector" 5 (lift K sp_check_vector) :=
  cal_of T sc_check_vector (by rintro es μ Q ⟨_, _, _, _, _, rfl, _⟩; rfl) fun f cdv A outer s H E B es μ μh Q h => body_check_vector (X0 := cxOf CX0 P w K mg base N_check_vector "check_vector" (defScope s_check_vector) f cdv A outer s H E) (env0 := PyProof.Rows.envOfC "check_vector" (defScope s_check_vector) s.heap.objs.size f cdv) c_check_floor c_need_vector B es μ μh Q h
/-! ### does_close -/
abbrev s_does_close : Stmt := topS 30
abbrev N_does_close : List Str := ["floor", "vector"]
theorem sc_does_close : FnScope N_does_close ["floor", "vector"] (defScope s_does_close) := ⟨rfl, rfl, rfl, by decide +kernel, rfl, by decide +kernel, by decide +kernel⟩
theorem nm_does_close : nmC N_does_close (defScope s_does_close) [0, 1] = true := by decide +kernel
theorem lc_does_close : lcC N_does_close (defScope s_does_close) [0, 1] = true := by decide +kernel
theorem gb_does_close_check_vector : gbC (defScope s_does_close) "check_vector" = true := by decide +kernel
theorem gb_does_close_raw_closes : gbC (defScope s_does_close) "raw_closes" = true := by decide +kernel
def sp_does_close : SpF := fun es μ P => ∃ (a b c p s : Int), es = [.d (fl a b c), .d (pr p s)] ∧ μ = [] ∧ IsF a b c ∧ IsV p s ∧ ∀ (r : Bool), (r = true ↔ Clo a b c p s) → P (.d (.bool r)) []
theorem body_does_close {X0 : Cx} {env0 : PySem.Env} (c_check_vector : CalX X0 "check_vector" 5 sp_check_vector) (c_raw_closes : CalX X0 "raw_closes" 1 sp_raw_closes) (B : Bx (mkX X0 env0 N_does_close (defScope s_does_close)) 5) :
    ∀ (es : List Ent) (μ μh : Mu) (Q : Ent → Mu → Prop), sp_does_close es μ Q → DSs (mkX X0 env0 N_does_close (defScope s_does_close)) (defBody s_does_close) (slots0 N_does_close es) (μ ++ μh) (Zof μ.length μh Q) := by
  rintro es μ μh Q ⟨a, b, c, p, s, rfl, rfl, p0, p1, q⟩
  have Mn : Nm (mkX X0 env0 N_does_close (defScope s_does_close)) [0, 1] := nm_of nm_does_close
  have Ln : Lc (mkX X0 env0 N_does_close (defScope s_does_close)) [0, 1] := lc_of lc_does_close
  have g_check_vector : Gb (mkX X0 env0 N_does_close (defScope s_does_close)) "check_vector" := gb_of gb_does_close_check_vector
  have g_raw_closes : Gb (mkX X0 env0 N_does_close (defScope s_does_close)) "raw_closes" := gb_of gb_does_close_raw_closes
  refine dss_cons (ds_expr (de_call B c_check_vector (by decide) g_check_vector (da_cons (de_var (i := 0) Mn rfl (by decide) rfl (da_cons (de_var (i := 1) Mn rfl (by decide) rfl (da_nil ⟨rfl, _, _, _, _, _, rfl, rfl, (by first | assumption | omega | (simp; done) | exact .inl ⟨_, rfl⟩ | exact .inl ⟨_, _, _, rfl⟩ | exact .inr rfl), (by first | assumption | omega | (simp; done) | exact .inl ⟨_, rfl⟩ | exact .inl ⟨_, _, _, rfl⟩ | exact .inr rfl), ⟨rfl, ?_⟩⟩)))))))
  refine dss_cons (ds_ret (de_call B c_raw_closes (by decide) g_raw_closes (da_cons (de_var (i := 0) Mn rfl (by decide) rfl (da_cons (de_var (i := 1) Mn rfl (by decide) rfl (da_nil ⟨rfl, _, _, _, _, _, rfl, rfl, (by first | assumption | omega | (simp; done) | exact .inl ⟨_, rfl⟩ | exact .inl ⟨_, _, _, rfl⟩ | exact .inr rfl), (by first | assumption | omega | (simp; done) | exact .inl ⟨_, rfl⟩ | exact .inl ⟨_, _, _, rfl⟩ | exact .inr rfl), fun r2 h20 => ⟨rfl, (ret0 ?_)⟩⟩)))))))
  exact q _ h20
theorem ok_does_close {P : Program} {w : World} {K : PySem.W.Frag} {mg : Str → Option Value} {base : Heap} (T : Top1 K mg "does_close" s_does_close ["floor", "vector"]) (c_check_vector : Cal P w K mg base CX0 "check_vector" 5 (lift K sp_check_vector)) (c_raw_closes : Cal P w K mg base CX0 "raw_closes" 1 (lift K sp_raw_closes)) : Cal P w K mg base CX0 "does_close" 6 (lift K sp_does_close) :=
  cal_of T sc_does_close (by rintro es μ Q ⟨_, _, _, _, _, rfl, _⟩; rfl) fun f cdv A outer s H E B es μ μh Q h => body_does_close (X0 := cxOf CX0 P w K mg base N_does_close "does_close" (defScope s_does_close) f cdv A outer s H E) (env0 := PyProof.Rows.envOfC "does_close" (defScope s_does_close) s.heap.objs.size f cdv) c_check_vector c_raw_closes B es μ μh Q h
/-! ### closing_pair -/
abbrev s_closing_pair : Stmt := topS 31
abbrev N_closing_pair : List Str := ["floor"]
theorem sc_closing_pair : FnScope N_closing_pair ["floor"] (defScope s_closing_pair) := ⟨rfl, rfl, rfl, by decide +kernel, rfl, by decide +kernel, by decide +kernel⟩
theorem nm_closing_pair : nmC N_closing_pair (defScope s_closing_pair) [0] = true := by decide +kernel
theorem lc_closing_pair : lcC N_closing_pair (defScope s_closing_pair) [0] = true := by decide +kernel
theorem gb_closing_pair_check_floor : gbC (defScope s_closing_pair) "check_floor" = true := by decide +kernel
def sp_closing_pair : SpF := fun es μ P => ∃ (a b c : Int), es = [.d (fl a b c)] ∧ μ = [] ∧ IsF a b c ∧ P (.d (.tuple [pr a 0, pr (-c) b])) []
theorem body_closing_pair {X0 : Cx} {env0 : PySem.Env} (c_check_floor : CalX X0 "check_floor" 4 sp_check_floor) (B : Bx (mkX X0 env0 N_closing_pair (defScope s_closing_pair)) 4) :
    ∀ (es : List Ent) (μ μh : Mu) (Q : Ent → Mu → Prop), sp_closing_pair es μ Q → DSs (mkX X0 env0 N_closing_pair (defScope s_closing_pair)) (defBody s_closing_pair) (slots0 N_closing_pair es) (μ ++ μh) (Zof μ.length μh Q) := by
  rintro es μ μh Q ⟨a, b, c, rfl, rfl, p0, q⟩
  have Mn : Nm (mkX X0 env0 N_closing_pair (defScope s_closing_pair)) [0] := nm_of nm_closing_pair
  have Ln : Lc (mkX X0 env0 N_closing_pair (defScope s_closing_pair)) [0] := lc_of lc_closing_pair
  have g_check_floor : Gb (mkX X0 env0 N_closing_pair (defScope s_closing_pair)) "check_floor" := gb_of gb_closing_pair_check_floor
  refine dss_cons (ds_expr (de_call B c_check_floor (by decide) g_check_floor (da_cons (de_var (i := 0) Mn rfl (by decide) rfl (da_nil ⟨rfl, _, _, _, rfl, rfl, (by first | assumption | omega | (simp; done) | exact .inl ⟨_, rfl⟩ | exact .inl ⟨_, _, _, rfl⟩ | exact .inr rfl), ⟨rfl, ?_⟩⟩)))))
  refine dss_cons (ds_ret (de_tup (da_cons (de_tup (da_cons (de_ix ix_tup (fun _ _ => rfl) (de_var (i := 0) Mn rfl (by decide) rfl (de_int (rv_ixT ⟨_, _, _, rfl, rfl, rfl, (da_cons (de_int (da_nil ⟨[_, _], rfl, lenS (n := 2) rfl (by decide), (da_cons (de_tup (da_cons (de_un un_neg (de_ix ix_tup (fun _ _ => rfl) (de_var (i := 0) Mn rfl (by decide) rfl (de_int (rv_ixT ⟨_, _, _, rfl, rfl, rfl, (ru_i ⟨_, rfl, (da_cons (de_ix ix_tup (fun _ _ => rfl) (de_var (i := 0) Mn rfl (by decide) rfl (de_int (rv_ixT ⟨_, _, _, rfl, rfl, rfl, (da_nil ⟨[_, _], rfl, lenS (n := 2) rfl (by decide), (da_nil ⟨[_, _], rfl, lenS (n := 2) rfl (by decide), (ret0 ?_)⟩)⟩)⟩)))))⟩)⟩))))))))⟩)))⟩)))))))))
  exact q
theorem ok_closing_pair {P : Program} {w : World} {K : PySem.W.Frag} {mg : Str → Option Value} {base : Heap} (T : Top1 K mg "closing_pair" s_closing_pair ["floor"]) (c_check_floor : Cal P w K mg base CX0 "check_floor" 4 (lift K sp_check_floor)) : Cal P w K mg base CX0 "closing_pair" 5 (lift K sp_closing_pair) :=
  cal_of T sc_closing_pair (by rintro es μ Q ⟨_, _, _, rfl, _⟩; rfl) fun f cdv A outer s H E B es μ μh Q h => body_closing_pair (X0 := cxOf CX0 P w K mg base N_closing_pair "closing_pair" (defScope s_closing_pair) f cdv A outer s H E) (env0 := PyProof.Rows.envOfC "closing_pair" (defScope s_closing_pair) s.heap.objs.size f cdv) c_check_floor B es μ μh Q h
/-! ### raw_parts -/
abbrev s_raw_parts : Stmt := topS 32
abbrev N_raw_parts : List Str := ["floor", "vector", "j"]
theorem sc_raw_parts : FnScope N_raw_parts ["floor", "vector"] (defScope s_raw_parts) := ⟨rfl, rfl, rfl, by decide +kernel, rfl, by decide +kernel, by decide +kernel⟩
theorem nm_raw_parts : nmC N_raw_parts (defScope s_raw_parts) [0, 1, 2] = true := by decide +kernel
theorem lc_raw_parts : lcC N_raw_parts (defScope s_raw_parts) [0, 1, 2] = true := by decide +kernel
def sp_raw_parts : SpF := fun es μ P => ∃ (a b c p s : Int), es = [.d (fl a b c), .d (pr p s)] ∧ μ = [] ∧ FB a b c ∧ (Bd p ∧ Bd s) ∧ P (.d (pr ((p + s / b * c) / a) (s / b))) []
theorem body_raw_parts {X0 : Cx} {env0 : PySem.Env}  (B : Bx (mkX X0 env0 N_raw_parts (defScope s_raw_parts)) 0) :
    ∀ (es : List Ent) (μ μh : Mu) (Q : Ent → Mu → Prop), sp_raw_parts es μ Q → DSs (mkX X0 env0 N_raw_parts (defScope s_raw_parts)) (defBody s_raw_parts) (slots0 N_raw_parts es) (μ ++ μh) (Zof μ.length μh Q) := by
  rintro es μ μh Q ⟨a, b, c, p, s, rfl, rfl, p0, p1, q⟩
  have Mn : Nm (mkX X0 env0 N_raw_parts (defScope s_raw_parts)) [0, 1, 2] := nm_of nm_raw_parts
  have Ln : Lc (mkX X0 env0 N_raw_parts (defScope s_raw_parts)) [0, 1, 2] := lc_of lc_raw_parts
  obtain ⟨f1, f2, f3, f4, f5, f6⟩ := p0
  obtain ⟨⟨b5, b6⟩, ⟨b7, b8⟩⟩ := p1
  have tb : (s / b).natAbs ≤ 10 ^ 60 := ediv_abs f3 (by omega)
  -- j = vector[1] // floor[1]
  refine dss_cons (ds_set (i := 2) Ln rfl (by decide) (de_bin op_fdivW (de_ix ix_tup (fun _ _ => rfl) (de_var (i := 1) Mn rfl (by decide) rfl (de_int (rv_ixT ⟨_, _, _, rfl, rfl, rfl, (de_ix ix_tup (fun _ _ => rfl) (de_var (i := 0) Mn rfl (by decide) rfl (de_int (rv_ixT ⟨_, _, _, rfl, rfl, rfl, (rv_ic ⟨_, _, rfl, rfl, (cdivB (by first | omega | (simp only [List.mem_cons, List.not_mem_nil, or_false] at *; omega) | (simp only [List.mem_cons, List.not_mem_nil, or_false] at *; split <;> omega)) (by first | omega | (simp only [List.mem_cons, List.not_mem_nil, or_false] at *; omega) | (simp only [List.mem_cons, List.not_mem_nil, or_false] at *; split <;> omega))), ?_⟩)⟩))))⟩))))))
  refine dss_cons (ds_ret (de_tup (da_cons (de_bin op_fdivW (de_bin op_add (de_ix ix_tup (fun _ _ => rfl) (de_var (i := 1) Mn rfl (by decide) rfl (de_int (rv_ixT ⟨_, _, _, rfl, rfl, rfl, (de_bin op_mulW (de_var (i := 2) Mn rfl (by decide) rfl (de_ix ix_tup (fun _ _ => rfl) (de_var (i := 0) Mn rfl (by decide) rfl (de_int (rv_ixT ⟨_, _, _, rfl, rfl, rfl, (rv_ic ⟨_, _, rfl, rfl, (cmulB (by first | omega | (simp only [List.mem_cons, List.not_mem_nil, or_false] at *; omega) | (simp only [List.mem_cons, List.not_mem_nil, or_false] at *; split <;> omega)) (by first | omega | (simp only [List.mem_cons, List.not_mem_nil, or_false] at *; omega) | (simp only [List.mem_cons, List.not_mem_nil, or_false] at *; split <;> omega))), (rv_i0 ⟨_, _, rfl, rfl, (de_ix ix_tup (fun _ _ => rfl) (de_var (i := 0) Mn rfl (by decide) rfl (de_int (rv_ixT ⟨_, _, _, rfl, rfl, rfl, (rv_ic ⟨_, _, rfl, rfl, (cdivB (by first | omega | (simp only [List.mem_cons, List.not_mem_nil, or_false] at *; omega) | (simp only [List.mem_cons, List.not_mem_nil, or_false] at *; split <;> omega)) (by first | omega | (simp only [List.mem_cons, List.not_mem_nil, or_false] at *; omega) | (simp only [List.mem_cons, List.not_mem_nil, or_false] at *; split <;> omega))), (da_cons (de_var (i := 2) Mn rfl (by decide) rfl (da_nil ⟨[_, _], rfl, lenS (n := 2) rfl (by decide), (ret0 ?_)⟩)))⟩)⟩))))⟩)⟩)⟩))))))⟩)))))))))
  exact q
theorem ok_raw_parts {P : Program} {w : World} {K : PySem.W.Frag} {mg : Str → Option Value} {base : Heap} (T : Top1 K mg "raw_parts" s_raw_parts ["floor", "vector"])  : Cal P w K mg base CX0 "raw_parts" 1 (lift K sp_raw_parts) :=
  cal_of T sc_raw_parts (by rintro es μ Q ⟨_, _, _, _, _, rfl, _⟩; rfl) fun f cdv A outer s H E B es μ μh Q h => body_raw_parts (X0 := cxOf CX0 P w K mg base N_raw_parts "raw_parts" (defScope s_raw_parts) f cdv A outer s H E) (env0 := PyProof.Rows.envOfC "raw_parts" (defScope s_raw_parts) s.heap.objs.size f cdv)  B es μ μh Q h
/-! ### check_closing -/
abbrev s_check_closing : Stmt := topS 33
abbrev N_check_closing : List Str := ["floor", "vector"]
theorem sc_check_closing : FnScope N_check_closing ["floor", "vector"] (defScope s_check_closing) := ⟨rfl, rfl, rfl, by decide +kernel, rfl, by decide +kernel, by decide +kernel⟩
theorem nm_check_closing : nmC N_check_closing (defScope s_check_closing) [0, 1] = true := by decide +kernel
theorem lc_check_closing : lcC N_check_closing (defScope s_check_closing) [0, 1] = true := by decide +kernel
theorem gb_check_closing_check_vector : gbC (defScope s_check_closing) "check_vector" = true := by decide +kernel
theorem gb_check_closing_raw_closes : gbC (defScope s_check_closing) "raw_closes" = true := by decide +kernel
def sp_check_closing : SpF := fun es μ P => ∃ (a b c p s : Int), es = [.d (fl a b c), .d (pr p s)] ∧ μ = [] ∧ IsF a b c ∧ IsV p s ∧ Clo a b c p s ∧ P (.d .none) []
theorem body_check_closing {X0 : Cx} {env0 : PySem.Env} (c_check_vector : CalX X0 "check_vector" 5 sp_check_vector) (c_raw_closes : CalX X0 "raw_closes" 1 sp_raw_closes) (B : Bx (mkX X0 env0 N_check_closing (defScope s_check_closing)) 5) :
    ∀ (es : List Ent) (μ μh : Mu) (Q : Ent → Mu → Prop), sp_check_closing es μ Q → DSs (mkX X0 env0 N_check_closing (defScope s_check_closing)) (defBody s_check_closing) (slots0 N_check_closing es) (μ ++ μh) (Zof μ.length μh Q) := by
  rintro es μ μh Q ⟨a, b, c, p, s, rfl, rfl, p0, p1, p2, q⟩
  have Mn : Nm (mkX X0 env0 N_check_closing (defScope s_check_closing)) [0, 1] := nm_of nm_check_closing
  have Ln : Lc (mkX X0 env0 N_check_closing (defScope s_check_closing)) [0, 1] := lc_of lc_check_closing
  have g_check_vector : Gb (mkX X0 env0 N_check_closing (defScope s_check_closing)) "check_vector" := gb_of gb_check_closing_check_vector
  have g_raw_closes : Gb (mkX X0 env0 N_check_closing (defScope s_check_closing)) "raw_closes" := gb_of gb_check_closing_raw_closes
  refine dss_cons (ds_expr (de_call B c_check_vector (by decide) g_check_vector (da_cons (de_var (i := 0) Mn rfl (by decide) rfl (da_cons (de_var (i := 1) Mn rfl (by decide) rfl (da_nil ⟨rfl, _, _, _, _, _, rfl, rfl, (by first | assumption | omega | (simp; done) | exact .inl ⟨_, rfl⟩ | exact .inl ⟨_, _, _, rfl⟩ | exact .inr rfl), (by first | assumption | omega | (simp; done) | exact .inl ⟨_, rfl⟩ | exact .inl ⟨_, _, _, rfl⟩ | exact .inr rfl), ⟨rfl, ?_⟩⟩)))))))
  -- if not raw_closes(floor, vector)
  refine dss_cons (ds_if (dt_not (dt_val (de_call B c_raw_closes (by decide) g_raw_closes (da_cons (de_var (i := 0) Mn rfl (by decide) rfl (da_cons (de_var (i := 1) Mn rfl (by decide) rfl (da_nil ⟨rfl, _, _, _, _, _, rfl, rfl, (by first | assumption | omega | (simp; done) | exact .inl ⟨_, rfl⟩ | exact .inl ⟨_, _, _, rfl⟩ | exact .inr rfl), (by first | assumption | omega | (simp; done) | exact .inl ⟨_, rfl⟩ | exact .inl ⟨_, _, _, rfl⟩ | exact .inr rfl), fun r2 h20 => ⟨rfl, ⟨_, rfl, ⟨fun ht => ?_, fun ht => ?_⟩⟩⟩⟩)))))))))
  · try simp only [decide_eq_true_eq, decide_eq_false_iff_not, bne_iff_ne, Bool.not_eq_true', Bool.not_eq_false', ne_eq, beq_iff_eq] at ht
    -- raise raise NotClosing()
    exact absurd (h20.mpr p2) (by simp [ht])
  · try simp only [decide_eq_true_eq, decide_eq_false_iff_not, bne_iff_ne, Bool.not_eq_true', Bool.not_eq_false', ne_eq, beq_iff_eq] at ht
    exact dss_nil (dss_nil (ret0 q))
theorem ok_check_closing {P : Program} {w : World} {K : PySem.W.Frag} {mg : Str → Option Value} {base : Heap} (T : Top1 K mg "check_closing" s_check_closing ["floor", "vector"]) (c_check_vector : Cal P w K mg base CX0 "check_vector" 5 (lift K sp_check_vector)) (c_raw_closes : Cal P w K mg base CX0 "raw_closes" 1 (lift K sp_raw_closes)) : Cal P w K mg base CX0 "check_closing" 6 (lift K sp_check_closing) :=
  cal_of T sc_check_closing (by rintro es μ Q ⟨_, _, _, _, _, rfl, _⟩; rfl) fun f cdv A outer s H E B es μ μh Q h => body_check_closing (X0 := cxOf CX0 P w K mg base N_check_closing "check_closing" (defScope s_check_closing) f cdv A outer s H E) (env0 := PyProof.Rows.envOfC "check_closing" (defScope s_check_closing) s.heap.objs.size f cdv) c_check_vector c_raw_closes B es μ μh Q h
/-! ### parts_of -/
abbrev s_parts_of : Stmt := topS 34
abbrev N_parts_of : List Str := ["floor", "vector"]
theorem sc_parts_of : FnScope N_parts_of ["floor", "vector"] (defScope s_parts_of) := ⟨rfl, rfl, rfl, by decide +kernel, rfl, by decide +kernel, by decide +kernel⟩
theorem nm_parts_of : nmC N_parts_of (defScope s_parts_of) [0, 1] = true := by decide +kernel
theorem lc_parts_of : lcC N_parts_of (defScope s_parts_of) [0, 1] = true := by decide +kernel
theorem gb_parts_of_check_closing : gbC (defScope s_parts_of) "check_closing" = true := by decide +kernel
theorem gb_parts_of_raw_parts : gbC (defScope s_parts_of) "raw_parts" = true := by decide +kernel
def sp_parts_of : SpF := fun es μ P => ∃ (a b c p s : Int), es = [.d (fl a b c), .d (pr p s)] ∧ μ = [] ∧ IsF a b c ∧ IsV p s ∧ Clo a b c p s ∧ P (.d (pr ((p + s / b * c) / a) (s / b))) []
theorem body_parts_of {X0 : Cx} {env0 : PySem.Env} (c_check_closing : CalX X0 "check_closing" 6 sp_check_closing) (c_raw_parts : CalX X0 "raw_parts" 1 sp_raw_parts) (B : Bx (mkX X0 env0 N_parts_of (defScope s_parts_of)) 6) :
    ∀ (es : List Ent) (μ μh : Mu) (Q : Ent → Mu → Prop), sp_parts_of es μ Q → DSs (mkX X0 env0 N_parts_of (defScope s_parts_of)) (defBody s_parts_of) (slots0 N_parts_of es) (μ ++ μh) (Zof μ.length μh Q) := by
  rintro es μ μh Q ⟨a, b, c, p, s, rfl, rfl, p0, p1, p2, q⟩
  have Mn : Nm (mkX X0 env0 N_parts_of (defScope s_parts_of)) [0, 1] := nm_of nm_parts_of
  have Ln : Lc (mkX X0 env0 N_parts_of (defScope s_parts_of)) [0, 1] := lc_of lc_parts_of
  have g_check_closing : Gb (mkX X0 env0 N_parts_of (defScope s_parts_of)) "check_closing" := gb_of gb_parts_of_check_closing
  have g_raw_parts : Gb (mkX X0 env0 N_parts_of (defScope s_parts_of)) "raw_parts" := gb_of gb_parts_of_raw_parts
  refine dss_cons (ds_expr (de_call B c_check_closing (by decide) g_check_closing (da_cons (de_var (i := 0) Mn rfl (by decide) rfl (da_cons (de_var (i := 1) Mn rfl (by decide) rfl (da_nil ⟨rfl, _, _, _, _, _, rfl, rfl, (by first | assumption | omega | (simp; done) | exact .inl ⟨_, rfl⟩ | exact .inl ⟨_, _, _, rfl⟩ | exact .inr rfl), (by first | assumption | omega | (simp; done) | exact .inl ⟨_, rfl⟩ | exact .inl ⟨_, _, _, rfl⟩ | exact .inr rfl), (by first | assumption | omega | (simp; done) | exact .inl ⟨_, rfl⟩ | exact .inl ⟨_, _, _, rfl⟩ | exact .inr rfl), ⟨rfl, ?_⟩⟩)))))))
  refine dss_cons (ds_ret (de_call B c_raw_parts (by decide) g_raw_parts (da_cons (de_var (i := 0) Mn rfl (by decide) rfl (da_cons (de_var (i := 1) Mn rfl (by decide) rfl (da_nil ⟨rfl, _, _, _, _, _, rfl, rfl, (by first | assumption | omega | (simp; done) | exact .inl ⟨_, rfl⟩ | exact .inl ⟨_, _, _, rfl⟩ | exact .inr rfl), (by first | assumption | omega | (simp; done) | exact .inl ⟨_, rfl⟩ | exact .inl ⟨_, _, _, rfl⟩ | exact .inr rfl), ⟨rfl, (ret0 ?_)⟩⟩)))))))
  exact q
theorem ok_parts_of {P : Program} {w : World} {K : PySem.W.Frag} {mg : Str → Option Value} {base : Heap} (T : Top1 K mg "parts_of" s_parts_of ["floor", "vector"]) (c_check_closing : Cal P w K mg base CX0 "check_closing" 6 (lift K sp_check_closing)) (c_raw_parts : Cal P w K mg base CX0 "raw_parts" 1 (lift K sp_raw_parts)) : Cal P w K mg base CX0 "parts_of" 7 (lift K sp_parts_of) :=
  cal_of T sc_parts_of (by rintro es μ Q ⟨_, _, _, _, _, rfl, _⟩; rfl) fun f cdv A outer s H E B es μ μh Q h => body_parts_of (X0 := cxOf CX0 P w K mg base N_parts_of "parts_of" (defScope s_parts_of) f cdv A outer s H E) (env0 := PyProof.Rows.envOfC "parts_of" (defScope s_parts_of) s.heap.objs.size f cdv) c_check_closing c_raw_parts B es μ μh Q h
end K07

namespace K07
open PySem PySem.Spec L2 Pw
theorem bezN : ∀ m n : Nat, ∃ i j : Int, i * m + j * n = (Nat.gcd m n : Nat) := by
  intro m n
  induction m, n using Nat.gcd.induction with
  | H0 n => exact ⟨0, 1, by simp⟩
  | H1 m n hm ih =>
    obtain ⟨i, j, h⟩ := ih
    refine ⟨j - i * ((n / m : Nat) : Int), i, ?_⟩
    have e : ((n % m : Nat) : Int) = n - m * ((n / m : Nat) : Int) := by
      have := Nat.div_add_mod n m
      have h2 : (m : Int) * ((n / m : Nat) : Int) + ((n % m : Nat) : Int) = n := by exact_mod_cast this
      omega
    rw [Nat.gcd_rec, ← h, e]
    grind
theorem bez (a b : Int) : ∃ i j : Int, i * a + j * b = (Int.gcd a b : Int) := by
  obtain ⟨i, j, h⟩ := bezN a.natAbs b.natAbs
  have sg : ∀ z : Int, ∃ s : Int, (z.natAbs : Int) = s * z := fun z => by
    rcases Int.natAbs_eq z with e | e
    · exact ⟨1, by omega⟩
    · exact ⟨-1, by omega⟩
  obtain ⟨s, hs⟩ := sg a
  obtain ⟨t, ht⟩ := sg b
  refine ⟨i * s, j * t, ?_⟩
  rw [Int.gcd_eq_natAbs_gcd_natAbs, ← h, hs, ht]
  grind
def SpL : List (Int × Int) → Int → Int → Prop
  | [], x, y => x = 0 ∧ y = 0
  | v :: vs, x, y => ∃ k, SpL vs (x - k * v.1) (y - k * v.2)
def Sp3 (low hx hy ox oy x y : Int) : Prop := ∃ m n k, x = m * low + n * hx + k * ox ∧ y = n * hy + k * oy
def Sp2 (low hx hy x y : Int) : Prop := ∃ m n, x = m * low + n * hx ∧ y = n * hy
def PT (vs : List (Int × Int)) : Prop := vs.length ≤ 8 ∧ (∀ v ∈ vs, v.1.natAbs ≤ 10 ^ 15 ∧ 0 ≤ v.2 ∧ v.2 ≤ 10 ^ 15) ∧ (∃ a, 0 < a ∧ SpL vs.reverse a 0) ∧ ∃ c b, 0 < b ∧ SpL vs.reverse c b
def PTd (vs : List (Int × Int)) (l h t : Int) : Prop := 0 < l ∧ 0 < h ∧ 0 ≤ t ∧ t < l ∧ ∀ x y, SpL vs.reverse x y ↔ Clo l h t x y
theorem sp3_step {low hx hy ox oy q x y : Int} : Sp3 low hx hy ox oy x y ↔ Sp3 low ox oy (hx - q * ox) (hy - q * oy) x y := by
  constructor
  · rintro ⟨m, n, k, h1, h2⟩
    exact ⟨m, k + q * n, n, by grind, by grind⟩
  · rintro ⟨m, n, k, h1, h2⟩
    exact ⟨m, k, n - q * k, by grind, by grind⟩
theorem sp3_end {low hx hy ox x y : Int} : Sp3 low hx hy ox 0 x y ↔ Sp2 (Int.gcd low ox) hx hy x y := by
  constructor
  · rintro ⟨m, n, k, h1, h2⟩
    obtain ⟨u, hu⟩ := Int.gcd_dvd_left low ox
    obtain ⟨v, hv⟩ := Int.gcd_dvd_right low ox
    refine ⟨m * u + k * v, n, ?_, by grind⟩
    generalize (Int.gcd low ox : Int) = g at *
    grind
  · rintro ⟨m, n, h1, h2⟩
    obtain ⟨i, j, h⟩ := bez low ox
    refine ⟨m * i, n, m * j, ?_, by grind⟩
    generalize (Int.gcd low ox : Int) = g at *
    grind
theorem sp2_clo {l hx hy x y : Int} (hl : 0 < l) (hh : 0 < hy) : Sp2 l hx hy x y ↔ Clo l hy (-hx % l) x y := by
  have e := Int.emod_def (-hx) l
  generalize -hx / l = w at e
  constructor
  · rintro ⟨m, n, h1, rfl⟩
    refine ⟨Int.mul_emod_left _ _, ?_⟩
    rw [Int.mul_ediv_cancel _ (by omega), e]
    refine Int.emod_eq_zero_of_dvd ⟨m - n * w, ?_⟩
    grind
  · rintro ⟨h1, h2⟩
    obtain ⟨n, rfl⟩ := Int.dvd_of_emod_eq_zero h1
    rw [Int.mul_ediv_cancel_left _ (by omega), e] at h2
    obtain ⟨m, hm⟩ := Int.dvd_of_emod_eq_zero h2
    exact ⟨m + n * w, n, by grind, by grind⟩
/-- the state behind i vectors -/
structure PI (vs : List (Int × Int)) (i : Nat) (low hx hy : Int) : Prop where
  l0 : 0 ≤ low
  h0 : 0 ≤ hy
  h1 : hy ≤ 10 ^ 15
  b : hx.natAbs ≤ 10 ^ (16 * (i + 1))
  sp : ∀ x y, SpL (vs.take i).reverse x y ↔ Sp2 low hx hy x y
/-- within a vector's turn -/
structure PW' (vs : List (Int × Int)) (i : Nat) (low hx hy ox oy : Int) : Prop where
  l0 : 0 ≤ low
  h0 : 0 ≤ hy
  h1 : hy ≤ 10 ^ 15
  o0 : 0 ≤ oy
  o1 : oy ≤ 10 ^ 15
  b : hx.natAbs ≤ 10 ^ (16 * (i + 2))
  b' : ox.natAbs ≤ 10 ^ (16 * (i + 2))
  m : (ox.natAbs : Int) * hy + hx.natAbs * oy ≤ (10 ^ (16 * (i + 2)) : Nat)
  sp : ∀ x y, SpL (vs.take (i + 1)).reverse x y ↔ Sp3 low hx hy ox oy x y
theorem PI.into {vs : List (Int × Int)} {i : Nat} {low hx hy ox oy : Int} (h : PI vs i low hx hy) (hv : vs[i]? = some (ox, oy)) (b1 : ox.natAbs ≤ 10 ^ 15) (b2 : 0 ≤ oy) (b3 : oy ≤ 10 ^ 15) : PW' vs i low hx hy ox oy := by
  have e16 : 10 ^ (16 * (i + 2)) = 10 ^ (16 * (i + 1)) * 10 ^ 16 := by rw [← Nat.pow_add, show 16 * (i + 2) = 16 * (i + 1) + 16 by omega]
  have p1 : 10 ^ 16 ≤ 10 ^ (16 * (i + 1)) := Nat.pow_le_pow_right (by omega) (by omega)
  have hb := h.b
  have h0 := h.h0
  have h1 := h.h1
  refine ⟨h.l0, h.h0, h.h1, b2, b3, by omega, by omega, ?_, ?_⟩
  · generalize (10 : Nat) ^ (16 * (i + 1)) = B at *
    rw [e16]
    have q1 : (ox.natAbs : Int) * hy ≤ 10 ^ 15 * 10 ^ 15 := Int.mul_le_mul (by omega) h1 h0 (by omega)
    have q2 : (hx.natAbs : Int) * oy ≤ B * 10 ^ 15 := Int.mul_le_mul (by omega) b3 b2 (by omega)
    omega
  · intro x y
    obtain ⟨hi, hg⟩ := List.getElem?_eq_some_iff.mp hv
    rw [List.take_succ_eq_append_getElem hi, List.reverse_append, hg]
    show (∃ k, SpL (vs.take i).reverse (x - k * ox) (y - k * oy)) ↔ _
    constructor
    · rintro ⟨k, hk⟩
      obtain ⟨m, n, e1, e2⟩ := (h.sp _ _).mp hk
      exact ⟨m, n, k, by omega, by omega⟩
    · rintro ⟨m, n, k, e1, e2⟩
      exact ⟨k, (h.sp _ _).mpr ⟨m, n, by omega, by omega⟩⟩
theorem PW'.step {vs : List (Int × Int)} {i : Nat} {low hx hy ox oy : Int} (h : PW' vs i low hx hy ox oy) (ho : oy ≠ 0) : PW' vs i low ox oy (hx - hy / oy * ox) (hy - hy / oy * oy) ∧ (hy - hy / oy * oy).toNat < oy.toNat := by
  have hp : 0 < oy := by have := h.o0; omega
  have e : hy - hy / oy * oy = hy % oy := by rw [Int.emod_def, Int.mul_comm]
  have hq : 0 ≤ hy / oy := Int.ediv_nonneg h.h0 h.o0
  have m0 : 0 ≤ hy % oy := Int.emod_nonneg _ ho
  have m1 : hy % oy < oy := Int.emod_lt_of_pos _ hp
  obtain ⟨x1, x2⟩ := absB hq hp (by rw [e]; exact m0) h.m
  have o1 := h.o1
  exact ⟨⟨h.l0, h.o0, h.o1, by rw [e]; exact m0, by rw [e]; omega, h.b', x2, x1, fun x y => (h.sp x y).trans sp3_step⟩, by omega⟩
theorem PW'.out {vs : List (Int × Int)} {i : Nat} {low hx hy ox oy : Int} (h : PW' vs i low hx hy ox oy) (ho : oy = 0) : PI vs (i + 1) (Int.gcd low ox) hx hy := by
  subst ho
  exact ⟨by omega, h.h0, h.h1, h.b, fun x y => (h.sp x y).trans sp3_end⟩
theorem PI.fin {vs : List (Int × Int)} {low hx hy : Int} (h : PI vs vs.length low hx hy) (p : PT vs) : 0 < low ∧ 0 < hy ∧ PTd vs low hy (-hx % low) := by
  obtain ⟨_, _, ⟨a, ha, sa⟩, c, b, hb, sb⟩ := p
  have sp := h.sp
  rw [List.take_length] at sp
  have h0 := h.h0
  have l0 := h.l0
  obtain ⟨m, n, e1, e2⟩ := (sp _ _).mp sb
  have hy0 : 0 < hy := by
    rcases Int.lt_or_le 0 hy with z | z
    · exact z
    · have : hy = 0 := by omega
      subst this
      omega
  obtain ⟨m', n', e3, e4⟩ := (sp _ _).mp sa
  have n0 : n' = 0 := by
    rcases Int.mul_eq_zero.mp e4.symm with z | z
    · exact z
    · omega
  have low0 : 0 < low := by
    rcases Int.lt_or_le 0 low with z | z
    · exact z
    · have : low = 0 := by omega
      subst this
      subst n0
      omega
  exact ⟨low0, hy0, low0, hy0, Int.emod_nonneg _ (by omega), Int.emod_lt_of_pos _ low0, fun x y => (sp x y).trans (sp2_clo low0 hy0)⟩
/-! ### put_together -/
abbrev s_put_together : Stmt := topS 36
abbrev N_put_together : List Str := ["vectors", "low", "high", "one", "times"]
theorem sc_put_together : FnScope N_put_together ["vectors"] (defScope s_put_together) := ⟨rfl, rfl, rfl, by decide +kernel, rfl, by decide +kernel, by decide +kernel⟩
theorem nm_put_together : nmC N_put_together (defScope s_put_together) [0, 1, 2, 3, 4] = true := by decide +kernel
theorem lc_put_together : lcC N_put_together (defScope s_put_together) [0, 1, 2, 3, 4] = true := by decide +kernel
theorem gb_put_together_common : gbC (defScope s_put_together) "common" = true := by decide +kernel
theorem gb_put_together_abs : gbC (defScope s_put_together) "abs" = true := by decide +kernel
def sp_put_together : SpF := fun es μ P => ∃ (vs : List (Int × Int)), es = [.d (.list (vs.map fun v => pr v.1 v.2))] ∧ μ = [] ∧ PT vs ∧ ∀ (l h t : Int), PTd vs l h t → P (.d (fl l h t)) []
theorem body_put_together {X0 : Cx} {env0 : PySem.Env} (c_common : CalX X0 "common" 1 sp_common) (m_abs : X0.mg "abs" = none) (B : Bx (mkX X0 env0 N_put_together (defScope s_put_together)) 1) :
    ∀ (es : List Ent) (μ μh : Mu) (Q : Ent → Mu → Prop), sp_put_together es μ Q → DSs (mkX X0 env0 N_put_together (defScope s_put_together)) (defBody s_put_together) (slots0 N_put_together es) (μ ++ μh) (Zof μ.length μh Q) := by
  rintro es μ μh Q ⟨vs, rfl, rfl, p0, q⟩
  have Mn : Nm (mkX X0 env0 N_put_together (defScope s_put_together)) [0, 1, 2, 3, 4] := nm_of nm_put_together
  have Ln : Lc (mkX X0 env0 N_put_together (defScope s_put_together)) [0, 1, 2, 3, 4] := lc_of lc_put_together
  have g_common : Gb (mkX X0 env0 N_put_together (defScope s_put_together)) "common" := gb_of gb_put_together_common
  have g_abs : Gb (mkX X0 env0 N_put_together (defScope s_put_together)) "abs" := gb_of gb_put_together_abs
  -- low, high = (0, (0, 0))
  refine dss_cons (ds_asg (de_tup (da_cons (de_int (da_cons (de_tup (da_cons (de_int (da_cons (de_int (da_nil ⟨[_, _], rfl, lenS (n := 2) rfl (by decide), (da_nil ⟨[_, _], rfl, lenS (n := 2) rfl (by decide), (dg_tup rfl rfl (dgs_name (i := 1) Ln rfl (by decide) (dgs_name (i := 2) Ln rfl (by decide) (dgs_nil ?_))))⟩)⟩)))))))))))
  -- for one in vectors
  refine dss_cons (ds_for PassesOwn.never rfl (di_list (de_var (i := 0) Mn rfl (by decide) rfl ⟨_, rfl, ⟨fun i ρ μ => ∃ low hx hy o t, PI vs i low hx hy ∧ ρ = [some (.d (.list (vs.map fun v => pr v.1 v.2))), some (.d (.int low)), some (.d (pr hx hy)), o, t] ∧ μh = μ, ⟨_, _, _, _, _, ⟨by omega, by omega, by omega, by simp, fun x y => ⟨fun h => ⟨0, 0, by have := h.1; omega, by have := h.2; omega⟩, fun ⟨m, n, h1, h2⟩ => ⟨by omega, by omega⟩⟩⟩, rfl, rfl⟩, ?_, ?_⟩⟩)))
  · rintro i d ρ μ hd ⟨low, hx, hy, o, t, hI, rfl, rfl⟩
    rw [List.getElem?_map] at hd
    obtain ⟨⟨ox, oy⟩, hv, rfl⟩ := Option.map_eq_some_iff.mp hd
    have bv := p0.2.1 _ (List.mem_of_getElem? hv)
    have hi : i < 8 := by
      have := (List.getElem?_eq_some_iff.mp hv).1
      have := p0.1
      omega
    have b160 : 10 ^ (16 * (i + 2)) ≤ 10 ^ 144 := Nat.pow_le_pow_right (by omega) (by omega)
    refine dg_name (i := 3) Ln rfl (by decide) ?_
    -- while one[1] != 0
    refine dss_cons (ds_while PassesOwn.never (fun m ρ μ => ∃ hx hy ox oy t, PW' vs i low hx hy ox oy ∧ m = oy.toNat ∧ ρ = [some (.d (.list (vs.map fun v => pr v.1 v.2))), some (.d (.int low)), some (.d (pr hx hy)), some (.d (pr ox oy)), t] ∧ μ = μh) _ ⟨_, _, _, _, _, hI.into hv bv.1 bv.2.1 bv.2.2, rfl, rfl, rfl⟩ fun m ρ μ hI => ?_)
    obtain ⟨hx, hy, ox, oy, t, W, rfl, rfl, rfl⟩ := hI
    have w1 := W.h0
    have w2 := W.h1
    have w3 := W.o0
    have w4 := W.o1
    have w5 := W.b
    have w6 := W.b'
    refine (dt_cmp op_ne (nomark _) (de_ix ix_tup (fun _ _ => rfl) (de_var (i := 3) Mn rfl (by decide) rfl (de_int (rv_ixT ⟨_, _, _, rfl, rfl, rfl, (de_int (rv_neI ⟨_, _, rfl, rfl, ⟨_, rfl, ⟨fun ht => ?_, fun ht => ?_⟩⟩⟩))⟩)))))
    · try simp only [decide_eq_true_eq, decide_eq_false_iff_not, bne_iff_ne, Bool.not_eq_true', Bool.not_eq_false', ne_eq, beq_iff_eq] at ht
      have wq : (hy / oy).natAbs ≤ 10 ^ 60 := ediv_abs (by omega) (by omega)
      -- times = high[1] // one[1]
      refine dss_cons (ds_set (i := 4) Ln rfl (by decide) (de_bin op_fdivW (de_ix ix_tup (fun _ _ => rfl) (de_var (i := 2) Mn rfl (by decide) rfl (de_int (rv_ixT ⟨_, _, _, rfl, rfl, rfl, (de_ix ix_tup (fun _ _ => rfl) (de_var (i := 3) Mn rfl (by decide) rfl (de_int (rv_ixT ⟨_, _, _, rfl, rfl, rfl, (rv_ic ⟨_, _, rfl, rfl, (cdivB (by first | omega | (simp only [List.mem_cons, List.not_mem_nil, or_false] at *; omega) | (simp only [List.mem_cons, List.not_mem_nil, or_false] at *; split <;> omega)) (by first | omega | (simp only [List.mem_cons, List.not_mem_nil, or_false] at *; omega) | (simp only [List.mem_cons, List.not_mem_nil, or_false] at *; split <;> omega))), ?_⟩)⟩))))⟩))))))
      -- high, one = (one, (high[0] - times * one[0], high[1] - times * one[1]))
      refine dss_cons (ds_par (i := 2) (j := 3) Ln rfl rfl rfl (by decide) rfl rfl (da_cons (de_var (i := 3) Mn rfl (by decide) rfl (da_cons (de_tup (da_cons (de_bin op_sub (de_ix ix_tup (fun _ _ => rfl) (de_var (i := 2) Mn rfl (by decide) rfl (de_int (rv_ixT ⟨_, _, _, rfl, rfl, rfl, (de_bin op_mulW (de_var (i := 4) Mn rfl (by decide) rfl (de_ix ix_tup (fun _ _ => rfl) (de_var (i := 3) Mn rfl (by decide) rfl (de_int (rv_ixT ⟨_, _, _, rfl, rfl, rfl, (rv_ic ⟨_, _, rfl, rfl, (cmulB (by first | omega | (simp only [List.mem_cons, List.not_mem_nil, or_false] at *; omega) | (simp only [List.mem_cons, List.not_mem_nil, or_false] at *; split <;> omega)) (by first | omega | (simp only [List.mem_cons, List.not_mem_nil, or_false] at *; omega) | (simp only [List.mem_cons, List.not_mem_nil, or_false] at *; split <;> omega))), (rv_i0 ⟨_, _, rfl, rfl, (da_cons (de_bin op_sub (de_ix ix_tup (fun _ _ => rfl) (de_var (i := 2) Mn rfl (by decide) rfl (de_int (rv_ixT ⟨_, _, _, rfl, rfl, rfl, (de_bin op_mulW (de_var (i := 4) Mn rfl (by decide) rfl (de_ix ix_tup (fun _ _ => rfl) (de_var (i := 3) Mn rfl (by decide) rfl (de_int (rv_ixT ⟨_, _, _, rfl, rfl, rfl, (rv_ic ⟨_, _, rfl, rfl, (cmulB (by first | omega | (simp only [List.mem_cons, List.not_mem_nil, or_false] at *; omega) | (simp only [List.mem_cons, List.not_mem_nil, or_false] at *; split <;> omega)) (by first | omega | (simp only [List.mem_cons, List.not_mem_nil, or_false] at *; omega) | (simp only [List.mem_cons, List.not_mem_nil, or_false] at *; split <;> omega))), (rv_i0 ⟨_, _, rfl, rfl, (da_nil ⟨[_, _], rfl, lenS (n := 2) rfl (by decide), (da_nil ⟨_, _, rfl, ?_⟩)⟩)⟩)⟩)⟩))))))⟩))))))⟩)⟩)⟩))))))⟩)))))))))) rfl)
      obtain ⟨st, hm⟩ := W.step ht
      exact dss_nil ⟨_, hm, _, _, _, _, _, st, rfl, rfl, rfl⟩
    · try simp only [decide_eq_true_eq, decide_eq_false_iff_not, bne_iff_ne, Bool.not_eq_true', Bool.not_eq_false', ne_eq, beq_iff_eq] at ht
      -- low = common(low, one[0])
      refine dss_cons (ds_set (i := 1) Ln rfl (by decide) (de_call B c_common (by decide) g_common (da_cons (de_var (i := 1) Mn rfl (by decide) rfl (da_cons (de_ix ix_tup (fun _ _ => rfl) (de_var (i := 3) Mn rfl (by decide) rfl (de_int (rv_ixT ⟨_, _, _, rfl, rfl, rfl, (da_nil ⟨rfl, _, _, rfl, rfl, ⟨rfl, ?_⟩⟩)⟩)))))))))
      exact dss_nil ⟨_, _, _, _, _, W.out ht, rfl, rfl⟩
  · rintro ρ μ ⟨low, hx, hy, o, t, hI, rfl, rfl⟩
    rw [List.length_map] at hI
    obtain ⟨low0, hy0, fin⟩ := hI.fin p0
    -- if low == 0 or high[1] == 0
    refine dss_cons (ds_if (dt_bool (dw_or (dt_cmp op_eq (nomark _) (de_var (i := 1) Mn rfl (by decide) rfl (de_int (rv_eqI ⟨_, _, rfl, rfl, ⟨_, rfl, ⟨fun hb1 => (dw_or1 (dt_cmp op_eq (nomark _) (de_ix ix_tup (fun _ _ => rfl) (de_var (i := 2) Mn rfl (by decide) rfl (de_int (rv_ixT ⟨_, _, _, rfl, rfl, rfl, (de_int (rv_eqI ⟨_, _, rfl, rfl, ⟨_, rfl, ⟨fun ht => ?_, fun ht => ?_⟩⟩⟩))⟩)))))), fun hb1 => ⟨fun ht => ?_, fun ht => ?_⟩⟩⟩⟩)))))))
    · try simp only [decide_eq_true_eq, decide_eq_false_iff_not, bne_iff_ne, Bool.not_eq_true', Bool.not_eq_false', ne_eq, beq_iff_eq] at ht
      omega
    · try simp only [decide_eq_true_eq, decide_eq_false_iff_not, bne_iff_ne, Bool.not_eq_true', Bool.not_eq_false', ne_eq, beq_iff_eq] at ht
      refine dss_nil ?_
      refine dss_cons (ds_ret (de_tup (da_cons (de_var (i := 1) Mn rfl (by decide) rfl (da_cons (de_callB call_abs g_abs m_abs (by decide +kernel) (da_cons (de_ix ix_tup (fun _ _ => rfl) (de_var (i := 2) Mn rfl (by decide) rfl (de_int (rv_ixT ⟨_, _, _, rfl, rfl, rfl, (da_nil (rc_abs ⟨_, rfl, (da_cons (de_bin op_mod (de_if (dt_cmp op_gt (nomark _) (de_ix ix_tup (fun _ _ => rfl) (de_var (i := 2) Mn rfl (by decide) rfl (de_int (rv_ixT ⟨_, _, _, rfl, rfl, rfl, (de_int (rv_b0 ⟨_, _, rfl, rfl, ⟨_, rfl, ⟨fun hi => (de_un un_neg (de_ix ix_tup (fun _ _ => rfl) (de_var (i := 2) Mn rfl (by decide) rfl (de_int (rv_ixT ⟨_, _, _, rfl, rfl, rfl, (ru_i ⟨_, rfl, (de_var (i := 1) Mn rfl (by decide) rfl (rv_ic ⟨_, _, rfl, rfl, (by show (0 : Int) < _; first | omega | (simp only [List.mem_cons, List.not_mem_nil, or_false] at *; omega) | (simp only [List.mem_cons, List.not_mem_nil, or_false] at *; split <;> omega)), (da_nil ⟨[_, _, _], rfl, lenS (n := 3) rfl (by decide), (ret0 ?_)⟩)⟩))⟩)⟩))))), fun hi => (de_ix ix_tup (fun _ _ => rfl) (de_var (i := 2) Mn rfl (by decide) rfl (de_int (rv_ixT ⟨_, _, _, rfl, rfl, rfl, (de_var (i := 1) Mn rfl (by decide) rfl (rv_ic ⟨_, _, rfl, rfl, (by show (0 : Int) < _; first | omega | (simp only [List.mem_cons, List.not_mem_nil, or_false] at *; omega) | (simp only [List.mem_cons, List.not_mem_nil, or_false] at *; split <;> omega)), (da_nil ⟨[_, _, _], rfl, lenS (n := 3) rfl (by decide), (ret0 ?_)⟩)⟩))⟩))))⟩⟩⟩))⟩))))))))⟩))⟩)))))))))))
      · have e : (if hy < 0 then -hy else hy) = hy := by split <;> omega
        rw [e]
        exact q _ _ _ fin
      · have := of_decide_eq_false hi
        omega
    · have := of_decide_eq_true hb1
      omega
    · cases ht
theorem ok_put_together {P : Program} {w : World} {K : PySem.W.Frag} {mg : Str → Option Value} {base : Heap} (T : Top1 K mg "put_together" s_put_together ["vectors"]) (c_common : Cal P w K mg base CX0 "common" 1 (lift K sp_common)) (m_abs : mg "abs" = none) : Cal P w K mg base CX0 "put_together" 2 (lift K sp_put_together) :=
  cal_of T sc_put_together (by rintro es μ Q ⟨_, rfl, _⟩; rfl) fun f cdv A outer s H E B es μ μh Q h => body_put_together (X0 := cxOf CX0 P w K mg base N_put_together "put_together" (defScope s_put_together) f cdv A outer s H E) (env0 := PyProof.Rows.envOfC "put_together" (defScope s_put_together) s.heap.objs.size f cdv) c_common m_abs B es μ μh Q h
end K07

namespace K07
open PySem PySem.Spec L2 Pw
/-! ### raw_lies_over -/
abbrev s_raw_lies_over : Stmt := topS 38
abbrev N_raw_lies_over : List Str := ["floor", "other", "vector"]
theorem sc_raw_lies_over : FnScope N_raw_lies_over ["floor", "other"] (defScope s_raw_lies_over) := ⟨rfl, rfl, rfl, by decide +kernel, rfl, by decide +kernel, by decide +kernel⟩
theorem nm_raw_lies_over : nmC N_raw_lies_over (defScope s_raw_lies_over) [0, 1] = true := by decide +kernel
theorem lc_raw_lies_over : lcC N_raw_lies_over (defScope s_raw_lies_over) [0, 1] = true := by decide +kernel
theorem gb_raw_lies_over_all : gbC (defScope s_raw_lies_over) "all" = true := by decide +kernel
theorem gb_raw_lies_over_closing_pair : gbC (defScope s_raw_lies_over) "closing_pair" = true := by decide +kernel
def sp_raw_lies_over : SpF := fun es μ P => ∃ (a b c a' b' c' : Int), es = [.d (fl a b c), .d (fl a' b' c')] ∧ μ = [] ∧ IsF a b c ∧ IsF a' b' c' ∧ ∀ (r : Bool), (r = true ↔ Over a b c a' b' c') → P (.d (.bool r)) []
theorem body_raw_lies_over {X0 : Cx} {env0 : PySem.Env} (m_all : X0.mg "all" = none) (c_raw_closes : CalX X0 "raw_closes" 1 sp_raw_closes) (c_closing_pair : CalX X0 "closing_pair" 5 sp_closing_pair) (B : Bx (mkX X0 env0 N_raw_lies_over (defScope s_raw_lies_over)) 5) :
    ∀ (es : List Ent) (μ μh : Mu) (Q : Ent → Mu → Prop), sp_raw_lies_over es μ Q → DSs (mkX X0 env0 N_raw_lies_over (defScope s_raw_lies_over)) (defBody s_raw_lies_over) (slots0 N_raw_lies_over es) (μ ++ μh) (Zof μ.length μh Q) := by
  rintro es μ μh Q ⟨a, b, c, a', b', c', rfl, rfl, p0, p1, q⟩
  have Mn : Nm (mkX X0 env0 N_raw_lies_over (defScope s_raw_lies_over)) [0, 1] := nm_of nm_raw_lies_over
  have Ln : Lc (mkX X0 env0 N_raw_lies_over (defScope s_raw_lies_over)) [0, 1] := lc_of lc_raw_lies_over
  have g_all : Gb (mkX X0 env0 N_raw_lies_over (defScope s_raw_lies_over)) "all" := gb_of gb_raw_lies_over_all
  have g_closing_pair : Gb (mkX X0 env0 N_raw_lies_over (defScope s_raw_lies_over)) "closing_pair" := gb_of gb_raw_lies_over_closing_pair
  refine dss_cons (ds_ret (de_callB (cr_all rfl) g_all m_all (by decide +kernel) (da_cons (de_lcMap (own := [("vector", 2)]) (g := (gName 2)) (ovF a' b' c') rfl Ln.nd (blkOk_by (by show blkC N_raw_lies_over (defScope s_raw_lies_over) _ _ = true; decide +kernel)) (fun _ _ _ _ _ => pg_name (i := 2) Ln.nd rfl (Or.inl rfl)) (di_tup (de_call B c_closing_pair (by decide) g_closing_pair (da_cons (de_var (i := 0) Mn rfl (by decide) rfl (da_nil ⟨rfl, _, _, _, rfl, rfl, (by first | assumption | omega | (simp; done) | exact .inl ⟨_, rfl⟩ | exact .inl ⟨_, _, _, rfl⟩ | exact .inr rfl), ⟨rfl, ⟨_, rfl, ⟨(by first | exact ltS (n := 1) rfl (by decide) | exact ltS (n := 2) rfl (by decide) | exact ltS (n := 3) rfl (by decide) | exact ltS (n := 4) rfl (by decide) | exact ltS (n := 5) rfl (by decide) | exact ltS (n := 6) rfl (by decide)), ?_, (da_nil (rc_all ⟨[@decide (Clo a' b' c' a 0) (Classical.propDecidable _), @decide (Clo a' b' c' (-c) b) (Classical.propDecidable _)], rfl, (ret0 ?_)⟩))⟩⟩⟩⟩)))))))))
  · intro d hd acc
    rcases List.mem_cons.mp hd with rfl | hd; rotate_left; rcases List.mem_cons.mp hd with rfl | hd; rotate_left; cases hd; all_goals
    refine (dgc_name (by decide) (fun _ _ _ _ _ => (de_call (bx_blk B) c_raw_closes (by decide) (gb_blk (x := "raw_closes") rfl) (da_cons (de_var (i := 1) (nm_blk (vi := [1, 2]) rfl) rfl (by decide) rfl (da_cons (de_var (i := 2) (nm_blk (vi := [1, 2]) rfl) rfl (by decide) rfl (da_nil ⟨rfl, _, _, _, _, _, rfl, rfl, (by first | assumption | omega | (simp; done) | exact .inl ⟨_, rfl⟩ | exact .inl ⟨_, _, _, rfl⟩ | exact .inr rfl), (by first | assumption | omega | (simp; done) | exact .inl ⟨_, rfl⟩ | exact .inl ⟨_, _, _, rfl⟩ | exact .inr rfl), fun r1 h10 => ⟨rfl, ⟨ov1 h10, rfl⟩⟩⟩))))))))
  exact q _ (by unfold Over; simp)
theorem ok_raw_lies_over {P : Program} {w : World} {K : PySem.W.Frag} {mg : Str → Option Value} {base : Heap} (T : Top1 K mg "raw_lies_over" s_raw_lies_over ["floor", "other"]) (m_all : mg "all" = none) (c_raw_closes : Cal P w K mg base CX0 "raw_closes" 1 (lift K sp_raw_closes)) (c_closing_pair : Cal P w K mg base CX0 "closing_pair" 5 (lift K sp_closing_pair)) : Cal P w K mg base CX0 "raw_lies_over" 6 (lift K sp_raw_lies_over) :=
  cal_of T sc_raw_lies_over (by rintro es μ Q ⟨_, _, _, _, _, _, rfl, _⟩; rfl) fun f cdv A outer s H E B es μ μh Q h => body_raw_lies_over (X0 := cxOf CX0 P w K mg base N_raw_lies_over "raw_lies_over" (defScope s_raw_lies_over) f cdv A outer s H E) (env0 := PyProof.Rows.envOfC "raw_lies_over" (defScope s_raw_lies_over) s.heap.objs.size f cdv) m_all c_raw_closes c_closing_pair B es μ μh Q h
/-! ### check_floors -/
abbrev s_check_floors : Stmt := topS 39
abbrev N_check_floors : List Str := ["floor", "other"]
theorem sc_check_floors : FnScope N_check_floors ["floor", "other"] (defScope s_check_floors) := ⟨rfl, rfl, rfl, by decide +kernel, rfl, by decide +kernel, by decide +kernel⟩
theorem nm_check_floors : nmC N_check_floors (defScope s_check_floors) [0, 1] = true := by decide +kernel
theorem lc_check_floors : lcC N_check_floors (defScope s_check_floors) [0, 1] = true := by decide +kernel
theorem gb_check_floors_check_floor : gbC (defScope s_check_floors) "check_floor" = true := by decide +kernel
def sp_check_floors : SpF := fun es μ P => ∃ (a b c a' b' c' : Int), es = [.d (fl a b c), .d (fl a' b' c')] ∧ μ = [] ∧ IsF a b c ∧ IsF a' b' c' ∧ P (.d .none) []
theorem body_check_floors {X0 : Cx} {env0 : PySem.Env} (c_check_floor : CalX X0 "check_floor" 4 sp_check_floor) (B : Bx (mkX X0 env0 N_check_floors (defScope s_check_floors)) 4) :
    ∀ (es : List Ent) (μ μh : Mu) (Q : Ent → Mu → Prop), sp_check_floors es μ Q → DSs (mkX X0 env0 N_check_floors (defScope s_check_floors)) (defBody s_check_floors) (slots0 N_check_floors es) (μ ++ μh) (Zof μ.length μh Q) := by
  rintro es μ μh Q ⟨a, b, c, a', b', c', rfl, rfl, p0, p1, q⟩
  have Mn : Nm (mkX X0 env0 N_check_floors (defScope s_check_floors)) [0, 1] := nm_of nm_check_floors
  have Ln : Lc (mkX X0 env0 N_check_floors (defScope s_check_floors)) [0, 1] := lc_of lc_check_floors
  have g_check_floor : Gb (mkX X0 env0 N_check_floors (defScope s_check_floors)) "check_floor" := gb_of gb_check_floors_check_floor
  refine dss_cons (ds_expr (de_call B c_check_floor (by decide) g_check_floor (da_cons (de_var (i := 0) Mn rfl (by decide) rfl (da_nil ⟨rfl, _, _, _, rfl, rfl, (by first | assumption | omega | (simp; done) | exact .inl ⟨_, rfl⟩ | exact .inl ⟨_, _, _, rfl⟩ | exact .inr rfl), ⟨rfl, ?_⟩⟩)))))
  refine dss_cons (ds_expr (de_call B c_check_floor (by decide) g_check_floor (da_cons (de_var (i := 1) Mn rfl (by decide) rfl (da_nil ⟨rfl, _, _, _, rfl, rfl, (by first | assumption | omega | (simp; done) | exact .inl ⟨_, rfl⟩ | exact .inl ⟨_, _, _, rfl⟩ | exact .inr rfl), ⟨rfl, ?_⟩⟩)))))
  exact dss_nil (ret0 q)
theorem ok_check_floors {P : Program} {w : World} {K : PySem.W.Frag} {mg : Str → Option Value} {base : Heap} (T : Top1 K mg "check_floors" s_check_floors ["floor", "other"]) (c_check_floor : Cal P w K mg base CX0 "check_floor" 4 (lift K sp_check_floor)) : Cal P w K mg base CX0 "check_floors" 5 (lift K sp_check_floors) :=
  cal_of T sc_check_floors (by rintro es μ Q ⟨_, _, _, _, _, _, rfl, _⟩; rfl) fun f cdv A outer s H E B es μ μh Q h => body_check_floors (X0 := cxOf CX0 P w K mg base N_check_floors "check_floors" (defScope s_check_floors) f cdv A outer s H E) (env0 := PyProof.Rows.envOfC "check_floors" (defScope s_check_floors) s.heap.objs.size f cdv) c_check_floor B es μ μh Q h
/-! ### lies_over -/
abbrev s_lies_over : Stmt := topS 40
abbrev N_lies_over : List Str := ["floor", "other"]
theorem sc_lies_over : FnScope N_lies_over ["floor", "other"] (defScope s_lies_over) := ⟨rfl, rfl, rfl, by decide +kernel, rfl, by decide +kernel, by decide +kernel⟩
theorem nm_lies_over : nmC N_lies_over (defScope s_lies_over) [0, 1] = true := by decide +kernel
theorem lc_lies_over : lcC N_lies_over (defScope s_lies_over) [0, 1] = true := by decide +kernel
theorem gb_lies_over_check_floors : gbC (defScope s_lies_over) "check_floors" = true := by decide +kernel
theorem gb_lies_over_raw_lies_over : gbC (defScope s_lies_over) "raw_lies_over" = true := by decide +kernel
def sp_lies_over : SpF := fun es μ P => ∃ (a b c a' b' c' : Int), es = [.d (fl a b c), .d (fl a' b' c')] ∧ μ = [] ∧ IsF a b c ∧ IsF a' b' c' ∧ ∀ (r : Bool), (r = true ↔ Over a b c a' b' c') → P (.d (.bool r)) []
theorem body_lies_over {X0 : Cx} {env0 : PySem.Env} (c_check_floors : CalX X0 "check_floors" 5 sp_check_floors) (c_raw_lies_over : CalX X0 "raw_lies_over" 6 sp_raw_lies_over) (B : Bx (mkX X0 env0 N_lies_over (defScope s_lies_over)) 6) :
    ∀ (es : List Ent) (μ μh : Mu) (Q : Ent → Mu → Prop), sp_lies_over es μ Q → DSs (mkX X0 env0 N_lies_over (defScope s_lies_over)) (defBody s_lies_over) (slots0 N_lies_over es) (μ ++ μh) (Zof μ.length μh Q) := by
  rintro es μ μh Q ⟨a, b, c, a', b', c', rfl, rfl, p0, p1, q⟩
  have Mn : Nm (mkX X0 env0 N_lies_over (defScope s_lies_over)) [0, 1] := nm_of nm_lies_over
  have Ln : Lc (mkX X0 env0 N_lies_over (defScope s_lies_over)) [0, 1] := lc_of lc_lies_over
  have g_check_floors : Gb (mkX X0 env0 N_lies_over (defScope s_lies_over)) "check_floors" := gb_of gb_lies_over_check_floors
  have g_raw_lies_over : Gb (mkX X0 env0 N_lies_over (defScope s_lies_over)) "raw_lies_over" := gb_of gb_lies_over_raw_lies_over
  refine dss_cons (ds_expr (de_call B c_check_floors (by decide) g_check_floors (da_cons (de_var (i := 0) Mn rfl (by decide) rfl (da_cons (de_var (i := 1) Mn rfl (by decide) rfl (da_nil ⟨rfl, _, _, _, _, _, _, rfl, rfl, (by first | assumption | omega | (simp; done) | exact .inl ⟨_, rfl⟩ | exact .inl ⟨_, _, _, rfl⟩ | exact .inr rfl), (by first | assumption | omega | (simp; done) | exact .inl ⟨_, rfl⟩ | exact .inl ⟨_, _, _, rfl⟩ | exact .inr rfl), ⟨rfl, ?_⟩⟩)))))))
  refine dss_cons (ds_ret (de_call B c_raw_lies_over (by decide) g_raw_lies_over (da_cons (de_var (i := 0) Mn rfl (by decide) rfl (da_cons (de_var (i := 1) Mn rfl (by decide) rfl (da_nil ⟨rfl, _, _, _, _, _, _, rfl, rfl, (by first | assumption | omega | (simp; done) | exact .inl ⟨_, rfl⟩ | exact .inl ⟨_, _, _, rfl⟩ | exact .inr rfl), (by first | assumption | omega | (simp; done) | exact .inl ⟨_, rfl⟩ | exact .inl ⟨_, _, _, rfl⟩ | exact .inr rfl), fun r2 h20 => ⟨rfl, (ret0 ?_)⟩⟩)))))))
  exact q _ h20
theorem ok_lies_over {P : Program} {w : World} {K : PySem.W.Frag} {mg : Str → Option Value} {base : Heap} (T : Top1 K mg "lies_over" s_lies_over ["floor", "other"]) (c_check_floors : Cal P w K mg base CX0 "check_floors" 5 (lift K sp_check_floors)) (c_raw_lies_over : Cal P w K mg base CX0 "raw_lies_over" 6 (lift K sp_raw_lies_over)) : Cal P w K mg base CX0 "lies_over" 7 (lift K sp_lies_over) :=
  cal_of T sc_lies_over (by rintro es μ Q ⟨_, _, _, _, _, _, rfl, _⟩; rfl) fun f cdv A outer s H E B es μ μh Q h => body_lies_over (X0 := cxOf CX0 P w K mg base N_lies_over "lies_over" (defScope s_lies_over) f cdv A outer s H E) (env0 := PyProof.Rows.envOfC "lies_over" (defScope s_lies_over) s.heap.objs.size f cdv) c_check_floors c_raw_lies_over B es μ μh Q h
/-! ### check_over -/
abbrev s_check_over : Stmt := topS 41
abbrev N_check_over : List Str := ["floor", "other"]
theorem sc_check_over : FnScope N_check_over ["floor", "other"] (defScope s_check_over) := ⟨rfl, rfl, rfl, by decide +kernel, rfl, by decide +kernel, by decide +kernel⟩
theorem nm_check_over : nmC N_check_over (defScope s_check_over) [0, 1] = true := by decide +kernel
theorem lc_check_over : lcC N_check_over (defScope s_check_over) [0, 1] = true := by decide +kernel
theorem gb_check_over_check_floors : gbC (defScope s_check_over) "check_floors" = true := by decide +kernel
theorem gb_check_over_raw_lies_over : gbC (defScope s_check_over) "raw_lies_over" = true := by decide +kernel
def sp_check_over : SpF := fun es μ P => ∃ (a b c a' b' c' : Int), es = [.d (fl a b c), .d (fl a' b' c')] ∧ μ = [] ∧ IsF a b c ∧ IsF a' b' c' ∧ Over a b c a' b' c' ∧ P (.d .none) []
theorem body_check_over {X0 : Cx} {env0 : PySem.Env} (c_check_floors : CalX X0 "check_floors" 5 sp_check_floors) (c_raw_lies_over : CalX X0 "raw_lies_over" 6 sp_raw_lies_over) (B : Bx (mkX X0 env0 N_check_over (defScope s_check_over)) 6) :
    ∀ (es : List Ent) (μ μh : Mu) (Q : Ent → Mu → Prop), sp_check_over es μ Q → DSs (mkX X0 env0 N_check_over (defScope s_check_over)) (defBody s_check_over) (slots0 N_check_over es) (μ ++ μh) (Zof μ.length μh Q) := by
  rintro es μ μh Q ⟨a, b, c, a', b', c', rfl, rfl, p0, p1, p2, q⟩
  have Mn : Nm (mkX X0 env0 N_check_over (defScope s_check_over)) [0, 1] := nm_of nm_check_over
  have Ln : Lc (mkX X0 env0 N_check_over (defScope s_check_over)) [0, 1] := lc_of lc_check_over
  have g_check_floors : Gb (mkX X0 env0 N_check_over (defScope s_check_over)) "check_floors" := gb_of gb_check_over_check_floors
  have g_raw_lies_over : Gb (mkX X0 env0 N_check_over (defScope s_check_over)) "raw_lies_over" := gb_of gb_check_over_raw_lies_over
  refine dss_cons (ds_expr (de_call B c_check_floors (by decide) g_check_floors (da_cons (de_var (i := 0) Mn rfl (by decide) rfl (da_cons (de_var (i := 1) Mn rfl (by decide) rfl (da_nil ⟨rfl, _, _, _, _, _, _, rfl, rfl, (by first | assumption | omega | (simp; done) | exact .inl ⟨_, rfl⟩ | exact .inl ⟨_, _, _, rfl⟩ | exact .inr rfl), (by first | assumption | omega | (simp; done) | exact .inl ⟨_, rfl⟩ | exact .inl ⟨_, _, _, rfl⟩ | exact .inr rfl), ⟨rfl, ?_⟩⟩)))))))
  -- if not raw_lies_over(floor, other)
  refine dss_cons (ds_if (dt_not (dt_val (de_call B c_raw_lies_over (by decide) g_raw_lies_over (da_cons (de_var (i := 0) Mn rfl (by decide) rfl (da_cons (de_var (i := 1) Mn rfl (by decide) rfl (da_nil ⟨rfl, _, _, _, _, _, _, rfl, rfl, (by first | assumption | omega | (simp; done) | exact .inl ⟨_, rfl⟩ | exact .inl ⟨_, _, _, rfl⟩ | exact .inr rfl), (by first | assumption | omega | (simp; done) | exact .inl ⟨_, rfl⟩ | exact .inl ⟨_, _, _, rfl⟩ | exact .inr rfl), fun r2 h20 => ⟨rfl, ⟨_, rfl, ⟨fun ht => ?_, fun ht => ?_⟩⟩⟩⟩)))))))))
  · try simp only [decide_eq_true_eq, decide_eq_false_iff_not, bne_iff_ne, Bool.not_eq_true', Bool.not_eq_false', ne_eq, beq_iff_eq] at ht
    -- raise raise NotOver()
    exact absurd (h20.mpr p2) (by simp [ht])
  · try simp only [decide_eq_true_eq, decide_eq_false_iff_not, bne_iff_ne, Bool.not_eq_true', Bool.not_eq_false', ne_eq, beq_iff_eq] at ht
    exact dss_nil (dss_nil (ret0 q))
theorem ok_check_over {P : Program} {w : World} {K : PySem.W.Frag} {mg : Str → Option Value} {base : Heap} (T : Top1 K mg "check_over" s_check_over ["floor", "other"]) (c_check_floors : Cal P w K mg base CX0 "check_floors" 5 (lift K sp_check_floors)) (c_raw_lies_over : Cal P w K mg base CX0 "raw_lies_over" 6 (lift K sp_raw_lies_over)) : Cal P w K mg base CX0 "check_over" 7 (lift K sp_check_over) :=
  cal_of T sc_check_over (by rintro es μ Q ⟨_, _, _, _, _, _, rfl, _⟩; rfl) fun f cdv A outer s H E B es μ μh Q h => body_check_over (X0 := cxOf CX0 P w K mg base N_check_over "check_over" (defScope s_check_over) f cdv A outer s H E) (env0 := PyProof.Rows.envOfC "check_over" (defScope s_check_over) s.heap.objs.size f cdv) c_check_floors c_raw_lies_over B es μ μh Q h
/-! ### raw_folded -/
abbrev s_raw_folded : Stmt := topS 42
abbrev N_raw_folded : List Str := ["other", "cell"]
theorem sc_raw_folded : FnScope N_raw_folded ["other", "cell"] (defScope s_raw_folded) := ⟨rfl, rfl, rfl, by decide +kernel, rfl, by decide +kernel, by decide +kernel⟩
theorem nm_raw_folded : nmC N_raw_folded (defScope s_raw_folded) [0, 1] = true := by decide +kernel
theorem lc_raw_folded : lcC N_raw_folded (defScope s_raw_folded) [0, 1] = true := by decide +kernel
theorem gb_raw_folded_raw_led : gbC (defScope s_raw_folded) "raw_led" = true := by decide +kernel
def sp_raw_folded : SpF := fun es μ P => ∃ (a b c x y : Int), es = [.d (fl a b c), .d (pr x y)] ∧ μ = [] ∧ FB a b c ∧ (Bd x ∧ Bd y) ∧ P (.d (pr ((0 + x + (0 + y) / b * c) % a) ((0 + y) % b))) []
theorem body_raw_folded {X0 : Cx} {env0 : PySem.Env} (c_raw_led : CalX X0 "raw_led" 1 sp_raw_led) (B : Bx (mkX X0 env0 N_raw_folded (defScope s_raw_folded)) 1) :
    ∀ (es : List Ent) (μ μh : Mu) (Q : Ent → Mu → Prop), sp_raw_folded es μ Q → DSs (mkX X0 env0 N_raw_folded (defScope s_raw_folded)) (defBody s_raw_folded) (slots0 N_raw_folded es) (μ ++ μh) (Zof μ.length μh Q) := by
  rintro es μ μh Q ⟨a, b, c, x, y, rfl, rfl, p0, p1, q⟩
  have Mn : Nm (mkX X0 env0 N_raw_folded (defScope s_raw_folded)) [0, 1] := nm_of nm_raw_folded
  have Ln : Lc (mkX X0 env0 N_raw_folded (defScope s_raw_folded)) [0, 1] := lc_of lc_raw_folded
  have g_raw_led : Gb (mkX X0 env0 N_raw_folded (defScope s_raw_folded)) "raw_led" := gb_of gb_raw_folded_raw_led
  refine dss_cons (ds_ret (de_call B c_raw_led (by decide) g_raw_led (da_cons (de_var (i := 0) Mn rfl (by decide) rfl (da_cons (de_tup (da_cons (de_int (da_cons (de_int (da_nil ⟨[_, _], rfl, lenS (n := 2) rfl (by decide), (da_cons (de_var (i := 1) Mn rfl (by decide) rfl (da_nil ⟨rfl, _, _, _, _, _, _, _, rfl, rfl, (by first | assumption | omega | (simp; done) | exact .inl ⟨_, rfl⟩ | exact .inl ⟨_, _, _, rfl⟩ | exact .inr rfl), (by first | assumption | omega | (simp; done) | exact .inl ⟨_, rfl⟩ | exact .inl ⟨_, _, _, rfl⟩ | exact .inr rfl), ⟨rfl, (ret0 ?_)⟩⟩)))⟩)))))))))))
  exact q
theorem ok_raw_folded {P : Program} {w : World} {K : PySem.W.Frag} {mg : Str → Option Value} {base : Heap} (T : Top1 K mg "raw_folded" s_raw_folded ["other", "cell"]) (c_raw_led : Cal P w K mg base CX0 "raw_led" 1 (lift K sp_raw_led)) : Cal P w K mg base CX0 "raw_folded" 2 (lift K sp_raw_folded) :=
  cal_of T sc_raw_folded (by rintro es μ Q ⟨_, _, _, _, _, rfl, _⟩; rfl) fun f cdv A outer s H E B es μ μh Q h => body_raw_folded (X0 := cxOf CX0 P w K mg base N_raw_folded "raw_folded" (defScope s_raw_folded) f cdv A outer s H E) (env0 := PyProof.Rows.envOfC "raw_folded" (defScope s_raw_folded) s.heap.objs.size f cdv) c_raw_led B es μ μh Q h
/-! ### folded -/
abbrev s_folded : Stmt := topS 43
abbrev N_folded : List Str := ["floor", "other", "cell"]
theorem sc_folded : FnScope N_folded ["floor", "other", "cell"] (defScope s_folded) := ⟨rfl, rfl, rfl, by decide +kernel, rfl, by decide +kernel, by decide +kernel⟩
theorem nm_folded : nmC N_folded (defScope s_folded) [0, 1, 2] = true := by decide +kernel
theorem lc_folded : lcC N_folded (defScope s_folded) [0, 1, 2] = true := by decide +kernel
theorem gb_folded_check_over : gbC (defScope s_folded) "check_over" = true := by decide +kernel
theorem gb_folded_need_cell : gbC (defScope s_folded) "need_cell" = true := by decide +kernel
theorem gb_folded_raw_folded : gbC (defScope s_folded) "raw_folded" = true := by decide +kernel
def sp_folded : SpF := fun es μ P => ∃ (a b c a' b' c' x y : Int), es = [.d (fl a b c), .d (fl a' b' c'), .d (pr x y)] ∧ μ = [] ∧ IsF a b c ∧ IsF a' b' c' ∧ Over a b c a' b' c' ∧ 0 ≤ x ∧ x < a ∧ 0 ≤ y ∧ y < b ∧ P (.d (pr ((0 + x + (0 + y) / b' * c') % a') ((0 + y) % b'))) []
theorem body_folded {X0 : Cx} {env0 : PySem.Env} (c_check_over : CalX X0 "check_over" 7 sp_check_over) (c_need_cell : CalX X0 "need_cell" 4 sp_need_cell) (c_raw_folded : CalX X0 "raw_folded" 2 sp_raw_folded) (B : Bx (mkX X0 env0 N_folded (defScope s_folded)) 7) :
    ∀ (es : List Ent) (μ μh : Mu) (Q : Ent → Mu → Prop), sp_folded es μ Q → DSs (mkX X0 env0 N_folded (defScope s_folded)) (defBody s_folded) (slots0 N_folded es) (μ ++ μh) (Zof μ.length μh Q) := by
  rintro es μ μh Q ⟨a, b, c, a', b', c', x, y, rfl, rfl, p0, p1, p2, p3, p4, p5, p6, q⟩
  have Mn : Nm (mkX X0 env0 N_folded (defScope s_folded)) [0, 1, 2] := nm_of nm_folded
  have Ln : Lc (mkX X0 env0 N_folded (defScope s_folded)) [0, 1, 2] := lc_of lc_folded
  have g_check_over : Gb (mkX X0 env0 N_folded (defScope s_folded)) "check_over" := gb_of gb_folded_check_over
  have g_need_cell : Gb (mkX X0 env0 N_folded (defScope s_folded)) "need_cell" := gb_of gb_folded_need_cell
  have g_raw_folded : Gb (mkX X0 env0 N_folded (defScope s_folded)) "raw_folded" := gb_of gb_folded_raw_folded
  refine dss_cons (ds_expr (de_call B c_check_over (by decide) g_check_over (da_cons (de_var (i := 0) Mn rfl (by decide) rfl (da_cons (de_var (i := 1) Mn rfl (by decide) rfl (da_nil ⟨rfl, _, _, _, _, _, _, rfl, rfl, (by first | assumption | omega | (simp; done) | exact .inl ⟨_, rfl⟩ | exact .inl ⟨_, _, _, rfl⟩ | exact .inr rfl), (by first | assumption | omega | (simp; done) | exact .inl ⟨_, rfl⟩ | exact .inl ⟨_, _, _, rfl⟩ | exact .inr rfl), (by first | assumption | omega | (simp; done) | exact .inl ⟨_, rfl⟩ | exact .inl ⟨_, _, _, rfl⟩ | exact .inr rfl), ⟨rfl, ?_⟩⟩)))))))
  refine dss_cons (ds_expr (de_call B c_need_cell (by decide) g_need_cell (da_cons (de_var (i := 0) Mn rfl (by decide) rfl (da_cons (de_var (i := 2) Mn rfl (by decide) rfl (da_nil ⟨rfl, _, _, _, _, _, rfl, rfl, (by first | assumption | omega | (simp; done) | exact .inl ⟨_, rfl⟩ | exact .inl ⟨_, _, _, rfl⟩ | exact .inr rfl), (by first | assumption | omega | (simp; done) | exact .inl ⟨_, rfl⟩ | exact .inl ⟨_, _, _, rfl⟩ | exact .inr rfl), (by first | assumption | omega | (simp; done) | exact .inl ⟨_, rfl⟩ | exact .inl ⟨_, _, _, rfl⟩ | exact .inr rfl), (by first | assumption | omega | (simp; done) | exact .inl ⟨_, rfl⟩ | exact .inl ⟨_, _, _, rfl⟩ | exact .inr rfl), ⟨rfl, ?_⟩⟩)))))))
  refine dss_cons (ds_ret (de_call B c_raw_folded (by decide) g_raw_folded (da_cons (de_var (i := 1) Mn rfl (by decide) rfl (da_cons (de_var (i := 2) Mn rfl (by decide) rfl (da_nil ⟨rfl, _, _, _, _, _, rfl, rfl, (by first | assumption | omega | (simp; done) | exact .inl ⟨_, rfl⟩ | exact .inl ⟨_, _, _, rfl⟩ | exact .inr rfl), (by first | assumption | omega | (simp; done) | exact .inl ⟨_, rfl⟩ | exact .inl ⟨_, _, _, rfl⟩ | exact .inr rfl), ⟨rfl, (ret0 ?_)⟩⟩)))))))
  exact q
theorem ok_folded {P : Program} {w : World} {K : PySem.W.Frag} {mg : Str → Option Value} {base : Heap} (T : Top1 K mg "folded" s_folded ["floor", "other", "cell"]) (c_check_over : Cal P w K mg base CX0 "check_over" 7 (lift K sp_check_over)) (c_need_cell : Cal P w K mg base CX0 "need_cell" 4 (lift K sp_need_cell)) (c_raw_folded : Cal P w K mg base CX0 "raw_folded" 2 (lift K sp_raw_folded)) : Cal P w K mg base CX0 "folded" 8 (lift K sp_folded) :=
  cal_of T sc_folded (by rintro es μ Q ⟨_, _, _, _, _, _, _, _, rfl, _⟩; rfl) fun f cdv A outer s H E B es μ μh Q h => body_folded (X0 := cxOf CX0 P w K mg base N_folded "folded" (defScope s_folded) f cdv A outer s H E) (env0 := PyProof.Rows.envOfC "folded" (defScope s_folded) s.heap.objs.size f cdv) c_check_over c_need_cell c_raw_folded B es μ μh Q h
end K07

namespace K07
open PySem PySem.Spec L2 Pw
theorem pt_pair {a b c a' b' c' : Int} (h : IsF a b c) (h' : IsF a' b' c') : PT [(a, 0), (-c, b), (a', 0), (-c', b')] := by
  refine ⟨by simp, fun v hv => ?_, ⟨a, by omega, 0, 0, 0, 1, ?_⟩, -c, b, by omega, 0, 0, 1, 0, ?_⟩
  · simp only [List.mem_cons, List.not_mem_nil, or_false] at hv
    rcases hv with rfl | rfl | rfl | rfl <;> simp only <;> omega
  · constructor <;> simp
  · constructor <;> simp
theorem clo_iff {a b c x y : Int} (ha : 0 < a) (hb : 0 < b) : Clo a b c x y ↔ ∃ m n, x = m * a + n * (-c) ∧ y = n * b := by
  constructor
  · rintro ⟨h1, h2⟩
    obtain ⟨n, rfl⟩ := Int.dvd_of_emod_eq_zero h1
    rw [Int.mul_ediv_cancel_left _ (by omega)] at h2
    obtain ⟨m, hm⟩ := Int.dvd_of_emod_eq_zero h2
    exact ⟨m, n, by grind, by grind⟩
  · rintro ⟨m, n, rfl, rfl⟩
    refine ⟨Int.mul_emod_left _ _, ?_⟩
    rw [Int.mul_ediv_cancel _ (by omega)]
    exact Int.emod_eq_zero_of_dvd ⟨m, by grind⟩
/-- all that closes in one, then in the other -/
def Sum2 (a b c a' b' c' x y : Int) : Prop := ∃ x1 y1, Clo a b c x1 y1 ∧ Clo a' b' c' (x - x1) (y - y1)
theorem spl_sum {a b c a' b' c' x y : Int} (h : IsF a b c) (h' : IsF a' b' c') : SpL [(a, 0), (-c, b), (a', 0), (-c', b')].reverse x y ↔ Sum2 a b c a' b' c' x y := by
  constructor
  · rintro ⟨k1, k2, k3, k4, e1, e2⟩
    simp only at e1 e2
    refine ⟨k4 * a + k3 * (-c), k3 * b, (clo_iff (by omega) (by omega)).mpr ⟨k4, k3, rfl, rfl⟩, (clo_iff (by omega) (by omega)).mpr ⟨k2, k1, by omega, by omega⟩⟩
  · rintro ⟨x1, y1, h1, h2⟩
    obtain ⟨m, n, rfl, rfl⟩ := (clo_iff (by omega) (by omega)).mp h1
    obtain ⟨m', n', e1, e2⟩ := (clo_iff (by omega) (by omega)).mp h2
    exact ⟨n', m', n, m, by simp only; omega, by simp only; omega⟩
def Below (a b c a' b' c' : Int) (d : D) : Prop := ∃ l h t, 0 < l ∧ 0 < h ∧ 0 ≤ t ∧ t < l ∧ (∀ x y, Clo l h t x y ↔ Sum2 a b c a' b' c' x y) ∧ (IsF l h t → d = fl l h t) ∧ (¬ IsF l h t → d = .none)
/-! ### floor_below -/
abbrev s_floor_below : Stmt := topS 44
abbrev N_floor_below : List Str := ["one", "other", "found"]
theorem sc_floor_below : FnScope N_floor_below ["one", "other"] (defScope s_floor_below) := ⟨rfl, rfl, rfl, by decide +kernel, rfl, by decide +kernel, by decide +kernel⟩
theorem nm_floor_below : nmC N_floor_below (defScope s_floor_below) [0, 1, 2] = true := by decide +kernel
theorem lc_floor_below : lcC N_floor_below (defScope s_floor_below) [0, 1, 2] = true := by decide +kernel
theorem gb_floor_below_check_floors : gbC (defScope s_floor_below) "check_floors" = true := by decide +kernel
theorem gb_floor_below_put_together : gbC (defScope s_floor_below) "put_together" = true := by decide +kernel
theorem gb_floor_below_list : gbC (defScope s_floor_below) "list" = true := by decide +kernel
theorem gb_floor_below_closing_pair : gbC (defScope s_floor_below) "closing_pair" = true := by decide +kernel
theorem gb_floor_below_is_floor : gbC (defScope s_floor_below) "is_floor" = true := by decide +kernel
def sp_floor_below : SpF := fun es μ P => ∃ (a b c a' b' c' : Int), es = [.d (fl a b c), .d (fl a' b' c')] ∧ μ = [] ∧ IsF a b c ∧ IsF a' b' c' ∧ ∀ (d : D), Below a b c a' b' c' d → P (.d d) []
theorem body_floor_below {X0 : Cx} {env0 : PySem.Env} (c_check_floors : CalX X0 "check_floors" 5 sp_check_floors) (c_put_together : CalX X0 "put_together" 2 sp_put_together) (c_is_floor : CalX X0 "is_floor" 3 sp_is_floor) (m_list : X0.mg "list" = none) (c_closing_pair : CalX X0 "closing_pair" 5 sp_closing_pair) (B : Bx (mkX X0 env0 N_floor_below (defScope s_floor_below)) 5) :
    ∀ (es : List Ent) (μ μh : Mu) (Q : Ent → Mu → Prop), sp_floor_below es μ Q → DSs (mkX X0 env0 N_floor_below (defScope s_floor_below)) (defBody s_floor_below) (slots0 N_floor_below es) (μ ++ μh) (Zof μ.length μh Q) := by
  rintro es μ μh Q ⟨a, b, c, a', b', c', rfl, rfl, p0, p1, q⟩
  have Mn : Nm (mkX X0 env0 N_floor_below (defScope s_floor_below)) [0, 1, 2] := nm_of nm_floor_below
  have Ln : Lc (mkX X0 env0 N_floor_below (defScope s_floor_below)) [0, 1, 2] := lc_of lc_floor_below
  have g_check_floors : Gb (mkX X0 env0 N_floor_below (defScope s_floor_below)) "check_floors" := gb_of gb_floor_below_check_floors
  have g_put_together : Gb (mkX X0 env0 N_floor_below (defScope s_floor_below)) "put_together" := gb_of gb_floor_below_put_together
  have g_list : Gb (mkX X0 env0 N_floor_below (defScope s_floor_below)) "list" := gb_of gb_floor_below_list
  have g_closing_pair : Gb (mkX X0 env0 N_floor_below (defScope s_floor_below)) "closing_pair" := gb_of gb_floor_below_closing_pair
  have g_is_floor : Gb (mkX X0 env0 N_floor_below (defScope s_floor_below)) "is_floor" := gb_of gb_floor_below_is_floor
  refine dss_cons (ds_expr (de_call B c_check_floors (by decide) g_check_floors (da_cons (de_var (i := 0) Mn rfl (by decide) rfl (da_cons (de_var (i := 1) Mn rfl (by decide) rfl (da_nil ⟨rfl, _, _, _, _, _, _, rfl, rfl, (by first | assumption | omega | (simp; done) | exact .inl ⟨_, rfl⟩ | exact .inl ⟨_, _, _, rfl⟩ | exact .inr rfl), (by first | assumption | omega | (simp; done) | exact .inl ⟨_, rfl⟩ | exact .inl ⟨_, _, _, rfl⟩ | exact .inr rfl), ⟨rfl, ?_⟩⟩)))))))
  -- found = put_together(list(closing_pair(one)) + list(closing_pair(other)))
  refine dss_cons (ds_set (i := 2) Ln rfl (by decide) (de_call B c_put_together (by decide) g_put_together (da_cons (de_bin op_catL (de_callT call_list_of g_list m_list (by decide +kernel) (da_cons (de_call B c_closing_pair (by decide) g_closing_pair (da_cons (de_var (i := 0) Mn rfl (by decide) rfl (da_nil ⟨rfl, _, _, _, rfl, rfl, (by first | assumption | omega | (simp; done) | exact .inl ⟨_, rfl⟩ | exact .inl ⟨_, _, _, rfl⟩ | exact .inr rfl), ⟨rfl, (da_nil (rc_listOf ⟨_, .inr rfl, (de_callT call_list_of g_list m_list (by decide +kernel) (da_cons (de_call B c_closing_pair (by decide) g_closing_pair (da_cons (de_var (i := 1) Mn rfl (by decide) rfl (da_nil ⟨rfl, _, _, _, rfl, rfl, (by first | assumption | omega | (simp; done) | exact .inl ⟨_, rfl⟩ | exact .inl ⟨_, _, _, rfl⟩ | exact .inr rfl), ⟨rfl, (da_nil (rc_listOf ⟨_, .inr rfl, (rv_catL ⟨_, _, rfl, rfl, (by first | (show 1 + 1 ≤ sizeLine; decide) | (show 2 + 1 ≤ sizeLine; decide) | (show 2 + 2 ≤ sizeLine; decide) | (show 3 + 1 ≤ sizeLine; decide) | (show 3 + 2 ≤ sizeLine; decide) | (show 5 + 1 ≤ sizeLine; decide)), (da_nil ⟨rfl, [(a, 0), (-c, b), (a', 0), (-c', b')], rfl, rfl, pt_pair p0 p1, fun l2 h2 t2 h20 => ⟨rfl, ?_⟩⟩)⟩)⟩))⟩⟩))))))⟩))⟩⟩))))))))))
  refine dss_cons (ds_ret (de_if (dt_val (de_call B c_is_floor (by decide) g_is_floor (da_cons (de_var (i := 2) Mn rfl (by decide) rfl (da_nil ⟨rfl, _, rfl, rfl, (by first | assumption | omega | (simp; done) | exact .inl ⟨_, rfl⟩ | exact .inl ⟨_, _, _, rfl⟩ | exact .inr rfl), fun r5 h50 => ⟨rfl, ⟨_, rfl, ⟨fun hi => (de_var (i := 2) Mn rfl (by decide) rfl (ret0 ?_)), fun hi => (de_non (ret0 ?_))⟩⟩⟩⟩)))))))
  · obtain ⟨l0, h0, t0, t1, sp⟩ := h20
    exact q _ ⟨l2, h2, t2, l0, h0, t0, t1, fun x y => (sp x y).symm.trans (spl_sum p0 p1), fun _ => rfl, fun n => absurd (isFd_fl.mp (h50.mp hi)) n⟩
  · obtain ⟨l0, h0, t0, t1, sp⟩ := h20
    exact q _ ⟨l2, h2, t2, l0, h0, t0, t1, fun x y => (sp x y).symm.trans (spl_sum p0 p1), fun n => absurd (h50.mpr (isFd_fl.mpr n)) (by simp [hi]), fun _ => rfl⟩
theorem ok_floor_below {P : Program} {w : World} {K : PySem.W.Frag} {mg : Str → Option Value} {base : Heap} (T : Top1 K mg "floor_below" s_floor_below ["one", "other"]) (c_check_floors : Cal P w K mg base CX0 "check_floors" 5 (lift K sp_check_floors)) (c_put_together : Cal P w K mg base CX0 "put_together" 2 (lift K sp_put_together)) (c_is_floor : Cal P w K mg base CX0 "is_floor" 3 (lift K sp_is_floor)) (m_list : mg "list" = none) (c_closing_pair : Cal P w K mg base CX0 "closing_pair" 5 (lift K sp_closing_pair)) : Cal P w K mg base CX0 "floor_below" 6 (lift K sp_floor_below) :=
  cal_of T sc_floor_below (by rintro es μ Q ⟨_, _, _, _, _, _, rfl, _⟩; rfl) fun f cdv A outer s H E B es μ μh Q h => body_floor_below (X0 := cxOf CX0 P w K mg base N_floor_below "floor_below" (defScope s_floor_below) f cdv A outer s H E) (env0 := PyProof.Rows.envOfC "floor_below" (defScope s_floor_below) s.heap.objs.size f cdv) c_check_floors c_put_together c_is_floor m_list c_closing_pair B es μ μh Q h
/-! ### raw_divisor -/
abbrev s_raw_divisor : Stmt := topS 47
abbrev N_raw_divisor : List Str := ["floor"]
theorem sc_raw_divisor : FnScope N_raw_divisor ["floor"] (defScope s_raw_divisor) := ⟨rfl, rfl, rfl, by decide +kernel, rfl, by decide +kernel, by decide +kernel⟩
theorem nm_raw_divisor : nmC N_raw_divisor (defScope s_raw_divisor) [0] = true := by decide +kernel
theorem lc_raw_divisor : lcC N_raw_divisor (defScope s_raw_divisor) [0] = true := by decide +kernel
theorem gb_raw_divisor_common : gbC (defScope s_raw_divisor) "common" = true := by decide +kernel
def sp_raw_divisor : SpF := fun es μ P => ∃ (a b c : Int), es = [.d (fl a b c)] ∧ μ = [] ∧ P (.d (.int (Int.gcd (Int.gcd a b) c))) []
theorem body_raw_divisor {X0 : Cx} {env0 : PySem.Env} (c_common : CalX X0 "common" 1 sp_common) (B : Bx (mkX X0 env0 N_raw_divisor (defScope s_raw_divisor)) 1) :
    ∀ (es : List Ent) (μ μh : Mu) (Q : Ent → Mu → Prop), sp_raw_divisor es μ Q → DSs (mkX X0 env0 N_raw_divisor (defScope s_raw_divisor)) (defBody s_raw_divisor) (slots0 N_raw_divisor es) (μ ++ μh) (Zof μ.length μh Q) := by
  rintro es μ μh Q ⟨a, b, c, rfl, rfl, q⟩
  have Mn : Nm (mkX X0 env0 N_raw_divisor (defScope s_raw_divisor)) [0] := nm_of nm_raw_divisor
  have Ln : Lc (mkX X0 env0 N_raw_divisor (defScope s_raw_divisor)) [0] := lc_of lc_raw_divisor
  have g_common : Gb (mkX X0 env0 N_raw_divisor (defScope s_raw_divisor)) "common" := gb_of gb_raw_divisor_common
  refine dss_cons (ds_ret (de_call B c_common (by decide) g_common (da_cons (de_call B c_common (by decide) g_common (da_cons (de_ix ix_tup (fun _ _ => rfl) (de_var (i := 0) Mn rfl (by decide) rfl (de_int (rv_ixT ⟨_, _, _, rfl, rfl, rfl, (da_cons (de_ix ix_tup (fun _ _ => rfl) (de_var (i := 0) Mn rfl (by decide) rfl (de_int (rv_ixT ⟨_, _, _, rfl, rfl, rfl, (da_nil ⟨rfl, _, _, rfl, rfl, ⟨rfl, (da_cons (de_ix ix_tup (fun _ _ => rfl) (de_var (i := 0) Mn rfl (by decide) rfl (de_int (rv_ixT ⟨_, _, _, rfl, rfl, rfl, (da_nil ⟨rfl, _, _, rfl, rfl, ⟨rfl, (ret0 ?_)⟩⟩)⟩)))))⟩⟩)⟩)))))⟩)))))))))
  exact q
theorem ok_raw_divisor {P : Program} {w : World} {K : PySem.W.Frag} {mg : Str → Option Value} {base : Heap} (T : Top1 K mg "raw_divisor" s_raw_divisor ["floor"]) (c_common : Cal P w K mg base CX0 "common" 1 (lift K sp_common)) : Cal P w K mg base CX0 "raw_divisor" 2 (lift K sp_raw_divisor) :=
  cal_of T sc_raw_divisor (by rintro es μ Q ⟨_, _, _, rfl, _⟩; rfl) fun f cdv A outer s H E B es μ μh Q h => body_raw_divisor (X0 := cxOf CX0 P w K mg base N_raw_divisor "raw_divisor" (defScope s_raw_divisor) f cdv A outer s H E) (env0 := PyProof.Rows.envOfC "raw_divisor" (defScope s_raw_divisor) s.heap.objs.size f cdv) c_common B es μ μh Q h
/-! ### group -/
abbrev s_group : Stmt := topS 48
abbrev N_group : List Str := ["floor", "k"]
theorem sc_group : FnScope N_group ["floor"] (defScope s_group) := ⟨rfl, rfl, rfl, by decide +kernel, rfl, by decide +kernel, by decide +kernel⟩
theorem nm_group : nmC N_group (defScope s_group) [0, 1] = true := by decide +kernel
theorem lc_group : lcC N_group (defScope s_group) [0, 1] = true := by decide +kernel
theorem gb_group_check_floor : gbC (defScope s_group) "check_floor" = true := by decide +kernel
theorem gb_group_raw_divisor : gbC (defScope s_group) "raw_divisor" = true := by decide +kernel
theorem gb_group_raw_many : gbC (defScope s_group) "raw_many" = true := by decide +kernel
def sp_group : SpF := fun es μ P => ∃ (a b c : Int), es = [.d (fl a b c)] ∧ μ = [] ∧ IsF a b c ∧ P (.d (pr (Int.gcd (Int.gcd a b) c) (a * b / (Int.gcd (Int.gcd a b) c)))) []
theorem body_group {X0 : Cx} {env0 : PySem.Env} (c_check_floor : CalX X0 "check_floor" 4 sp_check_floor) (c_raw_divisor : CalX X0 "raw_divisor" 2 sp_raw_divisor) (c_raw_many : CalX X0 "raw_many" 1 sp_raw_many) (B : Bx (mkX X0 env0 N_group (defScope s_group)) 4) :
    ∀ (es : List Ent) (μ μh : Mu) (Q : Ent → Mu → Prop), sp_group es μ Q → DSs (mkX X0 env0 N_group (defScope s_group)) (defBody s_group) (slots0 N_group es) (μ ++ μh) (Zof μ.length μh Q) := by
  rintro es μ μh Q ⟨a, b, c, rfl, rfl, p0, q⟩
  have Mn : Nm (mkX X0 env0 N_group (defScope s_group)) [0, 1] := nm_of nm_group
  have Ln : Lc (mkX X0 env0 N_group (defScope s_group)) [0, 1] := lc_of lc_group
  have g_check_floor : Gb (mkX X0 env0 N_group (defScope s_group)) "check_floor" := gb_of gb_group_check_floor
  have g_raw_divisor : Gb (mkX X0 env0 N_group (defScope s_group)) "raw_divisor" := gb_of gb_group_raw_divisor
  have g_raw_many : Gb (mkX X0 env0 N_group (defScope s_group)) "raw_many" := gb_of gb_group_raw_many
  refine dss_cons (ds_expr (de_call B c_check_floor (by decide) g_check_floor (da_cons (de_var (i := 0) Mn rfl (by decide) rfl (da_nil ⟨rfl, _, _, _, rfl, rfl, (by first | assumption | omega | (simp; done) | exact .inl ⟨_, rfl⟩ | exact .inl ⟨_, _, _, rfl⟩ | exact .inr rfl), ⟨rfl, ?_⟩⟩)))))
  -- k = raw_divisor(floor)
  refine dss_cons (ds_set (i := 1) Ln rfl (by decide) (de_call B c_raw_divisor (by decide) g_raw_divisor (da_cons (de_var (i := 0) Mn rfl (by decide) rfl (da_nil ⟨rfl, _, _, _, rfl, rfl, ⟨rfl, ?_⟩⟩)))))
  have gp : 0 < (Int.gcd (Int.gcd a b) c : Int) := by
    have := Int.gcd_pos_of_ne_zero_left (a := (Int.gcd a b : Int)) c (by have := gcd_pos' (t := a) (m := b) (by omega); omega)
    omega
  have gl : (Int.gcd (Int.gcd a b) c : Int) ≤ b := Int.le_trans (Int.gcd_le_left c (gcd_pos' (by omega))) (gcd_le' (by omega))
  refine dss_cons (ds_ret (de_tup (da_cons (de_var (i := 1) Mn rfl (by decide) rfl (da_cons (de_bin op_fdivW (de_call B c_raw_many (by decide) g_raw_many (da_cons (de_var (i := 0) Mn rfl (by decide) rfl (da_nil ⟨rfl, _, _, _, rfl, rfl, (by first | assumption | omega | (simp; done) | exact .inl ⟨_, rfl⟩ | exact .inl ⟨_, _, _, rfl⟩ | exact .inr rfl), (by first | assumption | omega | (simp; done) | exact .inl ⟨_, rfl⟩ | exact .inl ⟨_, _, _, rfl⟩ | exact .inr rfl), (by first | assumption | omega | (simp; done) | exact .inl ⟨_, rfl⟩ | exact .inl ⟨_, _, _, rfl⟩ | exact .inr rfl), (by first | assumption | omega | (simp; done) | exact .inl ⟨_, rfl⟩ | exact .inl ⟨_, _, _, rfl⟩ | exact .inr rfl), ⟨rfl, (de_var (i := 1) Mn rfl (by decide) rfl (rv_ic ⟨_, _, rfl, rfl, (cdivB (by first | omega | (simp only [List.mem_cons, List.not_mem_nil, or_false] at *; omega) | (simp only [List.mem_cons, List.not_mem_nil, or_false] at *; split <;> omega)) (by first | omega | (simp only [List.mem_cons, List.not_mem_nil, or_false] at *; omega) | (simp only [List.mem_cons, List.not_mem_nil, or_false] at *; split <;> omega))), (da_nil ⟨[_, _], rfl, lenS (n := 2) rfl (by decide), (ret0 ?_)⟩)⟩))⟩⟩))))))))))
  exact q
theorem ok_group {P : Program} {w : World} {K : PySem.W.Frag} {mg : Str → Option Value} {base : Heap} (T : Top1 K mg "group" s_group ["floor"]) (c_check_floor : Cal P w K mg base CX0 "check_floor" 4 (lift K sp_check_floor)) (c_raw_divisor : Cal P w K mg base CX0 "raw_divisor" 2 (lift K sp_raw_divisor)) (c_raw_many : Cal P w K mg base CX0 "raw_many" 1 (lift K sp_raw_many)) : Cal P w K mg base CX0 "group" 5 (lift K sp_group) :=
  cal_of T sc_group (by rintro es μ Q ⟨_, _, _, rfl, _⟩; rfl) fun f cdv A outer s H E B es μ μh Q h => body_group (X0 := cxOf CX0 P w K mg base N_group "group" (defScope s_group) f cdv A outer s H E) (env0 := PyProof.Rows.envOfC "group" (defScope s_group) s.heap.objs.size f cdv) c_check_floor c_raw_divisor c_raw_many B es μ μh Q h
/-! ### is_one_ring -/
abbrev s_is_one_ring : Stmt := topS 49
abbrev N_is_one_ring : List Str := ["floor"]
theorem sc_is_one_ring : FnScope N_is_one_ring ["floor"] (defScope s_is_one_ring) := ⟨rfl, rfl, rfl, by decide +kernel, rfl, by decide +kernel, by decide +kernel⟩
theorem nm_is_one_ring : nmC N_is_one_ring (defScope s_is_one_ring) [0] = true := by decide +kernel
theorem lc_is_one_ring : lcC N_is_one_ring (defScope s_is_one_ring) [0] = true := by decide +kernel
theorem gb_is_one_ring_check_floor : gbC (defScope s_is_one_ring) "check_floor" = true := by decide +kernel
theorem gb_is_one_ring_raw_divisor : gbC (defScope s_is_one_ring) "raw_divisor" = true := by decide +kernel
def sp_is_one_ring : SpF := fun es μ P => ∃ (a b c : Int), es = [.d (fl a b c)] ∧ μ = [] ∧ IsF a b c ∧ ∀ (r : Bool), (r = true ↔ Int.gcd (Int.gcd a b) c = 1) → P (.d (.bool r)) []
theorem body_is_one_ring {X0 : Cx} {env0 : PySem.Env} (c_check_floor : CalX X0 "check_floor" 4 sp_check_floor) (c_raw_divisor : CalX X0 "raw_divisor" 2 sp_raw_divisor) (B : Bx (mkX X0 env0 N_is_one_ring (defScope s_is_one_ring)) 4) :
    ∀ (es : List Ent) (μ μh : Mu) (Q : Ent → Mu → Prop), sp_is_one_ring es μ Q → DSs (mkX X0 env0 N_is_one_ring (defScope s_is_one_ring)) (defBody s_is_one_ring) (slots0 N_is_one_ring es) (μ ++ μh) (Zof μ.length μh Q) := by
  rintro es μ μh Q ⟨a, b, c, rfl, rfl, p0, q⟩
  have Mn : Nm (mkX X0 env0 N_is_one_ring (defScope s_is_one_ring)) [0] := nm_of nm_is_one_ring
  have Ln : Lc (mkX X0 env0 N_is_one_ring (defScope s_is_one_ring)) [0] := lc_of lc_is_one_ring
  have g_check_floor : Gb (mkX X0 env0 N_is_one_ring (defScope s_is_one_ring)) "check_floor" := gb_of gb_is_one_ring_check_floor
  have g_raw_divisor : Gb (mkX X0 env0 N_is_one_ring (defScope s_is_one_ring)) "raw_divisor" := gb_of gb_is_one_ring_raw_divisor
  refine dss_cons (ds_expr (de_call B c_check_floor (by decide) g_check_floor (da_cons (de_var (i := 0) Mn rfl (by decide) rfl (da_nil ⟨rfl, _, _, _, rfl, rfl, (by first | assumption | omega | (simp; done) | exact .inl ⟨_, rfl⟩ | exact .inl ⟨_, _, _, rfl⟩ | exact .inr rfl), ⟨rfl, ?_⟩⟩)))))
  refine dss_cons (ds_ret (de_cmp op_eq (nomark _) (de_call B c_raw_divisor (by decide) g_raw_divisor (da_cons (de_var (i := 0) Mn rfl (by decide) rfl (da_nil ⟨rfl, _, _, _, rfl, rfl, ⟨rfl, (de_int (rv_eqI ⟨_, _, rfl, rfl, (ret0 ?_)⟩))⟩⟩))))))
  exact q _ (by simp; omega)
theorem ok_is_one_ring {P : Program} {w : World} {K : PySem.W.Frag} {mg : Str → Option Value} {base : Heap} (T : Top1 K mg "is_one_ring" s_is_one_ring ["floor"]) (c_check_floor : Cal P w K mg base CX0 "check_floor" 4 (lift K sp_check_floor)) (c_raw_divisor : Cal P w K mg base CX0 "raw_divisor" 2 (lift K sp_raw_divisor)) : Cal P w K mg base CX0 "is_one_ring" 5 (lift K sp_is_one_ring) :=
  cal_of T sc_is_one_ring (by rintro es μ Q ⟨_, _, _, rfl, _⟩; rfl) fun f cdv A outer s H E B es μ μh Q h => body_is_one_ring (X0 := cxOf CX0 P w K mg base N_is_one_ring "is_one_ring" (defScope s_is_one_ring) f cdv A outer s H E) (env0 := PyProof.Rows.envOfC "is_one_ring" (defScope s_is_one_ring) s.heap.objs.size f cdv) c_check_floor c_raw_divisor B es μ μh Q h
end K07

namespace K07
open PySem PySem.Spec L2 Pw
structure LcmF (b b' R : Int) : Prop where
  pos : 0 < R
  le : R ≤ b * b'
  d1 : b ∣ R
  d2 : b' ∣ R
  un : ∀ y, b ∣ y → b' ∣ y → R ∣ y
theorem lcmF {b b' : Int} (hb : 0 < b) (hb' : 0 < b') : LcmF b b' (b / (Int.gcd b b' : Int) * b') := by
  have gp := gcd_pos' (t := b) hb'
  obtain ⟨k, hk⟩ := Int.gcd_dvd_left b b'
  have e1 : b / (Int.gcd b b' : Int) = k := by
    generalize (Int.gcd b b' : Int) = g at *
    subst hk
    exact Int.mul_ediv_cancel_left _ (by omega)
  have e2 : (Int.gcd b b' : Int) * (Int.lcm b b' : Int) = b * b' := by
    have := Int.gcd_mul_lcm b b'
    have h2 : ((Int.gcd b b' * Int.lcm b b' : Nat) : Int) = ((b.natAbs * b'.natAbs : Nat) : Int) := by rw [this]
    rw [Int.natCast_mul, Int.natCast_mul] at h2
    have n1 : (b.natAbs : Int) = b := by omega
    have n2 : (b'.natAbs : Int) = b' := by omega
    rw [n1, n2] at h2
    exact h2
  have e3 : b / (Int.gcd b b' : Int) * b' = (Int.lcm b b' : Int) := by
    rw [e1]
    refine Int.eq_of_mul_eq_mul_left (a := (Int.gcd b b' : Int)) (by omega) ?_
    rw [e2, ← Int.mul_assoc, ← hk]
  have hle : b / (Int.gcd b b' : Int) ≤ b := Int.ediv_le_self _ (by omega)
  have hp : 0 < b / (Int.gcd b b' : Int) := Int.ediv_pos_of_pos_of_dvd hb (by omega) (Int.gcd_dvd_left b b')
  refine ⟨Int.mul_pos hp hb', Int.mul_le_mul_of_nonneg_right hle (by omega), ?_, ?_, ?_⟩
  · rw [e3]
    exact Int.dvd_lcm_left b b'
  · exact Int.dvd_mul_left _ _
  · rw [e3]
    exact fun y h1 h2 => Int.coe_lcm_dvd h1 h2
def AboveF (a b c a' b' c' l h t : Int) : Prop := 0 < l ∧ 0 < h ∧ 0 ≤ t ∧ t < l ∧ ∀ x y, Clo l h t x y ↔ Clo a b c x y ∧ Clo a' b' c' x y
theorem above_law {a b c a' b' c' R l u u' ap D τ x : Int} (ha : 0 < a) (hb : 0 < b) (ha' : 0 < a') (hb' : 0 < b') (hR : LcmF b b' R) (hl : LcmF a a' l) (hu : R = b * u) (hu' : R = b' * u')
    (hap : ap = c * u - c' * u') (hD : D = (Int.gcd a a' : Int)) (hτ : D = (Int.gcd D ap : Int) * τ) (hτp : 0 < τ) (hx : a' ∣ a * x - ap * τ) : AboveF a b c a' b' c' l (R * τ) ((c * u * τ - a * x) % l) := by
  have lp := hl.pos
  have Rp := hR.pos
  have hp : 0 < R * τ := Int.mul_pos Rp hτp
  refine ⟨lp, hp, Int.emod_nonneg _ (by omega), Int.emod_lt_of_pos _ lp, fun X Y => ?_⟩
  have et := Int.emod_def (c * u * τ - a * x) l
  generalize (c * u * τ - a * x) / l = w at et
  generalize (c * u * τ - a * x) % l = t at et ⊢
  obtain ⟨z, hz⟩ := hx
  rw [clo_iff lp hp, clo_iff ha hb, clo_iff ha' hb']
  obtain ⟨la, hla⟩ := hl.d1
  obtain ⟨la', hla'⟩ := hl.d2
  constructor
  · rintro ⟨m, n, rfl, rfl⟩
    refine ⟨⟨(m + n * w) * la + n * x, n * u * τ, ?_, ?_⟩, ⟨(m + n * w) * la' + n * z, n * u' * τ, ?_, ?_⟩⟩
    · rw [et]
      grind
    · rw [hu]
      grind
    · rw [et]
      grind
    · rw [hu']
      grind
  · rintro ⟨⟨m1, n1, e1, e2⟩, m2, n2, e3, e4⟩
    obtain ⟨k, hk⟩ := hR.un Y ⟨n1, by rw [e2, Int.mul_comm]⟩ ⟨n2, by rw [e4, Int.mul_comm]⟩
    have q1 : n1 = u * k := Int.eq_of_mul_eq_mul_left (a := b) (by omega) (by rw [Int.mul_comm b n1, ← e2, hk, hu, Int.mul_assoc])
    have q2 : n2 = u' * k := Int.eq_of_mul_eq_mul_left (a := b') (by omega) (by rw [Int.mul_comm b' n2, ← e4, hk, hu', Int.mul_assoc])
    have dk : D ∣ ap * k := by
      rw [hD]
      have g1 := Int.gcd_dvd_left a a'
      have g2 := Int.gcd_dvd_right a a'
      have e5 : ap * k = a * m1 - a' * m2 := by
        rw [hap, Int.sub_mul, Int.mul_assoc, Int.mul_assoc, ← q1, ← q2, Int.mul_comm c, Int.mul_comm c', Int.mul_comm a, Int.mul_comm a']
        simp only [Int.mul_neg] at e1 e3
        omega
      rw [e5]
      exact Int.dvd_sub (Int.dvd_trans g1 (Int.dvd_mul_right _ _)) (Int.dvd_trans g2 (Int.dvd_mul_right _ _))
    have dk2 : (Int.gcd D ap : Int) * τ ∣ (Int.gcd D ap : Int) * k := by
      rw [← hτ]
      exact Int.dvd_gcd_mul_iff_dvd_mul.mpr dk
    have Dp : 0 < D := by
      rw [hD]
      exact gcd_pos' ha'
    have gp : (Int.gcd D ap : Int) ≠ 0 := by
      intro z0
      rw [z0] at hτ
      omega
    obtain ⟨j, hj⟩ := Int.dvd_of_mul_dvd_mul_left gp dk2
    have e6 : t = c' * u' * τ - a' * z - l * w := by
      rw [et]
      have e7 : a * x = ap * τ + a' * z := by omega
      rw [e7, hap, Int.sub_mul]
      omega
    have e8 : X + j * t = a * (m1 - j * x - j * w * la) := by
      rw [e1, q1, hj, et]
      clear hk dk dk2 e6 hz hap e3 e4 q2 hu hu' hD hτ
      grind
    have e9 : X + j * t = a' * (m2 - j * z - j * w * la') := by
      rw [e3, q2, hj, e6]
      clear hk dk dk2 hz hap e1 e2 q1 hu hu' hD hτ e8 et e6
      grind
    obtain ⟨m, hm⟩ := hl.un (X + j * t) ⟨_, e8⟩ ⟨_, e9⟩
    refine ⟨m, j, ?_, ?_⟩
    · clear hk dk dk2 hz hap e1 e2 e3 e4 e6 e8 e9 q1 q2 hu hu' hD hτ et
      grind
    · rw [hk, hj]
      grind
theorem more_law {a a' s D' : Int} {d : D} (ha' : 0 < a') (hD : D' = (Int.gcd a a' : Int)) (hs : D' ∣ s) (h : LeastSol (a % a') (s % a') a' d) : ∃ x, d = .int x ∧ 0 ≤ x ∧ x < a' ∧ a' ∣ a * x - s := by
  have e : Int.gcd (a % a') a' = Int.gcd a a' := by rw [Int.emod_def, Int.gcd_sub_mul_left_left]
  have d1 : D' ∣ s % a' := by
    rw [Int.emod_def]
    exact Int.dvd_sub hs (Int.dvd_trans (by rw [hD]; exact Int.gcd_dvd_right a a') (Int.dvd_mul_right _ _))
  rcases h with ⟨n, _⟩ | ⟨_, x, rfl, x0, x1, ⟨k, hk⟩⟩
  · rw [e, ← hD] at n
    exact absurd d1 n
  · refine ⟨x, rfl, x0, Int.lt_of_lt_of_le x1 (Int.ediv_le_self _ (by omega)), a / a' * x - s / a' + k, ?_⟩
    have h1 := Int.emod_def a a'
    have h2 := Int.emod_def s a'
    rw [h1, h2] at hk
    clear h1 h2 e d1 hs hD
    grind
/-! ### floor_above -/
abbrev s_floor_above : Stmt := topS 45
abbrev N_floor_above : List Str := ["one", "other", "rows", "wide", "apart", "divisor", "times", "more", "found"]
theorem sc_floor_above : FnScope N_floor_above ["one", "other"] (defScope s_floor_above) := ⟨rfl, rfl, rfl, by decide +kernel, rfl, by decide +kernel, by decide +kernel⟩
theorem nm_floor_above : nmC N_floor_above (defScope s_floor_above) [0, 1, 2, 3, 4, 5, 6, 7, 8] = true := by decide +kernel
theorem lc_floor_above : lcC N_floor_above (defScope s_floor_above) [0, 1, 2, 3, 4, 5, 6, 7, 8] = true := by decide +kernel
theorem gb_floor_above_check_floors : gbC (defScope s_floor_above) "check_floors" = true := by decide +kernel
theorem gb_floor_above_TooGreat : gbC (defScope s_floor_above) "TooGreat" = true := by decide +kernel
theorem gb_floor_above_common : gbC (defScope s_floor_above) "common" = true := by decide +kernel
theorem gb_floor_above_least_solution : gbC (defScope s_floor_above) "least_solution" = true := by decide +kernel
theorem gb_floor_above_is_floor : gbC (defScope s_floor_above) "is_floor" = true := by decide +kernel
def sp_floor_above : SpX := fun es P R => ∃ (a b c a' b' c' : Int), es = [.d (fl a b c), .d (fl a' b' c')] ∧ IsF a b c ∧ IsF a' b' c' ∧ ∀ (l h t : Int), AboveF a b c a' b' c' l h t → (IsF l h t → P (.d (fl l h t))) ∧ (¬ IsF l h t → R)
theorem body_floor_above {X0 : Cx} {env0 : PySem.Env} (c_check_floors : CalX X0 "check_floors" 5 sp_check_floors) (c_common : CalX X0 "common" 1 sp_common) (c_least_solution : CalX X0 "least_solution" 3 sp_least_solution) (c_is_floor : CalX X0 "is_floor" 3 sp_is_floor) (B : Bx (mkY X0 env0 N_floor_above (defScope s_floor_above)) 5) {W : WX} {cls : Value} (tk : Takes (mkY X0 env0 N_floor_above (defScope s_floor_above)) W)
    (mk : ∀ p pos, PMk (mkY X0 env0 N_floor_above (defScope s_floor_above)) (.Call (.Name "TooGreat" p) [] [] pos) (fun _ H Q => Q cls none H)) :
    ∀ (es : List Ent) (μh : Mu) (Q : Ent → Prop) (R : Prop), sp_floor_above es Q R → DSx (mkY X0 env0 N_floor_above (defScope s_floor_above)) W cls (RetP 0 μh (fun _ _ => R) (.d .none)) (defBody s_floor_above) (slots0 N_floor_above es) μh (Zof 0 μh fun en _ => Q en) := by
  rintro es μh Q R ⟨a, b, c, a', b', c', rfl, p0, p1, q⟩
  have Mn : Nm (mkY X0 env0 N_floor_above (defScope s_floor_above)) [0, 1, 2, 3, 4, 5, 6, 7, 8] := nm_of nm_floor_above
  have Ln : Lc (mkY X0 env0 N_floor_above (defScope s_floor_above)) [0, 1, 2, 3, 4, 5, 6, 7, 8] := lc_of lc_floor_above
  have g_check_floors : Gb (mkY X0 env0 N_floor_above (defScope s_floor_above)) "check_floors" := gb_of gb_floor_above_check_floors
  have g_common : Gb (mkY X0 env0 N_floor_above (defScope s_floor_above)) "common" := gb_of gb_floor_above_common
  have g_least_solution : Gb (mkY X0 env0 N_floor_above (defScope s_floor_above)) "least_solution" := gb_of gb_floor_above_least_solution
  have g_is_floor : Gb (mkY X0 env0 N_floor_above (defScope s_floor_above)) "is_floor" := gb_of gb_floor_above_is_floor
  refine dsx_cons (ds_expr (de_call B c_check_floors (by decide) g_check_floors (da_cons (de_var (i := 0) Mn rfl (by decide) rfl (da_cons (de_var (i := 1) Mn rfl (by decide) rfl (da_nil ⟨rfl, _, _, _, _, _, _, rfl, rfl, (by first | assumption | omega | (simp; done) | exact .inl ⟨_, rfl⟩ | exact .inl ⟨_, _, _, rfl⟩ | exact .inr rfl), (by first | assumption | omega | (simp; done) | exact .inl ⟨_, rfl⟩ | exact .inl ⟨_, _, _, rfl⟩ | exact .inr rfl), ⟨rfl, ?_⟩⟩)))))))
  have gb0 := gcd_pos' (t := b) (m := b') (by omega)
  have gb1 := gcd_le' (t := b) (m := b') (by omega)
  have qb : (b / (Int.gcd b b' : Int)).natAbs ≤ 10 ^ 60 := ediv_abs gb0 (by omega)
  have ga0 := gcd_pos' (t := a) (m := a') (by omega)
  have ga1 := gcd_le' (t := a) (m := a') (by omega)
  have qa : (a / (Int.gcd a a' : Int)).natAbs ≤ 10 ^ 60 := ediv_abs ga0 (by omega)
  have LR := lcmF (b := b) (b' := b') (by omega) (by omega)
  have LL := lcmF (b := a) (b' := a') (by omega) (by omega)
  -- rows = one[1] // common(one[1], other[1]) * other[1]
  refine dsx_cons (ds_set (i := 2) Ln rfl (by decide) (de_bin op_mulW (de_bin op_fdivW (de_ix ix_tup (fun _ _ => rfl) (de_var (i := 0) Mn rfl (by decide) rfl (de_int (rv_ixT ⟨_, _, _, rfl, rfl, rfl, (de_call B c_common (by decide) g_common (da_cons (de_ix ix_tup (fun _ _ => rfl) (de_var (i := 0) Mn rfl (by decide) rfl (de_int (rv_ixT ⟨_, _, _, rfl, rfl, rfl, (da_cons (de_ix ix_tup (fun _ _ => rfl) (de_var (i := 1) Mn rfl (by decide) rfl (de_int (rv_ixT ⟨_, _, _, rfl, rfl, rfl, (da_nil ⟨rfl, _, _, rfl, rfl, ⟨rfl, (rv_ic ⟨_, _, rfl, rfl, (cdivB (by first | omega | (simp only [List.mem_cons, List.not_mem_nil, or_false] at *; omega) | (simp only [List.mem_cons, List.not_mem_nil, or_false] at *; split <;> omega)) (by first | omega | (simp only [List.mem_cons, List.not_mem_nil, or_false] at *; omega) | (simp only [List.mem_cons, List.not_mem_nil, or_false] at *; split <;> omega))), (de_ix ix_tup (fun _ _ => rfl) (de_var (i := 1) Mn rfl (by decide) rfl (de_int (rv_ixT ⟨_, _, _, rfl, rfl, rfl, (rv_ic ⟨_, _, rfl, rfl, (cmulB (by first | omega | (simp only [List.mem_cons, List.not_mem_nil, or_false] at *; omega) | (simp only [List.mem_cons, List.not_mem_nil, or_false] at *; split <;> omega)) (by first | omega | (simp only [List.mem_cons, List.not_mem_nil, or_false] at *; omega) | (simp only [List.mem_cons, List.not_mem_nil, or_false] at *; split <;> omega))), ?_⟩)⟩))))⟩)⟩⟩)⟩)))))⟩))))))⟩)))))))
  generalize b / (Int.gcd b b' : Int) * b' = R' at LR ⊢
  -- wide = one[0] // common(one[0], other[0]) * other[0]
  refine dsx_cons (ds_set (i := 3) Ln rfl (by decide) (de_bin op_mulW (de_bin op_fdivW (de_ix ix_tup (fun _ _ => rfl) (de_var (i := 0) Mn rfl (by decide) rfl (de_int (rv_ixT ⟨_, _, _, rfl, rfl, rfl, (de_call B c_common (by decide) g_common (da_cons (de_ix ix_tup (fun _ _ => rfl) (de_var (i := 0) Mn rfl (by decide) rfl (de_int (rv_ixT ⟨_, _, _, rfl, rfl, rfl, (da_cons (de_ix ix_tup (fun _ _ => rfl) (de_var (i := 1) Mn rfl (by decide) rfl (de_int (rv_ixT ⟨_, _, _, rfl, rfl, rfl, (da_nil ⟨rfl, _, _, rfl, rfl, ⟨rfl, (rv_ic ⟨_, _, rfl, rfl, (cdivB (by first | omega | (simp only [List.mem_cons, List.not_mem_nil, or_false] at *; omega) | (simp only [List.mem_cons, List.not_mem_nil, or_false] at *; split <;> omega)) (by first | omega | (simp only [List.mem_cons, List.not_mem_nil, or_false] at *; omega) | (simp only [List.mem_cons, List.not_mem_nil, or_false] at *; split <;> omega))), (de_ix ix_tup (fun _ _ => rfl) (de_var (i := 1) Mn rfl (by decide) rfl (de_int (rv_ixT ⟨_, _, _, rfl, rfl, rfl, (rv_ic ⟨_, _, rfl, rfl, (cmulB (by first | omega | (simp only [List.mem_cons, List.not_mem_nil, or_false] at *; omega) | (simp only [List.mem_cons, List.not_mem_nil, or_false] at *; split <;> omega)) (by first | omega | (simp only [List.mem_cons, List.not_mem_nil, or_false] at *; omega) | (simp only [List.mem_cons, List.not_mem_nil, or_false] at *; split <;> omega))), ?_⟩)⟩))))⟩)⟩⟩)⟩)))))⟩))))))⟩)))))))
  generalize a / (Int.gcd a a' : Int) * a' = l at LL ⊢
  have Rp := LR.pos
  have lp := LL.pos
  have Rle : R' ≤ 10 ^ 15 * 10 ^ 15 := Int.le_trans LR.le (Int.mul_le_mul (by omega) (by omega) (by omega) (by omega))
  have lle : l ≤ 10 ^ 15 * 10 ^ 15 := Int.le_trans LL.le (Int.mul_le_mul (by omega) (by omega) (by omega) (by omega))
  have hu : R' = b * (R' / b) := (Int.mul_ediv_cancel' LR.d1).symm
  have hu' : R' = b' * (R' / b') := (Int.mul_ediv_cancel' LR.d2).symm
  have ub : (R' / b).natAbs ≤ 10 ^ 60 := ediv_abs (by omega) (by omega)
  have ub' : (R' / b').natAbs ≤ 10 ^ 60 := ediv_abs (by omega) (by omega)
  have cb : (c * (R' / b)).natAbs ≤ 10 ^ 80 := mul_abs (n := 10 ^ 15) (m := 10 ^ 60) (by omega) ub (by decide)
  have cb' : (c' * (R' / b')).natAbs ≤ 10 ^ 80 := mul_abs (n := 10 ^ 15) (m := 10 ^ 60) (by omega) ub' (by decide)
  -- apart = one[2] * (rows // one[1]) - other[2] * (rows // other[1])
  refine dsx_cons (ds_set (i := 4) Ln rfl (by decide) (de_bin op_sub (de_bin op_mulW (de_ix ix_tup (fun _ _ => rfl) (de_var (i := 0) Mn rfl (by decide) rfl (de_int (rv_ixT ⟨_, _, _, rfl, rfl, rfl, (de_bin op_fdivW (de_var (i := 2) Mn rfl (by decide) rfl (de_ix ix_tup (fun _ _ => rfl) (de_var (i := 0) Mn rfl (by decide) rfl (de_int (rv_ixT ⟨_, _, _, rfl, rfl, rfl, (rv_ic ⟨_, _, rfl, rfl, (cdivB (by first | omega | (simp only [List.mem_cons, List.not_mem_nil, or_false] at *; omega) | (simp only [List.mem_cons, List.not_mem_nil, or_false] at *; split <;> omega)) (by first | omega | (simp only [List.mem_cons, List.not_mem_nil, or_false] at *; omega) | (simp only [List.mem_cons, List.not_mem_nil, or_false] at *; split <;> omega))), (rv_ic ⟨_, _, rfl, rfl, (cmulB (by first | omega | (simp only [List.mem_cons, List.not_mem_nil, or_false] at *; omega) | (simp only [List.mem_cons, List.not_mem_nil, or_false] at *; split <;> omega)) (by first | omega | (simp only [List.mem_cons, List.not_mem_nil, or_false] at *; omega) | (simp only [List.mem_cons, List.not_mem_nil, or_false] at *; split <;> omega))), (de_bin op_mulW (de_ix ix_tup (fun _ _ => rfl) (de_var (i := 1) Mn rfl (by decide) rfl (de_int (rv_ixT ⟨_, _, _, rfl, rfl, rfl, (de_bin op_fdivW (de_var (i := 2) Mn rfl (by decide) rfl (de_ix ix_tup (fun _ _ => rfl) (de_var (i := 1) Mn rfl (by decide) rfl (de_int (rv_ixT ⟨_, _, _, rfl, rfl, rfl, (rv_ic ⟨_, _, rfl, rfl, (cdivB (by first | omega | (simp only [List.mem_cons, List.not_mem_nil, or_false] at *; omega) | (simp only [List.mem_cons, List.not_mem_nil, or_false] at *; split <;> omega)) (by first | omega | (simp only [List.mem_cons, List.not_mem_nil, or_false] at *; omega) | (simp only [List.mem_cons, List.not_mem_nil, or_false] at *; split <;> omega))), (rv_ic ⟨_, _, rfl, rfl, (cmulB (by first | omega | (simp only [List.mem_cons, List.not_mem_nil, or_false] at *; omega) | (simp only [List.mem_cons, List.not_mem_nil, or_false] at *; split <;> omega)) (by first | omega | (simp only [List.mem_cons, List.not_mem_nil, or_false] at *; omega) | (simp only [List.mem_cons, List.not_mem_nil, or_false] at *; split <;> omega))), (rv_i0 ⟨_, _, rfl, rfl, ?_⟩)⟩)⟩)⟩))))))⟩)))))⟩)⟩)⟩))))))⟩)))))))
  generalize hap : c * (R' / b) - c' * (R' / b') = ap
  have apb : ap.natAbs ≤ 10 ^ 81 := by omega
  -- divisor = common(one[0], other[0])
  refine dsx_cons (ds_set (i := 5) Ln rfl (by decide) (de_call B c_common (by decide) g_common (da_cons (de_ix ix_tup (fun _ _ => rfl) (de_var (i := 0) Mn rfl (by decide) rfl (de_int (rv_ixT ⟨_, _, _, rfl, rfl, rfl, (da_cons (de_ix ix_tup (fun _ _ => rfl) (de_var (i := 1) Mn rfl (by decide) rfl (de_int (rv_ixT ⟨_, _, _, rfl, rfl, rfl, (da_nil ⟨rfl, _, _, rfl, rfl, ⟨rfl, ?_⟩⟩)⟩)))))⟩)))))))
  generalize hD : (Int.gcd a a' : Int) = D' at ga0 ga1 ⊢
  have gd0 : 0 < (Int.gcd D' ap : Int) := by
    have := Int.gcd_pos_of_ne_zero_left (a := D') ap (by omega)
    omega
  have gd1 : (Int.gcd D' ap : Int) ≤ D' := Int.gcd_le_left ap ga0
  have hτ : D' = (Int.gcd D' ap : Int) * (D' / (Int.gcd D' ap : Int)) := (Int.mul_ediv_cancel' (Int.gcd_dvd_left D' ap)).symm
  have τp : 0 < D' / (Int.gcd D' ap : Int) := Int.ediv_pos_of_pos_of_dvd ga0 (by omega) (Int.gcd_dvd_left D' ap)
  have τb : (D' / (Int.gcd D' ap : Int)).natAbs ≤ 10 ^ 50 := ediv_abs gd0 (by omega)
  -- times = divisor // common(divisor, apart)
  refine dsx_cons (ds_set (i := 6) Ln rfl (by decide) (de_bin op_fdivW (de_var (i := 5) Mn rfl (by decide) rfl (de_call B c_common (by decide) g_common (da_cons (de_var (i := 5) Mn rfl (by decide) rfl (da_cons (de_var (i := 4) Mn rfl (by decide) rfl (da_nil ⟨rfl, _, _, rfl, rfl, ⟨rfl, (rv_ic ⟨_, _, rfl, rfl, (cdivB (by first | omega | (simp only [List.mem_cons, List.not_mem_nil, or_false] at *; omega) | (simp only [List.mem_cons, List.not_mem_nil, or_false] at *; split <;> omega)) (by first | omega | (simp only [List.mem_cons, List.not_mem_nil, or_false] at *; omega) | (simp only [List.mem_cons, List.not_mem_nil, or_false] at *; split <;> omega))), ?_⟩)⟩⟩)))))))))
  generalize D' / (Int.gcd D' ap : Int) = τ at hτ τp τb ⊢
  have e0 := Int.emod_nonneg a (show a' ≠ 0 by omega)
  have e1 := Int.emod_lt_of_pos a (show 0 < a' by omega)
  have e2 := Int.emod_nonneg (ap * τ) (show a' ≠ 0 by omega)
  have e3 := Int.emod_lt_of_pos (ap * τ) (show 0 < a' by omega)
  -- more = least_solution(one[0] % other[0], apart * times % other[0], other[0])
  refine dsx_cons (ds_set (i := 7) Ln rfl (by decide) (de_call B c_least_solution (by decide) g_least_solution (da_cons (de_bin op_mod (de_ix ix_tup (fun _ _ => rfl) (de_var (i := 0) Mn rfl (by decide) rfl (de_int (rv_ixT ⟨_, _, _, rfl, rfl, rfl, (de_ix ix_tup (fun _ _ => rfl) (de_var (i := 1) Mn rfl (by decide) rfl (de_int (rv_ixT ⟨_, _, _, rfl, rfl, rfl, (rv_ic ⟨_, _, rfl, rfl, (by show (0 : Int) < _; first | omega | (simp only [List.mem_cons, List.not_mem_nil, or_false] at *; omega) | (simp only [List.mem_cons, List.not_mem_nil, or_false] at *; split <;> omega)), (da_cons (de_bin op_mod (de_bin op_mulW (de_var (i := 4) Mn rfl (by decide) rfl (de_var (i := 6) Mn rfl (by decide) rfl (rv_ic ⟨_, _, rfl, rfl, (cmulB (by first | omega | (simp only [List.mem_cons, List.not_mem_nil, or_false] at *; omega) | (simp only [List.mem_cons, List.not_mem_nil, or_false] at *; split <;> omega)) (by first | omega | (simp only [List.mem_cons, List.not_mem_nil, or_false] at *; omega) | (simp only [List.mem_cons, List.not_mem_nil, or_false] at *; split <;> omega))), (de_ix ix_tup (fun _ _ => rfl) (de_var (i := 1) Mn rfl (by decide) rfl (de_int (rv_ixT ⟨_, _, _, rfl, rfl, rfl, (rv_ic ⟨_, _, rfl, rfl, (by show (0 : Int) < _; first | omega | (simp only [List.mem_cons, List.not_mem_nil, or_false] at *; omega) | (simp only [List.mem_cons, List.not_mem_nil, or_false] at *; split <;> omega)), (da_cons (de_ix ix_tup (fun _ _ => rfl) (de_var (i := 1) Mn rfl (by decide) rfl (de_int (rv_ixT ⟨_, _, _, rfl, rfl, rfl, (da_nil ⟨rfl, _, _, _, rfl, rfl, (by first | assumption | omega | (simp; done) | exact .inl ⟨_, rfl⟩ | exact .inl ⟨_, _, _, rfl⟩ | exact .inr rfl), (by first | assumption | omega | (simp; done) | exact .inl ⟨_, rfl⟩ | exact .inl ⟨_, _, _, rfl⟩ | exact .inr rfl), (by first | assumption | omega | (simp; done) | exact .inl ⟨_, rfl⟩ | exact .inl ⟨_, _, _, rfl⟩ | exact .inr rfl), (by first | assumption | omega | (simp; done) | exact .inl ⟨_, rfl⟩ | exact .inl ⟨_, _, _, rfl⟩ | exact .inr rfl), (by first | assumption | omega | (simp; done) | exact .inl ⟨_, rfl⟩ | exact .inl ⟨_, _, _, rfl⟩ | exact .inr rfl), (by first | assumption | omega | (simp; done) | exact .inl ⟨_, rfl⟩ | exact .inl ⟨_, _, _, rfl⟩ | exact .inr rfl), fun d6 h60 => ⟨rfl, ?_⟩⟩)⟩)))))⟩)⟩))))⟩))))))⟩)⟩))))⟩))))))))
  have ds : D' ∣ ap * τ := by
    obtain ⟨s, hs⟩ := Int.gcd_dvd_right D' ap
    refine ⟨s, ?_⟩
    generalize (Int.gcd D' ap : Int) = g at *
    rw [hs, hτ, Int.mul_assoc, Int.mul_assoc, Int.mul_comm s]
  obtain ⟨x, rfl, x0, x1, hx⟩ := more_law (by omega) hD.symm ds h60
  have cτ : (c * (R' / b) * τ).natAbs ≤ 10 ^ 140 := mul_abs cb τb (by decide)
  have ax : (a * x).natAbs ≤ 10 ^ 140 := mul_abs (n := 10 ^ 15) (m := 10 ^ 15) (by omega) (by omega) (by decide)
  -- found = (wide, rows * times, (one[2] * (rows // one[1]) * times - one[0] * more) % wide)
  refine dsx_cons (ds_set (i := 8) Ln rfl (by decide) (de_tup (da_cons (de_var (i := 3) Mn rfl (by decide) rfl (da_cons (de_bin op_mulW (de_var (i := 2) Mn rfl (by decide) rfl (de_var (i := 6) Mn rfl (by decide) rfl (rv_ic ⟨_, _, rfl, rfl, (cmulB (by first | omega | (simp only [List.mem_cons, List.not_mem_nil, or_false] at *; omega) | (simp only [List.mem_cons, List.not_mem_nil, or_false] at *; split <;> omega)) (by first | omega | (simp only [List.mem_cons, List.not_mem_nil, or_false] at *; omega) | (simp only [List.mem_cons, List.not_mem_nil, or_false] at *; split <;> omega))), (da_cons (de_bin op_mod (de_bin op_sub (de_bin op_mulW (de_bin op_mulW (de_ix ix_tup (fun _ _ => rfl) (de_var (i := 0) Mn rfl (by decide) rfl (de_int (rv_ixT ⟨_, _, _, rfl, rfl, rfl, (de_bin op_fdivW (de_var (i := 2) Mn rfl (by decide) rfl (de_ix ix_tup (fun _ _ => rfl) (de_var (i := 0) Mn rfl (by decide) rfl (de_int (rv_ixT ⟨_, _, _, rfl, rfl, rfl, (rv_ic ⟨_, _, rfl, rfl, (cdivB (by first | omega | (simp only [List.mem_cons, List.not_mem_nil, or_false] at *; omega) | (simp only [List.mem_cons, List.not_mem_nil, or_false] at *; split <;> omega)) (by first | omega | (simp only [List.mem_cons, List.not_mem_nil, or_false] at *; omega) | (simp only [List.mem_cons, List.not_mem_nil, or_false] at *; split <;> omega))), (rv_ic ⟨_, _, rfl, rfl, (cmulB (by first | omega | (simp only [List.mem_cons, List.not_mem_nil, or_false] at *; omega) | (simp only [List.mem_cons, List.not_mem_nil, or_false] at *; split <;> omega)) (by first | omega | (simp only [List.mem_cons, List.not_mem_nil, or_false] at *; omega) | (simp only [List.mem_cons, List.not_mem_nil, or_false] at *; split <;> omega))), (de_var (i := 6) Mn rfl (by decide) rfl (rv_ic ⟨_, _, rfl, rfl, (cmulB (by first | omega | (simp only [List.mem_cons, List.not_mem_nil, or_false] at *; omega) | (simp only [List.mem_cons, List.not_mem_nil, or_false] at *; split <;> omega)) (by first | omega | (simp only [List.mem_cons, List.not_mem_nil, or_false] at *; omega) | (simp only [List.mem_cons, List.not_mem_nil, or_false] at *; split <;> omega))), (de_bin op_mulW (de_ix ix_tup (fun _ _ => rfl) (de_var (i := 0) Mn rfl (by decide) rfl (de_int (rv_ixT ⟨_, _, _, rfl, rfl, rfl, (de_var (i := 7) Mn rfl (by decide) rfl (rv_ic ⟨_, _, rfl, rfl, (cmulB (by first | omega | (simp only [List.mem_cons, List.not_mem_nil, or_false] at *; omega) | (simp only [List.mem_cons, List.not_mem_nil, or_false] at *; split <;> omega)) (by first | omega | (simp only [List.mem_cons, List.not_mem_nil, or_false] at *; omega) | (simp only [List.mem_cons, List.not_mem_nil, or_false] at *; split <;> omega))), (rv_i0 ⟨_, _, rfl, rfl, (de_var (i := 3) Mn rfl (by decide) rfl (rv_ic ⟨_, _, rfl, rfl, (by show (0 : Int) < _; first | omega | (simp only [List.mem_cons, List.not_mem_nil, or_false] at *; omega) | (simp only [List.mem_cons, List.not_mem_nil, or_false] at *; split <;> omega)), (da_nil ⟨[_, _, _], rfl, lenS (n := 3) rfl (by decide), ?_⟩)⟩))⟩)⟩))⟩)))))⟩))⟩)⟩)⟩))))))⟩)))))))))⟩)))))))))
  have AB := above_law (a := a) (b := b) (c := c) (a' := a') (b' := b') (c' := c') (by omega) (by omega) (by omega) (by omega) LR LL hu hu' hap.symm hD.symm hτ τp hx
  -- if not is_floor(found)
  refine id (dsx_if (dt_not (dt_val (de_call B c_is_floor (by decide) g_is_floor (da_cons (de_var (i := 8) Mn rfl (by decide) rfl (da_nil ⟨rfl, _, rfl, rfl, (by first | assumption | omega | (simp; done) | exact .inl ⟨_, rfl⟩ | exact .inl ⟨_, _, _, rfl⟩ | exact .inr rfl), fun r7 h70 => ⟨rfl, ⟨_, rfl, ⟨fun ht => ?_, fun ht => ?_⟩⟩⟩⟩)))))))
  · try simp only [decide_eq_true_eq, decide_eq_false_iff_not, bne_iff_ne, Bool.not_eq_true', Bool.not_eq_false', ne_eq, beq_iff_eq] at ht
    -- raise raise TooGreat()
    exact dsx_raise rfl tk (mk _ _) (ret0 ((q _ _ _ AB).2 fun hF => absurd (h70.mpr (isFd_fl.mpr hF)) (by simp [ht])))
  · try simp only [decide_eq_true_eq, decide_eq_false_iff_not, bne_iff_ne, Bool.not_eq_true', Bool.not_eq_false', ne_eq, beq_iff_eq] at ht
    refine dsx_of (dss_nil ?_)
    refine dsx_cons (ds_ret (de_var (i := 8) Mn rfl (by decide) rfl (ret0 (P := fun en _ => Q en) ?_)))
    exact (q _ _ _ AB).1 (isFd_fl.mp (h70.mp ht))
theorem ok_floor_above {P : Program} {w : World} {K : PySem.W.Frag} {mg : Str → Option Value} {base : Heap} {C : Addr} (xT : PySem.W.excIn K C [.type "ValueError", .type "Exception", .type "BaseException", .type "object"] "ValueError.__new__" = true) (gT : mg "TooGreat" = some (.ref C)) (kT : PySem.W.keepIn K (.ref C) = true) (bT : PySem.W.subIn K (.ref C) (.type "BaseException") = some true) (tT : PySem.W.typeIn K (.ref C) = some (.type "type")) (T : Top1 K mg "floor_above" s_floor_above ["one", "other"]) (c_check_floors : Cal P w K mg base CX0 "check_floors" 5 (lift K sp_check_floors)) (c_common : Cal P w K mg base CX0 "common" 1 (lift K sp_common)) (c_least_solution : Cal P w K mg base CX0 "least_solution" 3 (lift K sp_least_solution)) (c_is_floor : Cal P w K mg base CX0 "is_floor" 3 (lift K sp_is_floor)) : Cal P w K mg base (L2.CX P w) "floor_above" 6 (liftX K (.ref C) sp_floor_above) :=
  cal_ofX T sc_floor_above (by rintro es Q R ⟨_, _, _, _, _, _, rfl, _⟩; rfl) fun f cdv A outer s H E B tk es μh Q R h => body_floor_above (X0 := cxOf (L2.CX P w) P w K mg base N_floor_above "floor_above" (defScope s_floor_above) f cdv A outer s H E) (env0 := PyProof.Rows.envOfC "floor_above" (defScope s_floor_above) s.heap.objs.size f cdv) c_check_floors c_common c_least_solution c_is_floor B tk (fun p pos => pmk_own0 PySem.F.excBase_ValueError xT gT kT (raises_own bT tT) (gb_of (X := mkY (cxOf (L2.CX P w) P w K mg base N_floor_above "floor_above" (defScope s_floor_above) f cdv A outer s H E) (PyProof.Rows.envOfC "floor_above" (defScope s_floor_above) s.heap.objs.size f cdv) N_floor_above (defScope s_floor_above)) gb_floor_above_TooGreat).gl) es μh Q R h
end K07

namespace K07
open PySem PySem.Spec L2 Pw
/-! ### _law_draw -/
abbrev s__law_draw : Stmt := topS 52
abbrev N__law_draw : List Str := ["hand", "many", "cell", "digit", "number"]
theorem sc__law_draw : FnScope N__law_draw ["hand", "many"] (defScope s__law_draw) := ⟨rfl, rfl, rfl, by decide +kernel, rfl, by decide +kernel, by decide +kernel⟩
theorem nm__law_draw : nmC N__law_draw (defScope s__law_draw) [0, 1, 2, 3, 4] = true := by decide +kernel
theorem lc__law_draw : lcC N__law_draw (defScope s__law_draw) [0, 1, 2, 3, 4] = true := by decide +kernel
theorem gb__law_draw_len : gbC (defScope s__law_draw) "len" = true := by decide +kernel
theorem gb__law_draw_int : gbC (defScope s__law_draw) "int" = true := by decide +kernel
def sp__law_draw : SpF := fun es μ P => ∃ (m : MO) (nb : Nat) (n : Int), es = [.c 0, .d (.int n)] ∧ μ = [m] ∧ IsHand nb m ∧ nb + 1 ≤ 10 ^ 9 ∧ 0 < n ∧ n ≤ 10 ^ 60 ∧ ∀ (m' : MO) (r : Int), IsHand (nb + 1) m' → 0 ≤ r → r < n → P (.d (.int r)) [m']
theorem body__law_draw {X0 : Cx} {env0 : PySem.Env} (m_int : X0.mg "int" = none) (m_len : X0.mg "len" = none) (B : Bx (mkX X0 env0 N__law_draw (defScope s__law_draw)) 0) :
    ∀ (es : List Ent) (μ μh : Mu) (Q : Ent → Mu → Prop), sp__law_draw es μ Q → DSs (mkX X0 env0 N__law_draw (defScope s__law_draw)) (defBody s__law_draw) (slots0 N__law_draw es) (μ ++ μh) (Zof μ.length μh Q) := by
  rintro es μ μh Q ⟨m, nb, n, rfl, rfl, hm, hnb, p0, p1, q⟩
  have Mn : Nm (mkX X0 env0 N__law_draw (defScope s__law_draw)) [0, 1, 2, 3, 4] := nm_of nm__law_draw
  have Ln : Lc (mkX X0 env0 N__law_draw (defScope s__law_draw)) [0, 1, 2, 3, 4] := lc_of lc__law_draw
  have g_len : Gb (mkX X0 env0 N__law_draw (defScope s__law_draw)) "len" := gb_of gb__law_draw_len
  have g_int : Gb (mkX X0 env0 N__law_draw (defScope s__law_draw)) "int" := gb_of gb__law_draw_int
  obtain ⟨cs, at0, left, mix, n0, rfl, h1, h2, h3, h4, h5, h6, h7⟩ := hm
  -- if hand[2] == 0 and hand[1] < len(hand[0])
  refine dss_cons (ds_cut (J := fun ρ μ2 => ∃ (cs : List Int) (at0 left mix n0 : Int) (o : Option Ent), (∀ c ∈ cs, 0 ≤ c) ∧ 0 ≤ at0 ∧ 0 ≤ left ∧ 0 ≤ mix ∧ mix < 2147483549 ∧ 0 ≤ n0 ∧ n0 ≤ nb ∧ ρ = [some (.c 0), some (.d (.int n)), o, none, none] ∧ MO.lst [.list (cs.map .int), .int at0, .int left, .int mix, .int n0] :: μh = μ2) (ds_if (dt_cut (PB' := fun k μ2 => MO.lst [.list (cs.map .int), .int at0, .int left, .int mix, .int n0] :: μh = μ2 ∧ (k = true → left = 0 ∧ at0 < cs.length)) (dt_bool (dw_and (dt_cmp op_eq (nomark _) (de_ix ix_list (fun _ _ => rfl) (de_var (i := 0) Mn rfl (by decide) rfl (de_int (rv_ixC ⟨_, _, _, _, rfl, rfl, rfl, rfl, (de_int (rv_eqI ⟨_, _, rfl, rfl, ⟨_, rfl, ⟨fun hb1 => (dw_and1 (dt_cmp op_lt (nomark _) (de_ix ix_list (fun _ _ => rfl) (de_var (i := 0) Mn rfl (by decide) rfl (de_int (rv_ixC ⟨_, _, _, _, rfl, rfl, rfl, rfl, (de_callB call_len_seq g_len m_len (by decide +kernel) (da_cons (de_ix ix_list (fun _ _ => rfl) (de_var (i := 0) Mn rfl (by decide) rfl (de_int (rv_ixC ⟨_, _, _, _, rfl, rfl, rfl, rfl, (da_nil (rc_lenL ⟨_, rfl, (rv_b0 ⟨_, _, rfl, rfl, ⟨_, rfl, ⟨rfl, fun hk => (by simp_all)⟩⟩⟩)⟩))⟩))))))⟩)))))), fun hb1 => ⟨rfl, fun hk => (by simp_all)⟩⟩⟩⟩))⟩))))))) (fun kc μc hcut => ⟨fun ht => ?_, fun ht => ?_⟩))) ?_)
  · try simp only [decide_eq_true_eq, decide_eq_false_iff_not, bne_iff_ne, Bool.not_eq_true', Bool.not_eq_false', ne_eq, beq_iff_eq] at ht
    obtain ⟨rfl, hk⟩ := hcut
    obtain ⟨l0, hat⟩ := hk ht
    obtain ⟨k, rfl⟩ : ∃ k : Nat, at0 = k := ⟨at0.toNat, by omega⟩
    have hkl : k < cs.length := by omega
    have hci : (cs.map PyData.int)[k]? = some (.int cs[k]) := by simp [hkl]
    have hc0 := h1 cs[k] (List.getElem_mem hkl)
    -- cell = hand[0][hand[1]]
    refine dss_cons (ds_set (i := 2) Ln rfl (by decide) (de_ix ix_list (fun _ _ => rfl) (de_ix ix_list (fun _ _ => rfl) (de_var (i := 0) Mn rfl (by decide) rfl (de_int (rv_ixC ⟨_, _, _, _, rfl, rfl, rfl, rfl, (de_ix ix_list (fun _ _ => rfl) (de_var (i := 0) Mn rfl (by decide) rfl (de_int (rv_ixC ⟨_, _, _, _, rfl, rfl, rfl, rfl, (rv_ixL ⟨_, _, _, rfl, rfl, (atI_nat hci), ?_⟩)⟩))))⟩))))))
    -- hand[1] = hand[1] + 1
    refine dss_cons (ds_setC (de_bin op_add (de_ix ix_list (fun _ _ => rfl) (de_var (i := 0) Mn rfl (by decide) rfl (de_int (rv_ixC ⟨_, _, _, _, rfl, rfl, rfl, rfl, (de_int (rv_i0 ⟨_, _, rfl, rfl, (de_var (i := 0) Mn rfl (by decide) rfl (de_int ⟨_, _, _, _, _, rfl, rfl, rfl, rfl, rfl, ?_⟩))⟩))⟩))))))
    -- hand[3] = int(hand[3] * 48271 + int(cell) % 2147483549 * 69621 + 61) % 2147483549
    refine dss_cons (ds_setC (de_bin op_mod (de_callT call_int1 g_int m_int (by decide +kernel) (da_cons (de_bin op_add (de_bin op_add (de_bin op_mulW (de_ix ix_list (fun _ _ => rfl) (de_var (i := 0) Mn rfl (by decide) rfl (de_int (rv_ixC ⟨_, _, _, _, rfl, rfl, rfl, rfl, (de_int (rv_ic ⟨_, _, rfl, rfl, (cmulB (by first | omega | (simp only [List.mem_cons, List.not_mem_nil, or_false] at *; omega) | (simp only [List.mem_cons, List.not_mem_nil, or_false] at *; split <;> omega)) (by first | omega | (simp only [List.mem_cons, List.not_mem_nil, or_false] at *; omega) | (simp only [List.mem_cons, List.not_mem_nil, or_false] at *; split <;> omega))), (de_bin op_mulW (de_bin op_mod (de_callT call_int1 g_int m_int (by decide +kernel) (da_cons (de_var (i := 2) Mn rfl (by decide) rfl (da_nil (rc_int ⟨_, rfl, (de_int (rv_ic ⟨_, _, rfl, rfl, (by show (0 : Int) < _; first | omega | (simp only [List.mem_cons, List.not_mem_nil, or_false] at *; omega) | (simp only [List.mem_cons, List.not_mem_nil, or_false] at *; split <;> omega)), (de_int (rv_ic ⟨_, _, rfl, rfl, (cmulB (by first | omega | (simp only [List.mem_cons, List.not_mem_nil, or_false] at *; omega) | (simp only [List.mem_cons, List.not_mem_nil, or_false] at *; split <;> omega)) (by first | omega | (simp only [List.mem_cons, List.not_mem_nil, or_false] at *; omega) | (simp only [List.mem_cons, List.not_mem_nil, or_false] at *; split <;> omega))), (rv_i0 ⟨_, _, rfl, rfl, (de_int (rv_i0 ⟨_, _, rfl, rfl, (da_nil (rc_int ⟨_, rfl, (de_int (rv_ic ⟨_, _, rfl, rfl, (by show (0 : Int) < _; first | omega | (simp only [List.mem_cons, List.not_mem_nil, or_false] at *; omega) | (simp only [List.mem_cons, List.not_mem_nil, or_false] at *; split <;> omega)), (de_var (i := 0) Mn rfl (by decide) rfl (de_int ⟨_, _, _, _, _, rfl, rfl, rfl, rfl, rfl, ?_⟩))⟩))⟩))⟩))⟩)⟩))⟩))⟩)))))))⟩))⟩)))))))))))
    -- if cell >= 10 ** 17
    refine dss_cons (ds_if (dt_cmp op_ge (nomark _) (de_var (i := 2) Mn rfl (by decide) rfl (de_bin op_pow (de_int (de_int (rv_ic2 (10 ^ 17) ⟨_, _, rfl, rfl, ⟨by decide, by decide, by decide⟩, rfl, (rv_b0 ⟨_, _, rfl, rfl, ⟨_, rfl, ⟨fun ht => ?_, fun ht => ?_⟩⟩⟩)⟩)))))))
    · try simp only [decide_eq_true_eq, decide_eq_false_iff_not, bne_iff_ne, Bool.not_eq_true', Bool.not_eq_false', ne_eq, beq_iff_eq] at ht
      -- hand[2] = cell
      refine dss_cons (ds_setC (de_var (i := 2) Mn rfl (by decide) rfl (de_var (i := 0) Mn rfl (by decide) rfl (de_int ⟨_, _, _, _, _, rfl, rfl, rfl, rfl, rfl, ?_⟩))))
      exact dss_nil (dss_nil ⟨cs, _, _, _, _, _, h1, by omega, by omega, Int.emod_nonneg _ (by decide), Int.emod_lt_of_pos _ (by decide), h6, h7, rfl, rfl⟩)
    · try simp only [decide_eq_true_eq, decide_eq_false_iff_not, bne_iff_ne, Bool.not_eq_true', Bool.not_eq_false', ne_eq, beq_iff_eq] at ht
      exact dss_nil (dss_nil ⟨cs, _, _, _, _, _, h1, by omega, by omega, Int.emod_nonneg _ (by decide), Int.emod_lt_of_pos _ (by decide), h6, h7, rfl, rfl⟩)
  · try simp only [decide_eq_true_eq, decide_eq_false_iff_not, bne_iff_ne, Bool.not_eq_true', Bool.not_eq_false', ne_eq, beq_iff_eq] at ht
    obtain ⟨rfl, _⟩ := hcut
    exact dss_nil ⟨cs, _, _, _, _, _, h1, h2, h3, h4, h5, h6, h7, rfl, rfl⟩
  · rintro ρ μ2 ⟨cs, at0, left, mix, n0, o, h1, h2, h3, h4, h5, h6, h7, rfl, rfl⟩
    -- if hand[2] > 0
    refine dss_cons (ds_if (dt_cmp op_gt (nomark _) (de_ix ix_list (fun _ _ => rfl) (de_var (i := 0) Mn rfl (by decide) rfl (de_int (rv_ixC ⟨_, _, _, _, rfl, rfl, rfl, rfl, (de_int (rv_b0 ⟨_, _, rfl, rfl, ⟨_, rfl, ⟨fun ht => ?_, fun ht => ?_⟩⟩⟩))⟩))))))
    · try simp only [decide_eq_true_eq, decide_eq_false_iff_not, bne_iff_ne, Bool.not_eq_true', Bool.not_eq_false', ne_eq, beq_iff_eq] at ht
      -- digit = int(hand[2]) % many
      refine dss_cons (ds_set (i := 3) Ln rfl (by decide) (de_bin op_mod (de_callT call_int1 g_int m_int (by decide +kernel) (da_cons (de_ix ix_list (fun _ _ => rfl) (de_var (i := 0) Mn rfl (by decide) rfl (de_int (rv_ixC ⟨_, _, _, _, rfl, rfl, rfl, rfl, (da_nil (rc_int ⟨_, rfl, (de_var (i := 1) Mn rfl (by decide) rfl (rv_ic ⟨_, _, rfl, rfl, (by show (0 : Int) < _; first | omega | (simp only [List.mem_cons, List.not_mem_nil, or_false] at *; omega) | (simp only [List.mem_cons, List.not_mem_nil, or_false] at *; split <;> omega)), ?_⟩))⟩))⟩))))))))
      -- hand[2] = hand[2] // many
      refine dss_cons (ds_setC (de_bin op_fdivW (de_ix ix_list (fun _ _ => rfl) (de_var (i := 0) Mn rfl (by decide) rfl (de_int (rv_ixC ⟨_, _, _, _, rfl, rfl, rfl, rfl, (de_var (i := 1) Mn rfl (by decide) rfl (rv_ic ⟨_, _, rfl, rfl, (cdivB (by first | omega | (simp only [List.mem_cons, List.not_mem_nil, or_false] at *; omega) | (simp only [List.mem_cons, List.not_mem_nil, or_false] at *; split <;> omega)) (by first | omega | (simp only [List.mem_cons, List.not_mem_nil, or_false] at *; omega) | (simp only [List.mem_cons, List.not_mem_nil, or_false] at *; split <;> omega))), (de_var (i := 0) Mn rfl (by decide) rfl (de_int ⟨_, _, _, _, _, rfl, rfl, rfl, rfl, rfl, ?_⟩))⟩))⟩))))))
      refine dss_cons (ds_ret (de_var (i := 3) Mn rfl (by decide) rfl (ret1 ?_)))
      exact q _ _ ⟨cs, _, _, _, _, rfl, h1, by omega, Int.ediv_nonneg h3 (by omega), by omega, by omega, by omega, by omega⟩ (Int.emod_nonneg _ (by omega)) (Int.emod_lt_of_pos _ p0)
    · try simp only [decide_eq_true_eq, decide_eq_false_iff_not, bne_iff_ne, Bool.not_eq_true', Bool.not_eq_false', ne_eq, beq_iff_eq] at ht
      refine dss_nil ?_
      -- hand[4] = hand[4] + 1
      refine dss_cons (ds_setC (de_bin op_add (de_ix ix_list (fun _ _ => rfl) (de_var (i := 0) Mn rfl (by decide) rfl (de_int (rv_ixC ⟨_, _, _, _, rfl, rfl, rfl, rfl, (de_int (rv_i0 ⟨_, _, rfl, rfl, (de_var (i := 0) Mn rfl (by decide) rfl (de_int ⟨_, _, _, _, _, rfl, rfl, rfl, rfl, rfl, ?_⟩))⟩))⟩))))))
      -- number = int(int(hand[3] + 7877 * hand[4]) * 40692) % 2147483399
      refine dss_cons (ds_set (i := 4) Ln rfl (by decide) (de_bin op_mod (de_callT call_int1 g_int m_int (by decide +kernel) (da_cons (de_bin op_mulW (de_callT call_int1 g_int m_int (by decide +kernel) (da_cons (de_bin op_add (de_ix ix_list (fun _ _ => rfl) (de_var (i := 0) Mn rfl (by decide) rfl (de_int (rv_ixC ⟨_, _, _, _, rfl, rfl, rfl, rfl, (de_bin op_mulW (de_int (de_ix ix_list (fun _ _ => rfl) (de_var (i := 0) Mn rfl (by decide) rfl (de_int (rv_ixC ⟨_, _, _, _, rfl, rfl, rfl, rfl, (rv_ic ⟨_, _, rfl, rfl, (cmulB (by first | omega | (simp only [List.mem_cons, List.not_mem_nil, or_false] at *; omega) | (simp only [List.mem_cons, List.not_mem_nil, or_false] at *; split <;> omega)) (by first | omega | (simp only [List.mem_cons, List.not_mem_nil, or_false] at *; omega) | (simp only [List.mem_cons, List.not_mem_nil, or_false] at *; split <;> omega))), (rv_i0 ⟨_, _, rfl, rfl, (da_nil (rc_int ⟨_, rfl, (de_int (rv_ic ⟨_, _, rfl, rfl, (cmulB (by first | omega | (simp only [List.mem_cons, List.not_mem_nil, or_false] at *; omega) | (simp only [List.mem_cons, List.not_mem_nil, or_false] at *; split <;> omega)) (by first | omega | (simp only [List.mem_cons, List.not_mem_nil, or_false] at *; omega) | (simp only [List.mem_cons, List.not_mem_nil, or_false] at *; split <;> omega))), (da_nil (rc_int ⟨_, rfl, (de_int (rv_ic ⟨_, _, rfl, rfl, (by show (0 : Int) < _; first | omega | (simp only [List.mem_cons, List.not_mem_nil, or_false] at *; omega) | (simp only [List.mem_cons, List.not_mem_nil, or_false] at *; split <;> omega)), ?_⟩))⟩))⟩))⟩))⟩)⟩)⟩))))))⟩))))))))))))
      -- number = int(number * (number // 1021 + 16807)) % 2147483647
      refine dss_cons (ds_set (i := 4) Ln rfl (by decide) (de_bin op_mod (de_callT call_int1 g_int m_int (by decide +kernel) (da_cons (de_bin op_mulW (de_var (i := 4) Mn rfl (by decide) rfl (de_bin op_add (de_bin op_fdivW (de_var (i := 4) Mn rfl (by decide) rfl (de_int (rv_ic ⟨_, _, rfl, rfl, (cdivB (by first | omega | (simp only [List.mem_cons, List.not_mem_nil, or_false] at *; omega) | (simp only [List.mem_cons, List.not_mem_nil, or_false] at *; split <;> omega)) (by first | omega | (simp only [List.mem_cons, List.not_mem_nil, or_false] at *; omega) | (simp only [List.mem_cons, List.not_mem_nil, or_false] at *; split <;> omega))), (de_int (rv_i0 ⟨_, _, rfl, rfl, (rv_ic ⟨_, _, rfl, rfl, (cmulB (by first | omega | (simp only [List.mem_cons, List.not_mem_nil, or_false] at *; omega) | (simp only [List.mem_cons, List.not_mem_nil, or_false] at *; split <;> omega)) (by first | omega | (simp only [List.mem_cons, List.not_mem_nil, or_false] at *; omega) | (simp only [List.mem_cons, List.not_mem_nil, or_false] at *; split <;> omega))), (da_nil (rc_int ⟨_, rfl, (de_int (rv_ic ⟨_, _, rfl, rfl, (by show (0 : Int) < _; first | omega | (simp only [List.mem_cons, List.not_mem_nil, or_false] at *; omega) | (simp only [List.mem_cons, List.not_mem_nil, or_false] at *; split <;> omega)), ?_⟩))⟩))⟩)⟩))⟩)))))))))))
      -- number = int(number * (number // 2011 + 48271)) % 2147483563
      refine dss_cons (ds_set (i := 4) Ln rfl (by decide) (de_bin op_mod (de_callT call_int1 g_int m_int (by decide +kernel) (da_cons (de_bin op_mulW (de_var (i := 4) Mn rfl (by decide) rfl (de_bin op_add (de_bin op_fdivW (de_var (i := 4) Mn rfl (by decide) rfl (de_int (rv_ic ⟨_, _, rfl, rfl, (cdivB (by first | omega | (simp only [List.mem_cons, List.not_mem_nil, or_false] at *; omega) | (simp only [List.mem_cons, List.not_mem_nil, or_false] at *; split <;> omega)) (by first | omega | (simp only [List.mem_cons, List.not_mem_nil, or_false] at *; omega) | (simp only [List.mem_cons, List.not_mem_nil, or_false] at *; split <;> omega))), (de_int (rv_i0 ⟨_, _, rfl, rfl, (rv_ic ⟨_, _, rfl, rfl, (cmulB (by first | omega | (simp only [List.mem_cons, List.not_mem_nil, or_false] at *; omega) | (simp only [List.mem_cons, List.not_mem_nil, or_false] at *; split <;> omega)) (by first | omega | (simp only [List.mem_cons, List.not_mem_nil, or_false] at *; omega) | (simp only [List.mem_cons, List.not_mem_nil, or_false] at *; split <;> omega))), (da_nil (rc_int ⟨_, rfl, (de_int (rv_ic ⟨_, _, rfl, rfl, (by show (0 : Int) < _; first | omega | (simp only [List.mem_cons, List.not_mem_nil, or_false] at *; omega) | (simp only [List.mem_cons, List.not_mem_nil, or_false] at *; split <;> omega)), ?_⟩))⟩))⟩)⟩))⟩)))))))))))
      refine dss_cons (ds_ret (de_bin op_mod (de_callT call_int1 g_int m_int (by decide +kernel) (da_cons (de_bin op_fdivW (de_var (i := 4) Mn rfl (by decide) rfl (de_int (rv_ic ⟨_, _, rfl, rfl, (cdivB (by first | omega | (simp only [List.mem_cons, List.not_mem_nil, or_false] at *; omega) | (simp only [List.mem_cons, List.not_mem_nil, or_false] at *; split <;> omega)) (by first | omega | (simp only [List.mem_cons, List.not_mem_nil, or_false] at *; omega) | (simp only [List.mem_cons, List.not_mem_nil, or_false] at *; split <;> omega))), (da_nil (rc_int ⟨_, rfl, (de_var (i := 1) Mn rfl (by decide) rfl (rv_ic ⟨_, _, rfl, rfl, (by show (0 : Int) < _; first | omega | (simp only [List.mem_cons, List.not_mem_nil, or_false] at *; omega) | (simp only [List.mem_cons, List.not_mem_nil, or_false] at *; split <;> omega)), (ret1 ?_)⟩))⟩))⟩))))))))
      exact q _ _ ⟨cs, _, _, _, _, rfl, h1, by omega, by omega, by omega, by omega, by omega, by omega⟩ (Int.emod_nonneg _ (by omega)) (Int.emod_lt_of_pos _ p0)
theorem ok__law_draw {P : Program} {w : World} {K : PySem.W.Frag} {mg : Str → Option Value} {base : Heap} (T : Top1 K mg "_law_draw" s__law_draw ["hand", "many"]) (m_int : mg "int" = none) (m_len : mg "len" = none) : Cal P w K mg base CX0 "_law_draw" 1 (lift K sp__law_draw) :=
  cal_of T sc__law_draw (by rintro es μ Q ⟨_, _, _, rfl, _⟩; rfl) fun f cdv A outer s H E B es μ μh Q h => body__law_draw (X0 := cxOf CX0 P w K mg base N__law_draw "_law_draw" (defScope s__law_draw) f cdv A outer s H E) (env0 := PyProof.Rows.envOfC "_law_draw" (defScope s__law_draw) s.heap.objs.size f cdv) m_int m_len B es μ μh Q h
theorem some_at {xs : List Int} {r : Int} (h0 : 0 ≤ r) (h1 : r < ((xs.map PyData.int).length : Int)) : atI (xs.map PyData.int) r = some (.int (xs.getD r.toNat 0)) := by
  rw [List.length_map] at h1
  refine at_nat h0 ?_
  have h : r.toNat < xs.length := by omega
  rw [List.getElem?_map, List.getElem?_eq_getElem h, List.getD_eq_getElem?_getD, List.getElem?_eq_getElem h]
  rfl
theorem some_mem {xs : List Int} {r : Int} (h0 : 0 ≤ r) (h1 : r < ((xs.map PyData.int).length : Int)) : xs.getD r.toNat 0 ∈ xs := by
  rw [List.length_map] at h1
  have h : r.toNat < xs.length := by omega
  rw [List.getD_eq_getElem?_getD, List.getElem?_eq_getElem h]
  exact List.getElem_mem h
/-! ### _law_some -/
abbrev s__law_some : Stmt := topS 53
abbrev N__law_some : List Str := ["hand", "things"]
theorem sc__law_some : FnScope N__law_some ["hand", "things"] (defScope s__law_some) := ⟨rfl, rfl, rfl, by decide +kernel, rfl, by decide +kernel, by decide +kernel⟩
theorem nm__law_some : nmC N__law_some (defScope s__law_some) [0, 1] = true := by decide +kernel
theorem lc__law_some : lcC N__law_some (defScope s__law_some) [0, 1] = true := by decide +kernel
theorem gb__law_some__law_draw : gbC (defScope s__law_some) "_law_draw" = true := by decide +kernel
theorem gb__law_some_len : gbC (defScope s__law_some) "len" = true := by decide +kernel
def sp__law_some : SpF := fun es μ P => ∃ (m : MO) (nb : Nat) (xs : List Int), es = [.c 0, .d (.list (xs.map .int))] ∧ μ = [m] ∧ IsHand nb m ∧ nb + 1 ≤ 10 ^ 9 ∧ 0 < xs.length ∧ xs.length ≤ 1000 ∧ ∀ (m' : MO) (r : Int), IsHand (nb + 1) m' → r ∈ xs → P (.d (.int r)) [m']
theorem body__law_some {X0 : Cx} {env0 : PySem.Env} (c__law_draw : CalX X0 "_law_draw" 1 sp__law_draw) (m_len : X0.mg "len" = none) (B : Bx (mkX X0 env0 N__law_some (defScope s__law_some)) 1) :
    ∀ (es : List Ent) (μ μh : Mu) (Q : Ent → Mu → Prop), sp__law_some es μ Q → DSs (mkX X0 env0 N__law_some (defScope s__law_some)) (defBody s__law_some) (slots0 N__law_some es) (μ ++ μh) (Zof μ.length μh Q) := by
  rintro es μ μh Q ⟨m, nb, xs, rfl, rfl, hm, hnb, p0, p1, q⟩
  have Mn : Nm (mkX X0 env0 N__law_some (defScope s__law_some)) [0, 1] := nm_of nm__law_some
  have Ln : Lc (mkX X0 env0 N__law_some (defScope s__law_some)) [0, 1] := lc_of lc__law_some
  have g__law_draw : Gb (mkX X0 env0 N__law_some (defScope s__law_some)) "_law_draw" := gb_of gb__law_some__law_draw
  have g_len : Gb (mkX X0 env0 N__law_some (defScope s__law_some)) "len" := gb_of gb__law_some_len
  have hl : ((xs.map PyData.int).length : Int) = xs.length := by simp
  refine dss_cons (ds_ret (de_ix ix_list (fun _ _ => rfl) (de_var (i := 1) Mn rfl (by decide) rfl (de_callH B c__law_draw (by decide) g__law_draw (da_cons (de_var (i := 0) Mn rfl (by decide) rfl (da_cons (de_callB call_len_seq g_len m_len (by decide +kernel) (da_cons (de_var (i := 1) Mn rfl (by decide) rfl (da_nil (rc_lenL ⟨_, rfl, (da_nil ⟨_, _, _, rfl, rfl, rfl, _, _, _, rfl, rfl, (by assumption), (by omega), (by first | assumption | omega | (simp; done) | exact .inl ⟨_, rfl⟩ | exact .inl ⟨_, _, _, rfl⟩ | exact .inr rfl), (by first | assumption | omega | (simp; done) | exact .inl ⟨_, rfl⟩ | exact .inl ⟨_, _, _, rfl⟩ | exact .inr rfl), fun m1 r1 hm1 h10 h11 => ⟨_, rfl, rfl, (rv_ixL ⟨_, _, _, rfl, rfl, (some_at h10 h11), (ret1 ?_)⟩)⟩⟩)⟩))))))))))))
  exact q _ _ hm1 (some_mem h10 h11)
theorem ok__law_some {P : Program} {w : World} {K : PySem.W.Frag} {mg : Str → Option Value} {base : Heap} (T : Top1 K mg "_law_some" s__law_some ["hand", "things"]) (c__law_draw : Cal P w K mg base CX0 "_law_draw" 1 (lift K sp__law_draw)) (m_len : mg "len" = none) : Cal P w K mg base CX0 "_law_some" 2 (lift K sp__law_some) :=
  cal_of T sc__law_some (by rintro es μ Q ⟨_, _, _, rfl, _⟩; rfl) fun f cdv A outer s H E B es μ μh Q h => body__law_some (X0 := cxOf CX0 P w K mg base N__law_some "_law_some" (defScope s__law_some) f cdv A outer s H E) (env0 := PyProof.Rows.envOfC "_law_some" (defScope s__law_some) s.heap.objs.size f cdv) c__law_draw m_len B es μ μh Q h
/-! ### _law_is -/
abbrev s__law_is : Stmt := topS 54
abbrev N__law_is : List Str := ["told", "due"]
theorem sc__law_is : FnScope N__law_is ["told", "due"] (defScope s__law_is) := ⟨rfl, rfl, rfl, by decide +kernel, rfl, by decide +kernel, by decide +kernel⟩
theorem nm__law_is : nmC N__law_is (defScope s__law_is) [0, 1] = true := by decide +kernel
theorem lc__law_is : lcC N__law_is (defScope s__law_is) [0, 1] = true := by decide +kernel
theorem gb__law_is_repr : gbC (defScope s__law_is) "repr" = true := by decide +kernel
def sp__law_is : SpF := fun es μ P => ∃ (d d' : D), es = [.d d, .d d'] ∧ μ = [] ∧ d = d' ∧ OkR d ∧ P (.d (.bool true)) []
theorem body__law_is {X0 : Cx} {env0 : PySem.Env} (m_repr : X0.mg "repr" = none) (B : Bx (mkX X0 env0 N__law_is (defScope s__law_is)) 0) :
    ∀ (es : List Ent) (μ μh : Mu) (Q : Ent → Mu → Prop), sp__law_is es μ Q → DSs (mkX X0 env0 N__law_is (defScope s__law_is)) (defBody s__law_is) (slots0 N__law_is es) (μ ++ μh) (Zof μ.length μh Q) := by
  rintro es μ μh Q ⟨d, d', rfl, rfl, p0, p1, q⟩
  have Mn : Nm (mkX X0 env0 N__law_is (defScope s__law_is)) [0, 1] := nm_of nm__law_is
  have Ln : Lc (mkX X0 env0 N__law_is (defScope s__law_is)) [0, 1] := lc_of lc__law_is
  have g_repr : Gb (mkX X0 env0 N__law_is (defScope s__law_is)) "repr" := gb_of gb__law_is_repr
  subst p0
  refine dss_cons (ds_ret (de_cmp op_eq (nomark _) (de_callB (call_repr B) g_repr m_repr (by decide +kernel) (da_cons (de_var (i := 0) Mn rfl (by decide) rfl (da_nil (rc_repr ⟨_, rfl, p1.1, p1.2.1, p1.2.2.1, p1.2.2.2, (de_callB (call_repr B) g_repr m_repr (by decide +kernel) (da_cons (de_var (i := 1) Mn rfl (by decide) rfl (da_nil (rc_repr ⟨_, rfl, p1.1, p1.2.1, p1.2.2.1, p1.2.2.2, (rv_eqS ⟨_, _, rfl, rfl, (ret0 ?_)⟩)⟩)))))⟩)))))))
  simp only [decide_true]
  exact q
theorem ok__law_is {P : Program} {w : World} {K : PySem.W.Frag} {mg : Str → Option Value} {base : Heap} (T : Top1 K mg "_law_is" s__law_is ["told", "due"]) (m_repr : mg "repr" = none) : Cal P w K mg base CX0 "_law_is" 1 (lift K sp__law_is) :=
  cal_of T sc__law_is (by rintro es μ Q ⟨_, _, rfl, _⟩; rfl) fun f cdv A outer s H E B es μ μh Q h => body__law_is (X0 := cxOf CX0 P w K mg base N__law_is "_law_is" (defScope s__law_is) f cdv A outer s H E) (env0 := PyProof.Rows.envOfC "_law_is" (defScope s__law_is) s.heap.objs.size f cdv) m_repr B es μ μh Q h
/-! ### _law_common -/
abbrev s__law_common : Stmt := topS 55
abbrev N__law_common : List Str := ["one", "other"]
theorem sc__law_common : FnScope N__law_common ["one", "other"] (defScope s__law_common) := ⟨rfl, rfl, rfl, by decide +kernel, rfl, by decide +kernel, by decide +kernel⟩
theorem nm__law_common : nmC N__law_common (defScope s__law_common) [0, 1] = true := by decide +kernel
theorem lc__law_common : lcC N__law_common (defScope s__law_common) [0, 1] = true := by decide +kernel
theorem gb__law_common_abs : gbC (defScope s__law_common) "abs" = true := by decide +kernel
theorem gb__law_common_int : gbC (defScope s__law_common) "int" = true := by decide +kernel
def sp__law_common : SpF := fun es μ P => ∃ (a b : Int), es = [.d (.int a), .d (.int b)] ∧ μ = [] ∧ P (.d (.int (Int.gcd a b))) []
theorem body__law_common {X0 : Cx} {env0 : PySem.Env} (m_abs : X0.mg "abs" = none) (m_int : X0.mg "int" = none) (B : Bx (mkX X0 env0 N__law_common (defScope s__law_common)) 0) :
    ∀ (es : List Ent) (μ μh : Mu) (Q : Ent → Mu → Prop), sp__law_common es μ Q → DSs (mkX X0 env0 N__law_common (defScope s__law_common)) (defBody s__law_common) (slots0 N__law_common es) (μ ++ μh) (Zof μ.length μh Q) := by
  rintro es μ μh Q ⟨a, b, rfl, rfl, q⟩
  have Mn : Nm (mkX X0 env0 N__law_common (defScope s__law_common)) [0, 1] := nm_of nm__law_common
  have Ln : Lc (mkX X0 env0 N__law_common (defScope s__law_common)) [0, 1] := lc_of lc__law_common
  have g_abs : Gb (mkX X0 env0 N__law_common (defScope s__law_common)) "abs" := gb_of gb__law_common_abs
  have g_int : Gb (mkX X0 env0 N__law_common (defScope s__law_common)) "int" := gb_of gb__law_common_int
  -- one, other = (abs(one), abs(other))
  refine dss_cons (ds_par (i := 0) (j := 1) Ln rfl rfl rfl (by decide) rfl rfl (da_cons (de_callB call_abs g_abs m_abs (by decide +kernel) (da_cons (de_var (i := 0) Mn rfl (by decide) rfl (da_nil (rc_abs ⟨_, rfl, (da_cons (de_callB call_abs g_abs m_abs (by decide +kernel) (da_cons (de_var (i := 1) Mn rfl (by decide) rfl (da_nil (rc_abs ⟨_, rfl, (da_nil ⟨_, _, rfl, ?_⟩)⟩))))))⟩)))))) rfl)
  -- while other > 0
  refine dss_cons (ds_while PassesOwn.never (fun m ρ μ => ∃ a' b' : Int, 0 ≤ a' ∧ 0 ≤ b' ∧ Int.gcd a' b' = Int.gcd a b ∧ m = b'.toNat ∧ ρ = [some (.d (.int a')), some (.d (.int b'))] ∧ μ = μh) _ ⟨_, _, ?_, ?_, ?_, rfl, rfl, rfl⟩ fun m ρ μ hI => ?_)
  · split <;> omega
  · split <;> omega
  · split <;> split <;> simp [Int.gcd_neg, Int.neg_gcd]
  obtain ⟨a', b', h1, h2, h3, rfl, rfl, rfl⟩ := hI
  refine (dt_cmp op_gt (nomark _) (de_var (i := 1) Mn rfl (by decide) rfl (de_int (rv_b0 ⟨_, _, rfl, rfl, ⟨_, rfl, ⟨fun ht => ?_, fun ht => ?_⟩⟩⟩))))
  · try simp only [decide_eq_true_eq, decide_eq_false_iff_not, bne_iff_ne, Bool.not_eq_true', Bool.not_eq_false', ne_eq, beq_iff_eq] at ht
    -- one, other = (other, int(one) % other)
    refine dss_cons (ds_par (i := 0) (j := 1) Ln rfl rfl rfl (by decide) rfl rfl (da_cons (de_var (i := 1) Mn rfl (by decide) rfl (da_cons (de_bin op_mod (de_callT call_int1 g_int m_int (by decide +kernel) (da_cons (de_var (i := 0) Mn rfl (by decide) rfl (da_nil (rc_int ⟨_, rfl, (de_var (i := 1) Mn rfl (by decide) rfl (rv_ic ⟨_, _, rfl, rfl, (by show (0 : Int) < _; first | omega | (simp only [List.mem_cons, List.not_mem_nil, or_false] at *; omega) | (simp only [List.mem_cons, List.not_mem_nil, or_false] at *; split <;> omega)), (da_nil ⟨_, _, rfl, ?_⟩)⟩))⟩))))))))) rfl)
    refine dss_nil ⟨_, ?_, b', a' % b', h2, Int.emod_nonneg _ (by omega), gcd_step h3, rfl, rfl, rfl⟩
    have := Int.emod_lt_of_pos a' ht
    omega
  · try simp only [decide_eq_true_eq, decide_eq_false_iff_not, bne_iff_ne, Bool.not_eq_true', Bool.not_eq_false', ne_eq, beq_iff_eq] at ht
    refine dss_cons (ds_ret (de_var (i := 0) Mn rfl (by decide) rfl (ret0 ?_)))
    have e : b' = 0 := by omega
    subst e
    have e : a' = Int.gcd a b := by rw [← h3]; simp; omega
    rw [e]
    exact q
theorem ok__law_common {P : Program} {w : World} {K : PySem.W.Frag} {mg : Str → Option Value} {base : Heap} (T : Top1 K mg "_law_common" s__law_common ["one", "other"]) (m_abs : mg "abs" = none) (m_int : mg "int" = none) : Cal P w K mg base CX0 "_law_common" 1 (lift K sp__law_common) :=
  cal_of T sc__law_common (by rintro es μ Q ⟨_, _, rfl, _⟩; rfl) fun f cdv A outer s H E B es μ μh Q h => body__law_common (X0 := cxOf CX0 P w K mg base N__law_common "_law_common" (defScope s__law_common) f cdv A outer s H E) (env0 := PyProof.Rows.envOfC "_law_common" (defScope s__law_common) s.heap.objs.size f cdv) m_abs m_int B es μ μh Q h
/-! ### _law_figures -/
abbrev s__law_figures : Stmt := topS 56
abbrev N__law_figures : List Str := ["hand", "most", "found", "turn"]
theorem sc__law_figures : FnScope N__law_figures ["hand", "most"] (defScope s__law_figures) := ⟨rfl, rfl, rfl, by decide +kernel, rfl, by decide +kernel, by decide +kernel⟩
theorem nm__law_figures : nmC N__law_figures (defScope s__law_figures) [0, 1, 2, 3] = true := by decide +kernel
theorem lc__law_figures : lcC N__law_figures (defScope s__law_figures) [0, 1, 2, 3] = true := by decide +kernel
theorem gb__law_figures_range : gbC (defScope s__law_figures) "range" = true := by decide +kernel
theorem gb__law_figures__law_draw : gbC (defScope s__law_figures) "_law_draw" = true := by decide +kernel
theorem gb__law_figures_int : gbC (defScope s__law_figures) "int" = true := by decide +kernel
theorem gb__law_figures_min : gbC (defScope s__law_figures) "min" = true := by decide +kernel
theorem gb__law_figures__law_some : gbC (defScope s__law_figures) "_law_some" = true := by decide +kernel
def sp__law_figures : SpF := fun es μ P => ∃ (m : MO) (nb : Nat) (n : Int), es = [.c 0, .d (.int n)] ∧ μ = [m] ∧ IsHand nb m ∧ nb + 6 ≤ 10 ^ 9 ∧ 1 ≤ n ∧ n ≤ 10 ^ 60 ∧ ∀ (m' : MO) (r : Int), IsHand (nb + 6) m' → 1 ≤ r → r ≤ n → P (.d (.int r)) [m']
theorem body__law_figures {X0 : Cx} {env0 : PySem.Env} (m_range : X0.mg "range" = none) (c__law_draw : CalX X0 "_law_draw" 1 sp__law_draw) (m_int : X0.mg "int" = none) (m_min : X0.mg "min" = none) (c__law_some : CalX X0 "_law_some" 2 sp__law_some) (B : Bx (mkX X0 env0 N__law_figures (defScope s__law_figures)) 2) :
    ∀ (es : List Ent) (μ μh : Mu) (Q : Ent → Mu → Prop), sp__law_figures es μ Q → DSs (mkX X0 env0 N__law_figures (defScope s__law_figures)) (defBody s__law_figures) (slots0 N__law_figures es) (μ ++ μh) (Zof μ.length μh Q) := by
  rintro es μ μh Q ⟨m, nb, n, rfl, rfl, hm, hnb, p0, p1, q⟩
  have Mn : Nm (mkX X0 env0 N__law_figures (defScope s__law_figures)) [0, 1, 2, 3] := nm_of nm__law_figures
  have Ln : Lc (mkX X0 env0 N__law_figures (defScope s__law_figures)) [0, 1, 2, 3] := lc_of lc__law_figures
  have g_range : Gb (mkX X0 env0 N__law_figures (defScope s__law_figures)) "range" := gb_of gb__law_figures_range
  have g__law_draw : Gb (mkX X0 env0 N__law_figures (defScope s__law_figures)) "_law_draw" := gb_of gb__law_figures__law_draw
  have g_int : Gb (mkX X0 env0 N__law_figures (defScope s__law_figures)) "int" := gb_of gb__law_figures_int
  have g_min : Gb (mkX X0 env0 N__law_figures (defScope s__law_figures)) "min" := gb_of gb__law_figures_min
  have g__law_some : Gb (mkX X0 env0 N__law_figures (defScope s__law_figures)) "_law_some" := gb_of gb__law_figures__law_some
  -- found = 0
  refine dss_cons (ds_set (i := 2) Ln rfl (by decide) (de_int ?_))
  -- for turn in range(5)
  refine dss_cons (ds_for PassesOwn.never rfl (di_range1 g_range m_range (de_int ⟨_, rfl, (by decide), (by decide), ⟨fun i ρ μ => ∃ (m : MO) (f : Int) (o : Option Ent), IsHand (nb + i) m ∧ 0 ≤ f ∧ f < (10007 ^ i : Nat) ∧ ρ = [some (.c 0), some (.d (.int n)), some (.d (.int f)), o] ∧ m :: μh = μ, ⟨_, _, _, hm, by omega, by decide, rfl, rfl⟩, ?_, ?_⟩⟩)))
  · rintro i d ρ μ hd ⟨m, f, o, hm, f0, f1, rfl, rfl⟩
    have hi : i < 5 := (rgi_get hd).1
    have e1 : 10007 ^ i ≤ 10007 ^ 5 := Nat.pow_le_pow_right (by omega) (by omega)
    have e2 : 10007 ^ (i + 1) = 10007 ^ i * 10007 := Nat.pow_succ ..
    refine dg_name (i := 3) Ln rfl (by decide) ?_
    -- found = found * 10007 + _law_draw(hand, 10007)
    refine dss_cons (ds_set (i := 2) Ln rfl (by decide) (de_bin op_add (de_bin op_mulW (de_var (i := 2) Mn rfl (by decide) rfl (de_int (rv_ic ⟨_, _, rfl, rfl, (cmulB (by first | omega | (simp only [List.mem_cons, List.not_mem_nil, or_false] at *; omega) | (simp only [List.mem_cons, List.not_mem_nil, or_false] at *; split <;> omega)) (by first | omega | (simp only [List.mem_cons, List.not_mem_nil, or_false] at *; omega) | (simp only [List.mem_cons, List.not_mem_nil, or_false] at *; split <;> omega))), (de_callH B c__law_draw (by decide) g__law_draw (da_cons (de_var (i := 0) Mn rfl (by decide) rfl (da_cons (de_int (da_nil ⟨_, _, _, rfl, rfl, rfl, _, _, _, rfl, rfl, (by assumption), (by omega), (by first | assumption | omega | (simp; done) | exact .inl ⟨_, rfl⟩ | exact .inl ⟨_, _, _, rfl⟩ | exact .inr rfl), (by first | assumption | omega | (simp; done) | exact .inl ⟨_, rfl⟩ | exact .inl ⟨_, _, _, rfl⟩ | exact .inr rfl), fun m1 r1 hm1 h10 h11 => ⟨_, rfl, rfl, (rv_i0 ⟨_, _, rfl, rfl, ?_⟩)⟩⟩))))))⟩))))))
    exact dss_nil ⟨_, _, _, hm1, by omega, by omega, rfl, rfl⟩
  · rintro ρ μ ⟨m, f, o, hm, f0, f1, rfl, rfl⟩
    rw [rgi_len, show Int.toNat 5 = 5 from rfl] at hm f1
    refine dss_cons (ds_ret (de_bin op_add (de_int (de_bin op_mod (de_callT call_int1 g_int m_int (by decide +kernel) (da_cons (de_var (i := 2) Mn rfl (by decide) rfl (da_nil (rc_int ⟨_, rfl, (de_callB (call_min2 rfl) g_min m_min (by decide +kernel) (da_cons (de_var (i := 1) Mn rfl (by decide) rfl (da_cons (de_callH B c__law_some (by decide) g__law_some (da_cons (de_var (i := 0) Mn rfl (by decide) rfl (da_cons (de_lst (da_cons (de_var (i := 1) Mn rfl (by decide) rfl (da_cons (de_var (i := 1) Mn rfl (by decide) rfl (da_cons (de_bin op_pow (de_int (de_int (rv_ic2 (10 ^ 6) ⟨_, _, rfl, rfl, ⟨by decide, by decide, by decide⟩, rfl, (da_cons (de_int (da_nil ⟨[_, _, _, _], rfl, lenS (n := 4) rfl (by decide), (da_nil ⟨_, _, _, rfl, rfl, rfl, _, _, [_, _, _, _], rfl, rfl, (by assumption), (by omega), (by first | assumption | omega | (simp; done) | exact .inl ⟨_, rfl⟩ | exact .inl ⟨_, _, _, rfl⟩ | exact .inr rfl), (by first | assumption | omega | (simp; done) | exact .inl ⟨_, rfl⟩ | exact .inl ⟨_, _, _, rfl⟩ | exact .inr rfl), fun m2 r2 hm2 h20 => ⟨_, rfl, rfl, (da_nil (rc_min2 ⟨_, _, rfl, (rv_ic ⟨_, _, rfl, rfl, (by show (0 : Int) < _; first | omega | (simp only [List.mem_cons, List.not_mem_nil, or_false] at *; omega) | (simp only [List.mem_cons, List.not_mem_nil, or_false] at *; split <;> omega)), (rv_i0 ⟨_, _, rfl, rfl, (ret1 ?_)⟩)⟩)⟩))⟩⟩)⟩)))⟩))))))))))))))))))⟩)))))))))
    have hp : 0 < (if r2 < n then r2 else n) ∧ (if r2 < n then r2 else n) ≤ n := by
      simp only [List.mem_cons, List.not_mem_nil, or_false] at h20
      split <;> omega
    have g1 := Int.emod_nonneg f (show (if r2 < n then r2 else n) ≠ 0 by omega)
    have g2 := Int.emod_lt_of_pos f hp.1
    exact q _ _ hm2 (by omega) (by omega)
theorem ok__law_figures {P : Program} {w : World} {K : PySem.W.Frag} {mg : Str → Option Value} {base : Heap} (T : Top1 K mg "_law_figures" s__law_figures ["hand", "most"]) (m_range : mg "range" = none) (c__law_draw : Cal P w K mg base CX0 "_law_draw" 1 (lift K sp__law_draw)) (m_int : mg "int" = none) (m_min : mg "min" = none) (c__law_some : Cal P w K mg base CX0 "_law_some" 2 (lift K sp__law_some)) : Cal P w K mg base CX0 "_law_figures" 3 (lift K sp__law_figures) :=
  cal_of T sc__law_figures (by rintro es μ Q ⟨_, _, _, rfl, _⟩; rfl) fun f cdv A outer s H E B es μ μh Q h => body__law_figures (X0 := cxOf CX0 P w K mg base N__law_figures "_law_figures" (defScope s__law_figures) f cdv A outer s H E) (env0 := PyProof.Rows.envOfC "_law_figures" (defScope s__law_figures) s.heap.objs.size f cdv) m_range c__law_draw m_int m_min c__law_some B es μ μh Q h
/-! ### _law_cell -/
abbrev s__law_cell : Stmt := topS 57
abbrev N__law_cell : List Str := ["hand", "floor", "x"]
theorem sc__law_cell : FnScope N__law_cell ["hand", "floor"] (defScope s__law_cell) := ⟨rfl, rfl, rfl, by decide +kernel, rfl, by decide +kernel, by decide +kernel⟩
theorem nm__law_cell : nmC N__law_cell (defScope s__law_cell) [0, 1, 2] = true := by decide +kernel
theorem lc__law_cell : lcC N__law_cell (defScope s__law_cell) [0, 1, 2] = true := by decide +kernel
theorem gb__law_cell__law_some : gbC (defScope s__law_cell) "_law_some" = true := by decide +kernel
theorem gb__law_cell__law_figures : gbC (defScope s__law_cell) "_law_figures" = true := by decide +kernel
def sp__law_cell : SpF := fun es μ P => ∃ (m : MO) (nb : Nat) (a b c : Int), es = [.c 0, .d (fl a b c)] ∧ μ = [m] ∧ IsHand nb m ∧ nb + 28 ≤ 10 ^ 9 ∧ 1 ≤ a ∧ a ≤ 10 ^ 60 ∧ 1 ≤ b ∧ b ≤ 10 ^ 60 ∧ ∀ (m' : MO) (x y : Int), IsHand (nb + 28) m' → 0 ≤ x → x < a → 0 ≤ y → y < b → P (.d (pr x y)) [m']
theorem body__law_cell {X0 : Cx} {env0 : PySem.Env} (c__law_some : CalX X0 "_law_some" 2 sp__law_some) (c__law_figures : CalX X0 "_law_figures" 3 sp__law_figures) (B : Bx (mkX X0 env0 N__law_cell (defScope s__law_cell)) 3) :
    ∀ (es : List Ent) (μ μh : Mu) (Q : Ent → Mu → Prop), sp__law_cell es μ Q → DSs (mkX X0 env0 N__law_cell (defScope s__law_cell)) (defBody s__law_cell) (slots0 N__law_cell es) (μ ++ μh) (Zof μ.length μh Q) := by
  rintro es μ μh Q ⟨m, nb, a, b, c, rfl, rfl, hm, hnb, p0, p1, p2, p3, q⟩
  have Mn : Nm (mkX X0 env0 N__law_cell (defScope s__law_cell)) [0, 1, 2] := nm_of nm__law_cell
  have Ln : Lc (mkX X0 env0 N__law_cell (defScope s__law_cell)) [0, 1, 2] := lc_of lc__law_cell
  have g__law_some : Gb (mkX X0 env0 N__law_cell (defScope s__law_cell)) "_law_some" := gb_of gb__law_cell__law_some
  have g__law_figures : Gb (mkX X0 env0 N__law_cell (defScope s__law_cell)) "_law_figures" := gb_of gb__law_cell__law_figures
  -- x = _law_some(hand, [0, floor[0] - 1, _law_figures(hand, floor[0]) - 1, _law_figures(hand, floor[0]) - 1])
  refine dss_cons (ds_set (i := 2) Ln rfl (by decide) (de_callH B c__law_some (by decide) g__law_some (da_cons (de_var (i := 0) Mn rfl (by decide) rfl (da_cons (de_lst (da_cons (de_int (da_cons (de_bin op_sub (de_ix ix_tup (fun _ _ => rfl) (de_var (i := 1) Mn rfl (by decide) rfl (de_int (rv_ixT ⟨_, _, _, rfl, rfl, rfl, (de_int (rv_i0 ⟨_, _, rfl, rfl, (da_cons (de_bin op_sub (de_callH B c__law_figures (by decide) g__law_figures (da_cons (de_var (i := 0) Mn rfl (by decide) rfl (da_cons (de_ix ix_tup (fun _ _ => rfl) (de_var (i := 1) Mn rfl (by decide) rfl (de_int (rv_ixT ⟨_, _, _, rfl, rfl, rfl, (da_nil ⟨_, _, _, rfl, rfl, rfl, _, _, _, rfl, rfl, (by assumption), (by omega), (by first | assumption | omega | (simp; done) | exact .inl ⟨_, rfl⟩ | exact .inl ⟨_, _, _, rfl⟩ | exact .inr rfl), (by first | assumption | omega | (simp; done) | exact .inl ⟨_, rfl⟩ | exact .inl ⟨_, _, _, rfl⟩ | exact .inr rfl), fun m3 r3 hm3 h30 h31 => ⟨_, rfl, rfl, (de_int (rv_i0 ⟨_, _, rfl, rfl, (da_cons (de_bin op_sub (de_callH B c__law_figures (by decide) g__law_figures (da_cons (de_var (i := 0) Mn rfl (by decide) rfl (da_cons (de_ix ix_tup (fun _ _ => rfl) (de_var (i := 1) Mn rfl (by decide) rfl (de_int (rv_ixT ⟨_, _, _, rfl, rfl, rfl, (da_nil ⟨_, _, _, rfl, rfl, rfl, _, _, _, rfl, rfl, (by assumption), (by omega), (by first | assumption | omega | (simp; done) | exact .inl ⟨_, rfl⟩ | exact .inl ⟨_, _, _, rfl⟩ | exact .inr rfl), (by first | assumption | omega | (simp; done) | exact .inl ⟨_, rfl⟩ | exact .inl ⟨_, _, _, rfl⟩ | exact .inr rfl), fun m2 r2 hm2 h20 h21 => ⟨_, rfl, rfl, (de_int (rv_i0 ⟨_, _, rfl, rfl, (da_nil ⟨[_, _, _, _], rfl, lenS (n := 4) rfl (by decide), (da_nil ⟨_, _, _, rfl, rfl, rfl, _, _, [_, _, _, _], rfl, rfl, (by assumption), (by omega), (by first | assumption | omega | (simp; done) | exact .inl ⟨_, rfl⟩ | exact .inl ⟨_, _, _, rfl⟩ | exact .inr rfl), (by first | assumption | omega | (simp; done) | exact .inl ⟨_, rfl⟩ | exact .inl ⟨_, _, _, rfl⟩ | exact .inr rfl), fun m1 r1 hm1 h10 => ⟨_, rfl, rfl, ?_⟩⟩)⟩)⟩))⟩⟩)⟩))))))))))⟩))⟩⟩)⟩))))))))))⟩))⟩))))))))))))))
  refine dss_cons (ds_ret (de_tup (da_cons (de_var (i := 2) Mn rfl (by decide) rfl (da_cons (de_callH B c__law_some (by decide) g__law_some (da_cons (de_var (i := 0) Mn rfl (by decide) rfl (da_cons (de_lst (da_cons (de_int (da_cons (de_bin op_sub (de_ix ix_tup (fun _ _ => rfl) (de_var (i := 1) Mn rfl (by decide) rfl (de_int (rv_ixT ⟨_, _, _, rfl, rfl, rfl, (de_int (rv_i0 ⟨_, _, rfl, rfl, (da_cons (de_bin op_sub (de_callH B c__law_figures (by decide) g__law_figures (da_cons (de_var (i := 0) Mn rfl (by decide) rfl (da_cons (de_ix ix_tup (fun _ _ => rfl) (de_var (i := 1) Mn rfl (by decide) rfl (de_int (rv_ixT ⟨_, _, _, rfl, rfl, rfl, (da_nil ⟨_, _, _, rfl, rfl, rfl, _, _, _, rfl, rfl, (by assumption), (by omega), (by first | assumption | omega | (simp; done) | exact .inl ⟨_, rfl⟩ | exact .inl ⟨_, _, _, rfl⟩ | exact .inr rfl), (by first | assumption | omega | (simp; done) | exact .inl ⟨_, rfl⟩ | exact .inl ⟨_, _, _, rfl⟩ | exact .inr rfl), fun m6 r6 hm6 h60 h61 => ⟨_, rfl, rfl, (de_int (rv_i0 ⟨_, _, rfl, rfl, (da_cons (de_bin op_sub (de_callH B c__law_figures (by decide) g__law_figures (da_cons (de_var (i := 0) Mn rfl (by decide) rfl (da_cons (de_ix ix_tup (fun _ _ => rfl) (de_var (i := 1) Mn rfl (by decide) rfl (de_int (rv_ixT ⟨_, _, _, rfl, rfl, rfl, (da_nil ⟨_, _, _, rfl, rfl, rfl, _, _, _, rfl, rfl, (by assumption), (by omega), (by first | assumption | omega | (simp; done) | exact .inl ⟨_, rfl⟩ | exact .inl ⟨_, _, _, rfl⟩ | exact .inr rfl), (by first | assumption | omega | (simp; done) | exact .inl ⟨_, rfl⟩ | exact .inl ⟨_, _, _, rfl⟩ | exact .inr rfl), fun m5 r5 hm5 h50 h51 => ⟨_, rfl, rfl, (de_int (rv_i0 ⟨_, _, rfl, rfl, (da_nil ⟨[_, _, _, _], rfl, lenS (n := 4) rfl (by decide), (da_nil ⟨_, _, _, rfl, rfl, rfl, _, _, [_, _, _, _], rfl, rfl, (by assumption), (by omega), (by first | assumption | omega | (simp; done) | exact .inl ⟨_, rfl⟩ | exact .inl ⟨_, _, _, rfl⟩ | exact .inr rfl), (by first | assumption | omega | (simp; done) | exact .inl ⟨_, rfl⟩ | exact .inl ⟨_, _, _, rfl⟩ | exact .inr rfl), fun m4 r4 hm4 h40 => ⟨_, rfl, rfl, (da_nil ⟨[_, _], rfl, lenS (n := 2) rfl (by decide), (ret1 ?_)⟩)⟩⟩)⟩)⟩))⟩⟩)⟩))))))))))⟩))⟩⟩)⟩))))))))))⟩))⟩))))))))))))))))))
  simp only [List.mem_cons, List.not_mem_nil, or_false] at h10 h40
  exact q _ _ _ (hm4.mono (by omega)) (by omega) (by omega) (by omega) (by omega)
theorem ok__law_cell {P : Program} {w : World} {K : PySem.W.Frag} {mg : Str → Option Value} {base : Heap} (T : Top1 K mg "_law_cell" s__law_cell ["hand", "floor"]) (c__law_some : Cal P w K mg base CX0 "_law_some" 2 (lift K sp__law_some)) (c__law_figures : Cal P w K mg base CX0 "_law_figures" 3 (lift K sp__law_figures)) : Cal P w K mg base CX0 "_law_cell" 4 (lift K sp__law_cell) :=
  cal_of T sc__law_cell (by rintro es μ Q ⟨_, _, _, _, _, rfl, _⟩; rfl) fun f cdv A outer s H E B es μ μh Q h => body__law_cell (X0 := cxOf CX0 P w K mg base N__law_cell "_law_cell" (defScope s__law_cell) f cdv A outer s H E) (env0 := PyProof.Rows.envOfC "_law_cell" (defScope s__law_cell) s.heap.objs.size f cdv) c__law_some c__law_figures B es μ μh Q h
end K07

namespace K07
open PySem PySem.Spec L2 Pw
/-! ### _law_led -/
abbrev s__law_led : Stmt := topS 58
abbrev N__law_led : List Str := ["floor", "cell", "vector", "rows", "laps"]
theorem sc__law_led : FnScope N__law_led ["floor", "cell", "vector"] (defScope s__law_led) := ⟨rfl, rfl, rfl, by decide +kernel, rfl, by decide +kernel, by decide +kernel⟩
theorem nm__law_led : nmC N__law_led (defScope s__law_led) [0, 1, 2, 3, 4] = true := by decide +kernel
theorem lc__law_led : lcC N__law_led (defScope s__law_led) [0, 1, 2, 3, 4] = true := by decide +kernel
theorem gb__law_led_int : gbC (defScope s__law_led) "int" = true := by decide +kernel
def sp__law_led : SpF := fun es μ P => ∃ (a b c x y p s : Int), es = [.d (fl a b c), .d (pr x y), .d (pr p s)] ∧ μ = [] ∧ FB a b c ∧ (Bd x ∧ Bd y ∧ Bd p ∧ Bd s) ∧ P (.d (pr ((x + p + (y + s) / b * c) % a) ((y + s) % b))) []
theorem body__law_led {X0 : Cx} {env0 : PySem.Env} (m_int : X0.mg "int" = none) (B : Bx (mkX X0 env0 N__law_led (defScope s__law_led)) 0) :
    ∀ (es : List Ent) (μ μh : Mu) (Q : Ent → Mu → Prop), sp__law_led es μ Q → DSs (mkX X0 env0 N__law_led (defScope s__law_led)) (defBody s__law_led) (slots0 N__law_led es) (μ ++ μh) (Zof μ.length μh Q) := by
  rintro es μ μh Q ⟨a, b, c, x, y, p, s, rfl, rfl, p0, p1, q⟩
  have Mn : Nm (mkX X0 env0 N__law_led (defScope s__law_led)) [0, 1, 2, 3, 4] := nm_of nm__law_led
  have Ln : Lc (mkX X0 env0 N__law_led (defScope s__law_led)) [0, 1, 2, 3, 4] := lc_of lc__law_led
  have g_int : Gb (mkX X0 env0 N__law_led (defScope s__law_led)) "int" := gb_of gb__law_led_int
  obtain ⟨f1, f2, f3, f4, f5, f6⟩ := p0
  obtain ⟨⟨b1, b2⟩, ⟨b3, b4⟩, ⟨b5, b6⟩, ⟨b7, b8⟩⟩ := p1
  have tb : ((y + s) / b).natAbs ≤ 10 ^ 60 := ediv_abs f3 (by omega)
  -- rows = cell[1] + vector[1]
  refine dss_cons (ds_set (i := 3) Ln rfl (by decide) (de_bin op_add (de_ix ix_tup (fun _ _ => rfl) (de_var (i := 1) Mn rfl (by decide) rfl (de_int (rv_ixT ⟨_, _, _, rfl, rfl, rfl, (de_ix ix_tup (fun _ _ => rfl) (de_var (i := 2) Mn rfl (by decide) rfl (de_int (rv_ixT ⟨_, _, _, rfl, rfl, rfl, (rv_i0 ⟨_, _, rfl, rfl, ?_⟩)⟩))))⟩))))))
  -- laps = rows // floor[1]
  refine dss_cons (ds_set (i := 4) Ln rfl (by decide) (de_bin op_fdivW (de_var (i := 3) Mn rfl (by decide) rfl (de_ix ix_tup (fun _ _ => rfl) (de_var (i := 0) Mn rfl (by decide) rfl (de_int (rv_ixT ⟨_, _, _, rfl, rfl, rfl, (rv_ic ⟨_, _, rfl, rfl, (cdivB (by first | omega | (simp only [List.mem_cons, List.not_mem_nil, or_false] at *; omega) | (simp only [List.mem_cons, List.not_mem_nil, or_false] at *; split <;> omega)) (by first | omega | (simp only [List.mem_cons, List.not_mem_nil, or_false] at *; omega) | (simp only [List.mem_cons, List.not_mem_nil, or_false] at *; split <;> omega))), ?_⟩)⟩)))))))
  refine dss_cons (ds_ret (de_tup (da_cons (de_bin op_mod (de_callT call_int1 g_int m_int (by decide +kernel) (da_cons (de_bin op_add (de_bin op_add (de_ix ix_tup (fun _ _ => rfl) (de_var (i := 1) Mn rfl (by decide) rfl (de_int (rv_ixT ⟨_, _, _, rfl, rfl, rfl, (de_ix ix_tup (fun _ _ => rfl) (de_var (i := 2) Mn rfl (by decide) rfl (de_int (rv_ixT ⟨_, _, _, rfl, rfl, rfl, (rv_i0 ⟨_, _, rfl, rfl, (de_bin op_mulW (de_var (i := 4) Mn rfl (by decide) rfl (de_ix ix_tup (fun _ _ => rfl) (de_var (i := 0) Mn rfl (by decide) rfl (de_int (rv_ixT ⟨_, _, _, rfl, rfl, rfl, (rv_ic ⟨_, _, rfl, rfl, (cmulB (by first | omega | (simp only [List.mem_cons, List.not_mem_nil, or_false] at *; omega) | (simp only [List.mem_cons, List.not_mem_nil, or_false] at *; split <;> omega)) (by first | omega | (simp only [List.mem_cons, List.not_mem_nil, or_false] at *; omega) | (simp only [List.mem_cons, List.not_mem_nil, or_false] at *; split <;> omega))), (rv_i0 ⟨_, _, rfl, rfl, (da_nil (rc_int ⟨_, rfl, (de_ix ix_tup (fun _ _ => rfl) (de_var (i := 0) Mn rfl (by decide) rfl (de_int (rv_ixT ⟨_, _, _, rfl, rfl, rfl, (rv_ic ⟨_, _, rfl, rfl, (by show (0 : Int) < _; first | omega | (simp only [List.mem_cons, List.not_mem_nil, or_false] at *; omega) | (simp only [List.mem_cons, List.not_mem_nil, or_false] at *; split <;> omega)), (da_cons (de_bin op_sub (de_var (i := 3) Mn rfl (by decide) rfl (de_bin op_mulW (de_var (i := 4) Mn rfl (by decide) rfl (de_ix ix_tup (fun _ _ => rfl) (de_var (i := 0) Mn rfl (by decide) rfl (de_int (rv_ixT ⟨_, _, _, rfl, rfl, rfl, (rv_ic ⟨_, _, rfl, rfl, (cmulB (by first | omega | (simp only [List.mem_cons, List.not_mem_nil, or_false] at *; omega) | (simp only [List.mem_cons, List.not_mem_nil, or_false] at *; split <;> omega)) (by first | omega | (simp only [List.mem_cons, List.not_mem_nil, or_false] at *; omega) | (simp only [List.mem_cons, List.not_mem_nil, or_false] at *; split <;> omega))), (rv_i0 ⟨_, _, rfl, rfl, (da_nil ⟨[_, _], rfl, lenS (n := 2) rfl (by decide), (ret0 ?_)⟩)⟩)⟩)⟩)))))))))⟩)⟩))))⟩))⟩)⟩)⟩))))))⟩)⟩))))⟩))))))))))))
  have e : y + s - (y + s) / b * b = (y + s) % b := by rw [Int.emod_def, Int.mul_comm]
  rw [e]
  exact q
theorem ok__law_led {P : Program} {w : World} {K : PySem.W.Frag} {mg : Str → Option Value} {base : Heap} (T : Top1 K mg "_law_led" s__law_led ["floor", "cell", "vector"]) (m_int : mg "int" = none) : Cal P w K mg base CX0 "_law_led" 1 (lift K sp__law_led) :=
  cal_of T sc__law_led (by rintro es μ Q ⟨_, _, _, _, _, _, _, rfl, _⟩; rfl) fun f cdv A outer s H E B es μ μh Q h => body__law_led (X0 := cxOf CX0 P w K mg base N__law_led "_law_led" (defScope s__law_led) f cdv A outer s H E) (env0 := PyProof.Rows.envOfC "_law_led" (defScope s__law_led) s.heap.objs.size f cdv) m_int B es μ μh Q h
theorem eqv2 {a b c d : Int} : PyData.eqv (.tuple [.int a, .int b]) (.tuple [.int c, .int d]) = (decide (a = c) && decide (b = d)) := by
  simp [PyData.eqv, PyData.eqvAll]
  rfl
theorem eqv2l {a b c d : Int} : PyData.eqv (.list [.int a, .int b]) (.list [.int c, .int d]) = (decide (a = c) && decide (b = d)) := by
  simp [PyData.eqv, PyData.eqvAll]
  rfl
theorem clo_led {a b c p s : Int} : PyData.eqv (.tuple [.int ((0 + p + (0 + s) / b * c) % a), .int ((0 + s) % b)]) (.tuple [.int 0, .int 0]) = true ↔ Clo a b c p s := by
  rw [eqv2]
  unfold Clo
  simp only [Int.zero_add, Bool.and_eq_true, decide_eq_true_eq]
  exact And.comm
/-! ### _law_closes -/
abbrev s__law_closes : Stmt := topS 59
abbrev N__law_closes : List Str := ["floor", "vector"]
theorem sc__law_closes : FnScope N__law_closes ["floor", "vector"] (defScope s__law_closes) := ⟨rfl, rfl, rfl, by decide +kernel, rfl, by decide +kernel, by decide +kernel⟩
theorem nm__law_closes : nmC N__law_closes (defScope s__law_closes) [0, 1] = true := by decide +kernel
theorem lc__law_closes : lcC N__law_closes (defScope s__law_closes) [0, 1] = true := by decide +kernel
theorem gb__law_closes__law_led : gbC (defScope s__law_closes) "_law_led" = true := by decide +kernel
def sp__law_closes : SpF := fun es μ P => ∃ (a b c p s : Int), es = [.d (fl a b c), .d (pr p s)] ∧ μ = [] ∧ FB a b c ∧ (Bd p ∧ Bd s) ∧ ∀ (r : Bool), (r = true ↔ Clo a b c p s) → P (.d (.bool r)) []
theorem body__law_closes {X0 : Cx} {env0 : PySem.Env} (c__law_led : CalX X0 "_law_led" 1 sp__law_led) (B : Bx (mkX X0 env0 N__law_closes (defScope s__law_closes)) 1) :
    ∀ (es : List Ent) (μ μh : Mu) (Q : Ent → Mu → Prop), sp__law_closes es μ Q → DSs (mkX X0 env0 N__law_closes (defScope s__law_closes)) (defBody s__law_closes) (slots0 N__law_closes es) (μ ++ μh) (Zof μ.length μh Q) := by
  rintro es μ μh Q ⟨a, b, c, p, s, rfl, rfl, p0, p1, q⟩
  have Mn : Nm (mkX X0 env0 N__law_closes (defScope s__law_closes)) [0, 1] := nm_of nm__law_closes
  have Ln : Lc (mkX X0 env0 N__law_closes (defScope s__law_closes)) [0, 1] := lc_of lc__law_closes
  have g__law_led : Gb (mkX X0 env0 N__law_closes (defScope s__law_closes)) "_law_led" := gb_of gb__law_closes__law_led
  refine dss_cons (ds_ret (de_cmp (op_eqD B.hr.units) (nomark _) (de_call B c__law_led (by decide) g__law_led (da_cons (de_var (i := 0) Mn rfl (by decide) rfl (da_cons (de_tup (da_cons (de_int (da_cons (de_int (da_nil ⟨[_, _], rfl, lenS (n := 2) rfl (by decide), (da_cons (de_var (i := 1) Mn rfl (by decide) rfl (da_nil ⟨rfl, _, _, _, _, _, _, _, rfl, rfl, (by first | assumption | omega | (simp; done) | exact .inl ⟨_, rfl⟩ | exact .inl ⟨_, _, _, rfl⟩ | exact .inr rfl), (by first | assumption | omega | (simp; done) | exact .inl ⟨_, rfl⟩ | exact .inl ⟨_, _, _, rfl⟩ | exact .inr rfl), ⟨rfl, (de_tup (da_cons (de_int (da_cons (de_int (da_nil ⟨[_, _], rfl, lenS (n := 2) rfl (by decide), (rv_eqD ⟨_, _, rfl, rfl, rfl, rfl, (ret0 ?_)⟩)⟩))))))⟩⟩)))⟩))))))))))))
  exact q _ clo_led
theorem ok__law_closes {P : Program} {w : World} {K : PySem.W.Frag} {mg : Str → Option Value} {base : Heap} (T : Top1 K mg "_law_closes" s__law_closes ["floor", "vector"]) (c__law_led : Cal P w K mg base CX0 "_law_led" 1 (lift K sp__law_led)) : Cal P w K mg base CX0 "_law_closes" 2 (lift K sp__law_closes) :=
  cal_of T sc__law_closes (by rintro es μ Q ⟨_, _, _, _, _, rfl, _⟩; rfl) fun f cdv A outer s H E B es μ μh Q h => body__law_closes (X0 := cxOf CX0 P w K mg base N__law_closes "_law_closes" (defScope s__law_closes) f cdv A outer s H E) (env0 := PyProof.Rows.envOfC "_law_closes" (defScope s__law_closes) s.heap.objs.size f cdv) c__law_led B es μ μh Q h
/-! ### _law_multiple -/
abbrev s__law_multiple : Stmt := topS 60
abbrev N__law_multiple : List Str := ["one", "other"]
theorem sc__law_multiple : FnScope N__law_multiple ["one", "other"] (defScope s__law_multiple) := ⟨rfl, rfl, rfl, by decide +kernel, rfl, by decide +kernel, by decide +kernel⟩
theorem nm__law_multiple : nmC N__law_multiple (defScope s__law_multiple) [0, 1] = true := by decide +kernel
theorem lc__law_multiple : lcC N__law_multiple (defScope s__law_multiple) [0, 1] = true := by decide +kernel
theorem gb__law_multiple__law_common : gbC (defScope s__law_multiple) "_law_common" = true := by decide +kernel
def sp__law_multiple : SpF := fun es μ P => ∃ (a b : Int), es = [.d (.int a), .d (.int b)] ∧ μ = [] ∧ 0 < a ∧ a ≤ 10 ^ 60 ∧ 0 < b ∧ b ≤ 10 ^ 60 ∧ P (.d (.int (a / (Int.gcd a b) * b))) []
theorem body__law_multiple {X0 : Cx} {env0 : PySem.Env} (c__law_common : CalX X0 "_law_common" 1 sp__law_common) (B : Bx (mkX X0 env0 N__law_multiple (defScope s__law_multiple)) 1) :
    ∀ (es : List Ent) (μ μh : Mu) (Q : Ent → Mu → Prop), sp__law_multiple es μ Q → DSs (mkX X0 env0 N__law_multiple (defScope s__law_multiple)) (defBody s__law_multiple) (slots0 N__law_multiple es) (μ ++ μh) (Zof μ.length μh Q) := by
  rintro es μ μh Q ⟨a, b, rfl, rfl, p0, p1, p2, p3, q⟩
  have Mn : Nm (mkX X0 env0 N__law_multiple (defScope s__law_multiple)) [0, 1] := nm_of nm__law_multiple
  have Ln : Lc (mkX X0 env0 N__law_multiple (defScope s__law_multiple)) [0, 1] := lc_of lc__law_multiple
  have g__law_common : Gb (mkX X0 env0 N__law_multiple (defScope s__law_multiple)) "_law_common" := gb_of gb__law_multiple__law_common
  have gb0 := gcd_pos' (t := a) (m := b) (by omega)
  have gb1 := gcd_le' (t := a) (m := b) (by omega)
  have qb : (a / (Int.gcd a b : Int)).natAbs ≤ 10 ^ 60 := ediv_abs gb0 (by omega)
  refine dss_cons (ds_ret (de_bin op_mulW (de_bin op_fdivW (de_var (i := 0) Mn rfl (by decide) rfl (de_call B c__law_common (by decide) g__law_common (da_cons (de_var (i := 0) Mn rfl (by decide) rfl (da_cons (de_var (i := 1) Mn rfl (by decide) rfl (da_nil ⟨rfl, _, _, rfl, rfl, ⟨rfl, (rv_ic ⟨_, _, rfl, rfl, (cdivB (by first | omega | (simp only [List.mem_cons, List.not_mem_nil, or_false] at *; omega) | (simp only [List.mem_cons, List.not_mem_nil, or_false] at *; split <;> omega)) (by first | omega | (simp only [List.mem_cons, List.not_mem_nil, or_false] at *; omega) | (simp only [List.mem_cons, List.not_mem_nil, or_false] at *; split <;> omega))), (de_var (i := 1) Mn rfl (by decide) rfl (rv_ic ⟨_, _, rfl, rfl, (cmulB (by first | omega | (simp only [List.mem_cons, List.not_mem_nil, or_false] at *; omega) | (simp only [List.mem_cons, List.not_mem_nil, or_false] at *; split <;> omega)) (by first | omega | (simp only [List.mem_cons, List.not_mem_nil, or_false] at *; omega) | (simp only [List.mem_cons, List.not_mem_nil, or_false] at *; split <;> omega))), (ret0 ?_)⟩))⟩)⟩⟩))))))))))
  exact q
theorem ok__law_multiple {P : Program} {w : World} {K : PySem.W.Frag} {mg : Str → Option Value} {base : Heap} (T : Top1 K mg "_law_multiple" s__law_multiple ["one", "other"]) (c__law_common : Cal P w K mg base CX0 "_law_common" 1 (lift K sp__law_common)) : Cal P w K mg base CX0 "_law_multiple" 2 (lift K sp__law_multiple) :=
  cal_of T sc__law_multiple (by rintro es μ Q ⟨_, _, rfl, _⟩; rfl) fun f cdv A outer s H E B es μ μh Q h => body__law_multiple (X0 := cxOf CX0 P w K mg base N__law_multiple "_law_multiple" (defScope s__law_multiple) f cdv A outer s H E) (env0 := PyProof.Rows.envOfC "_law_multiple" (defScope s__law_multiple) s.heap.objs.size f cdv) c__law_common B es μ μh Q h
/-! ### _law_size -/
abbrev s__law_size : Stmt := topS 62
abbrev N__law_size : List Str := ["hand", "top", "by"]
theorem sc__law_size : FnScope N__law_size ["hand", "top"] (defScope s__law_size) := ⟨rfl, rfl, rfl, by decide +kernel, rfl, by decide +kernel, by decide +kernel⟩
theorem nm__law_size : nmC N__law_size (defScope s__law_size) [0, 1, 2] = true := by decide +kernel
theorem lc__law_size : lcC N__law_size (defScope s__law_size) [0, 1, 2] = true := by decide +kernel
theorem gb__law_size__law_some : gbC (defScope s__law_size) "_law_some" = true := by decide +kernel
theorem gb__law_size_max : gbC (defScope s__law_size) "max" = true := by decide +kernel
theorem gb__law_size_min : gbC (defScope s__law_size) "min" = true := by decide +kernel
theorem gb__law_size__law_figures : gbC (defScope s__law_size) "_law_figures" = true := by decide +kernel
def sp__law_size : SpF := fun es μ P => ∃ (m : MO) (nb : Nat) (n : Int), es = [.c 0, .d (.int n)] ∧ μ = [m] ∧ IsHand nb m ∧ nb + 8 ≤ 10 ^ 9 ∧ 2 ≤ n ∧ n ≤ 10 ^ 15 ∧ ∀ (m' : MO) (r : Int), IsHand (nb + 8) m' → 2 ≤ r → r ≤ n → P (.d (.int r)) [m']
theorem body__law_size {X0 : Cx} {env0 : PySem.Env} (c__law_some : CalX X0 "_law_some" 2 sp__law_some) (m_max : X0.mg "max" = none) (m_min : X0.mg "min" = none) (c__law_figures : CalX X0 "_law_figures" 3 sp__law_figures) (B : Bx (mkX X0 env0 N__law_size (defScope s__law_size)) 3) :
    ∀ (es : List Ent) (μ μh : Mu) (Q : Ent → Mu → Prop), sp__law_size es μ Q → DSs (mkX X0 env0 N__law_size (defScope s__law_size)) (defBody s__law_size) (slots0 N__law_size es) (μ ++ μh) (Zof μ.length μh Q) := by
  rintro es μ μh Q ⟨m, nb, n, rfl, rfl, hm, hnb, p0, p1, q⟩
  have Mn : Nm (mkX X0 env0 N__law_size (defScope s__law_size)) [0, 1, 2] := nm_of nm__law_size
  have Ln : Lc (mkX X0 env0 N__law_size (defScope s__law_size)) [0, 1, 2] := lc_of lc__law_size
  have g__law_some : Gb (mkX X0 env0 N__law_size (defScope s__law_size)) "_law_some" := gb_of gb__law_size__law_some
  have g_max : Gb (mkX X0 env0 N__law_size (defScope s__law_size)) "max" := gb_of gb__law_size_max
  have g_min : Gb (mkX X0 env0 N__law_size (defScope s__law_size)) "min" := gb_of gb__law_size_min
  have g__law_figures : Gb (mkX X0 env0 N__law_size (defScope s__law_size)) "_law_figures" := gb_of gb__law_size__law_figures
  -- by = _law_some(hand, [1, 2, 6, 60, 2520, 10 ** 6])
  refine dss_cons (ds_set (i := 2) Ln rfl (by decide) (de_callH B c__law_some (by decide) g__law_some (da_cons (de_var (i := 0) Mn rfl (by decide) rfl (da_cons (de_lst (da_cons (de_int (da_cons (de_int (da_cons (de_int (da_cons (de_int (da_cons (de_int (da_cons (de_bin op_pow (de_int (de_int (rv_ic2 (10 ^ 6) ⟨_, _, rfl, rfl, ⟨by decide, by decide, by decide⟩, rfl, (da_nil ⟨[_, _, _, _, _, _], rfl, lenS (n := 6) rfl (by decide), (da_nil ⟨_, _, _, rfl, rfl, rfl, _, _, [_, _, _, _, _, _], rfl, rfl, (by assumption), (by omega), (by first | assumption | omega | (simp; done) | exact .inl ⟨_, rfl⟩ | exact .inl ⟨_, _, _, rfl⟩ | exact .inr rfl), (by first | assumption | omega | (simp; done) | exact .inl ⟨_, rfl⟩ | exact .inl ⟨_, _, _, rfl⟩ | exact .inr rfl), fun m1 r1 hm1 h10 => ⟨_, rfl, rfl, ?_⟩⟩)⟩)⟩)))))))))))))))))))))
  have hd : 1 ≤ r1 ∧ r1 ≤ 10 ^ 6 := by
    simp only [List.mem_cons, List.not_mem_nil, or_false] at h10
    omega
  have nb0 : (n / r1).natAbs ≤ 10 ^ 15 := ediv_abs (by omega) (by omega)
  have nb1 : 0 ≤ n / r1 := Int.ediv_nonneg (by omega) (by omega)
  have md : 1 ≤ (if n / r1 > 1 then n / r1 else 1) ∧ (if n / r1 > 1 then n / r1 else 1) ≤ 10 ^ 15 := by split <;> omega
  refine dss_cons (ds_ret (de_callB (call_max2 rfl) g_max m_max (by decide +kernel) (da_cons (de_int (da_cons (de_callB (call_min2 rfl) g_min m_min (by decide +kernel) (da_cons (de_var (i := 1) Mn rfl (by decide) rfl (da_cons (de_bin op_mulW (de_var (i := 2) Mn rfl (by decide) rfl (de_callH B c__law_figures (by decide) g__law_figures (da_cons (de_var (i := 0) Mn rfl (by decide) rfl (da_cons (de_callB (call_max2 rfl) g_max m_max (by decide +kernel) (da_cons (de_int (da_cons (de_bin op_fdivW (de_var (i := 1) Mn rfl (by decide) rfl (de_var (i := 2) Mn rfl (by decide) rfl (rv_ic ⟨_, _, rfl, rfl, (cdivB (by first | omega | (simp only [List.mem_cons, List.not_mem_nil, or_false] at *; omega) | (simp only [List.mem_cons, List.not_mem_nil, or_false] at *; split <;> omega)) (by first | omega | (simp only [List.mem_cons, List.not_mem_nil, or_false] at *; omega) | (simp only [List.mem_cons, List.not_mem_nil, or_false] at *; split <;> omega))), (da_nil (rc_max2 ⟨_, _, rfl, (da_nil ⟨_, _, _, rfl, rfl, rfl, _, _, _, rfl, rfl, (by assumption), (by omega), (by first | assumption | omega | (simp; done) | exact .inl ⟨_, rfl⟩ | exact .inl ⟨_, _, _, rfl⟩ | exact .inr rfl), (by first | assumption | omega | (simp; done) | exact .inl ⟨_, rfl⟩ | exact .inl ⟨_, _, _, rfl⟩ | exact .inr rfl), fun m2 r2 hm2 h20 h21 => ⟨_, rfl, rfl, (rv_ic ⟨_, _, rfl, rfl, (cmulB (by first | omega | (simp only [List.mem_cons, List.not_mem_nil, or_false] at *; omega) | (simp only [List.mem_cons, List.not_mem_nil, or_false] at *; split <;> omega)) (by first | omega | (simp only [List.mem_cons, List.not_mem_nil, or_false] at *; omega) | (simp only [List.mem_cons, List.not_mem_nil, or_false] at *; split <;> omega))), (da_nil (rc_min2 ⟨_, _, rfl, (da_nil (rc_max2 ⟨_, _, rfl, (ret1 ?_)⟩))⟩))⟩)⟩⟩)⟩))⟩)))))))))))))))))))))))
  exact q _ _ (hm2.mono (by omega)) (by split <;> omega) (by split <;> split <;> omega)
theorem ok__law_size {P : Program} {w : World} {K : PySem.W.Frag} {mg : Str → Option Value} {base : Heap} (T : Top1 K mg "_law_size" s__law_size ["hand", "top"]) (c__law_some : Cal P w K mg base CX0 "_law_some" 2 (lift K sp__law_some)) (m_max : mg "max" = none) (m_min : mg "min" = none) (c__law_figures : Cal P w K mg base CX0 "_law_figures" 3 (lift K sp__law_figures)) : Cal P w K mg base CX0 "_law_size" 4 (lift K sp__law_size) :=
  cal_of T sc__law_size (by rintro es μ Q ⟨_, _, _, rfl, _⟩; rfl) fun f cdv A outer s H E B es μ μh Q h => body__law_size (X0 := cxOf CX0 P w K mg base N__law_size "_law_size" (defScope s__law_size) f cdv A outer s H E) (env0 := PyProof.Rows.envOfC "_law_size" (defScope s__law_size) s.heap.objs.size f cdv) c__law_some m_max m_min c__law_figures B es μ μh Q h
def absF : D → D
  | .int x => .int (if x < 0 then -x else x)
  | _ => .none
theorem cells_int {xs : List Int} {n : Nat} {d : D} (h : d ∈ (xs.map PyData.int).take n) : ∃ x, d = .int x := by
  obtain ⟨x, _, rfl⟩ := List.mem_map.mp (List.mem_of_mem_take h)
  exact ⟨x, rfl⟩
theorem cells_map {xs : List Int} {n : Nat} : ((xs.map PyData.int).take n).map absF = ((xs.take n).map fun x => if x < 0 then -x else x).map PyData.int := by
  rw [← List.map_take, List.map_map, List.map_map]
  rfl
/-! ### _law_hand -/
abbrev s__law_hand : Stmt := topS 51
abbrev N__law_hand : List Str := ["script", "cells", "cell"]
theorem sc__law_hand : FnScope N__law_hand ["script"] (defScope s__law_hand) := ⟨rfl, rfl, rfl, by decide +kernel, rfl, by decide +kernel, by decide +kernel⟩
theorem nm__law_hand : nmC N__law_hand (defScope s__law_hand) [0, 1] = true := by decide +kernel
theorem lc__law_hand : lcC N__law_hand (defScope s__law_hand) [0, 1] = true := by decide +kernel
theorem gb__law_hand_len : gbC (defScope s__law_hand) "len" = true := by decide +kernel
def sp__law_hand : SpH := fun ds P => ∃ xs : List Int, ds = [.list (xs.map .int)] ∧ ∀ l, IsHand 0 (.lst l) → P l
theorem body__law_hand {X0 : Cx} {env0 : PySem.Env} (m_abs : X0.mg "abs" = none) (m_int : X0.mg "int" = none) (m_len : X0.mg "len" = none) (B : Bx (mkX X0 env0 N__law_hand (defScope s__law_hand)) 0) :
    ∀ (ds : List D) (μh : Mu) (Q : List D → Prop), sp__law_hand ds Q → DSr (mkX X0 env0 N__law_hand (defScope s__law_hand)) (defBody s__law_hand) (slots0 N__law_hand (ds.map .d)) μh (fun l μ' => (∃ loc, μ' = ([] ++ μh) ++ loc) ∧ Q l) := by
  rintro ds μh Q ⟨xs, rfl, q⟩
  have Mn : Nm (mkX X0 env0 N__law_hand (defScope s__law_hand)) [0, 1] := nm_of nm__law_hand
  have Ln : Lc (mkX X0 env0 N__law_hand (defScope s__law_hand)) [0, 1] := lc_of lc__law_hand
  have g_len : Gb (mkX X0 env0 N__law_hand (defScope s__law_hand)) "len" := gb_of gb__law_hand_len
  -- cells = [abs(int(cell)) for cell in script[:63]]
  refine dsr_cons (ds_setLcMap (i := 1) (own := [("cell", 2)]) (g := (gName 2)) (absF) Ln rfl rfl rfl (blkOk_by (by show blkC N__law_hand (defScope s__law_hand) _ _ = true; decide +kernel)) (fun _ _ _ _ _ => pg_name (i := 2) Ln.nd rfl (Or.inl rfl)) (di_list (de_sliceTo (de_var (i := 0) Mn rfl (by decide) rfl (de_int ⟨_, _, rfl, rfl, (by decide), ⟨_, rfl, ⟨(Nat.lt_of_le_of_lt (List.length_take_le _ _) (by decide)), ?_, ?_⟩⟩⟩)) cutV_to)) rfl)
  · intro d hd acc
    obtain ⟨x, rfl⟩ := cells_int hd
    refine (dgc_name (by decide) (fun _ _ _ _ _ => (de_callB call_abs (gb_blk (x := "abs") rfl) m_abs (by decide +kernel) (da_cons (de_callT call_int1 (gb_blk (x := "int") rfl) m_int (by decide +kernel) (da_cons (de_var (i := 2) (nm_blk (vi := [2]) rfl) rfl (by decide) rfl (da_nil (rc_int ⟨_, rfl, (da_nil (rc_abs ⟨_, rfl, ⟨rfl, rfl⟩⟩))⟩)))))))))
  have hl : (((xs.map PyData.int).take (63 : Int).toNat).map absF).length ≤ 63 := by
    rw [List.length_map]
    exact List.length_take_le _ _
  refine id (id (dsr_ret (da_cons (de_var (i := 1) Mn rfl (by decide) rfl (da_cons (de_int (da_cons (de_int (da_cons (de_bin op_add (de_int (de_bin op_mulW (de_int (de_callB call_len_seq g_len m_len (by decide +kernel) (da_cons (de_var (i := 1) Mn rfl (by decide) rfl (da_nil (rc_lenL ⟨_, rfl, (rv_ic ⟨_, _, rfl, rfl, (cmulB (by first | omega | (simp only [List.mem_cons, List.not_mem_nil, or_false] at *; omega) | (simp only [List.mem_cons, List.not_mem_nil, or_false] at *; split <;> omega)) (by first | omega | (simp only [List.mem_cons, List.not_mem_nil, or_false] at *; omega) | (simp only [List.mem_cons, List.not_mem_nil, or_false] at *; split <;> omega))), (rv_i0 ⟨_, _, rfl, rfl, (da_cons (de_int (da_nil ⟨[_, _, _, _, _], rfl, lenS (n := 5) rfl (by decide), ?_⟩)))⟩)⟩)⟩))))))))))))))))))
  have hl2 := hl
  rw [cells_map] at hl2
  refine ⟨⟨[], by simp⟩, q _ ⟨(xs.take (63 : Int).toNat).map fun x => if x < 0 then -x else x, _, _, _, _, by rw [cells_map], ?_, by omega, by omega, by omega, by omega, by omega, by omega⟩⟩
  intro c hc
  obtain ⟨x, _, rfl⟩ := List.mem_map.mp hc
  split <;> omega
theorem ok__law_hand {P : Program} {w : World} {K : PySem.W.Frag} {mg : Str → Option Value} {base : Heap} (T : Top1 K mg "_law_hand" s__law_hand ["script"]) (m_abs : mg "abs" = none) (m_int : mg "int" = none) (m_len : mg "len" = none) : Cal P w K mg base CX0 "_law_hand" 1 (liftF K sp__law_hand) :=
  cal_ofF T sc__law_hand (by rintro ds Q ⟨_, rfl, _⟩; rfl) fun f cdv A outer s H E B ds μh Q h => body__law_hand (X0 := cxOf CX0 P w K mg base N__law_hand "_law_hand" (defScope s__law_hand) f cdv A outer s H E) (env0 := PyProof.Rows.envOfC "_law_hand" (defScope s__law_hand) s.heap.objs.size f cdv) m_abs m_int m_len B ds μh Q h
def Said (a b c a' b' c' : Int) (d : D) : Prop := ∃ l h t, AboveF a b c a' b' c' l h t ∧ (IsF l h t → d = fl l h t) ∧ (¬ IsF l h t → d = .str "great")
/-! ### _law_said -/
abbrev s__law_said : Stmt := topS 61
abbrev N__law_said : List Str := ["one", "other"]
theorem sc__law_said : FnScope N__law_said ["one", "other"] (defScope s__law_said) := ⟨rfl, rfl, rfl, by decide +kernel, rfl, by decide +kernel, by decide +kernel⟩
theorem nm__law_said : nmC N__law_said (defScope s__law_said) [0, 1] = true := by decide +kernel
theorem lc__law_said : lcC N__law_said (defScope s__law_said) [0, 1] = true := by decide +kernel
theorem gb__law_said_TooGreat : gbC (defScope s__law_said) "TooGreat" = true := by decide +kernel
theorem gb__law_said_floor_above : gbC (defScope s__law_said) "floor_above" = true := by decide +kernel
def sp__law_said : SpF := fun es μ P => ∃ (a b c a' b' c' : Int), es = [.d (fl a b c), .d (fl a' b' c')] ∧ μ = [] ∧ IsF a b c ∧ IsF a' b' c' ∧ ∀ (d : D), Said a b c a' b' c' d → P (.d d) []
theorem body__law_said {X0 : Cx} {env0 : PySem.Env} {cls : Value} (c_floor_above : CalXX X0 cls "floor_above" 6 sp_floor_above) (gT : X0.mg "TooGreat" = some cls) (eT : PySem.W.exmOne X0.K cls cls = some true) (hstk : (mkX X0 env0 N__law_said (defScope s__law_said)).stack = (mkX X0 env0 N__law_said (defScope s__law_said)).env :: (mkX X0 env0 N__law_said (defScope s__law_said)).outer) (hfr : (mkX X0 env0 N__law_said (defScope s__law_said)).env.frame = some (mkX X0 env0 N__law_said (defScope s__law_said)).env.locals) (B : Bx (mkX X0 env0 N__law_said (defScope s__law_said)) 6) :
    ∀ (es : List Ent) (μ μh : Mu) (Q : Ent → Mu → Prop), sp__law_said es μ Q → DSs (mkX X0 env0 N__law_said (defScope s__law_said)) (defBody s__law_said) (slots0 N__law_said es) (μ ++ μh) (Zof μ.length μh Q) := by
  rintro es μ μh Q ⟨a, b, c, a', b', c', rfl, rfl, p0, p1, q⟩
  have Mn : Nm (mkX X0 env0 N__law_said (defScope s__law_said)) [0, 1] := nm_of nm__law_said
  have Ln : Lc (mkX X0 env0 N__law_said (defScope s__law_said)) [0, 1] := lc_of lc__law_said
  have g_floor_above : Gb (mkX X0 env0 N__law_said (defScope s__law_said)) "floor_above" := gb_of gb__law_said_floor_above
  have gx : Gb (mkX X0 env0 N__law_said (defScope s__law_said)) "TooGreat" := gb_of gb__law_said_TooGreat
  have g_floor_above : Gb (mkX X0 env0 N__law_said (defScope s__law_said)) "floor_above" := gb_of gb__law_said_floor_above
  refine dss_one (ds_tryRet hstk hfr ⟨gx.gl, by decide, Or.inl gT⟩ eT B c_floor_above (by decide) g_floor_above fun pn xe => (da_cons (de_var (i := 0) Mn.tr rfl (by decide) rfl (da_cons (de_var (i := 1) Mn.tr rfl (by decide) rfl (da_nil ⟨rfl, a, b, c, a', b', c', rfl, p0, p1, fun l h t ab => ⟨fun hF => ⟨rfl, ?_⟩, fun hF x oe pn => ?_⟩⟩))))))
  · exact ret0 (P := Q) (q _ ⟨l, h, t, ab, fun _ => rfl, fun n => absurd hF n⟩)
  · exact dss_one (ds_ret (de_str (ret0 (P := Q) (q _ ⟨l, h, t, ab, fun n => absurd n hF, fun _ => rfl⟩))))
theorem ok__law_said {P : Program} {w : World} {K : PySem.W.Frag} {mg : Str → Option Value} {base : Heap} (T : Top1 K mg "_law_said" s__law_said ["one", "other"]) {C : Addr} (gT : mg "TooGreat" = some (.ref C)) (eT : PySem.W.exmOne K (.ref C) (.ref C) = some true) (c_floor_above : Cal P w K mg base (L2.CX P w) "floor_above" 6 (liftX K (.ref C) sp_floor_above)) : Cal P w K mg base CX0 "_law_said" 7 (lift K sp__law_said) :=
  cal_of T sc__law_said (by rintro es μ Q ⟨_, _, _, _, _, _, rfl, _⟩; rfl) fun f cdv A outer s H E B es μ μh Q h => body__law_said (X0 := cxOf CX0 P w K mg base N__law_said "_law_said" (defScope s__law_said) f cdv A outer s H E) (env0 := PyProof.Rows.envOfC "_law_said" (defScope s__law_said) s.heap.objs.size f cdv) c_floor_above gT eT rfl rfl B es μ μh Q h
end K07

/-! K07L: what floors above and below are, of dials and of rings of one row. -/
namespace K07
open PySem PySem.Spec L2 Pw
theorem clo_left {l h t : Int} (hl : 0 < l) : Clo l h t l 0 := ⟨Int.zero_emod _, by simp⟩
theorem clo_right {l h t : Int} (hh : 0 < h) : Clo l h t (-t) h := ⟨Int.emod_self, by rw [Int.ediv_self (by omega)]; simp; rw [Int.add_left_neg]; simp⟩
theorem clo_zero {l h t x : Int} (h1 : Clo l h t x 0) : l ∣ x := by
  have := h1.2
  rw [Int.zero_ediv, Int.zero_mul, Int.add_zero] at this
  exact Int.dvd_of_emod_eq_zero this
theorem clo_zero' {l h t x : Int} (h1 : l ∣ x) : Clo l h t x 0 := ⟨Int.zero_emod _, by
  rw [Int.zero_ediv, Int.zero_mul, Int.add_zero]
  exact Int.emod_eq_zero_of_dvd h1⟩
theorem dvd_anti {a b : Int} (ha : 0 < a) (hb : 0 < b) (h1 : a ∣ b) (h2 : b ∣ a) : a = b := by
  have := Int.le_of_dvd hb h1
  have := Int.le_of_dvd ha h2
  omega
theorem clo_uniq {l h t l' h' t' : Int} (hl : 0 < l) (hh : 0 < h) (t0 : 0 ≤ t) (t1 : t < l) (hl' : 0 < l') (hh' : 0 < h') (t0' : 0 ≤ t') (t1' : t' < l') (e : ∀ x y, Clo l h t x y ↔ Clo l' h' t' x y) : l = l' ∧ h = h' ∧ t = t' := by
  have e1 : l = l' := dvd_anti hl hl' (clo_zero ((e l' 0).mpr (clo_left hl'))) (clo_zero ((e l 0).mp (clo_left hl)))
  have e2 : h = h' := dvd_anti hh hh' (Int.dvd_of_emod_eq_zero ((e (-t') h').mpr (clo_right hh')).1) (Int.dvd_of_emod_eq_zero ((e (-t) h).mp (clo_right hh)).1)
  refine ⟨e1, e2, ?_⟩
  subst e1 e2
  have h3 := ((e (-t) h).mp (clo_right hh)).2
  rw [Int.ediv_self (by omega), Int.one_mul] at h3
  obtain ⟨k, hk⟩ := Int.dvd_of_emod_eq_zero h3
  have hk0 : k = 0 := by
    rcases Int.lt_trichotomy k 0 with z | z | z
    · have : l * k ≤ l * (-1) := Int.mul_le_mul_of_nonneg_left (by omega) (by omega)
      omega
    · exact z
    · have : l * 1 ≤ l * k := Int.mul_le_mul_of_nonneg_left (by omega) (by omega)
      omega
  subst hk0
  omega
theorem clo_dial {a b x y : Int} (ha : 0 < a) (hb : 0 < b) : Clo a b 0 x y ↔ b ∣ y ∧ a ∣ x := by
  unfold Clo
  rw [Int.mul_zero, Int.add_zero]
  exact ⟨fun h => ⟨Int.dvd_of_emod_eq_zero h.1, Int.dvd_of_emod_eq_zero h.2⟩, fun h => ⟨Int.emod_eq_zero_of_dvd h.1, Int.emod_eq_zero_of_dvd h.2⟩⟩
theorem lcmF_iff {a b R x : Int} (h : LcmF a b R) : R ∣ x ↔ a ∣ x ∧ b ∣ x := ⟨fun z => ⟨Int.dvd_trans h.d1 z, Int.dvd_trans h.d2 z⟩, fun z => h.un x z.1 z.2⟩
theorem above_dial {a b a' b' l h t L H : Int} (ha : 0 < a) (hb : 0 < b) (ha' : 0 < a') (hb' : 0 < b') (hL : LcmF a a' L) (hH : LcmF b b' H) (ab : AboveF a b 0 a' b' 0 l h t) : l = L ∧ h = H ∧ t = 0 := by
  obtain ⟨l0, h0, t0, t1, e⟩ := ab
  refine clo_uniq l0 h0 t0 t1 hL.pos hH.pos (by omega) hL.pos fun x y => (e x y).trans ?_
  rw [clo_dial ha hb, clo_dial ha' hb', clo_dial hL.pos hH.pos, lcmF_iff hL, lcmF_iff hH]
  exact ⟨fun ⟨⟨p, q⟩, r, s⟩ => ⟨⟨p, r⟩, q, s⟩, fun ⟨⟨p, r⟩, q, s⟩ => ⟨⟨p, q⟩, r, s⟩⟩
theorem gcd_split {a b x : Int} (h : (Int.gcd a b : Int) ∣ x) : ∃ x1, a ∣ x1 ∧ b ∣ x - x1 := by
  obtain ⟨k, rfl⟩ := h
  obtain ⟨i, j, e⟩ := bez a b
  refine ⟨a * (i * k), Int.dvd_mul_right _ _, j * k, ?_⟩
  rw [← e]
  generalize (Int.gcd a b : Int) = g at *
  grind
theorem below_dial {a b a' b' : Int} {d : D} (ha : IsF a b 0) (ha' : IsF a' b' 0) (bl : Below a b 0 a' b' 0 d) : d = (if (Int.gcd a a' : Int) > 1 ∧ (Int.gcd b b' : Int) > 1 then fl (Int.gcd a a') (Int.gcd b b') 0 else .none) := by
  obtain ⟨l, h, t, l0, h0, t0, t1, e, y, n⟩ := bl
  have g1 := gcd_pos' (t := a) (m := a') (by omega)
  have g2 := gcd_pos' (t := b) (m := b') (by omega)
  have l1 := gcd_le' (t := a) (m := a') (by omega)
  have l2 := gcd_le' (t := b) (m := b') (by omega)
  obtain ⟨rfl, rfl, rfl⟩ : l = (Int.gcd a a' : Int) ∧ h = (Int.gcd b b' : Int) ∧ t = 0 := by
    refine clo_uniq l0 h0 t0 t1 g1 g2 (by omega) g1 fun x y => (e x y).trans ?_
    rw [clo_dial g1 g2]
    constructor
    · rintro ⟨x1, y1, q1, q2⟩
      rw [clo_dial (by omega) (by omega)] at q1 q2
      constructor
      · have := Int.dvd_add (Int.dvd_trans (Int.gcd_dvd_left b b') q1.1) (Int.dvd_trans (Int.gcd_dvd_right b b') q2.1)
        rwa [show y1 + (y - y1) = y by omega] at this
      · have := Int.dvd_add (Int.dvd_trans (Int.gcd_dvd_left a a') q1.2) (Int.dvd_trans (Int.gcd_dvd_right a a') q2.2)
        rwa [show x1 + (x - x1) = x by omega] at this
    · rintro ⟨q1, q2⟩
      obtain ⟨y1, r1, r2⟩ := gcd_split q1
      obtain ⟨x1, r3, r4⟩ := gcd_split q2
      exact ⟨x1, y1, (clo_dial (by omega) (by omega)).mpr ⟨r1, r3⟩, (clo_dial (by omega) (by omega)).mpr ⟨r2, r4⟩⟩
  split
  · rename_i hh
    exact y (by omega)
  · rename_i hh
    exact n (by omega)
theorem said_dial {a b a' b' : Int} {d : D} (ha : IsF a b 0) (ha' : IsF a' b' 0) (s : Said a b 0 a' b' 0 d) : d = (if a / (Int.gcd a a' : Int) * a' ≤ 10 ^ 15 ∧ b / (Int.gcd b b' : Int) * b' ≤ 10 ^ 15 then fl (a / (Int.gcd a a' : Int) * a') (b / (Int.gcd b b' : Int) * b') 0 else .str "great") := by
  obtain ⟨l, h, t, ab, y, n⟩ := s
  have hL := lcmF (b := a) (b' := a') (by omega) (by omega)
  have hH := lcmF (b := b) (b' := b') (by omega) (by omega)
  obtain ⟨rfl, rfl, rfl⟩ := above_dial (by omega) (by omega) (by omega) (by omega) hL hH ab
  have p1 := hL.pos
  have p2 := hH.pos
  have d1 := Int.le_of_dvd p1 hL.d1
  have d2 := Int.le_of_dvd p2 hH.d1
  split
  · rename_i hh
    exact y (by omega)
  · rename_i hh
    exact n (by omega)
theorem over_dial {a b a' b' : Int} (ha : IsF a b 0) (ha' : IsF a' b' 0) : Over a b 0 a' b' 0 ↔ a' ∣ a ∧ b' ∣ b := by
  unfold Over
  rw [clo_dial (by omega) (by omega), clo_dial (by omega) (by omega)]
  simp
/-! ### of one row -/
theorem clo_row {n c x y : Int} : Clo n 1 c x y ↔ n ∣ x + y * c := by
  unfold Clo
  rw [Int.emod_one, Int.ediv_one]
  exact ⟨fun h => Int.dvd_of_emod_eq_zero h.2, fun h => ⟨rfl, Int.emod_eq_zero_of_dvd h⟩⟩
theorem below_row {n1 c1 n2 c2 : Int} {d : D} (f1 : IsF n1 1 c1) (f2 : IsF n2 1 c2) (hF : IsF (Int.gcd (Int.gcd n1 n2) (c1 - c2)) 1 (c1 % (Int.gcd (Int.gcd n1 n2) (c1 - c2)))) (bl : Below n1 1 c1 n2 1 c2 d) :
    d = fl (Int.gcd (Int.gcd n1 n2) (c1 - c2)) 1 (c1 % (Int.gcd (Int.gcd n1 n2) (c1 - c2))) := by
  obtain ⟨l, h, t, l0, h0, t0, t1, e, y, n⟩ := bl
  have d1 := Int.gcd_dvd_left (Int.gcd n1 n2 : Int) (c1 - c2)
  have d2 := Int.gcd_dvd_right (Int.gcd n1 n2 : Int) (c1 - c2)
  obtain ⟨i, j, hb⟩ := bez (Int.gcd n1 n2 : Int) (c1 - c2)
  obtain ⟨i', j', hb'⟩ := bez n1 n2
  have g1 := Int.gcd_dvd_left n1 n2
  have g2 := Int.gcd_dvd_right n1 n2
  generalize hg : (Int.gcd (Int.gcd n1 n2 : Int) (c1 - c2) : Int) = by' at *
  generalize (Int.gcd n1 n2 : Int) = g at *
  obtain ⟨rfl, rfl, rfl⟩ : l = by' ∧ h = 1 ∧ t = c1 % by' := by
    refine clo_uniq l0 h0 t0 t1 (by omega) (by omega) (by omega) (by omega) fun x y => (e x y).trans ?_
    rw [clo_row]
    have em := Int.emod_def c1 by'
    have key : by' ∣ x + y * (c1 % by') ↔ by' ∣ x + y * c1 := by
      rw [em]
      have : x + y * (c1 - by' * (c1 / by')) = x + y * c1 - by' * (y * (c1 / by')) := by grind
      rw [this]
      refine ⟨fun h => ?_, fun h => Int.dvd_sub h (Int.dvd_mul_right _ _)⟩
      have := Int.dvd_add h (Int.dvd_mul_right by' (y * (c1 / by')))
      rwa [Int.sub_add_cancel] at this
    rw [key]
    constructor
    · rintro ⟨x1, y1, q1, q2⟩
      rw [clo_row] at q1 q2
      have a1 := Int.dvd_trans (Int.dvd_trans d1 g1) q1
      have a2 := Int.dvd_trans (Int.dvd_trans d1 g2) q2
      have a3 : by' ∣ (y - y1) * (c1 - c2) := Int.dvd_trans d2 (Int.dvd_mul_left _ _)
      have a4 := Int.dvd_add (Int.dvd_add a1 a2) a3
      have : x1 + y1 * c1 + (x - x1 + (y - y1) * c2) + (y - y1) * (c1 - c2) = x + y * c1 := by grind
      rwa [this] at a4
    · rintro ⟨k, hk⟩
      refine ⟨k * i * i' * n1 - (y - k * j) * c1, y - k * j, clo_row.mpr ⟨k * i * i', ?_⟩, clo_row.mpr ⟨k * i * j', ?_⟩⟩
      · grind
      · have z1 : x = by' * k - y * c1 := by omega
        rw [z1, ← hb, ← hb']
        grind
  exact y hF
theorem above_over {a b c a' b' c' l h t : Int} (ab : AboveF a b c a' b' c' l h t) : Over l h t a b c ∧ Over l h t a' b' c' := by
  obtain ⟨l0, h0, _, _, e⟩ := ab
  have q1 := (e l 0).mp (clo_left l0)
  have q2 := (e (-t) h).mp (clo_right h0)
  exact ⟨⟨q1.1, q2.1⟩, q1.2, q2.2⟩
theorem gcd_mul_lcmF {a b : Int} (ha : 0 < a) (hb : 0 < b) : (Int.gcd a b : Int) * (a / (Int.gcd a b : Int) * b) = a * b := by
  rw [← Int.mul_assoc, Int.mul_ediv_cancel' (Int.gcd_dvd_left a b)]
theorem said_row {n1 c1 n2 c2 m c : Int} {d : D} (f1 : IsF n1 1 c1) (f2 : IsF n2 1 c2) (hm1 : m ∣ n1) (hc : m ∣ c1 - c) (hc0 : 2 ≤ c) (hc1 : c < m) (s : Said n1 1 c1 n2 1 c2 d) :
    (n1 / (Int.gcd n1 n2 : Int) * n2 ≤ 10 ^ 15 → ∃ t, d = fl (n1 / (Int.gcd n1 n2 : Int) * n2) (n1 * n2 / (Int.gcd (Int.gcd n1 n2) (c1 - c2) : Int) / (n1 / (Int.gcd n1 n2 : Int) * n2)) t ∧
      IsF (n1 / (Int.gcd n1 n2 : Int) * n2) (n1 * n2 / (Int.gcd (Int.gcd n1 n2) (c1 - c2) : Int) / (n1 / (Int.gcd n1 n2 : Int) * n2)) t ∧
      Over (n1 / (Int.gcd n1 n2 : Int) * n2) (n1 * n2 / (Int.gcd (Int.gcd n1 n2) (c1 - c2) : Int) / (n1 / (Int.gcd n1 n2 : Int) * n2)) t n1 1 c1 ∧
      Over (n1 / (Int.gcd n1 n2 : Int) * n2) (n1 * n2 / (Int.gcd (Int.gcd n1 n2) (c1 - c2) : Int) / (n1 / (Int.gcd n1 n2 : Int) * n2)) t n2 1 c2) ∧
    (¬ n1 / (Int.gcd n1 n2 : Int) * n2 ≤ 10 ^ 15 → d = .str "great") := by
  obtain ⟨l, h, t, ab, y, n⟩ := s
  have ov := above_over ab
  obtain ⟨l0, h0, t0, t1, e⟩ := ab
  have hL := lcmF (b := n1) (b' := n2) (by omega) (by omega)
  have hDL := gcd_mul_lcmF (a := n1) (b := n2) (by omega) (by omega)
  have gp := gcd_pos' (t := n1) (m := n2) (by omega)
  have gl := gcd_le' (t := n1) (m := n2) (by omega)
  have sp : ∀ x, (Int.gcd n1 n2 : Int) ∣ x → ∃ x1, n1 ∣ x1 ∧ n2 ∣ x - x1 := fun x => gcd_split
  have dg : ∀ k, (Int.gcd n1 n2 : Int) ∣ (Int.gcd (Int.gcd n1 n2) (c1 - c2) : Int) * k ↔ (Int.gcd n1 n2 : Int) ∣ (c1 - c2) * k := fun k => Int.dvd_gcd_mul_iff_dvd_mul
  have bp : 0 < (Int.gcd (Int.gcd n1 n2) (c1 - c2) : Int) := by
    have := Int.gcd_pos_of_ne_zero_left (a := (Int.gcd n1 n2 : Int)) (c1 - c2) (by omega)
    omega
  have b1 := Int.gcd_dvd_left (Int.gcd n1 n2 : Int) (c1 - c2)
  have b2 := Int.gcd_dvd_right (Int.gcd n1 n2 : Int) (c1 - c2)
  have g1 := Int.gcd_dvd_left n1 n2
  have g2 := Int.gcd_dvd_right n1 n2
  generalize (Int.gcd (Int.gcd n1 n2 : Int) (c1 - c2) : Int) = by' at *
  generalize n1 / (Int.gcd n1 n2 : Int) * n2 = L at *
  generalize (Int.gcd n1 n2 : Int) = g at *
  obtain ⟨q, hq⟩ := b1
  have hq0 : 0 < q := by
    rcases Int.lt_or_le 0 q with z | z
    · exact z
    · have := Int.mul_nonpos_of_nonneg_of_nonpos (Int.le_of_lt bp) z
      omega
  have hql : q ≤ g := by
    have : 1 * q ≤ by' * q := Int.mul_le_mul_of_nonneg_right (by omega) (by omega)
    omega
  have Lp := hL.pos
  have cl := (e l 0).mp (clo_left l0)
  have cr := (e (-t) h).mp (clo_right h0)
  rw [clo_row, clo_row] at cr
  have eL : l = L := by
    refine dvd_anti l0 Lp ?_ (hL.un l (clo_zero cl.1) (clo_zero cl.2))
    exact clo_zero ((e L 0).mpr ⟨clo_zero' hL.d1, clo_zero' hL.d2⟩)
  have eh : h = q := by
    refine dvd_anti h0 hq0 ?_ ?_
    · obtain ⟨s2, hs2⟩ := b2
      have dq : g ∣ q * (c1 - c2) := ⟨s2, by rw [hs2, hq]; clear hDL sp dg cl cr e; grind⟩
      obtain ⟨x1, r1, r2⟩ := sp _ dq
      have := (e (x1 - q * c1) q).mpr ⟨clo_row.mpr (by rwa [Int.sub_add_cancel]), clo_row.mpr (by
        have := Int.dvd_neg.mpr r2
        rwa [show -(q * (c1 - c2) - x1) = x1 - q * c1 + q * c2 by rw [Int.mul_sub]; omega] at this)⟩
      exact Int.dvd_of_emod_eq_zero this.1
    · have d1 := Int.dvd_sub (Int.dvd_trans g1 cr.1) (Int.dvd_trans g2 cr.2)
      rw [show -t + h * c1 - (-t + h * c2) = (c1 - c2) * h by rw [Int.sub_mul, Int.mul_comm c1, Int.mul_comm c2]; omega] at d1
      have d2 := (dg h).mpr d1
      rw [hq] at d2
      exact Int.dvd_of_mul_dvd_mul_left (by omega) d2
  have em : n1 * n2 / by' / L = q := by
    rw [← hDL, hq, Int.mul_assoc, Int.mul_ediv_cancel_left _ (by omega), Int.mul_ediv_cancel _ (by omega)]
  rw [em]
  subst eL eh
  have lge : n1 ≤ l := Int.le_of_dvd Lp hL.d1
  have tg : h = 1 → 2 ≤ t := fun h1 => by
    subst h1
    rcases Int.lt_or_le t 2 with z | z
    · have d1 : m ∣ (c1 - t) - (c1 - c) := Int.dvd_sub (Int.dvd_trans hm1 (by have := cr.1; rwa [show -t + 1 * c1 = c1 - t by omega] at this)) hc
      have := Int.le_of_dvd (by omega) d1
      omega
    · exact z
  constructor
  · intro hl15
    have hF : IsF l h t := by
      refine ⟨by omega, hl15, by omega, by omega, t0, t1, tg⟩
    exact ⟨t, y hF, hF, ov.1, ov.2⟩
  · intro hl15
    exact n (by omega)
end K07

namespace K07
open PySem PySem.Spec L2 Pw
theorem len2 {l : List D} (h : l.length = (rgi 0 (Int.toNat 2)).length) : ∃ d1 d2, l = [d1, d2] := by
  rw [rgi_len] at h
  match l, h with
  | [d1, d2], _ => exact ⟨d1, d2, rfl⟩
theorem small_under {a b a' b' l1 t1 p s : Int} (hbd : 2 ≤ a ∧ a ≤ 8 ∧ 2 ≤ b ∧ b ≤ 8 ∧ 2 ≤ a' ∧ a' ≤ 8 ∧ 2 ≤ b' ∧ b' ≤ 8) (hF : IsF l1 t1 0) (hcl : l1 ∣ a ∧ l1 ∣ a' ∧ t1 ∣ b ∧ t1 ∣ b') (h : Clo a b 0 p s ∨ Clo a' b' 0 p s) : Clo l1 t1 0 p s := by
  rw [clo_dial (by omega) (by omega), clo_dial (by omega) (by omega)] at h
  rw [clo_dial (by omega) (by omega)]
  rcases h with ⟨h1, h2⟩ | ⟨h1, h2⟩
  · exact ⟨Int.dvd_trans hcl.2.2.1 h1, Int.dvd_trans hcl.1 h2⟩
  · exact ⟨Int.dvd_trans hcl.2.2.2 h1, Int.dvd_trans hcl.2.1 h2⟩
theorem small_above {a b a' b' l h t : Int} (hbd : 2 ≤ a ∧ a ≤ 8 ∧ 2 ≤ b ∧ b ≤ 8 ∧ 2 ≤ a' ∧ a' ≤ 8 ∧ 2 ≤ b' ∧ b' ≤ 8) (ab : AboveF a b 0 a' b' 0 l h t) : IsF l h t := by
  have hL := lcmF (b := a) (b' := a') (by omega) (by omega)
  have hH := lcmF (b := b) (b' := b') (by omega) (by omega)
  obtain ⟨rfl, rfl, rfl⟩ := above_dial (by omega) (by omega) (by omega) (by omega) hL hH ab
  have p1 := hL.pos
  have p2 := hH.pos
  have d1 := Int.le_of_dvd p1 hL.d1
  have d2 := Int.le_of_dvd p2 hH.d1
  have u1 : a * a' ≤ 8 * 8 := Int.mul_le_mul (by omega) (by omega) (by omega) (by omega)
  have u2 : b * b' ≤ 8 * 8 := Int.mul_le_mul (by omega) (by omega) (by omega) (by omega)
  have := hL.le
  have := hH.le
  omega
theorem small_below {a b a' b' : Int} {d : D} (hbd : 2 ≤ a ∧ a ≤ 8 ∧ 2 ≤ b ∧ b ≤ 8 ∧ 2 ≤ a' ∧ a' ≤ 8 ∧ 2 ≤ b' ∧ b' ≤ 8) (bl : Below a b 0 a' b' 0 d) : (∃ l1 t1, d = fl l1 t1 0 ∧ IsF l1 t1 0 ∧ (l1 ∣ a ∧ l1 ∣ a' ∧ t1 ∣ b ∧ t1 ∣ b')) ∨ d = .none := by
  have e := below_dial (by omega) (by omega) bl
  have l1 := gcd_le' (t := a) (m := a') (by omega)
  have l2 := gcd_le' (t := b) (m := b') (by omega)
  split at e
  · rename_i hh
    exact .inl ⟨_, _, e, by omega, Int.gcd_dvd_left a a', Int.gcd_dvd_right a a', Int.gcd_dvd_left b b', Int.gcd_dvd_right b b'⟩
  · exact .inr e
/-! ### _law_are_small_right -/
abbrev s__law_are_small_right : Stmt := topS 65
abbrev N__law_are_small_right : List Str := ["hand", "one", "other", "under", "over", "p", "q", "both", "any_one", "turn"]
theorem sc__law_are_small_right : FnScope N__law_are_small_right ["hand"] (defScope s__law_are_small_right) := ⟨rfl, rfl, rfl, by decide +kernel, rfl, by decide +kernel, by decide +kernel⟩
theorem nm__law_are_small_right : nmC N__law_are_small_right (defScope s__law_are_small_right) [0, 1, 2, 3, 4, 5, 6, 7, 8] = true := by decide +kernel
theorem lc__law_are_small_right : lcC N__law_are_small_right (defScope s__law_are_small_right) [0, 1, 2, 3, 4, 5, 6, 7, 8] = true := by decide +kernel
theorem gb__law_are_small_right_range : gbC (defScope s__law_are_small_right) "range" = true := by decide +kernel
theorem gb__law_are_small_right_floor_below : gbC (defScope s__law_are_small_right) "floor_below" = true := by decide +kernel
theorem gb__law_are_small_right_floor_above : gbC (defScope s__law_are_small_right) "floor_above" = true := by decide +kernel
theorem gb__law_are_small_right__law_closes : gbC (defScope s__law_are_small_right) "_law_closes" = true := by decide +kernel
theorem gb__law_are_small_right_lies_over : gbC (defScope s__law_are_small_right) "lies_over" = true := by decide +kernel
def sp__law_are_small_right : SpF := fun es μ P => ∃ (m : MO) (nb : Nat), es = [.c 0] ∧ μ = [m] ∧ IsHand nb m ∧ nb + 10 ≤ 10 ^ 9 ∧ ∀ (m' : MO), IsHand (nb + 10) m' → P (.d (.bool true)) [m']
theorem body__law_are_small_right {X0 : Cx} {env0 : PySem.Env} (m_range : X0.mg "range" = none) (c_floor_below : CalX X0 "floor_below" 6 sp_floor_below) {cls : Value} (c_floor_above : CalXX X0 cls "floor_above" 6 sp_floor_above) (c_lies_over : CalX X0 "lies_over" 7 sp_lies_over) (c__law_draw : CalX X0 "_law_draw" 1 sp__law_draw) (c__law_closes : CalX X0 "_law_closes" 2 sp__law_closes) (B : Bx (mkX X0 env0 N__law_are_small_right (defScope s__law_are_small_right)) 7) :
    ∀ (es : List Ent) (μ μh : Mu) (Q : Ent → Mu → Prop), sp__law_are_small_right es μ Q → DSs (mkX X0 env0 N__law_are_small_right (defScope s__law_are_small_right)) (defBody s__law_are_small_right) (slots0 N__law_are_small_right es) (μ ++ μh) (Zof μ.length μh Q) := by
  rintro es μ μh Q ⟨m, nb, rfl, rfl, hm, hnb, q⟩
  have Mn : Nm (mkX X0 env0 N__law_are_small_right (defScope s__law_are_small_right)) [0, 1, 2, 3, 4, 5, 6, 7, 8] := nm_of nm__law_are_small_right
  have Ln : Lc (mkX X0 env0 N__law_are_small_right (defScope s__law_are_small_right)) [0, 1, 2, 3, 4, 5, 6, 7, 8] := lc_of lc__law_are_small_right
  have g_range : Gb (mkX X0 env0 N__law_are_small_right (defScope s__law_are_small_right)) "range" := gb_of gb__law_are_small_right_range
  have g_floor_below : Gb (mkX X0 env0 N__law_are_small_right (defScope s__law_are_small_right)) "floor_below" := gb_of gb__law_are_small_right_floor_below
  have g_floor_above : Gb (mkX X0 env0 N__law_are_small_right (defScope s__law_are_small_right)) "floor_above" := gb_of gb__law_are_small_right_floor_above
  have g__law_closes : Gb (mkX X0 env0 N__law_are_small_right (defScope s__law_are_small_right)) "_law_closes" := gb_of gb__law_are_small_right__law_closes
  have g_lies_over : Gb (mkX X0 env0 N__law_are_small_right (defScope s__law_are_small_right)) "lies_over" := gb_of gb__law_are_small_right_lies_over
  -- one, other = [(2 + _law_draw(hand, 7), 2 + _law_draw(hand, 7), 0) for turn in range(2)]
  refine dss_cons (ds_asg (de_cut (P' := fun en μ2 => ∃ a b a' b' m, en = .d (.list [fl a b 0, fl a' b' 0]) ∧ (2 ≤ a ∧ a ≤ 8 ∧ 2 ≤ b ∧ b ≤ 8 ∧ 2 ≤ a' ∧ a' ≤ 8 ∧ 2 ≤ b' ∧ b' ≤ 8) ∧ IsHand (nb + 4) m ∧ m :: μh = μ2) (de_lcHandI (own := [("turn", 9)]) (g := (gName 9)) (fun i μ2 => ∃ m, IsHand (nb + 2 * i) m ∧ m :: μh = μ2) (fun d => ∃ a b, d = fl a b 0 ∧ 2 ≤ a ∧ a ≤ 8 ∧ 2 ≤ b ∧ b ≤ 8) rfl Ln.nd (blkOk_by (by show blkC N__law_are_small_right (defScope s__law_are_small_right) _ _ = true; decide +kernel)) (fun _ _ _ _ _ => pg_name (i := 9) Ln.nd rfl (Or.inl rfl)) (di_range1 g_range m_range (de_int ⟨_, rfl, (by decide), (by decide), ⟨(by first | exact ltS (n := 1) rfl (by decide) | exact ltS (n := 2) rfl (by decide) | exact ltS (n := 3) rfl (by decide) | exact ltS (n := 4) rfl (by decide) | exact ltS (n := 5) rfl (by decide) | exact ltS (n := 6) rfl (by decide)), ⟨_, hm.mono (by omega), rfl⟩, ?_, fun acc mu hlen hall hmi => ?_⟩⟩))) fun en μc hc => ?_))
  · intro i d hd acc mu hmi
    have hi := (rgi_get hd).1; simp only [Int.reduceToNat] at hi; obtain ⟨m, hm, rfl⟩ := hmi
    refine (dgc_name (by decide) (fun _ _ _ _ _ => (de_tup (da_cons (de_bin op_add (de_int (de_callH (bx_blk B) c__law_draw (by decide) (gb_blk (x := "_law_draw") rfl) (da_cons (de_var (i := 0) (nm_blk (vi := [0, 9]) rfl) rfl (by decide) rfl (da_cons (de_int (da_nil ⟨_, _, _, rfl, rfl, rfl, _, _, _, rfl, rfl, (by assumption), (by omega), (by first | assumption | omega | (simp; done) | exact .inl ⟨_, rfl⟩ | exact .inl ⟨_, _, _, rfl⟩ | exact .inr rfl), (by first | assumption | omega | (simp; done) | exact .inl ⟨_, rfl⟩ | exact .inl ⟨_, _, _, rfl⟩ | exact .inr rfl), fun m2 r2 hm2 h20 h21 => ⟨_, rfl, rfl, (rv_i0 ⟨_, _, rfl, rfl, (da_cons (de_bin op_add (de_int (de_callH (bx_blk B) c__law_draw (by decide) (gb_blk (x := "_law_draw") rfl) (da_cons (de_var (i := 0) (nm_blk (vi := [0, 9]) rfl) rfl (by decide) rfl (da_cons (de_int (da_nil ⟨_, _, _, rfl, rfl, rfl, _, _, _, rfl, rfl, (by assumption), (by omega), (by first | assumption | omega | (simp; done) | exact .inl ⟨_, rfl⟩ | exact .inl ⟨_, _, _, rfl⟩ | exact .inr rfl), (by first | assumption | omega | (simp; done) | exact .inl ⟨_, rfl⟩ | exact .inl ⟨_, _, _, rfl⟩ | exact .inr rfl), fun m1 r1 hm1 h10 h11 => ⟨_, rfl, rfl, (rv_i0 ⟨_, _, rfl, rfl, (da_cons (de_int (da_nil ⟨[_, _, _], rfl, lenS (n := 3) rfl (by decide), ⟨_, _ :: μh, rfl, rfl, ⟨_, IsHand.mono (by assumption) (by omega), rfl⟩, ⟨_, _, rfl, by omega, by omega, by omega, by omega⟩⟩⟩)))⟩)⟩⟩)))))))))⟩)⟩⟩))))))))))))
  · obtain ⟨m, hm, rfl⟩ := hmi
    obtain ⟨d1, d2, rfl⟩ := len2 hlen
    obtain ⟨a, b, rfl, q1, q2, q3, q4⟩ := hall d1 (by simp)
    obtain ⟨a', b', rfl, q5, q6, q7, q8⟩ := hall d2 (by simp)
    exact ⟨a, b, a', b', m, rfl, ⟨q1, q2, q3, q4, q5, q6, q7, q8⟩, hm.mono (by rw [rgi_len]; simp), rfl⟩
  obtain ⟨a, b, a', b', m, rfl, hbd, hm, rfl⟩ := hc
  refine (dg_unl rfl rfl (dgs_name (i := 1) Ln rfl (by decide) (dgs_name (i := 2) Ln rfl (by decide) (dgs_nil ?_))))
  -- under, over = (floor_below(one, other), floor_above(one, other))
  refine dss_cons (ds_par (i := 3) (j := 4) Ln rfl rfl rfl (by decide) rfl rfl (da_cons (de_call B c_floor_below (by decide) g_floor_below (da_cons (de_var (i := 1) Mn rfl (by decide) rfl (da_cons (de_var (i := 2) Mn rfl (by decide) rfl (da_nil ⟨rfl, _, _, _, _, _, _, rfl, rfl, (by first | assumption | omega | (simp; done) | exact .inl ⟨_, rfl⟩ | exact .inl ⟨_, _, _, rfl⟩ | exact .inr rfl), (by first | assumption | omega | (simp; done) | exact .inl ⟨_, rfl⟩ | exact .inl ⟨_, _, _, rfl⟩ | exact .inr rfl), fun d4 h40 => ⟨rfl, (da_cons (de_callX B c_floor_above (by decide) g_floor_above (da_cons (de_var (i := 1) Mn rfl (by decide) rfl (da_cons (de_var (i := 2) Mn rfl (by decide) rfl (da_nil ⟨rfl, _, _, _, _, _, _, rfl, (by first | assumption | omega | (simp; done) | exact .inl ⟨_, rfl⟩ | exact .inl ⟨_, _, _, rfl⟩ | exact .inr rfl), (by first | assumption | omega | (simp; done) | exact .inl ⟨_, rfl⟩ | exact .inl ⟨_, _, _, rfl⟩ | exact .inr rfl), fun l h t hab => ⟨fun hF => ⟨rfl, (da_nil ⟨_, _, rfl, ?_⟩)⟩, fun hF => hF ?_⟩⟩)))))))⟩⟩))))))) rfl)
  rotate_left
  · exact small_above hbd hab
  have hu := small_below hbd h40
  have hF := small_above hbd hab
  -- for p in range(-14, 15)
  refine dss_cons (ds_for PassesOwn.never rfl (di_range2 g_range m_range (de_un un_neg (de_int (ru_i ⟨_, rfl, (de_int ⟨_, _, rfl, rfl, (by decide), ⟨fun i ρ μ2 => ∃ o5 o6 o7 o8, ρ = [some (.c 0), some (.d (fl a b 0)), some (.d (fl a' b' 0)), some (.d d4), some (.d (fl l h t)), o5, o6, o7, o8, none] ∧ m :: μh = μ2, ⟨_, _, _, _, rfl, rfl⟩, ?_, ?_⟩⟩)⟩)))))
  · rintro i d ρ μ hd ⟨o5, o6, o7, o8, rfl, rfl⟩
    obtain ⟨hi, rfl⟩ := rgi_get hd
    have hp : Bd (-14 + (i : Int)) := by
      have : i < 29 := hi
      omega
    generalize (-14 : Int) + (i : Int) = p at hp ⊢
    refine dg_name (i := 5) Ln rfl (by decide) ?_
    -- for q in range(-14, 15)
    refine dss_cons (ds_for PassesOwn.never rfl (di_range2 g_range m_range (de_un un_neg (de_int (ru_i ⟨_, rfl, (de_int ⟨_, _, rfl, rfl, (by decide), ⟨fun i ρ μ2 => ∃ o6 o7 o8, ρ = [some (.c 0), some (.d (fl a b 0)), some (.d (fl a' b' 0)), some (.d d4), some (.d (fl l h t)), some (.d (.int p)), o6, o7, o8, none] ∧ m :: μh = μ2, ⟨_, _, _, rfl, rfl⟩, ?_, ?_⟩⟩)⟩)))))
    · rintro i d ρ μ hd ⟨o6, o7, o8, rfl, rfl⟩
      obtain ⟨hi, rfl⟩ := rgi_get hd
      have hs : Bd (-14 + (i : Int)) := by
        have : i < 29 := hi
        omega
      generalize (-14 : Int) + (i : Int) = s at hs ⊢
      refine dg_name (i := 6) Ln rfl (by decide) ?_
      -- both = _law_closes(one, (p, q)) and _law_closes(other, (p, q))
      refine dss_cons (ds_set (i := 7) Ln rfl (by decide) (de_cut (P' := fun en μ2 => ∃ r : Bool, en = .d (.bool r) ∧ (r = true ↔ Clo a b 0 p s ∧ Clo a' b' 0 p s) ∧ m :: μh = μ2) (de_and (de_call B c__law_closes (by decide) g__law_closes (da_cons (de_var (i := 1) Mn rfl (by decide) rfl (da_cons (de_tup (da_cons (de_var (i := 5) Mn rfl (by decide) rfl (da_cons (de_var (i := 6) Mn rfl (by decide) rfl (da_nil ⟨[_, _], rfl, lenS (n := 2) rfl (by decide), (da_nil ⟨rfl, _, _, _, _, _, rfl, rfl, (by first | assumption | omega | (simp; done) | exact .inl ⟨_, rfl⟩ | exact .inl ⟨_, _, _, rfl⟩ | exact .inr rfl), (by first | assumption | omega | (simp; done) | exact .inl ⟨_, rfl⟩ | exact .inl ⟨_, _, _, rfl⟩ | exact .inr rfl), fun r6 h60 => ⟨rfl, ⟨_, rfl, fun hb1 => (de_one (de_call B c__law_closes (by decide) g__law_closes (da_cons (de_var (i := 2) Mn rfl (by decide) rfl (da_cons (de_tup (da_cons (de_var (i := 5) Mn rfl (by decide) rfl (da_cons (de_var (i := 6) Mn rfl (by decide) rfl (da_nil ⟨[_, _], rfl, lenS (n := 2) rfl (by decide), (da_nil ⟨rfl, _, _, _, _, _, rfl, rfl, (by first | assumption | omega | (simp; done) | exact .inl ⟨_, rfl⟩ | exact .inl ⟨_, _, _, rfl⟩ | exact .inr rfl), (by first | assumption | omega | (simp; done) | exact .inl ⟨_, rfl⟩ | exact .inl ⟨_, _, _, rfl⟩ | exact .inr rfl), fun r5 h50 => ⟨rfl, ?_⟩⟩)⟩))))))))))), fun hb1 => ?_⟩⟩⟩)⟩))))))))))) fun en μc hc => ?_))
      · exact ⟨_, rfl, by rw [h50]; exact ⟨fun z => ⟨h60.mp hb1, z⟩, fun z => z.2⟩, rfl⟩
      · exact ⟨_, rfl, ⟨(fun z => nomatch z), fun z => absurd (h60.mpr z.1) (by simp [hb1])⟩, rfl⟩
      obtain ⟨rb, rfl, hrb, rfl⟩ := hc
      -- if _law_closes(over, (p, q)) != both
      refine dss_cons (ds_if (dt_cmp op_ne (nomark _) (de_call B c__law_closes (by decide) g__law_closes (da_cons (de_var (i := 4) Mn rfl (by decide) rfl (da_cons (de_tup (da_cons (de_var (i := 5) Mn rfl (by decide) rfl (da_cons (de_var (i := 6) Mn rfl (by decide) rfl (da_nil ⟨[_, _], rfl, lenS (n := 2) rfl (by decide), (da_nil ⟨rfl, _, _, _, _, _, rfl, rfl, (by first | assumption | omega | (simp; done) | exact .inl ⟨_, rfl⟩ | exact .inl ⟨_, _, _, rfl⟩ | exact .inr rfl), (by first | assumption | omega | (simp; done) | exact .inl ⟨_, rfl⟩ | exact .inl ⟨_, _, _, rfl⟩ | exact .inr rfl), fun r7 h70 => ⟨rfl, (de_var (i := 7) Mn rfl (by decide) rfl (rv_neB ⟨_, _, rfl, rfl, ⟨_, rfl, ⟨fun ht => ?_, fun ht => ?_⟩⟩⟩))⟩⟩)⟩))))))))))))
      · try simp only [decide_eq_true_eq, decide_eq_false_iff_not, bne_iff_ne, Bool.not_eq_true', Bool.not_eq_false', ne_eq, beq_iff_eq] at ht
        exact absurd (by rw [Bool.eq_iff_iff, h70, hrb]; exact hab.2.2.2.2 p s) ht
      · try simp only [decide_eq_true_eq, decide_eq_false_iff_not, bne_iff_ne, Bool.not_eq_true', Bool.not_eq_false', ne_eq, beq_iff_eq] at ht
        refine dss_nil ?_
        -- any_one = _law_closes(one, (p, q)) or _law_closes(other, (p, q))
        refine dss_cons (ds_set (i := 8) Ln rfl (by decide) (de_cut (P' := fun en μ2 => ∃ r : Bool, en = .d (.bool r) ∧ (r = true → Clo a b 0 p s ∨ Clo a' b' 0 p s) ∧ m :: μh = μ2) (de_or (de_call B c__law_closes (by decide) g__law_closes (da_cons (de_var (i := 1) Mn rfl (by decide) rfl (da_cons (de_tup (da_cons (de_var (i := 5) Mn rfl (by decide) rfl (da_cons (de_var (i := 6) Mn rfl (by decide) rfl (da_nil ⟨[_, _], rfl, lenS (n := 2) rfl (by decide), (da_nil ⟨rfl, _, _, _, _, _, rfl, rfl, (by first | assumption | omega | (simp; done) | exact .inl ⟨_, rfl⟩ | exact .inl ⟨_, _, _, rfl⟩ | exact .inr rfl), (by first | assumption | omega | (simp; done) | exact .inl ⟨_, rfl⟩ | exact .inl ⟨_, _, _, rfl⟩ | exact .inr rfl), fun r9 h90 => ⟨rfl, ⟨_, rfl, fun hb2 => (de_one (de_call B c__law_closes (by decide) g__law_closes (da_cons (de_var (i := 2) Mn rfl (by decide) rfl (da_cons (de_tup (da_cons (de_var (i := 5) Mn rfl (by decide) rfl (da_cons (de_var (i := 6) Mn rfl (by decide) rfl (da_nil ⟨[_, _], rfl, lenS (n := 2) rfl (by decide), (da_nil ⟨rfl, _, _, _, _, _, rfl, rfl, (by first | assumption | omega | (simp; done) | exact .inl ⟨_, rfl⟩ | exact .inl ⟨_, _, _, rfl⟩ | exact .inr rfl), (by first | assumption | omega | (simp; done) | exact .inl ⟨_, rfl⟩ | exact .inl ⟨_, _, _, rfl⟩ | exact .inr rfl), fun r8 h80 => ⟨rfl, ?_⟩⟩)⟩))))))))))), fun hb2 => ?_⟩⟩⟩)⟩))))))))))) fun en μc hc => ?_))
        · exact ⟨_, rfl, fun z => .inr (h80.mp z), rfl⟩
        · exact ⟨_, rfl, fun z => .inl (h90.mp hb2), rfl⟩
        obtain ⟨ra, rfl, hra, rfl⟩ := hc
        -- if under is not None and any_one and (not _law_closes(under, (p, q)))
        refine dss_cons (ds_if (dt_cut (PB' := fun k μ2 => k = false ∧ m :: μh = μ2) ?_ (fun kc μc hcut => ⟨fun ht => ?_, fun ht => ?_⟩)))
        · rcases hu with ⟨l1, t1, rfl, hF1, hcl⟩ | rfl
          · refine (dt_bool (dw_and (dt_cmp op_notN (nomark _) (de_var (i := 3) Mn rfl (by decide) rfl (de_non (rv_notN ⟨_, rfl, rfl, ⟨_, rfl, ⟨fun hb3 => (dw_and (dt_val (de_var (i := 8) Mn rfl (by decide) rfl ⟨_, rfl, ⟨fun hb4 => (dw_and1 (dt_not (dt_val (de_call B c__law_closes (by decide) g__law_closes (da_cons (de_var (i := 3) Mn rfl (by decide) rfl (da_cons (de_tup (da_cons (de_var (i := 5) Mn rfl (by decide) rfl (da_cons (de_var (i := 6) Mn rfl (by decide) rfl (da_nil ⟨[_, _], rfl, lenS (n := 2) rfl (by decide), (da_nil ⟨rfl, _, _, _, _, _, rfl, rfl, (by first | assumption | omega | (simp; done) | exact .inl ⟨_, rfl⟩ | exact .inl ⟨_, _, _, rfl⟩ | exact .inr rfl), (by first | assumption | omega | (simp; done) | exact .inl ⟨_, rfl⟩ | exact .inl ⟨_, _, _, rfl⟩ | exact .inr rfl), fun r10 h100 => ⟨rfl, ⟨_, rfl, ?_⟩⟩⟩)⟩))))))))))))), fun hb4 => ?_⟩⟩))), fun hb3 => ?_⟩⟩⟩))))))
            · have rt : r10 = true := h100.mpr (small_under hbd hF1 hcl (hra hb4))
              exact ⟨by rw [rt]; rfl, rfl⟩
            · exact ⟨rfl, rfl⟩
            · exact ⟨rfl, rfl⟩
          · exact (dt_bool (dw_and (dt_cmp op_notN (nomark _) (de_var (i := 3) Mn rfl (by decide) rfl (de_non (rv_notN ⟨_, rfl, rfl, ⟨_, rfl, ⟨(fun z => nomatch z), fun _ => ⟨rfl, rfl⟩⟩⟩⟩))))))
        · try simp only [decide_eq_true_eq, decide_eq_false_iff_not, bne_iff_ne, Bool.not_eq_true', Bool.not_eq_false', ne_eq, beq_iff_eq] at ht
          obtain ⟨z, _⟩ := hcut
          rw [z] at ht
          cases ht
        · try simp only [decide_eq_true_eq, decide_eq_false_iff_not, bne_iff_ne, Bool.not_eq_true', Bool.not_eq_false', ne_eq, beq_iff_eq] at ht
          obtain ⟨_, rfl⟩ := hcut
          exact dss_nil (dss_nil ⟨_, _, _, rfl, rfl⟩)
    · rintro ρ μ ⟨o6, o7, o8, rfl, rfl⟩
      exact dss_nil ⟨_, _, _, _, rfl, rfl⟩
  · rintro ρ μ ⟨o5, o6, o7, o8, rfl, rfl⟩
    refine dss_cons (ds_ret (de_cut (P' := fun en μ2 => en = .d (.bool true) ∧ m :: μh = μ2) ?_ fun en μc hc => ?_))
    · rcases hu with ⟨l1, t1, rfl, hF1, hcl⟩ | rfl
      · refine (de_or (de_cmp op_isN (nomark _) (de_var (i := 3) Mn rfl (by decide) rfl (de_non (rv_isN ⟨_, rfl, rfl, ⟨_, rfl, fun hb5 => (de_one (de_and (de_call B c_lies_over (by decide) g_lies_over (da_cons (de_var (i := 1) Mn rfl (by decide) rfl (da_cons (de_var (i := 3) Mn rfl (by decide) rfl (da_nil ⟨rfl, _, _, _, _, _, _, rfl, rfl, (by first | assumption | omega | (simp; done) | exact .inl ⟨_, rfl⟩ | exact .inl ⟨_, _, _, rfl⟩ | exact .inr rfl), (by first | assumption | omega | (simp; done) | exact .inl ⟨_, rfl⟩ | exact .inl ⟨_, _, _, rfl⟩ | exact .inr rfl), fun r12 h120 => ⟨rfl, ⟨_, rfl, fun hb6 => (de_one (de_call B c_lies_over (by decide) g_lies_over (da_cons (de_var (i := 2) Mn rfl (by decide) rfl (da_cons (de_var (i := 3) Mn rfl (by decide) rfl (da_nil ⟨rfl, _, _, _, _, _, _, rfl, rfl, (by first | assumption | omega | (simp; done) | exact .inl ⟨_, rfl⟩ | exact .inl ⟨_, _, _, rfl⟩ | exact .inr rfl), (by first | assumption | omega | (simp; done) | exact .inl ⟨_, rfl⟩ | exact .inl ⟨_, _, _, rfl⟩ | exact .inr rfl), fun r11 h110 => ⟨rfl, ?_⟩⟩))))))), fun hb6 => ?_⟩⟩⟩)))))))), fun hb5 => ?_⟩⟩)))))
        · have rt : r11 = true := h110.mpr ((over_dial (by omega) hF1).mpr ⟨hcl.2.1, hcl.2.2.2⟩)
          exact ⟨by rw [rt], rfl⟩
        · exact absurd (h120.mpr ((over_dial (by omega) hF1).mpr ⟨hcl.1, hcl.2.2.1⟩)) (by simp [hb6])
        · cases hb5
      · exact (de_or (de_cmp op_isN (nomark _) (de_var (i := 3) Mn rfl (by decide) rfl (de_non (rv_isN ⟨_, rfl, rfl, ⟨_, rfl, (fun z => nomatch z), fun _ => ⟨rfl, rfl⟩⟩⟩)))))
    obtain ⟨rfl, rfl⟩ := hc
    exact ret1 (q _ (hm.mono (by omega)))
theorem ok__law_are_small_right {P : Program} {w : World} {K : PySem.W.Frag} {mg : Str → Option Value} {base : Heap} (T : Top1 K mg "_law_are_small_right" s__law_are_small_right ["hand"]) (m_range : mg "range" = none) (c_floor_below : Cal P w K mg base CX0 "floor_below" 6 (lift K sp_floor_below)) {C : Addr} (c_floor_above : Cal P w K mg base (L2.CX P w) "floor_above" 6 (liftX K (.ref C) sp_floor_above)) (c_lies_over : Cal P w K mg base CX0 "lies_over" 7 (lift K sp_lies_over)) (c__law_draw : Cal P w K mg base CX0 "_law_draw" 1 (lift K sp__law_draw)) (c__law_closes : Cal P w K mg base CX0 "_law_closes" 2 (lift K sp__law_closes)) : Cal P w K mg base CX0 "_law_are_small_right" 8 (lift K sp__law_are_small_right) :=
  cal_of T sc__law_are_small_right (by rintro es μ Q ⟨_, _, rfl, _⟩; rfl) fun f cdv A outer s H E B es μ μh Q h => body__law_are_small_right (X0 := cxOf CX0 P w K mg base N__law_are_small_right "_law_are_small_right" (defScope s__law_are_small_right) f cdv A outer s H E) (env0 := PyProof.Rows.envOfC "_law_are_small_right" (defScope s__law_are_small_right) s.heap.objs.size f cdv) m_range c_floor_below c_floor_above c_lies_over c__law_draw c__law_closes B es μ μh Q h
end K07

/-! K07M: what is told, as repr sees it. -/
namespace K07
open PySem PySem.Spec L2 Pw
/-- small enough within a list -/
def OkS (d : D) : Prop := Fit d ∧ d.depth ≤ 5 ∧ lenB d ≤ 1000
theorem okS_fl {a b c : Int} (h : a.natAbs ≤ 10 ^ 60 ∧ b.natAbs ≤ 10 ^ 60 ∧ c.natAbs ≤ 10 ^ 60) : OkS (fl a b c) := ⟨⟨show a.natAbs < 10 ^ 150 by omega, show b.natAbs < 10 ^ 150 by omega, show c.natAbs < 10 ^ 150 by omega, trivial⟩, Nat.le_of_ble_eq_true rfl, Nat.le_of_ble_eq_true rfl⟩
theorem okS_pr {a b : Int} (h : a.natAbs ≤ 10 ^ 60 ∧ b.natAbs ≤ 10 ^ 60) : OkS (pr a b) := ⟨⟨show a.natAbs < 10 ^ 150 by omega, show b.natAbs < 10 ^ 150 by omega, trivial⟩, Nat.le_of_ble_eq_true rfl, Nat.le_of_ble_eq_true rfl⟩
theorem okS_int {a : Int} (h : a.natAbs ≤ 10 ^ 60) : OkS (.int a) := ⟨show a.natAbs < 10 ^ 150 by omega, Nat.le_of_ble_eq_true rfl, Nat.le_of_ble_eq_true rfl⟩
theorem okS_bl {b : Bool} : OkS (.bool b) := ⟨by simp [Fit], Nat.le_of_ble_eq_true rfl, Nat.le_of_ble_eq_true rfl⟩
theorem okS_non : OkS .none := ⟨by simp [Fit], Nat.le_of_ble_eq_true rfl, Nat.le_of_ble_eq_true rfl⟩
theorem okS_great : OkS (.str "great") := ⟨by simp only [Fit]; decide, Nat.le_of_ble_eq_true rfl, Nat.le_of_ble_eq_true rfl⟩
theorem fit_list : ∀ (l : List D), (∀ d ∈ l, OkS d) → FitAll l
  | [], _ => trivial
  | x :: xs, h => ⟨(h x (by simp)).1, fit_list xs fun d hd => h d (by simp [hd])⟩
theorem len_list : ∀ (l : List D), (∀ d ∈ l, OkS d) → lenBs l ≤ 1002 * l.length
  | [], _ => Nat.zero_le _
  | x :: xs, h => by
    have h1 := (h x (by simp)).2.2
    have h2 := len_list xs fun d hd => h d (by simp [hd])
    show lenB x + 2 + lenBs xs ≤ 1002 * (xs.length + 1)
    omega
theorem depth_list : ∀ (l : List D), (∀ d ∈ l, OkS d) → (PyData.list l).depth ≤ 6 := by
  intro l h
  induction l with
  | nil => simp [PyData.depth, PyData.depthAll]
  | cons x xs ih =>
    have h1 := (h x (by simp)).2.1
    have h2 := ih fun d hd => h d (by simp [hd])
    simp [PyData.depth, PyData.depthAll] at h2 ⊢
    omega
theorem okR_list {l : List D} (hl : l.length ≤ 10) (h : ∀ d ∈ l, OkS d) : OkR (.list l) := by
  refine ⟨?_, rfl, Nat.le_trans (depth_list l h) (by decide), ?_⟩
  · exact fit_list l h
  · have := len_list l h
    have h2 : (20000 : Nat) ≤ sizeLine := by decide
    show lenBs l + 3 ≤ sizeLine
    omega
theorem okR_tup {l : List D} (hl : l.length ≤ 10) (h : ∀ d ∈ l, OkS d) : OkR (.tuple l) := by
  have := okR_list hl h
  exact ⟨this.1, rfl, by
    have h2 := this.2.2.1
    simp [PyData.depth] at h2 ⊢
    exact h2, this.2.2.2⟩
theorem bool_eq {r r' : Bool} {p : Prop} (h : r = true ↔ p) (h' : r' = true ↔ p) : r = r' := by
  rw [Bool.eq_iff_iff, h, h']
theorem lcm_swap (a b : Int) (ha : 0 < a) (hb : 0 < b) : b / (Int.gcd b a : Int) * a = a / (Int.gcd a b : Int) * b := by
  have h1 := lcmF (b := b) (b' := a) hb ha
  have h2 := lcmF (b := a) (b' := b) ha hb
  exact dvd_anti h1.pos h2.pos (h1.un _ h2.d2 h2.d1) (h2.un _ h1.d2 h1.d1)
theorem len4 {l : List D} (h : l.length = (rgi 0 (Int.toNat 4)).length) : ∃ d1 d2 d3 d4, l = [d1, d2, d3, d4] := by
  rw [rgi_len] at h
  match l, h with
  | [d1, d2, d3, d4], _ => exact ⟨d1, d2, d3, d4, rfl⟩
def divF (a : Int) : D → Bool
  | .int k => decide (a % k = 0)
  | _ => false
theorem mem1236 {d : D} (h : d ∈ [PyData.int 1, .int 2, .int 3, .int 6]) : ∃ z : Int, d = .int z ∧ 1 ≤ z := by
  simp only [List.mem_cons, List.not_mem_nil, or_false] at h
  rcases h with rfl | rfl | rfl | rfl
  · exact ⟨1, rfl, by omega⟩
  · exact ⟨2, rfl, by omega⟩
  · exact ⟨3, rfl, by omega⟩
  · exact ⟨6, rfl, by omega⟩
theorem div_list {a : Int} : (([PyData.int 1, .int 2, .int 3, .int 6].filter (divF a)).map fun d => d) = (([1, 2, 3, 6] : List Int).filter fun k => decide (a % k = 0)).map PyData.int := by
  rw [List.map_id', show [PyData.int 1, .int 2, .int 3, .int 6] = ([1, 2, 3, 6] : List Int).map PyData.int from rfl, List.filter_map]
  rfl
theorem div_ok {a : Int} : 0 < (([1, 2, 3, 6] : List Int).filter fun k => decide (a % k = 0)).length ∧ (([1, 2, 3, 6] : List Int).filter fun k => decide (a % k = 0)).length ≤ 4 ∧ ∀ x ∈ ([1, 2, 3, 6] : List Int).filter fun k => decide (a % k = 0), 1 ≤ x ∧ x ≤ 6 := by
  refine ⟨?_, List.length_filter_le _ _, fun x hx => ?_⟩
  · exact List.length_pos_of_mem (List.mem_filter.mpr ⟨List.mem_cons_self, by simp [Int.emod_one]⟩)
  · have := (List.mem_filter.mp hx).1
    simp only [List.mem_cons, List.not_mem_nil, or_false] at this
    omega
theorem sgn_le {f s : Int} (h1 : 1 ≤ f) (h2 : f ≤ 10 ^ 9) (h3 : s ∈ ([1, -1] : List Int)) : -(10 ^ 9) ≤ f * s ∧ f * s ≤ 10 ^ 9 := by
  simp only [List.mem_cons, List.not_mem_nil, or_false] at h3
  rcases h3 with rfl | rfl <;> omega
open Classical in
noncomputable def ovD (a b : Int) : D → Bool
  | .tuple [.int x, .int y, .int _] => decide (Over a b 0 x y 0)
  | _ => false
theorem ovD_eq {a b x y : Int} {r : Bool} (h : r = true ↔ Over a b 0 x y 0) : r = ovD a b (fl x y 0) := by
  show r = @decide (Over a b 0 x y 0) (Classical.propDecidable _)
  rw [Bool.eq_iff_iff, h]
  simp
theorem fls_ok {a b c e : Int} {U d : D} (F : IsF c e 0) (hU : (∃ x y, U = fl x y 0 ∧ IsF x y 0) ∨ U = .none) (h : d ∈ ([fl c e 0, U].filter (ovD a b)).map fun d => d) : ∃ x y, d = fl x y 0 ∧ IsF x y 0 ∧ Over a b 0 x y 0 := by
  rw [List.map_id'] at h
  obtain ⟨h1, h2⟩ := List.mem_filter.mp h
  have key : ∀ x y, ovD a b (fl x y 0) = true → Over a b 0 x y 0 := fun x y z => by
    have z' : @decide (Over a b 0 x y 0) (Classical.propDecidable _) = true := z
    exact @of_decide_eq_true _ (Classical.propDecidable _) z'
  simp only [List.mem_cons, List.not_mem_nil, or_false] at h1
  rcases h1 with rfl | rfl
  · exact ⟨c, e, rfl, F, key _ _ h2⟩
  · rcases hU with ⟨x, y, rfl, hF⟩ | rfl
    · exact ⟨x, y, rfl, hF, key _ _ h2⟩
    · cases h2
theorem mem_two {d x y : D} (h : d ∈ [x, y]) : d = x ∨ d = y := by simpa using h
theorem dss_at {X : Cx} {sts : List Stmt} {ρ ρ' : Slots} {μ : Mu} {Z : Po} (h : ρ = ρ') (k : DSs X sts ρ' μ Z) : DSs X sts ρ μ Z := h ▸ k
end K07

namespace K07
open PySem PySem.Spec L2 Pw
/-! ### _law_are_dials_right -/
abbrev s__law_are_dials_right : Stmt := topS 63
abbrev N__law_are_dials_right : List Str := ["hand", "top", "a", "b", "c", "e", "one", "other", "over", "wide", "high", "due", "less", "low", "under", "told", "k", "cell", "p", "q", "floor", "turn", "n"]
theorem sc__law_are_dials_right : FnScope N__law_are_dials_right ["hand", "top"] (defScope s__law_are_dials_right) := ⟨rfl, rfl, rfl, by decide +kernel, rfl, by decide +kernel, by decide +kernel⟩
theorem nm__law_are_dials_right : nmC N__law_are_dials_right (defScope s__law_are_dials_right) [0, 1, 2, 3, 4, 5, 6, 7, 8, 9, 10, 11, 12, 13, 14, 15, 16, 17, 18, 19, 20] = true := by decide +kernel
theorem lc__law_are_dials_right : lcC N__law_are_dials_right (defScope s__law_are_dials_right) [0, 1, 2, 3, 4, 5, 6, 7, 8, 9, 10, 11, 12, 13, 14, 15, 16, 17, 18, 19, 20] = true := by decide +kernel
theorem gb__law_are_dials_right_range : gbC (defScope s__law_are_dials_right) "range" = true := by decide +kernel
theorem gb__law_are_dials_right__law_draw : gbC (defScope s__law_are_dials_right) "_law_draw" = true := by decide +kernel
theorem gb__law_are_dials_right__law_some : gbC (defScope s__law_are_dials_right) "_law_some" = true := by decide +kernel
theorem gb__law_are_dials_right_max : gbC (defScope s__law_are_dials_right) "max" = true := by decide +kernel
theorem gb__law_are_dials_right_int : gbC (defScope s__law_are_dials_right) "int" = true := by decide +kernel
theorem gb__law_are_dials_right__law_is : gbC (defScope s__law_are_dials_right) "_law_is" = true := by decide +kernel
theorem gb__law_are_dials_right_lies_over : gbC (defScope s__law_are_dials_right) "lies_over" = true := by decide +kernel
theorem gb__law_are_dials_right__law_multiple : gbC (defScope s__law_are_dials_right) "_law_multiple" = true := by decide +kernel
theorem gb__law_are_dials_right__law_common : gbC (defScope s__law_are_dials_right) "_law_common" = true := by decide +kernel
theorem gb__law_are_dials_right__law_said : gbC (defScope s__law_are_dials_right) "_law_said" = true := by decide +kernel
theorem gb__law_are_dials_right_floor_below : gbC (defScope s__law_are_dials_right) "floor_below" = true := by decide +kernel
theorem gb__law_are_dials_right_group : gbC (defScope s__law_are_dials_right) "group" = true := by decide +kernel
theorem gb__law_are_dials_right_is_one_ring : gbC (defScope s__law_are_dials_right) "is_one_ring" = true := by decide +kernel
theorem gb__law_are_dials_right__law_cell : gbC (defScope s__law_are_dials_right) "_law_cell" = true := by decide +kernel
theorem gb__law_are_dials_right_folded : gbC (defScope s__law_are_dials_right) "folded" = true := by decide +kernel
theorem gb__law_are_dials_right_parts_of : gbC (defScope s__law_are_dials_right) "parts_of" = true := by decide +kernel
theorem gb__law_are_dials_right_does_close : gbC (defScope s__law_are_dials_right) "does_close" = true := by decide +kernel
def sp__law_are_dials_right : SpF := fun es μ P => ∃ (m : MO) (nb : Nat) (n : Int), es = [.c 0, .d (.int n)] ∧ μ = [m] ∧ IsHand nb m ∧ nb + 100 ≤ 10 ^ 9 ∧ 60 ≤ n ∧ n ≤ 10 ^ 15 ∧ ∀ (m' : MO), IsHand (nb + 100) m' → P (.d (.bool true)) [m']
theorem body__law_are_dials_right {X0 : Cx} {env0 : PySem.Env} (c__law_common : CalX X0 "_law_common" 1 sp__law_common) (c__law_is : CalX X0 "_law_is" 1 sp__law_is) (c__law_size : CalX X0 "_law_size" 4 sp__law_size) (c__law_draw : CalX X0 "_law_draw" 1 sp__law_draw) (m_max : X0.mg "max" = none) (c__law_multiple : CalX X0 "_law_multiple" 2 sp__law_multiple) (c__law_said : CalX X0 "_law_said" 7 sp__law_said) (c_floor_below : CalX X0 "floor_below" 6 sp_floor_below) (c__law_cell : CalX X0 "_law_cell" 4 sp__law_cell) (c_parts_of : CalX X0 "parts_of" 7 sp_parts_of) (c_does_close : CalX X0 "does_close" 6 sp_does_close) (m_range : X0.mg "range" = none) (c__law_some : CalX X0 "_law_some" 2 sp__law_some) (m_int : X0.mg "int" = none) (c_lies_over : CalX X0 "lies_over" 7 sp_lies_over) (c_group : CalX X0 "group" 5 sp_group) (c_is_one_ring : CalX X0 "is_one_ring" 5 sp_is_one_ring) (c__law_figures : CalX X0 "_law_figures" 3 sp__law_figures) (c_folded : CalX X0 "folded" 8 sp_folded) (B : Bx (mkX X0 env0 N__law_are_dials_right (defScope s__law_are_dials_right)) 8) :
    ∀ (es : List Ent) (μ μh : Mu) (Q : Ent → Mu → Prop), sp__law_are_dials_right es μ Q → DSs (mkX X0 env0 N__law_are_dials_right (defScope s__law_are_dials_right)) (defBody s__law_are_dials_right) (slots0 N__law_are_dials_right es) (μ ++ μh) (Zof μ.length μh Q) := by
  rintro es μ μh Q ⟨m, nb, n, rfl, rfl, hm, hnb, p0, p1, q⟩
  have Mn : Nm (mkX X0 env0 N__law_are_dials_right (defScope s__law_are_dials_right)) [0, 1, 2, 3, 4, 5, 6, 7, 8, 9, 10, 11, 12, 13, 14, 15, 16, 17, 18, 19, 20] := nm_of nm__law_are_dials_right
  have Ln : Lc (mkX X0 env0 N__law_are_dials_right (defScope s__law_are_dials_right)) [0, 1, 2, 3, 4, 5, 6, 7, 8, 9, 10, 11, 12, 13, 14, 15, 16, 17, 18, 19, 20] := lc_of lc__law_are_dials_right
  have g_range : Gb (mkX X0 env0 N__law_are_dials_right (defScope s__law_are_dials_right)) "range" := gb_of gb__law_are_dials_right_range
  have g__law_draw : Gb (mkX X0 env0 N__law_are_dials_right (defScope s__law_are_dials_right)) "_law_draw" := gb_of gb__law_are_dials_right__law_draw
  have g__law_some : Gb (mkX X0 env0 N__law_are_dials_right (defScope s__law_are_dials_right)) "_law_some" := gb_of gb__law_are_dials_right__law_some
  have g_max : Gb (mkX X0 env0 N__law_are_dials_right (defScope s__law_are_dials_right)) "max" := gb_of gb__law_are_dials_right_max
  have g_int : Gb (mkX X0 env0 N__law_are_dials_right (defScope s__law_are_dials_right)) "int" := gb_of gb__law_are_dials_right_int
  have g__law_is : Gb (mkX X0 env0 N__law_are_dials_right (defScope s__law_are_dials_right)) "_law_is" := gb_of gb__law_are_dials_right__law_is
  have g_lies_over : Gb (mkX X0 env0 N__law_are_dials_right (defScope s__law_are_dials_right)) "lies_over" := gb_of gb__law_are_dials_right_lies_over
  have g__law_multiple : Gb (mkX X0 env0 N__law_are_dials_right (defScope s__law_are_dials_right)) "_law_multiple" := gb_of gb__law_are_dials_right__law_multiple
  have g__law_common : Gb (mkX X0 env0 N__law_are_dials_right (defScope s__law_are_dials_right)) "_law_common" := gb_of gb__law_are_dials_right__law_common
  have g__law_said : Gb (mkX X0 env0 N__law_are_dials_right (defScope s__law_are_dials_right)) "_law_said" := gb_of gb__law_are_dials_right__law_said
  have g_floor_below : Gb (mkX X0 env0 N__law_are_dials_right (defScope s__law_are_dials_right)) "floor_below" := gb_of gb__law_are_dials_right_floor_below
  have g_group : Gb (mkX X0 env0 N__law_are_dials_right (defScope s__law_are_dials_right)) "group" := gb_of gb__law_are_dials_right_group
  have g_is_one_ring : Gb (mkX X0 env0 N__law_are_dials_right (defScope s__law_are_dials_right)) "is_one_ring" := gb_of gb__law_are_dials_right_is_one_ring
  have g__law_cell : Gb (mkX X0 env0 N__law_are_dials_right (defScope s__law_are_dials_right)) "_law_cell" := gb_of gb__law_are_dials_right__law_cell
  have g_folded : Gb (mkX X0 env0 N__law_are_dials_right (defScope s__law_are_dials_right)) "folded" := gb_of gb__law_are_dials_right_folded
  have g_parts_of : Gb (mkX X0 env0 N__law_are_dials_right (defScope s__law_are_dials_right)) "parts_of" := gb_of gb__law_are_dials_right_parts_of
  have g_does_close : Gb (mkX X0 env0 N__law_are_dials_right (defScope s__law_are_dials_right)) "does_close" := gb_of gb__law_are_dials_right_does_close
  -- a, b, c, e = [_law_size(hand, top) for turn in range(4)]
  refine dss_cons (ds_asg (de_cut (P' := fun en μ2 => ∃ a b c e m, en = .d (.list [.int a, .int b, .int c, .int e]) ∧ (2 ≤ a ∧ a ≤ n ∧ 2 ≤ b ∧ b ≤ n ∧ 2 ≤ c ∧ c ≤ n ∧ 2 ≤ e ∧ e ≤ n) ∧ IsHand (nb + 32) m ∧ m :: μh = μ2) (de_lcHandI (own := [("turn", 21)]) (g := (gName 21)) (fun i μ2 => ∃ m, IsHand (nb + 8 * i) m ∧ m :: μh = μ2) (fun d => ∃ x, d = .int x ∧ 2 ≤ x ∧ x ≤ n) rfl Ln.nd (blkOk_by (by show blkC N__law_are_dials_right (defScope s__law_are_dials_right) _ _ = true; decide +kernel)) (fun _ _ _ _ _ => pg_name (i := 21) Ln.nd rfl (Or.inl rfl)) (di_range1 g_range m_range (de_int ⟨_, rfl, (by decide), (by decide), ⟨(by first | exact ltS (n := 1) rfl (by decide) | exact ltS (n := 2) rfl (by decide) | exact ltS (n := 3) rfl (by decide) | exact ltS (n := 4) rfl (by decide) | exact ltS (n := 5) rfl (by decide) | exact ltS (n := 6) rfl (by decide)), ⟨_, hm.mono (by omega), rfl⟩, ?_, fun acc mu hlen hall hmi => ?_⟩⟩))) fun en μc hc => ?_))
  · intro i d hd acc mu hmi
    have hi := (rgi_get hd).1; simp only [Int.reduceToNat] at hi; obtain ⟨m, hm, rfl⟩ := hmi
    refine (dgc_name (by decide) (fun _ _ _ _ _ => (de_callH (bx_blk B) c__law_size (by decide) (gb_blk (x := "_law_size") rfl) (da_cons (de_var (i := 0) (nm_blk (vi := [0, 1, 21]) rfl) rfl (by decide) rfl (da_cons (de_var (i := 1) (nm_blk (vi := [0, 1, 21]) rfl) rfl (by decide) rfl (da_nil ⟨_, _, _, rfl, rfl, rfl, _, _, _, rfl, rfl, (by assumption), (by omega), (by first | assumption | omega | (simp; done) | exact .inl ⟨_, rfl⟩ | exact .inl ⟨_, _, _, rfl⟩ | exact .inr rfl), (by first | assumption | omega | (simp; done) | exact .inl ⟨_, rfl⟩ | exact .inl ⟨_, _, _, rfl⟩ | exact .inr rfl), fun m1 r1 hm1 h10 h11 => ⟨_, rfl, rfl, ⟨_, _ :: μh, rfl, rfl, ⟨_, IsHand.mono (by assumption) (by omega), rfl⟩, ⟨_, rfl, by omega, by omega⟩⟩⟩⟩))))))))
  · obtain ⟨m, hm, rfl⟩ := hmi
    obtain ⟨d1, d2, d3, d4, rfl⟩ := len4 hlen
    obtain ⟨a, rfl, q1, q2⟩ := hall d1 (by simp)
    obtain ⟨b, rfl, q3, q4⟩ := hall d2 (by simp)
    obtain ⟨c, rfl, q5, q6⟩ := hall d3 (by simp)
    obtain ⟨e, rfl, q7, q8⟩ := hall d4 (by simp)
    exact ⟨a, b, c, e, m, rfl, ⟨q1, q2, q3, q4, q5, q6, q7, q8⟩, hm.mono (by rw [rgi_len]; simp), rfl⟩
  obtain ⟨a, b, c, e, m, rfl, hbd, hm, rfl⟩ := hc
  refine (dg_unl rfl rfl (dgs_name (i := 2) Ln rfl (by decide) (dgs_name (i := 3) Ln rfl (by decide) (dgs_name (i := 4) Ln rfl (by decide) (dgs_name (i := 5) Ln rfl (by decide) (dgs_nil ?_))))))
  -- if _law_draw(hand, 2) == 0
  refine dss_cons (ds_cut (J := fun ρ μ2 => ∃ c e m, (0 ≤ c ∧ c ≤ n ∧ 0 ≤ e ∧ e ≤ n) ∧ IsHand (nb + 34) m ∧ ρ = [some (.c 0), some (.d (.int n)), some (.d (.int a)), some (.d (.int b)), some (.d (.int c)), some (.d (.int e)), none, none, none, none, none, none, none, none, none, none, none, none, none, none, none, none, none] ∧ m :: μh = μ2) (ds_if (dt_cmp op_eq (nomark _) (de_callH B c__law_draw (by decide) g__law_draw (da_cons (de_var (i := 0) Mn rfl (by decide) rfl (da_cons (de_int (da_nil ⟨_, _, _, rfl, rfl, rfl, _, _, _, rfl, rfl, (by assumption), (by omega), (by first | assumption | omega | (simp; done) | exact .inl ⟨_, rfl⟩ | exact .inl ⟨_, _, _, rfl⟩ | exact .inr rfl), (by first | assumption | omega | (simp; done) | exact .inl ⟨_, rfl⟩ | exact .inl ⟨_, _, _, rfl⟩ | exact .inr rfl), fun m2 r2 hm2 h20 h21 => ⟨_, rfl, rfl, (de_int (rv_eqI ⟨_, _, rfl, rfl, ⟨_, rfl, ⟨fun ht => ?_, fun ht => ?_⟩⟩⟩))⟩⟩)))))))) ?_)
  · try simp only [decide_eq_true_eq, decide_eq_false_iff_not, bne_iff_ne, Bool.not_eq_true', Bool.not_eq_false', ne_eq, beq_iff_eq] at ht
    -- c, e = (a // _law_some(hand, [n for n in (1, 2, 3, 6) if int(a) % n == 0]), b)
    refine dss_cons (ds_par (i := 4) (j := 5) Ln rfl rfl rfl (by decide) rfl rfl (da_cons (de_bin op_fdivW (de_var (i := 2) Mn rfl (by decide) rfl (de_callH B c__law_some (by decide) g__law_some (da_cons (de_var (i := 0) Mn rfl (by decide) rfl (da_cons (de_cut (P' := fun en μ2 => ∃ xs : List Int, en = .d (.list (xs.map .int)) ∧ (0 < xs.length ∧ xs.length ≤ 4 ∧ ∀ x ∈ xs, 1 ≤ x ∧ x ≤ 6) ∧ m2 :: μh = μ2) (de_lcFil (own := [("n", 22)]) (g := (gName 22)) (fun d => d) (divF a) rfl Ln.nd (blkOk_by (by show blkC N__law_are_dials_right (defScope s__law_are_dials_right) _ _ = true; decide +kernel)) (fun _ _ _ _ _ => pg_name (i := 22) Ln.nd rfl (Or.inl rfl)) (di_tup (de_tup (da_cons (de_int (da_cons (de_int (da_cons (de_int (da_cons (de_int (da_nil ⟨[_, _, _, _], rfl, lenS (n := 4) rfl (by decide), ⟨_, rfl, ⟨(by first | exact ltS (n := 1) rfl (by decide) | exact ltS (n := 2) rfl (by decide) | exact ltS (n := 3) rfl (by decide) | exact ltS (n := 4) rfl (by decide) | exact ltS (n := 5) rfl (by decide) | exact ltS (n := 6) rfl (by decide)), ?_, ?_⟩⟩⟩)))))))))))) fun en μc hc => ?_)))))))) rfl)
    · intro d hd acc
      obtain ⟨z, rfl, hz⟩ := mem1236 hd
      refine (dgc_name (by decide) (fun _ _ _ _ _ => (dt_cmp op_eq (nomark _) (de_bin op_mod (de_callT call_int1 (gb_blk (x := "int") rfl) m_int (by decide +kernel) (da_cons (de_var (i := 2) (nm_blk (vi := [2, 22]) rfl) rfl (by decide) rfl (da_nil (rc_int ⟨_, rfl, (de_var (i := 22) (nm_blk (vi := [2, 22]) rfl) rfl (by decide) rfl (rv_ic ⟨_, _, rfl, rfl, (by show (0 : Int) < _; first | omega | (simp only [List.mem_cons, List.not_mem_nil, or_false] at *; omega) | (simp only [List.mem_cons, List.not_mem_nil, or_false] at *; split <;> omega)), (de_int (rv_eqI ⟨_, _, rfl, rfl, ⟨_, rfl, ⟨rfl, rfl, fun hcf _ _ _ _ _ => (de_var (i := 22) (nm_blk (vi := [2, 22]) rfl) rfl (by decide) rfl ⟨rfl, rfl⟩)⟩⟩⟩))⟩))⟩)))))))))
    · exact ⟨_, by rw [div_list], div_ok, rfl⟩
    obtain ⟨xs, rfl, ⟨x1, x2, x3⟩, rfl⟩ := hc
    refine (da_nil ⟨_, _, _, rfl, rfl, rfl, _, _, _, rfl, rfl, (by assumption), (by omega), (by first | assumption | omega | (simp; done) | exact .inl ⟨_, rfl⟩ | exact .inl ⟨_, _, _, rfl⟩ | exact .inr rfl), (by first | assumption | omega | (simp; done) | exact .inl ⟨_, rfl⟩ | exact .inl ⟨_, _, _, rfl⟩ | exact .inr rfl), fun m3 r3 hm3 h30 => ⟨_, rfl, rfl, (rv_ic ⟨_, _, rfl, rfl, (cdivB (by have := x3 _ h30; omega) (by have := x3 _ h30; omega)), (da_cons (de_var (i := 3) Mn rfl (by decide) rfl (da_nil ⟨_, _, rfl, ?_⟩)))⟩)⟩⟩)
    have hx := x3 _ h30
    have y1 := Int.ediv_nonneg (show 0 ≤ a by omega) (show 0 ≤ r3 by omega)
    have y2 := Int.ediv_le_self r3 (show 0 ≤ a by omega)
    exact dss_nil ⟨a / r3, b, m3, by omega, hm3.mono (by omega), rfl, rfl⟩
  · try simp only [decide_eq_true_eq, decide_eq_false_iff_not, bne_iff_ne, Bool.not_eq_true', Bool.not_eq_false', ne_eq, beq_iff_eq] at ht
    exact dss_nil ⟨c, e, m2, by omega, hm2.mono (by omega), rfl, rfl⟩
  · rintro ρ μ2 ⟨c0, e0, m, hce, hm, rfl, rfl⟩
    -- c, e = (max(2, c), max(2, e))
    refine dss_cons (ds_par (i := 4) (j := 5) Ln rfl rfl rfl (by decide) rfl rfl (da_cons (de_callB (call_max2 rfl) g_max m_max (by decide +kernel) (da_cons (de_int (da_cons (de_var (i := 4) Mn rfl (by decide) rfl (da_nil (rc_max2 ⟨_, _, rfl, (da_cons (de_callB (call_max2 rfl) g_max m_max (by decide +kernel) (da_cons (de_int (da_cons (de_var (i := 5) Mn rfl (by decide) rfl (da_nil (rc_max2 ⟨_, _, rfl, (da_nil ⟨_, _, rfl, ?_⟩)⟩))))))))⟩)))))))) rfl)
    generalize hcc : (if c0 > 2 then c0 else 2) = c
    generalize hee : (if e0 > 2 then e0 else 2) = e
    have hc2 : 2 ≤ c ∧ c ≤ n := by
      rw [← hcc]
      split <;> omega
    have he2 : 2 ≤ e ∧ e ≤ n := by
      rw [← hee]
      split <;> omega
    have F1 : IsF a b 0 := by omega
    have F2 : IsF c e 0 := by omega
    refine dss_at (ρ' := [some (.c 0), some (.d (.int n)), some (.d (.int a)), some (.d (.int b)), some (.d (.int c)), some (.d (.int e)), none, none, none, none, none, none, none, none, none, none, none, none, none, none, none, none, none]) rfl ?_
    -- one, other = ((a, b, 0), (c, e, 0))
    refine dss_cons (ds_asg (de_tup (da_cons (de_tup (da_cons (de_var (i := 2) Mn rfl (by decide) rfl (da_cons (de_var (i := 3) Mn rfl (by decide) rfl (da_cons (de_int (da_nil ⟨[_, _, _], rfl, lenS (n := 3) rfl (by decide), (da_cons (de_tup (da_cons (de_var (i := 4) Mn rfl (by decide) rfl (da_cons (de_var (i := 5) Mn rfl (by decide) rfl (da_cons (de_int (da_nil ⟨[_, _, _], rfl, lenS (n := 3) rfl (by decide), (da_nil ⟨[_, _], rfl, lenS (n := 2) rfl (by decide), (dg_tup rfl rfl (dgs_name (i := 6) Ln rfl (by decide) (dgs_name (i := 7) Ln rfl (by decide) (dgs_nil ?_))))⟩)⟩)))))))))⟩)))))))))))
    refine dss_at (ρ' := [some (.c 0), some (.d (.int n)), some (.d (.int a)), some (.d (.int b)), some (.d (.int c)), some (.d (.int e)), some (.d (fl a b 0)), some (.d (fl c e 0)), none, none, none, none, none, none, none, none, none, none, none, none, none, none, none]) rfl ?_
    -- over = int(a) % c == 0 and int(b) % e == 0
    refine dss_cons (ds_set (i := 8) Ln rfl (by decide) (de_cut (P' := fun en μ2 => ∃ r : Bool, en = .d (.bool r) ∧ (r = true ↔ c ∣ a ∧ e ∣ b) ∧ m :: μh = μ2) (de_and (de_cmp op_eq (nomark _) (de_bin op_mod (de_callT call_int1 g_int m_int (by decide +kernel) (da_cons (de_var (i := 2) Mn rfl (by decide) rfl (da_nil (rc_int ⟨_, rfl, (de_var (i := 4) Mn rfl (by decide) rfl (rv_ic ⟨_, _, rfl, rfl, (by show (0 : Int) < _; first | omega | (simp only [List.mem_cons, List.not_mem_nil, or_false] at *; omega) | (simp only [List.mem_cons, List.not_mem_nil, or_false] at *; split <;> omega)), (de_int (rv_eqI ⟨_, _, rfl, rfl, ⟨_, rfl, fun hb1 => (de_one (de_cmp op_eq (nomark _) (de_bin op_mod (de_callT call_int1 g_int m_int (by decide +kernel) (da_cons (de_var (i := 3) Mn rfl (by decide) rfl (da_nil (rc_int ⟨_, rfl, (de_var (i := 5) Mn rfl (by decide) rfl (rv_ic ⟨_, _, rfl, rfl, (by show (0 : Int) < _; first | omega | (simp only [List.mem_cons, List.not_mem_nil, or_false] at *; omega) | (simp only [List.mem_cons, List.not_mem_nil, or_false] at *; split <;> omega)), (de_int (rv_eqI ⟨_, _, rfl, rfl, ?_⟩))⟩))⟩)))))))), fun hb1 => ?_⟩⟩))⟩))⟩)))))))) fun en μc hc => ?_))
    · exact ⟨_, rfl, by rw [decide_eq_true_eq]; exact ⟨fun z => ⟨Int.dvd_of_emod_eq_zero (of_decide_eq_true hb1), Int.dvd_of_emod_eq_zero z⟩, fun z => Int.emod_eq_zero_of_dvd z.2⟩, rfl⟩
    · exact ⟨_, rfl, ⟨(fun z => nomatch z), fun z => absurd (Int.emod_eq_zero_of_dvd z.1) (of_decide_eq_false hb1)⟩, rfl⟩
    obtain ⟨ro, rfl, hro, rfl⟩ := hc
    -- if not _law_is([lies_over(one, other), lies_over(other, one)], [over, int(c) % a == 0 and int(e) % b == 0])
    refine dss_cons (ds_if (dt_not (dt_val (de_call B c__law_is (by decide) g__law_is (da_cons (de_lst (da_cons (de_call B c_lies_over (by decide) g_lies_over (da_cons (de_var (i := 6) Mn rfl (by decide) rfl (da_cons (de_var (i := 7) Mn rfl (by decide) rfl (da_nil ⟨rfl, _, _, _, _, _, _, rfl, rfl, (by first | assumption | omega | (simp; done) | exact .inl ⟨_, rfl⟩ | exact .inl ⟨_, _, _, rfl⟩ | exact .inr rfl), (by first | assumption | omega | (simp; done) | exact .inl ⟨_, rfl⟩ | exact .inl ⟨_, _, _, rfl⟩ | exact .inr rfl), fun r6 h60 => ⟨rfl, (da_cons (de_call B c_lies_over (by decide) g_lies_over (da_cons (de_var (i := 7) Mn rfl (by decide) rfl (da_cons (de_var (i := 6) Mn rfl (by decide) rfl (da_nil ⟨rfl, _, _, _, _, _, _, rfl, rfl, (by first | assumption | omega | (simp; done) | exact .inl ⟨_, rfl⟩ | exact .inl ⟨_, _, _, rfl⟩ | exact .inr rfl), (by first | assumption | omega | (simp; done) | exact .inl ⟨_, rfl⟩ | exact .inl ⟨_, _, _, rfl⟩ | exact .inr rfl), fun r5 h50 => ⟨rfl, (da_nil ⟨[_, _], rfl, lenS (n := 2) rfl (by decide), (da_cons (de_lst (da_cons (de_var (i := 8) Mn rfl (by decide) rfl (da_cons (de_cut (P' := fun en μ2 => ∃ r : Bool, en = .d (.bool r) ∧ (r = true ↔ a ∣ c ∧ b ∣ e) ∧ m :: μh = μ2) (de_and (de_cmp op_eq (nomark _) (de_bin op_mod (de_callT call_int1 g_int m_int (by decide +kernel) (da_cons (de_var (i := 4) Mn rfl (by decide) rfl (da_nil (rc_int ⟨_, rfl, (de_var (i := 2) Mn rfl (by decide) rfl (rv_ic ⟨_, _, rfl, rfl, (by show (0 : Int) < _; first | omega | (simp only [List.mem_cons, List.not_mem_nil, or_false] at *; omega) | (simp only [List.mem_cons, List.not_mem_nil, or_false] at *; split <;> omega)), (de_int (rv_eqI ⟨_, _, rfl, rfl, ⟨_, rfl, fun hb2 => (de_one (de_cmp op_eq (nomark _) (de_bin op_mod (de_callT call_int1 g_int m_int (by decide +kernel) (da_cons (de_var (i := 5) Mn rfl (by decide) rfl (da_nil (rc_int ⟨_, rfl, (de_var (i := 3) Mn rfl (by decide) rfl (rv_ic ⟨_, _, rfl, rfl, (by show (0 : Int) < _; first | omega | (simp only [List.mem_cons, List.not_mem_nil, or_false] at *; omega) | (simp only [List.mem_cons, List.not_mem_nil, or_false] at *; split <;> omega)), (de_int (rv_eqI ⟨_, _, rfl, rfl, ?_⟩))⟩))⟩)))))))), fun hb2 => ?_⟩⟩))⟩))⟩)))))))) fun en μc hc => ?_))))))⟩)⟩⟩)))))))⟩⟩)))))))))))))
    · exact ⟨_, rfl, by rw [decide_eq_true_eq]; exact ⟨fun z => ⟨Int.dvd_of_emod_eq_zero (of_decide_eq_true hb2), Int.dvd_of_emod_eq_zero z⟩, fun z => Int.emod_eq_zero_of_dvd z.2⟩, rfl⟩
    · exact ⟨_, rfl, ⟨(fun z => nomatch z), fun z => absurd (Int.emod_eq_zero_of_dvd z.1) (of_decide_eq_false hb2)⟩, rfl⟩
    obtain ⟨r2, rfl, hr2, rfl⟩ := hc
    refine (da_nil ⟨[_, _], rfl, lenS (n := 2) rfl (by decide), (da_nil ⟨rfl, _, _, rfl, rfl, ?_, ?_, ⟨rfl, ⟨_, rfl, ⟨fun ht => (nomatch ht), fun ht => dss_nil ?_⟩⟩⟩⟩)⟩)
    · rw [bool_eq (h60.trans (over_dial F1 F2)) hro, bool_eq (h50.trans (over_dial F2 F1)) hr2]
    · exact okR_list (by simp) (by simp only [List.mem_cons, List.not_mem_nil, or_false]; rintro d (rfl | rfl) <;> exact okS_bl)
    -- wide, high = (_law_multiple(a, c), _law_multiple(b, e))
    refine dss_cons (ds_par (i := 9) (j := 10) Ln rfl rfl rfl (by decide) rfl rfl (da_cons (de_call B c__law_multiple (by decide) g__law_multiple (da_cons (de_var (i := 2) Mn rfl (by decide) rfl (da_cons (de_var (i := 4) Mn rfl (by decide) rfl (da_nil ⟨rfl, _, _, rfl, rfl, (by first | assumption | omega | (simp; done) | exact .inl ⟨_, rfl⟩ | exact .inl ⟨_, _, _, rfl⟩ | exact .inr rfl), (by first | assumption | omega | (simp; done) | exact .inl ⟨_, rfl⟩ | exact .inl ⟨_, _, _, rfl⟩ | exact .inr rfl), (by first | assumption | omega | (simp; done) | exact .inl ⟨_, rfl⟩ | exact .inl ⟨_, _, _, rfl⟩ | exact .inr rfl), (by first | assumption | omega | (simp; done) | exact .inl ⟨_, rfl⟩ | exact .inl ⟨_, _, _, rfl⟩ | exact .inr rfl), ⟨rfl, (da_cons (de_call B c__law_multiple (by decide) g__law_multiple (da_cons (de_var (i := 3) Mn rfl (by decide) rfl (da_cons (de_var (i := 5) Mn rfl (by decide) rfl (da_nil ⟨rfl, _, _, rfl, rfl, (by first | assumption | omega | (simp; done) | exact .inl ⟨_, rfl⟩ | exact .inl ⟨_, _, _, rfl⟩ | exact .inr rfl), (by first | assumption | omega | (simp; done) | exact .inl ⟨_, rfl⟩ | exact .inl ⟨_, _, _, rfl⟩ | exact .inr rfl), (by first | assumption | omega | (simp; done) | exact .inl ⟨_, rfl⟩ | exact .inl ⟨_, _, _, rfl⟩ | exact .inr rfl), (by first | assumption | omega | (simp; done) | exact .inl ⟨_, rfl⟩ | exact .inl ⟨_, _, _, rfl⟩ | exact .inr rfl), ⟨rfl, (da_nil ⟨_, _, rfl, ?_⟩)⟩⟩)))))))⟩⟩))))))) rfl)
    have hL := lcmF (b := a) (b' := c) (by omega) (by omega)
    have hH := lcmF (b := b) (b' := e) (by omega) (by omega)
    generalize hLd : a / (Int.gcd a c : Int) * c = L at hL ⊢
    generalize hHd : b / (Int.gcd b e : Int) * e = H at hH ⊢
    have Lp := hL.pos
    have Hp := hH.pos
    -- due = (wide, high, 0) if max(wide, high) <= 10 ** 15 else 'great'
    refine dss_cons (ds_set (i := 11) Ln rfl (by decide) (de_cut (P' := fun en μ2 => en = .d (if L ≤ 10 ^ 15 ∧ H ≤ 10 ^ 15 then fl L H 0 else .str "great") ∧ m :: μh = μ2) (de_if (dt_cmp op_le (nomark _) (de_callB (call_max2 rfl) g_max m_max (by decide +kernel) (da_cons (de_var (i := 9) Mn rfl (by decide) rfl (da_cons (de_var (i := 10) Mn rfl (by decide) rfl (da_nil (rc_max2 ⟨_, _, rfl, (de_bin op_pow (de_int (de_int (rv_ic2 (10 ^ 15) ⟨_, _, rfl, rfl, ⟨by decide, by decide, by decide⟩, rfl, (rv_b0 ⟨_, _, rfl, rfl, ⟨_, rfl, ⟨fun hi => (de_tup (da_cons (de_var (i := 9) Mn rfl (by decide) rfl (da_cons (de_var (i := 10) Mn rfl (by decide) rfl (da_cons (de_int (da_nil ⟨[_, _, _], rfl, lenS (n := 3) rfl (by decide), ?_⟩)))))))), fun hi => (de_str ?_)⟩⟩⟩)⟩))))⟩))))))))) fun en μc hc => ?_))
    · have hi := of_decide_eq_true hi
      refine ⟨?_, rfl⟩
      rw [if_pos (by split at hi <;> omega)]
    · have hi := of_decide_eq_false hi
      refine ⟨?_, rfl⟩
      rw [if_neg (by split at hi <;> omega)]
    obtain ⟨rfl, rfl⟩ := hc
    -- less, low = (_law_common(a, c), _law_common(b, e))
    refine dss_cons (ds_par (i := 12) (j := 13) Ln rfl rfl rfl (by decide) rfl rfl (da_cons (de_call B c__law_common (by decide) g__law_common (da_cons (de_var (i := 2) Mn rfl (by decide) rfl (da_cons (de_var (i := 4) Mn rfl (by decide) rfl (da_nil ⟨rfl, _, _, rfl, rfl, ⟨rfl, (da_cons (de_call B c__law_common (by decide) g__law_common (da_cons (de_var (i := 3) Mn rfl (by decide) rfl (da_cons (de_var (i := 5) Mn rfl (by decide) rfl (da_nil ⟨rfl, _, _, rfl, rfl, ⟨rfl, (da_nil ⟨_, _, rfl, ?_⟩)⟩⟩)))))))⟩⟩))))))) rfl)
    -- under = (less, low, 0) if less > 1 and low > 1 else None
    refine dss_cons (ds_set (i := 14) Ln rfl (by decide) (de_cut (P' := fun en μ2 => en = .d (if (Int.gcd a c : Int) > 1 ∧ (Int.gcd b e : Int) > 1 then fl (Int.gcd a c) (Int.gcd b e) 0 else .none) ∧ m :: μh = μ2) (de_if (dt_bool (dw_and (dt_cmp op_gt (nomark _) (de_var (i := 12) Mn rfl (by decide) rfl (de_int (rv_b0 ⟨_, _, rfl, rfl, ⟨_, rfl, ⟨fun hb3 => (dw_and1 (dt_cmp op_gt (nomark _) (de_var (i := 13) Mn rfl (by decide) rfl (de_int (rv_b0 ⟨_, _, rfl, rfl, ⟨_, rfl, ⟨fun hi => (de_tup (da_cons (de_var (i := 12) Mn rfl (by decide) rfl (da_cons (de_var (i := 13) Mn rfl (by decide) rfl (da_cons (de_int (da_nil ⟨[_, _, _], rfl, lenS (n := 3) rfl (by decide), ?_⟩)))))))), fun hi => (de_non ?_)⟩⟩⟩))))), fun hb3 => ⟨fun hi => (de_tup (da_cons (de_var (i := 12) Mn rfl (by decide) rfl (da_cons (de_var (i := 13) Mn rfl (by decide) rfl (da_cons (de_int (da_nil ⟨[_, _, _], rfl, lenS (n := 3) rfl (by decide), ?_⟩)))))))), fun hi => (de_non ?_)⟩⟩⟩⟩))))))) fun en μc hc => ?_))
    · exact ⟨by rw [if_pos ⟨of_decide_eq_true hb3, of_decide_eq_true hi⟩], rfl⟩
    · exact ⟨by rw [if_neg fun z => absurd z.2 (of_decide_eq_false hi)], rfl⟩
    · exact nomatch hi
    · exact ⟨by rw [if_neg fun z => absurd z.1 (of_decide_eq_false hb3)], rfl⟩
    obtain ⟨rfl, rfl⟩ := hc
    have ga0 := gcd_pos' (t := a) (m := c) (by omega)
    have ga1 := gcd_le' (t := a) (m := c) (by omega)
    have gb0 := gcd_pos' (t := b) (m := e) (by omega)
    have gb1 := gcd_le' (t := b) (m := e) (by omega)
    generalize hDue : (if L ≤ 10 ^ 15 ∧ H ≤ 10 ^ 15 then fl L H 0 else PyData.str "great") = Du
    generalize hUn : (if (Int.gcd a c : Int) > 1 ∧ (Int.gcd b e : Int) > 1 then fl (Int.gcd a c) (Int.gcd b e) 0 else PyData.none) = U
    have sDu : OkS Du := by
      rw [← hDue]
      split
      · exact okS_fl (by omega)
      · exact okS_great
    have hU : (∃ x y, U = fl x y 0 ∧ IsF x y 0) ∨ U = .none := by
      rw [← hUn]
      split
      · exact .inl ⟨_, _, rfl, by omega⟩
      · exact .inr rfl
    have sU : OkS U := by
      rcases hU with ⟨x, y, e1, hF⟩ | e1
      · rw [e1]
        exact okS_fl (by omega)
      · rw [e1]
        exact okS_non
    refine dss_at (ρ' := [some (.c 0), some (.d (.int n)), some (.d (.int a)), some (.d (.int b)), some (.d (.int c)), some (.d (.int e)), some (.d (fl a b 0)), some (.d (fl c e 0)), some (.d (.bool ro)), some (.d (.int L)), some (.d (.int H)), some (.d Du), some (.d (.int (Int.gcd a c))), some (.d (.int (Int.gcd b e))), some (.d U), none, none, none, none, none, none, none, none]) rfl ?_
    -- told = [_law_said(one, other), _law_said(other, one), floor_below(one, other), floor_below(other, one)]
    refine dss_cons (ds_set (i := 15) Ln rfl (by decide) (de_lst (da_cons (de_call B c__law_said (by decide) g__law_said (da_cons (de_var (i := 6) Mn rfl (by decide) rfl (da_cons (de_var (i := 7) Mn rfl (by decide) rfl (da_nil ⟨rfl, _, _, _, _, _, _, rfl, rfl, (by first | assumption | omega | (simp; done) | exact .inl ⟨_, rfl⟩ | exact .inl ⟨_, _, _, rfl⟩ | exact .inr rfl), (by first | assumption | omega | (simp; done) | exact .inl ⟨_, rfl⟩ | exact .inl ⟨_, _, _, rfl⟩ | exact .inr rfl), fun d14 h140 => ⟨rfl, (da_cons (de_call B c__law_said (by decide) g__law_said (da_cons (de_var (i := 7) Mn rfl (by decide) rfl (da_cons (de_var (i := 6) Mn rfl (by decide) rfl (da_nil ⟨rfl, _, _, _, _, _, _, rfl, rfl, (by first | assumption | omega | (simp; done) | exact .inl ⟨_, rfl⟩ | exact .inl ⟨_, _, _, rfl⟩ | exact .inr rfl), (by first | assumption | omega | (simp; done) | exact .inl ⟨_, rfl⟩ | exact .inl ⟨_, _, _, rfl⟩ | exact .inr rfl), fun d13 h130 => ⟨rfl, (da_cons (de_call B c_floor_below (by decide) g_floor_below (da_cons (de_var (i := 6) Mn rfl (by decide) rfl (da_cons (de_var (i := 7) Mn rfl (by decide) rfl (da_nil ⟨rfl, _, _, _, _, _, _, rfl, rfl, (by first | assumption | omega | (simp; done) | exact .inl ⟨_, rfl⟩ | exact .inl ⟨_, _, _, rfl⟩ | exact .inr rfl), (by first | assumption | omega | (simp; done) | exact .inl ⟨_, rfl⟩ | exact .inl ⟨_, _, _, rfl⟩ | exact .inr rfl), fun d12 h120 => ⟨rfl, (da_cons (de_call B c_floor_below (by decide) g_floor_below (da_cons (de_var (i := 7) Mn rfl (by decide) rfl (da_cons (de_var (i := 6) Mn rfl (by decide) rfl (da_nil ⟨rfl, _, _, _, _, _, _, rfl, rfl, (by first | assumption | omega | (simp; done) | exact .inl ⟨_, rfl⟩ | exact .inl ⟨_, _, _, rfl⟩ | exact .inr rfl), (by first | assumption | omega | (simp; done) | exact .inl ⟨_, rfl⟩ | exact .inl ⟨_, _, _, rfl⟩ | exact .inr rfl), fun d11 h110 => ⟨rfl, (da_nil ⟨[_, _, _, _], rfl, lenS (n := 4) rfl (by decide), ?_⟩)⟩⟩)))))))⟩⟩)))))))⟩⟩)))))))⟩⟩)))))))))
    have e1 : d14 = Du := by rw [said_dial F1 F2 h140, hLd, hHd, hDue]
    have e2 : d13 = Du := by rw [said_dial F2 F1 h130, lcm_swap a c (by omega) (by omega), lcm_swap b e (by omega) (by omega), hLd, hHd, hDue]
    have e3 : d12 = U := (below_dial F1 F2 h120).trans hUn
    have e4 : d11 = U := by rw [below_dial F2 F1 h110, Int.gcd_comm c a, Int.gcd_comm e b, hUn]
    -- if not _law_is(told, [due, due, under, under])
    refine dss_cons (ds_if (dt_not (dt_val (de_call B c__law_is (by decide) g__law_is (da_cons (de_var (i := 15) Mn rfl (by decide) rfl (da_cons (de_lst (da_cons (de_var (i := 11) Mn rfl (by decide) rfl (da_cons (de_var (i := 11) Mn rfl (by decide) rfl (da_cons (de_var (i := 14) Mn rfl (by decide) rfl (da_cons (de_var (i := 14) Mn rfl (by decide) rfl (da_nil ⟨[_, _, _, _], rfl, lenS (n := 4) rfl (by decide), (da_nil ⟨rfl, _, _, rfl, rfl, ?_, ?_, ⟨rfl, ⟨_, rfl, ⟨fun ht => (nomatch ht), fun ht => dss_nil ?_⟩⟩⟩⟩)⟩)))))))))))))))))
    · rw [e1, e2, e3, e4]
    · exact okR_list (by simp) (by simp only [List.mem_cons, List.not_mem_nil, or_false]; intro d hd; rcases hd with h | h | h | h <;> rw [h] <;> simp only [e1, e2, e3, e4] <;> assumption)
    refine dss_at (ρ' := [some (.c 0), some (.d (.int n)), some (.d (.int a)), some (.d (.int b)), some (.d (.int c)), some (.d (.int e)), some (.d (fl a b 0)), some (.d (fl c e 0)), some (.d (.bool ro)), some (.d (.int L)), some (.d (.int H)), some (.d Du), some (.d (.int (Int.gcd a c))), some (.d (.int (Int.gcd b e))), some (.d U), some (.d (.list [d14, d13, d12, d11])), none, none, none, none, none, none, none]) rfl ?_
    -- k = _law_common(a, b)
    refine dss_cons (ds_set (i := 16) Ln rfl (by decide) (de_call B c__law_common (by decide) g__law_common (da_cons (de_var (i := 2) Mn rfl (by decide) rfl (da_cons (de_var (i := 3) Mn rfl (by decide) rfl (da_nil ⟨rfl, _, _, rfl, rfl, ⟨rfl, ?_⟩⟩)))))))
    have gk0 := gcd_pos' (t := a) (m := b) (by omega)
    have gk1 := gcd_le' (t := a) (m := b) (by omega)
    have abk : (a * b / (Int.gcd a b : Int)).natAbs ≤ 10 ^ 60 := ediv_abs gk0 (mul_abs (n := 10 ^ 15) (m := 10 ^ 15) (by omega) (by omega) (by decide))
    have g0 : Int.gcd (Int.gcd a b : Int) 0 = Int.gcd a b := by simp
    -- if not _law_is([group(one), is_one_ring(one)], [(k, a * b // k), k == 1])
    refine dss_cons (ds_if (dt_not (dt_val (de_call B c__law_is (by decide) g__law_is (da_cons (de_lst (da_cons (de_call B c_group (by decide) g_group (da_cons (de_var (i := 6) Mn rfl (by decide) rfl (da_nil ⟨rfl, _, _, _, rfl, rfl, (by first | assumption | omega | (simp; done) | exact .inl ⟨_, rfl⟩ | exact .inl ⟨_, _, _, rfl⟩ | exact .inr rfl), ⟨rfl, (da_cons (de_call B c_is_one_ring (by decide) g_is_one_ring (da_cons (de_var (i := 6) Mn rfl (by decide) rfl (da_nil ⟨rfl, _, _, _, rfl, rfl, (by first | assumption | omega | (simp; done) | exact .inl ⟨_, rfl⟩ | exact .inl ⟨_, _, _, rfl⟩ | exact .inr rfl), fun r18 h180 => ⟨rfl, (da_nil ⟨[_, _], rfl, lenS (n := 2) rfl (by decide), (da_cons (de_lst (da_cons (de_tup (da_cons (de_var (i := 16) Mn rfl (by decide) rfl (da_cons (de_bin op_fdivW (de_bin op_mulW (de_var (i := 2) Mn rfl (by decide) rfl (de_var (i := 3) Mn rfl (by decide) rfl (rv_ic ⟨_, _, rfl, rfl, (cmulB (by first | omega | (simp only [List.mem_cons, List.not_mem_nil, or_false] at *; omega) | (simp only [List.mem_cons, List.not_mem_nil, or_false] at *; split <;> omega)) (by first | omega | (simp only [List.mem_cons, List.not_mem_nil, or_false] at *; omega) | (simp only [List.mem_cons, List.not_mem_nil, or_false] at *; split <;> omega))), (de_var (i := 16) Mn rfl (by decide) rfl (rv_ic ⟨_, _, rfl, rfl, (cdivB (by first | omega | (simp only [List.mem_cons, List.not_mem_nil, or_false] at *; omega) | (simp only [List.mem_cons, List.not_mem_nil, or_false] at *; split <;> omega)) (by first | omega | (simp only [List.mem_cons, List.not_mem_nil, or_false] at *; omega) | (simp only [List.mem_cons, List.not_mem_nil, or_false] at *; split <;> omega))), (da_nil ⟨[_, _], rfl, lenS (n := 2) rfl (by decide), (da_cons (de_cmp op_eq (nomark _) (de_var (i := 16) Mn rfl (by decide) rfl (de_int (rv_eqI ⟨_, _, rfl, rfl, (da_nil ⟨[_, _], rfl, lenS (n := 2) rfl (by decide), (da_nil ⟨rfl, _, _, rfl, rfl, ?_, ?_, ⟨rfl, ⟨_, rfl, ⟨fun ht => (nomatch ht), fun ht => dss_nil ?_⟩⟩⟩⟩)⟩)⟩)))))⟩)⟩))⟩))))))))))))⟩)⟩⟩)))))⟩⟩)))))))))))
    · rw [g0] at h180 ⊢
      rw [bool_eq (r' := decide ((Int.gcd a b : Int) = 1)) h180 (by rw [decide_eq_true_eq]; omega)]
    · rw [g0]
      exact okR_list (by simp) (by simp only [List.mem_cons, List.not_mem_nil, or_false]; rintro d (rfl | rfl); exact okS_pr ⟨by omega, abk⟩; exact okS_bl)
    -- cell, (p, q) = (_law_cell(hand, one), [_law_figures(hand, 10 ** 9) * _law_some(hand, [1, -1]) for turn in range(2)])
    refine dss_cons (ds_asg (de_tup (da_cons (de_callH B c__law_cell (by decide) g__law_cell (da_cons (de_var (i := 0) Mn rfl (by decide) rfl (da_cons (de_var (i := 6) Mn rfl (by decide) rfl (da_nil ⟨_, _, _, rfl, rfl, rfl, _, _, _, _, _, rfl, rfl, (by assumption), (by omega), (by first | assumption | omega | (simp; done) | exact .inl ⟨_, rfl⟩ | exact .inl ⟨_, _, _, rfl⟩ | exact .inr rfl), (by first | assumption | omega | (simp; done) | exact .inl ⟨_, rfl⟩ | exact .inl ⟨_, _, _, rfl⟩ | exact .inr rfl), (by first | assumption | omega | (simp; done) | exact .inl ⟨_, rfl⟩ | exact .inl ⟨_, _, _, rfl⟩ | exact .inr rfl), (by first | assumption | omega | (simp; done) | exact .inl ⟨_, rfl⟩ | exact .inl ⟨_, _, _, rfl⟩ | exact .inr rfl), fun m22 x22 y22 hm22 h220 h221 h222 h223 => ⟨_, rfl, rfl, (da_cons (de_cut (P' := fun en μ2 => ∃ p s m, en = .d (.list [.int p, .int s]) ∧ (-(10 ^ 9) ≤ p ∧ p ≤ 10 ^ 9 ∧ -(10 ^ 9) ≤ s ∧ s ≤ 10 ^ 9) ∧ IsHand (nb + 76) m ∧ m :: μh = μ2) (de_lcHandI (own := [("turn", 21)]) (g := (gName 21)) (fun i μ2 => ∃ m, IsHand (nb + 62 + 7 * i) m ∧ m :: μh = μ2) (fun d => ∃ x, d = .int x ∧ -(10 ^ 9) ≤ x ∧ x ≤ 10 ^ 9) rfl Ln.nd (blkOk_by (by show blkC N__law_are_dials_right (defScope s__law_are_dials_right) _ _ = true; decide +kernel)) (fun _ _ _ _ _ => pg_name (i := 21) Ln.nd rfl (Or.inl rfl)) (di_range1 g_range m_range (de_int ⟨_, rfl, (by decide), (by decide), ⟨(by first | exact ltS (n := 1) rfl (by decide) | exact ltS (n := 2) rfl (by decide) | exact ltS (n := 3) rfl (by decide) | exact ltS (n := 4) rfl (by decide) | exact ltS (n := 5) rfl (by decide) | exact ltS (n := 6) rfl (by decide)), ⟨_, IsHand.mono (by assumption) (by omega), rfl⟩, ?_, fun acc mu hlen hall hmi => ?_⟩⟩))) fun en μc hc => ?_))⟩⟩)))))))))
    · intro i d hd acc mu hmi
      have hi := (rgi_get hd).1; simp only [Int.reduceToNat] at hi; obtain ⟨m, hm, rfl⟩ := hmi
      refine (dgc_name (by decide) (fun _ _ _ _ _ => (de_bin op_mulW (de_callH (bx_blk B) c__law_figures (by decide) (gb_blk (x := "_law_figures") rfl) (da_cons (de_var (i := 0) (nm_blk (vi := [0, 21]) rfl) rfl (by decide) rfl (da_cons (de_bin op_pow (de_int (de_int (rv_ic2 (10 ^ 9) ⟨_, _, rfl, rfl, ⟨by decide, by decide, by decide⟩, rfl, (da_nil ⟨_, _, _, rfl, rfl, rfl, _, _, _, rfl, rfl, (by assumption), (by omega), (by first | assumption | omega | (simp; done) | exact .inl ⟨_, rfl⟩ | exact .inl ⟨_, _, _, rfl⟩ | exact .inr rfl), (by first | assumption | omega | (simp; done) | exact .inl ⟨_, rfl⟩ | exact .inl ⟨_, _, _, rfl⟩ | exact .inr rfl), fun m21 r21 hm21 h210 h211 => ⟨_, rfl, rfl, (de_callH (bx_blk B) c__law_some (by decide) (gb_blk (x := "_law_some") rfl) (da_cons (de_var (i := 0) (nm_blk (vi := [0, 21]) rfl) rfl (by decide) rfl (da_cons (de_lst (da_cons (de_int (da_cons (de_un un_neg (de_int (ru_i ⟨_, rfl, (da_nil ⟨[_, _], rfl, lenS (n := 2) rfl (by decide), (da_nil ⟨_, _, _, rfl, rfl, rfl, _, _, [_, _], rfl, rfl, (by assumption), (by omega), (by first | assumption | omega | (simp; done) | exact .inl ⟨_, rfl⟩ | exact .inl ⟨_, _, _, rfl⟩ | exact .inr rfl), (by first | assumption | omega | (simp; done) | exact .inl ⟨_, rfl⟩ | exact .inl ⟨_, _, _, rfl⟩ | exact .inr rfl), fun m20 r20 hm20 h200 => ⟨_, rfl, rfl, (rv_ic ⟨_, _, rfl, rfl, (cmulB (by first | omega | (simp only [List.mem_cons, List.not_mem_nil, or_false] at *; omega) | (simp only [List.mem_cons, List.not_mem_nil, or_false] at *; split <;> omega)) (by first | omega | (simp only [List.mem_cons, List.not_mem_nil, or_false] at *; omega) | (simp only [List.mem_cons, List.not_mem_nil, or_false] at *; split <;> omega))), ⟨_, _ :: μh, rfl, rfl, ⟨_, IsHand.mono (by assumption) (by omega), rfl⟩, ⟨_, rfl, sgn_le h210 h211 h200⟩⟩⟩)⟩⟩)⟩)⟩)))))))))))⟩⟩)⟩)))))))))))
    · obtain ⟨m, hm, rfl⟩ := hmi
      obtain ⟨d1, d2, rfl⟩ := len2 hlen
      obtain ⟨p, rfl, q1, q2⟩ := hall d1 (by simp)
      obtain ⟨s, rfl, q3, q4⟩ := hall d2 (by simp)
      exact ⟨p, s, m, rfl, ⟨q1, q2, q3, q4⟩, hm.mono (by rw [rgi_len]; simp), rfl⟩
    obtain ⟨p, s, m, rfl, hps, hm, rfl⟩ := hc
    refine (da_nil ⟨[_, _], rfl, lenS (n := 2) rfl (by decide), (dg_tup rfl rfl (dgs_name (i := 17) Ln rfl (by decide) (dgs_unl rfl rfl (dgs_name (i := 18) Ln rfl (by decide) (dgs_name (i := 19) Ln rfl (by decide) (dgs_nil (dgs_nil ?_)))))))⟩)
    refine dss_at (ρ' := [some (.c 0), some (.d (.int n)), some (.d (.int a)), some (.d (.int b)), some (.d (.int c)), some (.d (.int e)), some (.d (fl a b 0)), some (.d (fl c e 0)), some (.d (.bool ro)), some (.d (.int L)), some (.d (.int H)), some (.d Du), some (.d (.int (Int.gcd a c))), some (.d (.int (Int.gcd b e))), some (.d U), some (.d (.list [d14, d13, d12, d11])), some (.d (.int (Int.gcd a b))), some (.d (pr x22 y22)), some (.d (.int p)), some (.d (.int s)), none, none, none]) rfl ?_
    -- for floor in [floor for floor in (other, under) if floor is not None and lies_over(one, floor)]
    refine dss_cons (ds_for PassesOwn.never rfl (di_list (de_cut (P' := fun en μ2 => ∃ ds, en = .d (.list ds) ∧ (∀ d ∈ ds, ∃ x y, d = fl x y 0 ∧ IsF x y 0 ∧ Over a b 0 x y 0) ∧ m :: μh = μ2) (de_lcFil (own := [("floor", 20)]) (g := (gName 20)) (fun d => d) (ovD a b) rfl Ln.nd (blkOk_by (by show blkC N__law_are_dials_right (defScope s__law_are_dials_right) _ _ = true; decide +kernel)) (fun _ _ _ _ _ => pg_name (i := 20) Ln.nd rfl (Or.inl rfl)) (di_tup (de_tup (da_cons (de_var (i := 7) Mn rfl (by decide) rfl (da_cons (de_var (i := 14) Mn rfl (by decide) rfl (da_nil ⟨[_, _], rfl, lenS (n := 2) rfl (by decide), ⟨_, rfl, ⟨(by first | exact ltS (n := 1) rfl (by decide) | exact ltS (n := 2) rfl (by decide) | exact ltS (n := 3) rfl (by decide) | exact ltS (n := 4) rfl (by decide) | exact ltS (n := 5) rfl (by decide) | exact ltS (n := 6) rfl (by decide)), ?_, ?_⟩⟩⟩)))))))) fun en μc hc => ?_)))
    · intro d hd acc
      rcases mem_two hd with rfl | hdU; rotate_left; rcases hU with ⟨x, y, eU, hF⟩ | eU; rotate_left; rw [hdU, eU]; exact (dgc_name (by decide) (fun _ _ _ _ _ => (dt_bool (dw_and (dt_cmp op_notN (nomark _) (de_var (i := 20) (nm_blk (vi := [6, 20]) rfl) rfl (by decide) rfl (de_non (rv_notN ⟨_, rfl, rfl, ⟨_, rfl, ⟨(fun z => nomatch z), fun _ => ⟨rfl, rfl, fun z => nomatch z⟩⟩⟩⟩)))))))); rotate_left; rw [hdU, eU]; all_goals
      refine (dgc_name (by decide) (fun _ _ _ _ _ => (dt_bool (dw_and (dt_cmp op_notN (nomark _) (de_var (i := 20) (nm_blk (vi := [6, 20]) rfl) rfl (by decide) rfl (de_non (rv_notN ⟨_, rfl, rfl, ⟨_, rfl, ⟨fun hb4 => (dw_and1 (dt_val (de_call (bx_blk B) c_lies_over (by decide) (gb_blk (x := "lies_over") rfl) (da_cons (de_var (i := 6) (nm_blk (vi := [6, 20]) rfl) rfl (by decide) rfl (da_cons (de_var (i := 20) (nm_blk (vi := [6, 20]) rfl) rfl (by decide) rfl (da_nil ⟨rfl, _, _, _, _, _, _, rfl, rfl, (by first | assumption | omega | (simp; done) | exact .inl ⟨_, rfl⟩ | exact .inl ⟨_, _, _, rfl⟩ | exact .inr rfl), (by first | assumption | omega | (simp; done) | exact .inl ⟨_, rfl⟩ | exact .inl ⟨_, _, _, rfl⟩ | exact .inr rfl), fun r23 h230 => ⟨rfl, ⟨_, rfl, ⟨ovD_eq h230, rfl, fun hcf _ _ _ _ _ => (de_var (i := 20) (nm_blk (vi := [6, 20]) rfl) rfl (by decide) rfl ⟨rfl, rfl⟩)⟩⟩⟩⟩)))))))), fun hb4 => ⟨(by simp [isNon] at hb4), rfl, fun hcf _ _ _ _ _ => (de_var (i := 20) (nm_blk (vi := [6, 20]) rfl) rfl (by decide) rfl ⟨rfl, rfl⟩)⟩⟩⟩⟩))))))))
    · exact ⟨_, rfl, fun d hd => fls_ok F2 hU hd, rfl⟩
    obtain ⟨ds, rfl, hds, rfl⟩ := hc
    refine ⟨_, rfl, ⟨fun i ρ μ2 => ∃ o, ρ = [some (.c 0), some (.d (.int n)), some (.d (.int a)), some (.d (.int b)), some (.d (.int c)), some (.d (.int e)), some (.d (fl a b 0)), some (.d (fl c e 0)), some (.d (.bool ro)), some (.d (.int L)), some (.d (.int H)), some (.d Du), some (.d (.int (Int.gcd a c))), some (.d (.int (Int.gcd b e))), some (.d U), some (.d (.list [d14, d13, d12, d11])), some (.d (.int (Int.gcd a b))), some (.d (pr x22 y22)), some (.d (.int p)), some (.d (.int s)), o, none, none] ∧ m :: μh = μ2, ⟨_, rfl, rfl⟩, ?_, ?_⟩⟩
    · rintro i d ρ μ hd ⟨o, rfl, rfl⟩
      obtain ⟨x, y, rfl, hF, hO⟩ := hds d (List.mem_of_getElem? hd)
      have f0 := Int.emod_nonneg x22 (show x ≠ 0 by omega)
      have f1 := Int.emod_lt_of_pos x22 (show 0 < x by omega)
      have f2 := Int.emod_nonneg y22 (show y ≠ 0 by omega)
      have f3 := Int.emod_lt_of_pos y22 (show 0 < y by omega)
      have z1 : 0 + x22 + (0 + y22) / y * 0 = x22 := by omega
      have z2 : 0 + y22 = y22 := by omega
      refine dg_name (i := 20) Ln rfl (by decide) ?_
      -- if not _law_is(folded(one, floor, cell), (int(cell[0]) % floor[0], int(cell[1]) % floor[1]))
      refine dss_cons (ds_if (dt_not (dt_val (de_call B c__law_is (by decide) g__law_is (da_cons (de_call B c_folded (by decide) g_folded (da_cons (de_var (i := 6) Mn rfl (by decide) rfl (da_cons (de_var (i := 20) Mn rfl (by decide) rfl (da_cons (de_var (i := 17) Mn rfl (by decide) rfl (da_nil ⟨rfl, _, _, _, _, _, _, _, _, rfl, rfl, (by first | assumption | omega | (simp; done) | exact .inl ⟨_, rfl⟩ | exact .inl ⟨_, _, _, rfl⟩ | exact .inr rfl), (by first | assumption | omega | (simp; done) | exact .inl ⟨_, rfl⟩ | exact .inl ⟨_, _, _, rfl⟩ | exact .inr rfl), (by first | assumption | omega | (simp; done) | exact .inl ⟨_, rfl⟩ | exact .inl ⟨_, _, _, rfl⟩ | exact .inr rfl), (by first | assumption | omega | (simp; done) | exact .inl ⟨_, rfl⟩ | exact .inl ⟨_, _, _, rfl⟩ | exact .inr rfl), (by first | assumption | omega | (simp; done) | exact .inl ⟨_, rfl⟩ | exact .inl ⟨_, _, _, rfl⟩ | exact .inr rfl), (by first | assumption | omega | (simp; done) | exact .inl ⟨_, rfl⟩ | exact .inl ⟨_, _, _, rfl⟩ | exact .inr rfl), (by first | assumption | omega | (simp; done) | exact .inl ⟨_, rfl⟩ | exact .inl ⟨_, _, _, rfl⟩ | exact .inr rfl), ⟨rfl, (da_cons (de_tup (da_cons (de_bin op_mod (de_callT call_int1 g_int m_int (by decide +kernel) (da_cons (de_ix ix_tup (fun _ _ => rfl) (de_var (i := 17) Mn rfl (by decide) rfl (de_int (rv_ixT ⟨_, _, _, rfl, rfl, rfl, (da_nil (rc_int ⟨_, rfl, (de_ix ix_tup (fun _ _ => rfl) (de_var (i := 20) Mn rfl (by decide) rfl (de_int (rv_ixT ⟨_, _, _, rfl, rfl, rfl, (rv_ic ⟨_, _, rfl, rfl, (by show (0 : Int) < _; first | omega | (simp only [List.mem_cons, List.not_mem_nil, or_false] at *; omega) | (simp only [List.mem_cons, List.not_mem_nil, or_false] at *; split <;> omega)), (da_cons (de_bin op_mod (de_callT call_int1 g_int m_int (by decide +kernel) (da_cons (de_ix ix_tup (fun _ _ => rfl) (de_var (i := 17) Mn rfl (by decide) rfl (de_int (rv_ixT ⟨_, _, _, rfl, rfl, rfl, (da_nil (rc_int ⟨_, rfl, (de_ix ix_tup (fun _ _ => rfl) (de_var (i := 20) Mn rfl (by decide) rfl (de_int (rv_ixT ⟨_, _, _, rfl, rfl, rfl, (rv_ic ⟨_, _, rfl, rfl, (by show (0 : Int) < _; first | omega | (simp only [List.mem_cons, List.not_mem_nil, or_false] at *; omega) | (simp only [List.mem_cons, List.not_mem_nil, or_false] at *; split <;> omega)), (da_nil ⟨[_, _], rfl, lenS (n := 2) rfl (by decide), (da_nil ⟨rfl, _, _, rfl, rfl, ?_, ?_, ⟨rfl, ⟨_, rfl, ⟨fun ht => (nomatch ht), fun ht => dss_nil ?_⟩⟩⟩⟩)⟩)⟩)⟩))))⟩))⟩))))))))⟩)⟩))))⟩))⟩))))))))))⟩⟩)))))))))))))
      · rw [z1, z2]
      · rw [z1, z2]
        exact okR_tup (by simp) (by simp only [List.mem_cons, List.not_mem_nil, or_false]; rintro d (rfl | rfl) <;> exact okS_int (by omega))
      exact dss_nil ⟨_, rfl, rfl⟩
    · rintro ρ μ ⟨o, rfl, rfl⟩
      have pa : (p * a).natAbs ≤ 10 ^ 24 := mul_abs (n := 10 ^ 9) (m := 10 ^ 15) (by omega) (by omega) (by decide)
      have sb : (s * b).natAbs ≤ 10 ^ 24 := mul_abs (n := 10 ^ 9) (m := 10 ^ 15) (by omega) (by omega) (by decide)
      have hclo : Clo a b 0 (p * a) (s * b) := (clo_dial (by omega) (by omega)).mpr ⟨Int.dvd_mul_left _ _, Int.dvd_mul_left _ _⟩
      -- told = [parts_of(one, (p * a, q * b)), does_close(one, (p * a + 1, q * b)), does_close(one, (p * a, q * b + 1))]
      refine dss_cons (ds_set (i := 15) Ln rfl (by decide) (de_lst (da_cons (de_call B c_parts_of (by decide) g_parts_of (da_cons (de_var (i := 6) Mn rfl (by decide) rfl (da_cons (de_tup (da_cons (de_bin op_mulW (de_var (i := 18) Mn rfl (by decide) rfl (de_var (i := 2) Mn rfl (by decide) rfl (rv_ic ⟨_, _, rfl, rfl, (cmulB (by first | omega | (simp only [List.mem_cons, List.not_mem_nil, or_false] at *; omega) | (simp only [List.mem_cons, List.not_mem_nil, or_false] at *; split <;> omega)) (by first | omega | (simp only [List.mem_cons, List.not_mem_nil, or_false] at *; omega) | (simp only [List.mem_cons, List.not_mem_nil, or_false] at *; split <;> omega))), (da_cons (de_bin op_mulW (de_var (i := 19) Mn rfl (by decide) rfl (de_var (i := 3) Mn rfl (by decide) rfl (rv_ic ⟨_, _, rfl, rfl, (cmulB (by first | omega | (simp only [List.mem_cons, List.not_mem_nil, or_false] at *; omega) | (simp only [List.mem_cons, List.not_mem_nil, or_false] at *; split <;> omega)) (by first | omega | (simp only [List.mem_cons, List.not_mem_nil, or_false] at *; omega) | (simp only [List.mem_cons, List.not_mem_nil, or_false] at *; split <;> omega))), (da_nil ⟨[_, _], rfl, lenS (n := 2) rfl (by decide), (da_nil ⟨rfl, _, _, _, _, _, rfl, rfl, (by first | assumption | omega | (simp; done) | exact .inl ⟨_, rfl⟩ | exact .inl ⟨_, _, _, rfl⟩ | exact .inr rfl), (by first | assumption | omega | (simp; done) | exact .inl ⟨_, rfl⟩ | exact .inl ⟨_, _, _, rfl⟩ | exact .inr rfl), (by first | assumption | omega | (simp; done) | exact .inl ⟨_, rfl⟩ | exact .inl ⟨_, _, _, rfl⟩ | exact .inr rfl), ⟨rfl, (da_cons (de_call B c_does_close (by decide) g_does_close (da_cons (de_var (i := 6) Mn rfl (by decide) rfl (da_cons (de_tup (da_cons (de_bin op_add (de_bin op_mulW (de_var (i := 18) Mn rfl (by decide) rfl (de_var (i := 2) Mn rfl (by decide) rfl (rv_ic ⟨_, _, rfl, rfl, (cmulB (by first | omega | (simp only [List.mem_cons, List.not_mem_nil, or_false] at *; omega) | (simp only [List.mem_cons, List.not_mem_nil, or_false] at *; split <;> omega)) (by first | omega | (simp only [List.mem_cons, List.not_mem_nil, or_false] at *; omega) | (simp only [List.mem_cons, List.not_mem_nil, or_false] at *; split <;> omega))), (de_int (rv_i0 ⟨_, _, rfl, rfl, (da_cons (de_bin op_mulW (de_var (i := 19) Mn rfl (by decide) rfl (de_var (i := 3) Mn rfl (by decide) rfl (rv_ic ⟨_, _, rfl, rfl, (cmulB (by first | omega | (simp only [List.mem_cons, List.not_mem_nil, or_false] at *; omega) | (simp only [List.mem_cons, List.not_mem_nil, or_false] at *; split <;> omega)) (by first | omega | (simp only [List.mem_cons, List.not_mem_nil, or_false] at *; omega) | (simp only [List.mem_cons, List.not_mem_nil, or_false] at *; split <;> omega))), (da_nil ⟨[_, _], rfl, lenS (n := 2) rfl (by decide), (da_nil ⟨rfl, _, _, _, _, _, rfl, rfl, (by first | assumption | omega | (simp; done) | exact .inl ⟨_, rfl⟩ | exact .inl ⟨_, _, _, rfl⟩ | exact .inr rfl), (by first | assumption | omega | (simp; done) | exact .inl ⟨_, rfl⟩ | exact .inl ⟨_, _, _, rfl⟩ | exact .inr rfl), fun r27 h270 => ⟨rfl, (da_cons (de_call B c_does_close (by decide) g_does_close (da_cons (de_var (i := 6) Mn rfl (by decide) rfl (da_cons (de_tup (da_cons (de_bin op_mulW (de_var (i := 18) Mn rfl (by decide) rfl (de_var (i := 2) Mn rfl (by decide) rfl (rv_ic ⟨_, _, rfl, rfl, (cmulB (by first | omega | (simp only [List.mem_cons, List.not_mem_nil, or_false] at *; omega) | (simp only [List.mem_cons, List.not_mem_nil, or_false] at *; split <;> omega)) (by first | omega | (simp only [List.mem_cons, List.not_mem_nil, or_false] at *; omega) | (simp only [List.mem_cons, List.not_mem_nil, or_false] at *; split <;> omega))), (da_cons (de_bin op_add (de_bin op_mulW (de_var (i := 19) Mn rfl (by decide) rfl (de_var (i := 3) Mn rfl (by decide) rfl (rv_ic ⟨_, _, rfl, rfl, (cmulB (by first | omega | (simp only [List.mem_cons, List.not_mem_nil, or_false] at *; omega) | (simp only [List.mem_cons, List.not_mem_nil, or_false] at *; split <;> omega)) (by first | omega | (simp only [List.mem_cons, List.not_mem_nil, or_false] at *; omega) | (simp only [List.mem_cons, List.not_mem_nil, or_false] at *; split <;> omega))), (de_int (rv_i0 ⟨_, _, rfl, rfl, (da_nil ⟨[_, _], rfl, lenS (n := 2) rfl (by decide), (da_nil ⟨rfl, _, _, _, _, _, rfl, rfl, (by first | assumption | omega | (simp; done) | exact .inl ⟨_, rfl⟩ | exact .inl ⟨_, _, _, rfl⟩ | exact .inr rfl), (by first | assumption | omega | (simp; done) | exact .inl ⟨_, rfl⟩ | exact .inl ⟨_, _, _, rfl⟩ | exact .inr rfl), fun r26 h260 => ⟨rfl, (da_nil ⟨[_, _, _], rfl, lenS (n := 3) rfl (by decide), ?_⟩)⟩⟩)⟩)⟩))⟩))))))⟩)))))))))))⟩⟩)⟩)⟩)))))⟩))⟩))))))))))))⟩⟩)⟩)⟩)))))⟩)))))))))))))
      refine dss_cons (ds_ret (de_call B c__law_is (by decide) g__law_is (da_cons (de_var (i := 15) Mn rfl (by decide) rfl (da_cons (de_lst (da_cons (de_tup (da_cons (de_var (i := 18) Mn rfl (by decide) rfl (da_cons (de_var (i := 19) Mn rfl (by decide) rfl (da_nil ⟨[_, _], rfl, lenS (n := 2) rfl (by decide), (da_cons (de_bl (da_cons (de_bl (da_nil ⟨[_, _, _], rfl, lenS (n := 3) rfl (by decide), (da_nil ⟨rfl, _, _, rfl, rfl, ?_, ?_, ⟨rfl, (ret1 ?_)⟩⟩)⟩)))))⟩)))))))))))))
      · have n1 : r27 = false := (bf h270).mpr fun z => by
          have z1 := ((clo_dial (by omega) (by omega)).mp z).2
          have z2 := Int.dvd_sub z1 (Int.dvd_mul_left p a)
          rw [show p * a + 1 - p * a = 1 by omega] at z2
          have := Int.le_of_dvd (by omega) z2
          omega
        have n2 : r26 = false := (bf h260).mpr fun z => by
          have z1 := ((clo_dial (by omega) (by omega)).mp z).1
          have z2 := Int.dvd_sub z1 (Int.dvd_mul_left s b)
          rw [show s * b + 1 - s * b = 1 by omega] at z2
          have := Int.le_of_dvd (by omega) z2
          omega
        rw [n1, n2, Int.mul_ediv_cancel _ (show b ≠ 0 by omega), Int.mul_zero, Int.add_zero, Int.mul_ediv_cancel _ (show a ≠ 0 by omega)]
      · rw [Int.mul_ediv_cancel _ (show b ≠ 0 by omega), Int.mul_zero, Int.add_zero, Int.mul_ediv_cancel _ (show a ≠ 0 by omega)]
        exact okR_list (by simp) (by simp only [List.mem_cons, List.not_mem_nil, or_false]; rintro d (rfl | rfl | rfl); exact okS_pr (by omega); exact okS_bl; exact okS_bl)
      · exact q _ (hm.mono (by omega))
theorem ok__law_are_dials_right {P : Program} {w : World} {K : PySem.W.Frag} {mg : Str → Option Value} {base : Heap} (T : Top1 K mg "_law_are_dials_right" s__law_are_dials_right ["hand", "top"]) (c__law_common : Cal P w K mg base CX0 "_law_common" 1 (lift K sp__law_common)) (c__law_is : Cal P w K mg base CX0 "_law_is" 1 (lift K sp__law_is)) (c__law_size : Cal P w K mg base CX0 "_law_size" 4 (lift K sp__law_size)) (c__law_draw : Cal P w K mg base CX0 "_law_draw" 1 (lift K sp__law_draw)) (m_max : mg "max" = none) (c__law_multiple : Cal P w K mg base CX0 "_law_multiple" 2 (lift K sp__law_multiple)) (c__law_said : Cal P w K mg base CX0 "_law_said" 7 (lift K sp__law_said)) (c_floor_below : Cal P w K mg base CX0 "floor_below" 6 (lift K sp_floor_below)) (c__law_cell : Cal P w K mg base CX0 "_law_cell" 4 (lift K sp__law_cell)) (c_parts_of : Cal P w K mg base CX0 "parts_of" 7 (lift K sp_parts_of)) (c_does_close : Cal P w K mg base CX0 "does_close" 6 (lift K sp_does_close)) (m_range : mg "range" = none) (c__law_some : Cal P w K mg base CX0 "_law_some" 2 (lift K sp__law_some)) (m_int : mg "int" = none) (c_lies_over : Cal P w K mg base CX0 "lies_over" 7 (lift K sp_lies_over)) (c_group : Cal P w K mg base CX0 "group" 5 (lift K sp_group)) (c_is_one_ring : Cal P w K mg base CX0 "is_one_ring" 5 (lift K sp_is_one_ring)) (c__law_figures : Cal P w K mg base CX0 "_law_figures" 3 (lift K sp__law_figures)) (c_folded : Cal P w K mg base CX0 "folded" 8 (lift K sp_folded)) : Cal P w K mg base CX0 "_law_are_dials_right" 9 (lift K sp__law_are_dials_right) :=
  cal_of T sc__law_are_dials_right (by rintro es μ Q ⟨_, _, _, rfl, _⟩; rfl) fun f cdv A outer s H E B es μ μh Q h => body__law_are_dials_right (X0 := cxOf CX0 P w K mg base N__law_are_dials_right "_law_are_dials_right" (defScope s__law_are_dials_right) f cdv A outer s H E) (env0 := PyProof.Rows.envOfC "_law_are_dials_right" (defScope s__law_are_dials_right) s.heap.objs.size f cdv) c__law_common c__law_is c__law_size c__law_draw m_max c__law_multiple c__law_said c_floor_below c__law_cell c_parts_of c_does_close m_range c__law_some m_int c_lies_over c_group c_is_one_ring c__law_figures c_folded B es μ μh Q h
end K07

namespace K07
open PySem PySem.Spec L2 Pw
theorem sh_great : SeqAt.shaped (PyData.str "great") = true := by decide +kernel
/-! ### _law_are_rows_right -/
abbrev s__law_are_rows_right : Stmt := topS 64
abbrev N__law_are_rows_right : List Str := ["hand", "top", "m", "c", "one", "other", "mine", "its", "by", "under", "cell", "told", "wide", "many"]
theorem sc__law_are_rows_right : FnScope N__law_are_rows_right ["hand", "top"] (defScope s__law_are_rows_right) := ⟨rfl, rfl, rfl, by decide +kernel, rfl, by decide +kernel, by decide +kernel⟩
theorem nm__law_are_rows_right : nmC N__law_are_rows_right (defScope s__law_are_rows_right) [0, 1, 2, 3, 4, 5, 6, 7, 8, 9, 10, 11, 12, 13] = true := by decide +kernel
theorem lc__law_are_rows_right : lcC N__law_are_rows_right (defScope s__law_are_rows_right) [0, 1, 2, 3, 4, 5, 6, 7, 8, 9, 10, 11, 12, 13] = true := by decide +kernel
theorem gb__law_are_rows_right__law_figures : gbC (defScope s__law_are_rows_right) "_law_figures" = true := by decide +kernel
theorem gb__law_are_rows_right_int : gbC (defScope s__law_are_rows_right) "int" = true := by decide +kernel
theorem gb__law_are_rows_right__law_draw : gbC (defScope s__law_are_rows_right) "_law_draw" = true := by decide +kernel
theorem gb__law_are_rows_right__law_common : gbC (defScope s__law_are_rows_right) "_law_common" = true := by decide +kernel
theorem gb__law_are_rows_right__law_cell : gbC (defScope s__law_are_rows_right) "_law_cell" = true := by decide +kernel
theorem gb__law_are_rows_right_floor_below : gbC (defScope s__law_are_rows_right) "floor_below" = true := by decide +kernel
theorem gb__law_are_rows_right_lies_over : gbC (defScope s__law_are_rows_right) "lies_over" = true := by decide +kernel
theorem gb__law_are_rows_right_folded : gbC (defScope s__law_are_rows_right) "folded" = true := by decide +kernel
theorem gb__law_are_rows_right__law_is : gbC (defScope s__law_are_rows_right) "_law_is" = true := by decide +kernel
theorem gb__law_are_rows_right__law_multiple : gbC (defScope s__law_are_rows_right) "_law_multiple" = true := by decide +kernel
theorem gb__law_are_rows_right__law_said : gbC (defScope s__law_are_rows_right) "_law_said" = true := by decide +kernel
theorem gb__law_are_rows_right_group : gbC (defScope s__law_are_rows_right) "group" = true := by decide +kernel
theorem gb__law_are_rows_right_is_one_ring : gbC (defScope s__law_are_rows_right) "is_one_ring" = true := by decide +kernel
def sp__law_are_rows_right : SpF := fun es μ P => ∃ (m : MO) (nb : Nat) (n : Int), es = [.c 0, .d (.int n)] ∧ μ = [m] ∧ IsHand nb m ∧ nb + 100 ≤ 10 ^ 9 ∧ 10 ^ 5 ≤ n ∧ n ≤ 10 ^ 15 ∧ ∀ (m' : MO), IsHand (nb + 100) m' → P (.d (.bool true)) [m']
theorem body__law_are_rows_right {X0 : Cx} {env0 : PySem.Env} (c__law_common : CalX X0 "_law_common" 1 sp__law_common) (c__law_said : CalX X0 "_law_said" 7 sp__law_said) (c__law_figures : CalX X0 "_law_figures" 3 sp__law_figures) (c__law_cell : CalX X0 "_law_cell" 4 sp__law_cell) (c_floor_below : CalX X0 "floor_below" 6 sp_floor_below) (c_lies_over : CalX X0 "lies_over" 7 sp_lies_over) (c_folded : CalX X0 "folded" 8 sp_folded) (c__law_is : CalX X0 "_law_is" 1 sp__law_is) (c__law_multiple : CalX X0 "_law_multiple" 2 sp__law_multiple) (m_int : X0.mg "int" = none) (c_group : CalX X0 "group" 5 sp_group) (c_is_one_ring : CalX X0 "is_one_ring" 5 sp_is_one_ring) (c__law_draw : CalX X0 "_law_draw" 1 sp__law_draw) (B : Bx (mkX X0 env0 N__law_are_rows_right (defScope s__law_are_rows_right)) 8) :
    ∀ (es : List Ent) (μ μh : Mu) (Q : Ent → Mu → Prop), sp__law_are_rows_right es μ Q → DSs (mkX X0 env0 N__law_are_rows_right (defScope s__law_are_rows_right)) (defBody s__law_are_rows_right) (slots0 N__law_are_rows_right es) (μ ++ μh) (Zof μ.length μh Q) := by
  rintro es μ μh Q ⟨m, nb, n, rfl, rfl, hm, hnb, p0, p1, q⟩
  have Mn : Nm (mkX X0 env0 N__law_are_rows_right (defScope s__law_are_rows_right)) [0, 1, 2, 3, 4, 5, 6, 7, 8, 9, 10, 11, 12, 13] := nm_of nm__law_are_rows_right
  have Ln : Lc (mkX X0 env0 N__law_are_rows_right (defScope s__law_are_rows_right)) [0, 1, 2, 3, 4, 5, 6, 7, 8, 9, 10, 11, 12, 13] := lc_of lc__law_are_rows_right
  have g__law_figures : Gb (mkX X0 env0 N__law_are_rows_right (defScope s__law_are_rows_right)) "_law_figures" := gb_of gb__law_are_rows_right__law_figures
  have g_int : Gb (mkX X0 env0 N__law_are_rows_right (defScope s__law_are_rows_right)) "int" := gb_of gb__law_are_rows_right_int
  have g__law_draw : Gb (mkX X0 env0 N__law_are_rows_right (defScope s__law_are_rows_right)) "_law_draw" := gb_of gb__law_are_rows_right__law_draw
  have g__law_common : Gb (mkX X0 env0 N__law_are_rows_right (defScope s__law_are_rows_right)) "_law_common" := gb_of gb__law_are_rows_right__law_common
  have g__law_cell : Gb (mkX X0 env0 N__law_are_rows_right (defScope s__law_are_rows_right)) "_law_cell" := gb_of gb__law_are_rows_right__law_cell
  have g_floor_below : Gb (mkX X0 env0 N__law_are_rows_right (defScope s__law_are_rows_right)) "floor_below" := gb_of gb__law_are_rows_right_floor_below
  have g_lies_over : Gb (mkX X0 env0 N__law_are_rows_right (defScope s__law_are_rows_right)) "lies_over" := gb_of gb__law_are_rows_right_lies_over
  have g_folded : Gb (mkX X0 env0 N__law_are_rows_right (defScope s__law_are_rows_right)) "folded" := gb_of gb__law_are_rows_right_folded
  have g__law_is : Gb (mkX X0 env0 N__law_are_rows_right (defScope s__law_are_rows_right)) "_law_is" := gb_of gb__law_are_rows_right__law_is
  have g__law_multiple : Gb (mkX X0 env0 N__law_are_rows_right (defScope s__law_are_rows_right)) "_law_multiple" := gb_of gb__law_are_rows_right__law_multiple
  have g__law_said : Gb (mkX X0 env0 N__law_are_rows_right (defScope s__law_are_rows_right)) "_law_said" := gb_of gb__law_are_rows_right__law_said
  have g_group : Gb (mkX X0 env0 N__law_are_rows_right (defScope s__law_are_rows_right)) "group" := gb_of gb__law_are_rows_right_group
  have g_is_one_ring : Gb (mkX X0 env0 N__law_are_rows_right (defScope s__law_are_rows_right)) "is_one_ring" := gb_of gb__law_are_rows_right_is_one_ring
  -- m = 3 + _law_figures(hand, top // 400 - 3)
  refine dss_cons (ds_set (i := 2) Ln rfl (by decide) (de_bin op_add (de_int (de_callH B c__law_figures (by decide) g__law_figures (da_cons (de_var (i := 0) Mn rfl (by decide) rfl (da_cons (de_bin op_sub (de_bin op_fdivW (de_var (i := 1) Mn rfl (by decide) rfl (de_int (rv_ic ⟨_, _, rfl, rfl, (cdivB (by first | omega | (simp only [List.mem_cons, List.not_mem_nil, or_false] at *; omega) | (simp only [List.mem_cons, List.not_mem_nil, or_false] at *; split <;> omega)) (by first | omega | (simp only [List.mem_cons, List.not_mem_nil, or_false] at *; omega) | (simp only [List.mem_cons, List.not_mem_nil, or_false] at *; split <;> omega))), (de_int (rv_i0 ⟨_, _, rfl, rfl, (da_nil ⟨_, _, _, rfl, rfl, rfl, _, _, _, rfl, rfl, (by assumption), (by omega), (by first | assumption | omega | (simp; done) | exact .inl ⟨_, rfl⟩ | exact .inl ⟨_, _, _, rfl⟩ | exact .inr rfl), (by first | assumption | omega | (simp; done) | exact .inl ⟨_, rfl⟩ | exact .inl ⟨_, _, _, rfl⟩ | exact .inr rfl), fun m1 r1 hm1 h10 h11 => ⟨_, rfl, rfl, (rv_i0 ⟨_, _, rfl, rfl, ?_⟩)⟩⟩)⟩))⟩))))))))))))
  generalize hM : 3 + r1 = M
  have m0 : 4 ≤ M ∧ M ≤ 10 ^ 13 := by omega
  -- c = 2 + int(_law_figures(hand, m)) % (m - 2)
  refine dss_cons (ds_set (i := 3) Ln rfl (by decide) (de_bin op_add (de_int (de_bin op_mod (de_callT call_int1 g_int m_int (by decide +kernel) (da_cons (de_callH B c__law_figures (by decide) g__law_figures (da_cons (de_var (i := 0) Mn rfl (by decide) rfl (da_cons (de_var (i := 2) Mn rfl (by decide) rfl (da_nil ⟨_, _, _, rfl, rfl, rfl, _, _, _, rfl, rfl, (by assumption), (by omega), (by first | assumption | omega | (simp; done) | exact .inl ⟨_, rfl⟩ | exact .inl ⟨_, _, _, rfl⟩ | exact .inr rfl), (by first | assumption | omega | (simp; done) | exact .inl ⟨_, rfl⟩ | exact .inl ⟨_, _, _, rfl⟩ | exact .inr rfl), fun m2 r2 hm2 h20 h21 => ⟨_, rfl, rfl, (da_nil (rc_int ⟨_, rfl, (de_bin op_sub (de_var (i := 2) Mn rfl (by decide) rfl (de_int (rv_i0 ⟨_, _, rfl, rfl, (rv_ic ⟨_, _, rfl, rfl, (by show (0 : Int) < _; first | omega | (simp only [List.mem_cons, List.not_mem_nil, or_false] at *; omega) | (simp only [List.mem_cons, List.not_mem_nil, or_false] at *; split <;> omega)), (rv_i0 ⟨_, _, rfl, rfl, ?_⟩)⟩)⟩))))⟩))⟩⟩))))))))))))
  have u0 := Int.emod_nonneg r2 (show M - 2 ≠ 0 by omega)
  have u1 := Int.emod_lt_of_pos r2 (show 0 < M - 2 by omega)
  generalize hC : 2 + r2 % (M - 2) = C
  have cb : 2 ≤ C ∧ C < M := by omega
  -- one, other = (m * (1 + _law_draw(hand, 20)), m * (1 + _law_draw(hand, 20)))
  refine dss_cons (ds_par (i := 4) (j := 5) Ln rfl rfl rfl (by decide) rfl rfl (da_cons (de_bin op_mulW (de_var (i := 2) Mn rfl (by decide) rfl (de_bin op_add (de_int (de_callH B c__law_draw (by decide) g__law_draw (da_cons (de_var (i := 0) Mn rfl (by decide) rfl (da_cons (de_int (da_nil ⟨_, _, _, rfl, rfl, rfl, _, _, _, rfl, rfl, (by assumption), (by omega), (by first | assumption | omega | (simp; done) | exact .inl ⟨_, rfl⟩ | exact .inl ⟨_, _, _, rfl⟩ | exact .inr rfl), (by first | assumption | omega | (simp; done) | exact .inl ⟨_, rfl⟩ | exact .inl ⟨_, _, _, rfl⟩ | exact .inr rfl), fun m4 r4 hm4 h40 h41 => ⟨_, rfl, rfl, (rv_i0 ⟨_, _, rfl, rfl, (rv_ic ⟨_, _, rfl, rfl, (cmulB (by first | omega | (simp only [List.mem_cons, List.not_mem_nil, or_false] at *; omega) | (simp only [List.mem_cons, List.not_mem_nil, or_false] at *; split <;> omega)) (by first | omega | (simp only [List.mem_cons, List.not_mem_nil, or_false] at *; omega) | (simp only [List.mem_cons, List.not_mem_nil, or_false] at *; split <;> omega))), (da_cons (de_bin op_mulW (de_var (i := 2) Mn rfl (by decide) rfl (de_bin op_add (de_int (de_callH B c__law_draw (by decide) g__law_draw (da_cons (de_var (i := 0) Mn rfl (by decide) rfl (da_cons (de_int (da_nil ⟨_, _, _, rfl, rfl, rfl, _, _, _, rfl, rfl, (by assumption), (by omega), (by first | assumption | omega | (simp; done) | exact .inl ⟨_, rfl⟩ | exact .inl ⟨_, _, _, rfl⟩ | exact .inr rfl), (by first | assumption | omega | (simp; done) | exact .inl ⟨_, rfl⟩ | exact .inl ⟨_, _, _, rfl⟩ | exact .inr rfl), fun m3 r3 hm3 h30 h31 => ⟨_, rfl, rfl, (rv_i0 ⟨_, _, rfl, rfl, (rv_ic ⟨_, _, rfl, rfl, (cmulB (by first | omega | (simp only [List.mem_cons, List.not_mem_nil, or_false] at *; omega) | (simp only [List.mem_cons, List.not_mem_nil, or_false] at *; split <;> omega)) (by first | omega | (simp only [List.mem_cons, List.not_mem_nil, or_false] at *; omega) | (simp only [List.mem_cons, List.not_mem_nil, or_false] at *; split <;> omega))), (da_nil ⟨_, _, rfl, ?_⟩)⟩)⟩)⟩⟩)))))))))))⟩)⟩)⟩⟩))))))))))) rfl)
  have nb1 : M * (1 + r4) ≤ 10 ^ 13 * 20 ∧ M * 1 ≤ M * (1 + r4) := ⟨Int.mul_le_mul (by omega) (by omega) (by omega) (by omega), Int.mul_le_mul_of_nonneg_left (by omega) (by omega)⟩
  have nb2 : M * (1 + r3) ≤ 10 ^ 13 * 20 ∧ M * 1 ≤ M * (1 + r3) := ⟨Int.mul_le_mul (by omega) (by omega) (by omega) (by omega), Int.mul_le_mul_of_nonneg_left (by omega) (by omega)⟩
  have q1 : M * (1 + r4) / M = 1 + r4 := Int.mul_ediv_cancel_left _ (by omega)
  have q2 : M * (1 + r3) / M = 1 + r3 := Int.mul_ediv_cancel_left _ (by omega)
  have e1 : M * (1 + r4) = M + M * r4 := by rw [Int.mul_add, Int.mul_one]
  have e2 : M * (1 + r3) = M + M * r3 := by rw [Int.mul_add, Int.mul_one]
  have dM1 : M ∣ M * (1 + r4) := Int.dvd_mul_right _ _
  have dM2 : M ∣ M * (1 + r3) := Int.dvd_mul_right _ _
  generalize M * (1 + r4) = N1 at *
  generalize M * (1 + r3) = N2 at *
  -- mine = (one, 1, c + m * _law_draw(hand, one // m))
  refine dss_cons (ds_set (i := 6) Ln rfl (by decide) (de_tup (da_cons (de_var (i := 4) Mn rfl (by decide) rfl (da_cons (de_int (da_cons (de_bin op_add (de_var (i := 3) Mn rfl (by decide) rfl (de_bin op_mulW (de_var (i := 2) Mn rfl (by decide) rfl (de_callH B c__law_draw (by decide) g__law_draw (da_cons (de_var (i := 0) Mn rfl (by decide) rfl (da_cons (de_bin op_fdivW (de_var (i := 4) Mn rfl (by decide) rfl (de_var (i := 2) Mn rfl (by decide) rfl (rv_ic ⟨_, _, rfl, rfl, (cdivB (by first | omega | (simp only [List.mem_cons, List.not_mem_nil, or_false] at *; omega) | (simp only [List.mem_cons, List.not_mem_nil, or_false] at *; split <;> omega)) (by first | omega | (simp only [List.mem_cons, List.not_mem_nil, or_false] at *; omega) | (simp only [List.mem_cons, List.not_mem_nil, or_false] at *; split <;> omega))), (da_nil ⟨_, _, _, rfl, rfl, rfl, _, _, _, rfl, rfl, (by assumption), (by omega), (by first | assumption | omega | (simp; done) | exact .inl ⟨_, rfl⟩ | exact .inl ⟨_, _, _, rfl⟩ | exact .inr rfl), (by first | assumption | omega | (simp; done) | exact .inl ⟨_, rfl⟩ | exact .inl ⟨_, _, _, rfl⟩ | exact .inr rfl), fun m5 r5 hm5 h50 h51 => ⟨_, rfl, rfl, (rv_ic ⟨_, _, rfl, rfl, (cmulB (by first | omega | (simp only [List.mem_cons, List.not_mem_nil, or_false] at *; omega) | (simp only [List.mem_cons, List.not_mem_nil, or_false] at *; split <;> omega)) (by first | omega | (simp only [List.mem_cons, List.not_mem_nil, or_false] at *; omega) | (simp only [List.mem_cons, List.not_mem_nil, or_false] at *; split <;> omega))), (rv_i0 ⟨_, _, rfl, rfl, (da_nil ⟨[_, _, _], rfl, lenS (n := 3) rfl (by decide), ?_⟩)⟩)⟩)⟩⟩)⟩)))))))))))))))))))
  have w1 : M * r5 ≤ M * r4 ∧ 0 ≤ M * r5 := ⟨Int.mul_le_mul_of_nonneg_left (by omega) (by omega), Int.mul_nonneg (by omega) (by omega)⟩
  have dc1 : M ∣ C + M * r5 - C := by
    rw [show C + M * r5 - C = M * r5 by omega]
    exact Int.dvd_mul_right _ _
  have F1 : IsF N1 1 (C + M * r5) := by omega
  generalize C + M * r5 = c1 at *
  -- its = (other, 1, c + m * _law_draw(hand, other // m))
  refine dss_cons (ds_set (i := 7) Ln rfl (by decide) (de_tup (da_cons (de_var (i := 5) Mn rfl (by decide) rfl (da_cons (de_int (da_cons (de_bin op_add (de_var (i := 3) Mn rfl (by decide) rfl (de_bin op_mulW (de_var (i := 2) Mn rfl (by decide) rfl (de_callH B c__law_draw (by decide) g__law_draw (da_cons (de_var (i := 0) Mn rfl (by decide) rfl (da_cons (de_bin op_fdivW (de_var (i := 5) Mn rfl (by decide) rfl (de_var (i := 2) Mn rfl (by decide) rfl (rv_ic ⟨_, _, rfl, rfl, (cdivB (by first | omega | (simp only [List.mem_cons, List.not_mem_nil, or_false] at *; omega) | (simp only [List.mem_cons, List.not_mem_nil, or_false] at *; split <;> omega)) (by first | omega | (simp only [List.mem_cons, List.not_mem_nil, or_false] at *; omega) | (simp only [List.mem_cons, List.not_mem_nil, or_false] at *; split <;> omega))), (da_nil ⟨_, _, _, rfl, rfl, rfl, _, _, _, rfl, rfl, (by assumption), (by omega), (by first | assumption | omega | (simp; done) | exact .inl ⟨_, rfl⟩ | exact .inl ⟨_, _, _, rfl⟩ | exact .inr rfl), (by first | assumption | omega | (simp; done) | exact .inl ⟨_, rfl⟩ | exact .inl ⟨_, _, _, rfl⟩ | exact .inr rfl), fun m6 r6 hm6 h60 h61 => ⟨_, rfl, rfl, (rv_ic ⟨_, _, rfl, rfl, (cmulB (by first | omega | (simp only [List.mem_cons, List.not_mem_nil, or_false] at *; omega) | (simp only [List.mem_cons, List.not_mem_nil, or_false] at *; split <;> omega)) (by first | omega | (simp only [List.mem_cons, List.not_mem_nil, or_false] at *; omega) | (simp only [List.mem_cons, List.not_mem_nil, or_false] at *; split <;> omega))), (rv_i0 ⟨_, _, rfl, rfl, (da_nil ⟨[_, _, _], rfl, lenS (n := 3) rfl (by decide), ?_⟩)⟩)⟩)⟩⟩)⟩)))))))))))))))))))
  have w2 : M * r6 ≤ M * r3 ∧ 0 ≤ M * r6 := ⟨Int.mul_le_mul_of_nonneg_left (by omega) (by omega), Int.mul_nonneg (by omega) (by omega)⟩
  have dc2 : M ∣ C + M * r6 - C := by
    rw [show C + M * r6 - C = M * r6 by omega]
    exact Int.dvd_mul_right _ _
  have F2 : IsF N2 1 (C + M * r6) := by omega
  generalize C + M * r6 = c2 at *
  have g0 := gcd_pos' (t := N1) (m := N2) (by omega)
  have g1 := gcd_le' (t := N1) (m := N2) (by omega)
  have G0 : 0 < (Int.gcd (Int.gcd N1 N2) (c1 - c2) : Int) := by
    have := Int.gcd_pos_of_ne_zero_left (a := (Int.gcd N1 N2 : Int)) (c1 - c2) (by omega)
    omega
  have G1 : (Int.gcd (Int.gcd N1 N2) (c1 - c2) : Int) ≤ (Int.gcd N1 N2 : Int) := Int.gcd_le_left _ g0
  have MG : M ∣ (Int.gcd (Int.gcd N1 N2) (c1 - c2) : Int) := Int.dvd_coe_gcd (Int.dvd_coe_gcd dM1 dM2) (by
    have := Int.dvd_sub dc1 dc2
    rwa [show c1 - C - (c2 - C) = c1 - c2 by omega] at this)
  have GN : (Int.gcd (Int.gcd N1 N2) (c1 - c2) : Int) ∣ N1 := Int.dvd_trans (Int.gcd_dvd_left _ _) (Int.gcd_dvd_left _ _)
  have f0 := Int.emod_nonneg c1 (show (Int.gcd (Int.gcd N1 N2) (c1 - c2) : Int) ≠ 0 by omega)
  have f1 := Int.emod_lt_of_pos c1 G0
  have f2 := Int.emod_def c1 (Int.gcd (Int.gcd N1 N2) (c1 - c2) : Int)
  have MG1 := Int.le_of_dvd G0 MG
  have FG : IsF (Int.gcd (Int.gcd N1 N2) (c1 - c2)) 1 (c1 % (Int.gcd (Int.gcd N1 N2) (c1 - c2))) := by
    have tg : 2 ≤ c1 % (Int.gcd (Int.gcd N1 N2) (c1 - c2) : Int) := by
      rcases Int.lt_or_le (c1 % (Int.gcd (Int.gcd N1 N2) (c1 - c2) : Int)) 2 with z | z
      · have d1 : M ∣ c1 - c1 % (Int.gcd (Int.gcd N1 N2) (c1 - c2) : Int) := by
          rw [f2, Int.sub_sub_self]
          exact Int.dvd_trans MG (Int.dvd_mul_right _ _)
        have d2 := Int.dvd_sub d1 dc1
        have := Int.le_of_dvd (by omega) d2
        omega
      · exact z
    omega
  have OG : Over N1 1 c1 (Int.gcd (Int.gcd N1 N2) (c1 - c2)) 1 (c1 % (Int.gcd (Int.gcd N1 N2) (c1 - c2))) := by
    refine ⟨clo_zero' GN, clo_row.mpr ?_⟩
    rw [Int.one_mul, f2]
    exact ⟨-(c1 / (Int.gcd (Int.gcd N1 N2) (c1 - c2) : Int)), by rw [Int.mul_neg]; omega⟩
  have bR := fun {d : D} (h : Below N1 1 c1 N2 1 c2 d) => below_row F1 F2 FG h
  have sR := fun {d : D} (h : Said N1 1 c1 N2 1 c2 d) => said_row F1 F2 dM1 dc1 cb.1 cb.2 h
  have abk : (N1 * N2 / (Int.gcd (Int.gcd N1 N2) (c1 - c2) : Int)).natAbs ≤ 10 ^ 60 := ediv_abs G0 (mul_abs (n := 10 ^ 15) (m := 10 ^ 15) (by omega) (by omega) (by decide))
  -- by = _law_common(_law_common(one, other), mine[2] - its[2])
  refine dss_cons (ds_set (i := 8) Ln rfl (by decide) (de_call B c__law_common (by decide) g__law_common (da_cons (de_call B c__law_common (by decide) g__law_common (da_cons (de_var (i := 4) Mn rfl (by decide) rfl (da_cons (de_var (i := 5) Mn rfl (by decide) rfl (da_nil ⟨rfl, _, _, rfl, rfl, ⟨rfl, (da_cons (de_bin op_sub (de_ix ix_tup (fun _ _ => rfl) (de_var (i := 6) Mn rfl (by decide) rfl (de_int (rv_ixT ⟨_, _, _, rfl, rfl, rfl, (de_ix ix_tup (fun _ _ => rfl) (de_var (i := 7) Mn rfl (by decide) rfl (de_int (rv_ixT ⟨_, _, _, rfl, rfl, rfl, (rv_i0 ⟨_, _, rfl, rfl, (da_nil ⟨rfl, _, _, rfl, rfl, ⟨rfl, ?_⟩⟩)⟩)⟩))))⟩))))))⟩⟩)))))))))
  generalize (Int.gcd (Int.gcd N1 N2 : Int) (c1 - c2) : Int) = G at *
  refine dss_at (ρ' := [some (.c 0), some (.d (.int n)), some (.d (.int M)), some (.d (.int C)), some (.d (.int N1)), some (.d (.int N2)), some (.d (fl N1 1 c1)), some (.d (fl N2 1 c2)), some (.d (.int G)), none, none, none, none, none]) rfl ?_
  -- under, cell = ((by, 1, int(mine[2]) % by), _law_cell(hand, mine))
  refine dss_cons (ds_par (i := 9) (j := 10) Ln rfl rfl rfl (by decide) rfl rfl (da_cons (de_tup (da_cons (de_var (i := 8) Mn rfl (by decide) rfl (da_cons (de_int (da_cons (de_bin op_mod (de_callT call_int1 g_int m_int (by decide +kernel) (da_cons (de_ix ix_tup (fun _ _ => rfl) (de_var (i := 6) Mn rfl (by decide) rfl (de_int (rv_ixT ⟨_, _, _, rfl, rfl, rfl, (da_nil (rc_int ⟨_, rfl, (de_var (i := 8) Mn rfl (by decide) rfl (rv_ic ⟨_, _, rfl, rfl, (by show (0 : Int) < _; first | omega | (simp only [List.mem_cons, List.not_mem_nil, or_false] at *; omega) | (simp only [List.mem_cons, List.not_mem_nil, or_false] at *; split <;> omega)), (da_nil ⟨[_, _, _], rfl, lenS (n := 3) rfl (by decide), (da_cons (de_callH B c__law_cell (by decide) g__law_cell (da_cons (de_var (i := 0) Mn rfl (by decide) rfl (da_cons (de_var (i := 6) Mn rfl (by decide) rfl (da_nil ⟨_, _, _, rfl, rfl, rfl, _, _, _, _, _, rfl, rfl, (by assumption), (by omega), (by first | assumption | omega | (simp; done) | exact .inl ⟨_, rfl⟩ | exact .inl ⟨_, _, _, rfl⟩ | exact .inr rfl), (by first | assumption | omega | (simp; done) | exact .inl ⟨_, rfl⟩ | exact .inl ⟨_, _, _, rfl⟩ | exact .inr rfl), (by first | assumption | omega | (simp; done) | exact .inl ⟨_, rfl⟩ | exact .inl ⟨_, _, _, rfl⟩ | exact .inr rfl), (by first | assumption | omega | (simp; done) | exact .inl ⟨_, rfl⟩ | exact .inl ⟨_, _, _, rfl⟩ | exact .inr rfl), fun m9 x9 y9 hm9 h90 h91 h92 h93 => ⟨_, rfl, rfl, (da_nil ⟨_, _, rfl, ?_⟩)⟩⟩)))))))⟩)⟩))⟩))⟩)))))))))))))) rfl)
  -- told = [floor_below(mine, its), lies_over(mine, under), folded(mine, under, cell)]
  refine dss_cons (ds_set (i := 11) Ln rfl (by decide) (de_lst (da_cons (de_call B c_floor_below (by decide) g_floor_below (da_cons (de_var (i := 6) Mn rfl (by decide) rfl (da_cons (de_var (i := 7) Mn rfl (by decide) rfl (da_nil ⟨rfl, _, _, _, _, _, _, rfl, rfl, (by first | assumption | omega | (simp; done) | exact .inl ⟨_, rfl⟩ | exact .inl ⟨_, _, _, rfl⟩ | exact .inr rfl), (by first | assumption | omega | (simp; done) | exact .inl ⟨_, rfl⟩ | exact .inl ⟨_, _, _, rfl⟩ | exact .inr rfl), fun d12 h120 => ⟨rfl, (da_cons (de_call B c_lies_over (by decide) g_lies_over (da_cons (de_var (i := 6) Mn rfl (by decide) rfl (da_cons (de_var (i := 9) Mn rfl (by decide) rfl (da_nil ⟨rfl, _, _, _, _, _, _, rfl, rfl, (by first | assumption | omega | (simp; done) | exact .inl ⟨_, rfl⟩ | exact .inl ⟨_, _, _, rfl⟩ | exact .inr rfl), (by first | assumption | omega | (simp; done) | exact .inl ⟨_, rfl⟩ | exact .inl ⟨_, _, _, rfl⟩ | exact .inr rfl), fun r11 h110 => ⟨rfl, (da_cons (de_call B c_folded (by decide) g_folded (da_cons (de_var (i := 6) Mn rfl (by decide) rfl (da_cons (de_var (i := 9) Mn rfl (by decide) rfl (da_cons (de_var (i := 10) Mn rfl (by decide) rfl (da_nil ⟨rfl, _, _, _, _, _, _, _, _, rfl, rfl, (by first | assumption | omega | (simp; done) | exact .inl ⟨_, rfl⟩ | exact .inl ⟨_, _, _, rfl⟩ | exact .inr rfl), (by first | assumption | omega | (simp; done) | exact .inl ⟨_, rfl⟩ | exact .inl ⟨_, _, _, rfl⟩ | exact .inr rfl), (by first | assumption | omega | (simp; done) | exact .inl ⟨_, rfl⟩ | exact .inl ⟨_, _, _, rfl⟩ | exact .inr rfl), (by first | assumption | omega | (simp; done) | exact .inl ⟨_, rfl⟩ | exact .inl ⟨_, _, _, rfl⟩ | exact .inr rfl), (by first | assumption | omega | (simp; done) | exact .inl ⟨_, rfl⟩ | exact .inl ⟨_, _, _, rfl⟩ | exact .inr rfl), (by first | assumption | omega | (simp; done) | exact .inl ⟨_, rfl⟩ | exact .inl ⟨_, _, _, rfl⟩ | exact .inr rfl), (by first | assumption | omega | (simp; done) | exact .inl ⟨_, rfl⟩ | exact .inl ⟨_, _, _, rfl⟩ | exact .inr rfl), ⟨rfl, (da_nil ⟨[_, _, _], rfl, lenS (n := 3) rfl (by decide), ?_⟩)⟩⟩)))))))))⟩⟩)))))))⟩⟩)))))))))
  have v0 := Int.emod_nonneg x9 (show G ≠ 0 by omega)
  have v1 := Int.emod_lt_of_pos x9 G0
  have y0 : y9 = 0 := by omega
  subst y0
  have z1 : (0 + x9 + (0 + 0) / 1 * (c1 % G)) = x9 := by omega
  have z2 : ((0 : Int) + 0) % 1 = 0 := rfl
  have b1 : r11 = true := h110.mpr OG
  -- if not _law_is(told, [under, True, (int(cell[0]) % by, 0)])
  refine dss_cons (ds_if (dt_not (dt_val (de_call B c__law_is (by decide) g__law_is (da_cons (de_var (i := 11) Mn rfl (by decide) rfl (da_cons (de_lst (da_cons (de_var (i := 9) Mn rfl (by decide) rfl (da_cons (de_bl (da_cons (de_tup (da_cons (de_bin op_mod (de_callT call_int1 g_int m_int (by decide +kernel) (da_cons (de_ix ix_tup (fun _ _ => rfl) (de_var (i := 10) Mn rfl (by decide) rfl (de_int (rv_ixT ⟨_, _, _, rfl, rfl, rfl, (da_nil (rc_int ⟨_, rfl, (de_var (i := 8) Mn rfl (by decide) rfl (rv_ic ⟨_, _, rfl, rfl, (by show (0 : Int) < _; first | omega | (simp only [List.mem_cons, List.not_mem_nil, or_false] at *; omega) | (simp only [List.mem_cons, List.not_mem_nil, or_false] at *; split <;> omega)), (da_cons (de_int (da_nil ⟨[_, _], rfl, lenS (n := 2) rfl (by decide), (da_nil ⟨[_, _, _], rfl, lenS (n := 3) rfl (by decide), (da_nil ⟨rfl, _, _, rfl, rfl, ?_, ?_, ⟨rfl, ⟨_, rfl, ⟨fun ht => (nomatch ht), fun ht => dss_nil ?_⟩⟩⟩⟩)⟩)⟩)))⟩))⟩))⟩))))))))))))))))))))))
  · rw [bR h120, b1, z1, z2]
  · rw [bR h120, z1, z2]
    exact okR_list (by simp) (by simp only [List.mem_cons, List.not_mem_nil, or_false]; rintro d (rfl | rfl | rfl); exact okS_fl (by omega); exact okS_bl; exact okS_pr (by omega))
  -- wide, many = (_law_multiple(one, other), one * other // by)
  refine dss_cons (ds_par (i := 12) (j := 13) Ln rfl rfl rfl (by decide) rfl rfl (da_cons (de_call B c__law_multiple (by decide) g__law_multiple (da_cons (de_var (i := 4) Mn rfl (by decide) rfl (da_cons (de_var (i := 5) Mn rfl (by decide) rfl (da_nil ⟨rfl, _, _, rfl, rfl, (by first | assumption | omega | (simp; done) | exact .inl ⟨_, rfl⟩ | exact .inl ⟨_, _, _, rfl⟩ | exact .inr rfl), (by first | assumption | omega | (simp; done) | exact .inl ⟨_, rfl⟩ | exact .inl ⟨_, _, _, rfl⟩ | exact .inr rfl), (by first | assumption | omega | (simp; done) | exact .inl ⟨_, rfl⟩ | exact .inl ⟨_, _, _, rfl⟩ | exact .inr rfl), (by first | assumption | omega | (simp; done) | exact .inl ⟨_, rfl⟩ | exact .inl ⟨_, _, _, rfl⟩ | exact .inr rfl), ⟨rfl, (da_cons (de_bin op_fdivW (de_bin op_mulW (de_var (i := 4) Mn rfl (by decide) rfl (de_var (i := 5) Mn rfl (by decide) rfl (rv_ic ⟨_, _, rfl, rfl, (cmulB (by first | omega | (simp only [List.mem_cons, List.not_mem_nil, or_false] at *; omega) | (simp only [List.mem_cons, List.not_mem_nil, or_false] at *; split <;> omega)) (by first | omega | (simp only [List.mem_cons, List.not_mem_nil, or_false] at *; omega) | (simp only [List.mem_cons, List.not_mem_nil, or_false] at *; split <;> omega))), (de_var (i := 8) Mn rfl (by decide) rfl (rv_ic ⟨_, _, rfl, rfl, (cdivB (by first | omega | (simp only [List.mem_cons, List.not_mem_nil, or_false] at *; omega) | (simp only [List.mem_cons, List.not_mem_nil, or_false] at *; split <;> omega)) (by first | omega | (simp only [List.mem_cons, List.not_mem_nil, or_false] at *; omega) | (simp only [List.mem_cons, List.not_mem_nil, or_false] at *; split <;> omega))), (da_nil ⟨_, _, rfl, ?_⟩)⟩))⟩))))))⟩⟩))))))) rfl)
  have hL := lcmF (b := N1) (b' := N2) (by omega) (by omega)
  have Lle := hL.le
  have Lle2 : N1 * N2 ≤ 10 ^ 15 * 10 ^ 15 := Int.mul_le_mul (by omega) (by omega) (by omega) (by omega)
  have Lp := hL.pos
  generalize N1 / (Int.gcd N1 N2 : Int) * N2 = L at *
  -- told = _law_said(mine, its)
  refine dss_cons (ds_set (i := 11) Ln rfl (by decide) (de_call B c__law_said (by decide) g__law_said (da_cons (de_var (i := 6) Mn rfl (by decide) rfl (da_cons (de_var (i := 7) Mn rfl (by decide) rfl (da_nil ⟨rfl, _, _, _, _, _, _, rfl, rfl, (by first | assumption | omega | (simp; done) | exact .inl ⟨_, rfl⟩ | exact .inl ⟨_, _, _, rfl⟩ | exact .inr rfl), (by first | assumption | omega | (simp; done) | exact .inl ⟨_, rfl⟩ | exact .inl ⟨_, _, _, rfl⟩ | exact .inr rfl), fun d15 h150 => ⟨rfl, ?_⟩⟩)))))))
  obtain ⟨sr1, sr2⟩ := sR h150
  by_cases hL15 : L ≤ 10 ^ 15
  rotate_left
  · have eg := sr2 hL15
    subst eg
    refine dss_cons (ds_if (dt_cmp (op_eqD B.hr.units) (nomark _) (de_var (i := 11) Mn rfl (by decide) rfl (de_str (rv_eqD ⟨_, _, rfl, rfl, (by first | rfl | exact sh_great), (by first | rfl | exact sh_great), ⟨_, rfl, ⟨fun ht => ?_, fun ht => ?_⟩⟩⟩)))))
    · refine dss_cons (ds_ret (de_cmp op_gt (nomark _) (de_var (i := 12) Mn rfl (by decide) rfl (de_bin op_pow (de_int (de_int (rv_ic2 (10 ^ 15) ⟨_, _, rfl, rfl, ⟨by decide, by decide, by decide⟩, rfl, (rv_b0 ⟨_, _, rfl, rfl, (ret1 ?_)⟩)⟩)))))))
      rw [decide_eq_true (show L > 10 ^ 15 by omega)]
      exact q _ (hm9.mono (by omega))
    · exact absurd ht (by simp [PyData.eqv])
  obtain ⟨t, eg, hF, hO1, hO2⟩ := sr1 hL15
  subst eg
  refine dss_cons (ds_if (dt_cmp (op_eqD B.hr.units) (nomark _) (de_var (i := 11) Mn rfl (by decide) rfl (de_str (rv_eqD ⟨_, _, rfl, rfl, (by first | rfl | exact sh_great), (by first | rfl | exact sh_great), ⟨_, rfl, ⟨fun ht => ?_, fun ht => ?_⟩⟩⟩)))))
  · exact absurd ht (by simp [PyData.eqv])
  · try simp only [decide_eq_true_eq, decide_eq_false_iff_not, bne_iff_ne, Bool.not_eq_true', Bool.not_eq_false', ne_eq, beq_iff_eq] at ht
    refine dss_nil ?_
    -- if [told[0], told[1]] != [wide, many // wide] or not lies_over(told, mine) or (not lies_over(told, its))
    refine dss_cons (ds_if (dt_bool (dw_or (dt_cmp (op_neD B.hr.units) (nomark _) (de_lst (da_cons (de_ix ix_tup (fun _ _ => rfl) (de_var (i := 11) Mn rfl (by decide) rfl (de_int (rv_ixT ⟨_, _, _, rfl, rfl, rfl, (da_cons (de_ix ix_tup (fun _ _ => rfl) (de_var (i := 11) Mn rfl (by decide) rfl (de_int (rv_ixT ⟨_, _, _, rfl, rfl, rfl, (da_nil ⟨[_, _], rfl, lenS (n := 2) rfl (by decide), (de_lst (da_cons (de_var (i := 12) Mn rfl (by decide) rfl (da_cons (de_bin op_fdivW (de_var (i := 13) Mn rfl (by decide) rfl (de_var (i := 12) Mn rfl (by decide) rfl (rv_ic ⟨_, _, rfl, rfl, (cdivB (by first | omega | (simp only [List.mem_cons, List.not_mem_nil, or_false] at *; omega) | (simp only [List.mem_cons, List.not_mem_nil, or_false] at *; split <;> omega)) (by first | omega | (simp only [List.mem_cons, List.not_mem_nil, or_false] at *; omega) | (simp only [List.mem_cons, List.not_mem_nil, or_false] at *; split <;> omega))), (da_nil ⟨[_, _], rfl, lenS (n := 2) rfl (by decide), (rv_neD ⟨_, _, rfl, rfl, rfl, rfl, ⟨_, rfl, ⟨fun hb1 => (dw_or (dt_not (dt_val (de_call B c_lies_over (by decide) g_lies_over (da_cons (de_var (i := 11) Mn rfl (by decide) rfl (da_cons (de_var (i := 6) Mn rfl (by decide) rfl (da_nil ⟨rfl, _, _, _, _, _, _, rfl, rfl, (by first | assumption | omega | (simp; done) | exact .inl ⟨_, rfl⟩ | exact .inl ⟨_, _, _, rfl⟩ | exact .inr rfl), (by first | assumption | omega | (simp; done) | exact .inl ⟨_, rfl⟩ | exact .inl ⟨_, _, _, rfl⟩ | exact .inr rfl), fun r17 h170 => ⟨rfl, ⟨_, rfl, ⟨fun hb2 => (dw_or1 (dt_not (dt_val (de_call B c_lies_over (by decide) g_lies_over (da_cons (de_var (i := 11) Mn rfl (by decide) rfl (da_cons (de_var (i := 7) Mn rfl (by decide) rfl (da_nil ⟨rfl, _, _, _, _, _, _, rfl, rfl, (by first | assumption | omega | (simp; done) | exact .inl ⟨_, rfl⟩ | exact .inl ⟨_, _, _, rfl⟩ | exact .inr rfl), (by first | assumption | omega | (simp; done) | exact .inl ⟨_, rfl⟩ | exact .inl ⟨_, _, _, rfl⟩ | exact .inr rfl), fun r16 h160 => ⟨rfl, ⟨_, rfl, ⟨fun ht => ?_, fun ht => ?_⟩⟩⟩⟩))))))))), fun hb2 => ⟨fun ht => ?_, fun ht => ?_⟩⟩⟩⟩⟩))))))))), fun hb1 => ⟨fun ht => ?_, fun ht => ?_⟩⟩⟩⟩)⟩)⟩))))))))⟩)⟩)))))⟩))))))))))
    · try simp only [decide_eq_true_eq, decide_eq_false_iff_not, bne_iff_ne, Bool.not_eq_true', Bool.not_eq_false', ne_eq, beq_iff_eq] at ht
      exact absurd (h160.mpr hO2) (by simp [ht])
    · try simp only [decide_eq_true_eq, decide_eq_false_iff_not, bne_iff_ne, Bool.not_eq_true', Bool.not_eq_false', ne_eq, beq_iff_eq] at ht
      refine dss_nil ?_
      refine dss_cons (ds_ret (de_and (de_cmp (op_eqD B.hr.units) (nomark _) (de_call B c_group (by decide) g_group (da_cons (de_var (i := 6) Mn rfl (by decide) rfl (da_nil ⟨rfl, _, _, _, rfl, rfl, (by first | assumption | omega | (simp; done) | exact .inl ⟨_, rfl⟩ | exact .inl ⟨_, _, _, rfl⟩ | exact .inr rfl), ⟨rfl, (de_tup (da_cons (de_int (da_cons (de_var (i := 4) Mn rfl (by decide) rfl (da_nil ⟨[_, _], rfl, lenS (n := 2) rfl (by decide), (rv_eqD ⟨_, _, rfl, rfl, rfl, rfl, ⟨_, rfl, fun hb3 => (de_one (de_cmp op_isBl (nomark _) (de_call B c_is_one_ring (by decide) g_is_one_ring (da_cons (de_var (i := 6) Mn rfl (by decide) rfl (da_nil ⟨rfl, _, _, _, rfl, rfl, (by first | assumption | omega | (simp; done) | exact .inl ⟨_, rfl⟩ | exact .inl ⟨_, _, _, rfl⟩ | exact .inr rfl), fun r18 h180 => ⟨rfl, (de_bl (rv_isB ⟨_, _, rfl, rfl, (ret1 ?_)⟩))⟩⟩)))))), fun hb3 => (ret1 ?_)⟩⟩)⟩))))))⟩⟩)))))))
      · have gg : Int.gcd (Int.gcd N1 1 : Int) c1 = 1 := by simp
        have e : r18 = true := h180.mpr gg
        rw [e]
        exact q _ (hm9.mono (by omega))
      · have gg : Int.gcd (Int.gcd N1 1 : Int) c1 = 1 := by simp
        rw [gg, eqv2] at hb3
        simp at hb3
    · exact absurd (h170.mpr hO1) (by simpa using hb2)
    · cases ht
    · rw [eqv2l] at hb1
      simp at hb1
    · cases ht
theorem ok__law_are_rows_right {P : Program} {w : World} {K : PySem.W.Frag} {mg : Str → Option Value} {base : Heap} (T : Top1 K mg "_law_are_rows_right" s__law_are_rows_right ["hand", "top"]) (c__law_common : Cal P w K mg base CX0 "_law_common" 1 (lift K sp__law_common)) (c__law_said : Cal P w K mg base CX0 "_law_said" 7 (lift K sp__law_said)) (c__law_figures : Cal P w K mg base CX0 "_law_figures" 3 (lift K sp__law_figures)) (c__law_cell : Cal P w K mg base CX0 "_law_cell" 4 (lift K sp__law_cell)) (c_floor_below : Cal P w K mg base CX0 "floor_below" 6 (lift K sp_floor_below)) (c_lies_over : Cal P w K mg base CX0 "lies_over" 7 (lift K sp_lies_over)) (c_folded : Cal P w K mg base CX0 "folded" 8 (lift K sp_folded)) (c__law_is : Cal P w K mg base CX0 "_law_is" 1 (lift K sp__law_is)) (c__law_multiple : Cal P w K mg base CX0 "_law_multiple" 2 (lift K sp__law_multiple)) (m_int : mg "int" = none) (c_group : Cal P w K mg base CX0 "group" 5 (lift K sp_group)) (c_is_one_ring : Cal P w K mg base CX0 "is_one_ring" 5 (lift K sp_is_one_ring)) (c__law_draw : Cal P w K mg base CX0 "_law_draw" 1 (lift K sp__law_draw)) : Cal P w K mg base CX0 "_law_are_rows_right" 9 (lift K sp__law_are_rows_right) :=
  cal_of T sc__law_are_rows_right (by rintro es μ Q ⟨_, _, _, rfl, _⟩; rfl) fun f cdv A outer s H E B es μ μh Q h => body__law_are_rows_right (X0 := cxOf CX0 P w K mg base N__law_are_rows_right "_law_are_rows_right" (defScope s__law_are_rows_right) f cdv A outer s H E) (env0 := PyProof.Rows.envOfC "_law_are_rows_right" (defScope s__law_are_rows_right) s.heap.objs.size f cdv) c__law_common c__law_said c__law_figures c__law_cell c_floor_below c_lies_over c_folded c__law_is c__law_multiple m_int c_group c_is_one_ring c__law_draw B es μ μh Q h
end K07

namespace K07
open PySem PySem.Spec L2 Pw
theorem retL {P : Ent → Mu → Prop} {x : D} {m : MO} (h : P (.d x) []) : RetP 0 [] P (.d x) [m] := ⟨[], [m], rfl, rfl, rfl, h⟩
theorem all4 {acc : List D} (h : acc.length = (rgi 0 (Int.toNat 4)).length) (ha : ∀ d ∈ acc, d = .bool true) : acc = [true, true, true, true].map .bool := by
  obtain ⟨d1, d2, d3, d4, rfl⟩ := len4 h
  rw [ha d1 (by simp), ha d2 (by simp), ha d3 (by simp), ha d4 (by simp)]
  rfl
theorem dss_at2 {X : Cx} {sts : List Stmt} {ρ ρ' : Slots} {μ μ' : Mu} {Z : Po} (h : ρ = ρ') (h2 : μ = μ') (k : DSs X sts ρ' μ' Z) : DSs X sts ρ μ Z := h ▸ h2 ▸ k
theorem law1 {d : D} (h : Said (10 ^ 15) 2 0 (10 ^ 15 - 1) 2 0 d) : d = .str "great" := by
  rw [said_dial (by omega) (by omega) h, if_neg (by decide +kernel)]
theorem law2 {d : D} (h : Said (10 ^ 15) (10 ^ 15) 0 5 2 0 d) : d = fl (10 ^ 15) (10 ^ 15) 0 := by
  rw [said_dial (by omega) (by omega) h, if_pos (by decide +kernel), show (10 ^ 15 : Int) / (Int.gcd (10 ^ 15) 5 : Int) * 5 = 10 ^ 15 by decide +kernel, show (10 ^ 15 : Int) / (Int.gcd (10 ^ 15) 2 : Int) * 2 = 10 ^ 15 by decide +kernel]
theorem law3 {d : D} (h : Below (10 ^ 15) 6 0 15 4 0 d) : d = fl 5 2 0 := by
  rw [below_dial (by omega) (by omega) h, if_pos (by decide +kernel), show (Int.gcd (10 ^ 15) 15 : Int) = 5 by decide +kernel, show (Int.gcd 6 4 : Int) = 2 by decide +kernel]
theorem law4 {d : D} (h : Below 4 9 0 6 2 0 d) : d = .none := by
  rw [below_dial (by omega) (by omega) h, if_neg (by decide +kernel)]
theorem law5 {d : D} (h : Below 9 4 0 2 6 0 d) : d = .none := by
  rw [below_dial (by omega) (by omega) h, if_neg (by decide +kernel)]
theorem law6 : Over (10 ^ 15) (10 ^ 15) 0 8 125 0 := (over_dial (by omega) (by omega)).mpr ⟨⟨125000000000000, by decide⟩, ⟨8000000000000, by decide⟩⟩
/-! ### law -/
abbrev s_law : Stmt := topS 66
abbrev N_law : List Str := ["script", "hand", "top", "told", "turn"]
theorem sc_law : FnScope N_law ["script"] (defScope s_law) := ⟨rfl, rfl, rfl, by decide +kernel, rfl, by decide +kernel, by decide +kernel⟩
theorem nm_law : nmC N_law (defScope s_law) [0, 1, 2, 3, 4] = true := by decide +kernel
theorem lc_law : lcC N_law (defScope s_law) [0, 1, 2, 3, 4] = true := by decide +kernel
theorem gb_law__law_hand : gbC (defScope s_law) "_law_hand" = true := by decide +kernel
theorem gb_law__law_said : gbC (defScope s_law) "_law_said" = true := by decide +kernel
theorem gb_law_floor_below : gbC (defScope s_law) "floor_below" = true := by decide +kernel
theorem gb_law_folded : gbC (defScope s_law) "folded" = true := by decide +kernel
theorem gb_law__law_is : gbC (defScope s_law) "_law_is" = true := by decide +kernel
theorem gb_law_range : gbC (defScope s_law) "range" = true := by decide +kernel
theorem gb_law__law_are_dials_right : gbC (defScope s_law) "_law_are_dials_right" = true := by decide +kernel
theorem gb_law__law_some : gbC (defScope s_law) "_law_some" = true := by decide +kernel
theorem gb_law__law_are_rows_right : gbC (defScope s_law) "_law_are_rows_right" = true := by decide +kernel
theorem gb_law_all : gbC (defScope s_law) "all" = true := by decide +kernel
def sp_law : SpF := fun es μ P => ∃ (xs : List Int), es = [.d (.list (xs.map .int))] ∧ μ = [] ∧ P (.d (.bool true)) []
theorem body_law {X0 : Cx} {env0 : PySem.Env} (c__law_hand : Cal X0.prog X0.w X0.K X0.mg X0.base CX0 "_law_hand" 1 (liftF X0.K sp__law_hand)) (m_range : X0.mg "range" = none) (m_all : X0.mg "all" = none) (c__law_said : CalX X0 "_law_said" 7 sp__law_said) (c__law_is : CalX X0 "_law_is" 1 sp__law_is) (c_floor_below : CalX X0 "floor_below" 6 sp_floor_below) (c_folded : CalX X0 "folded" 8 sp_folded) (c__law_are_dials_right : CalX X0 "_law_are_dials_right" 9 sp__law_are_dials_right) (c__law_are_rows_right : CalX X0 "_law_are_rows_right" 9 sp__law_are_rows_right) (c__law_are_small_right : CalX X0 "_law_are_small_right" 8 sp__law_are_small_right) (c__law_some : CalX X0 "_law_some" 2 sp__law_some) (B : Bx (mkX X0 env0 N_law (defScope s_law)) 9) :
    ∀ (es : List Ent) (Q : Ent → Mu → Prop), sp_law es [] Q → DSs (mkX X0 env0 N_law (defScope s_law)) (defBody s_law) (slots0 N_law es) [] (Zof 0 [] Q) := by
  rintro es Q ⟨xs, rfl, _, q⟩
  have Mn : Nm (mkX X0 env0 N_law (defScope s_law)) [0, 1, 2, 3, 4] := nm_of nm_law
  have Ln : Lc (mkX X0 env0 N_law (defScope s_law)) [0, 1, 2, 3, 4] := lc_of lc_law
  have g__law_hand : Gb (mkX X0 env0 N_law (defScope s_law)) "_law_hand" := gb_of gb_law__law_hand
  have g__law_said : Gb (mkX X0 env0 N_law (defScope s_law)) "_law_said" := gb_of gb_law__law_said
  have g_floor_below : Gb (mkX X0 env0 N_law (defScope s_law)) "floor_below" := gb_of gb_law_floor_below
  have g_folded : Gb (mkX X0 env0 N_law (defScope s_law)) "folded" := gb_of gb_law_folded
  have g__law_is : Gb (mkX X0 env0 N_law (defScope s_law)) "_law_is" := gb_of gb_law__law_is
  have g_range : Gb (mkX X0 env0 N_law (defScope s_law)) "range" := gb_of gb_law_range
  have g__law_are_dials_right : Gb (mkX X0 env0 N_law (defScope s_law)) "_law_are_dials_right" := gb_of gb_law__law_are_dials_right
  have g__law_some : Gb (mkX X0 env0 N_law (defScope s_law)) "_law_some" := gb_of gb_law__law_some
  have g__law_are_rows_right : Gb (mkX X0 env0 N_law (defScope s_law)) "_law_are_rows_right" := gb_of gb_law__law_are_rows_right
  have g_all : Gb (mkX X0 env0 N_law (defScope s_law)) "all" := gb_of gb_law_all
  -- hand = _law_hand(script)
  refine dss_cons (ds_setHand (i := 1) Ln rfl (by decide) B c__law_hand (by decide) g__law_hand (da_cons (de_var (i := 0) Mn rfl (by decide) rfl (da_nil ⟨[_], rfl, _, rfl, fun l hl => ?_⟩))))
  refine dss_at2 (ρ' := [some (.d (.list (xs.map .int))), some (.c 0), none, none, none]) (μ' := [.lst l]) rfl rfl ?_
  have ovl := law6
  -- top = 10 ** 15
  refine dss_cons (ds_set (i := 2) Ln rfl (by decide) (de_bin op_pow (de_int (de_int (rv_ic2 (10 ^ 15) ⟨_, _, rfl, rfl, ⟨by decide, by decide, by decide⟩, rfl, ?_⟩)))))
  -- told = [_law_said((top, 2, 0), (top - 1, 2, 0)), _law_said((top, top, 0), (5, 2, 0))]
  refine dss_cons (ds_set (i := 3) Ln rfl (by decide) (de_lst (da_cons (de_call B c__law_said (by decide) g__law_said (da_cons (de_tup (da_cons (de_var (i := 2) Mn rfl (by decide) rfl (da_cons (de_int (da_cons (de_int (da_nil ⟨[_, _, _], rfl, lenS (n := 3) rfl (by decide), (da_cons (de_tup (da_cons (de_bin op_sub (de_var (i := 2) Mn rfl (by decide) rfl (de_int (rv_i0 ⟨_, _, rfl, rfl, (da_cons (de_int (da_cons (de_int (da_nil ⟨[_, _, _], rfl, lenS (n := 3) rfl (by decide), (da_nil ⟨rfl, _, _, _, _, _, _, rfl, rfl, (by first | assumption | omega | (simp; done) | (simp only [List.mem_cons, List.not_mem_nil, or_false] at *; omega)), (by first | assumption | omega | (simp; done) | (simp only [List.mem_cons, List.not_mem_nil, or_false] at *; omega)), fun d2 h20 => ⟨rfl, (da_cons (de_call B c__law_said (by decide) g__law_said (da_cons (de_tup (da_cons (de_var (i := 2) Mn rfl (by decide) rfl (da_cons (de_var (i := 2) Mn rfl (by decide) rfl (da_cons (de_int (da_nil ⟨[_, _, _], rfl, lenS (n := 3) rfl (by decide), (da_cons (de_tup (da_cons (de_int (da_cons (de_int (da_cons (de_int (da_nil ⟨[_, _, _], rfl, lenS (n := 3) rfl (by decide), (da_nil ⟨rfl, _, _, _, _, _, _, rfl, rfl, (by first | assumption | omega | (simp; done) | (simp only [List.mem_cons, List.not_mem_nil, or_false] at *; omega)), (by first | assumption | omega | (simp; done) | (simp only [List.mem_cons, List.not_mem_nil, or_false] at *; omega)), fun d1 h10 => ⟨rfl, (da_nil ⟨[_, _], rfl, lenS (n := 2) rfl (by decide), ?_⟩)⟩⟩)⟩)))))))))⟩)))))))))))⟩⟩)⟩)))))⟩)))))))⟩)))))))))))))
  obtain rfl := law1 h20
  obtain rfl := law2 h10
  -- told = told + [floor_below((top, 6, 0), (15, 4, 0))]
  refine dss_cons (ds_set (i := 3) Ln rfl (by decide) (de_bin op_catL (de_var (i := 3) Mn rfl (by decide) rfl (de_lst (da_cons (de_call B c_floor_below (by decide) g_floor_below (da_cons (de_tup (da_cons (de_var (i := 2) Mn rfl (by decide) rfl (da_cons (de_int (da_cons (de_int (da_nil ⟨[_, _, _], rfl, lenS (n := 3) rfl (by decide), (da_cons (de_tup (da_cons (de_int (da_cons (de_int (da_cons (de_int (da_nil ⟨[_, _, _], rfl, lenS (n := 3) rfl (by decide), (da_nil ⟨rfl, _, _, _, _, _, _, rfl, rfl, (by first | assumption | omega | (simp; done) | (simp only [List.mem_cons, List.not_mem_nil, or_false] at *; omega)), (by first | assumption | omega | (simp; done) | (simp only [List.mem_cons, List.not_mem_nil, or_false] at *; omega)), fun d3 h30 => ⟨rfl, (da_nil ⟨[_], rfl, lenS (n := 1) rfl (by decide), (rv_catL ⟨_, _, rfl, rfl, (by first | (show 1 + 1 ≤ sizeLine; decide) | (show 2 + 1 ≤ sizeLine; decide) | (show 2 + 2 ≤ sizeLine; decide) | (show 3 + 1 ≤ sizeLine; decide) | (show 3 + 2 ≤ sizeLine; decide) | (show 5 + 1 ≤ sizeLine; decide)), ?_⟩)⟩)⟩⟩)⟩)))))))))⟩)))))))))))))))
  obtain rfl := law3 h30
  -- told = told + [floor_below((4, 9, 0), (6, 2, 0)), floor_below((9, 4, 0), (2, 6, 0))]
  refine dss_cons (ds_set (i := 3) Ln rfl (by decide) (de_bin op_catL (de_var (i := 3) Mn rfl (by decide) rfl (de_lst (da_cons (de_call B c_floor_below (by decide) g_floor_below (da_cons (de_tup (da_cons (de_int (da_cons (de_int (da_cons (de_int (da_nil ⟨[_, _, _], rfl, lenS (n := 3) rfl (by decide), (da_cons (de_tup (da_cons (de_int (da_cons (de_int (da_cons (de_int (da_nil ⟨[_, _, _], rfl, lenS (n := 3) rfl (by decide), (da_nil ⟨rfl, _, _, _, _, _, _, rfl, rfl, (by first | assumption | omega | (simp; done) | (simp only [List.mem_cons, List.not_mem_nil, or_false] at *; omega)), (by first | assumption | omega | (simp; done) | (simp only [List.mem_cons, List.not_mem_nil, or_false] at *; omega)), fun d5 h50 => ⟨rfl, (da_cons (de_call B c_floor_below (by decide) g_floor_below (da_cons (de_tup (da_cons (de_int (da_cons (de_int (da_cons (de_int (da_nil ⟨[_, _, _], rfl, lenS (n := 3) rfl (by decide), (da_cons (de_tup (da_cons (de_int (da_cons (de_int (da_cons (de_int (da_nil ⟨[_, _, _], rfl, lenS (n := 3) rfl (by decide), (da_nil ⟨rfl, _, _, _, _, _, _, rfl, rfl, (by first | assumption | omega | (simp; done) | (simp only [List.mem_cons, List.not_mem_nil, or_false] at *; omega)), (by first | assumption | omega | (simp; done) | (simp only [List.mem_cons, List.not_mem_nil, or_false] at *; omega)), fun d4 h40 => ⟨rfl, (da_nil ⟨[_, _], rfl, lenS (n := 2) rfl (by decide), (rv_catL ⟨_, _, rfl, rfl, (by first | (show 1 + 1 ≤ sizeLine; decide) | (show 2 + 1 ≤ sizeLine; decide) | (show 2 + 2 ≤ sizeLine; decide) | (show 3 + 1 ≤ sizeLine; decide) | (show 3 + 2 ≤ sizeLine; decide) | (show 5 + 1 ≤ sizeLine; decide)), ?_⟩)⟩)⟩⟩)⟩)))))))))⟩)))))))))))⟩⟩)⟩)))))))))⟩)))))))))))))))
  obtain rfl := law4 h50
  obtain rfl := law5 h40
  -- told = told + [folded((top, top, 0), (8, 125, 0), (top - 1, top - 2))]
  refine dss_cons (ds_set (i := 3) Ln rfl (by decide) (de_bin op_catL (de_var (i := 3) Mn rfl (by decide) rfl (de_lst (da_cons (de_call B c_folded (by decide) g_folded (da_cons (de_tup (da_cons (de_var (i := 2) Mn rfl (by decide) rfl (da_cons (de_var (i := 2) Mn rfl (by decide) rfl (da_cons (de_int (da_nil ⟨[_, _, _], rfl, lenS (n := 3) rfl (by decide), (da_cons (de_tup (da_cons (de_int (da_cons (de_int (da_cons (de_int (da_nil ⟨[_, _, _], rfl, lenS (n := 3) rfl (by decide), (da_cons (de_tup (da_cons (de_bin op_sub (de_var (i := 2) Mn rfl (by decide) rfl (de_int (rv_i0 ⟨_, _, rfl, rfl, (da_cons (de_bin op_sub (de_var (i := 2) Mn rfl (by decide) rfl (de_int (rv_i0 ⟨_, _, rfl, rfl, (da_nil ⟨[_, _], rfl, lenS (n := 2) rfl (by decide), (da_nil ⟨rfl, _, _, _, _, _, _, _, _, rfl, rfl, (by first | assumption | omega | (simp; done) | (simp only [List.mem_cons, List.not_mem_nil, or_false] at *; omega)), (by first | assumption | omega | (simp; done) | (simp only [List.mem_cons, List.not_mem_nil, or_false] at *; omega)), (by first | assumption | omega | (simp; done) | (simp only [List.mem_cons, List.not_mem_nil, or_false] at *; omega)), (by first | assumption | omega | (simp; done) | (simp only [List.mem_cons, List.not_mem_nil, or_false] at *; omega)), (by first | assumption | omega | (simp; done) | (simp only [List.mem_cons, List.not_mem_nil, or_false] at *; omega)), (by first | assumption | omega | (simp; done) | (simp only [List.mem_cons, List.not_mem_nil, or_false] at *; omega)), (by first | assumption | omega | (simp; done) | (simp only [List.mem_cons, List.not_mem_nil, or_false] at *; omega)), ⟨rfl, (da_nil ⟨[_], rfl, lenS (n := 1) rfl (by decide), (rv_catL ⟨_, _, rfl, rfl, (by first | (show 1 + 1 ≤ sizeLine; decide) | (show 2 + 1 ≤ sizeLine; decide) | (show 2 + 2 ≤ sizeLine; decide) | (show 3 + 1 ≤ sizeLine; decide) | (show 3 + 2 ≤ sizeLine; decide) | (show 5 + 1 ≤ sizeLine; decide)), ?_⟩)⟩)⟩⟩)⟩)⟩)))))⟩)))))))⟩)))))))))⟩)))))))))))))))
  rw [show ((0 + (10 ^ 15 - 1) + (0 + (10 ^ 15 - 2)) / 125 * 0) % 8 : Int) = 7 by omega, show ((0 + (10 ^ 15 - 2)) % 125 : Int) = 123 by omega]
  refine dss_at (ρ' := [some (.d (.list (xs.map .int))), some (.c 0), some (.d (.int (10 ^ 15))), some (.d (.list [.str "great", fl (10 ^ 15) (10 ^ 15) 0, fl 5 2 0, .none, .none, pr 7 123])), none]) rfl ?_
  -- if not _law_is(told, ['great', (top, top, 0), (5, 2, 0), None, None, (7, 123)])
  refine dss_cons (ds_if (dt_not (dt_val (de_call B c__law_is (by decide) g__law_is (da_cons (de_var (i := 3) Mn rfl (by decide) rfl (da_cons (de_lst (da_cons (de_str (da_cons (de_tup (da_cons (de_var (i := 2) Mn rfl (by decide) rfl (da_cons (de_var (i := 2) Mn rfl (by decide) rfl (da_cons (de_int (da_nil ⟨[_, _, _], rfl, lenS (n := 3) rfl (by decide), (da_cons (de_tup (da_cons (de_int (da_cons (de_int (da_cons (de_int (da_nil ⟨[_, _, _], rfl, lenS (n := 3) rfl (by decide), (da_cons (de_non (da_cons (de_non (da_cons (de_tup (da_cons (de_int (da_cons (de_int (da_nil ⟨[_, _], rfl, lenS (n := 2) rfl (by decide), (da_nil ⟨[_, _, _, _, _, _], rfl, lenS (n := 6) rfl (by decide), (da_nil ⟨rfl, _, _, rfl, rfl, ?_, ?_, ⟨rfl, ⟨_, rfl, ⟨fun ht => (nomatch ht), fun ht => dss_nil ?_⟩⟩⟩⟩)⟩)⟩)))))))))))⟩)))))))))⟩)))))))))))))))))))
  · rfl
  · exact okR_list (by simp) (by
      simp only [List.mem_cons, List.not_mem_nil, or_false]
      rintro d (rfl | rfl | rfl | rfl | rfl | rfl)
      · exact okS_great
      · exact okS_fl (by omega)
      · exact okS_fl (by omega)
      · exact okS_non
      · exact okS_non
      · exact okS_pr (by omega))
  -- for turn in range(12)
  refine dss_cons (ds_for PassesOwn.never rfl (di_range1 g_range m_range (de_int ⟨_, rfl, (by decide), (by decide), ⟨fun i ρ μ2 => ∃ m o, IsHand (210 * i) m ∧ ρ = [some (.d (.list (xs.map .int))), some (.c 0), some (.d (.int (10 ^ 15))), some (.d (.list [.str "great", fl (10 ^ 15) (10 ^ 15) 0, fl 5 2 0, .none, .none, pr 7 123])), o] ∧ [m] = μ2, ⟨_, _, hl, rfl, rfl⟩, ?_, ?_⟩⟩)))
  · rintro i d ρ μ hd ⟨m, o, hm, rfl, rfl⟩
    have hi : i < 12 := (rgi_get hd).1
    refine dg_name (i := 4) Ln rfl (by decide) ?_
    -- if not _law_are_dials_right(hand, _law_some(hand, [top, 10 ** 8, 60]))
    refine dss_cons (ds_if (dt_not (dt_val (de_callH B c__law_are_dials_right (by decide) g__law_are_dials_right (da_cons (de_var (i := 1) Mn rfl (by decide) rfl (da_cons (de_callH B c__law_some (by decide) g__law_some (da_cons (de_var (i := 1) Mn rfl (by decide) rfl (da_cons (de_lst (da_cons (de_var (i := 2) Mn rfl (by decide) rfl (da_cons (de_bin op_pow (de_int (de_int (rv_ic2 (10 ^ 8) ⟨_, _, rfl, rfl, ⟨by decide, by decide, by decide⟩, rfl, (da_cons (de_int (da_nil ⟨[_, _, _], rfl, lenS (n := 3) rfl (by decide), (da_nil ⟨_, _, _, rfl, rfl, rfl, _, _, [_, _, _], rfl, rfl, (by assumption), (by omega), (by first | assumption | omega | (simp; done) | (simp only [List.mem_cons, List.not_mem_nil, or_false] at *; omega)), (by first | assumption | omega | (simp; done) | (simp only [List.mem_cons, List.not_mem_nil, or_false] at *; omega)), fun m9 r9 hm9 h90 => ⟨_, rfl, rfl, (da_nil ⟨_, _, _, rfl, rfl, rfl, _, _, _, rfl, rfl, (by assumption), (by omega), (by first | assumption | omega | (simp; done) | (simp only [List.mem_cons, List.not_mem_nil, or_false] at *; omega)), (by first | assumption | omega | (simp; done) | (simp only [List.mem_cons, List.not_mem_nil, or_false] at *; omega)), fun m8 hm8 => ⟨_, rfl, rfl, ⟨_, rfl, ⟨fun ht => (nomatch ht), fun ht => dss_nil ?_⟩⟩⟩⟩)⟩⟩)⟩)))⟩)))))))))))))))))))
    -- if not _law_are_rows_right(hand, _law_some(hand, [top, 10 ** 5]))
    refine dss_cons (ds_if (dt_not (dt_val (de_callH B c__law_are_rows_right (by decide) g__law_are_rows_right (da_cons (de_var (i := 1) Mn rfl (by decide) rfl (da_cons (de_callH B c__law_some (by decide) g__law_some (da_cons (de_var (i := 1) Mn rfl (by decide) rfl (da_cons (de_lst (da_cons (de_var (i := 2) Mn rfl (by decide) rfl (da_cons (de_bin op_pow (de_int (de_int (rv_ic2 (10 ^ 5) ⟨_, _, rfl, rfl, ⟨by decide, by decide, by decide⟩, rfl, (da_nil ⟨[_, _], rfl, lenS (n := 2) rfl (by decide), (da_nil ⟨_, _, _, rfl, rfl, rfl, _, _, [_, _], rfl, rfl, (by assumption), (by omega), (by first | assumption | omega | (simp; done) | (simp only [List.mem_cons, List.not_mem_nil, or_false] at *; omega)), (by first | assumption | omega | (simp; done) | (simp only [List.mem_cons, List.not_mem_nil, or_false] at *; omega)), fun m11 r11 hm11 h110 => ⟨_, rfl, rfl, (da_nil ⟨_, _, _, rfl, rfl, rfl, _, _, _, rfl, rfl, (by assumption), (by omega), (by first | assumption | omega | (simp; done) | (simp only [List.mem_cons, List.not_mem_nil, or_false] at *; omega)), (by first | assumption | omega | (simp; done) | (simp only [List.mem_cons, List.not_mem_nil, or_false] at *; omega)), fun m10 hm10 => ⟨_, rfl, rfl, ⟨_, rfl, ⟨fun ht => (nomatch ht), fun ht => dss_nil ?_⟩⟩⟩⟩)⟩⟩)⟩)⟩)))))))))))))))))))
    exact dss_nil ⟨_, _, hm10.mono (by omega), rfl, rfl⟩
  · rintro ρ μ ⟨m, o, hm, rfl, rfl⟩
    rw [rgi_len] at hm
    have hm := hm.mono (show 210 * Int.toNat 12 ≤ 2520 by decide)
    refine dss_cons (ds_ret (de_callB (cr_all rfl) g_all m_all (by decide +kernel) (da_cons (de_cut (P' := fun en μ2 => ∃ m, en = .d (.list ([true, true, true, true].map .bool)) ∧ [m] = μ2) (de_lcHandI (own := [("turn", 4)]) (g := (gName 4)) (fun i μ2 => ∃ m, IsHand (2520 + 10 * i) m ∧ [m] = μ2) (fun d => d = .bool true) rfl Ln.nd (blkOk_by (by show blkC N_law (defScope s_law) _ _ = true; decide +kernel)) (fun _ _ _ _ _ => pg_name (i := 4) Ln.nd rfl (Or.inl rfl)) (di_range1 g_range m_range (de_int ⟨_, rfl, (by decide), (by decide), ⟨(by first | exact ltS (n := 1) rfl (by decide) | exact ltS (n := 2) rfl (by decide) | exact ltS (n := 3) rfl (by decide) | exact ltS (n := 4) rfl (by decide) | exact ltS (n := 5) rfl (by decide) | exact ltS (n := 6) rfl (by decide)), ⟨_, hm.mono (by omega), rfl⟩, ?_, fun acc mu hlen hall hmi => ?_⟩⟩))) fun en μc hc => ?_))))
    · intro i d hd acc mu hmi
      have hi := (rgi_get hd).1; simp only [Int.reduceToNat] at hi; obtain ⟨m, hm, rfl⟩ := hmi
      refine (dgc_name (by decide) (fun _ _ _ _ _ => (de_callH (bx_blk B) c__law_are_small_right (by decide) (gb_blk (x := "_law_are_small_right") rfl) (da_cons (de_var (i := 1) (nm_blk (vi := [1, 4]) rfl) rfl (by decide) rfl (da_nil ⟨_, _, _, rfl, rfl, rfl, _, _, rfl, rfl, (by assumption), (by omega), fun m12 hm12 => ⟨_, rfl, rfl, ⟨_, [_], rfl, rfl, ⟨_, IsHand.mono (by assumption) (by omega), rfl⟩, rfl⟩⟩⟩))))))
    · obtain ⟨m, hm, rfl⟩ := hmi
      exact ⟨m, by rw [all4 hlen hall], rfl⟩
    obtain ⟨m, rfl, rfl⟩ := hc
    refine (da_nil (rc_all ⟨[true, true, true, true], rfl, (retL q)⟩))
end K07

namespace K07
open PySem PySem.Spec L2 Pw
/-! ### the end -/
/-- a promise where nothing is hidden -/
def top0 (K : PySem.W.Frag) (sp : SpF) : Sp := fun vs H Q _ => ∃ (es : List Ent) (P : Ent → Mu → Prop), EntsOk K H [] vs es ∧ sp es [] P ∧ ∀ en μ', P en μ' → ∀ v H', EntOk K H' [] v en → Q v H'
theorem hide0 (H : Hp) : hide H [] = H := by
  funext b
  unfold hide
  rw [if_neg (by simp)]
theorem own_exm {K : PySem.W.Frag} {S : Addr} (b : PySem.W.subIn K (.ref S) (.type "BaseException") = some true) (i : PySem.W.isClsIn K S = true) (t : PySem.W.typeIn K (.ref S) = some (.type "type")) (s : PySem.W.subIn K (.ref S) (.ref S) = some true) : PySem.W.exmOne K (.ref S) (.ref S) = some true := by
  have i' : (PySem.W.clsIn K S).isSome = true := i
  simp only [PySem.W.exmOne, PySem.W.kitCls]
  simp [b, i', t, s]
theorem fn_top {P : Program} {w : World} {K : PySem.W.Frag} {mg : Str → Option Value} {base : Heap} {x : Str} {st : Stmt} {N ps : List Str} {k : Nat} {sp : SpF} {f : Addr} {fd : FuncData} (F : L2.Fun K x x st f fd) (S : FnScope N ps (defScope st)) (len : ∀ es Q, sp es [] Q → es.length = ps.length)
    (hbody : ∀ (cdv : Value) (A : Around) (outer : List PySem.Env) (s : Shared) (H : Hp) (E : XK),
      Bx (mkX (cxOf CX0 P w K mg base N x (defScope st) f cdv A outer s H E) (PyProof.Rows.envOfC x (defScope st) s.heap.objs.size f cdv) N (defScope st)) k → ∀ (es : List Ent) (Q : Ent → Mu → Prop), sp es [] Q →
      DSs (mkX (cxOf CX0 P w K mg base N x (defScope st) f cdv A outer s H E) (PyProof.Rows.envOfC x (defScope st) s.heap.objs.size f cdv) N (defScope st)) (defBody st) (slots0 N es) [] (Zof 0 [] Q)) :
    FnG P w K mg base CX0 (k + 1) f fd ps (top0 K sp) := by
  refine fnG_of F S ?_ ?_
  · rintro vs H Q E ⟨es, P0, he, hs, _⟩
    rw [ents_len he]
    exact len _ _ hs
  · rintro cdv A outer s H vs Q E hr hg ⟨es, P0, he, hs, hq⟩
    have B : Bx (mkX (cxOf CX0 P w K mg base N x (defScope st) f cdv A outer s H E) (PyProof.Rows.envOfC x (defScope st) s.heap.objs.size f cdv) N (defScope st)) k := ⟨hg, hr⟩
    have body := hbody cdv A outer s H E B es P0 hs
    refine of_pss (PSs.nox pss_w) ?_
    have vl := ents_len he
    have cs : Cells K H [] [] := ⟨rfl, fun i j a h1 => by simp at h1, fun i a m h1 => by simp at h1⟩
    have fin : ∀ {as' : As} {H' : Hp} {σ : L2.St} {ρ : Slots} {μ' : Mu} {v : V} {en : Ent}, Rel K ⟨[], H, H⟩ H' as' σ ρ μ' → EntOk K (hide H' as') as' v en → RetP 0 [] P0 en μ' → Q v H' := fun {as' H' σ ρ μ' v en} R o z => by
      obtain ⟨μ1, loc, e, l1, pl, p⟩ := z
      have z : EntOk K H' [] v en := (o.mono hide_same).plain pl
      exact hq en μ1 p v H' z
    refine body ⟨[], H, H⟩ [] H (L2.start N vs) _ ⟨cs, ?_, fun i en e => ?_, List.prefix_refl _, Kp.refl _ _, fun i a h1 h2 => by simp at h2, by rw [hide0]; exact Same.refl _⟩ ⟨fun as' H' σ ρ μ' R z => fin (v := .non) (en := .d .none) R (Dp.non) z, fun as' H' σ ρ μ' v en R o z => fin R o z, fun _ _ _ _ _ _ z => z.elim, fun _ _ _ _ _ _ z => z.elim⟩
    · unfold L2.start slots0
      simp [vl]
    · have hi : i < es.length := by
        rcases Nat.lt_or_ge i es.length with h | h
        · exact h
        · unfold slots0 at e
          rw [List.getElem?_append_right (by simpa using h), List.getElem?_replicate] at e
          split at e <;> cases e
      have e' : es[i]? = some en := by
        unfold slots0 at e
        rw [List.getElem?_append_left (by simpa using hi), List.getElem?_map] at e
        cases q : es[i]? with
        | none => rw [q] at e; cases e
        | some y =>
          rw [q] at e
          cases e
          rfl
      obtain ⟨v, q1, q2⟩ := ents_get he e'
      refine ⟨v, ?_, by rw [hide0]; exact q2⟩
      unfold L2.start
      rw [List.getElem?_append_left (by simpa [vl] using hi), List.getElem?_map, q1]
      rfl
theorem dpa_ints {K : PySem.W.Frag} {H : Hp} : ∀ ns : List Int, DpAll K H (ns.map V.int) (ns.map PyData.int)
  | [] => .nil
  | n :: ns => .cons (.int n) (dpa_ints ns)
theorem top_law {K : PySem.W.Frag} {H : Hp} {a : Addr} {ns : List Int} (hS : SqL K H a (ns.map V.int)) : top0 K sp_law [.ref a] H (fun v _ => v = .bl true) fun _ _ _ => False :=
  ⟨[.d (.list (ns.map .int))], fun en _ => en = .d (.bool true), .cons (.lst hS (dpa_ints ns)) .nil, ⟨ns, rfl, rfl, rfl⟩, fun en _ e v H' o => by
    subst e
    exact dp_bl o⟩
theorem all_mk {l : PySem.W.OpenLaw} {w : World} {K : PySem.W.Frag} {h : Heap} {mg : Str → Option Value} {fa : Addr} (X : K.In h) (G : h.Ns mainGlobals mg) (hfa : mg "law" = some (.ref fa))
    {f1 : Addr} {od1 an1 : Option Addr} {sl1 : Array (Option Value)} {oc1 kV1 dc1 pm1 cd1 ct1 : Value} (a1 : PySem.W.nsIn K mainGlobals "_law_hand" = some (some (.ref f1))) (l1 : K.lookup f1 = some ⟨oc1, od1, .func (PySem.W.fnOf "_law_hand" "_law_hand" (defArgs s__law_hand) (defBody s__law_hand) (defScope s__law_hand) .none kV1 dc1 pm1 an1 cd1 ct1), sl1⟩) (c1 : PySem.W.codeIn K cd1 "_law_hand" = true) (k1 : PySem.W.keepIn K (.ref f1) = true)
    {f2 : Addr} {od2 an2 : Option Addr} {sl2 : Array (Option Value)} {oc2 kV2 dc2 pm2 cd2 ct2 : Value} (a2 : PySem.W.nsIn K mainGlobals "is_integer" = some (some (.ref f2))) (l2 : K.lookup f2 = some ⟨oc2, od2, .func (PySem.W.fnOf "is_integer" "is_integer" (defArgs s_is_integer) (defBody s_is_integer) (defScope s_is_integer) .none kV2 dc2 pm2 an2 cd2 ct2), sl2⟩) (c2 : PySem.W.codeIn K cd2 "is_integer" = true) (k2 : PySem.W.keepIn K (.ref f2) = true)
    {f3 : Addr} {od3 an3 : Option Addr} {sl3 : Array (Option Value)} {oc3 kV3 dc3 pm3 cd3 ct3 : Value} (a3 : PySem.W.nsIn K mainGlobals "is_within" = some (some (.ref f3))) (l3 : K.lookup f3 = some ⟨oc3, od3, .func (PySem.W.fnOf "is_within" "is_within" (defArgs s_is_within) (defBody s_is_within) (defScope s_is_within) .none kV3 dc3 pm3 an3 cd3 ct3), sl3⟩) (c3 : PySem.W.codeIn K cd3 "is_within" = true) (k3 : PySem.W.keepIn K (.ref f3) = true)
    {f4 : Addr} {od4 an4 : Option Addr} {sl4 : Array (Option Value)} {oc4 kV4 dc4 pm4 cd4 ct4 : Value} (a4 : PySem.W.nsIn K mainGlobals "is_tuple" = some (some (.ref f4))) (l4 : K.lookup f4 = some ⟨oc4, od4, .func (PySem.W.fnOf "is_tuple" "is_tuple" (defArgs s_is_tuple) (defBody s_is_tuple) (defScope s_is_tuple) .none kV4 dc4 pm4 an4 cd4 ct4), sl4⟩) (c4 : PySem.W.codeIn K cd4 "is_tuple" = true) (k4 : PySem.W.keepIn K (.ref f4) = true)
    {f5 : Addr} {od5 an5 : Option Addr} {sl5 : Array (Option Value)} {oc5 kV5 dc5 pm5 cd5 ct5 : Value} (a5 : PySem.W.nsIn K mainGlobals "is_floor" = some (some (.ref f5))) (l5 : K.lookup f5 = some ⟨oc5, od5, .func (PySem.W.fnOf "is_floor" "is_floor" (defArgs s_is_floor) (defBody s_is_floor) (defScope s_is_floor) .none kV5 dc5 pm5 an5 cd5 ct5), sl5⟩) (c5 : PySem.W.codeIn K cd5 "is_floor" = true) (k5 : PySem.W.keepIn K (.ref f5) = true)
    {f6 : Addr} {od6 an6 : Option Addr} {sl6 : Array (Option Value)} {oc6 kV6 dc6 pm6 cd6 ct6 : Value} (a6 : PySem.W.nsIn K mainGlobals "check_floor" = some (some (.ref f6))) (l6 : K.lookup f6 = some ⟨oc6, od6, .func (PySem.W.fnOf "check_floor" "check_floor" (defArgs s_check_floor) (defBody s_check_floor) (defScope s_check_floor) .none kV6 dc6 pm6 an6 cd6 ct6), sl6⟩) (c6 : PySem.W.codeIn K cd6 "check_floor" = true) (k6 : PySem.W.keepIn K (.ref f6) = true)
    {f7 : Addr} {od7 an7 : Option Addr} {sl7 : Array (Option Value)} {oc7 kV7 dc7 pm7 cd7 ct7 : Value} (a7 : PySem.W.nsIn K mainGlobals "check_floors" = some (some (.ref f7))) (l7 : K.lookup f7 = some ⟨oc7, od7, .func (PySem.W.fnOf "check_floors" "check_floors" (defArgs s_check_floors) (defBody s_check_floors) (defScope s_check_floors) .none kV7 dc7 pm7 an7 cd7 ct7), sl7⟩) (c7 : PySem.W.codeIn K cd7 "check_floors" = true) (k7 : PySem.W.keepIn K (.ref f7) = true)
    {f8 : Addr} {od8 an8 : Option Addr} {sl8 : Array (Option Value)} {oc8 kV8 dc8 pm8 cd8 ct8 : Value} (a8 : PySem.W.nsIn K mainGlobals "common" = some (some (.ref f8))) (l8 : K.lookup f8 = some ⟨oc8, od8, .func (PySem.W.fnOf "common" "common" (defArgs s_common) (defBody s_common) (defScope s_common) .none kV8 dc8 pm8 an8 cd8 ct8), sl8⟩) (c8 : PySem.W.codeIn K cd8 "common" = true) (k8 : PySem.W.keepIn K (.ref f8) = true)
    {f9 : Addr} {od9 an9 : Option Addr} {sl9 : Array (Option Value)} {oc9 kV9 dc9 pm9 cd9 ct9 : Value} (a9 : PySem.W.nsIn K mainGlobals "weights" = some (some (.ref f9))) (l9 : K.lookup f9 = some ⟨oc9, od9, .func (PySem.W.fnOf "weights" "weights" (defArgs s_weights) (defBody s_weights) (defScope s_weights) .none kV9 dc9 pm9 an9 cd9 ct9), sl9⟩) (c9 : PySem.W.codeIn K cd9 "weights" = true) (k9 : PySem.W.keepIn K (.ref f9) = true)
    {f10 : Addr} {od10 an10 : Option Addr} {sl10 : Array (Option Value)} {oc10 kV10 dc10 pm10 cd10 ct10 : Value} (a10 : PySem.W.nsIn K mainGlobals "undone" = some (some (.ref f10))) (l10 : K.lookup f10 = some ⟨oc10, od10, .func (PySem.W.fnOf "undone" "undone" (defArgs s_undone) (defBody s_undone) (defScope s_undone) .none kV10 dc10 pm10 an10 cd10 ct10), sl10⟩) (c10 : PySem.W.codeIn K cd10 "undone" = true) (k10 : PySem.W.keepIn K (.ref f10) = true)
    {f11 : Addr} {od11 an11 : Option Addr} {sl11 : Array (Option Value)} {oc11 kV11 dc11 pm11 cd11 ct11 : Value} (a11 : PySem.W.nsIn K mainGlobals "least_solution" = some (some (.ref f11))) (l11 : K.lookup f11 = some ⟨oc11, od11, .func (PySem.W.fnOf "least_solution" "least_solution" (defArgs s_least_solution) (defBody s_least_solution) (defScope s_least_solution) .none kV11 dc11 pm11 an11 cd11 ct11), sl11⟩) (c11 : PySem.W.codeIn K cd11 "least_solution" = true) (k11 : PySem.W.keepIn K (.ref f11) = true)
    {f12 : Addr} {od12 an12 : Option Addr} {sl12 : Array (Option Value)} {oc12 kV12 dc12 pm12 cd12 ct12 : Value} (a12 : PySem.W.nsIn K mainGlobals "floor_above" = some (some (.ref f12))) (l12 : K.lookup f12 = some ⟨oc12, od12, .func (PySem.W.fnOf "floor_above" "floor_above" (defArgs s_floor_above) (defBody s_floor_above) (defScope s_floor_above) .none kV12 dc12 pm12 an12 cd12 ct12), sl12⟩) (c12 : PySem.W.codeIn K cd12 "floor_above" = true) (k12 : PySem.W.keepIn K (.ref f12) = true)
    {f13 : Addr} {od13 an13 : Option Addr} {sl13 : Array (Option Value)} {oc13 kV13 dc13 pm13 cd13 ct13 : Value} (a13 : PySem.W.nsIn K mainGlobals "_law_said" = some (some (.ref f13))) (l13 : K.lookup f13 = some ⟨oc13, od13, .func (PySem.W.fnOf "_law_said" "_law_said" (defArgs s__law_said) (defBody s__law_said) (defScope s__law_said) .none kV13 dc13 pm13 an13 cd13 ct13), sl13⟩) (c13 : PySem.W.codeIn K cd13 "_law_said" = true) (k13 : PySem.W.keepIn K (.ref f13) = true)
    {f14 : Addr} {od14 an14 : Option Addr} {sl14 : Array (Option Value)} {oc14 kV14 dc14 pm14 cd14 ct14 : Value} (a14 : PySem.W.nsIn K mainGlobals "_law_is" = some (some (.ref f14))) (l14 : K.lookup f14 = some ⟨oc14, od14, .func (PySem.W.fnOf "_law_is" "_law_is" (defArgs s__law_is) (defBody s__law_is) (defScope s__law_is) .none kV14 dc14 pm14 an14 cd14 ct14), sl14⟩) (c14 : PySem.W.codeIn K cd14 "_law_is" = true) (k14 : PySem.W.keepIn K (.ref f14) = true)
    {f15 : Addr} {od15 an15 : Option Addr} {sl15 : Array (Option Value)} {oc15 kV15 dc15 pm15 cd15 ct15 : Value} (a15 : PySem.W.nsIn K mainGlobals "put_together" = some (some (.ref f15))) (l15 : K.lookup f15 = some ⟨oc15, od15, .func (PySem.W.fnOf "put_together" "put_together" (defArgs s_put_together) (defBody s_put_together) (defScope s_put_together) .none kV15 dc15 pm15 an15 cd15 ct15), sl15⟩) (c15 : PySem.W.codeIn K cd15 "put_together" = true) (k15 : PySem.W.keepIn K (.ref f15) = true)
    {f16 : Addr} {od16 an16 : Option Addr} {sl16 : Array (Option Value)} {oc16 kV16 dc16 pm16 cd16 ct16 : Value} (a16 : PySem.W.nsIn K mainGlobals "closing_pair" = some (some (.ref f16))) (l16 : K.lookup f16 = some ⟨oc16, od16, .func (PySem.W.fnOf "closing_pair" "closing_pair" (defArgs s_closing_pair) (defBody s_closing_pair) (defScope s_closing_pair) .none kV16 dc16 pm16 an16 cd16 ct16), sl16⟩) (c16 : PySem.W.codeIn K cd16 "closing_pair" = true) (k16 : PySem.W.keepIn K (.ref f16) = true)
    {f17 : Addr} {od17 an17 : Option Addr} {sl17 : Array (Option Value)} {oc17 kV17 dc17 pm17 cd17 ct17 : Value} (a17 : PySem.W.nsIn K mainGlobals "floor_below" = some (some (.ref f17))) (l17 : K.lookup f17 = some ⟨oc17, od17, .func (PySem.W.fnOf "floor_below" "floor_below" (defArgs s_floor_below) (defBody s_floor_below) (defScope s_floor_below) .none kV17 dc17 pm17 an17 cd17 ct17), sl17⟩) (c17 : PySem.W.codeIn K cd17 "floor_below" = true) (k17 : PySem.W.keepIn K (.ref f17) = true)
    {f18 : Addr} {od18 an18 : Option Addr} {sl18 : Array (Option Value)} {oc18 kV18 dc18 pm18 cd18 ct18 : Value} (a18 : PySem.W.nsIn K mainGlobals "raw_closes" = some (some (.ref f18))) (l18 : K.lookup f18 = some ⟨oc18, od18, .func (PySem.W.fnOf "raw_closes" "raw_closes" (defArgs s_raw_closes) (defBody s_raw_closes) (defScope s_raw_closes) .none kV18 dc18 pm18 an18 cd18 ct18), sl18⟩) (c18 : PySem.W.codeIn K cd18 "raw_closes" = true) (k18 : PySem.W.keepIn K (.ref f18) = true)
    {f19 : Addr} {od19 an19 : Option Addr} {sl19 : Array (Option Value)} {oc19 kV19 dc19 pm19 cd19 ct19 : Value} (a19 : PySem.W.nsIn K mainGlobals "raw_lies_over" = some (some (.ref f19))) (l19 : K.lookup f19 = some ⟨oc19, od19, .func (PySem.W.fnOf "raw_lies_over" "raw_lies_over" (defArgs s_raw_lies_over) (defBody s_raw_lies_over) (defScope s_raw_lies_over) .none kV19 dc19 pm19 an19 cd19 ct19), sl19⟩) (c19 : PySem.W.codeIn K cd19 "raw_lies_over" = true) (k19 : PySem.W.keepIn K (.ref f19) = true)
    {f20 : Addr} {od20 an20 : Option Addr} {sl20 : Array (Option Value)} {oc20 kV20 dc20 pm20 cd20 ct20 : Value} (a20 : PySem.W.nsIn K mainGlobals "check_over" = some (some (.ref f20))) (l20 : K.lookup f20 = some ⟨oc20, od20, .func (PySem.W.fnOf "check_over" "check_over" (defArgs s_check_over) (defBody s_check_over) (defScope s_check_over) .none kV20 dc20 pm20 an20 cd20 ct20), sl20⟩) (c20 : PySem.W.codeIn K cd20 "check_over" = true) (k20 : PySem.W.keepIn K (.ref f20) = true)
    {f21 : Addr} {od21 an21 : Option Addr} {sl21 : Array (Option Value)} {oc21 kV21 dc21 pm21 cd21 ct21 : Value} (a21 : PySem.W.nsIn K mainGlobals "raw_is_cell" = some (some (.ref f21))) (l21 : K.lookup f21 = some ⟨oc21, od21, .func (PySem.W.fnOf "raw_is_cell" "raw_is_cell" (defArgs s_raw_is_cell) (defBody s_raw_is_cell) (defScope s_raw_is_cell) .none kV21 dc21 pm21 an21 cd21 ct21), sl21⟩) (c21 : PySem.W.codeIn K cd21 "raw_is_cell" = true) (k21 : PySem.W.keepIn K (.ref f21) = true)
    {f22 : Addr} {od22 an22 : Option Addr} {sl22 : Array (Option Value)} {oc22 kV22 dc22 pm22 cd22 ct22 : Value} (a22 : PySem.W.nsIn K mainGlobals "need_cell" = some (some (.ref f22))) (l22 : K.lookup f22 = some ⟨oc22, od22, .func (PySem.W.fnOf "need_cell" "need_cell" (defArgs s_need_cell) (defBody s_need_cell) (defScope s_need_cell) .none kV22 dc22 pm22 an22 cd22 ct22), sl22⟩) (c22 : PySem.W.codeIn K cd22 "need_cell" = true) (k22 : PySem.W.keepIn K (.ref f22) = true)
    {f23 : Addr} {od23 an23 : Option Addr} {sl23 : Array (Option Value)} {oc23 kV23 dc23 pm23 cd23 ct23 : Value} (a23 : PySem.W.nsIn K mainGlobals "raw_led" = some (some (.ref f23))) (l23 : K.lookup f23 = some ⟨oc23, od23, .func (PySem.W.fnOf "raw_led" "raw_led" (defArgs s_raw_led) (defBody s_raw_led) (defScope s_raw_led) .none kV23 dc23 pm23 an23 cd23 ct23), sl23⟩) (c23 : PySem.W.codeIn K cd23 "raw_led" = true) (k23 : PySem.W.keepIn K (.ref f23) = true)
    {f24 : Addr} {od24 an24 : Option Addr} {sl24 : Array (Option Value)} {oc24 kV24 dc24 pm24 cd24 ct24 : Value} (a24 : PySem.W.nsIn K mainGlobals "raw_folded" = some (some (.ref f24))) (l24 : K.lookup f24 = some ⟨oc24, od24, .func (PySem.W.fnOf "raw_folded" "raw_folded" (defArgs s_raw_folded) (defBody s_raw_folded) (defScope s_raw_folded) .none kV24 dc24 pm24 an24 cd24 ct24), sl24⟩) (c24 : PySem.W.codeIn K cd24 "raw_folded" = true) (k24 : PySem.W.keepIn K (.ref f24) = true)
    {f25 : Addr} {od25 an25 : Option Addr} {sl25 : Array (Option Value)} {oc25 kV25 dc25 pm25 cd25 ct25 : Value} (a25 : PySem.W.nsIn K mainGlobals "folded" = some (some (.ref f25))) (l25 : K.lookup f25 = some ⟨oc25, od25, .func (PySem.W.fnOf "folded" "folded" (defArgs s_folded) (defBody s_folded) (defScope s_folded) .none kV25 dc25 pm25 an25 cd25 ct25), sl25⟩) (c25 : PySem.W.codeIn K cd25 "folded" = true) (k25 : PySem.W.keepIn K (.ref f25) = true)
    {f26 : Addr} {od26 an26 : Option Addr} {sl26 : Array (Option Value)} {oc26 kV26 dc26 pm26 cd26 ct26 : Value} (a26 : PySem.W.nsIn K mainGlobals "_law_common" = some (some (.ref f26))) (l26 : K.lookup f26 = some ⟨oc26, od26, .func (PySem.W.fnOf "_law_common" "_law_common" (defArgs s__law_common) (defBody s__law_common) (defScope s__law_common) .none kV26 dc26 pm26 an26 cd26 ct26), sl26⟩) (c26 : PySem.W.codeIn K cd26 "_law_common" = true) (k26 : PySem.W.keepIn K (.ref f26) = true)
    {f27 : Addr} {od27 an27 : Option Addr} {sl27 : Array (Option Value)} {oc27 kV27 dc27 pm27 cd27 ct27 : Value} (a27 : PySem.W.nsIn K mainGlobals "_law_draw" = some (some (.ref f27))) (l27 : K.lookup f27 = some ⟨oc27, od27, .func (PySem.W.fnOf "_law_draw" "_law_draw" (defArgs s__law_draw) (defBody s__law_draw) (defScope s__law_draw) .none kV27 dc27 pm27 an27 cd27 ct27), sl27⟩) (c27 : PySem.W.codeIn K cd27 "_law_draw" = true) (k27 : PySem.W.keepIn K (.ref f27) = true)
    {f28 : Addr} {od28 an28 : Option Addr} {sl28 : Array (Option Value)} {oc28 kV28 dc28 pm28 cd28 ct28 : Value} (a28 : PySem.W.nsIn K mainGlobals "_law_some" = some (some (.ref f28))) (l28 : K.lookup f28 = some ⟨oc28, od28, .func (PySem.W.fnOf "_law_some" "_law_some" (defArgs s__law_some) (defBody s__law_some) (defScope s__law_some) .none kV28 dc28 pm28 an28 cd28 ct28), sl28⟩) (c28 : PySem.W.codeIn K cd28 "_law_some" = true) (k28 : PySem.W.keepIn K (.ref f28) = true)
    {f29 : Addr} {od29 an29 : Option Addr} {sl29 : Array (Option Value)} {oc29 kV29 dc29 pm29 cd29 ct29 : Value} (a29 : PySem.W.nsIn K mainGlobals "_law_figures" = some (some (.ref f29))) (l29 : K.lookup f29 = some ⟨oc29, od29, .func (PySem.W.fnOf "_law_figures" "_law_figures" (defArgs s__law_figures) (defBody s__law_figures) (defScope s__law_figures) .none kV29 dc29 pm29 an29 cd29 ct29), sl29⟩) (c29 : PySem.W.codeIn K cd29 "_law_figures" = true) (k29 : PySem.W.keepIn K (.ref f29) = true)
    {f30 : Addr} {od30 an30 : Option Addr} {sl30 : Array (Option Value)} {oc30 kV30 dc30 pm30 cd30 ct30 : Value} (a30 : PySem.W.nsIn K mainGlobals "_law_size" = some (some (.ref f30))) (l30 : K.lookup f30 = some ⟨oc30, od30, .func (PySem.W.fnOf "_law_size" "_law_size" (defArgs s__law_size) (defBody s__law_size) (defScope s__law_size) .none kV30 dc30 pm30 an30 cd30 ct30), sl30⟩) (c30 : PySem.W.codeIn K cd30 "_law_size" = true) (k30 : PySem.W.keepIn K (.ref f30) = true)
    {f31 : Addr} {od31 an31 : Option Addr} {sl31 : Array (Option Value)} {oc31 kV31 dc31 pm31 cd31 ct31 : Value} (a31 : PySem.W.nsIn K mainGlobals "_law_multiple" = some (some (.ref f31))) (l31 : K.lookup f31 = some ⟨oc31, od31, .func (PySem.W.fnOf "_law_multiple" "_law_multiple" (defArgs s__law_multiple) (defBody s__law_multiple) (defScope s__law_multiple) .none kV31 dc31 pm31 an31 cd31 ct31), sl31⟩) (c31 : PySem.W.codeIn K cd31 "_law_multiple" = true) (k31 : PySem.W.keepIn K (.ref f31) = true)
    {f32 : Addr} {od32 an32 : Option Addr} {sl32 : Array (Option Value)} {oc32 kV32 dc32 pm32 cd32 ct32 : Value} (a32 : PySem.W.nsIn K mainGlobals "_law_cell" = some (some (.ref f32))) (l32 : K.lookup f32 = some ⟨oc32, od32, .func (PySem.W.fnOf "_law_cell" "_law_cell" (defArgs s__law_cell) (defBody s__law_cell) (defScope s__law_cell) .none kV32 dc32 pm32 an32 cd32 ct32), sl32⟩) (c32 : PySem.W.codeIn K cd32 "_law_cell" = true) (k32 : PySem.W.keepIn K (.ref f32) = true)
    {f33 : Addr} {od33 an33 : Option Addr} {sl33 : Array (Option Value)} {oc33 kV33 dc33 pm33 cd33 ct33 : Value} (a33 : PySem.W.nsIn K mainGlobals "is_vector" = some (some (.ref f33))) (l33 : K.lookup f33 = some ⟨oc33, od33, .func (PySem.W.fnOf "is_vector" "is_vector" (defArgs s_is_vector) (defBody s_is_vector) (defScope s_is_vector) .none kV33 dc33 pm33 an33 cd33 ct33), sl33⟩) (c33 : PySem.W.codeIn K cd33 "is_vector" = true) (k33 : PySem.W.keepIn K (.ref f33) = true)
    {f34 : Addr} {od34 an34 : Option Addr} {sl34 : Array (Option Value)} {oc34 kV34 dc34 pm34 cd34 ct34 : Value} (a34 : PySem.W.nsIn K mainGlobals "need_vector" = some (some (.ref f34))) (l34 : K.lookup f34 = some ⟨oc34, od34, .func (PySem.W.fnOf "need_vector" "need_vector" (defArgs s_need_vector) (defBody s_need_vector) (defScope s_need_vector) .none kV34 dc34 pm34 an34 cd34 ct34), sl34⟩) (c34 : PySem.W.codeIn K cd34 "need_vector" = true) (k34 : PySem.W.keepIn K (.ref f34) = true)
    {f35 : Addr} {od35 an35 : Option Addr} {sl35 : Array (Option Value)} {oc35 kV35 dc35 pm35 cd35 ct35 : Value} (a35 : PySem.W.nsIn K mainGlobals "check_vector" = some (some (.ref f35))) (l35 : K.lookup f35 = some ⟨oc35, od35, .func (PySem.W.fnOf "check_vector" "check_vector" (defArgs s_check_vector) (defBody s_check_vector) (defScope s_check_vector) .none kV35 dc35 pm35 an35 cd35 ct35), sl35⟩) (c35 : PySem.W.codeIn K cd35 "check_vector" = true) (k35 : PySem.W.keepIn K (.ref f35) = true)
    {f36 : Addr} {od36 an36 : Option Addr} {sl36 : Array (Option Value)} {oc36 kV36 dc36 pm36 cd36 ct36 : Value} (a36 : PySem.W.nsIn K mainGlobals "check_closing" = some (some (.ref f36))) (l36 : K.lookup f36 = some ⟨oc36, od36, .func (PySem.W.fnOf "check_closing" "check_closing" (defArgs s_check_closing) (defBody s_check_closing) (defScope s_check_closing) .none kV36 dc36 pm36 an36 cd36 ct36), sl36⟩) (c36 : PySem.W.codeIn K cd36 "check_closing" = true) (k36 : PySem.W.keepIn K (.ref f36) = true)
    {f37 : Addr} {od37 an37 : Option Addr} {sl37 : Array (Option Value)} {oc37 kV37 dc37 pm37 cd37 ct37 : Value} (a37 : PySem.W.nsIn K mainGlobals "raw_parts" = some (some (.ref f37))) (l37 : K.lookup f37 = some ⟨oc37, od37, .func (PySem.W.fnOf "raw_parts" "raw_parts" (defArgs s_raw_parts) (defBody s_raw_parts) (defScope s_raw_parts) .none kV37 dc37 pm37 an37 cd37 ct37), sl37⟩) (c37 : PySem.W.codeIn K cd37 "raw_parts" = true) (k37 : PySem.W.keepIn K (.ref f37) = true)
    {f38 : Addr} {od38 an38 : Option Addr} {sl38 : Array (Option Value)} {oc38 kV38 dc38 pm38 cd38 ct38 : Value} (a38 : PySem.W.nsIn K mainGlobals "parts_of" = some (some (.ref f38))) (l38 : K.lookup f38 = some ⟨oc38, od38, .func (PySem.W.fnOf "parts_of" "parts_of" (defArgs s_parts_of) (defBody s_parts_of) (defScope s_parts_of) .none kV38 dc38 pm38 an38 cd38 ct38), sl38⟩) (c38 : PySem.W.codeIn K cd38 "parts_of" = true) (k38 : PySem.W.keepIn K (.ref f38) = true)
    {f39 : Addr} {od39 an39 : Option Addr} {sl39 : Array (Option Value)} {oc39 kV39 dc39 pm39 cd39 ct39 : Value} (a39 : PySem.W.nsIn K mainGlobals "does_close" = some (some (.ref f39))) (l39 : K.lookup f39 = some ⟨oc39, od39, .func (PySem.W.fnOf "does_close" "does_close" (defArgs s_does_close) (defBody s_does_close) (defScope s_does_close) .none kV39 dc39 pm39 an39 cd39 ct39), sl39⟩) (c39 : PySem.W.codeIn K cd39 "does_close" = true) (k39 : PySem.W.keepIn K (.ref f39) = true)
    {f40 : Addr} {od40 an40 : Option Addr} {sl40 : Array (Option Value)} {oc40 kV40 dc40 pm40 cd40 ct40 : Value} (a40 : PySem.W.nsIn K mainGlobals "lies_over" = some (some (.ref f40))) (l40 : K.lookup f40 = some ⟨oc40, od40, .func (PySem.W.fnOf "lies_over" "lies_over" (defArgs s_lies_over) (defBody s_lies_over) (defScope s_lies_over) .none kV40 dc40 pm40 an40 cd40 ct40), sl40⟩) (c40 : PySem.W.codeIn K cd40 "lies_over" = true) (k40 : PySem.W.keepIn K (.ref f40) = true)
    {f41 : Addr} {od41 an41 : Option Addr} {sl41 : Array (Option Value)} {oc41 kV41 dc41 pm41 cd41 ct41 : Value} (a41 : PySem.W.nsIn K mainGlobals "raw_divisor" = some (some (.ref f41))) (l41 : K.lookup f41 = some ⟨oc41, od41, .func (PySem.W.fnOf "raw_divisor" "raw_divisor" (defArgs s_raw_divisor) (defBody s_raw_divisor) (defScope s_raw_divisor) .none kV41 dc41 pm41 an41 cd41 ct41), sl41⟩) (c41 : PySem.W.codeIn K cd41 "raw_divisor" = true) (k41 : PySem.W.keepIn K (.ref f41) = true)
    {f42 : Addr} {od42 an42 : Option Addr} {sl42 : Array (Option Value)} {oc42 kV42 dc42 pm42 cd42 ct42 : Value} (a42 : PySem.W.nsIn K mainGlobals "raw_many" = some (some (.ref f42))) (l42 : K.lookup f42 = some ⟨oc42, od42, .func (PySem.W.fnOf "raw_many" "raw_many" (defArgs s_raw_many) (defBody s_raw_many) (defScope s_raw_many) .none kV42 dc42 pm42 an42 cd42 ct42), sl42⟩) (c42 : PySem.W.codeIn K cd42 "raw_many" = true) (k42 : PySem.W.keepIn K (.ref f42) = true)
    {f43 : Addr} {od43 an43 : Option Addr} {sl43 : Array (Option Value)} {oc43 kV43 dc43 pm43 cd43 ct43 : Value} (a43 : PySem.W.nsIn K mainGlobals "group" = some (some (.ref f43))) (l43 : K.lookup f43 = some ⟨oc43, od43, .func (PySem.W.fnOf "group" "group" (defArgs s_group) (defBody s_group) (defScope s_group) .none kV43 dc43 pm43 an43 cd43 ct43), sl43⟩) (c43 : PySem.W.codeIn K cd43 "group" = true) (k43 : PySem.W.keepIn K (.ref f43) = true)
    {f44 : Addr} {od44 an44 : Option Addr} {sl44 : Array (Option Value)} {oc44 kV44 dc44 pm44 cd44 ct44 : Value} (a44 : PySem.W.nsIn K mainGlobals "is_one_ring" = some (some (.ref f44))) (l44 : K.lookup f44 = some ⟨oc44, od44, .func (PySem.W.fnOf "is_one_ring" "is_one_ring" (defArgs s_is_one_ring) (defBody s_is_one_ring) (defScope s_is_one_ring) .none kV44 dc44 pm44 an44 cd44 ct44), sl44⟩) (c44 : PySem.W.codeIn K cd44 "is_one_ring" = true) (k44 : PySem.W.keepIn K (.ref f44) = true)
    {f45 : Addr} {od45 an45 : Option Addr} {sl45 : Array (Option Value)} {oc45 kV45 dc45 pm45 cd45 ct45 : Value} (a45 : PySem.W.nsIn K mainGlobals "_law_are_dials_right" = some (some (.ref f45))) (l45 : K.lookup f45 = some ⟨oc45, od45, .func (PySem.W.fnOf "_law_are_dials_right" "_law_are_dials_right" (defArgs s__law_are_dials_right) (defBody s__law_are_dials_right) (defScope s__law_are_dials_right) .none kV45 dc45 pm45 an45 cd45 ct45), sl45⟩) (c45 : PySem.W.codeIn K cd45 "_law_are_dials_right" = true) (k45 : PySem.W.keepIn K (.ref f45) = true)
    {f46 : Addr} {od46 an46 : Option Addr} {sl46 : Array (Option Value)} {oc46 kV46 dc46 pm46 cd46 ct46 : Value} (a46 : PySem.W.nsIn K mainGlobals "_law_are_rows_right" = some (some (.ref f46))) (l46 : K.lookup f46 = some ⟨oc46, od46, .func (PySem.W.fnOf "_law_are_rows_right" "_law_are_rows_right" (defArgs s__law_are_rows_right) (defBody s__law_are_rows_right) (defScope s__law_are_rows_right) .none kV46 dc46 pm46 an46 cd46 ct46), sl46⟩) (c46 : PySem.W.codeIn K cd46 "_law_are_rows_right" = true) (k46 : PySem.W.keepIn K (.ref f46) = true)
    {f47 : Addr} {od47 an47 : Option Addr} {sl47 : Array (Option Value)} {oc47 kV47 dc47 pm47 cd47 ct47 : Value} (a47 : PySem.W.nsIn K mainGlobals "_law_led" = some (some (.ref f47))) (l47 : K.lookup f47 = some ⟨oc47, od47, .func (PySem.W.fnOf "_law_led" "_law_led" (defArgs s__law_led) (defBody s__law_led) (defScope s__law_led) .none kV47 dc47 pm47 an47 cd47 ct47), sl47⟩) (c47 : PySem.W.codeIn K cd47 "_law_led" = true) (k47 : PySem.W.keepIn K (.ref f47) = true)
    {f48 : Addr} {od48 an48 : Option Addr} {sl48 : Array (Option Value)} {oc48 kV48 dc48 pm48 cd48 ct48 : Value} (a48 : PySem.W.nsIn K mainGlobals "_law_closes" = some (some (.ref f48))) (l48 : K.lookup f48 = some ⟨oc48, od48, .func (PySem.W.fnOf "_law_closes" "_law_closes" (defArgs s__law_closes) (defBody s__law_closes) (defScope s__law_closes) .none kV48 dc48 pm48 an48 cd48 ct48), sl48⟩) (c48 : PySem.W.codeIn K cd48 "_law_closes" = true) (k48 : PySem.W.keepIn K (.ref f48) = true)
    {f49 : Addr} {od49 an49 : Option Addr} {sl49 : Array (Option Value)} {oc49 kV49 dc49 pm49 cd49 ct49 : Value} (a49 : PySem.W.nsIn K mainGlobals "_law_are_small_right" = some (some (.ref f49))) (l49 : K.lookup f49 = some ⟨oc49, od49, .func (PySem.W.fnOf "_law_are_small_right" "_law_are_small_right" (defArgs s__law_are_small_right) (defBody s__law_are_small_right) (defScope s__law_are_small_right) .none kV49 dc49 pm49 an49 cd49 ct49), sl49⟩) (c49 : PySem.W.codeIn K cd49 "_law_are_small_right" = true) (k49 : PySem.W.keepIn K (.ref f49) = true)
    {f50 : Addr} {od50 an50 : Option Addr} {sl50 : Array (Option Value)} {oc50 kV50 dc50 pm50 cd50 ct50 : Value} (a50 : PySem.W.nsIn K mainGlobals "law" = some (some (.ref f50))) (l50 : K.lookup f50 = some ⟨oc50, od50, .func (PySem.W.fnOf "law" "law" (defArgs s_law) (defBody s_law) (defScope s_law) .none kV50 dc50 pm50 an50 cd50 ct50), sl50⟩) (c50 : PySem.W.codeIn K cd50 "law" = true) (k50 : PySem.W.keepIn K (.ref f50) = true)
    (z1 : PySem.W.nsIn K mainGlobals "abs" = some none)
    (z2 : PySem.W.nsIn K mainGlobals "int" = some none)
    (z3 : PySem.W.nsIn K mainGlobals "len" = some none)
    (z4 : PySem.W.nsIn K mainGlobals "isinstance" = some none)
    (z5 : PySem.W.nsIn K mainGlobals "bool" = some none)
    (z6 : PySem.W.nsIn K mainGlobals "tuple" = some none)
    (z7 : PySem.W.nsIn K mainGlobals "zip" = some none)
    (z8 : PySem.W.nsIn K mainGlobals "repr" = some none)
    (z9 : PySem.W.nsIn K mainGlobals "list" = some none)
    (z10 : PySem.W.nsIn K mainGlobals "all" = some none)
    (z11 : PySem.W.nsIn K mainGlobals "divmod" = some none)
    (z12 : PySem.W.nsIn K mainGlobals "range" = some none)
    (z13 : PySem.W.nsIn K mainGlobals "min" = some none)
    (z14 : PySem.W.nsIn K mainGlobals "max" = some none)
    {v1 : Value} {t1 : Tok} (y1 : PySem.W.nsIn K mainGlobals "MOST_SIZE" = some (some v1)) (e1 : v1 = .int (10 ^ 15) t1)
    {v2 : Value} {t2 : Tok} (y2 : PySem.W.nsIn K mainGlobals "MOST_PART" = some (some v2)) (e2 : v2 = .int (10 ^ 30) t2)
    {C : Addr} (xg : PySem.W.nsIn K mainGlobals "TooGreat" = some (some (.ref C))) (xT : PySem.W.excIn K C [.type "ValueError", .type "Exception", .type "BaseException", .type "object"] "ValueError.__new__" = true) (kT : PySem.W.keepIn K (.ref C) = true) (bT : PySem.W.subIn K (.ref C) (.type "BaseException") = some true) (tT : PySem.W.typeIn K (.ref C) = some (.type "type")) (iT : PySem.W.isClsIn K C = true) (sT : PySem.W.subIn K (.ref C) (.ref C) = some true) :
    ∃ fd : FuncData, (∀ (s : Shared) (v : Value), BindsTo s fd ⟨[v], []⟩ ((["script"] : List Str).zip [v])) ∧ ∀ base : Heap, K.In base → base.Ns mainGlobals mg → FnG l.prog w K mg base CX0 10 fa fd ["script"] (top0 K sp_law) := by
  have e0 := hfa.symm.trans (PySem.W.mg_of X G a50)
  cases e0
  have T1 : Top1 K mg "_law_hand" s__law_hand ["script"] := ⟨_, _, fun_mk (st := s__law_hand) l1 c1 k1, PySem.W.mg_of X G a1, (fun_mk (st := s__law_hand) l1 c1 k1).binds fun _ _ _ _ _ _ us hl => match us, hl with | [_], _ => rfl⟩
  have T2 : Top1 K mg "is_integer" s_is_integer ["thing"] := ⟨_, _, fun_mk (st := s_is_integer) l2 c2 k2, PySem.W.mg_of X G a2, (fun_mk (st := s_is_integer) l2 c2 k2).binds fun _ _ _ _ _ _ us hl => match us, hl with | [_], _ => rfl⟩
  have T3 : Top1 K mg "is_within" s_is_within ["thing", "least", "most"] := ⟨_, _, fun_mk (st := s_is_within) l3 c3 k3, PySem.W.mg_of X G a3, (fun_mk (st := s_is_within) l3 c3 k3).binds fun _ _ _ _ _ _ us hl => match us, hl with | [_, _, _], _ => rfl⟩
  have T4 : Top1 K mg "is_tuple" s_is_tuple ["thing", "least", "most"] := ⟨_, _, fun_mk (st := s_is_tuple) l4 c4 k4, PySem.W.mg_of X G a4, (fun_mk (st := s_is_tuple) l4 c4 k4).binds fun _ _ _ _ _ _ us hl => match us, hl with | [_, _, _], _ => rfl⟩
  have T5 : Top1 K mg "is_floor" s_is_floor ["thing"] := ⟨_, _, fun_mk (st := s_is_floor) l5 c5 k5, PySem.W.mg_of X G a5, (fun_mk (st := s_is_floor) l5 c5 k5).binds fun _ _ _ _ _ _ us hl => match us, hl with | [_], _ => rfl⟩
  have T6 : Top1 K mg "check_floor" s_check_floor ["thing"] := ⟨_, _, fun_mk (st := s_check_floor) l6 c6 k6, PySem.W.mg_of X G a6, (fun_mk (st := s_check_floor) l6 c6 k6).binds fun _ _ _ _ _ _ us hl => match us, hl with | [_], _ => rfl⟩
  have T7 : Top1 K mg "check_floors" s_check_floors ["floor", "other"] := ⟨_, _, fun_mk (st := s_check_floors) l7 c7 k7, PySem.W.mg_of X G a7, (fun_mk (st := s_check_floors) l7 c7 k7).binds fun _ _ _ _ _ _ us hl => match us, hl with | [_, _], _ => rfl⟩
  have T8 : Top1 K mg "common" s_common ["one", "other"] := ⟨_, _, fun_mk (st := s_common) l8 c8 k8, PySem.W.mg_of X G a8, (fun_mk (st := s_common) l8 c8 k8).binds fun _ _ _ _ _ _ us hl => match us, hl with | [_, _], _ => rfl⟩
  have T9 : Top1 K mg "weights" s_weights ["one", "other"] := ⟨_, _, fun_mk (st := s_weights) l9 c9 k9, PySem.W.mg_of X G a9, (fun_mk (st := s_weights) l9 c9 k9).binds fun _ _ _ _ _ _ us hl => match us, hl with | [_, _], _ => rfl⟩
  have T10 : Top1 K mg "undone" s_undone ["number", "by"] := ⟨_, _, fun_mk (st := s_undone) l10 c10 k10, PySem.W.mg_of X G a10, (fun_mk (st := s_undone) l10 c10 k10).binds fun _ _ _ _ _ _ us hl => match us, hl with | [_, _], _ => rfl⟩
  have T11 : Top1 K mg "least_solution" s_least_solution ["times", "rest", "by"] := ⟨_, _, fun_mk (st := s_least_solution) l11 c11 k11, PySem.W.mg_of X G a11, (fun_mk (st := s_least_solution) l11 c11 k11).binds fun _ _ _ _ _ _ us hl => match us, hl with | [_, _, _], _ => rfl⟩
  have T12 : Top1 K mg "floor_above" s_floor_above ["one", "other"] := ⟨_, _, fun_mk (st := s_floor_above) l12 c12 k12, PySem.W.mg_of X G a12, (fun_mk (st := s_floor_above) l12 c12 k12).binds fun _ _ _ _ _ _ us hl => match us, hl with | [_, _], _ => rfl⟩
  have T13 : Top1 K mg "_law_said" s__law_said ["one", "other"] := ⟨_, _, fun_mk (st := s__law_said) l13 c13 k13, PySem.W.mg_of X G a13, (fun_mk (st := s__law_said) l13 c13 k13).binds fun _ _ _ _ _ _ us hl => match us, hl with | [_, _], _ => rfl⟩
  have T14 : Top1 K mg "_law_is" s__law_is ["told", "due"] := ⟨_, _, fun_mk (st := s__law_is) l14 c14 k14, PySem.W.mg_of X G a14, (fun_mk (st := s__law_is) l14 c14 k14).binds fun _ _ _ _ _ _ us hl => match us, hl with | [_, _], _ => rfl⟩
  have T15 : Top1 K mg "put_together" s_put_together ["vectors"] := ⟨_, _, fun_mk (st := s_put_together) l15 c15 k15, PySem.W.mg_of X G a15, (fun_mk (st := s_put_together) l15 c15 k15).binds fun _ _ _ _ _ _ us hl => match us, hl with | [_], _ => rfl⟩
  have T16 : Top1 K mg "closing_pair" s_closing_pair ["floor"] := ⟨_, _, fun_mk (st := s_closing_pair) l16 c16 k16, PySem.W.mg_of X G a16, (fun_mk (st := s_closing_pair) l16 c16 k16).binds fun _ _ _ _ _ _ us hl => match us, hl with | [_], _ => rfl⟩
  have T17 : Top1 K mg "floor_below" s_floor_below ["one", "other"] := ⟨_, _, fun_mk (st := s_floor_below) l17 c17 k17, PySem.W.mg_of X G a17, (fun_mk (st := s_floor_below) l17 c17 k17).binds fun _ _ _ _ _ _ us hl => match us, hl with | [_, _], _ => rfl⟩
  have T18 : Top1 K mg "raw_closes" s_raw_closes ["floor", "vector"] := ⟨_, _, fun_mk (st := s_raw_closes) l18 c18 k18, PySem.W.mg_of X G a18, (fun_mk (st := s_raw_closes) l18 c18 k18).binds fun _ _ _ _ _ _ us hl => match us, hl with | [_, _], _ => rfl⟩
  have T19 : Top1 K mg "raw_lies_over" s_raw_lies_over ["floor", "other"] := ⟨_, _, fun_mk (st := s_raw_lies_over) l19 c19 k19, PySem.W.mg_of X G a19, (fun_mk (st := s_raw_lies_over) l19 c19 k19).binds fun _ _ _ _ _ _ us hl => match us, hl with | [_, _], _ => rfl⟩
  have T20 : Top1 K mg "check_over" s_check_over ["floor", "other"] := ⟨_, _, fun_mk (st := s_check_over) l20 c20 k20, PySem.W.mg_of X G a20, (fun_mk (st := s_check_over) l20 c20 k20).binds fun _ _ _ _ _ _ us hl => match us, hl with | [_, _], _ => rfl⟩
  have T21 : Top1 K mg "raw_is_cell" s_raw_is_cell ["floor", "thing"] := ⟨_, _, fun_mk (st := s_raw_is_cell) l21 c21 k21, PySem.W.mg_of X G a21, (fun_mk (st := s_raw_is_cell) l21 c21 k21).binds fun _ _ _ _ _ _ us hl => match us, hl with | [_, _], _ => rfl⟩
  have T22 : Top1 K mg "need_cell" s_need_cell ["floor", "thing"] := ⟨_, _, fun_mk (st := s_need_cell) l22 c22 k22, PySem.W.mg_of X G a22, (fun_mk (st := s_need_cell) l22 c22 k22).binds fun _ _ _ _ _ _ us hl => match us, hl with | [_, _], _ => rfl⟩
  have T23 : Top1 K mg "raw_led" s_raw_led ["floor", "cell", "vector"] := ⟨_, _, fun_mk (st := s_raw_led) l23 c23 k23, PySem.W.mg_of X G a23, (fun_mk (st := s_raw_led) l23 c23 k23).binds fun _ _ _ _ _ _ us hl => match us, hl with | [_, _, _], _ => rfl⟩
  have T24 : Top1 K mg "raw_folded" s_raw_folded ["other", "cell"] := ⟨_, _, fun_mk (st := s_raw_folded) l24 c24 k24, PySem.W.mg_of X G a24, (fun_mk (st := s_raw_folded) l24 c24 k24).binds fun _ _ _ _ _ _ us hl => match us, hl with | [_, _], _ => rfl⟩
  have T25 : Top1 K mg "folded" s_folded ["floor", "other", "cell"] := ⟨_, _, fun_mk (st := s_folded) l25 c25 k25, PySem.W.mg_of X G a25, (fun_mk (st := s_folded) l25 c25 k25).binds fun _ _ _ _ _ _ us hl => match us, hl with | [_, _, _], _ => rfl⟩
  have T26 : Top1 K mg "_law_common" s__law_common ["one", "other"] := ⟨_, _, fun_mk (st := s__law_common) l26 c26 k26, PySem.W.mg_of X G a26, (fun_mk (st := s__law_common) l26 c26 k26).binds fun _ _ _ _ _ _ us hl => match us, hl with | [_, _], _ => rfl⟩
  have T27 : Top1 K mg "_law_draw" s__law_draw ["hand", "many"] := ⟨_, _, fun_mk (st := s__law_draw) l27 c27 k27, PySem.W.mg_of X G a27, (fun_mk (st := s__law_draw) l27 c27 k27).binds fun _ _ _ _ _ _ us hl => match us, hl with | [_, _], _ => rfl⟩
  have T28 : Top1 K mg "_law_some" s__law_some ["hand", "things"] := ⟨_, _, fun_mk (st := s__law_some) l28 c28 k28, PySem.W.mg_of X G a28, (fun_mk (st := s__law_some) l28 c28 k28).binds fun _ _ _ _ _ _ us hl => match us, hl with | [_, _], _ => rfl⟩
  have T29 : Top1 K mg "_law_figures" s__law_figures ["hand", "most"] := ⟨_, _, fun_mk (st := s__law_figures) l29 c29 k29, PySem.W.mg_of X G a29, (fun_mk (st := s__law_figures) l29 c29 k29).binds fun _ _ _ _ _ _ us hl => match us, hl with | [_, _], _ => rfl⟩
  have T30 : Top1 K mg "_law_size" s__law_size ["hand", "top"] := ⟨_, _, fun_mk (st := s__law_size) l30 c30 k30, PySem.W.mg_of X G a30, (fun_mk (st := s__law_size) l30 c30 k30).binds fun _ _ _ _ _ _ us hl => match us, hl with | [_, _], _ => rfl⟩
  have T31 : Top1 K mg "_law_multiple" s__law_multiple ["one", "other"] := ⟨_, _, fun_mk (st := s__law_multiple) l31 c31 k31, PySem.W.mg_of X G a31, (fun_mk (st := s__law_multiple) l31 c31 k31).binds fun _ _ _ _ _ _ us hl => match us, hl with | [_, _], _ => rfl⟩
  have T32 : Top1 K mg "_law_cell" s__law_cell ["hand", "floor"] := ⟨_, _, fun_mk (st := s__law_cell) l32 c32 k32, PySem.W.mg_of X G a32, (fun_mk (st := s__law_cell) l32 c32 k32).binds fun _ _ _ _ _ _ us hl => match us, hl with | [_, _], _ => rfl⟩
  have T33 : Top1 K mg "is_vector" s_is_vector ["thing"] := ⟨_, _, fun_mk (st := s_is_vector) l33 c33 k33, PySem.W.mg_of X G a33, (fun_mk (st := s_is_vector) l33 c33 k33).binds fun _ _ _ _ _ _ us hl => match us, hl with | [_], _ => rfl⟩
  have T34 : Top1 K mg "need_vector" s_need_vector ["thing"] := ⟨_, _, fun_mk (st := s_need_vector) l34 c34 k34, PySem.W.mg_of X G a34, (fun_mk (st := s_need_vector) l34 c34 k34).binds fun _ _ _ _ _ _ us hl => match us, hl with | [_], _ => rfl⟩
  have T35 : Top1 K mg "check_vector" s_check_vector ["floor", "vector"] := ⟨_, _, fun_mk (st := s_check_vector) l35 c35 k35, PySem.W.mg_of X G a35, (fun_mk (st := s_check_vector) l35 c35 k35).binds fun _ _ _ _ _ _ us hl => match us, hl with | [_, _], _ => rfl⟩
  have T36 : Top1 K mg "check_closing" s_check_closing ["floor", "vector"] := ⟨_, _, fun_mk (st := s_check_closing) l36 c36 k36, PySem.W.mg_of X G a36, (fun_mk (st := s_check_closing) l36 c36 k36).binds fun _ _ _ _ _ _ us hl => match us, hl with | [_, _], _ => rfl⟩
  have T37 : Top1 K mg "raw_parts" s_raw_parts ["floor", "vector"] := ⟨_, _, fun_mk (st := s_raw_parts) l37 c37 k37, PySem.W.mg_of X G a37, (fun_mk (st := s_raw_parts) l37 c37 k37).binds fun _ _ _ _ _ _ us hl => match us, hl with | [_, _], _ => rfl⟩
  have T38 : Top1 K mg "parts_of" s_parts_of ["floor", "vector"] := ⟨_, _, fun_mk (st := s_parts_of) l38 c38 k38, PySem.W.mg_of X G a38, (fun_mk (st := s_parts_of) l38 c38 k38).binds fun _ _ _ _ _ _ us hl => match us, hl with | [_, _], _ => rfl⟩
  have T39 : Top1 K mg "does_close" s_does_close ["floor", "vector"] := ⟨_, _, fun_mk (st := s_does_close) l39 c39 k39, PySem.W.mg_of X G a39, (fun_mk (st := s_does_close) l39 c39 k39).binds fun _ _ _ _ _ _ us hl => match us, hl with | [_, _], _ => rfl⟩
  have T40 : Top1 K mg "lies_over" s_lies_over ["floor", "other"] := ⟨_, _, fun_mk (st := s_lies_over) l40 c40 k40, PySem.W.mg_of X G a40, (fun_mk (st := s_lies_over) l40 c40 k40).binds fun _ _ _ _ _ _ us hl => match us, hl with | [_, _], _ => rfl⟩
  have T41 : Top1 K mg "raw_divisor" s_raw_divisor ["floor"] := ⟨_, _, fun_mk (st := s_raw_divisor) l41 c41 k41, PySem.W.mg_of X G a41, (fun_mk (st := s_raw_divisor) l41 c41 k41).binds fun _ _ _ _ _ _ us hl => match us, hl with | [_], _ => rfl⟩
  have T42 : Top1 K mg "raw_many" s_raw_many ["floor"] := ⟨_, _, fun_mk (st := s_raw_many) l42 c42 k42, PySem.W.mg_of X G a42, (fun_mk (st := s_raw_many) l42 c42 k42).binds fun _ _ _ _ _ _ us hl => match us, hl with | [_], _ => rfl⟩
  have T43 : Top1 K mg "group" s_group ["floor"] := ⟨_, _, fun_mk (st := s_group) l43 c43 k43, PySem.W.mg_of X G a43, (fun_mk (st := s_group) l43 c43 k43).binds fun _ _ _ _ _ _ us hl => match us, hl with | [_], _ => rfl⟩
  have T44 : Top1 K mg "is_one_ring" s_is_one_ring ["floor"] := ⟨_, _, fun_mk (st := s_is_one_ring) l44 c44 k44, PySem.W.mg_of X G a44, (fun_mk (st := s_is_one_ring) l44 c44 k44).binds fun _ _ _ _ _ _ us hl => match us, hl with | [_], _ => rfl⟩
  have T45 : Top1 K mg "_law_are_dials_right" s__law_are_dials_right ["hand", "top"] := ⟨_, _, fun_mk (st := s__law_are_dials_right) l45 c45 k45, PySem.W.mg_of X G a45, (fun_mk (st := s__law_are_dials_right) l45 c45 k45).binds fun _ _ _ _ _ _ us hl => match us, hl with | [_, _], _ => rfl⟩
  have T46 : Top1 K mg "_law_are_rows_right" s__law_are_rows_right ["hand", "top"] := ⟨_, _, fun_mk (st := s__law_are_rows_right) l46 c46 k46, PySem.W.mg_of X G a46, (fun_mk (st := s__law_are_rows_right) l46 c46 k46).binds fun _ _ _ _ _ _ us hl => match us, hl with | [_, _], _ => rfl⟩
  have T47 : Top1 K mg "_law_led" s__law_led ["floor", "cell", "vector"] := ⟨_, _, fun_mk (st := s__law_led) l47 c47 k47, PySem.W.mg_of X G a47, (fun_mk (st := s__law_led) l47 c47 k47).binds fun _ _ _ _ _ _ us hl => match us, hl with | [_, _, _], _ => rfl⟩
  have T48 : Top1 K mg "_law_closes" s__law_closes ["floor", "vector"] := ⟨_, _, fun_mk (st := s__law_closes) l48 c48 k48, PySem.W.mg_of X G a48, (fun_mk (st := s__law_closes) l48 c48 k48).binds fun _ _ _ _ _ _ us hl => match us, hl with | [_, _], _ => rfl⟩
  have T49 : Top1 K mg "_law_are_small_right" s__law_are_small_right ["hand"] := ⟨_, _, fun_mk (st := s__law_are_small_right) l49 c49 k49, PySem.W.mg_of X G a49, (fun_mk (st := s__law_are_small_right) l49 c49 k49).binds fun _ _ _ _ _ _ us hl => match us, hl with | [_], _ => rfl⟩
  have T50 : Top1 K mg "law" s_law ["script"] := ⟨_, _, fun_mk (st := s_law) l50 c50 k50, PySem.W.mg_of X G a50, (fun_mk (st := s_law) l50 c50 k50).binds fun _ _ _ _ _ _ us hl => match us, hl with | [_], _ => rfl⟩
  refine ⟨PySem.W.fnOf "law" "law" (defArgs s_law) (defBody s_law) (defScope s_law) .none kV50 dc50 pm50 an50 cd50 ct50, fun s v => .of_eq rfl, fun base _ _ => ?_⟩
  have m_abs : mg "abs" = none := PySem.W.mg_none_of X G z1
  have m_int : mg "int" = none := PySem.W.mg_none_of X G z2
  have m_len : mg "len" = none := PySem.W.mg_none_of X G z3
  have m_isinstance : mg "isinstance" = none := PySem.W.mg_none_of X G z4
  have m_bool : mg "bool" = none := PySem.W.mg_none_of X G z5
  have m_tuple : mg "tuple" = none := PySem.W.mg_none_of X G z6
  have m_zip : mg "zip" = none := PySem.W.mg_none_of X G z7
  have m_repr : mg "repr" = none := PySem.W.mg_none_of X G z8
  have m_list : mg "list" = none := PySem.W.mg_none_of X G z9
  have m_all : mg "all" = none := PySem.W.mg_none_of X G z10
  have m_divmod : mg "divmod" = none := PySem.W.mg_none_of X G z11
  have m_range : mg "range" = none := PySem.W.mg_none_of X G z12
  have m_min : mg "min" = none := PySem.W.mg_none_of X G z13
  have m_max : mg "max" = none := PySem.W.mg_none_of X G z14
  have m_MOST_SIZE : ∃ t, mg "MOST_SIZE" = some (.int (10 ^ 15) t) := ⟨t1, by rw [PySem.W.mg_of X G y1, e1]⟩
  have m_MOST_PART : ∃ t, mg "MOST_PART" = some (.int (10 ^ 30) t) := ⟨t2, by rw [PySem.W.mg_of X G y2, e2]⟩
  have gT : mg "TooGreat" = some (.ref C) := PySem.W.mg_of X G xg
  have eT := own_exm bT iT tT sT
  have c__law_hand := ok__law_hand (P := l.prog) (w := w) (base := base) T1 m_abs m_int m_len
  have c_is_integer := ok_is_integer (P := l.prog) (w := w) (base := base) T2 m_isinstance m_int m_bool
  have c_is_within := ok_is_within (P := l.prog) (w := w) (base := base) T3 c_is_integer
  have c_is_tuple := ok_is_tuple (P := l.prog) (w := w) (base := base) T4 m_isinstance m_tuple m_len
  have c_is_floor := ok_is_floor (P := l.prog) (w := w) (base := base) T5 c_is_within c_is_tuple m_MOST_SIZE
  have c_check_floor := ok_check_floor (P := l.prog) (w := w) (base := base) T6 c_is_floor
  have c_check_floors := ok_check_floors (P := l.prog) (w := w) (base := base) T7 c_check_floor
  have c_common := ok_common (P := l.prog) (w := w) (base := base) T8 m_abs
  have c_weights := ok_weights (P := l.prog) (w := w) (base := base) T9 m_tuple m_zip
  have c_undone := ok_undone (P := l.prog) (w := w) (base := base) T10 c_weights
  have c_least_solution := ok_least_solution (P := l.prog) (w := w) (base := base) T11 c_common c_undone
  have c_floor_above := ok_floor_above (P := l.prog) (w := w) (base := base) xT gT kT bT tT T12 c_check_floors c_common c_least_solution c_is_floor
  have c__law_said := ok__law_said (P := l.prog) (w := w) (base := base) T13 gT eT c_floor_above
  have c__law_is := ok__law_is (P := l.prog) (w := w) (base := base) T14 m_repr
  have c_put_together := ok_put_together (P := l.prog) (w := w) (base := base) T15 c_common m_abs
  have c_closing_pair := ok_closing_pair (P := l.prog) (w := w) (base := base) T16 c_check_floor
  have c_floor_below := ok_floor_below (P := l.prog) (w := w) (base := base) T17 c_check_floors c_put_together c_is_floor m_list c_closing_pair
  have c_raw_closes := ok_raw_closes (P := l.prog) (w := w) (base := base) T18 
  have c_raw_lies_over := ok_raw_lies_over (P := l.prog) (w := w) (base := base) T19 m_all c_raw_closes c_closing_pair
  have c_check_over := ok_check_over (P := l.prog) (w := w) (base := base) T20 c_check_floors c_raw_lies_over
  have c_raw_is_cell := ok_raw_is_cell (P := l.prog) (w := w) (base := base) T21 c_is_tuple c_is_within
  have c_need_cell := ok_need_cell (P := l.prog) (w := w) (base := base) T22 c_raw_is_cell
  have c_raw_led := ok_raw_led (P := l.prog) (w := w) (base := base) T23 m_divmod
  have c_raw_folded := ok_raw_folded (P := l.prog) (w := w) (base := base) T24 c_raw_led
  have c_folded := ok_folded (P := l.prog) (w := w) (base := base) T25 c_check_over c_need_cell c_raw_folded
  have c__law_common := ok__law_common (P := l.prog) (w := w) (base := base) T26 m_abs m_int
  have c__law_draw := ok__law_draw (P := l.prog) (w := w) (base := base) T27 m_int m_len
  have c__law_some := ok__law_some (P := l.prog) (w := w) (base := base) T28 c__law_draw m_len
  have c__law_figures := ok__law_figures (P := l.prog) (w := w) (base := base) T29 m_range c__law_draw m_int m_min c__law_some
  have c__law_size := ok__law_size (P := l.prog) (w := w) (base := base) T30 c__law_some m_max m_min c__law_figures
  have c__law_multiple := ok__law_multiple (P := l.prog) (w := w) (base := base) T31 c__law_common
  have c__law_cell := ok__law_cell (P := l.prog) (w := w) (base := base) T32 c__law_some c__law_figures
  have c_is_vector := ok_is_vector (P := l.prog) (w := w) (base := base) T33 c_is_tuple m_all c_is_within m_MOST_PART
  have c_need_vector := ok_need_vector (P := l.prog) (w := w) (base := base) T34 c_is_vector
  have c_check_vector := ok_check_vector (P := l.prog) (w := w) (base := base) T35 c_check_floor c_need_vector
  have c_check_closing := ok_check_closing (P := l.prog) (w := w) (base := base) T36 c_check_vector c_raw_closes
  have c_raw_parts := ok_raw_parts (P := l.prog) (w := w) (base := base) T37 
  have c_parts_of := ok_parts_of (P := l.prog) (w := w) (base := base) T38 c_check_closing c_raw_parts
  have c_does_close := ok_does_close (P := l.prog) (w := w) (base := base) T39 c_check_vector c_raw_closes
  have c_lies_over := ok_lies_over (P := l.prog) (w := w) (base := base) T40 c_check_floors c_raw_lies_over
  have c_raw_divisor := ok_raw_divisor (P := l.prog) (w := w) (base := base) T41 c_common
  have c_raw_many := ok_raw_many (P := l.prog) (w := w) (base := base) T42 
  have c_group := ok_group (P := l.prog) (w := w) (base := base) T43 c_check_floor c_raw_divisor c_raw_many
  have c_is_one_ring := ok_is_one_ring (P := l.prog) (w := w) (base := base) T44 c_check_floor c_raw_divisor
  have c__law_are_dials_right := ok__law_are_dials_right (P := l.prog) (w := w) (base := base) T45 c__law_common c__law_is c__law_size c__law_draw m_max c__law_multiple c__law_said c_floor_below c__law_cell c_parts_of c_does_close m_range c__law_some m_int c_lies_over c_group c_is_one_ring c__law_figures c_folded
  have c__law_are_rows_right := ok__law_are_rows_right (P := l.prog) (w := w) (base := base) T46 c__law_common c__law_said c__law_figures c__law_cell c_floor_below c_lies_over c_folded c__law_is c__law_multiple m_int c_group c_is_one_ring c__law_draw
  have c__law_led := ok__law_led (P := l.prog) (w := w) (base := base) T47 m_int
  have c__law_closes := ok__law_closes (P := l.prog) (w := w) (base := base) T48 c__law_led
  have c__law_are_small_right := ok__law_are_small_right (P := l.prog) (w := w) (base := base) T49 m_range c_floor_below c_floor_above c_lies_over c__law_draw c__law_closes
  exact fn_top (fun_mk (st := s_law) l50 c50 k50) sc_law (by rintro es Q ⟨_, rfl, _⟩; rfl) fun cdv A outer s H E B es Q hq => body_law (X0 := cxOf CX0 l.prog w K mg base N_law "law" (defScope s_law) fa cdv A outer s H E) (env0 := PyProof.Rows.envOfC "law" (defScope s_law) s.heap.objs.size fa cdv) c__law_hand m_range m_all c__law_said c__law_is c_floor_below c_folded c__law_are_dials_right c__law_are_rows_right c__law_are_small_right c__law_some B es Q hq
end K07
open PySem PySem.W PyProof.Rows
set_option maxHeartbeats 0 in
theorem PySem.Challenge.cw_onewayrings_k07_whole_great_dials_over_o_holds : PySem.Challenge.rw_onewayrings_k07_whole_great_dials_over_o.Holds := by
  w_on; o_law; k_head; (case hw => w_witness2)
  k_fill
  refine Pw.law_end (l := PySem.Challenge.rw_onewayrings_k07_whole_great_dials_over_o) (n := 63) (k := 10) (ps := ["script"]) (sp := fun w => K07.top0 _ K07.sp_law) rfl (by decide) rfl ⟨rfl, by decide, by decide⟩ (fun w h Y => PySem.W.kIn_of Y) ?F (fun w H a ns _ hS => K07.top_law hS)
  case F =>
    intro w mg fa h KX G hmg
    refine' K07.all_mk KX G hmg ?a1 ?l1 ?c1 ?k1 ?a2 ?l2 ?c2 ?k2 ?a3 ?l3 ?c3 ?k3 ?a4 ?l4 ?c4 ?k4 ?a5 ?l5 ?c5 ?k5 ?a6 ?l6 ?c6 ?k6 ?a7 ?l7 ?c7 ?k7 ?a8 ?l8 ?c8 ?k8 ?a9 ?l9 ?c9 ?k9 ?a10 ?l10 ?c10 ?k10 ?a11 ?l11 ?c11 ?k11 ?a12 ?l12 ?c12 ?k12 ?a13 ?l13 ?c13 ?k13 ?a14 ?l14 ?c14 ?k14 ?a15 ?l15 ?c15 ?k15 ?a16 ?l16 ?c16 ?k16 ?a17 ?l17 ?c17 ?k17 ?a18 ?l18 ?c18 ?k18 ?a19 ?l19 ?c19 ?k19 ?a20 ?l20 ?c20 ?k20 ?a21 ?l21 ?c21 ?k21 ?a22 ?l22 ?c22 ?k22 ?a23 ?l23 ?c23 ?k23 ?a24 ?l24 ?c24 ?k24 ?a25 ?l25 ?c25 ?k25 ?a26 ?l26 ?c26 ?k26 ?a27 ?l27 ?c27 ?k27 ?a28 ?l28 ?c28 ?k28 ?a29 ?l29 ?c29 ?k29 ?a30 ?l30 ?c30 ?k30 ?a31 ?l31 ?c31 ?k31 ?a32 ?l32 ?c32 ?k32 ?a33 ?l33 ?c33 ?k33 ?a34 ?l34 ?c34 ?k34 ?a35 ?l35 ?c35 ?k35 ?a36 ?l36 ?c36 ?k36 ?a37 ?l37 ?c37 ?k37 ?a38 ?l38 ?c38 ?k38 ?a39 ?l39 ?c39 ?k39 ?a40 ?l40 ?c40 ?k40 ?a41 ?l41 ?c41 ?k41 ?a42 ?l42 ?c42 ?k42 ?a43 ?l43 ?c43 ?k43 ?a44 ?l44 ?c44 ?k44 ?a45 ?l45 ?c45 ?k45 ?a46 ?l46 ?c46 ?k46 ?a47 ?l47 ?c47 ?k47 ?a48 ?l48 ?c48 ?k48 ?a49 ?l49 ?c49 ?k49 ?a50 ?l50 ?c50 ?k50 ?z1 ?z2 ?z3 ?z4 ?z5 ?z6 ?z7 ?z8 ?z9 ?z10 ?z11 ?z12 ?z13 ?z14 ?y1 ?e1 ?y2 ?e2 ?xg ?xT ?kT ?bT ?tT ?iT ?sT
    (case a1 => k_is)
    (case l1 => k_is)
    (case c1 => k_is)
    (case k1 => k_is)
    (case a2 => k_is)
    (case l2 => k_is)
    (case c2 => k_is)
    (case k2 => k_is)
    (case a3 => k_is)
    (case l3 => k_is)
    (case c3 => k_is)
    (case k3 => k_is)
    (case a4 => k_is)
    (case l4 => k_is)
    (case c4 => k_is)
    (case k4 => k_is)
    (case a5 => k_is)
    (case l5 => k_is)
    (case c5 => k_is)
    (case k5 => k_is)
    (case a6 => k_is)
    (case l6 => k_is)
    (case c6 => k_is)
    (case k6 => k_is)
    (case a7 => k_is)
    (case l7 => k_is)
    (case c7 => k_is)
    (case k7 => k_is)
    (case a8 => k_is)
    (case l8 => k_is)
    (case c8 => k_is)
    (case k8 => k_is)
    (case a9 => k_is)
    (case l9 => k_is)
    (case c9 => k_is)
    (case k9 => k_is)
    (case a10 => k_is)
    (case l10 => k_is)
    (case c10 => k_is)
    (case k10 => k_is)
    (case a11 => k_is)
    (case l11 => k_is)
    (case c11 => k_is)
    (case k11 => k_is)
    (case a12 => k_is)
    (case l12 => k_is)
    (case c12 => k_is)
    (case k12 => k_is)
    (case a13 => k_is)
    (case l13 => k_is)
    (case c13 => k_is)
    (case k13 => k_is)
    (case a14 => k_is)
    (case l14 => k_is)
    (case c14 => k_is)
    (case k14 => k_is)
    (case a15 => k_is)
    (case l15 => k_is)
    (case c15 => k_is)
    (case k15 => k_is)
    (case a16 => k_is)
    (case l16 => k_is)
    (case c16 => k_is)
    (case k16 => k_is)
    (case a17 => k_is)
    (case l17 => k_is)
    (case c17 => k_is)
    (case k17 => k_is)
    (case a18 => k_is)
    (case l18 => k_is)
    (case c18 => k_is)
    (case k18 => k_is)
    (case a19 => k_is)
    (case l19 => k_is)
    (case c19 => k_is)
    (case k19 => k_is)
    (case a20 => k_is)
    (case l20 => k_is)
    (case c20 => k_is)
    (case k20 => k_is)
    (case a21 => k_is)
    (case l21 => k_is)
    (case c21 => k_is)
    (case k21 => k_is)
    (case a22 => k_is)
    (case l22 => k_is)
    (case c22 => k_is)
    (case k22 => k_is)
    (case a23 => k_is)
    (case l23 => k_is)
    (case c23 => k_is)
    (case k23 => k_is)
    (case a24 => k_is)
    (case l24 => k_is)
    (case c24 => k_is)
    (case k24 => k_is)
    (case a25 => k_is)
    (case l25 => k_is)
    (case c25 => k_is)
    (case k25 => k_is)
    (case a26 => k_is)
    (case l26 => k_is)
    (case c26 => k_is)
    (case k26 => k_is)
    (case a27 => k_is)
    (case l27 => k_is)
    (case c27 => k_is)
    (case k27 => k_is)
    (case a28 => k_is)
    (case l28 => k_is)
    (case c28 => k_is)
    (case k28 => k_is)
    (case a29 => k_is)
    (case l29 => k_is)
    (case c29 => k_is)
    (case k29 => k_is)
    (case a30 => k_is)
    (case l30 => k_is)
    (case c30 => k_is)
    (case k30 => k_is)
    (case a31 => k_is)
    (case l31 => k_is)
    (case c31 => k_is)
    (case k31 => k_is)
    (case a32 => k_is)
    (case l32 => k_is)
    (case c32 => k_is)
    (case k32 => k_is)
    (case a33 => k_is)
    (case l33 => k_is)
    (case c33 => k_is)
    (case k33 => k_is)
    (case a34 => k_is)
    (case l34 => k_is)
    (case c34 => k_is)
    (case k34 => k_is)
    (case a35 => k_is)
    (case l35 => k_is)
    (case c35 => k_is)
    (case k35 => k_is)
    (case a36 => k_is)
    (case l36 => k_is)
    (case c36 => k_is)
    (case k36 => k_is)
    (case a37 => k_is)
    (case l37 => k_is)
    (case c37 => k_is)
    (case k37 => k_is)
    (case a38 => k_is)
    (case l38 => k_is)
    (case c38 => k_is)
    (case k38 => k_is)
    (case a39 => k_is)
    (case l39 => k_is)
    (case c39 => k_is)
    (case k39 => k_is)
    (case a40 => k_is)
    (case l40 => k_is)
    (case c40 => k_is)
    (case k40 => k_is)
    (case a41 => k_is)
    (case l41 => k_is)
    (case c41 => k_is)
    (case k41 => k_is)
    (case a42 => k_is)
    (case l42 => k_is)
    (case c42 => k_is)
    (case k42 => k_is)
    (case a43 => k_is)
    (case l43 => k_is)
    (case c43 => k_is)
    (case k43 => k_is)
    (case a44 => k_is)
    (case l44 => k_is)
    (case c44 => k_is)
    (case k44 => k_is)
    (case a45 => k_is)
    (case l45 => k_is)
    (case c45 => k_is)
    (case k45 => k_is)
    (case a46 => k_is)
    (case l46 => k_is)
    (case c46 => k_is)
    (case k46 => k_is)
    (case a47 => k_is)
    (case l47 => k_is)
    (case c47 => k_is)
    (case k47 => k_is)
    (case a48 => k_is)
    (case l48 => k_is)
    (case c48 => k_is)
    (case k48 => k_is)
    (case a49 => k_is)
    (case l49 => k_is)
    (case c49 => k_is)
    (case k49 => k_is)
    (case a50 => k_is)
    (case l50 => k_is)
    (case c50 => k_is)
    (case k50 => k_is)
    (case z1 => k_is)
    (case z2 => k_is)
    (case z3 => k_is)
    (case z4 => k_is)
    (case z5 => k_is)
    (case z6 => k_is)
    (case z7 => k_is)
    (case z8 => k_is)
    (case z9 => k_is)
    (case z10 => k_is)
    (case z11 => k_is)
    (case z12 => k_is)
    (case z13 => k_is)
    (case z14 => k_is)
    (case y1 => k_is)
    (case e1 => rfl)
    (case y2 => k_is)
    (case e2 => rfl)
    (case xg => k_is)
    (case xT => k_exc)
    (case kT => k_is)
    (case bT => k_is)
    (case tT => k_is)
    (case iT => k_is)
    (case sT => first | rfl | k_is)

