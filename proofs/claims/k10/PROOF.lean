import PyProof.Rows.All
import Wide.All
import OpenK.AllK
import Wide.FinOn
import HandS.ForMost
import HandS.TupAny
import HandS.TupLe
import HandS.Zip
import HandS.More
import HandS.SetFor
import HandS.DictTup
import KE.KDictPairs
import KE.SortData
import HandS.DictSubMake
import KE.DataFind
import KE.KeyNested
import KE.KDictKeyed
import PyProof.DictRoadsH
import KE.DataMinMax
import KE.KDictDisplayH
import KE.LtData
import HandS.Style
import PySem.Challenge.RW_stridewell_k10_whole_both_of_some
section
set_option Elab.async false
set_option linter.all false
set_option maxRecDepth 100000
set_option maxHeartbeats 4000000
/-! The data layer: what an expression is worth as data, known heap Hk beside the heap H. -/
namespace DL
open PySem PySem.Spec PyProof.Rows L2

/-! ### heaps: what is known (Hk) within what stands (H) -/
structure Ext (M : Addr → Prop) (Hk H Hk2 H2 : Hp) : Prop where
  kk : Same Hk Hk2
  sub : Same Hk2 H2
  keep : ∀ a o, ¬ M a → H a = some o → H2 a = some o
  new : ∀ a, H a ≠ none → Hk2 a = Hk a
  there : ∀ a, H a ≠ none → H2 a ≠ none
abbrev M0 : Addr → Prop := fun _ => False
abbrev M1 (e : Addr) : Addr → Prop := fun a => a = e
section
variable {M M' : Addr → Prop} {Hk H Hk2 H2 Hk3 H3 : Hp} {p : Addr} {o o' : HO}
theorem Ext.refl (s : Same Hk H) : Ext M Hk H Hk H := ⟨Same.refl _, s, fun _ _ _ h => h, fun _ _ => rfl, fun _ h => h⟩
theorem Ext.trans (a : Ext M Hk H Hk2 H2) (b : Ext M Hk2 H2 Hk3 H3) : Ext M Hk H Hk3 H3 :=
  ⟨a.kk.trans b.kk, b.sub, fun x u n h => b.keep x u n (a.keep x u n h), fun x h => (b.new x (a.there x h)).trans (a.new x h), fun x h => b.there x (a.there x h)⟩
theorem Ext.mono (a : Ext M Hk H Hk2 H2) (h : ∀ x, M x → M' x) : Ext M' Hk H Hk2 H2 :=
  ⟨a.kk, a.sub, fun x u n e => a.keep x u (fun z => n (h x z)) e, a.new, a.there⟩
theorem Ext.pure (a : Ext M0 Hk H Hk2 H2) : Ext M Hk H Hk2 H2 := a.mono fun _ z => z.elim
theorem Ext.same (a : Ext M0 Hk H Hk2 H2) : Same H H2 := fun x u e => a.keep x u (fun z => z) e
theorem Ext.alloc (s : Same Hk H) (n : H p = none) : Ext M Hk H (upd Hk p o) (upd H p o) := by
  have nk : Hk p = none := s.free n
  refine ⟨fun a u e => by rw [upd_ne (ne_of_none e nk)]; exact e, fun a u e => ?_, fun a u _ e => by rw [upd_ne (ne_of_none e n)]; exact e, fun a h => ?_, fun a h => ?_⟩
  · by_cases z : a = p
    · subst z; rw [upd_same] at e; rw [upd_same]; exact e
    · rw [upd_ne z] at e; rw [upd_ne z]; exact s _ _ e
  · have z : a ≠ p := fun z => by subst z; exact h n
    rw [upd_ne z]
  · have z : a ≠ p := fun z => by subst z; exact h n
    rw [upd_ne z]; exact h
/-- a new object that may change: not known -/
theorem Ext.allocM (s : Same Hk H) (n : H p = none) : Ext M Hk H Hk (upd H p o) := by
  have nk : Hk p = none := s.free n
  refine ⟨Same.refl _, fun a u e => by rw [upd_ne (ne_of_none e nk)]; exact s _ _ e, fun a u _ e => by rw [upd_ne (ne_of_none e n)]; exact e, fun a _ => rfl, fun a h => ?_⟩
  have z : a ≠ p := fun z => by subst z; exact h n
  rw [upd_ne z]; exact h
/-- a change at an address that may change -/
theorem Ext.write (s : Same Hk H) (m : M p) (nk : Hk p = none) : Ext M Hk H Hk (upd H p o) := by
  refine ⟨Same.refl _, fun a u e => by rw [upd_ne (ne_of_none e nk)]; exact s _ _ e, fun a u nm e => ?_, fun a _ => rfl, fun a h => ?_⟩
  · have z : a ≠ p := fun z => nm (by rw [z]; exact m)
    rw [upd_ne z]; exact e
  · by_cases z : a = p
    · subst z; rw [upd_same]; exact fun q => by cases q
    · rw [upd_ne z]; exact h
/-- what is not known stays unknown -/
theorem Ext.unk (a : Ext M Hk H Hk2 H2) {x : Addr} (h : Hk x = none) (t : H x ≠ none) : Hk2 x = none := (a.new x t).trans h
/-- a change at an address that was not there: beyond the known -/
theorem Ext.mut (a : Ext M Hk H Hk2 H2) (m : M p) (nk : Hk2 p = none) : Ext M Hk H Hk2 (upd H2 p o) := a.trans (Ext.write a.sub m nk)
/-- .. a local one: it was not there at the start -/
theorem Ext.loc (a : Ext M Hk H Hk2 H2) (n : H p = none) (nk : Hk2 p = none) : Ext M Hk H Hk2 (upd H2 p o) := by
  refine ⟨a.kk, fun x u e => by rw [upd_ne (ne_of_none e nk)]; exact a.sub _ _ e, fun x u nm e => by rw [upd_ne (ne_of_none e n)]; exact a.keep x u nm e, a.new, fun x h => ?_⟩
  have z : x ≠ p := fun z => by subst z; exact h n
  rw [upd_ne z]; exact a.there x h
/-- the known heap joined with more that is known -/
def join (A B : Hp) : Hp := fun x => match A x with
  | some o => some o
  | none => B x
theorem join_l {A B : Hp} : Same A (join A B) := fun x o e => by unfold join; rw [e]
theorem join_r {A B : Hp} (h : ∀ x o u, A x = some o → B x = some u → o = u) : Same B (join A B) := fun x u e => by
  unfold join
  cases q : A x with
  | none => exact e
  | some o => rw [h x o u q e]
/-- an extension of less knowledge is one of more -/
theorem Ext.more {Hq : Hp} (a : Ext M Hk H Hk2 H2) (k : Same Hk Hq) (s : Same Hq H) (hs : ∀ x o, Hq x = some o → H2 x = some o) : ∃ Hq2, Ext M Hq H Hq2 H2 ∧ Same Hk2 Hq2 := by
  have ag : ∀ x o u, Hq x = some o → Hk2 x = some u → o = u := fun x o u e1 e2 => by
    have h1 := s _ _ e1
    have h2 : Hk2 x = Hk x := a.new x (by rw [h1]; exact fun q => by cases q)
    rw [h2] at e2
    have h3 := k _ _ e2
    rw [e1] at h3
    exact Option.some.inj h3
  refine ⟨join Hq Hk2, ⟨join_l, fun x o e => ?_, a.keep, fun x h => ?_, a.there⟩, join_r ag⟩
  · unfold join at e
    cases q : Hq x with
    | some u =>
      rw [q] at e
      exact hs x o (by rw [q]; exact e)
    | none =>
      rw [q] at e
      exact a.sub _ _ e
  · unfold join
    cases q : Hq x with
    | some u => rfl
    | none =>
      show Hk2 x = none
      rw [a.new x h]
      cases z : Hk x with
      | none => rfl
      | some u => rw [k _ _ z] at q; cases q
end

/-! ### plain data: lists that are tracked, tuples that are pinned as they were made -/
def PlT (H : Hp) (a : Addr) (xs : List V) : Prop := ∃ o : Obj, H a = some (.frz o (.tup xs)) ∧ o.cls = .type "tuple" ∧ o.dict = none
theorem PlT.sq {K : PySem.W.Frag} {H : Hp} {a : Addr} {xs : List V} (h : PlT H a xs) : SqT K H a xs := let ⟨o, e, _⟩ := h; .inl (.inr ⟨o, e⟩)
theorem PlT.up {H H' : Hp} {a : Addr} {xs : List V} (h : PlT H a xs) (e : Same H H') : PlT H' a xs := let ⟨o, q, r⟩ := h; ⟨o, e _ _ q, r⟩
mutual
inductive Dq (K : PySem.W.Frag) (H : Hp) : V → PyData → Prop
  | non : Dq K H .non .none
  | bl (b : Bool) : Dq K H (.bl b) (.bool b)
  | int (i : Int) : Dq K H (.int i) (.int i)
  | str (x : Str) : Dq K H (.str x) (.str x)
  | lst {a : Addr} {xs : List V} {ds : List PyData} : H a = some (.lst xs) → DqAll K H xs ds → Dq K H (.ref a) (.list ds)
  | tup {a : Addr} {xs : List V} {ds : List PyData} : PlT H a xs → DqAll K H xs ds → Dq K H (.ref a) (.tuple ds)
inductive DqAll (K : PySem.W.Frag) (H : Hp) : List V → List PyData → Prop
  | nil : DqAll K H [] []
  | cons {v : V} {vs : List V} {d : PyData} {ds : List PyData} : Dq K H v d → DqAll K H vs ds → DqAll K H (v :: vs) (d :: ds)
end
/-! ### data under more knowledge -/
theorem rd_same {H H' : Hp} {a : Addr} {u : HO} (e : Same H H') (h : Rd H a u) : Rd H' a u := by
  rcases h with h | ⟨o, h⟩
  · exact Or.inl (e a _ h)
  · exact Or.inr ⟨o, e a _ h⟩
theorem sqt_same {K : PySem.W.Frag} {H H' : Hp} {a : Addr} {xs : List V} (e : Same H H') (h : SqT K H a xs) : SqT K H' a xs := by
  rcases h with h | h
  · exact Or.inl (rd_same e h)
  · exact Or.inr h
mutual
theorem dp_same {K : PySem.W.Frag} {H H' : Hp} (e : Same H H') : ∀ (d : PyData) (v : V), Dq K H v d → Dq K H' v d
  | .none, _, h => by cases h; exact .non
  | .bool b, _, h => by cases h; exact .bl b
  | .int i, _, h => by cases h; exact .int i
  | .str x, _, h => by cases h; exact .str x
  | .list ds, _, h => by
    cases h with
    | lst hs ha => exact .lst (e _ _ hs) (dpAll_same e ds _ ha)
  | .tuple ds, _, h => by
    cases h with
    | tup hs ha => exact .tup (hs.up e) (dpAll_same e ds _ ha)
  | .dict _, _, h => by cases h
theorem dpAll_same {K : PySem.W.Frag} {H H' : Hp} (e : Same H H') : ∀ (ds : List PyData) (vs : List V), DqAll K H vs ds → DqAll K H' vs ds
  | [], _, h => by cases h; exact .nil
  | d :: ds, _, h => by
    cases h with
    | cons h1 h2 => exact .cons (dp_same e d _ h1) (dpAll_same e ds _ h2)
end
theorem Dq.up {K : PySem.W.Frag} {H H' : Hp} {v : V} {d : PyData} (h : Dq K H v d) (e : Same H H') : Dq K H' v d := dp_same e d v h
theorem DqAll.up {K : PySem.W.Frag} {H H' : Hp} {vs : List V} {ds : List PyData} (h : DqAll K H vs ds) (e : Same H H') : DqAll K H' vs ds := dpAll_same e ds vs h
theorem DqAll.len {K : PySem.W.Frag} {H : Hp} : ∀ {ds : List PyData} {vs : List V}, DqAll K H vs ds → vs.length = ds.length
  | [], _, h => by cases h; rfl
  | d :: ds, _, h => by
    cases h with
    | cons h1 h2 => rw [List.length_cons, List.length_cons, h2.len]
theorem DqAll.at {K : PySem.W.Frag} {H : Hp} : ∀ {ds : List PyData} {vs : List V} {i : Nat} {d : PyData}, DqAll K H vs ds → ds[i]? = some d → ∃ v, vs[i]? = some v ∧ Dq K H v d
  | [], _, _, _, h, e => by simp at e
  | d :: ds, _, 0, _, h, e => by
    cases h with
    | cons h1 h2 => cases e; exact ⟨_, rfl, h1⟩
  | d :: ds, _, i + 1, _, h, e => by
    cases h with
    | cons h1 h2 => exact h2.at (i := i) e
theorem DqAll.of {K : PySem.W.Frag} {H : Hp} : ∀ {ds : List PyData} {vs : List V} {i : Nat} {v : V}, DqAll K H vs ds → vs[i]? = some v → ∃ d, ds[i]? = some d ∧ Dq K H v d
  | [], _, _, _, h, e => by cases h; simp at e
  | d :: ds, _, 0, _, h, e => by
    cases h with
    | cons h1 h2 => cases e; exact ⟨_, rfl, h1⟩
  | d :: ds, _, i + 1, _, h, e => by
    cases h with
    | cons h1 h2 => exact h2.of (i := i) e
theorem DqAll.app {K : PySem.W.Frag} {H : Hp} : ∀ {ds es : List PyData} {vs ws : List V}, DqAll K H vs ds → DqAll K H ws es → DqAll K H (vs ++ ws) (ds ++ es)
  | [], _, _, _, h, g => by cases h; exact g
  | d :: ds, _, _, _, h, g => by
    cases h with
    | cons h1 h2 => exact .cons h1 (h2.app g)
theorem DqAll.drop {K : PySem.W.Frag} {H : Hp} : ∀ {ds : List PyData} {vs : List V} (n : Nat), DqAll K H vs ds → DqAll K H (vs.drop n) (ds.drop n)
  | _, _, 0, h => h
  | [], _, _ + 1, h => by cases h; exact .nil
  | d :: ds, _, n + 1, h => by
    cases h with
    | cons h1 h2 => exact h2.drop n
theorem DqAll.take {K : PySem.W.Frag} {H : Hp} : ∀ {ds : List PyData} {vs : List V} (n : Nat), DqAll K H vs ds → DqAll K H (vs.take n) (ds.take n)
  | _, _, 0, _ => .nil
  | [], _, _ + 1, h => by cases h; exact .nil
  | d :: ds, _, n + 1, h => by
    cases h with
    | cons h1 h2 => exact .cons h1 (h2.take n)
theorem dp_int {K : PySem.W.Frag} {H : Hp} {v : V} {i : Int} (h : Dq K H v (.int i)) : v = .int i := by cases h; rfl
theorem dp_bool {K : PySem.W.Frag} {H : Hp} {v : V} {b : Bool} (h : Dq K H v (.bool b)) : v = .bl b := by cases h; rfl
theorem dp_str {K : PySem.W.Frag} {H : Hp} {v : V} {x : Str} (h : Dq K H v (.str x)) : v = .str x := by cases h; rfl
theorem dp_none {K : PySem.W.Frag} {H : Hp} {v : V} (h : Dq K H v .none) : v = .non := by cases h; rfl
theorem dp_tup {K : PySem.W.Frag} {H : Hp} {v : V} {ds : List PyData} (h : Dq K H v (.tuple ds)) : ∃ a xs, v = .ref a ∧ PlT H a xs ∧ DqAll K H xs ds := by
  cases h with
  | tup h1 h2 => exact ⟨_, _, rfl, h1, h2⟩
theorem dp_lst {K : PySem.W.Frag} {H : Hp} {v : V} {ds : List PyData} (h : Dq K H v (.list ds)) : ∃ a xs, v = .ref a ∧ H a = some (.lst xs) ∧ DqAll K H xs ds := by
  cases h with
  | lst h1 h2 => exact ⟨_, _, rfl, h1, h2⟩

/-- .. as the library tells it -/
theorem sqT_of {K : PySem.W.Frag} {H : Hp} {a : Addr} {xs : List V} (h : PlT H a xs) : SqT K H a xs := h.sq
mutual
theorem dq_dp {K : PySem.W.Frag} {H : Hp} : ∀ (d : PyData) (v : V), Dq K H v d → L2.Dp K H v d
  | .none, _, h => by cases h; exact .non
  | .bool b, _, h => by cases h; exact .bl b
  | .int i, _, h => by cases h; exact .int i
  | .str x, _, h => by cases h; exact .str x
  | .list ds, _, h => by
    cases h with
    | lst hs ha => exact .lst (SqL.of hs) (dqAll_dp ds _ ha)
  | .tuple ds, _, h => by
    cases h with
    | tup hs ha => exact .tup hs.sq (dqAll_dp ds _ ha)
  | .dict _, _, h => by cases h
theorem dqAll_dp {K : PySem.W.Frag} {H : Hp} : ∀ (ds : List PyData) (vs : List V), DqAll K H vs ds → L2.DpAll K H vs ds
  | [], _, h => by cases h; exact .nil
  | d :: ds, _, h => by
    cases h with
    | cons h1 h2 => exact .cons (dq_dp d _ h1) (dqAll_dp ds _ h2)
end
/-! ### what a value is told as -/
inductive Sp1 where
  | dat (d : PyData)
  | val (v : V)
  | obj (P : PySem.W.Frag → Hp → V → Prop) (m : ∀ K H H' v, Same H H' → P K H v → P K H' v)
def Is (K : PySem.W.Frag) (H : Hp) (v : V) : Sp1 → Prop
  | .dat d => Dq K H v d
  | .val w => v = w
  | .obj P _ => P K H v
theorem Is.up {K : PySem.W.Frag} {H H' : Hp} {v : V} {a : Sp1} (h : Is K H v a) (e : Same H H') : Is K H' v a := by
  cases a with
  | dat d => exact Dq.up h e
  | val w => exact h
  | obj P m => exact m _ _ _ _ e h
inductive IsAll (K : PySem.W.Frag) (H : Hp) : List V → List Sp1 → Prop
  | nil : IsAll K H [] []
  | cons {v vs a as} : Is K H v a → IsAll K H vs as → IsAll K H (v :: vs) (a :: as)
theorem IsAll.up {K : PySem.W.Frag} {H H' : Hp} (e : Same H H') : ∀ {as : List Sp1} {vs : List V}, IsAll K H vs as → IsAll K H' vs as
  | _, _, .nil => .nil
  | _, _, .cons h t => .cons (h.up e) (IsAll.up e t)
theorem IsAll.dats {K : PySem.W.Frag} {H : Hp} : ∀ {ds : List PyData} {vs : List V}, IsAll K H vs (ds.map .dat) → DqAll K H vs ds
  | [], _, h => by cases h; exact .nil
  | d :: ds, _, h => by
    cases h with
    | cons h1 h2 => exact .cons h1 (IsAll.dats h2)
theorem IsAll.len {K : PySem.W.Frag} {H : Hp} : ∀ {as : List Sp1} {vs : List V}, IsAll K H vs as → vs.length = as.length
  | _, _, .nil => rfl
  | _, _, .cons _ t => by rw [List.length_cons, List.length_cons, IsAll.len t]

/-! ### the judgements by their runs -/
def WE (X : Cx) (e : Expr) : TE := fun σ H Q => ∀ (pins : List (Addr × Obj)) (s : Shared), Inv X pins σ H s → wpAny (model X.prog X.w) X.A (eval e X.env) (EP X pins σ Q) X.xe s
def WT (X : Cx) (e : Expr) : TT := fun σ H Q => ∀ (pins : List (Addr × Obj)) (s : Shared), Inv X pins σ H s → wpAny (model X.prog X.w) X.A (isTrue e X.env (eval e X.env)) (TP X pins σ Q) X.xe s
def WA (X : Cx) (es : List Expr) : TA := fun σ H Q => ∀ (pos : Pos) (pins : List (Addr × Obj)) (s : Shared), Inv X pins σ H s → wpAny (model X.prog X.w) X.A (spliced (backTo pos (starEach es X.env))) (AP X pins σ Q) X.xe s
def WS (X : Cx) (st : Stmt) : TS := fun D σ H => ∀ (pins : List (Addr × Obj)) (s : Shared), Inv X pins σ H s → wpAny (model X.prog X.w) X.A (exec st X.env) (SP X pins D) X.xe s
def WSs (X : Cx) (st : List Stmt) : TS := fun D σ H => ∀ (pins : List (Addr × Obj)) (s : Shared), Inv X pins σ H s → wpAny (model X.prog X.w) X.A (execs st X.env) (SP X pins D) X.xe s
section
variable {X : Cx} {e : Expr} {es : List Expr} {st : Stmt} {sts : List Stmt}
theorem pe_w : PE X e (WE X e) := ⟨fun pins s _ _ _ I h => h pins s I⟩
theorem pt_w : PT X e (WT X e) := ⟨fun pins s _ _ _ I h => h pins s I⟩
theorem pa_w : PA X es (WA X es) := ⟨fun pos pins s _ _ _ I h => h pos pins s I⟩
theorem ps_w : PS X st (WS X st) := ⟨fun pins s _ _ _ I h => h pins s I⟩
theorem pss_w : PSs X sts (WSs X sts) := ⟨fun pins s _ _ _ I h => h pins s I⟩
variable {σ : L2.St} {H : Hp} {Q : VK} {D : Ends}
theorem we {t : TE} (h : PE X e t) (q : t σ H Q) : WE X e σ H Q := fun pins s I => h.run pins s σ H Q I q
theorem wt {t : TT} {Q : Bool → Hp → Prop} (h : PT X e t) (q : t σ H Q) : WT X e σ H Q := fun pins s I => h.run pins s σ H Q I q
theorem wa {t : TA} {Q : List V → Hp → Prop} (h : PA X es t) (q : t σ H Q) : WA X es σ H Q := fun pos pins s I => h.run pos pins s σ H Q I q
theorem ws {t : TS} (h : PS X st t) (q : t D σ H) : WS X st D σ H := fun pins s I => h.run pins s σ H D I q
theorem wss {t : TS} (h : PSs X sts t) (q : t D σ H) : WSs X sts D σ H := fun pins s I => h.run pins s σ H D I q
theorem wss_cons (h : WS X st { D with nx := WSs X sts D } σ H) : WSs X (st :: sts) D σ H := wss (pss_cons ps_w pss_w) h
theorem wss_nil (h : D.nx σ H) : WSs X [] D σ H := wss pss_nil h
theorem wss_one (h : WS X st D σ H) : WSs X [st] D σ H := wss (pss_one ps_w) h
end

/-- e is worth a -/
def VE (X : Cx) (σ : L2.St) (Hk : Hp) (e : Expr) (a : Sp1) : Prop :=
  ∀ H, Same Hk H → ∀ Q : VK, (∀ v Hk2 H2, Ext M0 Hk H Hk2 H2 → Is X.K Hk2 v a → Q v H2) → WE X e σ H Q
def VT (X : Cx) (σ : L2.St) (Hk : Hp) (e : Expr) (b : Bool) : Prop :=
  ∀ H, Same Hk H → ∀ Q : Bool → Hp → Prop, (∀ Hk2 H2, Ext M0 Hk H Hk2 H2 → Q b H2) → WT X e σ H Q
def VA (X : Cx) (σ : L2.St) (Hk : Hp) (es : List Expr) (as : List Sp1) : Prop :=
  ∀ H, Same Hk H → ∀ Q : List V → Hp → Prop, (∀ vs Hk2 H2, Ext M0 Hk H Hk2 H2 → IsAll X.K Hk2 vs as → Q vs H2) → WA X es σ H Q
section
variable {X : Cx} {σ : L2.St} {Hk Hq : Hp} {e a b c : Expr} {es : List Expr} {x y z : Sp1} {pos : Pos}
theorem VE.up (h : VE X σ Hk e x) (k : Same Hk Hq) : VE X σ Hq e x := fun H s Q q => h H (k.trans s) Q fun v Hk2 H2 E i => by
  obtain ⟨Hq2, E2, s2⟩ := E.more k s (fun x o z => E.same _ _ (s _ _ z))
  exact q v Hq2 H2 E2 (i.up s2)
theorem VT.up {d : Bool} (h : VT X σ Hk e d) (k : Same Hk Hq) : VT X σ Hq e d := fun H s Q q => h H (k.trans s) Q fun Hk2 H2 E => by
  obtain ⟨Hq2, E2, s2⟩ := E.more k s (fun x o z => E.same _ _ (s _ _ z))
  exact q Hq2 H2 E2
theorem VA.up {xs : List Sp1} (h : VA X σ Hk es xs) (k : Same Hk Hq) : VA X σ Hq es xs := fun H s Q q => h H (k.trans s) Q fun v Hk2 H2 E i => by
  obtain ⟨Hq2, E2, s2⟩ := E.more k s (fun x o z => E.same _ _ (s _ _ z))
  exact q v Hq2 H2 E2 (i.up s2)
theorem VE.is (h : VE X σ Hk e x) (w : x = y) : VE X σ Hk e y := w ▸ h
theorem VT.is {d d' : Bool} (h : VT X σ Hk e d) (w : d = d') : VT X σ Hk e d' := w ▸ h
/-- a rule that runs on values known -/
theorem ve_of {t : TE} (h : PE X e t) (q : ∀ H, Same Hk H → ∀ Q : VK, (∀ v Hk2 H2, Ext M0 Hk H Hk2 H2 → Is X.K Hk2 v x → Q v H2) → t σ H Q) : VE X σ Hk e x :=
  fun H s Q k => we h (q H s Q k)
theorem vt_of {t : TT} {d : Bool} (h : PT X e t) (q : ∀ H, Same Hk H → ∀ Q : Bool → Hp → Prop, (∀ Hk2 H2, Ext M0 Hk H Hk2 H2 → Q d H2) → t σ H Q) : VT X σ Hk e d :=
  fun H s Q k => wt h (q H s Q k)
/-! names and constants -/
theorem ve_v (i : Nat) {v : V} {x : Str} (hv : σ[i]? = some (some v)) (hi : Is X.K Hk v y) (hN : X.N[i]? = some x := by rfl) (hvi : Vis X.env.scope x := by first | exact Or.inl rfl | exact Or.inr (Or.inl rfl) | exact Or.inr (Or.inr rfl)) (hd : (x == ("__debug__" : Str)) = false := by decide)
    (hcd : (x == ("__classdict__" : Str)) = false := by decide) : VE X σ Hk (.Name x pos) y :=
  ve_of (pe_var hN hvi hd hcd) fun H s Q k => ⟨v, hv, k v Hk H (Ext.refl s) hi⟩
theorem ve_int {i j} : VE X σ Hk (.Constant (.int i) j pos) (.dat (.int i)) := ve_of pe_int fun H s Q k => k _ Hk H (Ext.refl s) (.int i)
theorem ve_bl {d j} : VE X σ Hk (.Constant (.bool d) j pos) (.dat (.bool d)) := ve_of pe_bl fun H s Q k => k _ Hk H (Ext.refl s) (.bl d)
theorem ve_str {d j} : VE X σ Hk (.Constant (.str d) j pos) (.dat (.str d)) := ve_of pe_str fun H s Q k => k _ Hk H (Ext.refl s) (.str d)
theorem ve_non {j} : VE X σ Hk (.Constant .none j pos) (.dat .none) := ve_of pe_non fun H s Q k => k _ Hk H (Ext.refl s) .non
theorem ve_gi {x : Str} {i : Int} {t : Tok} (hm : X.mg x = some (.int i t)) (hg : Gl X x := by rfl) (hd : (x == ("__debug__" : Str)) = false := by decide) : VE X σ Hk (.Name x pos) (.dat (.int i)) :=
  ve_of (pe_glob (v := .int i) hg hm ⟨t, rfl⟩ hd) fun H s Q k => k _ Hk H (Ext.refl s) (.int i)
/-! two in a row -/
theorem VE.bin {H : Hp} {Q : VK} {r : R2} (ha : VE X σ Hk a x) (hb : VE X σ Hk b y) (s : Same Hk H) (q : ∀ v w Hk2 H2, Ext M0 Hk H Hk2 H2 → Is X.K Hk2 v x → Is X.K Hk2 w y → r v w H2 Q) : tOp r (WE X a) (WE X b) σ H Q :=
  ha H s _ fun v Hk1 H1 E1 i1 => (hb.up E1.kk) H1 E1.sub _ fun w Hk2 H2 E2 i2 => q v w Hk2 H2 (E1.trans E2) (i1.up E2.kk) i2
/-- an operator's rule on data -/
theorem ve_op {op : Operator} {r : R2} (ho : OpR X (binaryOp op) r) (ha : VE X σ Hk a x) (hb : VE X σ Hk b y)
    (q : ∀ v w Hk2 H2, Same Hk Hk2 → Same Hk2 H2 → Is X.K Hk2 v x → Is X.K Hk2 w y → ∀ Q : VK, (∀ u Hk3 H3, Ext M0 Hk2 H2 Hk3 H3 → Is X.K Hk3 u z → Q u H3) → r v w H2 Q) : VE X σ Hk (.BinOp a op b pos) z :=
  ve_of (pe_op ho pe_w pe_w) fun H s Q k => ha.bin hb s fun v w Hk2 H2 E i1 i2 => q v w Hk2 H2 E.kk E.sub i1 i2 Q fun u Hk3 H3 E3 i3 => k u Hk3 H3 (E.trans E3) i3
theorem ve_opI0 {op : Operator} {g : Int → Int → Int} {i j : Int} (ho : OpR X (binaryOp op) (rI0 fun i j => .int (g i j))) (ha : VE X σ Hk a (.dat (.int i))) (hb : VE X σ Hk b (.dat (.int j))) : VE X σ Hk (.BinOp a op b pos) (.dat (.int (g i j))) :=
  ve_op ho ha hb fun v w Hk2 H2 _ s i1 i2 Q k => ⟨i, j, dp_int i1, dp_int i2, k _ Hk2 H2 (Ext.refl s) (.int _)⟩
theorem ve_opI {op : Operator} {C : Int → Int → Prop} {g : Int → Int → Int} {i j : Int} (ho : OpR X (binaryOp op) (rI C fun i j => .int (g i j))) (ha : VE X σ Hk a (.dat (.int i))) (hb : VE X σ Hk b (.dat (.int j))) (hc : C i j) : VE X σ Hk (.BinOp a op b pos) (.dat (.int (g i j))) :=
  ve_op ho ha hb fun v w Hk2 H2 _ s i1 i2 Q k => ⟨i, j, dp_int i1, dp_int i2, hc, k _ Hk2 H2 (Ext.refl s) (.int _)⟩
theorem ve_add {i j : Int} (ha : VE X σ Hk a (.dat (.int i))) (hb : VE X σ Hk b (.dat (.int j))) : VE X σ Hk (.BinOp a .Add b pos) (.dat (.int (i + j))) := ve_opI0 op_add ha hb
theorem ve_sub {i j : Int} (ha : VE X σ Hk a (.dat (.int i))) (hb : VE X σ Hk b (.dat (.int j))) : VE X σ Hk (.BinOp a .Sub b pos) (.dat (.int (i - j))) := ve_opI0 op_sub ha hb
theorem ve_mul {i j : Int} (ha : VE X σ Hk a (.dat (.int i))) (hb : VE X σ Hk b (.dat (.int j))) (hc : CMul i j) : VE X σ Hk (.BinOp a .Mult b pos) (.dat (.int (i * j))) := ve_opI op_mul ha hb hc
theorem ve_mod {i j : Int} (ha : VE X σ Hk a (.dat (.int i))) (hb : VE X σ Hk b (.dat (.int j))) (hc : 0 < j) : VE X σ Hk (.BinOp a .Mod b pos) (.dat (.int (i % j))) := ve_opI op_mod ha hb hc
theorem ve_div {i j : Int} (ha : VE X σ Hk a (.dat (.int i))) (hb : VE X σ Hk b (.dat (.int j))) (hc : CDiv i j) : VE X σ Hk (.BinOp a .FloorDiv b pos) (.dat (.int (i / j))) := ve_opI op_fdiv ha hb hc
/-! arguments, displays -/
theorem va_nil : VA X σ Hk [] [] := fun H s Q k => wa pa_nil (k [] Hk H (Ext.refl s) .nil)
theorem va_cons {xs : List Sp1} (h : VE X σ Hk e x) (t : VA X σ Hk es xs) (hs : starEach (e :: es) X.env = (false, eval e X.env) :: starEach es X.env := by rfl) : VA X σ Hk (e :: es) (x :: xs) :=
  fun H s Q k => wa (pa_cons pe_w pa_w hs) (h H s _ fun v Hk1 H1 E1 i1 => (t.up E1.kk) H1 E1.sub _ fun vs Hk2 H2 E2 i2 => k _ Hk2 H2 (E1.trans E2) (.cons (i1.up E2.kk) i2))
theorem dp_new_tup {K : PySem.W.Frag} {H : Hp} {p : Addr} {o : Obj} {vs : List V} {ds : List PyData} (n : H p = none) (hc : o.cls = .type "tuple") (ho : o.dict = none) (h : DqAll K H vs ds) : Dq K (upd H p (.frz o (.tup vs))) (.ref p) (.tuple ds) :=
  .tup ⟨o, upd_same, hc, ho⟩ (h.up fun b o q => by rw [upd_ne (ne_of_none q n)]; exact q)
/-- a new plain tuple: what a rule that makes one hands on -/
abbrev NewT (H : Hp) (xs : List V) (Q : VK) : Prop := ∀ (p : Addr) (o : Obj), H p = none → o.cls = .type "tuple" → o.dict = none → Q (.ref p) (upd H p (.frz o (.tup xs)))
theorem newT_of {X : Cx} {pins : List (Addr × Obj)} {σ : L2.St} {H : Hp} {s : Shared} {h' : Heap} {t' : Nat} {xs : List V} {us : List Value} {Q : VK} {p : Addr} {o : Obj} (I : Inv X pins σ H s) (k : ∀ b u, s.heap.get? b = some u → h'.get? b = some u) (hp : s.heap.objs.size ≤ p) (ho : h'.get? p = some o)
    (hc : o.cls = .type "tuple") (hd : o.dict = none) (r : Vals xs us) (n : Nat) (hs : o.data = .seq us.toArray n) (hz : xs.length ≤ sizeLine) (q : NewT H xs Q) : EP X pins σ Q (.ref p) { s with heap := h', toks := t' } :=
  ⟨.ref p, upd H p (.frz o (.tup xs)), I.laid (t' := t') k hp ⟨ho, hz, us, r, o, ho, hc, n, hs⟩, rfl, q p o (I.hok.fresh hp) hc hd⟩
def tTupP (t : TA) : TE := fun σ H Q => t σ H fun xs H1 => xs.length ≤ sizeLine ∧ NewT H1 xs Q
theorem pe_tupP {X : Cx} {es : List Expr} {t : TA} {pos : Pos} {x1} (h : PA X es t) : PE X (.Tuple es x1 pos) (tTupP t) := by
  refine ⟨fun pins s σ H Q I hq => ?_⟩
  refine wpAny_Tuple_spliced (thn (h.run pos pins s σ H _ I hq) fun us s1 ⟨xs, H1, I1, r, z, q⟩ => ⟨by rw [← r.length]; exact z, ?_⟩)
  exact newT_of (t' := s1.toks) I1 (fun b u e => Heap.get?_push_of_some _ e) (Nat.le_refl _) (Heap.get?_push_size _ rfl) rfl rfl r _ rfl z q
theorem dp_new_lst {K : PySem.W.Frag} {H : Hp} {p : Addr} {vs : List V} {ds : List PyData} (n : H p = none) (h : DqAll K H vs ds) : Dq K (upd H p (.lst vs)) (.ref p) (.list ds) :=
  .lst upd_same (h.up fun b o q => by rw [upd_ne (ne_of_none q n)]; exact q)
theorem ve_tup {x1} {ds : List PyData} (h : VA X σ Hk es (ds.map .dat)) (hl : ds.length ≤ sizeLine := by first | decide | (simp only [List.length_cons, List.length_nil]; decide)) : VE X σ Hk (.Tuple es x1 pos) (.dat (.tuple ds)) :=
  ve_of (pe_tupP pa_w) fun H s Q k => h H s _ fun vs Hk1 H1 E1 i1 => by
    have hv := i1.dats
    exact ⟨by rw [hv.len]; exact hl, fun p o np hc ho => k _ (upd Hk1 p (.frz o (.tup vs))) _ (E1.trans (Ext.alloc E1.sub np)) (dp_new_tup (E1.sub.free np) hc ho hv)⟩
theorem ve_lst {ds : List PyData} (h : VA X σ Hk es (ds.map .dat)) (hl : ds.length ≤ sizeLine := by first | decide | (simp only [List.length_cons, List.length_nil]; decide)) : VE X σ Hk (.List es pos) (.dat (.list ds)) :=
  ve_of (pe_lst pa_w) fun H s Q k => h H s _ fun vs Hk1 H1 E1 i1 => by
    have hv := i1.dats
    refine ⟨by rw [hv.len]; exact hl, fun p np => k _ (upd Hk1 p (.lst vs)) _ (E1.trans (Ext.alloc E1.sub np)) (dp_new_lst (E1.sub.free np) hv)⟩
/-! items -/
theorem ve_itT {ds : List PyData} {d : PyData} {i : Nat} (ha : VE X σ Hk a (.dat (.tuple ds))) (hb : VE X σ Hk b (.dat (.int i))) (hd : ds[i]? = some d) (hs : PlainIx b := by exact fun _ _ => rfl) : VE X σ Hk (.Subscript a b pos) (.dat d) :=
  ve_of (pe_ix ix_tup pe_w pe_w hs) fun H s Q k => ha.bin hb s fun v w Hk2 H2 E i1 i2 => by
    obtain ⟨p, xs, rfl, hq, hx⟩ := dp_tup i1
    obtain ⟨u, hu, hdu⟩ := hx.at hd
    exact ⟨p, xs, i, u, rfl, dp_int i2, sqt_same E.sub hq.sq, atI_nat hu, k u Hk2 H2 E hdu⟩
theorem ve_itL {ds : List PyData} {d : PyData} {i : Nat} (ha : VE X σ Hk a (.dat (.list ds))) (hb : VE X σ Hk b (.dat (.int i))) (hd : ds[i]? = some d) (hs : PlainIx b := by exact fun _ _ => rfl) : VE X σ Hk (.Subscript a b pos) (.dat d) :=
  ve_of (pe_ix ix_list pe_w pe_w hs) fun H s Q k => ha.bin hb s fun v w Hk2 H2 E i1 i2 => by
    obtain ⟨p, xs, rfl, hq, hx⟩ := dp_lst i1
    obtain ⟨u, hu, hdu⟩ := hx.at hd
    exact ⟨p, xs, i, u, rfl, dp_int i2, SqL.of (E.sub _ _ hq), atI_nat hu, k u Hk2 H2 E hdu⟩
/-! comparisons -/
theorem ve_cmp {op : CmpOp} {r : R2} {d : Bool} (ho : OpR X (compareOp op) r) (ha : VE X σ Hk a x) (hb : VE X σ Hk b y)
    (q : ∀ v w Hk2 H2, Same Hk Hk2 → Same Hk2 H2 → Is X.K Hk2 v x → Is X.K Hk2 w y → ∀ Q : VK, Q (.bl d) H2 → r v w H2 Q) (hm : behindInMarks op b = false) : VE X σ Hk (.Compare a [op] [b] pos) (.dat (.bool d)) :=
  ve_of (pe_cmpR ho pe_w pe_w hm) fun H s Q k => ha.bin hb s fun v w Hk2 H2 E i1 i2 => q v w Hk2 H2 E.kk E.sub i1 i2 Q (k _ Hk2 H2 E (.bl d))
theorem vt_cmp {op : CmpOp} {r : R2} {d : Bool} (ho : OpR X (compareOp op) r) (ha : VE X σ Hk a x) (hb : VE X σ Hk b y)
    (q : ∀ v w Hk2 H2, Same Hk Hk2 → Same Hk2 H2 → Is X.K Hk2 v x → Is X.K Hk2 w y → ∀ Q : VK, Q (.bl d) H2 → r v w H2 Q) (hm : behindInMarks op b = false) : VT X σ Hk (.Compare a [op] [b] pos) d :=
  vt_of (pt_cmpR ho pe_w pe_w hm) fun H s Q k => ha.bin hb s fun v w Hk2 H2 E i1 i2 => q v w Hk2 H2 E.kk E.sub i1 i2 _ ⟨d, rfl, k Hk2 H2 E⟩
/-- what a comparison of two data says, by its rule -/
structure CmpD (X : Cx) (op : CmpOp) (x y : Sp1) (d : Bool) : Prop where
  run : ∃ r, OpR X (compareOp op) r ∧ ∀ v w Hk2 H2, Same Hk2 H2 → Is X.K Hk2 v x → Is X.K Hk2 w y → ∀ Q : VK, Q (.bl d) H2 → r v w H2 Q
theorem ve_c {op : CmpOp} {d : Bool} (ha : VE X σ Hk a x) (hb : VE X σ Hk b y) (h : CmpD X op x y d) (hm : behindInMarks op b = false := by first | exact nomark _ | rfl | with_unfolding_all rfl) : VE X σ Hk (.Compare a [op] [b] pos) (.dat (.bool d)) := by
  obtain ⟨r, ho, q⟩ := h.run
  exact ve_cmp ho ha hb (fun v w Hk2 H2 _ s => q v w Hk2 H2 s) hm
theorem vt_c {op : CmpOp} {d : Bool} (ha : VE X σ Hk a x) (hb : VE X σ Hk b y) (h : CmpD X op x y d) (hm : behindInMarks op b = false := by first | exact nomark _ | rfl | with_unfolding_all rfl) : VT X σ Hk (.Compare a [op] [b] pos) d := by
  obtain ⟨r, ho, q⟩ := h.run
  exact vt_cmp ho ha hb (fun v w Hk2 H2 _ s => q v w Hk2 H2 s) hm
theorem cd_lt {i j : Int} : CmpD X .Lt (.dat (.int i)) (.dat (.int j)) (decide (i < j)) := ⟨_, op_lt, fun v w _ _ _ i1 i2 Q q => ⟨i, j, dp_int i1, dp_int i2, q⟩⟩
theorem cd_le {i j : Int} : CmpD X .LtE (.dat (.int i)) (.dat (.int j)) (decide (i ≤ j)) := ⟨_, op_le, fun v w _ _ _ i1 i2 Q q => ⟨i, j, dp_int i1, dp_int i2, q⟩⟩
theorem cd_gt {i j : Int} : CmpD X .Gt (.dat (.int i)) (.dat (.int j)) (decide (j < i)) := ⟨_, op_gt, fun v w _ _ _ i1 i2 Q q => ⟨i, j, dp_int i1, dp_int i2, q⟩⟩
theorem cd_ge {i j : Int} : CmpD X .GtE (.dat (.int i)) (.dat (.int j)) (decide (j ≤ i)) := ⟨_, op_ge, fun v w _ _ _ i1 i2 Q q => ⟨i, j, dp_int i1, dp_int i2, q⟩⟩
theorem cd_eqI {i j : Int} : CmpD X .Eq (.dat (.int i)) (.dat (.int j)) (decide (i = j)) := ⟨_, op_eq, fun v w _ _ _ i1 i2 Q q => by
  rw [dp_int i1, dp_int i2]
  exact ⟨rfl, by rw [show decide (V.int i = V.int j) = decide (i = j) by simp]; exact q⟩⟩
theorem cd_neI {i j : Int} : CmpD X .NotEq (.dat (.int i)) (.dat (.int j)) (!decide (i = j)) := ⟨_, op_ne, fun v w _ _ _ i1 i2 Q q => by
  rw [dp_int i1, dp_int i2]
  exact ⟨rfl, by rw [show decide (V.int i = V.int j) = decide (i = j) by simp]; exact q⟩⟩
theorem cd_eqS {i j : Str} : CmpD X .Eq (.dat (.str i)) (.dat (.str j)) (decide (i = j)) := ⟨_, op_eq, fun v w _ _ _ i1 i2 Q q => by
  rw [dp_str i1, dp_str i2]
  exact ⟨rfl, by rw [show decide (V.str i = V.str j) = decide (i = j) by simp]; exact q⟩⟩
theorem cd_neS {i j : Str} : CmpD X .NotEq (.dat (.str i)) (.dat (.str j)) (!decide (i = j)) := ⟨_, op_ne, fun v w _ _ _ i1 i2 Q q => by
  rw [dp_str i1, dp_str i2]
  exact ⟨rfl, by rw [show decide (V.str i = V.str j) = decide (i = j) by simp]; exact q⟩⟩
theorem cd_eqD {d f : PyData} (hu : X.A.units + 64 < cLine) (sd : SeqAt.shaped d = true) (sf : SeqAt.shaped f = true) : CmpD X .Eq (.dat d) (.dat f) (PyData.eqv d f) :=
  ⟨_, op_eqD hu, fun v w _ _ s i1 i2 Q q => ⟨d, f, dq_dp _ _ (Dq.up i1 s), dq_dp _ _ (Dq.up i2 s), sd, sf, q⟩⟩
theorem cd_neD {d f : PyData} (hu : X.A.units + 64 < cLine) (sd : SeqAt.shaped d = true) (sf : SeqAt.shaped f = true) : CmpD X .NotEq (.dat d) (.dat f) (!PyData.eqv d f) :=
  ⟨_, op_neD hu, fun v w _ _ s i1 i2 Q q => ⟨d, f, dq_dp _ _ (Dq.up i1 s), dq_dp _ _ (Dq.up i2 s), sd, sf, q⟩⟩
theorem cd_isN {d : PyData} {k : Bool} (h : k = match d with | .none => true | _ => false) : CmpD X .Is (.dat d) (.dat .none) k := ⟨_, op_isN, fun v w _ _ s i1 i2 Q q => ⟨dp_none i2, by
  have e : decide (v = V.non) = k := by
    subst h
    cases d <;> cases i1 <;> simp
  rw [e]; exact q⟩⟩
theorem cd_notN {d : PyData} {k : Bool} (h : k = match d with | .none => false | _ => true) : CmpD X .IsNot (.dat d) (.dat .none) k := ⟨_, op_notN, fun v w _ _ s i1 i2 Q q => ⟨dp_none i2, by
  have e : (!decide (v = V.non)) = k := by
    subst h
    cases d <;> cases i1 <;> simp
  rw [e]; exact q⟩⟩
/-- a op b op' c -/
theorem vt_chain {op op' : CmpOp} {d d' : Bool} (ha : VE X σ Hk a x) (hb : VE X σ Hk b y) (hc : VE X σ Hk c z) (h : CmpD X op x y d) (h' : CmpD X op' y z d') (hm : lastMarks [op, op'] [b, c] = false := by with_unfolding_all rfl) : VT X σ Hk (.Compare a [op, op'] [b, c] pos) (d && d') := by
  obtain ⟨r, ho, q⟩ := h.run
  obtain ⟨r', ho', q'⟩ := h'.run
  refine vt_of (pt_chain ho ho' pe_w pe_w pe_w hm) fun H s Q k => ?_
  refine ha H s _ fun v Hk1 H1 E1 i1 => (hb.up E1.kk) H1 E1.sub _ fun w Hk2 H2 E2 i2 => q v w Hk2 H2 E2.sub (i1.up E2.kk) i2 _ ⟨d, rfl, ?_⟩
  cases d with
  | true => exact iteT ((hc.up (E1.kk.trans E2.kk)) H2 E2.sub _ fun u Hk3 H3 E3 i3 => q' w u Hk3 H3 E3.sub (i2.up E3.kk) i3 _ ⟨d', rfl, k Hk3 H3 ((E1.trans E2).trans E3)⟩)
  | false => exact iteF ⟨false, rfl, k Hk2 H2 (E1.trans E2)⟩
theorem ve_chain {op op' : CmpOp} {d d' : Bool} (ha : VE X σ Hk a x) (hb : VE X σ Hk b y) (hc : VE X σ Hk c z) (h : CmpD X op x y d) (h' : CmpD X op' y z d') (hm : lastMarks [op, op'] [b, c] = false := by with_unfolding_all rfl) : VE X σ Hk (.Compare a [op, op'] [b, c] pos) (.dat (.bool (d && d'))) := by
  obtain ⟨r, ho, q⟩ := h.run
  obtain ⟨r', ho', q'⟩ := h'.run
  refine ve_of (pe_chain ho ho' pe_w pe_w pe_w hm) fun H s Q k => ?_
  refine ha H s _ fun v Hk1 H1 E1 i1 => (hb.up E1.kk) H1 E1.sub _ fun w Hk2 H2 E2 i2 => q v w Hk2 H2 E2.sub (i1.up E2.kk) i2 _ ⟨d, rfl, ?_⟩
  cases d with
  | true => exact iteT ((hc.up (E1.kk.trans E2.kk)) H2 E2.sub _ fun u Hk3 H3 E3 i3 => q' w u Hk3 H3 E3.sub (i2.up E3.kk) i3 _ (k _ Hk3 H3 ((E1.trans E2).trans E3) (.bl d')))
  | false => exact iteF (k _ Hk2 H2 (E1.trans E2) (.bl false))
/-! tests -/
theorem vt_val {d : Bool} (h : VE X σ Hk e (.dat (.bool d))) (he : ∀ whole, isTrue e X.env whole = (do let v ← whole; standAt e.pos; holding [v] (truthy v)) := by intro _; rfl) : VT X σ Hk e d :=
  vt_of (pt_val pe_w he) fun H s Q k => h H s _ fun v Hk1 H1 E1 i1 => ⟨d, dp_bool i1, k Hk1 H1 E1⟩
theorem vt_not {d : Bool} (h : VT X σ Hk e d) : VT X σ Hk (.UnaryOp .Not e pos) (!d) :=
  vt_of (pt_not pt_w) fun H s Q k => h H s _ fun Hk1 H1 E1 => k Hk1 H1 E1
/-- the parts of and, or as tests -/
def VW (X : Cx) (σ : L2.St) (Hk : Hp) (e : Expr) (b : Bool) : Prop := ∃ t, PW X e t ∧ ∀ H, Same Hk H → ∀ Q : Bool → Hp → Prop, (∀ Hk2 H2, Ext M0 Hk H Hk2 H2 → Q b H2) → t σ H Q
theorem vw_one {op d} (h : VT X σ Hk e d) : VW X σ Hk (.BoolOp op [e] pos) d := by
  cases op with
  | And => exact ⟨_, pw_and1 pt_w, fun H s Q k => h H s Q k⟩
  | Or => exact ⟨_, pw_or1 pt_w, fun H s Q k => h H s Q k⟩
theorem vw_and {d d' : Bool} (h : VT X σ Hk e d) (t : d = true → VW X σ Hk (.BoolOp .And (a :: es) pos) d') : VW X σ Hk (.BoolOp .And (e :: a :: es) pos) (d && d') := by
  cases d with
  | false =>
    refine ⟨_, pw_and (tB' := fun σ H Q => ∀ (whole : Sem Value) (pins : List (Addr × Obj)) (s : Shared), Inv X pins σ H s → wpAny (model X.prog X.w) X.A (isTrue (.BoolOp .And (a :: es) pos) X.env whole) (TP X pins σ Q) X.xe s) pt_w ⟨fun wh pins s σ H Q I h => h wh pins s I⟩, fun H s Q k => h H s _ fun Hk1 H1 E1 => iteF (k Hk1 H1 E1)⟩
  | true =>
    obtain ⟨u, hu, qu⟩ := t rfl
    exact ⟨_, pw_and pt_w hu, fun H s Q k => h H s _ fun Hk1 H1 E1 => iteT (by
      exact qu H1 (E1.kk.trans E1.sub) Q fun Hk2 H2 E2 => by
        obtain ⟨Hq, E3, _⟩ := E2.more E1.kk E1.sub (fun x o z => E2.same _ _ (E1.sub _ _ z))
        exact k Hq H2 (E1.trans E3))⟩
theorem vw_or {d d' : Bool} (h : VT X σ Hk e d) (t : d = false → VW X σ Hk (.BoolOp .Or (a :: es) pos) d') : VW X σ Hk (.BoolOp .Or (e :: a :: es) pos) (d || d') := by
  cases d with
  | true =>
    refine ⟨_, pw_or (tB' := fun σ H Q => ∀ (whole : Sem Value) (pins : List (Addr × Obj)) (s : Shared), Inv X pins σ H s → wpAny (model X.prog X.w) X.A (isTrue (.BoolOp .Or (a :: es) pos) X.env whole) (TP X pins σ Q) X.xe s) pt_w ⟨fun wh pins s σ H Q I h => h wh pins s I⟩, fun H s Q k => h H s _ fun Hk1 H1 E1 => iteT (k Hk1 H1 E1)⟩
  | false =>
    obtain ⟨u, hu, qu⟩ := t rfl
    exact ⟨_, pw_or pt_w hu, fun H s Q k => h H s _ fun Hk1 H1 E1 => iteF (by
      exact qu H1 (E1.kk.trans E1.sub) Q fun Hk2 H2 E2 => by
        obtain ⟨Hq, E3, _⟩ := E2.more E1.kk E1.sub (fun x o z => E2.same _ _ (E1.sub _ _ z))
        exact k Hq H2 (E1.trans E3))⟩
theorem vt_w {d : Bool} (h : VW X σ Hk e d) : VT X σ Hk e d := by
  obtain ⟨t, ht, q⟩ := h
  exact vt_of ht.pt q
/-- .. as values -/
theorem ve_one {op} (h : VE X σ Hk e x) : VE X σ Hk (.BoolOp op [e] pos) x := ve_of (pe_one pe_w) fun H s Q k => h H s Q k
theorem ve_and {d d' : Bool} (h : VE X σ Hk e (.dat (.bool d))) (t : d = true → VE X σ Hk (.BoolOp .And (a :: es) pos) (.dat (.bool d'))) : VE X σ Hk (.BoolOp .And (e :: a :: es) pos) (.dat (.bool (d && d'))) :=
  ve_of (pe_and pe_w pe_w) fun H s Q k => h H s _ fun v Hk1 H1 E1 i1 => ⟨d, dp_bool i1, by
    cases d with
    | true => exact iteT ((t rfl).up E1.kk H1 E1.sub _ fun w Hk2 H2 E2 i2 => k w Hk2 H2 (E1.trans E2) i2)
    | false => exact iteF (k _ Hk1 H1 E1 (.bl false))⟩
theorem ve_or {d d' : Bool} (h : VE X σ Hk e (.dat (.bool d))) (t : d = false → VE X σ Hk (.BoolOp .Or (a :: es) pos) (.dat (.bool d'))) : VE X σ Hk (.BoolOp .Or (e :: a :: es) pos) (.dat (.bool (d || d'))) :=
  ve_of (pe_or pe_w pe_w) fun H s Q k => h H s _ fun v Hk1 H1 E1 i1 => ⟨d, dp_bool i1, by
    cases d with
    | false => exact iteF ((t rfl).up E1.kk H1 E1.sub _ fun w Hk2 H2 E2 i2 => k w Hk2 H2 (E1.trans E2) i2)
    | true => exact iteT (k _ Hk1 H1 E1 (.bl true))⟩
theorem ve_if {d : Bool} (h : VT X σ Hk c d) (h1 : d = true → VE X σ Hk a x) (h2 : d = false → VE X σ Hk b x) : VE X σ Hk (.IfExp c a b pos) x :=
  ve_of (pe_ifExp pt_w pe_w pe_w) fun H s Q k => h H s _ fun Hk1 H1 E1 => by
    cases d with
    | true => exact iteT ((h1 rfl).up E1.kk H1 E1.sub _ fun w Hk2 H2 E2 i2 => k w Hk2 H2 (E1.trans E2) i2)
    | false => exact iteF ((h2 rfl).up E1.kk H1 E1.sub _ fun w Hk2 H2 E2 i2 => k w Hk2 H2 (E1.trans E2) i2)
/-! len, a list's copy, a tuple of a list -/
theorem ve_lenL {x : Str} {p : Pos} {ds : List PyData} (hm : X.mg x = none) (hb : bootBuiltins x = some (.builtin "len")) (h : VE X σ Hk e (.dat (.list ds))) (hg : Gl X x := by rfl) (hn : x ≠ "__name__" := by decide) (hdb : (x == ("__debug__" : Str)) = false := by decide)
    (he : starEach [e] X.env = (false, eval e X.env) :: starEach [] X.env := by rfl) : VE X σ Hk (.Call (.Name x p) [e] [] pos) (.dat (.int ds.length)) :=
  ve_of (pe_callB call_len_seq hg hm hb (pa_cons pe_w pa_nil he) hn hdb he) fun H s Q k => h H s _ fun v Hk1 H1 E1 i1 => by
    obtain ⟨a, xs, rfl, hq, hx⟩ := dp_lst i1
    exact ⟨a, xs, rfl, .inl (SqL.of (E1.sub _ _ hq)), by rw [hx.len]; exact k _ Hk1 H1 E1 (.int _)⟩
theorem ve_lenT {x : Str} {p : Pos} {ds : List PyData} (hm : X.mg x = none) (hb : bootBuiltins x = some (.builtin "len")) (h : VE X σ Hk e (.dat (.tuple ds))) (hg : Gl X x := by rfl) (hn : x ≠ "__name__" := by decide) (hdb : (x == ("__debug__" : Str)) = false := by decide)
    (he : starEach [e] X.env = (false, eval e X.env) :: starEach [] X.env := by rfl) : VE X σ Hk (.Call (.Name x p) [e] [] pos) (.dat (.int ds.length)) :=
  ve_of (pe_callB call_len_seq hg hm hb (pa_cons pe_w pa_nil he) hn hdb he) fun H s Q k => h H s _ fun v Hk1 H1 E1 i1 => by
    obtain ⟨a, xs, rfl, hq, hx⟩ := dp_tup i1
    exact ⟨a, xs, rfl, .inr (sqt_same E1.sub hq.sq), by rw [hx.len]; exact k _ Hk1 H1 E1 (.int _)⟩
end
end DL
end
section
set_option Elab.async false
set_option linter.all false
set_option maxRecDepth 100000
set_option maxHeartbeats 4000000
/-! The data layer: what is walked, comprehensions, calls, statements, loops. -/
namespace DL
open PySem PySem.Spec PyProof.Rows L2

section
variable {X : Cx} {σ : L2.St} {Hk Hq H : Hp} {e a b c : Expr} {es : List Expr} {x y z : Sp1} {pos : Pos}

/-! ### targets -/
theorem g_name {j : Nat} {v : V} {Q : L2.St → Hp → Prop} (h : Q (σ.set j (some v)) H) : gName j v σ H Q := h
theorem g_tup2 {K : PySem.W.Frag} {i j : Nat} {v : V} {d1 d2 : PyData} {Q : L2.St → Hp → Prop} (h : Dq K Hk v (.tuple [d1, d2])) (s : Same Hk H)
    (k : ∀ v1 v2, Dq K Hk v1 d1 → Dq K Hk v2 d2 → Q ((σ.set i (some v1)).set j (some v2)) H) : gTup K 2 (gCons (gName i) (gCons (gName j) gNil)) v σ H Q := by
  obtain ⟨p, xs, rfl, hq, hx⟩ := dp_tup h
  cases hx with
  | cons h1 r =>
    cases r with
    | cons h2 r2 =>
      cases r2
      exact ⟨p, _, rfl, sqt_same s hq.sq, rfl, _, _, rfl, _, _, rfl, rfl, k _ _ h1 h2⟩
theorem g_tup3 {K : PySem.W.Frag} {i j l : Nat} {v : V} {d1 d2 d3 : PyData} {Q : L2.St → Hp → Prop} (h : Dq K Hk v (.tuple [d1, d2, d3])) (s : Same Hk H)
    (k : ∀ v1 v2 v3, Dq K Hk v1 d1 → Dq K Hk v2 d2 → Dq K Hk v3 d3 → Q (((σ.set i (some v1)).set j (some v2)).set l (some v3)) H) : gTup K 3 (gCons (gName i) (gCons (gName j) (gCons (gName l) gNil))) v σ H Q := by
  obtain ⟨p, xs, rfl, hq, hx⟩ := dp_tup h
  cases hx with
  | cons h1 r =>
    cases r with
    | cons h2 r2 =>
      cases r2 with
      | cons h3 r3 =>
        cases r3
        exact ⟨p, _, rfl, sqt_same s hq.sq, rfl, _, _, rfl, _, _, rfl, _, _, rfl, rfl, k _ _ _ h1 h2 h3⟩
theorem g_tup4 {K : PySem.W.Frag} {i j l m : Nat} {v : V} {d1 d2 d3 d4 : PyData} {Q : L2.St → Hp → Prop} (h : Dq K Hk v (.tuple [d1, d2, d3, d4])) (s : Same Hk H)
    (k : ∀ v1 v2 v3 v4, Dq K Hk v1 d1 → Dq K Hk v2 d2 → Dq K Hk v3 d3 → Dq K Hk v4 d4 → Q ((((σ.set i (some v1)).set j (some v2)).set l (some v3)).set m (some v4)) H) : gTup K 4 (gCons (gName i) (gCons (gName j) (gCons (gName l) (gCons (gName m) gNil)))) v σ H Q := by
  obtain ⟨p, xs, rfl, hq, hx⟩ := dp_tup h
  cases hx with
  | cons h1 r =>
    cases r with
    | cons h2 r2 =>
      cases r2 with
      | cons h3 r3 =>
        cases r3 with
        | cons h4 r4 =>
          cases r4
          exact ⟨p, _, rfl, sqt_same s hq.sq, rfl, _, _, rfl, _, _, rfl, _, _, rfl, _, _, rfl, rfl, k _ _ _ _ h1 h2 h3 h4⟩

/-! ### what is walked, as data -/
structure JOk (K : PySem.W.Frag) (J : It) (Hk : Hp) (ds : List PyData) : Prop where
  go : ∀ i H, Same Hk H → i < ds.length → J.go i H
  stop : ∀ i H, Same Hk H → ds.length ≤ i → J.stop i H
  yld : ∀ i H x H', i < ds.length → J.yld i H x H' → ∀ Hq, Same Hk Hq → Same Hq H → ∃ d Hq', ds[i]? = some d ∧ Ext M0 Hq H Hq' H' ∧ Dq K Hq' x d
def VI (X : Cx) (σ : L2.St) (Hk : Hp) (tg iter : Expr) (ds : List PyData) : Prop :=
  ∃ wi, PI X tg iter wi ∧ ∀ H, Same Hk H → ∀ R : It → Hp → Prop, (∀ J Hk2 H2, Ext M0 Hk H Hk2 H2 → JOk X.K J Hk2 ds → R J H2) → wi σ H R
theorem jok_list {K : PySem.W.Frag} {p : Addr} {xs : List V} {ds : List PyData} (hq : SqL K Hk p xs) (hx : DqAll K Hk xs ds) : JOk K (Itl K p) Hk ds where
  go := fun i H s hi => by
    obtain ⟨d, hd⟩ : ∃ d, ds[i]? = some d := ⟨ds[i], List.getElem?_eq_getElem hi⟩
    obtain ⟨v, hv, _⟩ := hx.at hd
    exact ⟨xs, v, s.seq hq, hv⟩
  stop := fun i H s hi => ⟨xs, s.seq hq, by rw [hx.len]; exact hi⟩
  yld := fun i H x H' hi h Hq k s => by
    obtain ⟨rfl, f⟩ := h
    obtain ⟨d, hd⟩ : ∃ d, ds[i]? = some d := ⟨ds[i], List.getElem?_eq_getElem hi⟩
    obtain ⟨v, hv, dv⟩ := hx.at hd
    have e := (f xs ((k.trans s).seq hq)).symm.trans hv
    cases e
    exact ⟨d, Hq, hd, Ext.refl s, dv.up k⟩
theorem jok_tup {K : PySem.W.Frag} {p : Addr} {xs : List V} {ds : List PyData} (hq : SqT K Hk p xs) (hx : DqAll K Hk xs ds) : JOk K (Itt K p) Hk ds where
  go := fun i H s hi => by
    obtain ⟨d, hd⟩ : ∃ d, ds[i]? = some d := ⟨ds[i], List.getElem?_eq_getElem hi⟩
    obtain ⟨v, hv, _⟩ := hx.at hd
    exact ⟨xs, v, sqt_same s hq, hv⟩
  stop := fun i H s hi => ⟨xs, sqt_same s hq, by rw [hx.len]; exact hi⟩
  yld := fun i H x H' hi h Hq k s => by
    obtain ⟨rfl, f⟩ := h
    obtain ⟨d, hd⟩ : ∃ d, ds[i]? = some d := ⟨ds[i], List.getElem?_eq_getElem hi⟩
    obtain ⟨v, hv, dv⟩ := hx.at hd
    have e := (f xs (sqt_same (k.trans s) hq)).symm.trans hv
    cases e
    exact ⟨d, Hq, hd, Ext.refl s, dv.up k⟩
def intsD (n : Nat) : List PyData := (List.range n).map fun (i : Nat) => PyData.int (i : Int)
theorem intsD_len (n : Nat) : (intsD n).length = n := by unfold intsD; simp
theorem intsD_at {n i : Nat} (h : i < n) : (intsD n)[i]? = some (.int (i : Int)) := by unfold intsD; simp [h]
theorem jok_range {K : PySem.W.Frag} {n : Nat} : JOk K (Itr 0 n) Hk (intsD n) where
  go := fun i H s hi => by rw [intsD_len] at hi; exact hi
  stop := fun i H s hi => by rw [intsD_len] at hi; exact hi
  yld := fun i H x H' hi h Hq k s => by
    obtain ⟨rfl, rfl⟩ := h
    rw [intsD_len] at hi
    refine ⟨_, Hq, intsD_at hi, Ext.refl s, ?_⟩
    have e : (0 : Int) + (i : Int) = (i : Int) := Int.zero_add _
    rw [e]
    exact .int _
theorem vi_list {tg : Expr} {ds : List PyData} (h : VE X σ Hk e (.dat (.list ds))) : VI X σ Hk tg e ds :=
  ⟨_, pi_list pe_w, fun H s R k => h H s _ fun v Hk1 H1 E1 i1 => by
    obtain ⟨p, xs, rfl, hq, hx⟩ := dp_lst i1
    exact ⟨p, rfl, ⟨xs, SqL.of (E1.sub _ _ hq)⟩, k _ Hk1 H1 E1 (jok_list (SqL.of hq) hx)⟩⟩
theorem vi_tup {tg : Expr} {ds : List PyData} (h : VE X σ Hk e (.dat (.tuple ds))) : VI X σ Hk tg e ds :=
  ⟨_, pi_tup pe_w, fun H s R k => h H s _ fun v Hk1 H1 E1 i1 => by
    obtain ⟨p, xs, rfl, hq, hx⟩ := dp_tup i1
    exact ⟨p, rfl, ⟨xs, sqt_same E1.sub hq.sq⟩, k _ Hk1 H1 E1 (jok_tup hq.sq hx)⟩⟩
theorem vi_range {tg : Expr} {n : Nat} {p : Pos} (hm : X.mg "range" = none) (h : VE X σ Hk e (.dat (.int n))) (hn : n ≤ 1000000) (hg : Gl X "range" := by rfl) (hs : starEach [e] X.env = [(false, eval e X.env)] := by rfl) : VI X σ Hk tg (.Call (.Name "range" p) [e] [] pos) (intsD n) :=
  ⟨_, pi_range1 hg hm (pa_cons pe_w pa_nil hs) hs, fun H s R k => h H s _ fun v Hk1 H1 E1 i1 => by
    have e1 := dp_int i1
    subst e1
    exact ⟨n, rfl, by omega, by omega, k _ Hk1 H1 E1 jok_range⟩⟩
/-- pairs of two tuples of one length -/
def pairsD (as bs : List PyData) : List PyData := (as.zip bs).map fun p => .tuple [p.1, p.2]
theorem pairsD_at {as bs : List PyData} {i : Nat} {a b : PyData} (ha : as[i]? = some a) (hb : bs[i]? = some b) : (pairsD as bs)[i]? = some (.tuple [a, b]) := by
  unfold pairsD
  rw [List.getElem?_map, List.getElem?_zip_eq_some (z := (a, b)) |>.mpr ⟨ha, hb⟩]
  rfl

/-! ### comprehensions -/
abbrev BK (X : Cx) (scope : Scope) (s : Shared) (H : Hp) (C : Addr) (cl : List (Str × Addr)) (fp : List Addr) : Cx := X.blk s H scope (compEnvC scope cl C X.env) fp
def WEb (X : Cx) (scope : Scope) (e : Expr) : TE := fun σ H Q => ∀ (s : Shared) (H0 : Hp) (C : Addr) (cl : List (Str × Addr)) (fp : List Addr), WE (BK X scope s H0 C cl fp) e σ H Q
def VTs (X : Cx) (σ : L2.St) (Hk : Hp) (ifs : List Expr) (b : Bool) : Prop := (ifs = [] ∧ b = true) ∨ ∃ c, ifs = [c] ∧ VT X σ Hk c b
def WTs (X : Cx) (ifs : List Expr) : TT := fun σ H Q => ∀ (pins : List (Addr × Obj)) (s : Shared), Inv X pins σ H s →
  wpAny (model X.prog X.w) X.A (forIn ifs true fun c r => if r = true then do let ok ← isTrue c X.env (eval c X.env); pure (ForInStep.yield ok) else pure (ForInStep.yield r)) (TP X pins σ Q) X.xe s
def WTb (X : Cx) (scope : Scope) (ifs : List Expr) : TT := fun σ H Q => ∀ (s : Shared) (H0 : Hp) (C : Addr) (cl : List (Str × Addr)) (fp : List Addr), WTs (BK X scope s H0 C cl fp) ifs σ H Q
theorem WTs.of {ifs : List Expr} {b : Bool} {Q : Bool → Hp → Prop} (h : VTs X σ Hk ifs b) (s : Same Hk H) (k : ∀ Hk2 H2, Ext M0 Hk H Hk2 H2 → Q b H2) : WTs X ifs σ H Q := by
  rcases h with ⟨rfl, rfl⟩ | ⟨c, rfl, h⟩
  · exact fun pins s' I => pts_nil.run pins s' σ H Q I (k Hk H (Ext.refl s))
  · exact fun pins s' I => (pts_one (pt_w (X := X) (e := c))).run pins s' σ H Q I (h H s Q k)
/-- the turns of a comprehension, its list at Dl; behind it Qd -/
theorem lc_run {J : It} {g : TG} {tt : TT} {te : TE} {vs : List Nat} {K : PySem.W.Frag} {ds : List PyData} {Dl : Addr} {Qd : Hp → Prop} (s : Same Hk H) (jo : JOk K J Hk ds) (f : PyData → Option PyData) (hz : ds.length ≤ 1000000) (nD : H Dl = none)
    (hE : ∀ (i : Nat) d v Hk' H', ds[i]? = some d → Same Hk Hk' → Same Hk' H' → Dq K Hk' v d → ∀ R : Hp → Prop, (f d = none → ∀ Hk2 H2, Ext M0 Hk' H' Hk2 H2 → R H2) → (∀ r, f d = some r → ∀ y Hk2 H2, Ext M0 Hk' H' Hk2 H2 → Dq K Hk2 y r → ∃ acc, H2 Dl = some (.lst acc) ∧ acc.length < sizeLine ∧ R (upd H2 Dl (.lst (acc ++ [y])))) →
      g v (wipe σ vs) H' fun σ2 H2 => wipe σ2 vs = wipe σ vs ∧ tt σ2 H2 fun b H3 => if b = true then te σ2 H3 fun y H4 => ∃ acc, H4 Dl = some (.lst acc) ∧ acc.length < sizeLine ∧ R (upd H4 Dl (.lst (acc ++ [y]))) else R H3)
    (hd : ∀ acc Hk2 H2, Ext M0 Hk H Hk2 H2 → Hk2 Dl = some (.lst acc) → DqAll K Hk2 acc (ds.filterMap f) → Qd H2) :
    ∃ W : Nat → Nat → Hp → Prop, (∃ m, W 0 m (upd H Dl (.lst []))) ∧ ∀ i m H', W i m H' →
      (J.stop i H' ∧ Qd H') ∨ (J.go i H' ∧ ∃ Nx : Hp → Prop, (∀ H'', Nx H'' → ∃ m', m' < m ∧ W (i + 1) m' H'') ∧ ∀ x H'', J.yld i H' x H'' → g x (wipe σ vs) H'' fun σ2 H2 => wipe σ2 vs = wipe σ vs ∧ tt σ2 H2 fun b H3 =>
        if b = true then te σ2 H3 fun y H4 => ∃ acc, H4 Dl = some (.lst acc) ∧ acc.length < sizeLine ∧ Nx (upd H4 Dl (.lst (acc ++ [y]))) else Nx H3) := by
  refine ⟨fun i m H' => m = ds.length - i ∧ i ≤ ds.length ∧ ∃ Hk' acc, Ext M0 Hk H Hk' H' ∧ Hk' Dl = none ∧ H' Dl = some (.lst acc) ∧ DqAll K Hk' acc ((ds.take i).filterMap f), ⟨_, rfl, Nat.zero_le _, Hk, [], Ext.allocM s nD, s.free nD, upd_same, .nil⟩, ?_⟩
  rintro i m H' ⟨rfl, hi, Hk', acc, E, nk, ea, da⟩
  by_cases hlt : i < ds.length
  · refine .inr ⟨jo.go i H' (E.kk.trans E.sub) hlt, fun H3 => ∃ Hk3 acc3, Ext M0 Hk H Hk3 H3 ∧ Hk3 Dl = none ∧ H3 Dl = some (.lst acc3) ∧ DqAll K Hk3 acc3 ((ds.take (i + 1)).filterMap f), fun H3 ⟨Hk3, acc3, a⟩ => ⟨ds.length - (i + 1), by omega, rfl, hlt, Hk3, acc3, a⟩, fun v H2 y => ?_⟩
    obtain ⟨d, Hq', hd', E2, dv⟩ := jo.yld i H' v H2 hlt y Hk' E.kk E.sub
    have et : (ds.take (i + 1)).filterMap f = (ds.take i).filterMap f ++ (f d).toList := by
      rw [List.take_add_one, hd', List.filterMap_append]
      cases h : f d <;> simp [h]
    have tD : H' Dl ≠ none := by rw [ea]; exact fun q => by cases q
    have nk2 : Hq' Dl = none := E2.unk nk tD
    have ea2 : H2 Dl = some (.lst acc) := E2.same _ _ ea
    refine hE i d v Hq' H2 hd' (E.kk.trans E2.kk) E2.sub dv _ (fun hn Hk3 H3 E3 => ?_) (fun r hr y' Hk3 H3 E3 dy => ?_)
    · have t2 : H2 Dl ≠ none := by rw [ea2]; exact fun q => by cases q
      refine ⟨Hk3, acc, (E.trans E2).trans E3, E3.unk nk2 t2, E3.same _ _ ea2, ?_⟩
      rw [et, hn, show (none : Option PyData).toList = [] from rfl, List.append_nil]
      exact da.up (E2.kk.trans E3.kk)
    · have t2 : H2 Dl ≠ none := by rw [ea2]; exact fun q => by cases q
      have ea3 : H3 Dl = some (.lst acc) := E3.same _ _ ea2
      have hl : acc.length ≤ 1000000 := by
        rw [da.len]
        exact Nat.le_trans (List.length_filterMap_le _ _) (Nat.le_trans (by rw [List.length_take]; omega) hz)
      refine ⟨acc, ea3, Nat.lt_of_le_of_lt hl (by rw [sizeLine_eq]; decide), Hk3, acc ++ [y'], ((E.trans E2).trans E3).loc nD (E3.unk nk2 t2), E3.unk nk2 t2, upd_same, ?_⟩
      rw [et, hr]
      exact (da.up (E2.kk.trans E3.kk)).app (.cons dy .nil)
  · have e : i = ds.length := by omega
    subst e
    refine .inl ⟨jo.stop _ H' (E.kk.trans E.sub) (Nat.le_refl _), ?_⟩
    rw [List.take_length] at da
    have s2 : Same Hk' (upd Hk' Dl (.lst acc)) := fun a o q => by rw [upd_ne (ne_of_none q nk)]; exact q
    refine hd acc (upd Hk' Dl (.lst acc)) H' ⟨E.kk.trans s2, fun a o q => ?_, E.keep, fun a q => ?_, E.there⟩ upd_same (da.up s2)
    · by_cases z : a = Dl
      · subst z; rw [upd_same] at q; rw [ea]; exact q
      · rw [upd_ne z] at q; exact E.sub _ _ q
    · have z : a ≠ Dl := fun z => q (by rw [z]; exact nD)
      rw [upd_ne z]
      exact E.new a q
theorem ve_lc {elt tg iter : Expr} {ifs : List Expr} {scope : Scope} {own : List (Str × Nat)} {g : TG} {ds : List PyData} (hc : X.calm = true) (hN : X.N.Nodup) (hi : VI X σ Hk tg iter ds) (f : PyData → Option PyData) (hz : ds.length ≤ 1000000) (ok : BlkOk X.N X.env.scope scope own)
    (hg : ∀ (s : Shared) (H : Hp) (C : Addr) (cl : List (Str × Addr)) (fp : List Addr), PG (BK X scope s H C cl fp) tg g)
    (hE : ∀ (i : Nat) d v Hk' H', ds[i]? = some d → Same Hk Hk' → Same Hk' H' → Dq X.K Hk' v d → ∃ σ2, (∀ Q : L2.St → Hp → Prop, Q σ2 H' → g v (wipe σ (own.map (·.2))) H' Q) ∧ wipe σ2 (own.map (·.2)) = wipe σ (own.map (·.2)) ∧ ∀ (s : Shared) (H0 : Hp) (C : Addr) (cl : List (Str × Addr)) (fp : List Addr), VTs (BK X scope s H0 C cl fp) σ2 Hk' ifs (f d).isSome ∧ ∀ r, f d = some r → VE (BK X scope s H0 C cl fp) σ2 Hk' elt (.dat r))
    (hs : ∀ x, foldedSetIterable iter X.env x = pure x := by intro _; rfl) : VE X σ Hk (.ListComp elt [⟨tg, iter, ifs, 0⟩] scope pos) (.dat (.list (ds.filterMap f))) := by
  obtain ⟨wi, hpi, q⟩ := hi
  refine ve_of (pe_lc (tt := WTb X scope ifs) (te := WEb X scope elt) hc hN hpi ok hg (fun s H C cl fp => ⟨fun pins s' σ' H' Q I h => h s H C cl fp pins s' I⟩) (fun s H C cl fp => ⟨fun pins s' σ' H' Q I h => h s H C cl fp pins s' I⟩) hs) fun H s Q k => q H s _ fun J Hk1 H1 E1 jo => ?_
  intro Dl nD
  refine lc_run E1.sub jo f hz nD (fun i d v Hk' H' hd k1 s1 dv R r0 r1 => ?_) (fun acc Hk2 H2 E2 eD dA => k _ Hk2 H2 (E1.trans E2) (.lst eD dA))
  obtain ⟨σ2, hg2, hw, hb⟩ := hE i d v Hk' H' hd (E1.kk.trans k1) s1 dv
  refine hg2 _ ⟨hw, fun s0 H0 C cl fp => (hb s0 H0 C cl fp).1 |> fun t => WTs.of t s1 fun Hk2 H2 E2 => ?_⟩
  cases hf : f d with
  | none => exact iteF (r0 hf Hk2 H2 E2)
  | some r => exact iteT fun s0' H0' C' cl' fp' => ((hb s0' H0' C' cl' fp').2 r hf).up E2.kk H2 E2.sub _ fun y Hk3 H3 E3 dy => r1 r hf y Hk3 H3 (E2.trans E3) dy

/-! ### calls of defs by their promise -/
/-- a def that changes nothing: as in, r out where G as r -/
def spD (K : PySem.W.Frag) (G : List Sp1 → Sp1 → Prop) : Sp := fun vs H Q _ => ∃ Hk as r, Same Hk H ∧ IsAll K Hk vs as ∧ G as r ∧ ∀ v Hk2 H2, Ext M0 Hk H Hk2 H2 → Is K Hk2 v r → Q v H2
/-- a def whose last argument is a list that it lengthens by what es tells -/
def spM (K : PySem.W.Frag) (G : List Sp1 → Sp1 → List PyData → Prop) : Sp := fun vs H Q _ => ∃ Hk as r l ws ds es, Same Hk H ∧ Hk l = none ∧ H l = some (.lst ws) ∧ DqAll K Hk ws ds ∧ ds.length + es.length < 100000 ∧ IsAll K Hk vs (as ++ [.val (.ref l)]) ∧ G as r es ∧
  ∀ v Hk2 H2 ws', Ext (M1 l) Hk H Hk2 H2 → H2 l = some (.lst ws') → DqAll K Hk2 ws' (ds ++ es) → Is K Hk2 v r → Q v H2
theorem ve_call {k : Nat} {f : Addr} {fd : FuncData} {ps : List Str} {G : List Sp1 → Sp1 → Prop} {n : Str} {p : Pos} {as : List Sp1} {r : Sp1} (F : FnOk X.prog X.w X.K X.mg X.base CX0 k f fd ps (spD X.K G)) (hr : Room k X.A) (hm : X.mg n = some (.ref f)) (hk : PySem.W.keepIn X.K (.ref f) = true) (hb : Binds X.K fd ps [])
    (ha : VA X σ Hk (e :: es) as) (g : G as r) (hg : Gl X n := by rfl) (hd : (n == ("__debug__" : Str)) = false := by decide) (he : starEach (e :: es) X.env = (false, eval e X.env) :: starEach es X.env := by rfl) (hpl : (backTo pos (starEach es X.env)).any (·.1) = false := by rfl) : VE X σ Hk (.Call (.Name n p) (e :: es) [] pos) r :=
  ve_of (pe_call F hr hg hm hk hb .nil pass0 pa_w (hdb := hd) (he := he) (hpl := hpl)) fun H s Q q => ha H s _ fun vs Hk1 H1 E1 i1 => by
    refine ⟨Hk1, as, r, E1.sub, ?_, g, fun v Hk2 H2 E2 i2 => q v Hk2 H2 (E1.trans E2) i2⟩
    rw [List.append_nil]
    exact i1

/-! ### statements -/
variable {D : Ends} {st : Stmt} {rest A B : List Stmt}
theorem xs_set {i : Nat} {n : Str} {pn : Pos} (s : Same Hk H) (h : VE X σ Hk e x) (k : ∀ v Hk2 H2, Ext M0 Hk H Hk2 H2 → Is X.K Hk2 v x → WSs X rest D (σ.set i (some v)) H2)
    (hN : X.N.Nodup) (hi : X.N[i]? = some n := by rfl) (hx : Loc X.env.scope n := by first | exact Or.inl rfl | exact Or.inr rfl) (hs : swapsWith e (some (.Name n pn)) pos.line X.env = pure false := by rfl) (hf : X.fn n = true ∨ X.env.scope.names.lookup n = some .local := by first | exact .inl rfl | exact .inr rfl) :
    WSs X (.Assign [.Name n pn] e pos :: rest) D σ H := wss_cons (ws (ps_set hN hi hx pe_w hs hf) (h H s _ k))
/-- a target of several names -/
theorem xs_asg {tg : Expr} {g : TG} (s : Same Hk H) (h : VE X σ Hk e x) (hg : PG X tg g) (k : ∀ v Hk2 H2, Ext M0 Hk H Hk2 H2 → Is X.K Hk2 v x → g v σ H2 (WSs X rest D))
    (hs : swapsWithSole [tg] e pos.line X.env = pure false := by rfl) (hw : swappedStores [tg] e X.env = pure none := by rfl) (h1 : (assignEach [tg] X.env).map (·.2) = [assign tg X.env] := by rfl) :
    WSs X (.Assign [tg] e pos :: rest) D σ H := wss_cons (ws (ps_asg pe_w hg hs hw h1) (h H s _ k))
theorem xs_ret (s : Same Hk H) (h : VE X σ Hk e x) (k : ∀ v Hk2 H2, Ext M0 Hk H Hk2 H2 → Is X.K Hk2 v x → D.rt v H2) : WSs X (.Return (some e) pos :: rest) D σ H :=
  wss_cons (ws (ps_ret pe_w) (h H s _ k))
theorem xs_if {d : Bool} (s : Same Hk H) (h : VT X σ Hk c d) (h1 : d = true → ∀ Hk2 H2, Ext M0 Hk H Hk2 H2 → WSs X A { D with nx := WSs X rest D } σ H2) (h2 : d = false → ∀ Hk2 H2, Ext M0 Hk H Hk2 H2 → WSs X B { D with nx := WSs X rest D } σ H2) :
    WSs X (.If c A B pos :: rest) D σ H := wss_cons (ws (ps_if pt_w pss_w pss_w) (h H s _ fun Hk2 H2 E => by
      cases d with
      | true => exact iteT (h1 rfl Hk2 H2 E)
      | false => exact iteF (h2 rfl Hk2 H2 E)))
theorem xs_ifT (s : Same Hk H) (h : VT X σ Hk c true) (k : ∀ Hk2 H2, Ext M0 Hk H Hk2 H2 → WSs X A { D with nx := WSs X rest D } σ H2) : WSs X (.If c A B pos :: rest) D σ H := xs_if s h (fun _ => k) fun z => by cases z
theorem xs_ifF (s : Same Hk H) (h : VT X σ Hk c false) (k : ∀ Hk2 H2, Ext M0 Hk H Hk2 H2 → WSs X B { D with nx := WSs X rest D } σ H2) : WSs X (.If c A B pos :: rest) D σ H := xs_if s h (fun z => by cases z) fun _ => k
/-- an if without else whose test falls -/
theorem xs_ifN (s : Same Hk H) (h : VT X σ Hk c false) (k : ∀ Hk2 H2, Ext M0 Hk H Hk2 H2 → WSs X rest D σ H2) : WSs X (.If c A [] pos :: rest) D σ H := xs_ifF s h fun Hk2 H2 E => wss_nil (k Hk2 H2 E)
/-- l.append(e) -/
theorem xs_app {apos cpos : Pos} {l : Addr} {vs : List V} (s : Same Hk H) (ho : VE X σ Hk a (.val (.ref l))) (hl : H l = some (.lst vs)) (hn : vs.length < 1000000) (h : VE X σ Hk e x)
    (k : ∀ v Hk2 H2, Ext M0 Hk H Hk2 H2 → Is X.K Hk2 v x → WSs X rest D σ (upd H2 l (.lst (vs ++ [v]))))
    (hpa : PA X [e] (tCons (WE X e) tNil) := by exact pa_cons pe_w pa_nil) (hs : swapsWith (.Call (.Attribute a "append" apos) [e] [] cpos) none pos.line X.env = pure false := by rfl)
    (hpe : PE X (.Call (.Attribute a "append" apos) [e] [] cpos) (tBM X.K "list" rAppend (WE X a) (tCons (WE X e) tNil)) := by exact pe_bm PySem.F.plainAttrs_list PySem.F.slot_list_append PySem.F.type_list_append mt_append pe_w (pa_cons pe_w pa_nil)) :
    WSs X (.Expr (.Call (.Attribute a "append" apos) [e] [] cpos) pos :: rest) D σ H :=
  wss_cons (ws (ps_expr hpe hs) (ho H s _ fun o Hk1 H1 E1 i1 => by
    have e1 : o = .ref l := i1
    subst e1
    refine ⟨.inl ⟨rfl, vs, SqL.of (E1.same _ _ hl)⟩, ?_⟩
    refine (h.up E1.kk) H1 E1.sub _ fun v Hk2 H2 E2 i2 => ?_
    exact ⟨l, vs, v, rfl, rfl, (E1.trans E2).same _ _ hl, Nat.lt_of_lt_of_le hn (by rw [sizeLine_eq]; decide), k v Hk2 H2 (E1.trans E2) i2⟩))

theorem xs_setLc {elt tg iter : Expr} {ifs : List Expr} {scope : Scope} {own : List (Str × Nat)} {g : TG} {ds : List PyData} {i : Nat} {n : Str} {pn spos : Pos} (s : Same Hk H) (hc : X.calm = true) (hN : X.N.Nodup) (hi : VI X σ Hk tg iter ds) (f : PyData → Option PyData) (hz : ds.length ≤ 1000000)
    (hy : X.N[i]? = some n) (hyl : X.env.scope.names.lookup n = some .local) (hsw : swapsWith (.ListComp elt [⟨tg, iter, ifs, 0⟩] scope pos) (some (.Name n pn)) spos.line X.env = pure true) (ok : BlkOk X.N X.env.scope scope own)
    (hg : ∀ (s : Shared) (H : Hp) (C : Addr) (cl : List (Str × Addr)) (fp : List Addr), PG (BK X scope s H C cl fp) tg g)
    (hE : ∀ (i : Nat) d v Hk' H', ds[i]? = some d → Same Hk Hk' → Same Hk' H' → Dq X.K Hk' v d → ∃ σ2, (∀ Q : L2.St → Hp → Prop, Q σ2 H' → g v (wipe σ (own.map (·.2))) H' Q) ∧ wipe σ2 (own.map (·.2)) = wipe σ (own.map (·.2)) ∧ ∀ (s : Shared) (H0 : Hp) (C : Addr) (cl : List (Str × Addr)) (fp : List Addr), VTs (BK X scope s H0 C cl fp) σ2 Hk' ifs (f d).isSome ∧ ∀ r, f d = some r → VE (BK X scope s H0 C cl fp) σ2 Hk' elt (.dat r))
    (k : ∀ v Hk2 H2, Ext M0 Hk H Hk2 H2 → Dq X.K Hk2 v (.list (ds.filterMap f)) → WSs X rest D (σ.set i (some v)) H2)
    (hs : ∀ x, foldedSetIterable iter X.env x = pure x := by intro _; rfl) : WSs X (.Assign [.Name n pn] (.ListComp elt [⟨tg, iter, ifs, 0⟩] scope pos) spos :: rest) D σ H := by
  obtain ⟨wi, hpi, q⟩ := hi
  refine wss_cons (ws (ps_setLc (i := i) (tt := WTb X scope ifs) (te := WEb X scope elt) hc hN hy hyl hsw hpi ok hg (fun s H C cl fp => ⟨fun pins s' σ' H' Q I h => h s H C cl fp pins s' I⟩) (fun s H C cl fp => ⟨fun pins s' σ' H' Q I h => h s H C cl fp pins s' I⟩) hs) (q H s _ fun J Hk1 H1 E1 jo => ?_))
  intro Dl nD
  refine lc_run E1.sub jo f hz nD (fun i d v Hk' H' hd k1 s1 dv R r0 r1 => ?_) (fun acc Hk2 H2 E2 eD dA => k _ Hk2 H2 (E1.trans E2) (.lst eD dA))
  obtain ⟨σ2, hg2, hw, hb⟩ := hE i d v Hk' H' hd (E1.kk.trans k1) s1 dv
  refine hg2 _ ⟨hw, fun s0 H0 C cl fp => (hb s0 H0 C cl fp).1 |> fun t => WTs.of t s1 fun Hk2 H2 E2 => ?_⟩
  cases hf : f d with
  | none => exact iteF (r0 hf Hk2 H2 E2)
  | some r => exact iteT fun s0' H0' C' cl' fp' => ((hb s0' H0' C' cl' fp').2 r hf).up E2.kk H2 E2.sub _ fun y Hk3 H3 E3 dy => r1 r hf y Hk3 H3 (E2.trans E3) dy

/-! ### loops -/
theorem xs_for {tg iter : Expr} {body : List Stmt} {g : TG} {ds : List PyData} (s : Same Hk H) (hi : VI X σ Hk tg iter ds) (hg : PG X tg g) (hc : X.calm = true) (hp : PassesOwn (model X.prog X.w) X.A X.env X.xe)
    (P : Nat → L2.St → Hp → Hp → Prop) (h0 : ∀ Hk2 H2, Ext M0 Hk H Hk2 H2 → P 0 σ Hk2 H2)
    (hs : ∀ i d v σ' Hk0 H0 Hk' H', ds[i]? = some d → Same Hk Hk0 → Same Hk0 H0 → P i σ' Hk0 H0 → Ext M0 Hk0 H0 Hk' H' → Dq X.K Hk' v d →
      g v σ' H' fun σ2 H2 => WSs X body { D with nx := fun σ3 H3 => ∃ Hk3, Same Hk0 Hk3 ∧ Same Hk3 H3 ∧ P (i + 1) σ3 Hk3 H3, ct := fun σ3 H3 => ∃ Hk3, Same Hk0 Hk3 ∧ Same Hk3 H3 ∧ P (i + 1) σ3 Hk3 H3, bk := WSs X rest D } σ2 H2)
    (hd : ∀ σ' Hk' H', Same Hk Hk' → Same Hk' H' → P ds.length σ' Hk' H' → WSs X rest D σ' H')
    (hf : ∀ x, foldedSetIterable iter X.env x = pure x := by intro _; rfl) : WSs X (.For tg iter body [] pos :: rest) D σ H := by
  obtain ⟨wi, hpi, q⟩ := hi
  refine wss_cons (ws (ps_for hp hc hpi hg pss_w hf) (q H s _ fun J Hk1 H1 E1 jo => ?_))
  refine ⟨fun i m σ' H' => m = ds.length - i ∧ i ≤ ds.length ∧ ∃ Hk', Same Hk1 Hk' ∧ Same Hk' H' ∧ P i σ' Hk' H', ⟨_, rfl, Nat.zero_le _, Hk1, Same.refl _, E1.sub, h0 Hk1 H1 E1⟩, ?_⟩
  rintro i m σ' H' ⟨rfl, hi, Hk', k1, s1, p⟩
  by_cases hlt : i < ds.length
  · refine .inr ⟨jo.go i H' (k1.trans s1) hlt, fun σ3 H3 => ∃ Hk3, Same Hk' Hk3 ∧ Same Hk3 H3 ∧ P (i + 1) σ3 Hk3 H3, fun σ3 H3 ⟨Hk3, a1, a2, a3⟩ => ⟨ds.length - (i + 1), by omega, rfl, hlt, Hk3, k1.trans a1, a2, a3⟩, fun v H2 y => ?_⟩
    obtain ⟨d, Hq', hd', E2, dv⟩ := jo.yld i H' v H2 hlt y Hk' k1 s1
    exact hs i d v σ' Hk' H' Hq' H2 hd' (E1.kk.trans k1) s1 p E2 dv
  · have e : i = ds.length := by omega
    subst e
    exact .inl ⟨jo.stop _ H' (k1.trans s1) (Nat.le_refl _), hd σ' Hk' H' (E1.kk.trans k1) s1 p⟩
end
end DL
end
section
set_option Elab.async false
set_option linter.all false
set_option maxRecDepth 100000
set_option maxHeartbeats 4000000
/-! The data layer: dicts of the written part, membership, slices and sums of tuples and lists, raises that are never reached. -/
namespace DL
open PySem PySem.Spec PyProof.Rows L2
section
variable {X : Cx} {σ : L2.St} {Hk Hq H : Hp} {e a b c : Expr} {es : List Expr} {x y z : Sp1} {pos : Pos}
theorem VE.isB {d d' : Bool} (h : VE X σ Hk e (.dat (.bool d))) (w : d = d') : VE X σ Hk e (.dat (.bool d')) := w ▸ h
theorem VE.isD {d d' : PyData} (h : VE X σ Hk e (.dat d)) (w : d = d') : VE X σ Hk e (.dat d') := w ▸ h
/-- a global that is an object of the written part -/
theorem ve_gr {n : Str} {p : Addr} (hm : X.mg n = some (.ref p)) (hg : Gl X n := by rfl) (hd : (n == ("__debug__" : Str)) = false := by decide) : VE X σ Hk (.Name n pos) (.val (.ref p)) :=
  ve_of (pe_glob (v := .ref p) hg hm rfl hd) fun H s Q k => k _ Hk H (Ext.refl s) rfl
theorem cd_inK {d : Addr} {des : Array DictEntry} {n : Nat} {w : Str} {r : Option Value} (D : KDict X.K X.w d des n) (h : PySem.W.nsIn X.K d w = some r) : CmpD X .In (.dat (.str w)) (.val (.ref d)) r.isSome :=
  ⟨_, op_in_kd D, fun v u _ _ _ i1 i2 Q q => ⟨w, r, dp_str i1, i2, h, q⟩⟩
theorem cd_notInK {d : Addr} {des : Array DictEntry} {n : Nat} {w : Str} {r : Option Value} (D : KDict X.K X.w d des n) (h : PySem.W.nsIn X.K d w = some r) : CmpD X .NotIn (.dat (.str w)) (.val (.ref d)) (!r.isSome) :=
  ⟨_, op_notIn_kd D, fun v u _ _ _ i1 i2 Q q => ⟨w, r, dp_str i1, i2, h, q⟩⟩
theorem ve_itK {d : Addr} {w : Str} {i : Int} (ha : VE X σ Hk a (.val (.ref d))) (hb : VE X σ Hk b (.dat (.str w))) (h : KDct X.K X.w d w (.int i)) (hs : PlainIx b := by exact fun _ _ => rfl) : VE X σ Hk (.Subscript a b pos) (.dat (.int i)) :=
  ve_of (pe_ix ix_kdict pe_w pe_w hs) fun H s Q k => ha.bin hb s fun v u Hk2 H2 E i1 i2 => ⟨d, w, .int i, i1, dp_str i2, h, k _ Hk2 H2 E (.int i)⟩
/-! membership among flat data -/
def flatD : PyData → Bool
  | .none => true | .bool _ => true | .int _ => true | .str _ => true | _ => false
theorem flat_of {K : PySem.W.Frag} {v : V} {d : PyData} (h : Dq K H v d) (f : flatD d = true) : flatV v = true := by
  cases h <;> first | rfl | cases f
theorem flat_all {K : PySem.W.Frag} : ∀ {ds : List PyData} {vs : List V}, DqAll K H vs ds → ds.all flatD = true → vs.all flatV = true
  | [], _, h, _ => by cases h; rfl
  | d :: ds, _, h, f => by
    cases h with
    | cons h1 h2 =>
      rw [List.all_cons, Bool.and_eq_true] at f
      rw [List.all_cons, flat_of h1 f.1, flat_all h2 f.2]
      rfl
theorem inV_ints {K : PySem.W.Frag} {i : Int} : ∀ {ns : List Int} {vs : List V}, DqAll K H vs (ns.map .int) → inV (.int i) vs = decide (i ∈ ns)
  | [], _, h => by cases h; simp [inV]
  | n :: ns, _, h => by
    cases h with
    | cons h1 h2 =>
      have e := dp_int h1
      subst e
      have ih := inV_ints (i := i) h2
      unfold inV at ih ⊢
      rw [List.any_cons, ih]
      have e2 : eqV (.int n) (.int i) = decide (n = i) := by
        show (n == i) = decide (n = i)
        rw [Bool.eq_iff_iff]
        simp only [beq_iff_eq, decide_eq_true_eq]
      rw [e2, Bool.eq_iff_iff]
      simp only [Bool.or_eq_true, decide_eq_true_eq, List.mem_cons]
      exact ⟨fun q => q.elim (fun z => .inl z.symm) .inr, fun q => q.elim (fun z => .inl z.symm) .inr⟩
theorem inV_strs {K : PySem.W.Frag} {i : Str} : ∀ {ns : List Str} {vs : List V}, DqAll K H vs (ns.map .str) → inV (.str i) vs = decide (i ∈ ns)
  | [], _, h => by cases h; simp [inV]
  | n :: ns, _, h => by
    cases h with
    | cons h1 h2 =>
      have e := dp_str h1
      subst e
      have ih := inV_strs (i := i) h2
      unfold inV at ih ⊢
      rw [List.any_cons, ih]
      have e2 : eqV (.str n) (.str i) = decide (n = i) := by
        show (n == i) = decide (n = i)
        rw [Bool.eq_iff_iff]
        simp only [beq_iff_eq, decide_eq_true_eq]
      rw [e2, Bool.eq_iff_iff]
      simp only [Bool.or_eq_true, decide_eq_true_eq, List.mem_cons]
      exact ⟨fun q => q.elim (fun z => .inl z.symm) .inr, fun q => q.elim (fun z => .inl z.symm) .inr⟩
theorem flat_ints (ns : List Int) : (ns.map PyData.int).all flatD = true := by simp [flatD]
theorem flat_strs (ns : List Str) : (ns.map PyData.str).all flatD = true := by simp [flatD]
theorem cd_notInLI {i : Int} {ns : List Int} : CmpD X .NotIn (.dat (.int i)) (.dat (.list (ns.map .int))) (decide (i ∉ ns)) := ⟨_, op_notIn_seq, fun v w Hk2 H2 s i1 i2 Q q => by
  have e := dp_int i1
  subst e
  obtain ⟨p, xs, rfl, hq, hx⟩ := dp_lst i2
  refine ⟨p, xs, rfl, .inl (SqL.of (s _ _ hq)), rfl, flat_all hx (flat_ints ns), ?_⟩
  rw [inV_ints hx]
  have e2 : (if true = true then !decide (i ∈ ns) else decide (i ∈ ns)) = decide (i ∉ ns) := by simp
  rw [e2]
  exact q⟩
theorem cd_inTS {i : Str} {ns : List Str} : CmpD X .In (.dat (.str i)) (.dat (.tuple (ns.map .str))) (decide (i ∈ ns)) := ⟨_, op_in_seq, fun v w Hk2 H2 s i1 i2 Q q => by
  have e := dp_str i1
  subst e
  obtain ⟨p, xs, rfl, hq, hx⟩ := dp_tup i2
  refine ⟨p, xs, rfl, .inr (sqt_same s hq.sq), rfl, flat_all hx (flat_strs ns), ?_⟩
  rw [inV_strs hx]
  have e2 : (if false = true then !decide (i ∈ ns) else decide (i ∈ ns)) = decide (i ∈ ns) := by simp
  rw [e2]
  exact q⟩
end
end DL
end
section
set_option Elab.async false
set_option linter.all false
set_option maxRecDepth 100000
set_option maxHeartbeats 4000000
/-! The text by places, and what the walk asks of what the top has written. -/
namespace Tx
open PySem PySem.Spec PyProof.Rows L2 DL
def topS (i : Nat) : Stmt := PySem.Challenge.pw_stridewell_k10_whole_both_of_some.main.body.getD i (.Pass ⟨0, 0, 0, 0⟩)
abbrev sIsGuesser : Stmt := topS 11
abbrev sNeedGuesser : Stmt := topS 12
abbrev sFirst : Stmt := topS 13
abbrev sStrided : Stmt := topS 14
abbrev sPaired : Stmt := topS 15
abbrev sStepped : Stmt := topS 16
abbrev sGuesses : Stmt := topS 17
abbrev sNeedSetting : Stmt := topS 25
abbrev sIsDeed : Stmt := topS 26
abbrev sNeedRow : Stmt := topS 27
abbrev sHouse : Stmt := inClass (topS 29) 0
abbrev sBegun : Stmt := topS 30
abbrev sLaid : Stmt := topS 31
abbrev sCome : Stmt := topS 32
abbrev sAsked : Stmt := topS 33
abbrev sStarted : Stmt := topS 34
abbrev sGone : Stmt := topS 35
abbrev sIdle : Stmt := topS 36
abbrev sRun : Stmt := inClass (topS 38) 0
abbrev sDoDeed : Stmt := inClass (topS 38) 1
abbrev sNeedAll : Stmt := topS 39
abbrev sStory : Stmt := topS 40
abbrev sNeedWeights : Stmt := topS 46
abbrev sTurnCost : Stmt := topS 47
abbrev sBothBehind : Stmt := topS 48
abbrev sNeedRows : Stmt := topS 49
abbrev sWorst : Stmt := topS 50
abbrev sTaken : Stmt := topS 52
abbrev sLGuesser : Stmt := topS 53
abbrev sLSetting : Stmt := topS 54
abbrev sLPlaces : Stmt := topS 55
abbrev sLDeeds : Stmt := topS 56
abbrev sSame : Stmt := topS 57
abbrev sLaw : Stmt := topS 58
/-- a def of the top: its function, its name, its binding -/
structure Df (K : PySem.W.Frag) (mg : Str → Option Value) (n : Str) (st : Stmt) (ps : List Str) (f : Addr) (fd : FuncData) : Prop where
  F : Fun K n n st f fd
  g : mg n = some (.ref f)
  b : Binds K fd ps []
/-- the entries of a dict of the written part whose values are numbers -/
structure KI (K : PySem.W.Frag) (w : World) (mg : Str → Option Value) (n : Str) (d : Addr) (its : List (Str × Int)) : Prop where
  g : mg n = some (.ref d)
  k : ∃ es m, KDict K w d es m
  i : ∀ p ∈ its, ∃ t, PySem.W.nsIn K d p.1 = some (some (.int p.2 t))
theorem KI.has {K : PySem.W.Frag} {w : World} {mg : Str → Option Value} {n : Str} {d : Addr} {its : List (Str × Int)} (h : KI K w mg n d its) {x : Str} {i : Int} (m : (x, i) ∈ its) : KDct K w d x (.int i) := by
  obtain ⟨es, m', D⟩ := h.k
  obtain ⟨t, e⟩ := h.i _ m
  exact ⟨es, m', _, D.at_, D.lit, e, t, rfl⟩
def sorts : List (Str × Int) := [("none", 1), ("next", 2), ("stride", 2), ("pairs", 2), ("both", 3)]
def mostOf : List (Str × Int) := [("next", 3), ("stride", 3), ("pairs", 2)]
def CI (mg : Str → Option Value) (n : Str) (i : Int) : Prop := ∃ t, mg n = some (.int i t)
/-- what the walk asks of the top besides the defs -/
structure Tp (K : PySem.W.Frag) (w : World) (mg : Str → Option Value) : Prop where
  len : mg "len" = none
  range : mg "range" = none
  zip : mg "zip" = none
  dict : mg "dict" = none
  tuple : mg "tuple" = none
  list : mg "list" = none
  sorted : mg "sorted" = none
  int : mg "int" = none
  min : mg "min" = none
  sorts : ∃ d, KI K w mg "SORTS" d sorts
  mostOf : ∃ d, KI K w mg "MOST_OF" d mostOf
  within : CI mg "MOST_WITHIN" 3
  mPlaces : CI mg "MOST_PLACES" 32
  mNumber : CI mg "MOST_NUMBER" 99
  mRoom : CI mg "MOST_ROOM" 8
  mLate : CI mg "MOST_LATE" 4
  mWay : CI mg "MOST_WAY" 4
  mDeeds : CI mg "MOST_DEEDS" 100
  mWeight : CI mg "MOST_WEIGHT" 9
  mAsked : CI mg "MOST_ASKED" 4
  mLength : CI mg "MOST_LENGTH" 7
  mRows : CI mg "MOST_ROWS" 1024
section
variable {X : Cx} {σ : L2.St} {Hk H : Hp} {e : Expr} {es : List Expr} {pos : Pos}
theorem ve_gc {n : Str} {i : Int} (h : CI X.mg n i) (hg : Gl X n := by rfl) (hd : (n == ("__debug__" : Str)) = false := by decide) : VE X σ Hk (.Name n pos) (.dat (.int i)) := by
  obtain ⟨t, h⟩ := h
  exact ve_gi h hg hd
theorem ve_f {k : Nat} {n : Str} {st : Stmt} {ps : List Str} {f : Addr} {fd : FuncData} {G : List Sp1 → Sp1 → Prop} {p : Pos} {as : List Sp1} {r : Sp1} (Fd : Df X.K X.mg n st ps f fd) (F : FnOk X.prog X.w X.K X.mg X.base CX0 k f fd ps (spD X.K G)) (hr : Room k X.A)
    (ha : VA X σ Hk (e :: es) as) (g : G as r) (hg : Gl X n := by rfl) (hd : (n == ("__debug__" : Str)) = false := by decide) (he : starEach (e :: es) X.env = (false, eval e X.env) :: starEach es X.env := by rfl) (hpl : (backTo pos (starEach es X.env)).any (·.1) = false := by rfl) : VE X σ Hk (.Call (.Name n p) (e :: es) [] pos) r :=
  ve_call F hr Fd.g Fd.F.kp Fd.b ha g hg hd he hpl
end
/-- a def's promise to be worth r of as: its body -/
theorem ok_of {P : Program} {w : World} {K : PySem.W.Frag} {mg : Str → Option Value} {base : Heap} {n : Str} {st : Stmt} {ps N : List Str} {f : Addr} {fd : FuncData} {G : List Sp1 → Sp1 → Prop} {k : Nat} (Fd : Fun K n n st f fd) (S : FnScope N ps (defScope st)) (len : ∀ as r, G as r → as.length = ps.length)
    (body : ∀ (cdv : Value) (A : Around) (outer : List Env) (s : Shared) (H Hk : Hp) (vs : List V) (as : List Sp1) (r : Sp1) (Q : VK), Room k (A.deeper (envOfC n (defScope st) s.heap.objs.size f cdv)) → Same Hk H → IsAll K Hk vs as → G as r → (∀ v Hk2 H2, Ext M0 Hk H Hk2 H2 → Is K Hk2 v r → Q v H2) →
      WSs (cxOf CX0 P w K mg base N n (defScope st) f cdv A outer s H E0).nox (defBody st) { nx := fun _ H' => Q .non H', rt := Q } (start N vs) H) : FnOk P w K mg base CX0 (k + 1) f fd ps (spD K G) := by
  have hE : ∀ E : XK, ∀ cdv A outer s H, (cxOf CX0 P w K mg base N n (defScope st) f cdv A outer s H E).nox = (cxOf CX0 P w K mg base N n (defScope st) f cdv A outer s H E0).nox := fun _ _ _ _ _ _ => rfl
  refine Fd.ok S (fun vs H Q E h => ?_) (fun cdv A outer s H vs Q E hr h => ?_)
  · obtain ⟨Hk, as, r, _, h, g, _⟩ := h
    rw [h.len, len as r g]
  · obtain ⟨Hk, as, r, s1, h, g, q⟩ := h
    refine ⟨_, pss_w, ?_⟩
    rw [hE E]
    exact body cdv A outer s H Hk vs as r Q hr s1 h g q
end Tx
end
section
set_option Elab.async false
set_option linter.all false
set_option maxRecDepth 100000
set_option maxHeartbeats 4000000
/-! The program as plain functions over plain data. -/
namespace Mi
open PySem

/-! ### guessers, and what they know -/
inductive Gs where
  | none
  | next (n : Nat)
  | stride (n : Nat)
  | pairs (n : Nat)
  | both (a b : Gs)
  deriving DecidableEq
inductive Kn where
  | str (last : Option Int) (far times : Int)
  | prs (last : Option Int) (kn : List (Int × List Int))
  | both (a b : Kn)
  deriving DecidableEq
def Gs.enc : Gs → PyData
  | .none => .tuple [.str "none"]
  | .next n => .tuple [.str "next", .int n]
  | .stride n => .tuple [.str "stride", .int n]
  | .pairs n => .tuple [.str "pairs", .int n]
  | .both a b => .tuple [.str "both", a.enc, b.enc]
def encO : Option Int → PyData
  | .none => .none
  | .some i => .int i
def encI (l : List Int) : List PyData := l.map .int
def encE (p : Int × List Int) : PyData := .tuple [.int p.1, .tuple (encI p.2)]
def Kn.enc : Kn → PyData
  | .str l f t => .tuple [encO l, .int f, .int t]
  | .prs l kn => .tuple [encO l, .tuple (kn.map encE)]
  | .both a b => .tuple [a.enc, b.enc]
/-- a guesser within so many others -/
def Gs.ok : Nat → Gs → Prop
  | w, .none => w ≤ 3
  | w, .next n => w ≤ 3 ∧ 1 ≤ n ∧ n ≤ 3
  | w, .stride n => w ≤ 3 ∧ 1 ≤ n ∧ n ≤ 3
  | w, .pairs n => w ≤ 3 ∧ 1 ≤ n ∧ n ≤ 2
  | w, .both a b => w ≤ 3 ∧ a.ok (w + 1) ∧ b.ok (w + 1)
def first : Gs → Kn
  | .both a b => .both (first a) (first b)
  | .stride _ => .str .none 0 0
  | _ => .prs .none []
/-- what is put at a key, the keys rising -/
def ins (q : Int) (v : List Int) : List (Int × List Int) → List (Int × List Int)
  | [] => [(q, v)]
  | (k, w) :: r => if q < k then (q, v) :: (k, w) :: r else if q = k then (q, v) :: r else (k, w) :: ins q v r
def at_ (kn : List (Int × List Int)) (q : Int) : List Int := (kn.lookup q).getD []
def strided (trust : Nat) (l : Option Int) (far0 times0 : Int) (p : Int) : Kn × List Int :=
  match l with
  | .none => (.str (some p) 0 0, [])
  | .some q =>
    let t := if p - q = far0 then times0 + 1 else 1
    (.str (some p) (p - q) t, if p - q ≠ 0 ∧ (trust : Int) ≤ t then [p + (p - q)] else [])
def paired (many : Nat) (l : Option Int) (kn : List (Int × List Int)) (p : Int) : Kn × List Int :=
  let kn' := match l with
    | .none => kn
    | .some q => ins q (p :: ((at_ kn q).filter (fun x => decide (x ≠ p))).take (many - 1)) kn
  (.prs (some p) kn', at_ kn' p)
def nexts (n : Nat) (p : Int) : List Int := (List.range n).map fun (k : Nat) => p + (k : Int) + 1
def union (mine theirs : List Int) : List Int := mine ++ theirs.filter (fun x => decide (x ∉ mine))
def adv : Gs → Kn → Int → Kn × List Int
  | .none, k, _ => (k, [])
  | .next n, k, p => (k, nexts n p)
  | .stride n, .str l f t, p => strided n l f t p
  | .pairs n, .prs l kn, p => paired n l kn p
  | .both a b, .both ka kb, p => (.both (adv a ka p).1 (adv b kb p).1, union (adv a ka p).2 (adv b kb p).2)
  | _, k, _ => (k, [])
/-- keys that rise -/
def Rising : List (Int × List Int) → Prop
  | [] => True
  | (k, _) :: r => (∀ q ∈ r, k < q.1) ∧ Rising r
/-- a guesser's own knowledge -/
def Fits : Gs → Kn → Prop
  | .none, k => k = .prs .none []
  | .next _, k => k = .prs .none []
  | .stride _, .str _ _ _ => True
  | .pairs _, .prs _ kn => Rising kn ∧ kn.length ≤ 100
  | .both a b, .both ka kb => Fits a ka ∧ Fits b kb
  | _, _ => False

/-! ### the shelf and the way -/
structure Hs where
  places : Int
  room : Int
  late : Int
  most : Int
abbrev Sv := List (Int × Bool)
abbrev Wy := List (Int × Int)
abbrev Evs := List (Str × Int)
def encS1 (x : Int × Bool) : PyData := .tuple [.int x.1, .bool x.2]
def encW1 (x : Int × Int) : PyData := .tuple [.int x.1, .int x.2]
def encV1 (x : Str × Int) : PyData := .tuple [.str x.1, .int x.2]
def encS (s : Sv) : PyData := .tuple (s.map encS1)
structure Sta where
  shelf : Sv
  way : Wy
  kn : Kn
  deriving DecidableEq
def Sta.enc (s : Sta) : PyData := .tuple [encS s.shelf, .tuple (s.way.map encW1), s.kn.enc]
def begun (g : Gs) : Sta := ⟨[], [], first g⟩
def laid (h : Hs) (sh : Sv) (p : Int) (w : Bool) : Sv × Evs :=
  if (sh.length : Int) = h.room then
    match sh with
    | [] => ([(p, w)], [])
    | x :: r => (r ++ [(p, w)], [((if x.2 = true then "waste" else "leave" : Str), x.1)])
  else (sh ++ [(p, w)], [])
/-- one item of the way at the beginning of a turn -/
def come1 (h : Hs) (a : Sv × Wy × Evs) (x : Int × Int) : Sv × Wy × Evs :=
  if x.2 = 0 then ((laid h a.1 x.1 true).1, a.2.1, a.2.2 ++ (laid h a.1 x.1 true).2 ++ [(("come" : Str), x.1)]) else (a.1, a.2.1 ++ [(x.1, x.2 - 1)], a.2.2)
def come (h : Hs) (sh : Sv) (wy : Wy) : Sv × Wy × Evs := wy.foldl (come1 h) (sh, [], [])
def asked (h : Hs) (sh : Sv) (wy : Wy) (p : Int) : Sv × Wy × Evs :=
  match sh.find? (fun x => decide (x.1 = p)) with
  | some x => (sh.filter (fun y => decide (y ≠ x)) ++ [(p, false)], wy, [((if x.2 = true then "first" else "hit" : Str), p)])
  | none =>
    let rest := wy.filter (fun y => decide (y.1 ≠ p))
    ((laid h sh p false).1, rest, (laid h sh p false).2 ++ [((if rest.length = wy.length then "miss" else "late" : Str), p)])
def starts (h : Hs) (sh : Sv) (found : Wy) (p : Int) : Prop := 0 ≤ p ∧ p < h.places ∧ p ∉ sh.map (·.1) ++ found.map (·.1) ∧ (found.length : Int) < h.most
instance (h : Hs) (sh : Sv) (found : Wy) (p : Int) : Decidable (starts h sh found p) := by unfold starts; infer_instance
def start1 (h : Hs) (sh : Sv) (a : Wy × Evs) (p : Int) : Wy × Evs := if starts h sh a.1 p then (a.1 ++ [(p, h.late)], a.2 ++ [(("start" : Str), p)]) else a
def started (h : Hs) (sh : Sv) (wy : Wy) (gs : List Int) : Wy × Evs := gs.foldl (start1 h sh) (wy, [])
def gone (h : Hs) (g : Gs) (s : Sta) (p : Int) : Sta × Evs :=
  let c := come h s.shelf s.way
  let a := asked h c.1 c.2.1 p
  let k := adv g s.kn p
  let t := started h a.1 a.2.1 k.2
  (⟨a.1, t.1, k.1⟩, c.2.2 ++ a.2.2 ++ t.2)
def idle (s : Sta) : Int := ((s.shelf.filter (fun x => x.2)).length : Int) + (s.way.length : Int)
end Mi
end
section
set_option Elab.async false
set_option linter.all false
set_option maxRecDepth 100000
set_option maxHeartbeats 4000000
/-! is_guesser, need_guesser, first_state -/
namespace W
open PySem PySem.Spec PyProof.Rows L2 DL Tx Mi
section
variable {P : Program} {w : World} {K : PySem.W.Frag} {mg : Str → Option Value} {base : Heap} {f : Addr} {fd : FuncData}
/-- a guesser's head: its word and how many parts -/
def Gs.word : Gs → Str
  | .none => "none" | .next _ => "next" | .stride _ => "stride" | .pairs _ => "pairs" | .both _ _ => "both"
def Gs.rest : Gs → List PyData
  | .none => [] | .next n => [.int n] | .stride n => [.int n] | .pairs n => [.int n] | .both a b => [a.enc, b.enc]
theorem enc_eq (g : Gs) : g.enc = .tuple (.str (Gs.word g) :: Gs.rest g) := by
  cases g <;> simp [Gs.enc, Gs.word, Gs.rest]
theorem sorts_of (g : Gs) : (Gs.word g, ((Gs.rest g).length : Int) + 1) ∈ sorts := by
  cases g <;> simp [Gs.word, Gs.rest, sorts]
theorem ok_le {wi : Nat} {g : Gs} (h : g.ok wi) : wi ≤ 3 := by
  cases g <;> simp only [Gs.ok] at h <;> first | exact h | exact h.1

theorem scIsG : FnScope ["guesser", "within"] ["guesser", "within"] (defScope sIsGuesser) := ⟨rfl, rfl, rfl, by decide +kernel, rfl, by decide +kernel, by decide +kernel⟩
def gIsG (n : Nat) (as : List Sp1) (r : Sp1) : Prop := ∃ (g : Gs) (wi : Nat), g.ok wi ∧ 4 ≤ wi + n ∧ as = [.dat g.enc, .dat (.int wi)] ∧ r = .dat (.bool true)
theorem ok_isG {n : Nat} (T : Tp K w mg) (Fd : Df K mg "is_guesser" sIsGuesser ["guesser", "within"] f fd) (G : FnOk P w K mg base CX0 n f fd ["guesser", "within"] (spD K (gIsG n))) :
    FnOk P w K mg base CX0 (n + 1) f fd ["guesser", "within"] (spD K (gIsG (n + 1))) := by
  refine ok_of Fd.F scIsG (fun as r h => by obtain ⟨_, _, _, _, rfl, _⟩ := h; rfl) fun cdv A outer s H Hk vs as r Q hr sm ia g q => ?_
  obtain ⟨gs, wi, ok, hn, rfl, rfl⟩ := g
  obtain _ | ⟨i1, _ | ⟨i2, _ | _⟩⟩ := ia
  obtain ⟨dS, hS⟩ := T.sorts
  obtain ⟨dM, hM⟩ := T.mostOf
  obtain ⟨esS, mS, kS⟩ := hS.k
  have hw := ok_le ok
  rw [enc_eq gs] at i1
  obtain ⟨t, et⟩ := hS.i _ (sorts_of gs)
  refine xs_ifN sm (vt_w (vw_or (vt_c (ve_lenT T.len PySem.boot_len (ve_v 0 rfl i1)) ve_int cd_eqI) fun _ => vw_or (vt_c (ve_itT (ve_v 0 rfl i1) (ve_int (i := 0)) rfl) (ve_gr hS.g) (cd_notInK kS et)) fun _ =>
    vw_or (vt_c (ve_lenT T.len PySem.boot_len (ve_v 0 rfl i1)) (ve_itK (ve_gr hS.g) (ve_itT (ve_v 0 rfl i1) (ve_int (i := 0)) rfl) (hS.has (sorts_of gs))) cd_neI) fun _ => vw_one (vt_c (ve_v 1 rfl i2) (ve_gc T.within) cd_gt)) |>.is ?_) ?_
  · have h1 : decide (((PyData.str (Gs.word gs) :: Gs.rest gs).length : Int) = 0) = false := decide_eq_false (by simp only [List.length_cons]; omega)
    have h2 : decide (((PyData.str (Gs.word gs) :: Gs.rest gs).length : Int) = ((Gs.rest gs).length : Int) + 1) = true := decide_eq_true (by simp only [List.length_cons]; omega)
    have h3 : decide ((3 : Int) < (wi : Int)) = false := decide_eq_false (by omega)
    rw [h1, h2, h3]
    rfl
  · intro Hk1 H1 E1
    replace i1 := i1.up E1.kk
    replace i2 := i2.up E1.kk
    have fin : ∀ {n : Nat} {x : Str}, (x, (n : Int)) ∈ mostOf → True := fun _ => trivial
    cases gs with
    | both ga gb =>
      simp only [Gs.ok] at ok
      refine xs_ifT E1.sub (vt_c (ve_itT (ve_v 0 rfl i1) (ve_int (i := 0)) rfl) ve_str cd_eqS) fun Hk2 H2 E2 => ?_
      replace i1 := i1.up E2.kk
      replace i2 := i2.up E2.kk
      exact xs_ret E2.sub (ve_and (ve_f Fd G hr (va_cons (ve_itT (ve_v 0 rfl i1) (ve_int (i := 1)) rfl) (va_cons (ve_add (ve_v 1 rfl i2) ve_int) va_nil)) ⟨ga, wi + 1, ok.2.1, by omega, rfl, rfl⟩)
        fun _ => ve_one (ve_f Fd G hr (va_cons (ve_itT (ve_v 0 rfl i1) (ve_int (i := 2)) rfl) (va_cons (ve_add (ve_v 1 rfl i2) ve_int) va_nil)) ⟨gb, wi + 1, ok.2.2, by omega, rfl, rfl⟩)) fun v Hk3 H3 E3 i3 => q v Hk3 H3 ((E1.trans E2).trans E3) i3
    | none =>
      refine xs_ifN E1.sub (vt_c (ve_itT (ve_v 0 rfl i1) (ve_int (i := 0)) rfl) ve_str cd_eqS |>.is (show decide (("none" : Str) = "both") = false by decide +kernel)) fun Hk2 H2 E2 => ?_
      exact xs_ret E2.sub (ve_or (ve_c (ve_itT (ve_v 0 rfl (i1.up E2.kk)) (ve_int (i := 0)) rfl) ve_str cd_eqS |>.isB (show decide (("none" : Str) = "none") = true by decide +kernel)) (d' := true) fun z => by cases z) fun v Hk3 H3 E3 i3 => q v Hk3 H3 ((E1.trans E2).trans E3) i3
    | next n =>
      simp only [Gs.ok] at ok
      refine xs_ifN E1.sub (vt_c (ve_itT (ve_v 0 rfl i1) (ve_int (i := 0)) rfl) ve_str cd_eqS |>.is (show decide (("next" : Str) = "both") = false by decide +kernel)) fun Hk2 H2 E2 => ?_
      replace i1 := i1.up E2.kk
      refine xs_ret E2.sub (ve_or (ve_c (ve_itT (ve_v 0 rfl i1) (ve_int (i := 0)) rfl) ve_str cd_eqS |>.isB (show decide (("next" : Str) = "none") = false by decide +kernel)) fun _ => ve_one (ve_chain ve_int (ve_itT (ve_v 0 rfl i1) (ve_int (i := 1)) rfl)
        (ve_itK (ve_gr hM.g) (ve_itT (ve_v 0 rfl i1) (ve_int (i := 0)) rfl) (hM.has (x := "next") (i := 3) (by simp [mostOf]))) cd_le cd_le)) fun v Hk3 H3 E3 i3 => q v Hk3 H3 ((E1.trans E2).trans E3) ?_
      have e1 : (decide ((1 : Int) ≤ (n : Int)) && decide ((n : Int) ≤ 3)) = true := by simp; omega
      rw [e1] at i3
      exact i3
    | stride n =>
      simp only [Gs.ok] at ok
      refine xs_ifN E1.sub (vt_c (ve_itT (ve_v 0 rfl i1) (ve_int (i := 0)) rfl) ve_str cd_eqS |>.is (show decide (("stride" : Str) = "both") = false by decide +kernel)) fun Hk2 H2 E2 => ?_
      replace i1 := i1.up E2.kk
      refine xs_ret E2.sub (ve_or (ve_c (ve_itT (ve_v 0 rfl i1) (ve_int (i := 0)) rfl) ve_str cd_eqS |>.isB (show decide (("stride" : Str) = "none") = false by decide +kernel)) fun _ => ve_one (ve_chain ve_int (ve_itT (ve_v 0 rfl i1) (ve_int (i := 1)) rfl)
        (ve_itK (ve_gr hM.g) (ve_itT (ve_v 0 rfl i1) (ve_int (i := 0)) rfl) (hM.has (x := "stride") (i := 3) (by simp [mostOf]))) cd_le cd_le)) fun v Hk3 H3 E3 i3 => q v Hk3 H3 ((E1.trans E2).trans E3) ?_
      have e1 : (decide ((1 : Int) ≤ (n : Int)) && decide ((n : Int) ≤ 3)) = true := by simp; omega
      rw [e1] at i3
      exact i3
    | pairs n =>
      simp only [Gs.ok] at ok
      refine xs_ifN E1.sub (vt_c (ve_itT (ve_v 0 rfl i1) (ve_int (i := 0)) rfl) ve_str cd_eqS |>.is (show decide (("pairs" : Str) = "both") = false by decide +kernel)) fun Hk2 H2 E2 => ?_
      replace i1 := i1.up E2.kk
      refine xs_ret E2.sub (ve_or (ve_c (ve_itT (ve_v 0 rfl i1) (ve_int (i := 0)) rfl) ve_str cd_eqS |>.isB (show decide (("pairs" : Str) = "none") = false by decide +kernel)) fun _ => ve_one (ve_chain ve_int (ve_itT (ve_v 0 rfl i1) (ve_int (i := 1)) rfl)
        (ve_itK (ve_gr hM.g) (ve_itT (ve_v 0 rfl i1) (ve_int (i := 0)) rfl) (hM.has (x := "pairs") (i := 2) (by simp [mostOf]))) cd_le cd_le)) fun v Hk3 H3 E3 i3 => q v Hk3 H3 ((E1.trans E2).trans E3) ?_
      have e1 : (decide ((1 : Int) ≤ (n : Int)) && decide ((n : Int) ≤ 2)) = true := by simp; omega
      rw [e1] at i3
      exact i3
/-- nothing can be asked where it says so -/
theorem none_at {ps : List Str} {G : List Sp1 → Sp1 → Prop} (no : ∀ as r, ¬ G as r) : FnOk P w K mg base CX0 0 f fd ps (spD K G) := by
  have n2 : ∀ vs H Q E, ¬ spD K G vs H Q E := fun vs H Q E ⟨_, _, _, _, _, g, _⟩ => no _ _ g
  exact ⟨fun vs H Q E h => absurd h (n2 vs H Q E), fun A outer s H args us vs Q E _ _ _ _ h => absurd h (n2 vs H Q E)⟩
theorem ok_isGs (T : Tp K w mg) (Fd : Df K mg "is_guesser" sIsGuesser ["guesser", "within"] f fd) : ∀ n, FnOk P w K mg base CX0 n f fd ["guesser", "within"] (spD K (gIsG n))
  | 0 => none_at fun as r ⟨g, wi, ok, h, _⟩ => by have := ok_le ok; omega
  | n + 1 => ok_isG T Fd (ok_isGs T Fd n)

theorem scNeedG : FnScope ["guesser"] ["guesser"] (defScope sNeedGuesser) := ⟨rfl, rfl, rfl, by decide +kernel, rfl, by decide +kernel, by decide +kernel⟩
def gNeedG (as : List Sp1) (r : Sp1) : Prop := ∃ (g : Gs), g.ok 0 ∧ as = [.dat g.enc] ∧ r = .dat .none
theorem ok_needG {f1 : Addr} {fd1 : FuncData} (Fi : Df K mg "is_guesser" sIsGuesser ["guesser", "within"] f1 fd1) (G : FnOk P w K mg base CX0 4 f1 fd1 ["guesser", "within"] (spD K (gIsG 4))) (Fd : Fun K "need_guesser" "need_guesser" sNeedGuesser f fd) :
    FnOk P w K mg base CX0 5 f fd ["guesser"] (spD K gNeedG) := by
  refine ok_of Fd scNeedG (fun as r h => by obtain ⟨_, _, rfl, _⟩ := h; rfl) fun cdv A outer s H Hk vs as r Q hr sm ia g q => ?_
  obtain ⟨gs, ok, rfl, rfl⟩ := g
  obtain _ | ⟨i1, _ | _⟩ := ia
  refine xs_ifN sm (vt_not (vt_val (ve_f Fi G hr (va_cons (ve_v 0 rfl i1) (va_cons ve_int va_nil)) ⟨gs, 0, ok, by omega, rfl, rfl⟩)) |>.is rfl) fun Hk2 H2 E2 => wss_nil ?_
  exact q _ Hk2 H2 E2 .non

theorem scFirst : FnScope ["guesser"] ["guesser"] (defScope sFirst) := ⟨rfl, rfl, rfl, by decide +kernel, rfl, by decide +kernel, by decide +kernel⟩
def gFirst (n : Nat) (as : List Sp1) (r : Sp1) : Prop := ∃ (g : Gs) (wi : Nat), g.ok wi ∧ 4 ≤ wi + n ∧ as = [.dat g.enc] ∧ r = .dat (first g).enc
theorem ok_first {n : Nat} (Fd : Df K mg "first_state" sFirst ["guesser"] f fd) (G : FnOk P w K mg base CX0 n f fd ["guesser"] (spD K (gFirst n))) :
    FnOk P w K mg base CX0 (n + 1) f fd ["guesser"] (spD K (gFirst (n + 1))) := by
  refine ok_of Fd.F scFirst (fun as r h => by obtain ⟨_, _, _, _, rfl, _⟩ := h; rfl) fun cdv A outer s H Hk vs as r Q hr sm ia g q => ?_
  obtain ⟨gs, wi, ok, hn, rfl, rfl⟩ := g
  obtain _ | ⟨i1, _ | _⟩ := ia
  rename_i v1
  rw [enc_eq gs] at i1
  have hE : ∀ (wd : Str), Gs.word gs = wd → decide (wd = "both") = false → decide (wd = "stride") = false → first gs = .prs .none [] → WSs (cxOf CX0 P w K mg base ["guesser"] "first_state" (defScope sFirst) f cdv A outer s H E0).nox (defBody sFirst) { nx := fun _ H' => Q .non H', rt := Q } (L2.start ["guesser"] [v1]) H := by
    intro wd e1 e2 e3 e4
    refine xs_ifN sm (vt_c (ve_itT (ve_v 0 rfl i1) (ve_int (i := 0)) rfl) ve_str cd_eqS |>.is (d' := false) (by rw [e1]; exact e2)) fun Hk2 H2 E2 => ?_
    exact xs_ret E2.sub (ve_if (vt_c (ve_itT (ve_v 0 rfl (i1.up E2.kk)) (ve_int (i := 0)) rfl) ve_str cd_eqS |>.is (d' := false) (by rw [e1]; exact e3)) (fun z => by cases z) fun _ => ve_tup (ds := [.none, .tuple []]) (va_cons ve_non (va_cons (ve_tup (ds := []) va_nil) va_nil)))
      fun v Hk3 H3 E3 i3 => q v Hk3 H3 (E2.trans E3) (by rw [e4]; exact i3)
  cases gs with
  | both ga gb =>
    simp only [Gs.ok] at ok
    refine xs_ifT sm (vt_c (ve_itT (ve_v 0 rfl i1) (ve_int (i := 0)) rfl) ve_str cd_eqS) fun Hk2 H2 E2 => ?_
    replace i1 := i1.up E2.kk
    exact xs_ret E2.sub (ve_tup (ds := [(first ga).enc, (first gb).enc]) (va_cons (ve_f Fd G hr (va_cons (ve_itT (ve_v 0 rfl i1) (ve_int (i := 1)) rfl) va_nil) ⟨ga, wi + 1, ok.2.1, by omega, rfl, rfl⟩)
      (va_cons (ve_f Fd G hr (va_cons (ve_itT (ve_v 0 rfl i1) (ve_int (i := 2)) rfl) va_nil) ⟨gb, wi + 1, ok.2.2, by omega, rfl, rfl⟩) va_nil))) fun v Hk3 H3 E3 i3 => q v Hk3 H3 (E2.trans E3) i3
  | stride n =>
    refine xs_ifN sm (vt_c (ve_itT (ve_v 0 rfl i1) (ve_int (i := 0)) rfl) ve_str cd_eqS |>.is (show decide (("stride" : Str) = "both") = false by decide +kernel)) fun Hk2 H2 E2 => ?_
    exact xs_ret E2.sub (ve_if (vt_c (ve_itT (ve_v 0 rfl (i1.up E2.kk)) (ve_int (i := 0)) rfl) ve_str cd_eqS |>.is (show decide (("stride" : Str) = "stride") = true by decide +kernel)) (fun _ => ve_tup (ds := [.none, .int 0, .int 0]) (va_cons ve_non (va_cons ve_int (va_cons ve_int va_nil)))) fun z => by cases z)
      fun v Hk3 H3 E3 i3 => q v Hk3 H3 (E2.trans E3) i3
  | none => exact hE _ rfl (by decide +kernel) (by decide +kernel) rfl
  | next n => exact hE "next" rfl (by decide +kernel) (by decide +kernel) rfl
  | pairs n => exact hE "pairs" rfl (by decide +kernel) (by decide +kernel) rfl
theorem ok_firsts (Fd : Df K mg "first_state" sFirst ["guesser"] f fd) : ∀ n, FnOk P w K mg base CX0 n f fd ["guesser"] (spD K (gFirst n))
  | 0 => none_at fun as r ⟨g, wi, ok, h, _⟩ => by have := ok_le ok; omega
  | n + 1 => ok_first Fd (ok_firsts Fd n)
end
end W
end
section
set_option Elab.async false
set_option linter.all false
set_option maxRecDepth 100000
set_option maxHeartbeats 4000000
/-! The data layer: sums, slices and conversions of lists and tuples; fields; counts. -/
namespace DL
open PySem PySem.Spec PyProof.Rows L2
section
variable {X : Cx} {σ : L2.St} {Hk Hq H : Hp} {e a b c lo hi : Expr} {es : List Expr} {x y z : Sp1} {pos p2 : Pos}
/-! ### t + u -/
def rCatP (K : PySem.W.Frag) : R2 := fun x y H Q => ∃ a b xs ys, x = .ref a ∧ y = .ref b ∧ SqT K H a xs ∧ SqT K H b ys ∧ xs.length + ys.length ≤ sizeLine ∧
  (xs = [] → Q (.ref b) H) ∧ (xs ≠ [] → ys = [] → Q (.ref a) H) ∧ (xs ≠ [] → ys ≠ [] → NewT H (xs ++ ys) Q)
theorem op_catP : OpR X (binaryOp .Add) (rCatP X.K) := by
  intro pins s σ H x y v u Q I rx ry h
  obtain ⟨a, b, xs, ys, rfl, rfl, ha, hb, hz, q0, q1, q2⟩ := h
  cases rx
  cases ry
  obtain ⟨us, r1, p1, _⟩ := I.tuple ha
  obtain ⟨ws, r2, pw, _⟩ := I.tuple hb
  by_cases hx : xs = []
  · subst hx
    cases r1
    exact cat_tup0 p1 pw ⟨.ref b, H, I, rfl, q0 rfl⟩
  · refine HT.cat_tup p1 pw (fun z => hx (r1.nil_iff.mp z)) (fun z => ⟨.ref a, H, I, rfl, q1 hx (r2.nil_iff.mp z)⟩) (fun z => ?_) (by rw [← r1.length, ← r2.length]; exact hz)
    exact newT_of (t' := s.toks) I (fun b ob q => Heap.get?_push_of_some _ q) (Nat.le_refl _) (Heap.get?_push_size _ rfl) rfl rfl (r1.append r2) 0 rfl (by rw [List.length_append]; exact hz) (q2 hx fun w => z (r2.nil_iff.mpr w))
theorem ve_catT {as bs : List PyData} (ha : VE X σ Hk a (.dat (.tuple as))) (hb : VE X σ Hk b (.dat (.tuple bs))) (hz : as.length + bs.length ≤ 1000000) : VE X σ Hk (.BinOp a .Add b pos) (.dat (.tuple (as ++ bs))) :=
  ve_op op_catP ha hb fun v w Hk2 H2 _ s i1 i2 Q k => by
    obtain ⟨p, xs, rfl, hp, hx⟩ := dp_tup i1
    obtain ⟨r, ys, rfl, hr, hy⟩ := dp_tup i2
    have l1 := hx.len
    have l2 := hy.len
    refine ⟨p, r, xs, ys, rfl, rfl, sqt_same s hp.sq, sqt_same s hr.sq, by rw [l1, l2]; exact Nat.le_trans hz (by rw [sizeLine_eq]; decide), fun z => ?_, fun _ z => ?_, fun _ _ q o nq hc ho => ?_⟩
    · subst z
      cases hx
      exact k _ Hk2 H2 (Ext.refl s) i2
    · subst z
      cases hy
      rw [List.append_nil] at k
      exact k _ Hk2 H2 (Ext.refl s) i1
    · exact k _ (upd Hk2 q (.frz o (.tup (xs ++ ys)))) _ (Ext.alloc s nq) (dp_new_tup (s.free nq) hc ho (hx.app hy))
/-! ### xs + ys -/
theorem ve_catL {as bs : List PyData} (ha : VE X σ Hk a (.dat (.list as))) (hb : VE X σ Hk b (.dat (.list bs))) (hz : as.length + bs.length ≤ 1000000) : VE X σ Hk (.BinOp a .Add b pos) (.dat (.list (as ++ bs))) :=
  ve_op op_cat ha hb fun v w Hk2 H2 _ s i1 i2 Q k => by
    obtain ⟨p, xs, rfl, hp, hx⟩ := dp_lst i1
    obtain ⟨r, ys, rfl, hr, hy⟩ := dp_lst i2
    refine ⟨p, r, xs, ys, rfl, rfl, s _ _ hp, s _ _ hr, by rw [hx.len, hy.len]; exact Nat.le_trans hz (by rw [sizeLine_eq]; decide), fun q nq => ?_⟩
    exact k _ (upd Hk2 q (.lst (xs ++ ys))) _ (Ext.alloc s nq) (dp_new_lst (s.free nq) (hx.app hy))
/-! ### slices -/
def tOI (X : Cx) (σ : L2.St) (Hk : Hp) (o : Option Expr) (i : Option Int) : Prop := (o = none ∧ i = none) ∨ ∃ e j, o = some e ∧ i = some j ∧ VE X σ Hk e (.dat (.int j))
theorem oi_none : tOI X σ Hk none none := .inl ⟨rfl, rfl⟩
theorem oi_some {j : Int} (h : VE X σ Hk e (.dat (.int j))) : tOI X σ Hk (some e) (some j) := .inr ⟨e, j, rfl, rfl, h⟩
theorem tOI.up {o : Option Expr} {i : Option Int} (h : tOI X σ Hk o i) (s : Same Hk Hq) : tOI X σ Hq o i := by
  rcases h with h | ⟨e, j, rfl, rfl, h⟩
  · exact .inl h
  · exact .inr ⟨e, j, rfl, rfl, h.up s⟩
def WO (X : Cx) (o : Option Expr) : TO := fun σ H Q => match o with
  | none => Q none H
  | some e => WE X e σ H fun v H1 => ∃ i, v = .int i ∧ Q (some i) H1
theorem po_w (o : Option Expr) : PO X o (WO X o) := by
  cases o with
  | none => exact po_none
  | some e => exact po_some pe_w
theorem WO.of {o : Option Expr} {i : Option Int} {Q : Option Int → Hp → Prop} (h : tOI X σ Hk o i) (s : Same Hk H) (k : ∀ Hk2 H2, Ext M0 Hk H Hk2 H2 → Q i H2) : WO X o σ H Q := by
  rcases h with ⟨rfl, rfl⟩ | ⟨e, j, rfl, rfl, h⟩
  · exact k Hk H (Ext.refl s)
  · exact h H s _ fun v Hk2 H2 E i1 => ⟨j, dp_int i1, k Hk2 H2 E⟩
def cutD (ds : List PyData) (lo hi : Option Int) : List PyData := (ds.drop (HT.sIx ds.length 0 lo)).take (HT.sIx ds.length ds.length hi - HT.sIx ds.length 0 lo)
theorem cut_all {K : PySem.W.Frag} {vs : List V} {ds : List PyData} (h : DqAll K H vs ds) (lo hi : Option Int) : DqAll K H (cutV vs lo hi) (cutD ds lo hi) := by
  unfold cutV cutD
  rw [h.len]
  exact (h.drop _).take _
theorem cutD_from (ds : List PyData) (n : Nat) (h : n ≤ ds.length) : cutD ds (some (n : Int)) none = ds.drop n := by
  unfold cutD
  rw [HT.sIx_nat, HT.sIx_none, Nat.min_eq_left h]
  rw [← List.length_drop]
  exact List.take_length
theorem cutD_to (ds : List PyData) (n : Nat) : cutD ds none (some (n : Int)) = ds.take n := by
  unfold cutD
  rw [HT.sIx_nat, HT.sIx_none, Nat.sub_zero, List.drop_zero]
  by_cases h : n ≤ ds.length
  · rw [Nat.min_eq_left h]
  · rw [Nat.min_eq_right (by omega), List.take_length, List.take_of_length_le (by omega)]
theorem ve_slL {ds : List PyData} {ol oh : Option Expr} {l u : Option Int} (ha : VE X σ Hk a (.dat (.list ds))) (hl : tOI X σ Hk ol l) (hu : tOI X σ Hk oh u) : VE X σ Hk (.Subscript a (.Slice ol oh none p2) pos) (.dat (.list (cutD ds l u))) :=
  ve_of (pe_slice sl_list pe_w (po_w ol) (po_w oh)) fun H s Q k => ha H s _ fun v Hk1 H1 E1 i1 => WO.of (hl.up E1.kk) E1.sub fun Hk2 H2 E2 => WO.of ((hu.up E1.kk).up E2.kk) E2.sub fun Hk3 H3 E3 => by
    obtain ⟨p, xs, rfl, hp, hx⟩ := dp_lst i1
    have hx3 := (hx.up E2.kk).up E3.kk
    refine ⟨p, xs, rfl, SqL.of (E3.sub _ _ (E3.kk _ _ (E2.kk _ _ hp))), fun q nq => ?_⟩
    exact k _ (upd Hk3 q (.lst (cutV xs l u))) _ (((E1.trans E2).trans E3).trans (Ext.alloc E3.sub nq)) (dp_new_lst (E3.sub.free nq) (cut_all hx3 l u))
def rSlP (K : PySem.W.Frag) : V → Option Int → Option Int → Hp → VK → Prop := fun x lo hi H Q => ∃ a xs, x = .ref a ∧ SqT K H a xs ∧
  (HT.sIx xs.length 0 lo = 0 ∧ HT.sIx xs.length xs.length hi = xs.length → Q (.ref a) H) ∧ (¬ (HT.sIx xs.length 0 lo = 0 ∧ HT.sIx xs.length xs.length hi = xs.length) → NewT H (cutV xs lo hi) Q)
theorem sl_tupP : SlR X (rSlP X.K) := by
  intro pins s σ H x v vl vu lo hi sl Q I rx hs pl pu h
  obtain ⟨a, xs, rfl, hx, q1, q2⟩ := h
  cases rx
  obtain ⟨us, r, ht, hz⟩ := I.tuple hx
  have hlen : us.toArray.size = xs.length := by rw [List.size_toArray]; exact r.length.symm
  refine ⟨"tuple", _, PyProof.Rows.slot_tuple_getitem.lookup, ht.typeIs, ?_⟩
  by_cases hw : HT.sIx xs.length 0 lo = 0 ∧ HT.sIx xs.length xs.length hi = xs.length
  · exact getItem_tuple_whole ht hs pl pu (by rw [hlen]; exact hw) ⟨.ref a, H, I, rfl, q1 hw⟩
  · refine HT.getItem_tuple_cut ht hs pl pu (by rw [hlen]; exact hw) ?_ (by rw [hlen]; exact hz)
    rw [hlen]
    exact newT_of (t' := s.toks) I (fun b ob q => Heap.get?_push_of_some _ q) (Nat.le_refl _) (Heap.get?_push_size _ rfl) rfl rfl ((r.drop _).take _) 0 rfl (Nat.le_trans (cutV_length xs lo hi) hz) (q2 hw)
theorem ve_slT {ds : List PyData} {ol oh : Option Expr} {l u : Option Int} (ha : VE X σ Hk a (.dat (.tuple ds))) (hl : tOI X σ Hk ol l) (hu : tOI X σ Hk oh u) : VE X σ Hk (.Subscript a (.Slice ol oh none p2) pos) (.dat (.tuple (cutD ds l u))) :=
  ve_of (pe_slice sl_tupP pe_w (po_w ol) (po_w oh)) fun H s Q k => ha H s _ fun v Hk1 H1 E1 i1 => WO.of (hl.up E1.kk) E1.sub fun Hk2 H2 E2 => WO.of ((hu.up E1.kk).up E2.kk) E2.sub fun Hk3 H3 E3 => by
    obtain ⟨p, xs, rfl, hp, hx⟩ := dp_tup i1
    have hx3 := (hx.up E2.kk).up E3.kk
    have hp3 := (hp.up E2.kk).up E3.kk
    have hl3 := hx.len
    refine ⟨p, xs, rfl, sqt_same E3.sub hp3.sq, fun w => ?_, fun w q o nq hc ho => ?_⟩
    · refine k _ Hk3 H3 ((E1.trans E2).trans E3) ?_
      have e : cutD ds l u = ds := by
        unfold cutD
        rw [← hl3, w.1, w.2, List.drop_zero, Nat.sub_zero]
        exact List.take_of_length_le (by rw [hl3]; exact Nat.le_refl _)
      rw [e]
      exact .tup hp3 hx3
    · exact k _ (upd Hk3 q (.frz o (.tup (cutV xs l u)))) _ (((E1.trans E2).trans E3).trans (Ext.alloc E3.sub nq)) (dp_new_tup (E3.sub.free nq) hc ho (cut_all hx3 l u))
/-! ### tuple(xs), list(xs) -/
theorem call_tupP : CallR X (.type "tuple") (fun xs H Q => ∃ p ys, xs = [.ref p] ∧ SqL X.K H p ys ∧ NewT H ys Q) := by
  intro pins s σ H xs us Q I r h
  obtain ⟨p, ys, rfl, hq, q⟩ := h
  obtain ⟨u, rfl, rx⟩ := vals1 r
  cases rx
  obtain ⟨its, r', pl, hz⟩ := I.list hq
  have hlen := r'.length
  refine call_tuple_list pl.isList (fun h' kp => ?_) (by simp only [List.size_toArray] <;> omega)
  have I1 : Inv X pins σ H { s with heap := h' } := I.kept (t' := s.toks) kp
  exact newT_of (s := { s with heap := h' }) (t' := s.toks) I1 (fun b o e => Heap.get?_push_of_some _ e) (Nat.le_refl _) (Heap.get?_push_size _ rfl) rfl rfl r' 0 rfl hz q
theorem ve_tuple {n : Str} {p : Pos} {ds : List PyData} (hm : X.mg n = none) (h : VE X σ Hk e (.dat (.list ds))) (hb : bootBuiltins n = some (.type "tuple") := by decide +kernel) (hg : Gl X n := by rfl) (hn : n ≠ "__name__" := by decide) (hdb : (n == ("__debug__" : Str)) = false := by decide)
    (he : starEach [e] X.env = (false, eval e X.env) :: starEach [] X.env := by rfl) : VE X σ Hk (.Call (.Name n p) [e] [] pos) (.dat (.tuple ds)) :=
  ve_of (pe_callTy call_tupP hg hm hb (pa_cons pe_w pa_nil he) hn hdb he) fun H s Q k => h H s _ fun v Hk1 H1 E1 i1 => by
    obtain ⟨a, xs, rfl, hq, hx⟩ := dp_lst i1
    exact ⟨a, xs, rfl, SqL.of (E1.sub _ _ hq), fun q o nq hc ho => k _ (upd Hk1 q (.frz o (.tup xs))) _ (E1.trans (Ext.alloc E1.sub nq)) (dp_new_tup (E1.sub.free nq) hc ho hx)⟩
theorem ve_listL {n : Str} {p : Pos} {ds : List PyData} (hm : X.mg n = none) (h : VE X σ Hk e (.dat (.list ds))) (hb : bootBuiltins n = some (.type "list") := by decide +kernel) (hg : Gl X n := by rfl) (hn : n ≠ "__name__" := by decide) (hdb : (n == ("__debug__" : Str)) = false := by decide)
    (he : starEach [e] X.env = (false, eval e X.env) :: starEach [] X.env := by rfl) : VE X σ Hk (.Call (.Name n p) [e] [] pos) (.dat (.list ds)) :=
  ve_of (pe_callTy call_list_of hg hm hb (pa_cons pe_w pa_nil he) hn hdb he) fun H s Q k => h H s _ fun v Hk1 H1 E1 i1 => by
    obtain ⟨a, xs, rfl, hq, hx⟩ := dp_lst i1
    exact ⟨a, xs, rfl, .inl (SqL.of (E1.sub _ _ hq)), fun q nq => k _ (upd Hk1 q (.lst xs)) _ (E1.trans (Ext.alloc E1.sub nq)) (dp_new_lst (E1.sub.free nq) hx)⟩
theorem ve_listT {n : Str} {p : Pos} {ds : List PyData} (hm : X.mg n = none) (h : VE X σ Hk e (.dat (.tuple ds))) (hb : bootBuiltins n = some (.type "list") := by decide +kernel) (hg : Gl X n := by rfl) (hn : n ≠ "__name__" := by decide) (hdb : (n == ("__debug__" : Str)) = false := by decide)
    (he : starEach [e] X.env = (false, eval e X.env) :: starEach [] X.env := by rfl) : VE X σ Hk (.Call (.Name n p) [e] [] pos) (.dat (.list ds)) :=
  ve_of (pe_callTy call_list_of hg hm hb (pa_cons pe_w pa_nil he) hn hdb he) fun H s Q k => h H s _ fun v Hk1 H1 E1 i1 => by
    obtain ⟨a, xs, rfl, hq, hx⟩ := dp_tup i1
    exact ⟨a, xs, rfl, .inr (sqt_same E1.sub hq.sq), fun q nq => k _ (upd Hk1 q (.lst xs)) _ (E1.trans (Ext.alloc E1.sub nq)) (dp_new_lst (E1.sub.free nq) hx)⟩
/-! ### fields -/
theorem ve_fld {f : Str} {p C dx : Addr} {fs : List (Str × V)} {v : V} (h : VE X σ Hk e (.val (.ref p))) (ho : Hk p = some (.ins C dx fs)) (hc : Cls X.K C) (hn : NoAttr X.K C f) (hv : fs.lookup f = some v) (hi : Is X.K Hk v x) (hb : attributeBase e f X.env (eval e X.env) = eval e X.env := by rfl) : VE X σ Hk (.Attribute e f pos) x :=
  ve_of (pe_fld pe_w hb) fun H s Q k => h H s _ fun w Hk1 H1 E1 i1 => ⟨p, C, dx, fs, v, i1, E1.same _ _ (s _ _ ho), hc, hn, hv, k v Hk1 H1 E1 (hi.up E1.kk)⟩
end
end DL
end
section
set_option Elab.async false
set_option linter.all false
set_option maxRecDepth 100000
set_option maxHeartbeats 4000000
/-! The data layer: dicts from ints to tuples of ints: dict(pairs), get, d[k] = v, sorted(d.items()). -/
namespace DL
open PySem PySem.Spec PyProof.Rows L2 Mi

/-! ### known heaps without one address -/
def drop (H : Hp) (d : Addr) : Hp := fun x => if x = d then none else H x
theorem drop_at {H : Hp} {d : Addr} : drop H d d = none := by unfold drop; rw [if_pos rfl]
theorem drop_ne {H : Hp} {d x : Addr} (h : x ≠ d) : drop H d x = H x := by unfold drop; rw [if_neg h]
theorem drop_same {H : Hp} {d : Addr} : Same (drop H d) H := fun x o e => by
  by_cases z : x = d
  · rw [z, drop_at] at e; cases e
  · rw [drop_ne z] at e; exact e
/-- what is no list and no pinned tuple is in no datum -/
def NoDat (o : HO) : Prop := (∀ xs, o ≠ .lst xs) ∧ ∀ ob xs, o ≠ .frz ob (.tup xs)
theorem noDat_dK {kvs : List (Key × V)} : NoDat (.dK kvs) := ⟨(fun _ q => nomatch q), (fun _ _ q => nomatch q)⟩
theorem noDat_ins {C dx : Addr} {fs : List (Str × V)} : NoDat (.ins C dx fs) := ⟨(fun _ q => nomatch q), (fun _ _ q => nomatch q)⟩
theorem noDat_ext {φ : Heap → Prop} : NoDat (.ext φ) := ⟨(fun _ q => nomatch q), (fun _ _ q => nomatch q)⟩
mutual
theorem dq_drop {K : PySem.W.Frag} {H : Hp} {p : Addr} {u : HO} (e : H p = some u) (n : NoDat u) : ∀ (d : PyData) (v : V), Dq K H v d → Dq K (drop H p) v d
  | .none, _, h => by cases h; exact .non
  | .bool b, _, h => by cases h; exact .bl b
  | .int i, _, h => by cases h; exact .int i
  | .str x, _, h => by cases h; exact .str x
  | .list ds, _, h => by
    cases h with
    | lst hs ha => exact .lst (by rw [drop_ne (fun z => by rw [z, e] at hs; exact n.1 _ (Option.some.inj hs))]; exact hs) (dqAll_drop e n ds _ ha)
  | .tuple ds, _, h => by
    cases h with
    | tup hs ha =>
      obtain ⟨o, h1, h2⟩ := hs
      exact .tup ⟨o, by rw [drop_ne (fun z => by rw [z, e] at h1; exact n.2 _ _ (Option.some.inj h1))]; exact h1, h2⟩ (dqAll_drop e n ds _ ha)
  | .dict _, _, h => by cases h
theorem dqAll_drop {K : PySem.W.Frag} {H : Hp} {p : Addr} {u : HO} (e : H p = some u) (n : NoDat u) : ∀ (ds : List PyData) (vs : List V), DqAll K H vs ds → DqAll K (drop H p) vs ds
  | [], _, h => by cases h; exact .nil
  | d :: ds, _, h => by
    cases h with
    | cons h1 h2 => exact .cons (dq_drop e n d _ h1) (dqAll_drop e n ds _ h2)
end
section
variable {M : Addr → Prop} {Hk H Hk2 H2 Hk3 H3 : Hp} {d : Addr} {o o' : HO}
theorem same_know (s : Same Hk H) (e : H d = some o) : Same (upd Hk d o) H := fun x u q => by
  by_cases z : x = d
  · subst z; rw [upd_same] at q; rw [e]; exact q
  · rw [upd_ne z] at q; exact s _ _ q
theorem same_up (n : Hk d = none) : Same Hk (upd Hk d o) := fun x u q => by rw [upd_ne (ne_of_none q n)]; exact q
/-- what was known for a while is forgotten -/
theorem Ext.know (E : Ext M0 (upd Hk d o) H Hk2 H2) (n : Hk d = none) (e : H d = some o) : Ext (M1 d) Hk H (drop Hk2 d) H2 := by
  refine ⟨fun x u q => ?_, fun x u q => E.sub _ _ (drop_same _ _ q), fun x u m q => E.keep x u (fun z => z) q, fun x q => ?_, E.there⟩
  · have z := ne_of_none q n
    rw [drop_ne z]
    exact E.kk _ _ (by rw [upd_ne z]; exact q)
  · by_cases z : x = d
    · subst z; rw [drop_at, n]
    · rw [drop_ne z, E.new x q, upd_ne z]
/-- a local object that changed was not there -/
theorem Ext.local_ (E : Ext (M1 d) Hk H Hk2 H2) (n : H d = none) : Ext M Hk H Hk2 H2 :=
  ⟨E.kk, E.sub, fun x u _ q => E.keep x u (fun z => by rw [z, n] at q; cases q) q, E.new, E.there⟩
/-- all that is new is forgotten -/
theorem Ext.back (E : Ext M Hk3 H Hk2 H2) (s : Same Hk H) (m : ∀ x, M x → Hk x = none) : Ext M Hk H Hk H2 :=
  ⟨Same.refl _, fun x u q => E.keep x u (fun z => by rw [m x z] at q; cases q) (s _ _ q), E.keep, fun _ _ => rfl, E.there⟩
end

/-! ### a dict from ints to tuples of ints -/
inductive KvD (K : PySem.W.Frag) (Hk : Hp) : List (Key × V) → List (Int × List Int) → Prop
  | nil : KvD K Hk [] []
  | cons {q : Int} {l : List Int} {v : V} {kvs kn} : Dq K Hk v (.tuple (encI l)) → KvD K Hk kvs kn → KvD K Hk ((.inl q, v) :: kvs) ((q, l) :: kn)
section
variable {K : PySem.W.Frag} {Hk Hk' : Hp} {kvs : List (Key × V)} {kn : List (Int × List Int)}
theorem KvD.up (s : Same Hk Hk') : ∀ {kvs kn}, KvD K Hk kvs kn → KvD K Hk' kvs kn
  | _, _, .nil => .nil
  | _, _, .cons h t => .cons (h.up s) (KvD.up s t)
theorem KvD.drop {d : Addr} {u : HO} (e : Hk d = some u) (n : NoDat u) : ∀ {kvs kn}, KvD K Hk kvs kn → KvD K (DL.drop Hk d) kvs kn
  | _, _, .nil => .nil
  | _, _, .cons h t => .cons (dq_drop e n _ _ h) (KvD.drop e n t)
theorem KvD.len : ∀ {kvs kn}, KvD K Hk kvs kn → kvs.length = kn.length
  | _, _, .nil => rfl
  | _, _, .cons h t => by rw [List.length_cons, List.length_cons, KvD.len t]
theorem inl_inj {a b : Int} : (Sum.inl a : Key) = .inl b ↔ a = b := ⟨Sum.inl.inj, congrArg _⟩
theorem KvD.get {q : Int} : ∀ {kvs kn}, KvD K Hk kvs kn → (kn.lookup q = none ∧ valV kvs (.inl q) = none) ∨ ∃ l v, kn.lookup q = some l ∧ valV kvs (.inl q) = some v ∧ Dq K Hk v (.tuple (encI l))
  | _, _, .nil => .inl ⟨rfl, rfl⟩
  | _, _, @KvD.cons _ _ p l v kvs kn h t => by
    by_cases e : p = q
    · subst e
      exact .inr ⟨l, v, by rw [List.lookup_cons]; simp, valV_pos rfl, h⟩
    · have ne : ¬ (Sum.inl p : Key) = .inl q := fun z => e (inl_inj.mp z)
      have e2 : (q == p) = false := beq_eq_false_iff_ne.mpr fun z => e z.symm
      have e3 : ((p, l) :: kn).lookup q = kn.lookup q := by rw [List.lookup_cons, e2]
      rw [e3, valV_neg (p := (Sum.inl p, v)) ne]
      exact KvD.get t
def putI (q : Int) (l : List Int) (kn : List (Int × List Int)) : List (Int × List Int) := if (kn.any fun p => decide (p.1 = q)) = true then kn.map (fun p => if p.1 = q then (p.1, l) else p) else kn ++ [(q, l)]
theorem KvD.any {q : Int} : ∀ {kvs kn}, KvD K Hk kvs kn → (kvs.any fun kv => decide (kv.1 = .inl q)) = (kn.any fun p => decide (p.1 = q))
  | _, _, .nil => rfl
  | _, _, @KvD.cons _ _ p l v kvs kn h t => by
    rw [List.any_cons, List.any_cons, KvD.any t]
    congr 1
    by_cases e : p = q
    · rw [decide_eq_true e, decide_eq_true (inl_inj.mpr e)]
    · rw [decide_eq_false e, decide_eq_false fun z => e (inl_inj.mp z)]
theorem KvD.maps {q : Int} {l : List Int} {v : V} (h : Dq K Hk v (.tuple (encI l))) : ∀ {kvs kn}, KvD K Hk kvs kn → KvD K Hk (kvs.map fun kv => if kv.1 = .inl q then (kv.1, v) else kv) (kn.map fun p => if p.1 = q then (p.1, l) else p)
  | _, _, .nil => .nil
  | _, _, @KvD.cons _ _ p l' v' kvs kn h' t => by
    rw [List.map_cons, List.map_cons]
    by_cases e : p = q
    · rw [if_pos (show (Sum.inl p : Key) = .inl q from inl_inj.mpr e), if_pos e]
      exact .cons h (KvD.maps h t)
    · rw [if_neg (show ¬ (Sum.inl p : Key) = .inl q from fun z => e (inl_inj.mp z)), if_neg e]
      exact .cons h' (KvD.maps h t)
theorem KvD.snoc {q : Int} {l : List Int} {v : V} (h : Dq K Hk v (.tuple (encI l))) : ∀ {kvs kn}, KvD K Hk kvs kn → KvD K Hk (kvs ++ [(.inl q, v)]) (kn ++ [(q, l)])
  | _, _, .nil => .cons h .nil
  | _, _, .cons h' t => .cons h' (KvD.snoc h t)
theorem KvD.put {q : Int} {l : List Int} {v : V} (h : Dq K Hk v (.tuple (encI l))) (t : KvD K Hk kvs kn) : KvD K Hk (putK kvs (.inl q) v) (putI q l kn) := by
  unfold putK putI
  rw [t.any]
  by_cases e : (kn.any fun p => decide (p.1 = q)) = true
  · rw [if_pos e, if_pos e]
    exact t.maps h
  · rw [if_neg e, if_neg e]
    exact t.snoc h
end

/-! ### sorted pairs are the rising ones -/
theorem rising_head {p : Int × List Int} {r : List (Int × List Int)} (h : Rising (p :: r)) : (∀ q ∈ r, p.1 < q.1) ∧ Rising r := h
theorem ins_mem {q : Int} {l : List Int} : ∀ {kn : List (Int × List Int)} {x}, x ∈ ins q l kn → x = (q, l) ∨ x ∈ kn
  | [], x, h => by simp only [ins, List.mem_singleton] at h; exact .inl h
  | (k, v) :: r, x, h => by
    unfold ins at h
    split at h
    · rcases List.mem_cons.mp h with h | h
      · exact .inl h
      · exact .inr h
    · split at h
      · rcases List.mem_cons.mp h with h | h
        · exact .inl h
        · exact .inr (List.mem_cons_of_mem _ h)
      · rcases List.mem_cons.mp h with h | h
        · exact .inr (h ▸ List.mem_cons_self)
        · rcases ins_mem h with h | h
          · exact .inl h
          · exact .inr (List.mem_cons_of_mem _ h)
theorem ins_rising {q : Int} {l : List Int} : ∀ {kn : List (Int × List Int)}, Rising kn → Rising (ins q l kn)
  | [], _ => ⟨(fun _ h => nomatch h), trivial⟩
  | (k, v) :: r, h => by
    obtain ⟨h1, h2⟩ := rising_head h
    unfold ins
    split
    · rename_i c
      refine ⟨fun x hx => ?_, h⟩
      rcases List.mem_cons.mp hx with e | e
      · rw [e]; exact c
      · exact Int.lt_trans c (h1 x e)
    · split
      · rename_i c e
        subst e
        exact ⟨h1, h2⟩
      · rename_i c e
        refine ⟨fun x hx => ?_, ins_rising h2⟩
        rcases ins_mem hx with z | z
        · rw [z]
          show k < q
          omega
        · exact h1 x z
theorem ins_len {q : Int} {l : List Int} : ∀ (kn : List (Int × List Int)), (ins q l kn).length ≤ kn.length + 1
  | [] => by simp [ins]
  | (k, v) :: r => by
    unfold ins
    split
    · simp
    · split
      · simp
      · have := ins_len (q := q) (l := l) r
        simp only [List.length_cons]
        omega
theorem no_key {q : Int} : ∀ {kn : List (Int × List Int)}, Rising kn → (∀ x ∈ kn, q < x.1) → (kn.any fun p => decide (p.1 = q)) = false
  | [], _, _ => rfl
  | p :: r, h, g => by
    rw [List.any_cons, no_key (rising_head h).2 (fun x hx => g x (List.mem_cons_of_mem _ hx)), decide_eq_false (fun z => by have := g p List.mem_cons_self; omega)]
    rfl
theorem map_same {q : Int} {l : List Int} : ∀ {kn : List (Int × List Int)}, (∀ x ∈ kn, x.1 ≠ q) → kn.map (fun p => if p.1 = q then (p.1, l) else p) = kn
  | [], _ => rfl
  | p :: r, h => by rw [List.map_cons, if_neg (h p List.mem_cons_self), map_same fun x hx => h x (List.mem_cons_of_mem _ hx)]
theorem put_perm {q : Int} {l : List Int} : ∀ {kn : List (Int × List Int)}, Rising kn → (putI q l kn).Perm (ins q l kn)
  | [], _ => by simp [putI, ins]
  | (k, v) :: r, h => by
    obtain ⟨h1, h2⟩ := rising_head h
    have ih := put_perm (q := q) (l := l) h2
    unfold ins
    by_cases c : q < k
    · rw [if_pos c]
      have e : (((k, v) :: r).any fun p => decide (p.1 = q)) = false := no_key h fun x hx => by
        rcases List.mem_cons.mp hx with z | z
        · rw [z]; exact c
        · exact Int.lt_trans c (h1 x z)
      unfold putI
      rw [if_neg (by rw [e]; decide)]
      exact List.perm_append_comm (l₁ := (k, v) :: r) (l₂ := [(q, l)])
    · rw [if_neg c]
      by_cases e : q = k
      · rw [if_pos e]
        subst e
        unfold putI
        rw [if_pos (by simp), List.map_cons, if_pos rfl, map_same fun x hx => by have := h1 x hx; omega]
      · rw [if_neg e]
        unfold putI at ih ⊢
        have e2 : (((k, v) :: r).any fun p => decide (p.1 = q)) = (r.any fun p => decide (p.1 = q)) := by
          rw [List.any_cons, decide_eq_false (fun z => e z.symm), Bool.false_or]
        rw [e2]
        by_cases e3 : (r.any fun p => decide (p.1 = q)) = true
        · rw [if_pos e3] at ih ⊢
          rw [List.map_cons, if_neg (fun z => e z.symm)]
          exact List.Perm.cons _ ih
        · rw [if_neg e3] at ih ⊢
          rw [List.cons_append]
          exact List.Perm.cons _ ih
theorem rising_pw : ∀ {kn : List (Int × List Int)}, Rising kn → kn.Pairwise (fun a b => a.1 < b.1)
  | [], _ => .nil
  | _ :: _, h => .cons (rising_head h).1 (rising_pw (rising_head h).2)
/-- the only sorted arrangement -/
theorem sorted_is {a : List (Int × List Int)} : ∀ {b : List (Int × List Int)}, a.Perm b → a.Pairwise (fun x y => x.1 ≤ y.1) → b.Pairwise (fun x y => x.1 < y.1) → a = b := by
  induction a with
  | nil => intro b p _ _; exact (List.Perm.nil_eq p)
  | cons x a ih =>
    intro b p ha hb
    cases b with
    | nil => exact absurd p.symm (by intro q; exact absurd (List.Perm.nil_eq q) (by simp))
    | cons y b =>
      have ha' := List.pairwise_cons.mp ha
      have hb' := List.pairwise_cons.mp hb
      have hxy : x = y := by
        have m1 : x ∈ y :: b := p.mem_iff.mp List.mem_cons_self
        have m2 : y ∈ x :: a := p.mem_iff.mpr List.mem_cons_self
        rcases List.mem_cons.mp m1 with e | e
        · exact e
        · rcases List.mem_cons.mp m2 with e' | e'
          · exact e'.symm
          · have z1 := hb'.1 x e
            have z2 := ha'.1 y e'
            omega
      subst hxy
      rw [ih (List.perm_cons x |>.mp p) ha'.2 hb'.2]
theorem encE_alike (b b' : Int × List Int) : PySem.W.alike (encE b) (encE b') = true := by
  show PySem.W.alikeAll [.int b.1, .tuple (encI b.2)] [.int b'.1, .tuple (encI b'.2)] = true
  have h : PySem.W.alikeAll (encI b.2) (encI b'.2) = true := PySem.W.alike_ints b.2 b'.2
  simp [PySem.W.alikeAll, PySem.W.alike, h]
theorem le_keys {a b : Int × List Int} (h : PySem.W.dataLe false encE a b = true) : a.1 ≤ b.1 := by
  rw [PySem.W.dataLe_eq] at h
  have e : PySem.W.dataLt (encE b) (encE a) = false := by simpa using h
  unfold encE at e
  have al : PySem.W.alike (PyData.tuple (encI b.2)) (.tuple (encI a.2)) = true := PySem.W.alike_ints b.2 a.2
  rw [PySem.W.dataLt_pair (by rfl) al] at e
  by_cases z : PyData.eqv (.int b.1) (.int a.1) = true
  · have : b.1 = a.1 := by simpa [PyData.eqv] using z
    omega
  · rw [if_neg z, PySem.W.dataLt_int] at e
    have := of_decide_eq_false e
    omega
theorem sort_put {q : Int} {l : List Int} {kn : List (Int × List Int)} (h : Rising kn) : (putI q l kn).mergeSort (PySem.W.dataLe false encE) = ins q l kn := by
  refine sorted_is ((List.mergeSort_perm _ _).trans (put_perm h)) ?_ (rising_pw (ins_rising h))
  have t : PySem.W.TotalLe (PySem.W.dataLe false encE) := PySem.W.sortLe_total _ _ _
  exact (PySem.W.sort_pairwise t _).imp le_keys
theorem sort_same {kn : List (Int × List Int)} (h : Rising kn) : kn.mergeSort (PySem.W.dataLe false encE) = kn := by
  refine sorted_is (List.mergeSort_perm _ _) ?_ (rising_pw h)
  have t : PySem.W.TotalLe (PySem.W.dataLe false encE) := PySem.W.sortLe_total _ _ _
  exact (PySem.W.sort_pairwise t _).imp le_keys
end DL
end
section
set_option Elab.async false
set_option linter.all false
set_option maxRecDepth 100000
set_option maxHeartbeats 4000000
/-! The data layer: the walk's rules for dicts from ints to tuples of ints. -/
namespace DL
open PySem PySem.Spec PyProof.Rows L2 Mi
section
variable {X : Cx} {σ : L2.St} {Hk Hq H : Hp} {e a b c o f : Expr} {es : List Expr} {x y z : Sp1} {pos apos cpos : Pos} {D : Ends} {rest : List Stmt}

/-! ### dict(t), t a tuple of pairs -/
theorem pl_obj {pins : List (Addr × Obj)} {s : Shared} {p : Addr} {xs : List V} (I : Inv X pins σ H s) (h : PlT H p xs) : ∃ (us : List Value) (ob : Obj) (n : Nat), Vals xs us ∧ s.heap.get? p = some ob ∧ ob.cls = .type "tuple" ∧ ob.dict = none ∧ ob.data = .seq us.toArray n ∧ xs.length ≤ sizeLine := by
  obtain ⟨ob, e, c, d⟩ := h
  obtain ⟨g, z, us, r, ob', g', c', n, d'⟩ := (show ObjOk X.prog X.w H s.heap p (.frz ob (.tup xs)) from I.hok p _ e)
  rw [g] at g'
  cases g'
  exact ⟨us, ob, n, r, g, c, d, d', z⟩
/-- the dict that is made: its pairs in their order, a key that comes again in its first place -/
def rDictT (K : PySem.W.Frag) : List V → Hp → VK → Prop := fun vs H Q => ∃ (Hk : Hp) (p : Addr) (xs : List V) (kn : List (Int × List Int)), vs = [.ref p] ∧ Same Hk H ∧ PlT Hk p xs ∧ DqAll K Hk xs (kn.map encE) ∧ Rising kn ∧
  ∀ d kvs, H d = none → KvD K Hk kvs kn → Q (.ref d) (upd H d (.dK kvs))
theorem merge_new {K : PySem.W.Frag} : ∀ {kvs : List (Key × V)} {kn : List (Int × List Int)} (acc : List (Key × V)), KvD K Hk kvs kn → Rising kn → (∀ p ∈ kvs, valV acc p.1 = none) → mergeK acc kvs = acc ++ kvs
  | _, _, acc, .nil, _, _ => by simp [mergeK]
  | _, _, acc, @KvD.cons _ _ q l v kvs kn h t, r, n => by
    have e : putK acc (.inl q) v = acc ++ [(.inl q, v)] := putK_new v (n _ List.mem_cons_self)
    have ih := merge_new (acc ++ [((Sum.inl q : Key), v)]) t (rising_head r).2 fun p hp => by
      rw [valV_snoc _ _ _ _ (n _ List.mem_cons_self)]
      have ne : p.1 ≠ .inl q := by
        intro z
        have : ∀ {kvs : List (Key × V)} {kn : List (Int × List Int)}, KvD K Hk kvs kn → ∀ p ∈ kvs, ∃ x ∈ kn, p.1 = .inl x.1 := by
          intro kvs kn t
          induction t with
          | nil => exact fun _ h => nomatch h
          | cons h t ih =>
            intro p hp
            rcases List.mem_cons.mp hp with e | e
            · exact ⟨_, List.mem_cons_self, by rw [e]⟩
            · obtain ⟨x, hx, e⟩ := ih p e
              exact ⟨x, List.mem_cons_of_mem _ hx, e⟩
        obtain ⟨x, hx, e⟩ := this t p hp
        rw [e] at z
        have g := (rising_head r).1 x hx
        have z' := inl_inj.mp z
        show False
        have g' : q < x.1 := g
        omega
      rw [if_neg ne]
      exact n p (List.mem_cons_of_mem _ hp)
    show mergeK (putK acc (.inl q) v) kvs = acc ++ (.inl q, v) :: kvs
    rw [e, ih]
    simp
/-- the pairs, each by its tuple, its key, its value -/
structure Pr where
  at_ : Addr
  key : Key
  val : V
  kv : Value
  vv : Value
theorem all_pairs {pins : List (Addr × Obj)} {s : Shared} (I : Inv X pins σ H s) (sm : Same Hk H) : ∀ {kn : List (Int × List Int)} {xs : List V}, DqAll X.K Hk xs (kn.map encE) → ∃ L : List Pr, xs = (L.map (·.at_)).map V.ref ∧ L.length = kn.length ∧ KvD X.K Hk (L.map fun z => (z.key, z.val)) kn ∧
    ∀ z ∈ L, keyIs z.key z.kv = true ∧ RelV z.val z.vv ∧ s.heap.IsTuple z.at_ #[z.kv, z.vv]
  | [], _, h => by cases h; exact ⟨[], rfl, rfl, .nil, fun _ h => nomatch h⟩
  | (q, l) :: kn, _, h => by
    cases h with
    | cons h1 h2 =>
      obtain ⟨L, e, h4, h3, h5⟩ := all_pairs I sm h2
      obtain ⟨p, ys, e1, hp, hy⟩ := dp_tup h1
      cases hy with
      | cons g1 g2 =>
        cases g2 with
        | @cons vv _ _ _ g2 g3 =>
          cases g3
          have e := dp_int g1
          subst e
          obtain ⟨us, ob, n, rv, ho, hcl, hd, hdat, hz⟩ := pl_obj I (hp.up sm)
          obtain ⟨t, u, rfl, ru⟩ : ∃ t u, us = [.int q t, u] ∧ RelV vv u := by
            cases rv with
            | cons r1 r2 =>
              cases r2 with
              | cons r2 r3 =>
                cases r3
                obtain ⟨t, rfl⟩ := r1
                exact ⟨t, _, rfl, r2⟩
          refine ⟨⟨p, .inl q, vv, .int q t, u⟩ :: L, by rw [e1]; simp_all, by simp [h4], .cons g2 h3, fun z hz => ?_⟩
          rcases List.mem_cons.mp hz with e | e
          · rw [e]
            exact ⟨keyIs_int q t, ru, ob, ho, hcl, n, hdat⟩
          · exact h5 z e
theorem kv_maps {L : List Pr} (h : ∀ z ∈ L, RelV z.val z.vv) : KV (L.map fun z => (z.key, z.val)) (L.map fun z => (z.key, z.vv)) := by
  induction L with
  | nil => exact .nil
  | cons z L ih => exact .cons ⟨rfl, h z List.mem_cons_self⟩ (ih fun y hy => h y (List.mem_cons_of_mem _ hy))
theorem kv_none {K : PySem.W.Frag} {kvs : List (Key × V)} : ∀ p ∈ kvs, valV ([] : List (Key × V)) p.1 = none := fun _ _ => rfl
theorem cr_dictT (hc : X.calm = true) : CallR X (.type "dict") (rDictT X.K) := by
  intro pins s σ H vs us Q I r q
  obtain ⟨Hk, p, xs, kn, rfl, sm, hp, hx, hr, q⟩ := q
  obtain ⟨u, rfl, ru⟩ := vals1 r
  cases ru
  obtain ⟨L, rfl, hl, kv, hL⟩ := all_pairs I sm hx
  obtain ⟨its, ob, n, rv, ho, hcl, hd, hdat, hz⟩ := pl_obj I (hp.up sm)
  have ei := refs_at rv
  subst ei
  have hat : ∀ (j : Nat) (z : Pr), L[j]? = some z → (((L.map (·.at_)).map Value.ref).toArray)[j]? = some (.ref z.at_) := fun j z e => by simp [e]
  let T0 : Pr := ⟨0, .inl 0, .non, .none, .none⟩
  refine PySem.call_dict_pairs (knd := mixKind X.prog X.w) (kvs := L.map fun z => (z.key, z.vv)) (PairArg.tuple p ((L.map (·.at_)).map Value.ref).toArray (fun j => (L.getD j T0).at_) (L.map fun z => (z.kv, z.vv))) (I.ok.hd hc)
    ⟨⟨ob, n, ho, hcl, hd, hdat⟩, by simp, fun j k v e => ?_⟩ ⟨by simp, fun i key v e => ?_⟩ (by
      simp only [List.length_map] at hz ⊢
      exact hz) fun h' tk hd' hk => ?_
  · rw [List.getElem?_map] at e
    obtain ⟨z, hz', ez⟩ := Option.map_eq_some_iff.mp e
    cases ez
    have e2 : L.getD j T0 = z := by simp [List.getD, hz']
    show (((L.map (·.at_)).map Value.ref).toArray)[j]? = some (.ref (L.getD j T0).at_) ∧ PairAt s.heap (L.getD j T0).at_ z.kv z.vv
    rw [e2]
    exact ⟨hat j z hz', .inl (hL z (List.mem_of_getElem? hz')).2.2⟩
  · have e' : (L.map fun z => (z.kv, z.vv))[i]? = some (key, v) := e
    rw [List.getElem?_map] at e'
    obtain ⟨z, hz', ez⟩ := Option.map_eq_some_iff.mp e'
    cases ez
    exact ⟨z.key, by rw [List.getElem?_map, hz']; rfl, (hL z (List.mem_of_getElem? hz')).1⟩
  · have hm : (s.heap.objs.size == sysModules) = false := beq_eq_false_iff_ne.mpr (Nat.ne_of_gt I.big)
    have em : mergeK [] (L.map fun z => (z.key, z.val)) = L.map fun z => (z.key, z.val) := by
      rw [merge_new [] kv hr fun _ _ => rfl]
      rfl
    have hrel := KV.merge (kv_maps fun z hz => (hL z hz).2.1) (.nil : KV ([] : List (Key × V)) [])
    rw [em] at hrel
    refine ⟨.ref s.heap.objs.size, upd H s.heap.objs.size (.dK (L.map fun z => (z.key, z.val))), I.laid (t' := tk) (fun b u e => hk b u (fun z => nomatch z) e) (Nat.le_refl _) (show ObjOk X.prog X.w _ _ _ (.dK (L.map fun z => (z.key, z.val))) from ⟨?_, hm, _, hrel, hd'⟩), rfl, q _ _ (I.hok.fresh (Nat.le_refl _)) kv⟩
    simp only [List.length_map] at hz ⊢
    exact hz
/-- d = dict(t) -/
theorem xs_dict {i : Nat} {n m : Str} {pn p : Pos} {kn : List (Int × List Int)} (s : Same Hk H) (hc : X.calm = true) (hm : X.mg m = none) (h : VE X σ Hk e (.dat (.tuple (kn.map encE)))) (hr : Rising kn)
    (k : ∀ d kvs Hk2 H2, Ext M0 Hk H Hk2 H2 → H d = none → Hk2 d = none → H2 d = some (.dK kvs) → KvD X.K Hk2 kvs kn → WSs X rest D (σ.set i (some (.ref d))) H2)
    (hN : X.N.Nodup) (hi : X.N[i]? = some n := by rfl) (hx : Loc X.env.scope n := by first | exact Or.inl rfl | exact Or.inr rfl) (hs : swapsWith (.Call (.Name m p) [e] [] cpos) (some (.Name n pn)) pos.line X.env = pure false := by rfl) (hf : X.fn n = true ∨ X.env.scope.names.lookup n = some .local := by first | exact .inl rfl | exact .inr rfl)
    (hb : bootBuiltins m = some (.type "dict") := by decide +kernel) (hg : Gl X m := by rfl) (hn : m ≠ "__name__" := by decide) (hdb : (m == ("__debug__" : Str)) = false := by decide) (he : starEach [e] X.env = (false, eval e X.env) :: starEach [] X.env := by rfl) :
    WSs X (.Assign [.Name n pn] (.Call (.Name m p) [e] [] cpos) pos :: rest) D σ H :=
  wss_cons (ws (ps_set hN hi hx (pe_callTy (cr_dictT hc) hg hm hb (pa_cons pe_w pa_nil he) hn hdb he) hs hf) (h H s _ fun v Hk1 H1 E1 i1 => by
    obtain ⟨a, xs, rfl, hp, hx'⟩ := dp_tup i1
    exact ⟨Hk1, a, xs, kn, rfl, E1.sub, hp, hx', hr, fun d kvs nd kv => k d kvs Hk1 _ (E1.trans (Ext.allocM E1.sub nd)) (E1.same.free nd) (E1.sub.free nd) upd_same kv⟩))

/-! ### d.get(k, ()) -/
theorem ve_get2 {d : Addr} {kvs : List (Key × V)} {kn : List (Int × List Int)} {q : Int} (hu : X.A.units + 1 < cLine) (ho : VE X σ Hk o (.val (.ref d))) (hd : Hk d = some (.dK kvs)) (kv : KvD X.K Hk kvs kn) (he : VE X σ Hk e (.dat (.int q))) (hf : VE X σ Hk f (.dat (.tuple [])))
    (m : M2 X o "get" apos e f cpos := by exact ⟨rfl, rfl, rfl, rfl⟩) : VE X σ Hk (.Call (.Attribute o "get" apos) [e, f] [] cpos) (.dat (.tuple (encI (at_ kn q)))) :=
  ve_of (pe_dget2 hu pe_w pe_w pe_w m) fun H s Q k => ho H s _ fun v Hk1 H1 E1 i1 => ⟨d, i1, .inl ⟨kvs, .inl (E1.same _ _ (s _ _ hd))⟩, (he.up E1.kk) H1 E1.sub _ fun y Hk2 H2 E2 i2 => ((hf.up E1.kk).up E2.kk) H2 E2.sub _ fun z Hk3 H3 E3 i3 => by
    have e := dp_int i2
    subst e
    have E := (E1.trans E2).trans E3
    have hd3 : H3 d = some (.dK kvs) := E.same _ _ (s _ _ hd)
    refine ⟨valV kvs (.inl q), .inl ⟨kvs, .inl q, .inl hd3, rfl, rfl⟩, ?_⟩
    rcases (kv.up E.kk).get (q := q) with ⟨h1, h2⟩ | ⟨l, v', h1, h2, h3⟩
    · rw [h2]
      have e2 : at_ kn q = [] := by unfold at_; rw [h1]; rfl
      rw [e2] at k
      exact k _ Hk3 H3 E i3
    · rw [h2]
      have e2 : at_ kn q = l := by unfold at_; rw [h1]; rfl
      rw [e2] at k
      exact k _ Hk3 H3 E h3⟩

/-! ### d[k] = v -/
theorem xs_dput {d : Addr} {kvs : List (Key × V)} {q : Int} {pos' : Pos} (hu : X.A.units + 1 < cLine) (s : Same Hk H) (hv : VE X σ Hk e x) (ho : VE X σ Hk o (.val (.ref d))) (hi : VE X σ Hk b (.dat (.int q))) (hd : Hk d = some (.dK kvs)) (hz : kvs.length < 1000000)
    (k : ∀ v Hk2 H2, Ext M0 Hk H Hk2 H2 → Is X.K Hk2 v x → WSs X rest D σ (upd H2 d (.dK (putK kvs (.inl q) v)))) (hs : swapsWith e (some (.Subscript o b pos')) pos.line X.env = pure false := by rfl) : WSs X (.Assign [.Subscript o b pos'] e pos :: rest) D σ H :=
  wss_cons (ws (ps_dput hu pe_w pe_w pe_w hs) (hv H s _ fun v Hk1 H1 E1 i1 => (ho.up E1.kk) H1 E1.sub _ fun o' Hk2 H2 E2 i2 => ((hi.up E1.kk).up E2.kk) H2 E2.sub _ fun y Hk3 H3 E3 i3 => by
    have e := dp_int i3
    subst e
    have E := (E1.trans E2).trans E3
    exact ⟨d, _, i2, DPut.k (k := .inl q) (E.same _ _ (s _ _ hd)) (Nat.lt_of_lt_of_le hz (by rw [sizeLine_eq]; decide)), k v Hk3 H3 E ((i1.up E2.kk).up E3.kk)⟩))
end
end DL
end
section
set_option Elab.async false
set_option linter.all false
set_option maxRecDepth 100000
set_option maxHeartbeats 4000000
/-! The data layer: sorted(d.items()). -/
namespace DL
open PySem PySem.Spec PyProof.Rows L2 Mi
section
variable {X : Cx} {σ : L2.St} {Hk Hq H : Hp} {e a b c o f : Expr} {es : List Expr} {x y z : Sp1} {pos apos cpos : Pos} {D : Ends} {rest : List Stmt}
def rItemsK : V → List V → Hp → VK → Prop := fun x xs H Q => ∃ (a : Addr) (kvs : List (Key × V)), x = .ref a ∧ xs = [] ∧ H a = some (.dK kvs) ∧ ∀ p, H p = none → Q (.ref p) (upd H p (DX.itemsO p a))
theorem raw_of {pins : List (Addr × Obj)} {s : Shared} {d : Addr} {kvs : List (Key × V)} (I : Inv X pins σ H s) (h : H d = some (.dK kvs)) : ∃ (es : Array DictEntry) (ep : Nat) (vs : List (Key × Value)), DT.Raw s.heap d es ep ∧ KV kvs vs ∧ Pairs (mixKind X.prog X.w) es.toList vs ∧ (d == sysModules) = false ∧ kvs.length ≤ sizeLine := by
  obtain ⟨z, hd, vs, rel, ob, es, ep, ho, hx, hdat, _, hp, _⟩ := dk_of I.hok h
  exact ⟨es, ep, vs, ⟨ob, ho, hx, hdat⟩, rel, hp, hd, z⟩
theorem mt_itemsK : MtR X "dict.items" rItemsK := by
  intro pins s σ H x xs v us Q I rx rxs h
  obtain ⟨a, kvs, rfl, rfl, ha, q⟩ := h
  cases rx
  cases rxs
  obtain ⟨es, ep, vs, raw, _, _, hd, _⟩ := raw_of I ha
  refine DT.callItems (es := es) (ep := ep) hd raw ?_
  exact ⟨.ref s.heap.objs.size, upd H s.heap.objs.size (DX.itemsO s.heap.objs.size a), I.laid (t' := s.toks) (fun b u e => Heap.get?_push_of_some _ e) (Nat.le_refl _) (DX.itemsO_ok (Heap.get?_push_size _ rfl)), rfl, q _ (I.hok.fresh (Nat.le_refl _))⟩
/-- tuples already laid are tracked -/
theorem takeP {pins : List (Addr × Obj)} {H0 : Hp} {s : Shared} {h' : Heap} {tk : Nat} (I0 : Inv X pins σ H0 s) : ∀ (L : List (Addr × Obj × List V)) (Hk1 H1 : Hp), Inv X pins σ H1 { s with heap := h', toks := tk } → Same Hk1 H1 → (L.map (·.1)).Nodup →
    (∀ z ∈ L, s.heap.objs.size ≤ z.1 ∧ H1 z.1 = none ∧ ∀ H2, ObjOk X.prog X.w H2 h' z.1 (.frz z.2.1 (.tup z.2.2))) →
    ∃ Hk2 H2, Inv X pins σ H2 { s with heap := h', toks := tk } ∧ Ext M0 Hk1 H1 Hk2 H2 ∧ (∀ z ∈ L, Hk2 z.1 = some (.frz z.2.1 (.tup z.2.2))) ∧ ∀ c, c ∉ L.map (·.1) → H2 c = H1 c
  | [], Hk1, H1, I1, s1, _, _ => ⟨Hk1, H1, I1, Ext.refl s1, (fun _ h => nomatch h), fun _ _ => rfl⟩
  | z :: L, Hk1, H1, I1, s1, hn, h => by
    obtain ⟨hb, hnone, ok⟩ := h z (List.mem_cons_self ..)
    have I2 : Inv X pins σ (upd H1 z.1 (.frz z.2.1 (.tup z.2.2))) { s with heap := h', toks := tk } := I1.take (h' := h') (t' := tk) (fun b ob _ e => e) (I0.fpOk hb hnone) (ok _)
    rw [List.map_cons, List.nodup_cons] at hn
    have E1 : Ext M0 Hk1 H1 (upd Hk1 z.1 (.frz z.2.1 (.tup z.2.2))) (upd H1 z.1 (.frz z.2.1 (.tup z.2.2))) := Ext.alloc s1 hnone
    obtain ⟨Hk2, H2, I3, E2, g, q⟩ := takeP I0 L _ _ I2 E1.sub hn.2 fun c hc => by
      obtain ⟨c1, c2, c3⟩ := h c (List.mem_cons_of_mem _ hc)
      exact ⟨c1, by rw [upd_ne (fun w => hn.1 (by rw [← w]; exact List.mem_map_of_mem hc))]; exact c2, c3⟩
    refine ⟨Hk2, H2, I3, E1.trans E2, fun c hc => ?_, fun c hc => ?_⟩
    · rcases List.mem_cons.mp hc with rfl | hc
      · exact E2.kk _ _ upd_same
      · exact g c hc
    · rw [List.map_cons, List.mem_cons, not_or] at hc
      rw [q c hc.2, upd_ne hc.1]
theorem readsI_nil {h : Heap} : ∀ {l : List Int} {vs : List Value} {as : List Addr}, ReadsAll h vs (encI l) as → as = []
  | [], _, _, r => by cases r; rfl
  | i :: l, _, _, r => by
    cases r with
    | cons r1 r2 =>
      have e := readsI_nil r2
      subst e
      cases r1
      rfl
theorem readsT_nil {h : Heap} {l : List Int} {v : Value} {as : List Addr} (r : Reads h v (.tuple (encI l)) as) : as = [] := by
  cases r with
  | tuple _ _ _ r => exact readsI_nil r
theorem each_of_idx {α β : Type} {R : α → β → Prop} : ∀ {as : List α} {bs : List β}, as.length = bs.length → (∀ (j : Nat) a b, as[j]? = some a → bs[j]? = some b → R a b) → PySem.W.EachIs R as bs
  | [], [], _, _ => .nil
  | a :: as, b :: bs, h, f => .cons (f 0 a b rfl rfl) (each_of_idx (by simpa using h) fun j a b e1 e2 => f (j + 1) a b e1 e2)
  | [], _ :: _, h, _ => by simp at h
  | _ :: _, [], h, _ => by simp at h
theorem pairs_idx {K : Type} [DecidableEq K] {prog : Program} {w : World} {knd : KeyKind prog w K} : ∀ {es : List DictEntry} {kvs : List (K × Value)} {j : Nat} {kv : K × Value}, Pairs knd es kvs → kvs[j]? = some kv → ∃ e, es[j]? = some e ∧ knd.is kv.1 e.key = true ∧ e.val = kv.2
  | _, _, _, _, .nil, h => by simp at h
  | _, _, 0, _, .cons h1 h2 _, h => by cases h; exact ⟨_, rfl, h1, h2⟩
  | _, _, j + 1, _, .cons _ _ t, h => pairs_idx (j := j) t h
theorem pairs_len {K : Type} [DecidableEq K] {prog : Program} {w : World} {knd : KeyKind prog w K} : ∀ {es : List DictEntry} {kvs : List (K × Value)}, Pairs knd es kvs → es.length = kvs.length
  | _, _, .nil => rfl
  | _, _, .cons _ _ t => by rw [List.length_cons, List.length_cons, pairs_len t]
theorem kv_idx : ∀ {kvs : List (Key × V)} {vs : List (Key × Value)} {j : Nat} {kv : Key × V}, KV kvs vs → kvs[j]? = some kv → ∃ u, vs[j]? = some (kv.1, u) ∧ RelV kv.2 u
  | _, _, _, _, .nil, h => by simp at h
  | _, _, 0, _, @Paired.cons _ _ _ p q _ _ h1 _, h => by
    cases h
    exact ⟨q.2, by rw [List.getElem?_cons_zero, h1.1], h1.2⟩
  | _, _, j + 1, _, .cons _ t, h => kv_idx (j := j) t h
theorem kvd_idx {K : PySem.W.Frag} : ∀ {kvs : List (Key × V)} {kn : List (Int × List Int)} {j : Nat} {p : Int × List Int}, KvD K Hk kvs kn → kn[j]? = some p → ∃ v, kvs[j]? = some (.inl p.1, v) ∧ Dq K Hk v (.tuple (encI p.2))
  | _, _, _, _, .nil, h => by simp at h
  | _, _, 0, _, .cons h1 _, h => by cases h; exact ⟨_, rfl, h1⟩
  | _, _, j + 1, _, .cons _ t, h => kvd_idx (j := j) t h
def rSortK (K : PySem.W.Frag) : List V → Hp → VK → Prop := fun vs H Q => ∃ (Hk : Hp) (p d : Addr) (kvs : List (Key × V)) (kn : List (Int × List Int)), vs = [.ref p] ∧ Same Hk H ∧ H p = some (DX.itemsO p d) ∧ H d = some (.dK kvs) ∧ KvD K Hk kvs kn ∧ kn.length ≤ 1000 ∧
  ∀ v Hk2 H2, Ext M0 Hk H Hk2 H2 → Dq K Hk2 v (.list ((kn.mergeSort (PySem.W.dataLe false encE)).map encE)) → Q v H2
theorem cr_sortK (hc : X.calm = true) (hu : X.A.units + 64 < cLine) : CallR X (.builtin "sorted") (rSortK X.K) := by
  intro pins s σ H vs us Q I r h
  obtain ⟨Hk, p, d, kvs, kn, rfl, sm, hp, hd, kv, hkn, q⟩ := h
  obtain rfl := Vals.ref1 r
  have view : s.heap.IsItemsView p d := (show ObjOk X.prog X.w H s.heap p (DX.itemsO p d) from I.hok p _ hp).1
  obtain ⟨es, ep, ws, raw, rel, pr, _, hz⟩ := raw_of I hd
  have l1 : kvs.length = kn.length := kv.len
  have l2 : kvs.length = ws.length := Paired.length rel
  have l3 : es.size = ws.length := by rw [← pairs_len pr]; simp
  have hh : X.A.handled = none := I.ok.hd hc
  refine DT.sortedI (es := es) (ep := ep) hh view raw (by rw [sizeLine_eq]; omega) fun h' tk as hk hlt hl hG => ?_
  have lak : as.length = kn.length := by omega
  have nd : as.Nodup := List.Pairwise.imp (fun h => Nat.ne_of_lt h) hG.rise
  -- each pair that was made
  have pr1 : ∀ (j : Nat) (b : Addr) (k : Int × List Int), as[j]? = some b → kn[j]? = some k → ∃ (t : Tok) (v : V) (u : Value), h'.get? b = some { cls := .type "tuple", data := .seq #[Value.int k.1 t, u] } ∧ RelV v u ∧ Dq X.K Hk v (.tuple (encI k.2)) := by
    intro j b k hj hk'
    obtain ⟨en, he, hg⟩ := hG.pairs j b hj
    obtain ⟨v, hv, dv⟩ := kvd_idx kv hk'
    obtain ⟨u, hu', ru⟩ := kv_idx rel hv
    obtain ⟨en', he', h1, h2⟩ := pairs_idx pr hu'
    have e : en' = en := by
      have := (show es.toList[j]? = es[j]? by simp)
      rw [this, he] at he'
      exact (Option.some.inj he').symm
    subst e
    obtain ⟨t, ek⟩ : ∃ t, en'.key = Value.int k.1 t := by
      rcases keyIs_shape (k := .inl k.1) (v := en'.key) h1 with ⟨i, t, e1, e2⟩ | ⟨i, t, e1, e2⟩
      · cases e1
        exact ⟨t, e2⟩
      · cases e1
    rw [ek, h2] at hg
    exact ⟨t, v, u, hg, ru, dv⟩
  have hob : (h'.push { cls := .type "list", data := .seq (as.map Value.ref).toArray }).get? h'.objs.size = some (seqObj "list" (as.map Value.ref).toArray 0) := Heap.get?_push_size _ rfl
  have kb : ∀ b o, s.heap.get? b = some o → (h'.push { cls := .type "list", data := .seq (as.map Value.ref).toArray }).get? b = some o := fun b o e => Heap.get?_push_of_some _ (hk b o e)
  have ne0 : ∀ b o, h'.get? b = some o → b ≠ h'.objs.size := fun b o e => Nat.ne_of_lt (Heap.lt_size e)
  generalize hh2 : h'.push { cls := .type "list", data := .seq (as.map Value.ref).toArray } = h2 at hob kb ⊢
  have ka : ∀ b o, h'.get? b = some o → h2.get? b = some o := fun b o e => by rw [← hh2]; exact Heap.get?_push_of_some _ e
  have zl : (as.zip kn).length = kn.length := by rw [List.length_zip]; omega
  have ix : ∀ (j : Nat) (v : Value) (b : Addr × Int × List Int), (as.map Value.ref)[j]? = some v → (as.zip kn)[j]? = some b → v = .ref b.1 ∧ as[j]? = some b.1 ∧ kn[j]? = some b.2 := by
    intro j v b h1 h2
    obtain ⟨g1, g2⟩ := List.getElem?_zip_eq_some.mp h2
    rw [List.getElem?_map, g1] at h1
    exact ⟨(Option.some.inj h1).symm, g1, g2⟩
  refine PySem.W.list_sort_data (s := { s with heap := h2, toks := tk }) (A := X.A.in1) (a := h'.objs.size) (n := 0) (vs := as.map Value.ref) (bs := as.zip kn) (enc := fun b => encE b.2) (R := fun v b => v = .ref b.1 ∧ b ∈ as.zip kn) hob
    (each_of_idx (by rw [List.length_map]; omega) fun j v b h1 h2 => ⟨(ix j v b h1 h2).1, List.mem_of_getElem? h2⟩)
    (each_of_idx (by rw [List.length_map]; omega) fun j v b h1 h2' => ?_) (PySem.W.AllAlike.of fun b b' => encE_alike b.2 b'.2) (PySem.W.Sortable.tuples fun b => ⟨_, _, rfl⟩) (by rw [zl, sizeLine_eq]; omega) (fun b _ => ?_) fun out lo ho => ?_
  · obtain ⟨rfl, g1, g2⟩ := ix j v b h1 h2'
    obtain ⟨t, v', u, hg, ru, dv⟩ := pr1 j b.1 b.2 g1 g2
    obtain ⟨rs, rd⟩ := Dp.reads I _ v' u (dq_dp _ _ (dv.up sm)) ru
    have rd2 : Reads h2 u (.tuple (encI b.2.2)) rs := PyProof.Rows.Reads.keeps kb rd
    have en := readsT_nil rd2
    subst en
    exact ⟨[] ++ ([] ++ []), .tuple (ka _ _ hg) rfl rfl (.cons (.int _ _) (.cons rd2 .nil)), by simp⟩
  · have e : (encE b.2).depth ≤ 2 := by
      show PyData.depth (.tuple [.int b.2.1, .tuple (encI b.2.2)]) ≤ 2
      have z : PyData.depthAll (encI b.2.2) = 0 := PySem.W.depth_ints _
      simp [PyData.depth, PyData.depthAll, z]
    show X.A.units + 1 + 1 + (encE b.2).depth < cLine
    omega
  · -- the sorted pairs
    have hsm : ((as.zip kn).mergeSort (PySem.W.dataLe false fun b => encE b.2)).map (·.2) = kn.mergeSort (PySem.W.dataLe false encE) := by
      rw [PySem.W.sort_maps (r := PySem.W.dataLe false fun b : Addr × Int × List Int => encE b.2) (s := PySem.W.dataLe false encE) (fun b : Addr × Int × List Int => b.2) (fun a _ b _ => rfl), List.map_snd_zip (by omega)]
    have hperm := List.mergeSort_perm (as.zip kn) (PySem.W.dataLe false fun b => encE b.2)
    generalize hbs : (as.zip kn).mergeSort (PySem.W.dataLe false fun b => encE b.2) = bs at ho hsm hperm
    have kF : ∀ b o, b ≠ h'.objs.size → h2.get? b = some o → (sortedHeap h2 h'.objs.size (as.map Value.ref) out.toArray).get? b = some o := fun b o hb e => (PyProof.Rows.sortedHeap_old hb (Heap.lt_size e)).trans e
    have kS : ∀ b o, s.heap.get? b = some o → (sortedHeap h2 h'.objs.size (as.map Value.ref) out.toArray).get? b = some o := fun b o e => kF b o (ne0 _ _ (hk b o e)) (kb b o e)
    obtain ⟨eF, heF⟩ := PyProof.Rows.sortedHeap_at (vs := as.map Value.ref) (out := out.toArray) hob
    have hn0 : H h'.objs.size = none := I.hok.fresh (Nat.le_of_lt hlt)
    have hout : out = bs.map fun z => Value.ref z.1 := by
      clear lo heF hperm hsm hbs kF kS
      induction ho with
      | nil => rfl
      | cons h1 _ ih => rw [List.map_cons, ← ih, h1.1]
    have I1 : Inv X pins σ H { s with heap := sortedHeap h2 h'.objs.size (as.map Value.ref) out.toArray, toks := tk } := I.kept (t' := tk) kS
    -- the tuples, with the values known to them
    have tup : ∀ b ∈ bs, ∃ (t : Tok) (v : V) (u : Value), h'.get? b.1 = some { cls := .type "tuple", data := .seq #[Value.int b.2.1 t, u] } ∧ RelV v u ∧ Dq X.K Hk v (.tuple (encI b.2.2)) ∧ s.heap.objs.size ≤ b.1 := by
      intro b hb
      obtain ⟨j, hj⟩ := List.mem_iff_getElem?.mp (hperm.mem_iff.mp hb)
      obtain ⟨g1, g2⟩ := List.getElem?_zip_eq_some.mp hj
      obtain ⟨t, v, u, a1, a2, a3⟩ := pr1 j b.1 b.2 g1 g2
      exact ⟨t, v, u, a1, a2, a3, Nat.le_of_lt (hG.above _ (List.mem_of_getElem? g1))⟩
    have ndb : (bs.map (·.1)).Nodup := by
      have e := hperm.map (·.1)
      rw [List.map_fst_zip (by omega)] at e
      exact e.nodup_iff.mpr nd
    -- a list of what is to be tracked
    have mk : ∀ (l : List (Addr × Int × List Int)), (∀ b ∈ l, b ∈ bs) → ∃ L : List (Addr × Obj × List V), L.map (·.1) = l.map (·.1) ∧ (∀ z ∈ L, s.heap.objs.size ≤ z.1 ∧ z.1 ≠ h'.objs.size ∧ H z.1 = none ∧ z.2.1.cls = .type "tuple" ∧ z.2.1.dict = none ∧ ∀ H2, ObjOk X.prog X.w H2 (sortedHeap h2 h'.objs.size (as.map Value.ref) out.toArray) z.1 (.frz z.2.1 (.tup z.2.2))) ∧
        ∀ Hk2, Same Hk Hk2 → (∀ z ∈ L, Hk2 z.1 = some (.frz z.2.1 (.tup z.2.2))) → DqAll X.K Hk2 (l.map fun z => V.ref z.1) (l.map fun z => encE z.2) := by
      intro l
      induction l with
      | nil => exact fun _ => ⟨[], rfl, (fun _ h => nomatch h), fun _ _ _ => .nil⟩
      | cons b l ih =>
        intro hm
        obtain ⟨L, e1, e2, e3⟩ := ih fun c hc => hm c (List.mem_cons_of_mem _ hc)
        obtain ⟨t, v, u, a1, a2, a3, a4⟩ := tup b (hm b List.mem_cons_self)
        refine ⟨(b.1, { cls := .type "tuple", data := .seq #[Value.int b.2.1 t, u] }, [.int b.2.1, v]) :: L, by simp [e1], fun z hz => ?_, fun Hk2 k2 h => ?_⟩
        · rcases List.mem_cons.mp hz with rfl | hz
          · exact ⟨a4, ne0 _ _ a1, I.hok.fresh a4, rfl, rfl, fun H2 => ⟨kF _ _ (ne0 _ _ a1) (ka _ _ a1), by show 2 ≤ sizeLine; rw [sizeLine_eq]; decide, [Value.int b.2.1 t, u], .cons ⟨t, rfl⟩ (.cons a2 .nil), _, kF _ _ (ne0 _ _ a1) (ka _ _ a1), rfl, 0, rfl⟩⟩
          · exact e2 z hz
        · rw [List.map_cons, List.map_cons]
          exact .cons (.tup ⟨_, h _ List.mem_cons_self, rfl, rfl⟩ (.cons (.int _) (.cons (a3.up k2) .nil))) (e3 Hk2 k2 fun z hz => h z (List.mem_cons_of_mem _ hz))
    obtain ⟨L, e1, e2, e3⟩ := mk bs fun _ h => h
    obtain ⟨Hk2, H2, I2, E2, g, qo⟩ := takeP I L Hk H I1 sm (by rw [e1]; exact ndb) fun z hz => ⟨(e2 z hz).1, (e2 z hz).2.2.1, (e2 z hz).2.2.2.2.2⟩
    have hnl : H2 h'.objs.size = none := by
      rw [qo _ fun m => ?_, hn0]
      obtain ⟨z, hz', ez⟩ := List.mem_map.mp m
      exact (e2 z hz').2.1 ez
    have hlen : (bs.map fun z => V.ref z.1).length ≤ sizeLine := by
      have e := hperm.length_eq
      rw [List.length_map, e, zl, sizeLine_eq]
      omega
    have rv : Vals (bs.map fun z => V.ref z.1) out := by
      rw [hout]
      exact vals_maps (fun z : Addr × Int × List Int => V.ref z.1) (fun z => Value.ref z.1) bs fun _ _ => rfl
    have I3 : Inv X pins σ (upd H2 h'.objs.size (.lst (bs.map fun z => V.ref z.1))) { s with heap := sortedHeap h2 h'.objs.size (as.map Value.ref) out.toArray, toks := tk } :=
      I2.take (h' := sortedHeap h2 h'.objs.size (as.map Value.ref) out.toArray) (t' := tk) (fun b ob _ e => e) (I.fpOk (Nat.le_of_lt hlt) hnl) ⟨hlen, out, eF, rv, heF⟩
    refine ⟨.ref h'.objs.size, _, I3, rfl, ?_⟩
    have E3 : Ext M0 Hk2 H2 (upd Hk2 h'.objs.size (.lst (bs.map fun z => V.ref z.1))) (upd H2 h'.objs.size (.lst (bs.map fun z => V.ref z.1))) := Ext.alloc E2.sub hnl
    refine q _ _ _ (E2.trans E3) ?_
    have da := (e3 Hk2 E2.kk g).up E3.kk
    have em : (kn.mergeSort (PySem.W.dataLe false encE)).map encE = bs.map fun z => encE z.2 := by
      rw [← hsm, List.map_map]
      rfl
    rw [em]
    exact .lst upd_same da
/-- sorted(d.items()) -/
theorem ve_sortItems {n : Str} {p : Pos} {d : Addr} {kvs : List (Key × V)} {kn : List (Int × List Int)} (hc : X.calm = true) (hu : X.A.units + 64 < cLine) (hm : X.mg n = none) (ho : VE X σ Hk o (.val (.ref d))) (hd : Hk d = some (.dK kvs)) (kv : KvD X.K Hk kvs kn) (hkn : kn.length ≤ 1000)
    (hb : bootBuiltins n = some (.builtin "sorted") := by decide +kernel) (hg : Gl X n := by rfl) (hn : n ≠ "__name__" := by decide) (hdb : (n == ("__debug__" : Str)) = false := by decide)
    (hpe : PE X (.Call (.Attribute o "items" apos) [] [] cpos) (tBM0 X.K "dict" rItemsK (WE X o)) := by exact pe_bm0 PySem.F.plainAttrs_dict PySem.F.slot_dict_items PySem.F.type_dict_items mt_itemsK pe_w)
    (he : starEach [.Call (.Attribute o "items" apos) [] [] cpos] X.env = (false, eval (.Call (.Attribute o "items" apos) [] [] cpos) X.env) :: starEach [] X.env := by rfl) :
    VE X σ Hk (.Call (.Name n p) [.Call (.Attribute o "items" apos) [] [] cpos] [] pos) (.dat (.list ((kn.mergeSort (PySem.W.dataLe false encE)).map encE))) :=
  ve_of (pe_callB (cr_sortK hc hu) hg hm hb (pa_cons hpe pa_nil he) hn hdb he) fun H s Q k => ho H s _ fun v Hk1 H1 E1 i1 => by
    have e1 : v = .ref d := i1
    subst e1
    have hd1 : H1 d = some (.dK kvs) := E1.same _ _ (s _ _ hd)
    refine ⟨.inr (.inr (.inl ⟨rfl, .inl ⟨kvs, hd1⟩⟩)), d, kvs, rfl, rfl, hd1, fun p np => ?_⟩
    have E2 : Ext M0 Hk1 H1 Hk1 (upd H1 p (DX.itemsO p d)) := Ext.allocM E1.sub np
    exact ⟨Hk1, p, d, kvs, kn, rfl, E2.sub, upd_same, E2.same _ _ hd1, kv.up E1.kk, hkn, fun v Hk2 H2 E3 dv => k v Hk2 H2 ((E1.trans E2).trans E3) dv⟩
end
end DL
end
section
set_option Elab.async false
set_option linter.all false
set_option maxRecDepth 100000
set_option maxHeartbeats 4000000
/-! strided, paired -/
namespace W
open PySem PySem.Spec PyProof.Rows L2 DL Tx Mi
def encR (r : Kn × List Int) : PyData := .tuple [r.1.enc, .list (encI r.2)]
section
variable {P : Program} {w : World} {K : PySem.W.Frag} {mg : Str → Option Value} {base : Heap} {f : Addr} {fd : FuncData}
theorem scStrided : FnScope ["trust", "state", "place", "last", "stride", "times", "far"] ["trust", "state", "place"] (defScope sStrided) := ⟨rfl, rfl, rfl, by decide +kernel, rfl, by decide +kernel, by decide +kernel⟩
def gStrided (as : List Sp1) (r : Sp1) : Prop := ∃ (n : Nat) (l : Option Int) (f0 t0 p : Int), as = [.dat (.int n), .dat (Kn.str l f0 t0).enc, .dat (.int p)] ∧ r = .dat (encR (strided n l f0 t0 p))
theorem ok_strided (T : Tp K w mg) (Fd : Fun K "strided" "strided" sStrided f fd) : FnOk P w K mg base CX0 1 f fd ["trust", "state", "place"] (spD K gStrided) := by
  refine ok_of Fd scStrided (fun as r h => by obtain ⟨_, _, _, _, _, rfl, _⟩ := h; rfl) fun cdv A outer s H Hk vs as r Q hr sm ia g q => ?_
  obtain ⟨n, l, f0, t0, p, rfl, rfl⟩ := g
  obtain _ | ⟨i1, _ | ⟨i2, _ | ⟨i3, _ | _⟩⟩⟩ := ia
  -- last, stride, times = state
  refine xs_asg sm (ve_v 1 rfl i2) (pg_tup rfl (pgs_cons (pg_name (i := 3) scStrided.nd rfl (.inl rfl)) (pgs_cons (pg_name (i := 4) scStrided.nd rfl (.inl rfl)) (pgs_cons (pg_name (i := 5) scStrided.nd rfl (.inl rfl)) pgs_nil)))) fun v Hk1 H1 E1 dv => g_tup3 dv E1.sub fun v1 v2 v3 d1 d2 d3 => ?_
  replace i1 := i1.up E1.kk
  replace i3 := i3.up E1.kk
  cases l with
  | none =>
    refine xs_ifT E1.sub (vt_c (ve_v 3 rfl (y := .dat .none) d1) ve_non (cd_isN rfl)) fun Hk2 H2 E2 => ?_
    exact xs_ret E2.sub (ve_tup (ds := [(Kn.str (some p) 0 0).enc, .list []]) (va_cons (ve_tup (ds := [.int p, .int 0, .int 0]) (va_cons (ve_v 2 rfl (i3.up E2.kk)) (va_cons ve_int (va_cons ve_int va_nil)))) (va_cons (ve_lst (ds := []) va_nil) va_nil)))
      fun v' Hk3 H3 E3 i => q v' Hk3 H3 ((E1.trans E2).trans E3) i
  | some l =>
    refine xs_ifN E1.sub (vt_c (ve_v 3 rfl (y := .dat (.int l)) d1) ve_non (cd_isN rfl)) fun Hk2 H2 E2 => ?_
    refine xs_set E2.sub (ve_sub (ve_v 2 rfl (i3.up E2.kk)) (ve_v 3 rfl (y := .dat (.int l)) (d1.up E2.kk))) (i := 6) (fun v6 Hk3 H3 E3 i6 => ?_) scStrided.nd
    have E := E2.trans E3
    refine xs_set E3.sub (ve_if (x := .dat (.int (if p - l = f0 then t0 + 1 else 1))) (vt_c (ve_v 6 rfl i6) (ve_v 4 rfl (y := .dat (.int f0)) (d2.up E.kk)) cd_eqI) (fun z => (ve_add (ve_v 5 rfl (y := .dat (.int t0)) (d3.up E.kk)) ve_int).is (by rw [if_pos (of_decide_eq_true z)])) fun z => ve_int.is (by rw [if_neg (of_decide_eq_false z)])) (i := 5) (fun v5 Hk4 H4 E4 i5 => ?_) scStrided.nd
    have EE := (E1.trans E).trans E4
    replace i6 := i6.up E4.kk
    replace i1 := (i1.up E.kk).up E4.kk
    replace i3 := (i3.up E.kk).up E4.kk
    refine xs_ret E4.sub (ve_tup (ds := [(Kn.str (some p) (p - l) (if p - l = f0 then t0 + 1 else 1)).enc, .list (encI (strided n (some l) f0 t0 p).2)]) (va_cons (ve_tup (ds := [.int p, .int (p - l), .int (if p - l = f0 then t0 + 1 else 1)]) (va_cons (ve_v 2 rfl i3) (va_cons (ve_v 6 rfl i6) (va_cons (ve_v 5 rfl i5) va_nil))))
      (va_cons (ve_if (x := .dat (.list (encI (strided n (some l) f0 t0 p).2))) (vt_w (vw_and (vt_c (ve_v 6 rfl i6) ve_int cd_neI) fun _ => vw_one (vt_c (ve_v 5 rfl i5) (ve_v 0 rfl i1) cd_ge)))
        (fun z => (ve_lst (ds := [.int (p + (p - l))]) (va_cons (ve_add (ve_v 2 rfl i3) (ve_v 6 rfl i6)) va_nil)).is ?_) fun z => (ve_lst (ds := []) va_nil).is ?_) va_nil)))
      fun v' Hk5 H5 E5 i => q v' Hk5 H5 (EE.trans E5) i
    · have c : p - l ≠ 0 ∧ (n : Int) ≤ (if p - l = f0 then t0 + 1 else 1) := by simpa using z
      simp only [strided]
      rw [if_pos c]
      rfl
    · have c : ¬ (p - l ≠ 0 ∧ (n : Int) ≤ (if p - l = f0 then t0 + 1 else 1)) := by
        intro c
        have : (!decide (p - l = 0) && decide ((n : Int) ≤ (if p - l = f0 then t0 + 1 else 1))) = true := by
          rw [decide_eq_false c.1, decide_eq_true c.2]; rfl
        rw [this] at z
        cases z
      simp only [strided]
      rw [if_neg c]
      rfl

theorem scPaired : FnScope ["many", "state", "place", "last", "known", "behind", "others", "one"] ["many", "state", "place"] (defScope sPaired) := ⟨rfl, rfl, rfl, by decide +kernel, rfl, by decide +kernel, by decide +kernel⟩
def gPaired (as : List Sp1) (r : Sp1) : Prop := ∃ (n : Nat) (l : Option Int) (kn : List (Int × List Int)) (p : Int), 1 ≤ n ∧ Rising kn ∧ kn.length ≤ 900 ∧ (∀ x ∈ kn, x.2.length ≤ 100) ∧ as = [.dat (.int n), .dat (Kn.prs l kn).enc, .dat (.int p)] ∧ r = .dat (encR (paired n l kn p))
theorem at_len {kn : List (Int × List Int)} (h : ∀ x ∈ kn, x.2.length ≤ 100) (q : Int) : (at_ kn q).length ≤ 100 := by
  unfold at_
  induction kn with
  | nil => simp
  | cons x kn ih =>
    rw [List.lookup_cons]
    split
    · exact h x List.mem_cons_self
    · exact ih fun y hy => h y (List.mem_cons_of_mem _ hy)
theorem at_ins {q : Int} {l : List Int} : ∀ {kn : List (Int × List Int)}, Rising kn → ∀ p, at_ (ins q l kn) p = if p = q then l else at_ kn p
  | [], _, p => by
    unfold at_ ins
    rw [List.lookup_cons]
    by_cases e : p = q
    · subst e; simp
    · have e2 : (p == q) = false := beq_eq_false_iff_ne.mpr e
      rw [e2, if_neg e]
  | (k, v) :: r, h, p => by
    have ih := at_ins (q := q) (l := l) (rising_head h).2 p
    unfold ins
    by_cases c : q < k
    · rw [if_pos c]
      unfold at_
      rw [List.lookup_cons]
      by_cases e : p = q
      · subst e; simp
      · have e2 : (p == q) = false := beq_eq_false_iff_ne.mpr e
        rw [e2, if_neg e]
    · rw [if_neg c]
      by_cases e : q = k
      · rw [if_pos e]
        subst e
        unfold at_
        rw [List.lookup_cons, List.lookup_cons]
        by_cases e : p = q
        · subst e; simp
        · have e2 : (p == q) = false := beq_eq_false_iff_ne.mpr e
          rw [e2, if_neg e]
      · rw [if_neg e]
        unfold at_ at ih ⊢
        rw [List.lookup_cons, List.lookup_cons]
        by_cases e2 : p = k
        · subst e2
          rw [if_neg (fun z => e z.symm)]; simp
        · have e3 : (p == k) = false := beq_eq_false_iff_ne.mpr e2
          rw [e3]
          exact ih
theorem at_putI {q : Int} {l : List Int} : ∀ (kn : List (Int × List Int)) (p : Int), at_ (putI q l kn) p = if p = q then l else at_ kn p
  | [], p => by
    unfold putI at_
    rw [if_neg (by simp), List.nil_append, List.lookup_cons]
    by_cases e : p = q
    · subst e; simp
    · have e2 : (p == q) = false := beq_eq_false_iff_ne.mpr e
      rw [e2, if_neg e]
  | (k, v) :: r, p => by
    have ih := at_putI (q := q) (l := l) r p
    unfold putI at ih ⊢
    unfold at_ at ih ⊢
    by_cases e : k = q
    · subst e
      rw [if_pos (by simp), List.map_cons, if_pos rfl, List.lookup_cons, List.lookup_cons]
      by_cases e2 : p = k
      · subst e2; simp
      · have e3 : (p == k) = false := beq_eq_false_iff_ne.mpr e2
        rw [e3, if_neg e2]
        dsimp only
        clear ih
        induction r with
        | nil => rfl
        | cons x r ih2 =>
          obtain ⟨x1, x2⟩ := x
          rw [List.map_cons]
          by_cases e4 : x1 = k
          · subst e4
            rw [if_pos rfl, List.lookup_cons, List.lookup_cons, e3]
            exact ih2
          · rw [if_neg e4, List.lookup_cons, List.lookup_cons]
            by_cases e5 : (p == x1) = true
            · rw [e5]
            · rw [Bool.eq_false_iff.mpr e5]
              exact ih2
    · have e2 : (((k, v) :: r).any fun p => decide (p.1 = q)) = (r.any fun p => decide (p.1 = q)) := by
        rw [List.any_cons, decide_eq_false e, Bool.false_or]
      rw [e2]
      by_cases e3 : (r.any fun p => decide (p.1 = q)) = true
      · rw [if_pos e3] at ih ⊢
        rw [List.map_cons, if_neg e, List.lookup_cons, List.lookup_cons]
        by_cases e4 : (p == k) = true
        · rw [e4, if_neg (fun z => e (by rw [← z]; exact (beq_iff_eq.mp e4).symm))]
        · rw [Bool.eq_false_iff.mpr e4]
          exact ih
      · rw [if_neg e3] at ih ⊢
        rw [List.cons_append, List.lookup_cons, List.lookup_cons]
        by_cases e4 : (p == k) = true
        · rw [e4, if_neg (fun z => e (by rw [← z]; exact (beq_iff_eq.mp e4).symm))]
        · rw [Bool.eq_false_iff.mpr e4]
          exact ih
theorem at_put {q : Int} {l : List Int} {kn : List (Int × List Int)} (h : Rising kn) (p : Int) : at_ (putI q l kn) p = at_ (ins q l kn) p := by rw [at_putI, at_ins h]
theorem ok_paired (T : Tp K w mg) (Fd : Fun K "paired" "paired" sPaired f fd) : FnOk P w K mg base CX0 1 f fd ["many", "state", "place"] (spD K gPaired) := by
  refine ok_of Fd scPaired (fun as r h => by obtain ⟨_, _, _, _, _, _, _, _, rfl, _⟩ := h; rfl) fun cdv A outer s H Hk vs as r Q hr sm ia g q => ?_
  obtain ⟨n, l, kn, p, hn, hR, hkn, hkl, rfl, rfl⟩ := g
  obtain _ | ⟨i1, _ | ⟨i2, _ | ⟨i3, _ | _⟩⟩⟩ := ia
  have hu := hu_of hr
  have hu64 : (A.deeper (envOfC "paired" (defScope sPaired) s.heap.objs.size f cdv)).units + 64 < cLine := hr.units
  -- last, known = state
  refine xs_asg sm (ve_v 1 rfl i2) (pg_tup rfl (pgs_cons (pg_name (i := 3) scPaired.nd rfl (.inl rfl)) (pgs_cons (pg_name (i := 4) scPaired.nd rfl (.inl rfl)) pgs_nil))) fun v Hk1 H1 E1 dv => g_tup2 dv E1.sub fun v1 v2 d1 d2 => ?_
  replace i1 := i1.up E1.kk
  replace i3 := i3.up E1.kk
  -- behind = dict(known)
  refine xs_dict (i := 5) E1.sub rfl T.dict (ve_v 4 rfl (y := .dat (.tuple (kn.map encE))) d2) hR (fun d kvs Hk2 H2 E2 nd nk hd kv => ?_) scPaired.nd
  have hu1 : (A.deeper (envOfC "paired" (defScope sPaired) s.heap.objs.size f cdv)).units + 1 < cLine := hu
  -- the return, from any state
  have tail : ∀ (σ' : L2.St) (vp : V) (Hk3 H3 : Hp) (kvs3 : List (Key × V)) (knx kn' : List (Int × List Int)), Ext (M1 d) Hk1 H1 Hk3 H3 → Hk3 d = none → H3 d = some (.dK kvs3) → KvD K Hk3 kvs3 knx → knx.mergeSort (PySem.W.dataLe false encE) = kn' → at_ knx p = at_ kn' p → knx.length ≤ 1000 →
      σ'[2]? = some (some vp) → Is K Hk3 vp (.dat (.int p)) → σ'[5]? = some (some (.ref d)) → paired n l kn p = (.prs (some p) kn', at_ kn' p) →
      WSs (cxOf CX0 P w K mg base ["many", "state", "place", "last", "known", "behind", "others", "one"] "paired" (defScope sPaired) f cdv A outer s H E0).nox (List.drop 3 (defBody sPaired)) { nx := fun _ H' => Q .non H', rt := Q } σ' H3 := by
    intro σ' vp Hk3 H3 kvs3 knx kn' E3 nk3 hd3 kv3 hs ha hl h2 ip h5 hp
    have s3 := same_know E3.sub hd3
    have ks := same_up (o := .dK kvs3) nk3
    refine xs_ret s3 (ve_tup (ds := [(Kn.prs (some p) kn').enc, .list (encI (at_ kn' p))]) (va_cons (ve_tup (ds := [.int p, .tuple (kn'.map encE)]) (va_cons (ve_v 2 h2 (ip.up ks)) (va_cons (ve_tuple T.tuple ((ve_sortItems rfl hu64 T.sorted (ve_v 5 h5 (y := .val (.ref d)) rfl) (d := d) upd_same (kv3.up ks) hl).is (by rw [hs]))) va_nil)))
      (va_cons ((ve_listT T.list (ve_get2 hu1 (ve_v 5 h5 (y := .val (.ref d)) rfl) upd_same (kv3.up ks) (ve_v 2 h2 (ip.up ks)) (ve_tup (ds := []) va_nil))).is (by rw [ha])) va_nil))) fun v' Hk4 H4 E4 i4 => ?_
    have ed : Hk4 d = some (.dK kvs3) := E4.kk _ _ upd_same
    have E := E3.trans (E4.know nk3 hd3)
    refine q v' (DL.drop Hk4 d) H4 (E1.trans (E.local_ nd)) ?_
    rw [hp]
    exact dq_drop ed noDat_dK _ _ i4
  cases l with
  | none =>
    refine xs_ifN E2.sub (vt_c (ve_v 3 rfl (y := .dat .none) (d1.up E2.kk)) ve_non (cd_notN rfl)) fun Hk3 H3 E3 => ?_
    have hd3 := E3.same _ _ hd
    have tn : H2 d ≠ none := by rw [hd]; exact fun z => by cases z
    exact tail _ _ Hk3 H3 kvs kn kn (E2.trans E3).pure (E3.unk nk tn) hd3 (kv.up E3.kk) (sort_same hR) rfl (by omega) rfl ((i3.up E2.kk).up E3.kk) rfl rfl
  | some l =>
    refine xs_ifT E2.sub (vt_c (ve_v 3 rfl (y := .dat (.int l)) (d1.up E2.kk)) ve_non (cd_notN rfl)) fun Hk3 H3 E3 => ?_
    have hd3 := E3.same _ _ hd
    have tn : H2 d ≠ none := by rw [hd]; exact fun z => by cases z
    have nk3 : Hk3 d = none := E3.unk nk tn
    have kv3 := kv.up E3.kk
    have s3 := same_know E3.sub hd3
    have ks := same_up (o := .dK kvs) nk3
    have E23 := E2.trans E3
    replace i1 := (i1.up E23.kk).up ks
    replace i3 := (i3.up E23.kk).up ks
    have i4 := (d1.up E23.kk).up ks
    -- others = [one for one in behind.get(last, ()) if one != place]
    refine xs_setLc (i := 6) (own := [("one", 7)]) (g := gName 7) (ds := encI (at_ kn l)) s3 rfl scPaired.nd (vi_tup (ve_get2 hu1 (ve_v 5 rfl (y := .val (.ref d)) rfl) upd_same (kv3.up ks) (ve_v 3 rfl (y := .dat (.int l)) i4) (ve_tup (ds := []) va_nil)))
      (fun x => match x with | .int x => if x ≠ p then some (.int x) else none | _ => none) (by unfold encI; rw [List.length_map]; have := at_len hkl l; omega) rfl rfl (sw_true rfl rfl rfl (by decide +kernel)) (blkOk_by (N := ["many", "state", "place", "last", "known", "behind", "others", "one"]) (sc := defScope sPaired) (by decide +kernel))
      (fun _ _ _ _ _ => pg_name (i := 7) scPaired.nd rfl (Or.inl rfl)) (fun i x v' Hk' H' hx k' s' dv' => ?_) fun v6 Hk4 H4 E4 d6 => ?_
    · obtain ⟨j, hj, rfl⟩ : ∃ j, (at_ kn l)[i]? = some j ∧ x = .int j := by
        unfold encI at hx
        rw [List.getElem?_map] at hx
        cases e : (at_ kn l)[i]? with
        | none => rw [e] at hx; cases hx
        | some j => rw [e] at hx; exact ⟨j, rfl, (Option.some.inj hx).symm⟩
      have dv2 : Dq K Hk' v' (.int j) := dv'
      have i3k : Is K Hk' _ (.dat (.int p)) := i3.up k'
      refine ⟨_, fun Q' h => h, rfl, fun s0 H0 C cl fp => ⟨.inr ⟨_, rfl, VT.is (vt_c (ve_v 7 rfl (y := .dat (.int j)) dv2) (ve_v 2 rfl i3k) cd_neI) ?_⟩, fun r hr' => ?_⟩⟩
      · by_cases c : j = p <;> simp [c]
      · have e : r = .int j := by
          by_cases c : j = p
          · simp [c] at hr'
          · simp [c] at hr'
            exact hr'.symm
        subst e
        exact ve_v 7 rfl (y := .dat (.int j)) dv2
    · have eo : (encI (at_ kn l)).filterMap (fun x => match x with | .int x => if x ≠ p then some (PyData.int x) else none | _ => none) = encI ((at_ kn l).filter fun x => decide (x ≠ p)) := by
        unfold encI
        induction at_ kn l with
        | nil => rfl
        | cons x r ih =>
          rw [List.map_cons, List.filterMap_cons, List.filter_cons, ih]
          by_cases c : x = p <;> simp [c]
      rw [eo] at d6
      replace i1 := i1.up E4.kk
      replace i3 := i3.up E4.kk
      have e4 : Hk4 d = some (.dK kvs) := E4.kk _ _ upd_same
      have i4' := i4.up E4.kk
      have en : (n : Int) - 1 = ((n - 1 : Nat) : Int) := by omega
      -- behind[last] = tuple([place] + others[:many - 1])
      refine xs_dput hu1 E4.sub (x := .dat (.tuple (encI (p :: ((at_ kn l).filter fun x => decide (x ≠ p)).take (n - 1))))) (ve_tuple T.tuple ((ve_catL (ve_lst (ds := [.int p]) (va_cons (ve_v 2 rfl i3) va_nil)) (ve_slL (ve_v 6 rfl (y := .dat (.list (encI ((at_ kn l).filter fun x => decide (x ≠ p))))) d6) oi_none (oi_some (ve_sub (ve_v 0 rfl i1) ve_int))) ?_).is ?_))
        (ve_v 5 rfl (y := .val (.ref d)) rfl) (ve_v 3 rfl (y := .dat (.int l)) i4') e4 (by rw [kv.len]; omega) fun v7 Hk5 H5 E5 i7 => wss_nil ?_
      · unfold DL.cutD encI
        simp only [List.length_take, List.length_drop, List.length_map, List.length_cons, List.length_nil]
        have h1 := at_len hkl l
        have h2 := List.length_filter_le (fun x => decide (x ≠ p)) (at_ kn l)
        omega
      · rw [en, DL.cutD_to]
        unfold encI
        rw [← List.map_take, List.map_cons]
        rfl
      · have E45 := E4.trans E5
        have e5 : Hk5 d = some (.dK kvs) := E45.kk _ _ upd_same
        have kv5 : KvD K (DL.drop Hk5 d) (putK kvs (.inl l) v7) (putI l (p :: ((at_ kn l).filter fun x => decide (x ≠ p)).take (n - 1)) kn) := (KvD.drop e5 noDat_dK (kv3.up (ks.trans E45.kk))).put (dq_drop e5 noDat_dK _ _ i7)
        have EE : Ext (M1 d) Hk1 H1 (DL.drop Hk5 d) (upd H5 d (.dK (putK kvs (.inl l) v7))) := (E23.pure.trans (E45.know nk3 hd3)).mut rfl drop_at
        refine tail _ _ _ _ _ _ (ins l (p :: ((at_ kn l).filter fun x => decide (x ≠ p)).take (n - 1)) kn) EE drop_at upd_same kv5 (sort_put hR) ?_ ?_ rfl (dq_drop e5 noDat_dK _ _ (i3.up E5.kk)) rfl rfl
        · exact at_put hR p
        · have := ins_len (q := l) (l := p :: ((at_ kn l).filter fun x => decide (x ≠ p)).take (n - 1)) kn
          have h3 := (put_perm (q := l) (l := p :: ((at_ kn l).filter fun x => decide (x ≠ p)).take (n - 1)) hR).length_eq
          omega
end
end W
end
section
set_option Elab.async false
set_option linter.all false
set_option maxRecDepth 100000
set_option maxHeartbeats 4000000
/-! stepped, guesses -/
namespace W
open PySem PySem.Spec PyProof.Rows L2 DL Tx Mi
/-! ### how much a guesser may know behind so many places -/
def Kf (m : Nat) : Gs → Kn → Prop
  | .none, k => k = .prs .none []
  | .next _, k => k = .prs .none []
  | .stride _, .str _ _ _ => True
  | .pairs _, .prs _ kn => Rising kn ∧ kn.length ≤ m ∧ ∀ x ∈ kn, x.2.length ≤ 2
  | .both a b, .both ka kb => Kf m a ka ∧ Kf m b kb
  | _, _ => False
def cap : Gs → Nat
  | .none => 0 | .next n => n | .stride _ => 1 | .pairs _ => 2 | .both a b => cap a + cap b
theorem cap_ok : ∀ (g : Gs) (wi : Nat), g.ok wi → cap g ≤ 3 * 2 ^ (3 - wi)
  | .none, wi, _ => Nat.zero_le _
  | .next n, wi, h => by
    simp only [Gs.ok] at h
    have : 1 ≤ 2 ^ (3 - wi) := Nat.one_le_two_pow
    simp only [cap]
    omega
  | .stride n, wi, h => by
    have : 1 ≤ 2 ^ (3 - wi) := Nat.one_le_two_pow
    simp only [cap]
    omega
  | .pairs n, wi, h => by
    have : 1 ≤ 2 ^ (3 - wi) := Nat.one_le_two_pow
    simp only [cap]
    omega
  | .both a b, wi, h => by
    simp only [Gs.ok] at h
    have ha := cap_ok a _ h.2.1
    have hb := cap_ok b _ h.2.2
    have h3 := ok_le h.2.1
    have e : 2 ^ (3 - wi) = 2 * 2 ^ (3 - (wi + 1)) := by rw [← Nat.pow_succ']; congr 1; omega
    simp only [cap]
    omega
theorem cap24 {g : Gs} {wi : Nat} (h : g.ok wi) : cap g ≤ 24 := by
  have h1 := cap_ok g wi h
  have h2 : 2 ^ (3 - wi) ≤ 2 ^ 3 := Nat.pow_le_pow_right (by decide) (by omega)
  omega
theorem first_fits : ∀ (g : Gs), Kf 0 g (first g)
  | .none => rfl
  | .next _ => rfl
  | .stride _ => trivial
  | .pairs _ => ⟨trivial, Nat.zero_le _, (fun _ h => nomatch h)⟩
  | .both a b => ⟨first_fits a, first_fits b⟩
theorem nexts_len (n : Nat) (p : Int) : (nexts n p).length = n := by unfold nexts; simp
theorem strided_len (n : Nat) (l : Option Int) (f t p : Int) : (strided n l f t p).2.length ≤ 1 := by
  unfold strided
  cases l with
  | none => simp
  | some q => dsimp only; split <;> split <;> simp
theorem at_len2 {kn : List (Int × List Int)} (h : ∀ x ∈ kn, x.2.length ≤ 2) (q : Int) : (at_ kn q).length ≤ 2 := by
  unfold at_
  induction kn with
  | nil => simp
  | cons x kn ih =>
    rw [List.lookup_cons]
    split
    · exact h x List.mem_cons_self
    · exact ih fun y hy => h y (List.mem_cons_of_mem _ hy)
theorem kn2 {many : Nat} {l : Option Int} {kn : List (Int × List Int)} {p : Int} (hm : many ≤ 2) (h1 : 1 ≤ many) (h : ∀ x ∈ kn, x.2.length ≤ 2) : ∃ kn', paired many l kn p = (.prs (some p) kn', at_ kn' p) ∧ (Rising kn → Rising kn') ∧ kn'.length ≤ kn.length + 1 ∧ ∀ x ∈ kn', x.2.length ≤ 2 := by
  cases l with
  | none => exact ⟨kn, rfl, (fun a => a), Nat.le_succ _, h⟩
  | some q =>
    refine ⟨_, rfl, fun a => ins_rising a, ins_len _, fun x hx => ?_⟩
    rcases ins_mem hx with e | e
    · rw [e]
      simp only [List.length_cons, List.length_take]
      omega
    · exact h x e
theorem adv_fits : ∀ (g : Gs) (wi : Nat) (k : Kn) (m : Nat) (p : Int), g.ok wi → Kf m g k → Kf (m + 1) g (adv g k p).1 ∧ (adv g k p).2.length ≤ cap g
  | .none, wi, k, m, p, ok, h => ⟨h, Nat.zero_le _⟩
  | .next n, wi, k, m, p, ok, h => ⟨h, by simp only [adv, cap, nexts_len]; exact Nat.le_refl _⟩
  | .stride n, wi, k, m, p, ok, h => by
    cases k with
    | str l f t =>
      refine ⟨?_, strided_len _ _ _ _ _⟩
      simp only [adv, strided]
      cases l <;> trivial
    | prs l kn => exact h.elim
    | both a b => exact h.elim
  | .pairs n, wi, k, m, p, ok, h => by
    cases k with
    | str l f t => exact h.elim
    | prs l kn =>
      simp only [Gs.ok] at ok
      obtain ⟨h1, h2, h3⟩ := h
      obtain ⟨kn', e, r1, r2, r3⟩ := kn2 (l := l) (p := p) ok.2.2 ok.2.1 h3
      simp only [adv, e]
      exact ⟨⟨r1 h1, by omega, r3⟩, at_len2 r3 p⟩
    | both a b => exact h.elim
  | .both a b, wi, k, m, p, ok, h => by
    cases k with
    | str l f t => exact h.elim
    | prs l kn => exact h.elim
    | both ka kb =>
      simp only [Gs.ok] at ok
      have h1 := adv_fits a _ ka m p ok.2.1 h.1
      have h2 := adv_fits b _ kb m p ok.2.2 h.2
      refine ⟨⟨h1.1, h2.1⟩, ?_⟩
      simp only [adv, union, cap, List.length_append]
      have := List.length_filter_le (fun x => decide (x ∉ (adv a ka p).2)) (adv b kb p).2
      omega
section
variable {P : Program} {w : World} {K : PySem.W.Frag} {mg : Str → Option Value} {base : Heap} {f : Addr} {fd : FuncData}
/-- what a comprehension over whole numbers keeps -/
def fI (q : Int → Bool) : PyData → Option PyData
  | .int x => if q x = true then some (.int x) else none
  | _ => none
theorem fI_all (q : Int → Bool) : ∀ (l : List Int), (encI l).filterMap (fI q) = encI (l.filter q)
  | [] => rfl
  | x :: l => by
    have ih := fI_all q l
    unfold encI at ih ⊢
    rw [List.map_cons, List.filterMap_cons, List.filter_cons, ih]
    by_cases c : q x = true <;> simp [fI, c]
theorem encI_at {l : List Int} {i : Nat} {x : PyData} (h : (encI l)[i]? = some x) : ∃ j, l[i]? = some j ∧ x = .int j := by
  unfold encI at h
  rw [List.getElem?_map] at h
  cases e : l[i]? with
  | none => rw [e] at h; cases h
  | some j => rw [e] at h; exact ⟨j, rfl, (Option.some.inj h).symm⟩
def fNext (p : Int) : PyData → Option PyData
  | .int k => some (.int (p + k + 1))
  | _ => none
theorem fNext_all (n : Nat) (p : Int) : (intsD n).filterMap (fNext p) = encI (nexts n p) := by
  unfold intsD nexts encI
  rw [List.filterMap_map, List.map_map]
  generalize List.range n = l
  induction l with
  | nil => rfl
  | cons x l ih => rw [List.filterMap_cons, List.map_cons, ih]; rfl
theorem intsD_of {n i : Nat} {x : PyData} (h : (intsD n)[i]? = some x) : i < n ∧ x = .int (i : Int) := by
  unfold intsD at h
  rw [List.getElem?_map] at h
  by_cases c : i < n
  · rw [List.getElem?_range c] at h
    exact ⟨c, (Option.some.inj h).symm⟩
  · rw [List.getElem?_eq_none (by simp; omega)] at h
    cases h

abbrev nStepped : List Str := ["guesser", "state", "place", "one", "mine", "other", "theirs", "k", "guess"]
theorem scStepped : FnScope nStepped ["guesser", "state", "place"] (defScope sStepped) := ⟨rfl, rfl, rfl, by decide +kernel, rfl, by decide +kernel, by decide +kernel⟩
def gStepped (n : Nat) (as : List Sp1) (r : Sp1) : Prop := ∃ (g : Gs) (wi : Nat) (k : Kn) (m : Nat) (p : Int), g.ok wi ∧ 4 ≤ wi + n ∧ Kf m g k ∧ m ≤ 900 ∧ as = [.dat g.enc, .dat k.enc, .dat (.int p)] ∧ r = .dat (encR (adv g k p))
theorem ok_stepped {n : Nat} {f1 f2 : Addr} {fd1 fd2 : FuncData} (T : Tp K w mg) (F1 : Df K mg "strided" sStrided ["trust", "state", "place"] f1 fd1) (G1 : FnOk P w K mg base CX0 (n + 1) f1 fd1 ["trust", "state", "place"] (spD K gStrided))
    (F2 : Df K mg "paired" sPaired ["many", "state", "place"] f2 fd2) (G2 : FnOk P w K mg base CX0 (n + 1) f2 fd2 ["many", "state", "place"] (spD K gPaired))
    (Fd : Df K mg "stepped" sStepped ["guesser", "state", "place"] f fd) (G : FnOk P w K mg base CX0 (n + 1) f fd ["guesser", "state", "place"] (spD K (gStepped n))) :
    FnOk P w K mg base CX0 (n + 2) f fd ["guesser", "state", "place"] (spD K (gStepped (n + 1))) := by
  refine ok_of Fd.F scStepped (fun as r h => by obtain ⟨_, _, _, _, _, _, _, _, _, rfl, _⟩ := h; rfl) fun cdv A outer s H Hk vs as r Q hr sm ia g q => ?_
  obtain ⟨gs, wi, k, m, p, ok, hn, hk, hm, rfl, rfl⟩ := g
  obtain _ | ⟨i1, _ | ⟨i2, _ | ⟨i3, _ | _⟩⟩⟩ := ia
  have e1 := enc_eq gs
  have w1 : ∀ {x : Str} {Hk' : Hp} {σ : L2.St} {v : V}, σ[0]? = some (some v) → Is K Hk' v (.dat gs.enc) → ∀ {p1 p2 p3 p4 : Pos} {i0 : Int} {j : Nat}, VT (cxOf CX0 P w K mg base nStepped "stepped" (defScope sStepped) f cdv A outer s H E0).nox σ Hk' (.Compare (.Subscript (.Name "guesser" p1) (.Constant (.int 0) j p2) p3) [.Eq] [.Constant (.str x) j p2] p4) (decide (Gs.word gs = x)) := by
    intro x Hk' σ v hv iv p1 p2 p3 p4 i0 j
    have i1' : Is K Hk' v (.dat (.tuple (.str (Gs.word gs) :: Gs.rest gs))) := by rw [← e1]; exact iv
    exact vt_c (ve_itT (ve_v 0 hv i1') (ve_int (i := 0)) rfl) ve_str cd_eqS
  have no : ∀ {a b : Str}, decide (a = b) = false → ∀ {σ : L2.St} {Hk' : Hp} {e : Expr}, VT (cxOf CX0 P w K mg base nStepped "stepped" (defScope sStepped) f cdv A outer s H E0).nox σ Hk' e (decide (a = b)) → VT (cxOf CX0 P w K mg base nStepped "stepped" (defScope sStepped) f cdv A outer s H E0).nox σ Hk' e false := fun h _ _ _ v => v.is h
  cases gs with
  | none =>
    refine xs_ifT sm (VT.is (w1 (j := 0) (i0 := 0) rfl i1) (show decide (("none" : Str) = "none") = true by decide +kernel)) fun Hk2 H2 E2 => ?_
    exact xs_ret E2.sub (ve_tup (ds := [k.enc, .list []]) (va_cons (ve_v 1 rfl (i2.up E2.kk)) (va_cons (ve_lst (ds := []) va_nil) va_nil))) fun v Hk3 H3 E3 i => q v Hk3 H3 (E2.trans E3) i
  | next c =>
    refine xs_ifN sm (VT.is (w1 (j := 0) (i0 := 0) rfl i1) (show decide (("next" : Str) = "none") = false by decide +kernel)) fun Hk2 H2 E2 => ?_
    replace i1 := i1.up E2.kk
    refine xs_ifT E2.sub (VT.is (w1 (j := 0) (i0 := 0) rfl i1) (show decide (("next" : Str) = "next") = true by decide +kernel)) fun Hk3 H3 E3 => ?_
    replace i1 := i1.up E3.kk
    have i2' := (i2.up E2.kk).up E3.kk
    have i3' := (i3.up E2.kk).up E3.kk
    simp only [Gs.ok] at ok
    refine xs_ret E3.sub (ve_tup (ds := [k.enc, .list (encI (nexts c p))]) (va_cons (ve_v 1 rfl i2') (va_cons ((ve_lc (own := [("k", 7)]) (g := gName 7) (ds := intsD c) rfl scStepped.nd (vi_range T.range (ve_itT (ve_v 0 rfl i1) (ve_int (i := 1)) rfl) (by omega)) (fNext p) (by rw [intsD_len]; omega)
      (blkOk_by (N := nStepped) (sc := defScope sStepped) (by decide +kernel)) (fun _ _ _ _ _ => pg_name (i := 7) scStepped.nd rfl (Or.inl rfl)) (fun i x v' Hk' H' hx k' s' dv' => ?_)).is ?_) va_nil))) fun v Hk4 H4 E4 i => q v Hk4 H4 ((E2.trans E3).trans E4) i
    · obtain ⟨_, rfl⟩ := intsD_of hx
      have dv2 : Dq K Hk' v' (.int (i : Int)) := dv'
      have i3k : Is K Hk' _ (.dat (.int p)) := i3'.up k'
      refine ⟨_, fun Q' h => h, rfl, fun s0 H0 C cl fp => ⟨.inl ⟨rfl, rfl⟩, fun r hr' => ?_⟩⟩
      cases hr'
      exact ve_add (ve_add (ve_v 2 rfl i3k) (ve_v 7 rfl (y := .dat (.int (i : Int))) dv2)) ve_int
    · rw [fNext_all]
  | stride c =>
    refine xs_ifN sm (VT.is (w1 (j := 0) (i0 := 0) rfl i1) (show decide (("stride" : Str) = "none") = false by decide +kernel)) fun Hk2 H2 E2 => ?_
    replace i1 := i1.up E2.kk
    refine xs_ifN E2.sub (VT.is (w1 (j := 0) (i0 := 0) rfl i1) (show decide (("stride" : Str) = "next") = false by decide +kernel)) fun Hk3 H3 E3 => ?_
    replace i1 := i1.up E3.kk
    refine xs_ifT E3.sub (VT.is (w1 (j := 0) (i0 := 0) rfl i1) (show decide (("stride" : Str) = "stride") = true by decide +kernel)) fun Hk4 H4 E4 => ?_
    replace i1 := i1.up E4.kk
    have i2' := ((i2.up E2.kk).up E3.kk).up E4.kk
    have i3' := ((i3.up E2.kk).up E3.kk).up E4.kk
    obtain ⟨l, f0, t0, rfl⟩ : ∃ l f0 t0, k = .str l f0 t0 := by
      cases k with
      | str l f0 t0 => exact ⟨l, f0, t0, rfl⟩
      | prs l kn => exact hk.elim
      | both a b => exact hk.elim
    exact xs_ret E4.sub (ve_f F1 G1 hr (va_cons (ve_itT (ve_v 0 rfl i1) (ve_int (i := 1)) rfl) (va_cons (ve_v 1 rfl i2') (va_cons (ve_v 2 rfl i3') va_nil))) ⟨c, l, f0, t0, p, rfl, rfl⟩) fun v Hk5 H5 E5 i => q v Hk5 H5 (((E2.trans E3).trans E4).trans E5) i
  | pairs c =>
    refine xs_ifN sm (VT.is (w1 (j := 0) (i0 := 0) rfl i1) (show decide (("pairs" : Str) = "none") = false by decide +kernel)) fun Hk2 H2 E2 => ?_
    replace i1 := i1.up E2.kk
    refine xs_ifN E2.sub (VT.is (w1 (j := 0) (i0 := 0) rfl i1) (show decide (("pairs" : Str) = "next") = false by decide +kernel)) fun Hk3 H3 E3 => ?_
    replace i1 := i1.up E3.kk
    refine xs_ifN E3.sub (VT.is (w1 (j := 0) (i0 := 0) rfl i1) (show decide (("pairs" : Str) = "stride") = false by decide +kernel)) fun Hk4 H4 E4 => ?_
    replace i1 := i1.up E4.kk
    refine xs_ifT E4.sub (VT.is (w1 (j := 0) (i0 := 0) rfl i1) (show decide (("pairs" : Str) = "pairs") = true by decide +kernel)) fun Hk5 H5 E5 => ?_
    replace i1 := i1.up E5.kk
    have i2' := (((i2.up E2.kk).up E3.kk).up E4.kk).up E5.kk
    have i3' := (((i3.up E2.kk).up E3.kk).up E4.kk).up E5.kk
    obtain ⟨l, kn, rfl⟩ : ∃ l kn, k = .prs l kn := by
      cases k with
      | str l f0 t0 => exact hk.elim
      | prs l kn => exact ⟨l, kn, rfl⟩
      | both a b => exact hk.elim
    simp only [Gs.ok] at ok
    exact xs_ret E5.sub (ve_f F2 G2 hr (va_cons (ve_itT (ve_v 0 rfl i1) (ve_int (i := 1)) rfl) (va_cons (ve_v 1 rfl i2') (va_cons (ve_v 2 rfl i3') va_nil))) ⟨c, l, kn, p, ok.2.1, hk.1, by have := hk.2.1; omega, (fun x hx => by have := hk.2.2 x hx; omega), rfl, rfl⟩)
      fun v Hk6 H6 E6 i => q v Hk6 H6 ((((E2.trans E3).trans E4).trans E5).trans E6) i
  | both ga gb =>
    refine xs_ifN sm (VT.is (w1 (j := 0) (i0 := 0) rfl i1) (show decide (("both" : Str) = "none") = false by decide +kernel)) fun Hk2 H2 E2 => ?_
    replace i1 := i1.up E2.kk
    refine xs_ifN E2.sub (VT.is (w1 (j := 0) (i0 := 0) rfl i1) (show decide (("both" : Str) = "next") = false by decide +kernel)) fun Hk3 H3 E3 => ?_
    replace i1 := i1.up E3.kk
    refine xs_ifN E3.sub (VT.is (w1 (j := 0) (i0 := 0) rfl i1) (show decide (("both" : Str) = "stride") = false by decide +kernel)) fun Hk4 H4 E4 => ?_
    replace i1 := i1.up E4.kk
    refine xs_ifN E4.sub (VT.is (w1 (j := 0) (i0 := 0) rfl i1) (show decide (("both" : Str) = "pairs") = false by decide +kernel)) fun Hk5 H5 E5 => ?_
    replace i1 := i1.up E5.kk
    have i2' := (((i2.up E2.kk).up E3.kk).up E4.kk).up E5.kk
    have i3' := (((i3.up E2.kk).up E3.kk).up E4.kk).up E5.kk
    obtain ⟨ka, kb, rfl⟩ : ∃ a b, k = .both a b := by
      cases k with
      | str l f0 t0 => exact hk.elim
      | prs l kn => exact hk.elim
      | both a b => exact ⟨a, b, rfl⟩
    simp only [Gs.ok] at ok
    have hca := (adv_fits ga _ ka m p ok.2.1 hk.1).2
    have hcb := (adv_fits gb _ kb m p ok.2.2 hk.2).2
    have c1 := cap24 ok.2.1
    have c2 := cap24 ok.2.2
    refine xs_asg E5.sub (ve_f Fd G hr (va_cons (ve_itT (ve_v 0 rfl i1) (ve_int (i := 1)) rfl) (va_cons (ve_itT (ve_v 1 rfl i2') (ve_int (i := 0)) rfl) (va_cons (ve_v 2 rfl i3') va_nil))) ⟨ga, wi + 1, ka, m, p, ok.2.1, by omega, hk.1, hm, rfl, rfl⟩)
      (pg_tup rfl (pgs_cons (pg_name (i := 3) scStepped.nd rfl (.inl rfl)) (pgs_cons (pg_name (i := 4) scStepped.nd rfl (.inr rfl)) pgs_nil))) fun v Hk6 H6 E6 dv => g_tup2 dv E6.sub fun v1 v2 d1 d2 => ?_
    replace i1 := i1.up E6.kk
    replace i2' := i2'.up E6.kk
    replace i3' := i3'.up E6.kk
    refine xs_asg E6.sub (ve_f Fd G hr (va_cons (ve_itT (ve_v 0 rfl i1) (ve_int (i := 2)) rfl) (va_cons (ve_itT (ve_v 1 rfl i2') (ve_int (i := 1)) rfl) (va_cons (ve_v 2 rfl i3') va_nil))) ⟨gb, wi + 1, kb, m, p, ok.2.2, by omega, hk.2, hm, rfl, rfl⟩)
      (pg_tup rfl (pgs_cons (pg_name (i := 5) scStepped.nd rfl (.inl rfl)) (pgs_cons (pg_name (i := 6) scStepped.nd rfl (.inl rfl)) pgs_nil))) fun v Hk7 H7 E7 dv => g_tup2 dv E7.sub fun v3 v4 d3 d4 => ?_
    replace d1 := d1.up E7.kk
    replace d2 : Is K Hk7 v2 (.dat (.list (encI (adv ga ka p).2))) := d2.up E7.kk
    have uni : union (adv ga ka p).2 (adv gb kb p).2 = (adv ga ka p).2 ++ (adv gb kb p).2.filter (fun x => decide (x ∉ (adv ga ka p).2)) := rfl
    refine xs_ret E7.sub (ve_tup (ds := [(adv (.both ga gb) (.both ka kb) p).1.enc, .list (encI (union (adv ga ka p).2 (adv gb kb p).2))]) (va_cons (ve_tup (ds := [(adv ga ka p).1.enc, (adv gb kb p).1.enc]) (va_cons (ve_v 3 rfl (y := .dat (adv ga ka p).1.enc) d1) (va_cons (ve_v 5 rfl (y := .dat (adv gb kb p).1.enc) d3) va_nil)))
      (va_cons ((ve_catL (ve_v 4 rfl (y := .dat (.list (encI (adv ga ka p).2))) d2) (ve_lc (own := [("guess", 8)]) (g := gName 8) (ds := encI (adv gb kb p).2) rfl scStepped.nd (vi_list (ve_v 6 rfl (y := .dat (.list (encI (adv gb kb p).2))) d4)) (fI fun x => decide (x ∉ (adv ga ka p).2)) (by unfold encI; rw [List.length_map]; omega)
        (blkOk_by (N := nStepped) (sc := defScope sStepped) (by decide +kernel)) (fun _ _ _ _ _ => pg_name (i := 8) scStepped.nd rfl (Or.inl rfl)) (fun i x v' Hk' H' hx k' s' dv' => ?_)) ?_).is ?_) va_nil)))
      fun v Hk8 H8 E8 i => q v Hk8 H8 ((((((E2.trans E3).trans E4).trans E5).trans E6).trans E7).trans E8) i
    · obtain ⟨j, hj, rfl⟩ := encI_at hx
      have dv2 : Dq K Hk' v' (.int j) := dv'
      have d2k : Is K Hk' v2 (.dat (.list ((adv ga ka p).2.map .int))) := d2.up k'
      refine ⟨_, fun Q' h => h, rfl, fun s0 H0 C cl fp => ⟨.inr ⟨_, rfl, VT.is (vt_c (ve_v 8 rfl (y := .dat (.int j)) dv2) (ve_v 4 rfl d2k) cd_notInLI) ?_⟩, fun r hr' => ?_⟩⟩
      · by_cases c : j ∈ (adv ga ka p).2 <;> simp [fI, c]
      · have e : r = .int j := by
          by_cases c : j ∈ (adv ga ka p).2
          · simp [fI, c] at hr'
          · simp [fI, c] at hr'
            exact hr'.symm
        subst e
        exact ve_v 8 rfl (y := .dat (.int j)) dv2
    · rw [fI_all]
      unfold encI
      rw [List.length_map, List.length_map]
      have := List.length_filter_le (fun x => decide (x ∉ (adv ga ka p).2)) (adv gb kb p).2
      omega
    · rw [fI_all, uni]
      unfold encI
      rw [List.map_append]
theorem ok_steppeds {f1 f2 : Addr} {fd1 fd2 : FuncData} (T : Tp K w mg) (F1 : Df K mg "strided" sStrided ["trust", "state", "place"] f1 fd1) (G1 : FnOk P w K mg base CX0 1 f1 fd1 ["trust", "state", "place"] (spD K gStrided))
    (F2 : Df K mg "paired" sPaired ["many", "state", "place"] f2 fd2) (G2 : FnOk P w K mg base CX0 1 f2 fd2 ["many", "state", "place"] (spD K gPaired)) (Fd : Df K mg "stepped" sStepped ["guesser", "state", "place"] f fd) :
    ∀ n, FnOk P w K mg base CX0 (n + 1) f fd ["guesser", "state", "place"] (spD K (gStepped n))
  | 0 => (none_at fun as r ⟨g, wi, k, m, p, ok, h, _⟩ => by have := ok_le ok; omega).mono (Nat.zero_le _)
  | n + 1 => ok_stepped T F1 (G1.mono (by omega)) F2 (G2.mono (by omega)) Fd (ok_steppeds T F1 G1 F2 G2 Fd n)
end
end W
end
section
set_option Elab.async false
set_option linter.all false
set_option maxRecDepth 100000
set_option maxHeartbeats 4000000
/-! The data layer: new lists, fields, calls that lengthen a list. -/
namespace DL
open PySem PySem.Spec PyProof.Rows L2
section
variable {M : Addr → Prop} {Hk H Hk2 H2 Hk3 H3 : Hp} {d l p : Addr} {o o' : HO}
theorem Ext.know2 (E : Ext M (upd Hk d o) H Hk2 H2) (n : Hk d = none) (e : H d = some o) : Ext M Hk H (drop Hk2 d) H2 := by
  refine ⟨fun x u q => ?_, fun x u q => E.sub _ _ (drop_same _ _ q), E.keep, fun x q => ?_, E.there⟩
  · have z := ne_of_none q n
    rw [drop_ne z]
    exact E.kk _ _ (by rw [upd_ne z]; exact q)
  · by_cases z : x = d
    · subst z; rw [drop_at, n]
    · rw [drop_ne z, E.new x q, upd_ne z]
/-- a local object is known from now on -/
theorem Ext.fix (E : Ext M Hk H Hk2 H2) (n : H l = none) (nk : Hk2 l = none) (e : H2 l = some o) : Ext M Hk H (upd Hk2 l o) H2 := by
  refine ⟨E.kk.trans (same_up nk), same_know E.sub e, E.keep, fun a q => ?_, E.there⟩
  have z : a ≠ l := fun z => q (by rw [z]; exact n)
  rw [upd_ne z]
  exact E.new a q
end
section
variable {X : Cx} {σ : L2.St} {Hk Hq H : Hp} {e a b c o f elast : Expr} {es : List Expr} {x y z r : Sp1} {pos apos cpos : Pos} {D : Ends} {rest : List Stmt}
theorem xs_ex (s : Same Hk H) (h : VE X σ Hk e x) (k : ∀ Hk2 H2, Ext M0 Hk H Hk2 H2 → WSs X rest D σ H2) (hs : swapsWith e none pos.line X.env = pure false := by rfl) : WSs X (.Expr e pos :: rest) D σ H :=
  wss_cons (ws (ps_expr pe_w hs) (h H s _ fun v Hk1 H1 E1 _ => k Hk1 H1 E1))
/-- n = [] -/
theorem xs_nl {i : Nat} {n : Str} {pn lp : Pos} (k : ∀ l, H l = none → WSs X rest D (σ.set i (some (.ref l))) (upd H l (.lst [])))
    (hN : X.N.Nodup) (hi : X.N[i]? = some n := by rfl) (hx : Loc X.env.scope n := by first | exact Or.inl rfl | exact Or.inr rfl) (hs : swapsWith (.List [] lp) (some (.Name n pn)) pos.line X.env = pure false := by rfl) (hf : X.fn n = true ∨ X.env.scope.names.lookup n = some .local := by first | exact .inl rfl | exact .inr rfl) :
    WSs X (.Assign [.Name n pn] (.List [] lp) pos :: rest) D σ H := wss_cons (ws (ps_set hN hi hx (pe_lst pa_nil) hs hf) ⟨Nat.zero_le _, fun l nl => k l nl⟩)
/-- a value by its run -/
theorem xs_setW {i : Nat} {n : Str} {pn : Pos} (h : WE X e σ H fun v H2 => WSs X rest D (σ.set i (some v)) H2)
    (hN : X.N.Nodup) (hi : X.N[i]? = some n := by rfl) (hx : Loc X.env.scope n := by first | exact Or.inl rfl | exact Or.inr rfl) (hs : swapsWith e (some (.Name n pn)) pos.line X.env = pure false := by rfl) (hf : X.fn n = true ∨ X.env.scope.names.lookup n = some .local := by first | exact .inl rfl | exact .inr rfl) :
    WSs X (.Assign [.Name n pn] e pos :: rest) D σ H := wss_cons (ws (ps_set hN hi hx pe_w hs hf) h)
theorem xs_asgW {tg : Expr} {g : TG} (h : WE X e σ H fun v H2 => g v σ H2 (WSs X rest D)) (hg : PG X tg g)
    (hs : swapsWithSole [tg] e pos.line X.env = pure false := by rfl) (hw : swappedStores [tg] e X.env = pure none := by rfl) (h1 : (assignEach [tg] X.env).map (·.2) = [assign tg X.env] := by rfl) :
    WSs X (.Assign [tg] e pos :: rest) D σ H := wss_cons (ws (ps_asg pe_w hg hs hw h1) h)
theorem IsAll.snoc {K : PySem.W.Frag} {v : V} {q : Sp1} (h : Is K H v q) : ∀ {as : List Sp1} {vs : List V}, IsAll K H vs as → IsAll K H (vs ++ [v]) (as ++ [q])
  | _, _, .nil => .cons h .nil
  | _, _, .cons h1 h2 => .cons h1 (IsAll.snoc h h2)
/-- a call that lengthens the list at l -/
theorem we_callM {k : Nat} {fa : Addr} {fd : FuncData} {ps : List Str} {G : List Sp1 → Sp1 → List PyData → Prop} {n : Str} {p : Pos} {as : List Sp1} {l : Addr} {ws : List V} {ds es' : List PyData} {Q : VK} (F : FnOk X.prog X.w X.K X.mg X.base CX0 k fa fd ps (spM X.K G)) (hr : Room k X.A) (hm : X.mg n = some (.ref fa)) (hk : PySem.W.keepIn X.K (.ref fa) = true) (hb : Binds X.K fd ps [])
    (s : Same Hk H) (nl : Hk l = none) (hl : H l = some (.lst ws)) (hd : DqAll X.K Hk ws ds) (hz : ds.length + es'.length < 100000) (ha : VA X σ Hk (e :: es) (as ++ [.val (.ref l)])) (g : G as r es')
    (q : ∀ v Hk2 H2 ws', Ext (M1 l) Hk H Hk2 H2 → Hk2 l = none → H2 l = some (.lst ws') → DqAll X.K Hk2 ws' (ds ++ es') → Is X.K Hk2 v r → Q v H2)
    (hg : Gl X n := by rfl) (hd' : (n == ("__debug__" : Str)) = false := by decide) (he : starEach (e :: es) X.env = (false, eval e X.env) :: starEach es X.env := by rfl) (hpl : (backTo pos (starEach es X.env)).any (·.1) = false := by rfl) : WE X (.Call (.Name n p) (e :: es) [] pos) σ H Q :=
  we (pe_call F hr hg hm hk hb .nil pass0 pa_w (hdb := hd') (he := he) (hpl := hpl)) (ha H s _ fun vs Hk1 H1 E1 i1 => by
    have tl : H l ≠ none := by rw [hl]; exact fun z => by cases z
    refine ⟨Hk1, as, r, l, ws, ds, es', E1.sub, E1.unk nl tl, E1.same _ _ hl, hd.up E1.kk, hz, ?_, g, fun v Hk2 H2 ws' E2 h2 d2 i2 => q v Hk2 H2 ws' (E1.pure.trans E2) ?_ h2 d2 i2⟩
    · rw [List.append_nil]
      exact i1
    · have tl1 : H1 l ≠ none := by rw [E1.same _ _ hl]; exact fun z => by cases z
      exact (E2.new l tl1).trans (E1.unk nl tl))
/-- o.f = e -/
theorem xs_fld {p C dx : Addr} {fs : List (Str × V)} {fl : Str} (s : Same Hk H) (h : VE X σ Hk e x) (ho : VE X σ Hk o (.val (.ref p))) (hp : H p = some (.ins C dx fs)) (c : Cls X.K C) (n : NoAttr X.K C fl) (hl : fs.length < 1000)
    (k : ∀ v Hk2 H2, Ext M0 Hk H Hk2 H2 → Is X.K Hk2 v x → WSs X rest D σ (upd H2 p (.ins C dx (putF fl v fs)))) (hs : swapsWith e (some (.Attribute o fl apos)) pos.line X.env = pure false := by rfl) : WSs X (.Assign [.Attribute o fl apos] e pos :: rest) D σ H :=
  wss_cons (ws (ps_fld pe_w pe_w hs) (h H s _ fun v Hk1 H1 E1 i1 => (ho.up E1.kk) H1 E1.sub _ fun u Hk2 H2 E2 i2 => by
    have e2 : u = .ref p := i2
    subst e2
    exact ⟨p, C, dx, fs, rfl, (E1.trans E2).same _ _ hp, c, n, hl, k v Hk2 H2 (E1.trans E2) (i1.up E2.kk)⟩))
end
end DL
namespace Tx
open PySem PySem.Spec PyProof.Rows L2 DL
/-- any def's promise, by its body -/
theorem ok_gen {P : Program} {w : World} {K : PySem.W.Frag} {mg : Str → Option Value} {base : Heap} {n qn : Str} {st : Stmt} {ps N : List Str} {f : Addr} {fd : FuncData} {sp : List V → Hp → VK → Prop} {k : Nat} (Fd : Fun K n qn st f fd) (S : FnScope N ps (defScope st)) (len : ∀ vs H Q, sp vs H Q → vs.length = ps.length)
    (body : ∀ (cdv : Value) (A : Around) (outer : List Env) (s : Shared) (H : Hp) (vs : List V) (Q : VK), Room k (A.deeper (envOfC qn (defScope st) s.heap.objs.size f cdv)) → sp vs H Q →
      WSs (cxOf CX0 P w K mg base N qn (defScope st) f cdv A outer s H E0).nox (defBody st) { nx := fun _ H' => Q .non H', rt := Q } (start N vs) H) : FnOk P w K mg base CX0 (k + 1) f fd ps (fun vs H Q _ => sp vs H Q) := by
  have hE : ∀ E : XK, ∀ cdv A outer s H, (cxOf CX0 P w K mg base N qn (defScope st) f cdv A outer s H E).nox = (cxOf CX0 P w K mg base N qn (defScope st) f cdv A outer s H E0).nox := fun _ _ _ _ _ _ => rfl
  refine Fd.ok S (fun vs H Q E h => len vs H Q h) (fun cdv A outer s H vs Q E hr h => ?_)
  refine ⟨_, pss_w, ?_⟩
  rw [hE E]
  exact body cdv A outer s H vs Q hr h
/-- a def that lengthens its last list -/
theorem ok_ofM {P : Program} {w : World} {K : PySem.W.Frag} {mg : Str → Option Value} {base : Heap} {n : Str} {st : Stmt} {ps N : List Str} {f : Addr} {fd : FuncData} {G : List Sp1 → Sp1 → List PyData → Prop} {k : Nat} (Fd : Fun K n n st f fd) (S : FnScope N ps (defScope st)) (len : ∀ as r es, G as r es → as.length + 1 = ps.length)
    (body : ∀ (cdv : Value) (A : Around) (outer : List Env) (s : Shared) (H Hk : Hp) (vs : List V) (as : List Sp1) (r : Sp1) (l : Addr) (ws : List V) (ds es : List PyData) (Q : VK), Room k (A.deeper (envOfC n (defScope st) s.heap.objs.size f cdv)) → Same Hk H → Hk l = none → H l = some (.lst ws) → DqAll K Hk ws ds → ds.length + es.length < 100000 →
      IsAll K Hk vs (as ++ [.val (.ref l)]) → G as r es → (∀ v Hk2 H2 ws', Ext (M1 l) Hk H Hk2 H2 → H2 l = some (.lst ws') → DqAll K Hk2 ws' (ds ++ es) → Is K Hk2 v r → Q v H2) →
      WSs (cxOf CX0 P w K mg base N n (defScope st) f cdv A outer s H E0).nox (defBody st) { nx := fun _ H' => Q .non H', rt := Q } (start N vs) H) : FnOk P w K mg base CX0 (k + 1) f fd ps (spM K G) := by
  refine ok_gen (sp := fun vs H Q => spM K G vs H Q E0) Fd S (fun vs H Q h => ?_) fun cdv A outer s H vs Q hr h => ?_
  · obtain ⟨Hk, as, r, l, ws, ds, es, _, _, _, _, _, h, g, _⟩ := h
    rw [h.len, List.length_append]
    exact len as r es g
  · obtain ⟨Hk, as, r, l, ws, ds, es, s1, nl, hl, hd, hz, h, g, q⟩ := h
    exact body cdv A outer s H Hk vs as r l ws ds es Q hr s1 nl hl hd hz h g q
end Tx
end
section
set_option Elab.async false
set_option linter.all false
set_option maxRecDepth 100000
set_option maxHeartbeats 4000000
/-! What the top has: defs, classes, constants; guesses. -/
namespace DL
open PySem PySem.Spec PyProof.Rows L2
section
variable {K : PySem.W.Frag} {H : Hp} {vs : List V} {a b c d e f : Sp1}
theorem ia1 (h : IsAll K H vs [a]) : ∃ v, vs = [v] ∧ Is K H v a := by
  obtain _ | ⟨i1, _ | _⟩ := h
  exact ⟨_, rfl, i1⟩
theorem ia2 (h : IsAll K H vs [a, b]) : ∃ v1 v2, vs = [v1, v2] ∧ Is K H v1 a ∧ Is K H v2 b := by
  obtain _ | ⟨i1, _ | ⟨i2, _ | _⟩⟩ := h
  exact ⟨_, _, rfl, i1, i2⟩
theorem ia3 (h : IsAll K H vs [a, b, c]) : ∃ v1 v2 v3, vs = [v1, v2, v3] ∧ Is K H v1 a ∧ Is K H v2 b ∧ Is K H v3 c := by
  obtain _ | ⟨i1, _ | ⟨i2, _ | ⟨i3, _ | _⟩⟩⟩ := h
  exact ⟨_, _, _, rfl, i1, i2, i3⟩
theorem ia4 (h : IsAll K H vs [a, b, c, d]) : ∃ v1 v2 v3 v4, vs = [v1, v2, v3, v4] ∧ Is K H v1 a ∧ Is K H v2 b ∧ Is K H v3 c ∧ Is K H v4 d := by
  obtain _ | ⟨i1, _ | ⟨i2, _ | ⟨i3, _ | ⟨i4, _ | _⟩⟩⟩⟩ := h
  exact ⟨_, _, _, _, rfl, i1, i2, i3, i4⟩
theorem ia5 (h : IsAll K H vs [a, b, c, d, e]) : ∃ v1 v2 v3 v4 v5, vs = [v1, v2, v3, v4, v5] ∧ Is K H v1 a ∧ Is K H v2 b ∧ Is K H v3 c ∧ Is K H v4 d ∧ Is K H v5 e := by
  obtain _ | ⟨i1, _ | ⟨i2, _ | ⟨i3, _ | ⟨i4, _ | ⟨i5, _ | _⟩⟩⟩⟩⟩ := h
  exact ⟨_, _, _, _, _, rfl, i1, i2, i3, i4, i5⟩
theorem ia6 (h : IsAll K H vs [a, b, c, d, e, f]) : ∃ v1 v2 v3 v4 v5 v6, vs = [v1, v2, v3, v4, v5, v6] ∧ Is K H v1 a ∧ Is K H v2 b ∧ Is K H v3 c ∧ Is K H v4 d ∧ Is K H v5 e ∧ Is K H v6 f := by
  obtain _ | ⟨i1, _ | ⟨i2, _ | ⟨i3, _ | ⟨i4, _ | ⟨i5, _ | ⟨i6, _ | _⟩⟩⟩⟩⟩⟩ := h
  exact ⟨_, _, _, _, _, _, rfl, i1, i2, i3, i4, i5, i6⟩
end
end DL
namespace W
open PySem PySem.Spec PyProof.Rows L2 DL Tx Mi
structure Dx (K : PySem.W.Frag) (mg : Str → Option Value) (n : Str) (st : Stmt) (ps : List Str) where
  f : Addr
  fd : FuncData
  d : Df K mg n st ps f fd
/-- a method by its class and name -/
structure Mx (K : PySem.W.Frag) (C : Addr) (n qn : Str) (st : Stmt) (ps : List Str) where
  f : Addr
  fd : FuncData
  F : Fun K n qn st f fd
  b : Binds K fd ps []
structure Cx1 (K : PySem.W.Frag) (mg : Str → Option Value) (n : Str) (C : Addr) (fl : List Str) : Prop where
  g : mg n = some (.ref C)
  c : Cls K C
  na : ∀ x ∈ fl, NoAttr K C x
abbrev houseF : List Str := ["places", "room", "late", "most"]
abbrev runF : List Str := ["house", "guesser", "cells", "lies", "answers", "rows", "state"]
structure Ev (K : PySem.W.Frag) (mg : Str → Option Value) where
  isG : Dx K mg "is_guesser" sIsGuesser ["guesser", "within"]
  needG : Dx K mg "need_guesser" sNeedGuesser ["guesser"]
  first : Dx K mg "first_state" sFirst ["guesser"]
  strided : Dx K mg "strided" sStrided ["trust", "state", "place"]
  paired : Dx K mg "paired" sPaired ["many", "state", "place"]
  stepped : Dx K mg "stepped" sStepped ["guesser", "state", "place"]
  guesses : Dx K mg "guesses" sGuesses ["guesser", "places"]
  needSetting : Dx K mg "need_setting" sNeedSetting ["setting"]
  isDeed : Dx K mg "is_deed" sIsDeed ["places", "deed"]
  needRow : Dx K mg "need_row" sNeedRow ["places", "row"]
  cHouse : Addr
  house : Cx1 K mg "House" cHouse houseF
  houseI : Mx K cHouse "__init__" "House.__init__" sHouse ["self", "setting"]
  houseM : Mk K cHouse houseI.f
  begun : Dx K mg "begun" sBegun ["guesser"]
  laid : Dx K mg "laid" sLaid ["house", "shelf", "place", "waits", "events"]
  come : Dx K mg "come" sCome ["house", "shelf", "way", "events"]
  asked : Dx K mg "asked" sAsked ["house", "shelf", "way", "place", "events"]
  started : Dx K mg "started" sStarted ["house", "shelf", "way", "guessed", "events"]
  gone : Dx K mg "gone_on" sGone ["house", "guesser", "state", "place"]
  idle : Dx K mg "idle_in" sIdle ["state"]
  cRun : Addr
  run : Cx1 K mg "Run" cRun runF
  runI : Mx K cRun "__init__" "Run.__init__" sRun ["self", "setting", "guesser", "row"]
  runM : Mk K cRun runI.f
  deed : Mx K cRun "do_deed" "Run.do_deed" sDoDeed ["self", "turn", "deed"]
  deedM : Meth K cRun "do_deed" deed.f
  needAll : Dx K mg "need_all" sNeedAll ["setting", "guesser", "row"]
  story : Dx K mg "story" sStory ["setting", "guesser", "row"]
  needW : Dx K mg "need_weights" sNeedWeights ["weights"]
  turnCost : Dx K mg "turn_cost" sTurnCost ["events", "weights"]
  bothB : Dx K mg "both_behind" sBothBehind ["house", "guessers", "states", "place", "weights"]
  needRows : Dx K mg "need_rows" sNeedRows ["most", "places", "length"]
  worst : Dx K mg "worst" sWorst ["setting", "guesser", "other", "weights", "places", "length"]
  taken : Dx K mg "_law_taken" sTaken ["_law_row", "_law_many"]
  lGuesser : Dx K mg "_law_guesser" sLGuesser ["_law_row", "_law_within"]
  lSetting : Dx K mg "_law_setting" sLSetting ["_law_row", "_law_most"]
  lPlaces : Dx K mg "_law_places" sLPlaces ["_law_row", "_law_places_here", "_law_most"]
  lDeeds : Dx K mg "_law_deeds" sLDeeds ["_law_row", "_law_places_here", "_law_most"]
  same : Dx K mg "_law_same" sSame ["_law_setting_here", "_law_one", "_law_other", "_law_row"]
section
variable {P : Program} {w : World} {K : PySem.W.Frag} {mg : Str → Option Value} {base : Heap}
theorem ev_isG (T : Tp K w mg) (E : Ev K mg) : FnOk P w K mg base CX0 4 E.isG.f E.isG.fd ["guesser", "within"] (spD K (gIsG 4)) := ok_isGs T E.isG.d 4
theorem ev_needG (T : Tp K w mg) (E : Ev K mg) : FnOk P w K mg base CX0 5 E.needG.f E.needG.fd ["guesser"] (spD K gNeedG) := ok_needG E.isG.d (ev_isG T E) E.needG.d.F
theorem ev_first (E : Ev K mg) : FnOk P w K mg base CX0 4 E.first.f E.first.fd ["guesser"] (spD K (gFirst 4)) := ok_firsts E.first.d 4
theorem ev_stepped (T : Tp K w mg) (E : Ev K mg) : FnOk P w K mg base CX0 5 E.stepped.f E.stepped.fd ["guesser", "state", "place"] (spD K (gStepped 4)) :=
  ok_steppeds T E.strided.d (ok_strided T E.strided.d.F) E.paired.d (ok_paired T E.paired.d.F) E.stepped.d 4
end

/-! ### guesses -/
def guessesM (g : Gs) : Kn → List Int → List (List Int)
  | _, [] => []
  | k, p :: ps => (adv g k p).2 :: guessesM g (adv g k p).1 ps
def knA (g : Gs) (k : Kn) (ps : List Int) : Kn := ps.foldl (fun k p => (adv g k p).1) k
theorem knA_snoc (g : Gs) (k : Kn) (ps : List Int) (p : Int) : knA g k (ps ++ [p]) = (adv g (knA g k ps) p).1 := by unfold knA; rw [List.foldl_append]; rfl
theorem guessesM_snoc (g : Gs) : ∀ (ps : List Int) (k : Kn) (p : Int), guessesM g k (ps ++ [p]) = guessesM g k ps ++ [(adv g (knA g k ps) p).2]
  | [], _, _ => rfl
  | x :: ps, k, p => by
    show (adv g k x).2 :: guessesM g (adv g k x).1 (ps ++ [p]) = (adv g k x).2 :: guessesM g (adv g k x).1 ps ++ [(adv g (knA g (adv g k x).1 ps) p).2]
    rw [guessesM_snoc g ps]
    rfl
theorem knA_fits {g : Gs} {wi : Nat} (ok : g.ok wi) : ∀ (ps : List Int) (k : Kn) (m : Nat), Kf m g k → Kf (m + ps.length) g (knA g k ps)
  | [], _, _, h => h
  | p :: ps, k, m, h => by
    have h1 := knA_fits ok ps _ _ (adv_fits g wi k m p ok h).1
    have e : m + (p :: ps).length = m + 1 + ps.length := by simp only [List.length_cons]; omega
    rw [e]
    exact h1
theorem take_snoc {α : Type} {l : List α} {i : Nat} {x : α} (h : l[i]? = some x) : l.take (i + 1) = l.take i ++ [x] := by
  rw [List.take_add_one, h]; rfl
section
variable {P : Program} {w : World} {K : PySem.W.Frag} {mg : Str → Option Value} {base : Heap}
abbrev nGuesses : List Str := ["guesser", "places", "state", "found", "place", "some"]
theorem scGuesses : FnScope nGuesses ["guesser", "places"] (defScope sGuesses) := ⟨rfl, rfl, rfl, by decide +kernel, rfl, by decide +kernel, by decide +kernel⟩
def encL (l : List Int) : PyData := .list (encI l)
def gGuesses (as : List Sp1) (r : Sp1) : Prop := ∃ (g : Gs) (ps : List Int), g.ok 0 ∧ ps.length ≤ 800 ∧ as = [.dat g.enc, .dat (.list (encI ps))] ∧ r = .dat (.list ((guessesM g (Mi.first g) ps).map encL))
theorem ok_guesses (T : Tp K w mg) (E : Ev K mg) : FnOk P w K mg base CX0 6 E.guesses.f E.guesses.fd ["guesser", "places"] (spD K gGuesses) := by
  refine ok_of E.guesses.d.F scGuesses (fun as r h => by obtain ⟨_, _, _, _, rfl, _⟩ := h; rfl) fun cdv A outer s H Hk vs as r Q hr sm ia g q => ?_
  obtain ⟨gs, ps, ok, hps, rfl, rfl⟩ := g
  obtain ⟨vg, vp, rfl, i1, i2⟩ := ia2 ia
  refine xs_ex sm (ve_f E.needG.d (ev_needG T E) hr (va_cons (ve_v 0 rfl i1) va_nil) ⟨gs, ok, rfl, rfl⟩) fun Hk1 H1 E1 => ?_
  replace i1 := i1.up E1.kk
  refine xs_set E1.sub (ve_f E.first.d (ev_first E) (hr.mono (by decide)) (va_cons (ve_v 0 rfl i1) va_nil) ⟨gs, 0, ok, by decide, rfl, rfl⟩) (i := 2) (fun v2 Hk2 H2 E2 i3 => ?_) scGuesses.nd
  refine xs_nl (i := 3) (fun l nl => ?_) scGuesses.nd
  have E12 := E1.trans E2
  replace i1 := i1.up E2.kk
  replace i2 := (i2.up E1.kk).up E2.kk
  have E3 : Ext M0 Hk2 H2 Hk2 (upd H2 l (.lst [])) := Ext.allocM E2.sub nl
  have nlH : H l = none := E12.same.free nl
  refine xs_for E3.sub (vi_list (ve_v 1 rfl i2)) (pg_name (i := 4) scGuesses.nd rfl (.inl rfl)) rfl PassesOwn.never
    (fun i σ' Hk' H' => ∃ vst o4 o5 ws, σ' = [some vg, some vp, some vst, some (.ref l), o4, o5] ∧ Ext M0 Hk H Hk' H' ∧ Hk' l = none ∧ H' l = some (.lst ws) ∧ DqAll K Hk' ws ((guessesM gs (Mi.first gs) (ps.take i)).map encL) ∧ Is K Hk' vst (.dat (knA gs (Mi.first gs) (ps.take i)).enc))
    (fun Hk4 H4 E4 => ⟨v2, none, none, [], rfl, (E12.trans E3).trans E4, (E4.unk (E2.sub.free nl) (by rw [upd_same]; exact fun z => by cases z)), E4.same _ _ upd_same, .nil, i3.up E4.kk⟩)
    (fun i d v σ' Hk0 H0 Hk' H' hd' kk0 s0 hP E5 dv => ?_) fun σ' Hk' H' kk s' hP => ?_
  · obtain ⟨vst, o4, o5, ws, rfl, E0', nk, hl, da, ist⟩ := hP
    obtain ⟨p, hp, rfl⟩ := encI_at hd'
    have hi : i < ps.length := by
      have := List.getElem?_eq_some_iff.mp hp
      exact this.1
    have tl0 : H0 l ≠ none := by rw [hl]; exact fun z => by cases z
    have lt : (ps.take i).length ≤ 800 := by rw [List.length_take]; omega
    have kf := knA_fits ok (ps.take i) _ 0 (first_fits gs)
    rw [Nat.zero_add] at kf
    replace i1 : Is K Hk' vg (.dat gs.enc) := i1.up (kk0.trans E5.kk)
    replace ist := ist.up E5.kk
    refine xs_asg E5.sub (ve_f E.stepped.d (ev_stepped T E) hr (va_cons (ve_v 0 rfl i1) (va_cons (ve_v 2 rfl ist) (va_cons (ve_v 4 rfl (y := .dat (.int p)) dv) va_nil))) ⟨gs, 0, _, _, p, ok, by decide, kf, by omega, rfl, rfl⟩)
      (pg_tup rfl (pgs_cons (pg_name (i := 2) scGuesses.nd rfl (.inl rfl)) (pgs_cons (pg_name (i := 5) scGuesses.nd rfl (.inl rfl)) pgs_nil))) fun v Hk6 H6 E6 dv6 => g_tup2 dv6 E6.sub fun v3 v4 d3 d4 => ?_
    have E56 := E5.trans E6
    have nk6 : Hk6 l = none := E56.unk nk tl0
    have hwl : ws.length ≤ 800 := by
      rw [da.len, List.length_map]
      have : ∀ (qs : List Int) (k : Kn), (guessesM gs k qs).length = qs.length := by
        intro qs
        induction qs with
        | nil => exact fun _ => rfl
        | cons q qs ih => intro k; show (guessesM gs _ qs).length + 1 = qs.length + 1; rw [ih]
      rw [this]
      exact lt
    refine xs_app E6.sub (ve_v 3 rfl rfl) (E56.same _ _ hl) (by omega) (ve_v 5 rfl (y := .dat (encL (adv gs (knA gs (Mi.first gs) (ps.take i)) p).2)) d4) fun v7 Hk7 H7 E7 i7 => wss_nil ?_
    have tl6 : H6 l ≠ none := by rw [E56.same _ _ hl]; exact fun z => by cases z
    have nk7 : Hk7 l = none := E7.unk nk6 tl6
    have EE := (E0'.trans E56).trans E7
    refine ⟨Hk7, E56.kk.trans E7.kk, (EE.loc nlH nk7).sub, v3, _, _, ws ++ [v7], rfl, EE.loc nlH nk7, nk7, upd_same, ?_, ?_⟩
    · rw [take_snoc hp, guessesM_snoc, List.map_append]
      exact (da.up (E56.kk.trans E7.kk)).app (.cons i7 .nil)
    · rw [take_snoc hp, knA_snoc]
      exact d3.up E7.kk
  · obtain ⟨vst, o4, o5, ws, rfl, E0', nk, hl, da, ist⟩ := hP
    have el : (encI ps).length = ps.length := by unfold encI; rw [List.length_map]
    rw [el, List.take_length] at da
    have ff := E0'.fix nlH nk hl
    refine xs_ret ff.sub (ve_v 3 rfl (y := .dat (.list ((guessesM gs (Mi.first gs) ps).map encL))) (.lst upd_same (da.up (same_up nk)))) fun v8 Hk8 H8 E8 i8 => q v8 Hk8 H8 (ff.trans E8) i8
end
end W
end
section
set_option Elab.async false
set_option linter.all false
set_option maxRecDepth 100000
set_option maxHeartbeats 4000000
/-! House, begun, laid, come -/
namespace W
open PySem PySem.Spec PyProof.Rows L2 DL Tx Mi
/-! ### settings -/
structure Stg where
  mem : List Int
  room : Int
  late : Int
  most : Int
def Stg.enc (s : Stg) : PyData := .tuple [.tuple (encI s.mem), .int s.room, .int s.late, .int s.most]
def Stg.hs (s : Stg) : Hs := ⟨s.mem.length, s.room, s.late, s.most⟩
structure Stg.ok (s : Stg) : Prop where
  m1 : 1 ≤ s.mem.length
  m2 : s.mem.length ≤ 32
  mm : ∀ x ∈ s.mem, 0 ≤ x ∧ x ≤ 99
  r1 : 1 ≤ s.room
  r2 : s.room ≤ 8
  l1 : 0 ≤ s.late
  l2 : s.late ≤ 4
  w1 : 1 ≤ s.most
  w2 : s.most ≤ 4
structure _root_.Mi.Hs.ok (h : Hs) : Prop where
  p1 : 1 ≤ h.places
  p2 : h.places ≤ 32
  r1 : 1 ≤ h.room
  r2 : h.room ≤ 8
  l1 : 0 ≤ h.late
  l2 : h.late ≤ 4
  w1 : 1 ≤ h.most
  w2 : h.most ≤ 4
theorem Stg.ok.hs {s : Stg} (h : s.ok) : s.hs.ok := ⟨by have := h.m1; simp only [Stg.hs]; omega, by have := h.m2; simp only [Stg.hs]; omega, h.r1, h.r2, h.l1, h.l2, h.w1, h.w2⟩
/-! ### a house as an object -/
def houseFs (h : Hs) : List (Str × V) := [("places", .int h.places), ("room", .int h.room), ("late", .int h.late), ("most", .int h.most)]
def HouseP (C : Addr) (h : Hs) : PySem.W.Frag → Hp → V → Prop := fun _ Hk v => ∃ p dx, v = .ref p ∧ Hk p = some (.ins C dx (houseFs h))
theorem HouseP.mono {C : Addr} {h : Hs} (K : PySem.W.Frag) (H H' : Hp) (v : V) (s : Same H H') : HouseP C h K H v → HouseP C h K H' v := fun ⟨p, dx, e, q⟩ => ⟨p, dx, e, s _ _ q⟩
abbrev spHouse (C : Addr) (h : Hs) : Sp1 := .obj (HouseP C h) (fun K H H' v s q => HouseP.mono K H H' v s q)
theorem putF_len (f : Str) (v : V) : ∀ (fs : List (Str × V)), (putF f v fs).length ≤ fs.length + 1
  | [] => Nat.le_refl _
  | (g, x) :: r => by
    unfold putF
    split
    · simp
    · have := putF_len f v r
      simp only [List.length_cons]
      omega
section
variable {P : Program} {w : World} {K : PySem.W.Frag} {mg : Str → Option Value} {base : Heap}
abbrev nHouse : List Str := ["self", "setting", "memory", "room", "late", "most"]
theorem scHouse : FnScope nHouse ["self", "setting"] (defScope sHouse) := ⟨rfl, rfl, rfl, by decide +kernel, rfl, by decide +kernel, by decide +kernel⟩
def spInitH (K : PySem.W.Frag) (C : Addr) : List V → Hp → VK → Prop := fun vs H Q => ∃ Hk x dx s v, vs = [.ref x, v] ∧ Same Hk H ∧ Hk x = none ∧ H x = some (.ins C dx []) ∧ Dq K Hk v (Stg.enc s) ∧ ∀ Hk2 H2, Ext (M1 x) Hk H Hk2 H2 → Hk2 x = none → H2 x = some (.ins C dx (houseFs s.hs)) → Q .non H2
theorem ok_house (T : Tp K w mg) (E : Ev K mg) : FnOk P w K mg base CX0 1 E.houseI.f E.houseI.fd ["self", "setting"] (fun vs H Q _ => spInitH K E.cHouse vs H Q) := by
  refine ok_gen E.houseI.F scHouse (fun vs H Q h => by obtain ⟨_, _, _, _, _, rfl, _⟩ := h; rfl) fun cdv A outer s H vs Q hr g => ?_
  obtain ⟨Hk, x, dx, st, v, rfl, sm, nx, hx, dv, q⟩ := g
  refine xs_asg sm (ve_v 1 rfl (y := .dat st.enc) dv) (pg_tup rfl (pgs_cons (pg_name (i := 2) scHouse.nd rfl (.inl rfl)) (pgs_cons (pg_name (i := 3) scHouse.nd rfl (.inl rfl)) (pgs_cons (pg_name (i := 4) scHouse.nd rfl (.inl rfl)) (pgs_cons (pg_name (i := 5) scHouse.nd rfl (.inl rfl)) pgs_nil)))))
    fun v' Hk1 H1 E1 dv' => g_tup4 dv' E1.sub fun v1 v2 v3 v4 d1 d2 d3 d4 => ?_
  have tx : H x ≠ none := by rw [hx]; exact fun z => by cases z
  have nx1 := E1.unk nx tx
  have c := E.house.c
  have na : ∀ f ∈ houseF, NoAttr K E.cHouse f := E.house.na
  refine xs_fld E1.sub (ve_lenT T.len PySem.boot_len (ve_v 2 rfl (y := .dat (.tuple (encI st.mem))) d1)) (ve_v 0 rfl rfl) (E1.same _ _ hx) c (na _ (by simp)) (by decide) fun v5 Hk2 H2 E2 i5 => ?_
  have tx1 : H1 x ≠ none := by rw [E1.same _ _ hx]; exact fun z => by cases z
  have nx2 := E2.unk nx1 tx1
  have EA := fun o => (Ext.pure (M := M1 x) (E1.trans E2)).mut (o := o) (p := x) rfl nx2
  refine xs_fld (EA _).sub (ve_v 3 rfl (y := .dat (.int st.room)) (d2.up E2.kk)) (ve_v 0 rfl rfl) upd_same c (na _ (by simp)) (by have := putF_len "places" v5 []; simp only [List.length_nil] at this; omega) fun v6 Hk3 H3 E3 i6 => ?_
  have nx3 := E3.unk nx2 (by rw [upd_same]; exact fun z => by cases z)
  have EB := fun o => ((EA _).trans E3.pure).mut (o := o) (p := x) rfl nx3
  refine xs_fld (EB _).sub (ve_v 4 rfl (y := .dat (.int st.late)) ((d3.up E2.kk).up E3.kk)) (ve_v 0 rfl rfl) upd_same c (na _ (by simp)) (by have := putF_len "places" v5 []; have := putF_len "room" v6 (putF "places" v5 []); simp only [List.length_nil] at *; omega) fun v7 Hk4 H4 E4 i7 => ?_
  have nx4 := E4.unk nx3 (by rw [upd_same]; exact fun z => by cases z)
  have EC := fun o => ((EB _).trans E4.pure).mut (o := o) (p := x) rfl nx4
  refine xs_fld (EC _).sub (ve_v 5 rfl (y := .dat (.int st.most)) (((d4.up E2.kk).up E3.kk).up E4.kk)) (ve_v 0 rfl rfl) upd_same c (na _ (by simp)) (by have := putF_len "places" v5 []; have := putF_len "room" v6 (putF "places" v5 []); have := putF_len "late" v7 (putF "room" v6 (putF "places" v5 [])); simp only [List.length_nil] at *; omega) fun v8 Hk5 H5 E5 i8 => wss_nil ?_
  have nx5 := E5.unk nx4 (by rw [upd_same]; exact fun z => by cases z)
  refine q Hk5 _ (((EC _).trans E5.pure).mut (p := x) rfl nx5) nx5 ?_
  rw [upd_same]
  have e5 := dp_int i5
  have e6 := dp_int i6
  have e7 := dp_int i7
  have e8 := dp_int i8
  subst e5 e6 e7 e8
  have el : (encI st.mem).length = st.mem.length := by unfold encI; rw [List.length_map]
  rw [el]
  rfl
end
section
variable {X : Cx} {σ : L2.St} {Hk : Hp} {e : Expr} {pos p : Pos}
theorem ve_house (T : Tp X.K X.w X.mg) (E : Ev X.K X.mg) (hr : Room 2 X.A) {st : Stg} (h : VE X σ Hk e (.dat st.enc)) (hg : Gl X "House" := by rfl) (hdb : (("House" : Str) == ("__debug__" : Str)) = false := by decide) (he : starEach [e] X.env = (false, eval e X.env) :: starEach [] X.env := by rfl) (hpl : (backTo pos (starEach [] X.env)).any (·.1) = false := by rfl) :
    VE X σ Hk (.Call (.Name "House" p) [e] [] pos) (spHouse E.cHouse st.hs) :=
  ve_of (pe_make (x := "House") E.houseM (ok_house T E) hr hg E.house.g E.houseI.b .nil pass0 (pa_cons pe_w pa_nil he) hdb he hpl) fun H s Q k => h H s _ fun v Hk1 H1 E1 i1 => fun x dx nx ndx ne => by
    have EA : Ext M0 Hk H Hk1 (upd (upd H1 dx (.own x)) x (.ins E.cHouse dx [])) := (E1.trans (Ext.allocM E1.sub ndx)).trans (Ext.allocM (Ext.allocM (M := M0) E1.sub ndx).sub (by rw [upd_ne ne.symm]; exact nx))
    refine ⟨Hk1, x, dx, st, v, rfl, EA.sub, E1.sub.free nx, upd_same, i1, fun Hk2 H2 E2 n2 e2 => ⟨rfl, ?_⟩⟩
    have nH : H x = none := E1.same.free nx
    have EB : Ext M0 Hk H Hk2 H2 := (EA.mono (M' := M1 x) fun _ z => z.elim).trans E2 |>.local_ nH
    exact k _ _ H2 (EB.fix nH n2 e2) ⟨x, dx, rfl, upd_same⟩
/-- a field of a house -/
theorem ve_hf {C pa dx : Addr} {hh : Hs} {f : Str} {i : Int} (h : VE X σ Hk e (.val (.ref pa))) (c : Cls X.K C) (n : NoAttr X.K C f) (ho : Hk pa = some (.ins C dx (houseFs hh))) (hv : (houseFs hh).lookup f = some (.int i)) (hb : attributeBase e f X.env (eval e X.env) = eval e X.env := by rfl) : VE X σ Hk (.Attribute e f pos) (.dat (.int i)) :=
  ve_fld h ho c n hv (.int i) hb
end
section
variable {P : Program} {w : World} {K : PySem.W.Frag} {mg : Str → Option Value} {base : Heap}
theorem scBegun : FnScope ["guesser"] ["guesser"] (defScope sBegun) := ⟨rfl, rfl, rfl, by decide +kernel, rfl, by decide +kernel, by decide +kernel⟩
def gBegun (as : List Sp1) (r : Sp1) : Prop := ∃ (g : Gs), g.ok 0 ∧ as = [.dat g.enc] ∧ r = .dat (begun g).enc
theorem ok_begun (E : Ev K mg) : FnOk P w K mg base CX0 5 E.begun.f E.begun.fd ["guesser"] (spD K gBegun) := by
  refine ok_of E.begun.d.F scBegun (fun as r h => by obtain ⟨_, _, rfl, _⟩ := h; rfl) fun cdv A outer s H Hk vs as r Q hr sm ia g q => ?_
  obtain ⟨gs, ok, rfl, rfl⟩ := g
  obtain ⟨vg, rfl, i1⟩ := ia1 ia
  exact xs_ret sm (ve_tup (ds := [.tuple [], .tuple [], (first gs).enc]) (va_cons (ve_tup (ds := []) va_nil) (va_cons (ve_tup (ds := []) va_nil) (va_cons (ve_f E.first.d (ev_first E) hr (va_cons (ve_v 0 rfl i1) va_nil) ⟨gs, 0, ok, by decide, rfl, rfl⟩) va_nil)))) fun v Hk2 H2 E2 i => q v Hk2 H2 E2 i

/-! ### laid -/
theorem laid_len {h : Hs} (ho : h.ok) {sh : Sv} {p : Int} {b : Bool} (hs : (sh.length : Int) ≤ h.room) : ((laid h sh p b).1.length : Int) ≤ h.room ∧ (laid h sh p b).2.length ≤ 1 := by
  have := ho.r1
  unfold laid
  split
  · rename_i c
    cases sh with
    | nil => simp at c; omega
    | cons x r => simp only [List.length_append, List.length_cons, List.length_nil] at *; omega
  · rename_i c
    simp only [List.length_append, List.length_cons, List.length_nil]
    omega
theorem scLaid : FnScope ["house", "shelf", "place", "waits", "events"] ["house", "shelf", "place", "waits", "events"] (defScope sLaid) := ⟨rfl, rfl, rfl, by decide +kernel, rfl, by decide +kernel, by decide +kernel⟩
def gLaid (C : Addr) (as : List Sp1) (r : Sp1) (es : List PyData) : Prop := ∃ (h : Hs) (sh : Sv) (p : Int) (b : Bool), h.ok ∧ (sh.length : Int) ≤ h.room ∧ as = [spHouse C h, .dat (encS sh), .dat (.int p), .dat (.bool b)] ∧ r = .dat (encS (laid h sh p b).1) ∧ es = (laid h sh p b).2.map encV1
theorem ok_laid (T : Tp K w mg) (E : Ev K mg) : FnOk P w K mg base CX0 1 E.laid.f E.laid.fd ["house", "shelf", "place", "waits", "events"] (spM K (gLaid E.cHouse)) := by
  refine ok_ofM E.laid.d.F scLaid (fun as r es h => by obtain ⟨_, _, _, _, _, _, rfl, _⟩ := h; rfl) fun cdv A outer s H Hk vs as r l ws ds es Q hr sm nl hl hd hz ia g q => ?_
  obtain ⟨h, sh, p, b, ho, hs, rfl, rfl, rfl⟩ := g
  obtain ⟨vh, vsh, vp, vb, vl, rfl, i1, i2, i3, i4, i5⟩ := ia5 ia
  obtain ⟨pa, dx, rfl, hpa⟩ := i1
  have el : vl = .ref l := i5
  subst el
  have c := E.house.c
  have na : ∀ f ∈ houseF, NoAttr K E.cHouse f := E.house.na
  have tl : H l ≠ none := by rw [hl]; exact fun z => by cases z
  have r1 := ho.r1
  have r2 := ho.r2
  have hsl : (sh.map encS1).length = sh.length := List.length_map _
  by_cases hc : (sh.length : Int) = h.room
  · obtain ⟨x, rs, rfl⟩ : ∃ x rs, sh = x :: rs := by
      cases sh with
      | nil => simp at hc; omega
      | cons x rs => exact ⟨x, rs, rfl⟩
    refine xs_ifT sm ((vt_c (ve_lenT T.len PySem.boot_len (ve_v 1 rfl (y := .dat (.tuple ((x :: rs).map encS1))) i2)) (ve_hf (ve_v 0 rfl (y := .val (.ref pa)) rfl) c (na _ (by simp)) hpa (i := h.room) rfl) cd_eqI).is (by rw [hsl]; exact decide_eq_true hc)) fun Hk1 H1 E1 => ?_
    replace i2 : Is K Hk1 vsh (.dat (.tuple (encS1 x :: rs.map encS1))) := i2.up E1.kk
    refine xs_app E1.sub (ve_v 4 rfl rfl) (E1.same _ _ hl) (by rw [hd.len]; omega) (ve_tup (ds := [.str (if x.2 = true then "waste" else "leave"), .int x.1]) (va_cons (ve_if (x := .dat (.str (if x.2 = true then "waste" else "leave"))) (vt_val (ve_itT (ds := [.int x.1, .bool x.2]) (ve_itT (ve_v 1 rfl i2) (ve_int (i := 0)) rfl) (ve_int (i := 1)) rfl))
      (fun z => ve_str.is (by rw [if_pos z])) (fun z => ve_str.is (by rw [if_neg (by rw [z]; decide)]))) (va_cons (ve_itT (ds := [.int x.1, .bool x.2]) (ve_itT (ve_v 1 rfl i2) (ve_int (i := 0)) rfl) (ve_int (i := 0)) rfl) va_nil))) fun v6 Hk2 H2 E2 i6 => ?_
    have E12 := E1.trans E2
    have nl2 := E12.unk nl tl
    have EA : Ext (M1 l) Hk H Hk2 (upd H2 l (.lst (ws ++ [v6]))) := E12.pure.mut rfl nl2
    replace i2 := i2.up E2.kk
    refine xs_set EA.sub (ve_slT (ve_v 1 rfl i2) (oi_some ve_int) oi_none) (i := 1) (fun v7 Hk3 H3 E3 i7 => wss_nil ?_) scLaid.nd
    have e7 : DL.cutD (encS1 x :: rs.map encS1) (some 1) none = rs.map encS1 := by
      rw [show (1 : Int) = ((1 : Nat) : Int) from rfl, DL.cutD_from _ 1 (by simp)]
      rfl
    rw [e7] at i7
    have E23 := E2.trans (Ext.refl E2.sub)
    have EB := EA.trans E3.pure
    have hl3 := E3.same _ _ (show (upd H2 l (.lst (ws ++ [v6]))) l = some (.lst (ws ++ [v6])) from upd_same)
    refine xs_ret E3.sub (ve_catT (ve_v 1 rfl i7) (ve_tup (ds := [encS1 (p, b)]) (va_cons (ve_tup (ds := [.int p, .bool b]) (va_cons (ve_v 2 rfl ((i3.up E12.kk).up E3.kk)) (va_cons (ve_v 3 rfl ((i4.up E12.kk).up E3.kk)) va_nil))) va_nil)) (by
      simp only [List.length_map, List.length_cons, List.length_nil]
      simp only [List.length_cons] at hc
      omega)) fun v8 Hk4 H4 E4 i8 => ?_
    have e : laid h (x :: rs) p b = (rs ++ [(p, b)], [((if x.2 = true then "waste" else "leave" : Str), x.1)]) := by
      unfold laid
      rw [if_pos hc]
    rw [e] at q
    refine q v8 Hk4 H4 (ws ++ [v6]) (EB.trans E4.pure) (E4.same _ _ hl3) ?_ ?_
    · exact (hd.up (EB.kk.trans E4.kk)).app (.cons (Is.up (a := .dat (encV1 (_, x.1))) i6 (E3.kk.trans E4.kk)) .nil)
    · have e9 : encS (rs ++ [(p, b)]) = .tuple (rs.map encS1 ++ [encS1 (p, b)]) := by unfold encS; rw [List.map_append]; rfl
      show Dq K Hk4 v8 (encS (rs ++ [(p, b)]))
      rw [e9]
      exact i8
  · refine xs_ifN sm ((vt_c (ve_lenT T.len PySem.boot_len (ve_v 1 rfl (y := .dat (.tuple (sh.map encS1))) i2)) (ve_hf (ve_v 0 rfl (y := .val (.ref pa)) rfl) c (na _ (by simp)) hpa (i := h.room) rfl) cd_eqI).is (by rw [hsl]; exact decide_eq_false hc)) fun Hk1 H1 E1 => ?_
    refine xs_ret E1.sub (ve_catT (ve_v 1 rfl (y := .dat (.tuple (sh.map encS1))) (i2.up E1.kk)) (ve_tup (ds := [encS1 (p, b)]) (va_cons (ve_tup (ds := [.int p, .bool b]) (va_cons (ve_v 2 rfl (i3.up E1.kk)) (va_cons (ve_v 3 rfl (i4.up E1.kk)) va_nil))) va_nil)) (by
      simp only [List.length_map, List.length_cons, List.length_nil]
      omega)) fun v8 Hk4 H4 E4 i8 => ?_
    have e : laid h sh p b = (sh ++ [(p, b)], []) := by
      unfold laid
      rw [if_neg hc]
    rw [e] at q
    have E14 := E1.trans E4
    refine q v8 Hk4 H4 ws E14.pure (E14.same _ _ hl) ?_ ?_
    · rw [List.map_nil, List.append_nil]
      exact hd.up E14.kk
    · have e9 : encS (sh ++ [(p, b)]) = .tuple (sh.map encS1 ++ [encS1 (p, b)]) := by unfold encS; rw [List.map_append]; rfl
      show Dq K Hk4 v8 (encS (sh ++ [(p, b)]))
      rw [e9]
      exact i8
end
end W
end
section
set_option Elab.async false
set_option linter.all false
set_option maxRecDepth 100000
set_option maxHeartbeats 4000000
/-! come -/
namespace DL
open PySem PySem.Spec PyProof.Rows L2
/-! ### data without lists -/
mutual
def noL : PyData → Bool
  | .list _ => false
  | .tuple ds => noLs ds
  | _ => true
def noLs : List PyData → Bool
  | [] => true
  | d :: ds => noL d && noLs ds
end
mutual
theorem dq_dropL {K : PySem.W.Frag} {H : Hp} {p : Addr} {u : HO} (e : H p = some u) (n : ∀ ob xs, u ≠ .frz ob (.tup xs)) : ∀ (d : PyData) (v : V), noL d = true → Dq K H v d → Dq K (drop H p) v d
  | .none, _, _, h => by cases h; exact .non
  | .bool b, _, _, h => by cases h; exact .bl b
  | .int i, _, _, h => by cases h; exact .int i
  | .str x, _, _, h => by cases h; exact .str x
  | .list ds, _, q, h => by cases q
  | .tuple ds, _, q, h => by
    cases h with
    | tup hs ha =>
      obtain ⟨o, h1, h2⟩ := hs
      exact .tup ⟨o, by rw [drop_ne (fun z => by rw [z, e] at h1; exact n _ _ (Option.some.inj h1))]; exact h1, h2⟩ (dqAll_dropL e n ds _ q ha)
  | .dict _, _, _, h => by cases h
theorem dqAll_dropL {K : PySem.W.Frag} {H : Hp} {p : Addr} {u : HO} (e : H p = some u) (n : ∀ ob xs, u ≠ .frz ob (.tup xs)) : ∀ (ds : List PyData) (vs : List V), noLs ds = true → DqAll K H vs ds → DqAll K (drop H p) vs ds
  | [], _, _, h => by cases h; exact .nil
  | d :: ds, _, q, h => by
    cases h with
    | cons h1 h2 =>
      have q' : (noL d && noLs ds) = true := q
      rw [Bool.and_eq_true] at q'
      exact .cons (dq_dropL e n d _ q'.1 h1) (dqAll_dropL e n ds _ q'.2 h2)
end
theorem noLs_map {α : Type} (enc : α → PyData) (h : ∀ a, noL (enc a) = true) : ∀ (l : List α), noLs (l.map enc) = true
  | [] => rfl
  | x :: l => by
    show (noL (enc x) && noLs (l.map enc)) = true
    rw [h x, noLs_map enc h l]
    rfl
theorem lst_nt {xs : List V} : ∀ ob ys, (HO.lst xs) ≠ .frz ob (.tup ys) := fun _ _ q => nomatch q
end DL
namespace W
open PySem PySem.Spec PyProof.Rows L2 DL Tx Mi
theorem map_at {α : Type} {enc : α → PyData} {l : List α} {i : Nat} {d : PyData} (h : (l.map enc)[i]? = some d) : ∃ a, l[i]? = some a ∧ d = enc a := by
  rw [List.getElem?_map] at h
  obtain ⟨a, h1, h2⟩ := Option.map_eq_some_iff.mp h
  exact ⟨a, h1, h2.symm⟩
theorem come_mono (h : Hs) : ∀ (wy : Wy) (a : Sv × Wy × Evs), a.2.2.length ≤ (wy.foldl (come1 h) a).2.2.length
  | [], a => Nat.le_refl _
  | x :: wy, a => by
    refine Nat.le_trans ?_ (come_mono h wy (come1 h a x))
    unfold come1
    split
    · simp only [List.length_append]; omega
    · exact Nat.le_refl _
def comeT (h : Hs) (sh : Sv) (wy : Wy) (i : Nat) : Sv × Wy × Evs := (wy.take i).foldl (come1 h) (sh, [], [])
theorem comeT_snoc {h : Hs} {sh : Sv} {wy : Wy} {i : Nat} {x : Int × Int} (e : wy[i]? = some x) : comeT h sh wy (i + 1) = come1 h (comeT h sh wy i) x := by
  unfold comeT
  rw [take_snoc e, List.foldl_append]
  rfl
theorem comeT_le (h : Hs) (sh : Sv) (wy : Wy) (i : Nat) : (comeT h sh wy i).2.2.length ≤ (come h sh wy).2.2.length := by
  unfold comeT come
  conv => rhs; rw [← List.take_append_drop i wy, List.foldl_append]
  exact come_mono h _ _
theorem comeT_all (h : Hs) (sh : Sv) (wy : Wy) : comeT h sh wy wy.length = come h sh wy := by unfold comeT come; rw [List.take_length]
theorem come1_len {h : Hs} (ho : h.ok) {a : Sv × Wy × Evs} {x : Int × Int} (hs : (a.1.length : Int) ≤ h.room) : ((come1 h a x).1.length : Int) ≤ h.room ∧ (come1 h a x).2.1.length ≤ a.2.1.length + 1 ∧ (come1 h a x).2.2.length ≤ a.2.2.length + 2 := by
  unfold come1
  have := laid_len ho (p := x.1) (b := true) hs
  split
  · refine ⟨this.1, Nat.le_succ _, ?_⟩
    simp only [List.length_append, List.length_cons, List.length_nil]
    omega
  · refine ⟨hs, ?_, Nat.le_add_right _ _⟩
    simp only [List.length_append, List.length_cons, List.length_nil]
    omega
theorem comeT_len {h : Hs} (ho : h.ok) {sh : Sv} {wy : Wy} (hs : (sh.length : Int) ≤ h.room) : ∀ i, i ≤ wy.length → ((comeT h sh wy i).1.length : Int) ≤ h.room ∧ (comeT h sh wy i).2.1.length ≤ i ∧ (comeT h sh wy i).2.2.length ≤ 2 * i
  | 0, _ => by
    unfold comeT
    exact ⟨hs, Nat.le_refl _, Nat.le_refl _⟩
  | i + 1, hi => by
    have e : ∃ x, wy[i]? = some x := ⟨wy[i], List.getElem?_eq_getElem (by omega)⟩
    obtain ⟨x, e⟩ := e
    have ih := comeT_len (wy := wy) ho hs i (by omega)
    have := come1_len ho (x := x) ih.1
    rw [comeT_snoc e]
    exact ⟨this.1, by omega, by omega⟩
theorem noL_v1 (x : Str × Int) : noL (encV1 x) = true := rfl
theorem noL_w1 (x : Int × Int) : noL (encW1 x) = true := rfl
section
variable {P : Program} {w : World} {K : PySem.W.Frag} {mg : Str → Option Value} {base : Heap}
abbrev nCome : List Str := ["house", "shelf", "way", "events", "left", "place", "turns"]
theorem scCome : FnScope nCome ["house", "shelf", "way", "events"] (defScope sCome) := ⟨rfl, rfl, rfl, by decide +kernel, rfl, by decide +kernel, by decide +kernel⟩
def gCome (C : Addr) (as : List Sp1) (r : Sp1) (es : List PyData) : Prop := ∃ (h : Hs) (sh : Sv) (wy : Wy), h.ok ∧ (sh.length : Int) ≤ h.room ∧ wy.length ≤ 100 ∧ as = [spHouse C h, .dat (encS sh), .dat (.tuple (wy.map encW1))] ∧ r = .dat (.tuple [encS (come h sh wy).1, .list ((come h sh wy).2.1.map encW1)]) ∧ es = (come h sh wy).2.2.map encV1
theorem ok_come (T : Tp K w mg) (E : Ev K mg) : FnOk P w K mg base CX0 2 E.come.f E.come.fd ["house", "shelf", "way", "events"] (spM K (gCome E.cHouse)) := by
  refine ok_ofM E.come.d.F scCome (fun as r es h => by obtain ⟨_, _, _, _, _, _, rfl, _⟩ := h; rfl) fun cdv A outer s H Hk vs as r l ws ds es Q hr sm nl hl hd hz ia g q => ?_
  obtain ⟨h, sh, wy, ho, hs, hwy, rfl, rfl, rfl⟩ := g
  obtain ⟨vh, vsh, vw, vl, rfl, i1, i2, i3, i5⟩ := ia4 ia
  have el : vl = .ref l := i5
  subst el
  have tl : H l ≠ none := by rw [hl]; exact fun z => by cases z
  rw [List.length_map] at hz
  refine xs_nl (i := 4) (fun lf nlf => ?_) scCome.nd
  have nlfk : Hk lf = none := sm.free nlf
  have ne : lf ≠ l := fun z => tl (by rw [← z]; exact nlf)
  have E0 : Ext (M1 l) Hk H Hk (upd H lf (.lst [])) := Ext.allocM sm nlf
  refine xs_for E0.sub (vi_tup (ve_v 2 rfl i3)) (pg_tup rfl (pgs_cons (pg_name (i := 5) scCome.nd rfl (.inl rfl)) (pgs_cons (pg_name (i := 6) scCome.nd rfl (.inl rfl)) pgs_nil))) rfl PassesOwn.never
    (fun i σ' Hk' H' => ∃ vst o5 o6 wl we, σ' = [some vh, some vst, some vw, some (.ref l), some (.ref lf), o5, o6] ∧ Ext (M1 l) Hk H Hk' H' ∧ Hk' l = none ∧ Hk' lf = none ∧ H' lf = some (.lst wl) ∧ H' l = some (.lst we) ∧
      DqAll K Hk' we (ds ++ (comeT h sh wy i).2.2.map encV1) ∧ DqAll K Hk' wl ((comeT h sh wy i).2.1.map encW1) ∧ Is K Hk' vst (.dat (encS (comeT h sh wy i).1)))
    (fun Hk4 H4 E4 => ?_) (fun i d v σ' Hk0 H0 Hk' H' hd' kk0 s0 hP E5 dv => ?_) fun σ' Hk' H' kk s' hP => ?_
  · refine ⟨vsh, none, none, [], ws, rfl, E0.trans E4.pure, E4.unk nl (by rw [upd_ne ne.symm]; exact tl), E4.unk nlfk (by rw [upd_same]; exact fun z => by cases z), E4.same _ _ upd_same, E4.same _ _ (by rw [upd_ne ne.symm]; exact hl), ?_, .nil, i2.up E4.kk⟩
    show DqAll K Hk4 ws (ds ++ [])
    rw [List.append_nil]
    exact hd.up E4.kk
  · obtain ⟨vst, o5, o6, wl, we, rfl, EP, nk, nkf, hlf, hle, dle, dlf, ist⟩ := hP
    obtain ⟨x, hx, rfl⟩ := map_at hd'
    have hi : i < wy.length := (List.getElem?_eq_some_iff.mp hx).1
    have cl := comeT_len ho hs (wy := wy) i (by omega)
    have cle := comeT_le h sh wy (i + 1)
    have cs := comeT_snoc (h := h) (sh := sh) hx
    have tl0 : H0 l ≠ none := by rw [hle]; exact fun z => by cases z
    have tf0 : H0 lf ≠ none := by rw [hlf]; exact fun z => by cases z
    refine g_tup2 (d1 := .int x.1) (d2 := .int x.2) dv E5.sub fun v1 v2 d1 d2 => ?_
    have i1' : Is K Hk' vh (spHouse E.cHouse h) := i1.up (kk0.trans E5.kk)
    replace ist := ist.up E5.kk
    by_cases hc : x.2 = 0
    · have ec : come1 h (comeT h sh wy i) x = ((laid h (comeT h sh wy i).1 x.1 true).1, (comeT h sh wy i).2.1, (comeT h sh wy i).2.2 ++ (laid h (comeT h sh wy i).1 x.1 true).2 ++ [(("come" : Str), x.1)]) := by unfold come1; rw [if_pos hc]
      rw [cs, ec] at cle
      simp only [List.length_append, List.length_cons, List.length_nil] at cle
      refine xs_ifT E5.sub ((vt_c (ve_v 6 rfl (y := .dat (.int x.2)) d2) ve_int cd_eqI).is (decide_eq_true hc)) fun Hk6 H6 E6 => ?_
      have E56 := E5.trans E6
      refine xs_setW (i := 1) (we_callM (fa := E.laid.f) (as := [spHouse E.cHouse h, .dat (encS (comeT h sh wy i).1), .dat (.int x.1), .dat (.bool true)]) (ok_laid T E) hr E.laid.d.g E.laid.d.F.kp E.laid.d.b E6.sub (E56.unk nk tl0) (E56.same _ _ hle) (dle.up E56.kk)
        (by simp only [List.length_append, List.length_map]; omega)
        (va_cons (ve_v 0 rfl (i1'.up E6.kk)) (va_cons (ve_v 1 rfl (ist.up E6.kk)) (va_cons (ve_v 5 rfl (y := .dat (.int x.1)) (d1.up E6.kk)) (va_cons ve_bl (va_cons (ve_v 3 rfl rfl) va_nil))))) ⟨h, _, x.1, true, ho, cl.1, rfl, rfl, rfl⟩ fun v7 Hk7 H7 wse E7 nk7 hl7 dl7 i7 => ?_) scCome.nd
      have t6 : H6 lf ≠ none := by rw [E56.same _ _ hlf]; exact fun z => by cases z
      have nkf7 : Hk7 lf = none := (E7.new lf t6).trans (E56.unk nkf tf0)
      refine xs_app E7.sub (ve_v 3 rfl rfl) hl7 (by rw [dl7.len]; simp only [List.length_append, List.length_map]; omega) (ve_tup (ds := [.str "come", .int x.1]) (va_cons ve_str (va_cons (ve_v 5 rfl (y := .dat (.int x.1)) ((d1.up E6.kk).up E7.kk)) va_nil))) fun v8 Hk8 H8 E8 i8 => wss_nil (wss_nil ?_)
      have t7 : H7 l ≠ none := by rw [hl7]; exact fun z => by cases z
      have t7f : H7 lf ≠ none := E7.there _ t6
      have hf7 : H7 lf = some (.lst wl) := E7.keep _ _ ne (E56.same _ _ hlf)
      have nk8 : Hk8 l = none := E8.unk nk7 t7
      have EF : Ext (M1 l) Hk0 H0 Hk8 (upd H8 l (.lst (wse ++ [v8]))) := ((E56.pure.trans E7).trans E8.pure).mut rfl nk8
      refine ⟨Hk8, EF.kk, EF.sub, v7, _, _, wl, _, rfl, EP.trans EF, nk8, E8.unk nkf7 t7f, ?_, upd_same, ?_, ?_, ?_⟩
      · rw [upd_ne ne]
        exact E8.same _ _ hf7
      · rw [cs, ec, List.map_append, List.map_append, ← List.append_assoc, ← List.append_assoc]
        exact (dl7.up E8.kk).app (.cons i8 .nil)
      · rw [cs, ec]
        exact dlf.up EF.kk
      · rw [cs, ec]
        exact i7.up E8.kk
    · have ec : come1 h (comeT h sh wy i) x = ((comeT h sh wy i).1, (comeT h sh wy i).2.1 ++ [(x.1, x.2 - 1)], (comeT h sh wy i).2.2) := by unfold come1; rw [if_neg hc]
      refine xs_ifF E5.sub ((vt_c (ve_v 6 rfl (y := .dat (.int x.2)) d2) ve_int cd_eqI).is (decide_eq_false hc)) fun Hk6 H6 E6 => ?_
      have E56 := E5.trans E6
      refine xs_app E6.sub (ve_v 4 rfl rfl) (E56.same _ _ hlf) (by rw [dlf.len, List.length_map]; omega) (ve_tup (ds := [.int x.1, .int (x.2 - 1)]) (va_cons (ve_v 5 rfl (y := .dat (.int x.1)) (d1.up E6.kk)) (va_cons (ve_sub (ve_v 6 rfl (y := .dat (.int x.2)) (d2.up E6.kk)) ve_int) va_nil))) fun v8 Hk8 H8 E8 i8 => wss_nil (wss_nil ?_)
      have E58 := E56.trans E8
      have nk8 : Hk8 l = none := E58.unk nk tl0
      have nkf8 : Hk8 lf = none := E58.unk nkf tf0
      have hfl : H lf = none := nlf
      have EF : Ext (M1 l) Hk H Hk8 (upd H8 lf (.lst (wl ++ [v8]))) := (EP.trans E58.pure).loc nlf nkf8
      refine ⟨Hk8, E58.kk, EF.sub, vst, _, _, _, we, rfl, EF, nk8, nkf8, upd_same, ?_, ?_, ?_, ?_⟩
      · rw [upd_ne ne.symm]
        exact E58.same _ _ hle
      · rw [cs, ec]
        exact dle.up E58.kk
      · rw [cs, ec, List.map_append]
        exact (dlf.up E58.kk).app (.cons i8 .nil)
      · rw [cs, ec]
        exact ist.up (E6.kk.trans E8.kk)
  · obtain ⟨vst, o5, o6, wl, we, rfl, EP, nk, nkf, hlf, hle, dle, dlf, ist⟩ := hP
    rw [List.length_map, comeT_all] at dle dlf ist
    have ff := EP.fix nlf nkf hlf
    have ku : Same Hk' (upd Hk' lf (.lst wl)) := same_up nkf
    have nk2 : upd Hk' lf (.lst wl) l = none := by rw [upd_ne ne.symm]; exact nk
    have t' : H' l ≠ none := by rw [hle]; exact fun z => by cases z
    exact xs_ret ff.sub (ve_tup (ds := [encS (come h sh wy).1, .list ((come h sh wy).2.1.map encW1)]) (va_cons (ve_v 1 rfl (ist.up ku)) (va_cons (ve_v 4 rfl (y := .dat (.list ((come h sh wy).2.1.map encW1))) (.lst upd_same (dlf.up ku))) va_nil))) fun v9 Hk9 H9 E9 i9 =>
      q v9 Hk9 H9 we (ff.trans E9.pure) (E9.same _ _ hle) (dle.up (ku.trans E9.kk)) i9
end
end W
end
section
set_option Elab.async false
set_option linter.all false
set_option maxRecDepth 100000
set_option maxHeartbeats 4000000
/-! asked, started -/
namespace DL
open PySem PySem.Spec PyProof.Rows L2
section
variable {X : Cx} {σ : L2.St} {Hk H : Hp} {e : Expr} {pos cpos : Pos} {D : Ends} {rest : List Stmt}
/-- n = list(xs), a list that will change -/
theorem xs_copyL {i : Nat} {n m : Str} {pn p : Pos} {ds : List PyData} (s : Same Hk H) (hm : X.mg m = none) (h : VE X σ Hk e (.dat (.list ds)))
    (k : ∀ l xs Hk2 H2, Ext M0 Hk H Hk2 H2 → H l = none → Hk2 l = none → H2 l = some (.lst xs) → DqAll X.K Hk2 xs ds → WSs X rest D (σ.set i (some (.ref l))) H2)
    (hN : X.N.Nodup) (hi : X.N[i]? = some n := by rfl) (hx : Loc X.env.scope n := by first | exact Or.inl rfl | exact Or.inr rfl) (hs : swapsWith (.Call (.Name m p) [e] [] cpos) (some (.Name n pn)) pos.line X.env = pure false := by rfl) (hf : X.fn n = true ∨ X.env.scope.names.lookup n = some .local := by first | exact .inl rfl | exact .inr rfl)
    (hb : bootBuiltins m = some (.type "list") := by decide +kernel) (hg : Gl X m := by rfl) (hn : m ≠ "__name__" := by decide) (hdb : (m == ("__debug__" : Str)) = false := by decide) (he : starEach [e] X.env = (false, eval e X.env) :: starEach [] X.env := by rfl) :
    WSs X (.Assign [.Name n pn] (.Call (.Name m p) [e] [] cpos) pos :: rest) D σ H :=
  wss_cons (ws (ps_set hN hi hx (pe_callTy call_list_of hg hm hb (pa_cons pe_w pa_nil he) hn hdb he) hs hf) (h H s _ fun v Hk1 H1 E1 i1 => by
    obtain ⟨a, xs, rfl, hq, hx'⟩ := dp_lst i1
    exact ⟨a, xs, rfl, .inl (SqL.of (E1.sub _ _ hq)), fun l nl => k l xs Hk1 _ (E1.trans (Ext.allocM E1.sub nl)) (E1.same.free nl) (E1.sub.free nl) upd_same hx'⟩))
end
end DL
namespace W
open PySem PySem.Spec PyProof.Rows L2 DL Tx Mi
/-! ### comprehensions over what is told by a kind -/
section
variable {α β : Type} {enc : α → PyData} {dec : PyData → Option α}
def fF (dec : PyData → Option α) (enc : α → PyData) (q : α → Bool) (d : PyData) : Option PyData := match dec d with
  | some a => if q a = true then some (enc a) else none
  | none => none
def fM (dec : PyData → Option α) (g : α → PyData) (d : PyData) : Option PyData := (dec d).map g
theorem fF_at (h : ∀ a, dec (enc a) = some a) (q : α → Bool) (a : α) : fF dec enc q (enc a) = if q a = true then some (enc a) else none := by unfold fF; rw [h]
theorem fM_at (h : ∀ a, dec (enc a) = some a) (g : α → PyData) (a : α) : fM dec g (enc a) = some (g a) := by unfold fM; rw [h]; rfl
theorem fF_all (h : ∀ a, dec (enc a) = some a) (q : α → Bool) : ∀ (l : List α), (l.map enc).filterMap (fF dec enc q) = (l.filter q).map enc
  | [] => rfl
  | x :: l => by
    rw [List.map_cons, List.filterMap_cons, List.filter_cons, fF_all h q l, fF_at h]
    by_cases c : q x = true
    · rw [if_pos c, if_pos c]; rfl
    · rw [if_neg c, if_neg c]
theorem fM_all (h : ∀ a, dec (enc a) = some a) (g : α → PyData) : ∀ (l : List α), (l.map enc).filterMap (fM dec g) = l.map g
  | [] => rfl
  | x :: l => by rw [List.map_cons, List.filterMap_cons, fM_all h g l, fM_at h, List.map_cons]
theorem fF_some (h : ∀ a, dec (enc a) = some a) (q : α → Bool) (a : α) : (fF dec enc q (enc a)).isSome = q a := by
  rw [fF_at h]
  by_cases c : q a = true
  · rw [if_pos c, c]; rfl
  · rw [if_neg c, Bool.eq_false_iff.mpr c]; rfl
theorem fF_eq (h : ∀ a, dec (enc a) = some a) {q : α → Bool} {a : α} {r : PyData} (e : fF dec enc q (enc a) = some r) : r = enc a := by
  rw [fF_at h] at e
  by_cases c : q a = true
  · rw [if_pos c] at e; exact (Option.some.inj e).symm
  · rw [if_neg c] at e; cases e
theorem fM_eq (h : ∀ a, dec (enc a) = some a) {g : α → PyData} {a : α} {r : PyData} (e : fM dec g (enc a) = some r) : r = g a := by
  rw [fM_at h] at e; exact (Option.some.inj e).symm
end
def decS1 : PyData → Option (Int × Bool)
  | .tuple [.int a, .bool b] => some (a, b)
  | _ => none
def decW1 : PyData → Option (Int × Int)
  | .tuple [.int a, .int b] => some (a, b)
  | _ => none
theorem dS1 : ∀ a, decS1 (encS1 a) = some a := fun _ => rfl
theorem dW1 : ∀ a, decW1 (encW1 a) = some a := fun _ => rfl
theorem eqvS1 (x y : Int × Bool) : PyData.eqv (encS1 x) (encS1 y) = decide (x = y) := by
  obtain ⟨a, b⟩ := x
  obtain ⟨c, d⟩ := y
  rw [Bool.eq_iff_iff]
  simp [encS1, PyData.eqv, PyData.eqvAll]
theorem shS1 (x : Int × Bool) : SeqAt.shaped (encS1 x) = true := by
  obtain ⟨a, b⟩ := x
  simp [SeqAt.shaped, encS1, PyData.canLay0, PyData.canLayAll0, PyData.depth, PyData.depthAll]
/-! ### asked -/
theorem find_at {sh : Sv} {p : Int} {x : Int × Bool} : ∀ {i : Nat}, (∀ y ∈ sh.take i, y.1 ≠ p) → sh[i]? = some x → x.1 = p → sh.find? (fun x => decide (x.1 = p)) = some x := by
  induction sh with
  | nil => intro i _ h; simp at h
  | cons z sh ih =>
    intro i hn h e
    cases i with
    | zero =>
      have : z = x := Option.some.inj h
      subst this
      rw [List.find?_cons, decide_eq_true e]
    | succ i =>
      have hz : z.1 ≠ p := hn z (by simp)
      rw [List.find?_cons, decide_eq_false hz]
      exact ih (fun y hy => hn y (by rw [List.take_succ_cons]; exact List.mem_cons_of_mem _ hy)) h e
theorem find_none {sh : Sv} {p : Int} (h : ∀ y ∈ sh, y.1 ≠ p) : sh.find? (fun x => decide (x.1 = p)) = none := by
  rw [List.find?_eq_none]
  intro x hx
  rw [decide_eq_true_eq]
  exact h x hx
theorem filter_lt {α : Type} {q : α → Bool} {x : α} : ∀ {l : List α}, x ∈ l → q x = false → (l.filter q).length + 1 ≤ l.length
  | y :: l, h, e => by
    rw [List.filter_cons]
    rcases List.mem_cons.mp h with rfl | h
    · rw [e]
      have := List.length_filter_le q l
      simp only [List.length_cons, Bool.false_eq_true, if_false]
      omega
    · have ih := filter_lt h e
      split <;> simp only [List.length_cons] <;> omega
theorem asked_len {h : Hs} (ho : h.ok) {sh : Sv} {wy : Wy} {p : Int} (hs : (sh.length : Int) ≤ h.room) : ((asked h sh wy p).1.length : Int) ≤ h.room ∧ (asked h sh wy p).2.1.length ≤ wy.length ∧ (asked h sh wy p).2.2.length ≤ 2 := by
  unfold asked
  cases e : sh.find? (fun x => decide (x.1 = p)) with
  | some x =>
    have hm := List.mem_of_find?_eq_some e
    have := filter_lt (q := fun y => decide (y ≠ x)) hm (by simp)
    refine ⟨?_, Nat.le_refl _, by simp⟩
    simp only [List.length_append, List.length_cons, List.length_nil]
    omega
  | none =>
    have := laid_len ho (p := p) (b := false) hs
    refine ⟨this.1, List.length_filter_le _ _, ?_⟩
    simp only [List.length_append, List.length_cons, List.length_nil]
    omega
section
variable {P : Program} {w : World} {K : PySem.W.Frag} {mg : Str → Option Value} {base : Heap}
abbrev nAsked : List Str := ["house", "shelf", "way", "place", "events", "one", "rest", "word", "other"]
theorem scAsked : FnScope nAsked ["house", "shelf", "way", "place", "events"] (defScope sAsked) := ⟨rfl, rfl, rfl, by decide +kernel, rfl, by decide +kernel, by decide +kernel⟩
def gAsked (C : Addr) (as : List Sp1) (r : Sp1) (es : List PyData) : Prop := ∃ (h : Hs) (sh : Sv) (wy : Wy) (p : Int), h.ok ∧ (sh.length : Int) ≤ h.room ∧ wy.length ≤ 100 ∧ as = [spHouse C h, .dat (encS sh), .dat (.list (wy.map encW1)), .dat (.int p)] ∧ r = .dat (.tuple [encS (asked h sh wy p).1, .list ((asked h sh wy p).2.1.map encW1)]) ∧ es = (asked h sh wy p).2.2.map encV1
theorem ok_asked (T : Tp K w mg) (E : Ev K mg) : FnOk P w K mg base CX0 2 E.asked.f E.asked.fd ["house", "shelf", "way", "place", "events"] (spM K (gAsked E.cHouse)) := by
  refine ok_ofM E.asked.d.F scAsked (fun as r es h => by obtain ⟨_, _, _, _, _, _, _, rfl, _⟩ := h; rfl) fun cdv A outer s H Hk vs as r l ws ds es Q hr sm nl hl hd hz ia g q => ?_
  obtain ⟨h, sh, wy, p, ho, hs, hwy, rfl, rfl, rfl⟩ := g
  obtain ⟨vh, vsh, vw, vp, vl, rfl, i1, i2, i3, i4, i5⟩ := ia5 ia
  have el : vl = .ref l := i5
  subst el
  have tl : H l ≠ none := by rw [hl]; exact fun z => by cases z
  have al := asked_len ho (wy := wy) (p := p) hs
  rw [List.length_map] at hz
  have hu64 : (A.deeper (envOfC "asked" (defScope sAsked) s.heap.objs.size E.asked.f cdv)).units + 64 < cLine := hr.units
  have r2 := ho.r2
  refine xs_for sm (vi_tup (ve_v 1 rfl (y := .dat (.tuple (sh.map encS1))) i2)) (pg_name (i := 5) scAsked.nd rfl (.inr rfl)) rfl PassesOwn.never
    (fun i σ' Hk' H' => ∃ o5, σ' = [some vh, some vsh, some vw, some vp, some (.ref l), o5, none, none, none] ∧ Ext M0 Hk H Hk' H' ∧ ∀ y ∈ sh.take i, y.1 ≠ p)
    (fun Hk4 H4 E4 => ⟨none, rfl, E4, fun y hy => by simp at hy⟩) (fun i d v σ' Hk0 H0 Hk' H' hd' kk0 s0 hP E5 dv => ?_) fun σ' Hk' H' kk s' hP => ?_
  · obtain ⟨o5, rfl, EP, no⟩ := hP
    obtain ⟨x, hx, rfl⟩ := map_at hd'
    have EE := EP.trans E5
    replace i2 : Is K Hk' vsh (.dat (encS sh)) := i2.up EE.kk
    replace i3 := i3.up EE.kk
    replace i4 := i4.up EE.kk
    have dv1 : Is K Hk' v (.dat (.tuple [.int x.1, .bool x.2])) := dv
    by_cases hc : x.1 = p
    · have ef := find_at no hx hc
      have ea : asked h sh wy p = (sh.filter (fun y => decide (y ≠ x)) ++ [(p, false)], wy, [((if x.2 = true then "first" else "hit" : Str), p)]) := by unfold asked; rw [ef]
      refine xs_ifT E5.sub ((vt_c (ve_itT (ve_v 5 rfl dv1) (ve_int (i := 0)) rfl) (ve_v 3 rfl i4) cd_eqI).is (decide_eq_true hc)) fun Hk6 H6 E6 => ?_
      have E6' := EE.trans E6
      refine xs_app E6.sub (ve_v 4 rfl rfl) (E6'.same _ _ hl) (by rw [hd.len]; omega) (ve_tup (ds := [.str (if x.2 = true then "first" else "hit"), .int p]) (va_cons (ve_if (x := .dat (.str (if x.2 = true then "first" else "hit"))) (vt_val (ve_itT (ve_v 5 rfl (dv1.up E6.kk)) (ve_int (i := 1)) rfl))
        (fun z => ve_str.is (by rw [if_pos z])) (fun z => ve_str.is (by rw [if_neg (by rw [z]; decide)]))) (va_cons (ve_v 3 rfl (i4.up E6.kk)) va_nil))) fun v7 Hk7 H7 E7 i7 => ?_
      have E67 := E6'.trans E7
      have nk7 := E67.unk nl tl
      have EF : Ext (M1 l) Hk H Hk7 (upd H7 l (.lst (ws ++ [v7]))) := E67.pure.mut rfl nk7
      have k67 := E6.kk.trans E7.kk
      refine xs_ret EF.sub (ve_tup (ds := [.tuple ((sh.filter (fun y => decide (y ≠ x))).map encS1 ++ [encS1 (p, false)]), .list (wy.map encW1)]) (va_cons (ve_catT (ve_tuple T.tuple ((ve_lc (own := [("other", 8)]) (g := gName 8) (ds := sh.map encS1) rfl scAsked.nd (vi_tup (ve_v 1 rfl (y := .dat (.tuple (sh.map encS1))) (i2.up k67))) (fF decS1 encS1 fun y => decide (y ≠ x)) (by rw [List.length_map]; omega)
        (blkOk_by (N := nAsked) (sc := defScope sAsked) (by decide +kernel)) (fun _ _ _ _ _ => pg_name (i := 8) scAsked.nd rfl (Or.inl rfl)) (fun i y v' Hk' H' hy k' s' dv' => ?_)).is (by rw [fF_all dS1]))) (ve_tup (ds := [encS1 (p, false)]) (va_cons (ve_tup (ds := [.int p, .bool false]) (va_cons (ve_v 3 rfl (i4.up k67)) (va_cons ve_bl va_nil))) va_nil)) ?_)
        (va_cons (ve_v 2 rfl (i3.up k67)) va_nil))) fun v9 Hk9 H9 E9 i9 => ?_
      · obtain ⟨z, hz', rfl⟩ := map_at hy
        have dv2 : Is K Hk' v' (.dat (encS1 z)) := dv'
        have dx : Is K Hk' v (.dat (encS1 x)) := (dv1.up k67).up k'
        refine ⟨_, fun Q' h => h, rfl, fun s0 H0 C cl fp => ⟨.inr ⟨_, rfl, VT.is (vt_c (ve_v 8 rfl dv2) (ve_v 5 rfl dx) (cd_neD hu64 (shS1 z) (shS1 x))) ?_⟩, fun r hr' => ?_⟩⟩
        · rw [fF_some dS1, eqvS1]
          by_cases c : z = x <;> simp [c]
        · rw [fF_eq dS1 hr']
          exact ve_v 8 rfl dv2
      · have := List.length_filter_le (fun y => decide (y ≠ x)) sh
        simp only [List.length_map, List.length_cons, List.length_nil]
        omega
      · rw [ea] at q
        have l7 : (upd H7 l (.lst (ws ++ [v7]))) l = some (.lst (ws ++ [v7])) := upd_same
        refine q v9 Hk9 H9 (ws ++ [v7]) (EF.trans E9.pure) (E9.same _ _ l7) ?_ ?_
        · exact (hd.up (EF.kk.trans E9.kk)).app (.cons (Is.up (a := .dat (encV1 (_, p))) i7 E9.kk) .nil)
        · have e9 : encS (sh.filter (fun y => decide (y ≠ x)) ++ [(p, false)]) = .tuple ((sh.filter (fun y => decide (y ≠ x))).map encS1 ++ [encS1 (p, false)]) := by unfold encS; rw [List.map_append]; rfl
          show Dq K Hk9 v9 (.tuple [encS (sh.filter (fun y => decide (y ≠ x)) ++ [(p, false)]), .list (wy.map encW1)])
          rw [e9]
          exact i9
    · refine xs_ifN E5.sub ((vt_c (ve_itT (ve_v 5 rfl dv1) (ve_int (i := 0)) rfl) (ve_v 3 rfl i4) cd_eqI).is (decide_eq_false hc)) fun Hk6 H6 E6 => wss_nil ?_
      have E56 := E5.trans E6
      refine ⟨Hk6, E56.kk, E6.sub, _, rfl, EP.trans E56, fun y hy => ?_⟩
      rw [take_snoc hx] at hy
      rcases List.mem_append.mp hy with hy | hy
      · exact no y hy
      · rw [List.mem_singleton] at hy
        rw [hy]
        exact hc
  · obtain ⟨o5, rfl, EP, no⟩ := hP
    rw [List.length_map, List.take_length] at no
    have ef := find_none no
    have ea : asked h sh wy p = ((laid h sh p false).1, wy.filter (fun y : Int × Int => decide (y.1 ≠ p)), (laid h sh p false).2 ++ [((if (wy.filter (fun y : Int × Int => decide (y.1 ≠ p))).length = wy.length then "miss" else "late" : Str), p)]) := by unfold asked; rw [ef]
    rw [ea] at q hz al
    simp only [List.length_append, List.length_cons, List.length_nil] at hz
    replace i1 : Is K Hk' vh (spHouse E.cHouse h) := i1.up EP.kk
    replace i2 := i2.up EP.kk
    replace i3 := i3.up EP.kk
    replace i4 := i4.up EP.kk
    refine xs_setLc (i := 6) (own := [("one", 5)]) (g := gName 5) (ds := wy.map encW1) s' rfl scAsked.nd (vi_list (ve_v 2 rfl i3)) (fF decW1 encW1 fun y : Int × Int => decide (y.1 ≠ p)) (by rw [List.length_map]; omega) rfl rfl (sw_true rfl rfl rfl (by decide +kernel)) (blkOk_by (N := nAsked) (sc := defScope sAsked) (by decide +kernel))
      (fun _ _ _ _ _ => pg_name (i := 5) scAsked.nd rfl (Or.inl rfl)) (fun i x v' Hk1 H1 hx k' s' dv' => ?_) fun v6 Hk4 H4 E4 d6 => ?_
    · obtain ⟨z, hz', rfl⟩ := map_at hx
      have dv2 : Is K Hk1 v' (.dat (.tuple [.int z.1, .int z.2])) := dv'
      have i4k : Is K Hk1 vp (.dat (.int p)) := i4.up k'
      refine ⟨_, fun Q' h => h, rfl, fun s0 H0 C cl fp => ⟨.inr ⟨_, rfl, VT.is (vt_c (ve_itT (ve_v 5 rfl dv2) (ve_int (i := 0)) rfl) (ve_v 3 rfl i4k) cd_neI) ?_⟩, fun r hr' => ?_⟩⟩
      · rw [fF_some dW1]
        by_cases c : z.1 = p <;> simp [c]
      · rw [fF_eq dW1 hr']
        exact ve_v 5 rfl dv2
    · rw [fF_all dW1] at d6
      have l1 : ((wy.filter (fun y : Int × Int => decide (y.1 ≠ p))).map encW1).length = (wy.filter (fun y : Int × Int => decide (y.1 ≠ p))).length := List.length_map _
      have l2 : (wy.map encW1).length = wy.length := List.length_map _
      refine xs_set E4.sub (ve_if (x := .dat (.str (if (wy.filter (fun y : Int × Int => decide (y.1 ≠ p))).length = wy.length then "miss" else "late"))) (vt_c (ve_lenL T.len PySem.boot_len (ve_v 6 rfl (y := .dat (.list ((wy.filter (fun y : Int × Int => decide (y.1 ≠ p))).map encW1))) d6)) (ve_lenL T.len PySem.boot_len (ve_v 2 rfl (i3.up E4.kk))) cd_eqI)
        (fun z => ve_str.is ?_) (fun z => ve_str.is ?_)) (i := 7) (fun v7 Hk5 H5 E5 i7 => ?_) scAsked.nd
      · have c := of_decide_eq_true z
        rw [l1, l2] at c
        rw [if_pos (by omega)]
      · have c := of_decide_eq_false z
        rw [l1, l2] at c
        rw [if_neg (by omega)]
      · have E45 := E4.trans E5
        have EP5 := EP.trans E45
        refine xs_setW (i := 1) (we_callM (fa := E.laid.f) (as := [spHouse E.cHouse h, .dat (encS sh), .dat (.int p), .dat (.bool false)]) (ok_laid T E) hr E.laid.d.g E.laid.d.F.kp E.laid.d.b E5.sub (EP5.unk nl tl) (EP5.same _ _ hl) (hd.up EP5.kk)
          (by rw [List.length_map]; omega)
          (va_cons (ve_v 0 rfl (i1.up E45.kk)) (va_cons (ve_v 1 rfl (i2.up E45.kk)) (va_cons (ve_v 3 rfl (i4.up E45.kk)) (va_cons ve_bl (va_cons (ve_v 4 rfl rfl) va_nil))))) ⟨h, sh, p, false, ho, hs, rfl, rfl, rfl⟩ fun v8 Hk7 H7 wse E7 nk7 hl7 dl7 i8 => ?_) scAsked.nd
        refine xs_app E7.sub (ve_v 4 rfl rfl) hl7 (by rw [dl7.len]; simp only [List.length_append, List.length_map]; omega) (ve_tup (ds := [.str (if (wy.filter (fun y : Int × Int => decide (y.1 ≠ p))).length = wy.length then "miss" else "late"), .int p]) (va_cons (ve_v 7 rfl (i7.up E7.kk)) (va_cons (ve_v 3 rfl ((i4.up E45.kk).up E7.kk)) va_nil))) fun v9 Hk8 H8 E8 i9 => ?_
        have t7 : H7 l ≠ none := by rw [hl7]; exact fun z => by cases z
        have nk8 : Hk8 l = none := E8.unk nk7 t7
        have EF : Ext (M1 l) Hk H Hk8 (upd H8 l (.lst (wse ++ [v9]))) := ((EP5.pure.trans E7).trans E8.pure).mut rfl nk8
        refine xs_ret EF.sub (ve_tup (ds := [encS (laid h sh p false).1, .list ((wy.filter (fun y : Int × Int => decide (y.1 ≠ p))).map encW1)]) (va_cons (ve_v 1 rfl (i8.up E8.kk)) (va_cons (ve_v 6 rfl (y := .dat (.list ((wy.filter (fun y : Int × Int => decide (y.1 ≠ p))).map encW1))) (((d6.up E5.kk).up E7.kk).up E8.kk)) va_nil))) fun v10 Hk9 H9 E9 i10 => ?_
        have l8 : (upd H8 l (.lst (wse ++ [v9]))) l = some (.lst (wse ++ [v9])) := upd_same
        refine q v10 Hk9 H9 _ (EF.trans E9.pure) (E9.same _ _ l8) ?_ i10
        rw [List.map_append, ← List.append_assoc]
        exact (dl7.up (E8.kk.trans E9.kk)).app (.cons (Is.up (a := .dat (encV1 (_, p))) i9 E9.kk) .nil)
end
end W
end
section
set_option Elab.async false
set_option linter.all false
set_option maxRecDepth 100000
set_option maxHeartbeats 4000000
/-! started, gone_on, idle_in -/
namespace W
open PySem PySem.Spec PyProof.Rows L2 DL Tx Mi
def startT (h : Hs) (sh : Sv) (wy : Wy) (gs : List Int) (i : Nat) : Wy × Evs := (gs.take i).foldl (start1 h sh) (wy, [])
theorem startT_snoc {h : Hs} {sh : Sv} {wy : Wy} {gs : List Int} {i : Nat} {x : Int} (e : gs[i]? = some x) : startT h sh wy gs (i + 1) = start1 h sh (startT h sh wy gs i) x := by
  unfold startT
  rw [take_snoc e, List.foldl_append]
  rfl
theorem startT_all (h : Hs) (sh : Sv) (wy : Wy) (gs : List Int) : startT h sh wy gs gs.length = started h sh wy gs := by unfold startT started; rw [List.take_length]
theorem start1_len {h : Hs} {sh : Sv} {a : Wy × Evs} {x : Int} (hs : (a.1.length : Int) ≤ h.most) : ((start1 h sh a x).1.length : Int) ≤ h.most ∧ (start1 h sh a x).2.length ≤ a.2.length + 1 := by
  unfold start1
  split
  · rename_i c
    obtain ⟨_, _, _, c⟩ := c
    simp only [List.length_append, List.length_cons, List.length_nil]
    omega
  · exact ⟨hs, Nat.le_succ _⟩
theorem foldS_len {h : Hs} {sh : Sv} : ∀ (gs : List Int) (a : Wy × Evs), (a.1.length : Int) ≤ h.most → ((gs.foldl (start1 h sh) a).1.length : Int) ≤ h.most ∧ (gs.foldl (start1 h sh) a).2.length ≤ a.2.length + gs.length
  | [], a, hs => ⟨hs, Nat.le_refl _⟩
  | x :: gs, a, hs => by
    have h1 := start1_len (sh := sh) (x := x) hs
    have h2 := foldS_len (sh := sh) gs _ h1.1
    refine ⟨h2.1, ?_⟩
    simp only [List.foldl_cons, List.length_cons]
    omega
section
variable {P : Program} {w : World} {K : PySem.W.Frag} {mg : Str → Option Value} {base : Heap}
abbrev nStarted : List Str := ["house", "shelf", "way", "guessed", "events", "found", "place", "there", "one"]
theorem scStarted : FnScope nStarted ["house", "shelf", "way", "guessed", "events"] (defScope sStarted) := ⟨rfl, rfl, rfl, by decide +kernel, rfl, by decide +kernel, by decide +kernel⟩
def gStarted (C : Addr) (as : List Sp1) (r : Sp1) (es : List PyData) : Prop := ∃ (h : Hs) (sh : Sv) (wy : Wy) (gs : List Int), h.ok ∧ sh.length ≤ 100 ∧ (wy.length : Int) ≤ h.most ∧ gs.length ≤ 100 ∧ as = [spHouse C h, .dat (encS sh), .dat (.list (wy.map encW1)), .dat (.list (encI gs))] ∧ r = .dat (.list ((started h sh wy gs).1.map encW1)) ∧ es = (started h sh wy gs).2.map encV1
theorem ok_started (T : Tp K w mg) (E : Ev K mg) : FnOk P w K mg base CX0 1 E.started.f E.started.fd ["house", "shelf", "way", "guessed", "events"] (spM K (gStarted E.cHouse)) := by
  refine ok_ofM E.started.d.F scStarted (fun as r es h => by obtain ⟨_, _, _, _, _, _, _, _, rfl, _⟩ := h; rfl) fun cdv A outer s H Hk vs as r l ws ds es Q hr sm nl hl hd hz ia g q => ?_
  obtain ⟨h, sh, wy, gs, ho, hs, hwy, hgs, rfl, rfl, rfl⟩ := g
  obtain ⟨vh, vsh, vw, vg, vl, rfl, i1, i2, i3, i4, i5⟩ := ia5 ia
  have el : vl = .ref l := i5
  subst el
  have tl : H l ≠ none := by rw [hl]; exact fun z => by cases z
  have w2 := ho.w2
  obtain ⟨pa, dx, rfl, hpa⟩ := i1
  have c := E.house.c
  have na : ∀ f ∈ houseF, NoAttr K E.cHouse f := E.house.na
  refine xs_copyL (i := 5) sm T.list (ve_v 2 rfl i3) (fun lf xs Hk1 H1 E1 nlfH nlf hlf dxs => ?_) scStarted.nd
  have ne : lf ≠ l := fun z => tl (by rw [← z]; exact nlfH)
  replace i2 : Is K Hk1 vsh (.dat (encS sh)) := i2.up E1.kk
  replace i4 := i4.up E1.kk
  have hpa1 := E1.kk _ _ hpa
  refine xs_for E1.sub (vi_list (ve_v 3 rfl i4)) (pg_name (i := 6) scStarted.nd rfl (.inl rfl)) rfl PassesOwn.never
    (fun i σ' Hk' H' => ∃ o6 o7 wl we, σ' = [some (.ref pa), some vsh, some vw, some vg, some (.ref l), some (.ref lf), o6, o7, none] ∧ Ext (M1 l) Hk H Hk' H' ∧ Same Hk1 Hk' ∧ Hk' l = none ∧ Hk' lf = none ∧ H' lf = some (.lst wl) ∧ H' l = some (.lst we) ∧
      DqAll K Hk' we (ds ++ (startT h sh wy gs i).2.map encV1) ∧ DqAll K Hk' wl ((startT h sh wy gs i).1.map encW1))
    (fun Hk4 H4 E4 => ?_) (fun i d v σ' Hk0 H0 Hk' H' hd' kk0 s0 hP E5 dv => ?_) fun σ' Hk' H' kk s' hP => ?_
  · have E14 := E1.trans E4
    refine ⟨none, none, xs, ws, rfl, E14.pure, E4.kk, E14.unk nl tl, E4.unk nlf (by rw [hlf]; exact fun z => by cases z), E4.same _ _ hlf, E14.same _ _ hl, ?_, dxs.up E4.kk⟩
    show DqAll K Hk4 ws (ds ++ [])
    rw [List.append_nil]
    exact hd.up E14.kk
  · obtain ⟨o6, o7, wl, we, rfl, EP, k1, nk, nkf, hfl, hle, dle, dlf⟩ := hP
    obtain ⟨p, hp, rfl⟩ := encI_at hd'
    have hi : i < gs.length := (List.getElem?_eq_some_iff.mp hp).1
    have lt : (gs.take i).length ≤ 100 := by rw [List.length_take]; omega
    have sl := foldS_len (h := h) (sh := sh) (gs.take i) (wy, []) hwy
    have est : (gs.take i).foldl (start1 h sh) (wy, []) = startT h sh wy gs i := rfl
    rw [est] at sl
    have ss := startT_snoc (h := h) (sh := sh) (wy := wy) hp
    generalize startT h sh wy gs i = a at sl ss dle dlf
    simp only [List.length_nil, Nat.zero_add] at sl
    have tl0 : H0 l ≠ none := by rw [hle]; exact fun z => by cases z
    have tf0 : H0 lf ≠ none := by rw [hfl]; exact fun z => by cases z
    have nk' := E5.unk nk tl0
    have nkf' := E5.unk nkf tf0
    have hfl' := E5.same _ _ hfl
    have hle' := E5.same _ _ hle
    have k1' : Same Hk1 Hk' := k1.trans E5.kk
    -- found is known for a while
    have ku : Same Hk' (upd Hk' lf (.lst wl)) := same_up nkf'
    have su : Same (upd Hk' lf (.lst wl)) H' := same_know E5.sub hfl'
    have fu : (upd Hk' lf (.lst wl)) lf = some (.lst wl) := upd_same
    have i2u : Is K (upd Hk' lf (.lst wl)) vsh (.dat (.tuple (sh.map encS1))) := (i2.up k1').up ku
    have fou : Is K (upd Hk' lf (.lst wl)) (.ref lf) (.dat (.list (a.1.map encW1))) := .lst fu ((dlf.up E5.kk).up ku)
    have hpu : (upd Hk' lf (.lst wl)) pa = some (.ins E.cHouse dx (houseFs h)) := ku _ _ (k1' _ _ hpa1)
    have hsl : (sh.map encS1).length = sh.length := List.length_map _
    refine xs_set su (i := 7) (x := .dat (.list (encI (sh.map (·.1) ++ a.1.map (·.1))))) (ve_catL (ve_lc (own := [("one", 8)]) (g := gName 8) (ds := sh.map encS1) rfl scStarted.nd (vi_tup (ve_v 1 rfl i2u)) (fM decS1 fun x => .int x.1) (by rw [hsl]; omega) (blkOk_by (N := nStarted) (sc := defScope sStarted) (by decide +kernel)) (fun _ _ _ _ _ => pg_name (i := 8) scStarted.nd rfl (Or.inl rfl)) (fun i x v' Hk1 H1 hx k' s' dv' => ?_))
      (ve_lc (own := [("one", 8)]) (g := gName 8) (ds := a.1.map encW1) rfl scStarted.nd (vi_list (ve_v 5 rfl fou)) (fM decW1 fun x => .int x.1) (by rw [List.length_map]; omega) (blkOk_by (N := nStarted) (sc := defScope sStarted) (by decide +kernel)) (fun _ _ _ _ _ => pg_name (i := 8) scStarted.nd rfl (Or.inl rfl)) (fun i x v' Hk1 H1 hx k' s' dv' => ?_)) ?_ |>.is ?_) (fun v7 Hk6 H6 E6 i7 => ?_) scStarted.nd
    · obtain ⟨z, hz', rfl⟩ := map_at hx
      have dv2 : Is K Hk1 v' (.dat (.tuple [.int z.1, .bool z.2])) := dv'
      refine ⟨_, fun Q' h => h, rfl, fun s0 H0 C cl fp => ⟨.inl ⟨rfl, by rw [fM_at dS1]; rfl⟩, fun r hr' => ?_⟩⟩
      rw [fM_eq dS1 hr']
      exact ve_itT (ve_v 8 rfl dv2) (ve_int (i := 0)) rfl
    · obtain ⟨z, hz', rfl⟩ := map_at hx
      have dv2 : Is K Hk1 v' (.dat (.tuple [.int z.1, .int z.2])) := dv'
      refine ⟨_, fun Q' h => h, rfl, fun s0 H0 C cl fp => ⟨.inl ⟨rfl, by rw [fM_at dW1]; rfl⟩, fun r hr' => ?_⟩⟩
      rw [fM_eq dW1 hr']
      exact ve_itT (ve_v 8 rfl dv2) (ve_int (i := 0)) rfl
    · rw [fM_all dS1, fM_all dW1, List.length_map, List.length_map]
      omega
    · rw [fM_all dS1, fM_all dW1]
      unfold encI
      rw [List.map_append, List.map_map, List.map_map]
      rfl
    · have fu6 := E6.kk _ _ fu
      have hpu6 := E6.kk _ _ hpu
      have dv6 : Is K Hk6 v (.dat (.int p)) := Is.up (a := .dat (.int p)) dv (ku.trans E6.kk)
      have i7' : Is K Hk6 v7 (.dat (.list ((sh.map (·.1) ++ a.1.map (·.1)).map .int))) := i7
      have fou6 := fou.up E6.kk
      have hal : (a.1.map encW1).length = a.1.length := List.length_map _
      refine xs_if E6.sub (d := decide (starts h sh a.1 p)) ((vt_w (vw_and (vt_chain ve_int (ve_v 6 rfl dv6) (ve_hf (ve_v 0 rfl (y := .val (.ref pa)) rfl) c (na _ (by simp)) hpu6 (i := h.places) rfl) cd_le cd_lt) fun _ => vw_and (vt_c (ve_v 6 rfl dv6) (ve_v 7 rfl i7') cd_notInLI) fun _ =>
        vw_one (vt_c (ve_lenL T.len PySem.boot_len (ve_v 5 rfl fou6)) (ve_hf (ve_v 0 rfl (y := .val (.ref pa)) rfl) c (na _ (by simp)) hpu6 (i := h.most) rfl) cd_lt))).is ?_) (fun hc Hk7 H7 E7 => ?_) fun hc Hk7 H7 E7 => wss_nil ?_
      · rw [hal]
        unfold starts
        rw [Bool.eq_iff_iff]
        simp only [Bool.and_eq_true, decide_eq_true_eq]
        exact ⟨fun ⟨⟨a1, a2⟩, a3, a4⟩ => decide_eq_true ⟨a1, a2, a3, a4⟩, fun q => by
          obtain ⟨a1, a2, a3, a4⟩ := of_decide_eq_true q
          exact ⟨⟨a1, a2⟩, a3, a4⟩⟩
      · have es : start1 h sh a p = (a.1 ++ [(p, h.late)], a.2 ++ [(("start" : Str), p)]) := by unfold start1; rw [if_pos (of_decide_eq_true hc)]
        have E67 := E6.trans E7
        refine xs_app E7.sub (ve_v 5 rfl rfl) (E67.same _ _ hfl') (by rw [dlf.len, hal]; omega) (ve_tup (ds := [.int p, .int h.late]) (va_cons (ve_v 6 rfl (dv6.up E7.kk)) (va_cons (ve_hf (ve_v 0 rfl (y := .val (.ref pa)) rfl) c (na _ (by simp)) (E7.kk _ _ hpu6) (i := h.late) rfl) va_nil))) fun v8 Hk8 H8 E8 i8 => ?_
        -- .. and known no longer
        have E68 := E67.trans E8
        have K8 : Ext M0 Hk' H' (drop Hk8 lf) H8 := E68.know2 nkf' hfl'
        have fu8 := E68.kk _ _ fu
        have EF : Ext (M1 l) Hk H (drop Hk8 lf) (upd H8 lf (.lst (wl ++ [v8]))) := ((EP.trans E5.pure).trans K8.pure).loc nlfH drop_at
        have d8 : Dq K (drop Hk8 lf) v8 (encW1 (p, h.late)) := dq_dropL fu8 lst_nt _ _ rfl i8
        have nk8 : drop Hk8 lf l = none := by
          rw [drop_ne ne.symm]
          exact E68.unk (by rw [upd_ne ne.symm]; exact nk') (E5.there _ tl0)
        have h8l : (upd H8 lf (.lst (wl ++ [v8]))) l = some (.lst we) := by rw [upd_ne ne.symm]; exact E68.same _ _ hle'
        refine xs_app EF.sub (ve_v 4 rfl rfl) h8l (by rw [dle.len]; simp only [List.length_append, List.length_map]; omega) (ve_tup (ds := [.str "start", .int p]) (va_cons ve_str (va_cons (ve_v 6 rfl (y := .dat (.int p)) (by rw [dp_int dv]; exact .int _)) va_nil))) fun v9 Hk9 H9 E9 i9 => wss_nil (wss_nil ?_)
        have nk9 : Hk9 l = none := E9.unk nk8 (by rw [h8l]; exact fun z => by cases z)
        have nkf9 : Hk9 lf = none := E9.unk drop_at (by rw [upd_same]; exact fun z => by cases z)
        have EG : Ext (M1 l) Hk H Hk9 (upd H9 l (.lst (we ++ [v9]))) := (EF.trans E9.pure).mut rfl nk9
        refine ⟨Hk9, E5.kk.trans (K8.kk.trans E9.kk), EG.sub, _, _, wl ++ [v8], we ++ [v9], rfl, EG, k1'.trans (K8.kk.trans E9.kk), nk9, nkf9, ?_, upd_same, ?_, ?_⟩
        · rw [upd_ne ne]
          exact E9.same _ _ upd_same
        · rw [ss, es, List.map_append, ← List.append_assoc]
          exact (((dle.up E5.kk).up K8.kk).up E9.kk).app (.cons i9 .nil)
        · rw [ss, es, List.map_append]
          exact (((dlf.up E5.kk).up K8.kk).up E9.kk).app (.cons (d8.up E9.kk) .nil)
      · have es : start1 h sh a p = a := by unfold start1; rw [if_neg (of_decide_eq_false hc)]
        have E67 := E6.trans E7
        have K8 : Ext M0 Hk' H' (drop Hk7 lf) H7 := E67.know2 nkf' hfl'
        refine wss_nil ⟨drop Hk7 lf, E5.kk.trans K8.kk, K8.sub, _, _, wl, we, rfl, (EP.trans E5.pure).trans K8.pure, k1'.trans K8.kk, ?_, drop_at, E67.same _ _ hfl', E67.same _ _ hle', ?_, ?_⟩
        · rw [drop_ne ne.symm]
          exact E67.unk (by rw [upd_ne ne.symm]; exact nk') (E5.there _ tl0)
        · rw [ss, es]
          exact (dle.up E5.kk).up K8.kk
        · rw [ss, es]
          exact (dlf.up E5.kk).up K8.kk
  · obtain ⟨o6, o7, wl, we, rfl, EP, k1, nk, nkf, hfl, hle, dle, dlf⟩ := hP
    have elg : (encI gs).length = gs.length := by unfold encI; rw [List.length_map]
    rw [elg, startT_all] at dle dlf
    have ff := EP.fix nlfH nkf hfl
    have ku : Same Hk' (upd Hk' lf (.lst wl)) := same_up nkf
    exact xs_ret ff.sub (ve_v 5 rfl (y := .dat (.list ((started h sh wy gs).1.map encW1))) (.lst upd_same (dlf.up ku))) fun v9 Hk9 H9 E9 i9 => q v9 Hk9 H9 we (ff.trans E9.pure) (E9.same _ _ hle) (dle.up (ku.trans E9.kk)) i9
end
end W
end
section
set_option Elab.async false
set_option linter.all false
set_option maxRecDepth 100000
set_option maxHeartbeats 4000000
/-! gone_on, idle_in; what is refused: need_setting, is_deed, need_row, need_all, need_weights, need_rows -/
namespace W
open PySem PySem.Spec PyProof.Rows L2 DL Tx Mi
structure SLen (h : Hs) (s : Sta) : Prop where
  sh : (s.shelf.length : Int) ≤ h.room
  wy : (s.way.length : Int) ≤ h.most
theorem begun_len {h : Hs} (ho : h.ok) (g : Gs) : SLen h (begun g) := ⟨by have := ho.r1; simp only [begun, List.length_nil]; omega, by have := ho.w1; simp only [begun, List.length_nil]; omega⟩
theorem come_len {h : Hs} (ho : h.ok) {sh : Sv} {wy : Wy} (hs : (sh.length : Int) ≤ h.room) : ((come h sh wy).1.length : Int) ≤ h.room ∧ (come h sh wy).2.1.length ≤ wy.length ∧ (come h sh wy).2.2.length ≤ 2 * wy.length := by
  have := comeT_len (wy := wy) ho hs wy.length (Nat.le_refl _)
  rw [comeT_all] at this
  exact this
theorem started_len {h : Hs} {sh : Sv} {wy : Wy} {gs : List Int} (hs : (wy.length : Int) ≤ h.most) : ((started h sh wy gs).1.length : Int) ≤ h.most ∧ (started h sh wy gs).2.length ≤ gs.length := by
  have := foldS_len (sh := sh) gs (wy, []) hs
  unfold started
  simp only [List.length_nil, Nat.zero_add] at this
  exact this
theorem gone_len {h : Hs} (ho : h.ok) {g : Gs} (ok : g.ok 0) {s : Sta} {p : Int} {m : Nat} (hk : Kf m g s.kn) (hl : SLen h s) : SLen h (gone h g s p).1 ∧ Kf (m + 1) g (gone h g s p).1.kn ∧ (gone h g s p).2.length ≤ 50 := by
  have h1 := come_len ho (wy := s.way) hl.sh
  have h2 := asked_len ho (wy := (come h s.shelf s.way).2.1) (p := p) h1.1
  have h3 := adv_fits g 0 s.kn m p ok hk
  have hy := hl.wy
  have h4 := started_len (h := h) (sh := (asked h (come h s.shelf s.way).1 (come h s.shelf s.way).2.1 p).1) (wy := (asked h (come h s.shelf s.way).1 (come h s.shelf s.way).2.1 p).2.1) (gs := (adv g s.kn p).2) (by omega)
  have hc := cap24 ok
  have w2 := ho.w2
  refine ⟨⟨h2.1, h4.1⟩, h3.1, ?_⟩
  simp only [gone, List.length_append]
  omega
section
variable {P : Program} {w : World} {K : PySem.W.Frag} {mg : Str → Option Value} {base : Heap}
abbrev nGone : List Str := ["house", "guesser", "state", "place", "events", "shelf", "way", "known", "guessed"]
theorem scGone : FnScope nGone ["house", "guesser", "state", "place"] (defScope sGone) := ⟨rfl, rfl, rfl, by decide +kernel, rfl, by decide +kernel, by decide +kernel⟩
def gGone (C : Addr) (as : List Sp1) (r : Sp1) : Prop := ∃ (h : Hs) (g : Gs) (s : Sta) (p : Int) (m : Nat), h.ok ∧ g.ok 0 ∧ SLen h s ∧ Kf m g s.kn ∧ m ≤ 900 ∧ as = [spHouse C h, .dat g.enc, .dat s.enc, .dat (.int p)] ∧ r = .dat (.tuple [(gone h g s p).1.enc, .list ((gone h g s p).2.map encV1)])
theorem ok_gone (T : Tp K w mg) (E : Ev K mg) : FnOk P w K mg base CX0 6 E.gone.f E.gone.fd ["house", "guesser", "state", "place"] (spD K (gGone E.cHouse)) := by
  refine ok_of E.gone.d.F scGone (fun as r h => by obtain ⟨_, _, _, _, _, _, _, _, _, _, rfl, _⟩ := h; rfl) fun cdv A outer s H Hk vs as r Q hr sm ia g q => ?_
  obtain ⟨h, gs, st, p, m, ho, ok, hl, hk, hm, rfl, rfl⟩ := g
  obtain ⟨vh, vg, vs', vp, rfl, i1, i2, i3, i4⟩ := ia4 ia
  have w2 := ho.w2
  have hsh := hl.sh
  have hwy := hl.wy
  have r2 := ho.r2
  have cl := come_len ho (wy := st.way) hl.sh
  have al := asked_len ho (wy := (come h st.shelf st.way).2.1) (p := p) cl.1
  have af := adv_fits gs 0 st.kn m p ok hk
  have c24 := cap24 ok
  have sl := started_len (h := h) (sh := (asked h (come h st.shelf st.way).1 (come h st.shelf st.way).2.1 p).1) (wy := (asked h (come h st.shelf st.way).1 (come h st.shelf st.way).2.1 p).2.1) (gs := (adv gs st.kn p).2) (by omega)
  have i3' : Is K Hk vs' (.dat (.tuple [encS st.shelf, .tuple (st.way.map encW1), st.kn.enc])) := i3
  refine xs_nl (i := 4) (fun l nl => ?_) scGone.nd
  have nlk : Hk l = none := sm.free nl
  have E0 : Ext M0 Hk H Hk (upd H l (.lst [])) := Ext.allocM sm nl
  have l0 : (upd H l (.lst [])) l = some (.lst []) := upd_same
  -- come
  refine xs_asgW (we_callM (fa := E.come.f) (as := [spHouse E.cHouse h, .dat (encS st.shelf), .dat (.tuple (st.way.map encW1))]) (ds := []) (ok_come T E) (hr.mono (by decide)) E.come.d.g E.come.d.F.kp E.come.d.b E0.sub nlk l0 .nil
    (by simp only [List.length_nil, List.length_map]; omega)
    (va_cons (ve_v 0 rfl i1) (va_cons (ve_itT (ve_v 2 rfl i3') (ve_int (i := 0)) rfl) (va_cons (ve_itT (ve_v 2 rfl i3') (ve_int (i := 1)) rfl) (va_cons (ve_v 4 rfl rfl) va_nil)))) ⟨h, st.shelf, st.way, ho, hl.sh, by omega, rfl, rfl, rfl⟩ fun v1 Hk1 H1 ws1 E1 nk1 hl1 dl1 j1 => ?_)
    (pg_tup rfl (pgs_cons (pg_name (i := 5) scGone.nd rfl (.inl rfl)) (pgs_cons (pg_name (i := 6) scGone.nd rfl (.inl rfl)) pgs_nil)))
  refine g_tup2 j1 E1.sub fun u1 u2 d1 d2 => ?_
  -- asked
  refine xs_asgW (we_callM (fa := E.asked.f) (as := [spHouse E.cHouse h, .dat (encS (come h st.shelf st.way).1), .dat (.list ((come h st.shelf st.way).2.1.map encW1)), .dat (.int p)]) (ok_asked T E) (hr.mono (by decide)) E.asked.d.g E.asked.d.F.kp E.asked.d.b E1.sub nk1 hl1 dl1
    (by simp only [List.length_nil, List.length_map, List.length_append]; omega)
    (va_cons (ve_v 0 rfl (i1.up E1.kk)) (va_cons (ve_v 5 rfl (y := .dat (encS (come h st.shelf st.way).1)) d1) (va_cons (ve_v 6 rfl (y := .dat (.list ((come h st.shelf st.way).2.1.map encW1))) d2) (va_cons (ve_v 3 rfl (i4.up E1.kk)) (va_cons (ve_v 4 rfl rfl) va_nil))))) ⟨h, _, _, p, ho, cl.1, by omega, rfl, rfl, rfl⟩ fun v2 Hk2 H2 ws2 E2 nk2 hl2 dl2 j2 => ?_)
    (pg_tup rfl (pgs_cons (pg_name (i := 5) scGone.nd rfl (.inl rfl)) (pgs_cons (pg_name (i := 6) scGone.nd rfl (.inl rfl)) pgs_nil)))
  refine g_tup2 j2 E2.sub fun u3 u4 d3 d4 => ?_
  have k12 := E1.kk.trans E2.kk
  -- stepped
  refine xs_asg E2.sub (ve_f E.stepped.d (ev_stepped T E) hr (va_cons (ve_v 1 rfl (i2.up k12)) (va_cons (ve_itT (ve_v 2 rfl (i3'.up k12)) (ve_int (i := 2)) rfl) (va_cons (ve_v 3 rfl (i4.up k12)) va_nil))) ⟨gs, 0, st.kn, m, p, ok, by decide, hk, hm, rfl, rfl⟩)
    (pg_tup rfl (pgs_cons (pg_name (i := 7) scGone.nd rfl (.inl rfl)) (pgs_cons (pg_name (i := 8) scGone.nd rfl (.inl rfl)) pgs_nil))) fun v3 Hk3 H3 E3 j3 => g_tup2 j3 E3.sub fun u5 u6 d5 d6 => ?_
  have t2 : H2 l ≠ none := by rw [hl2]; exact fun z => by cases z
  -- started
  refine xs_setW (i := 6) (we_callM (fa := E.started.f) (as := [spHouse E.cHouse h, .dat (encS (asked h (come h st.shelf st.way).1 (come h st.shelf st.way).2.1 p).1), .dat (.list ((asked h (come h st.shelf st.way).1 (come h st.shelf st.way).2.1 p).2.1.map encW1)), .dat (.list (encI (adv gs st.kn p).2))]) (ok_started T E) (hr.mono (by decide)) E.started.d.g E.started.d.F.kp E.started.d.b E3.sub (E3.unk nk2 t2) (E3.same _ _ hl2) (dl2.up E3.kk)
    (by simp only [List.length_nil, List.length_map, List.length_append]; omega)
    (va_cons (ve_v 0 rfl ((i1.up k12).up E3.kk)) (va_cons (ve_v 5 rfl (y := .dat (encS (asked h (come h st.shelf st.way).1 (come h st.shelf st.way).2.1 p).1)) (d3.up E3.kk)) (va_cons (ve_v 6 rfl (y := .dat (.list ((asked h (come h st.shelf st.way).1 (come h st.shelf st.way).2.1 p).2.1.map encW1))) (d4.up E3.kk)) (va_cons (ve_v 8 rfl (y := .dat (.list (encI (adv gs st.kn p).2))) d6) (va_cons (ve_v 4 rfl rfl) va_nil))))) ⟨h, _, _, _, ho, by omega, by omega, by omega, rfl, rfl, rfl⟩ fun v4 Hk4 H4 ws4 E4 nk4 hl4 dl4 j4 => ?_) scGone.nd
  -- return
  have EE : Ext (M1 l) Hk H Hk4 H4 := (((E0.pure.trans E1).trans E2).trans E3.pure).trans E4
  have ff := (EE.local_ (M := M0) nl).fix nl nk4 hl4
  have ku : Same Hk4 (upd Hk4 l (.lst ws4)) := same_up nk4
  refine xs_ret ff.sub (ve_tup (ds := [(gone h gs st p).1.enc, .list ((gone h gs st p).2.map encV1)]) (va_cons (ve_tup (ds := [encS (gone h gs st p).1.shelf, .tuple ((gone h gs st p).1.way.map encW1), (gone h gs st p).1.kn.enc]) (va_cons (ve_v 5 rfl (y := .dat (encS (gone h gs st p).1.shelf)) (((d3.up E3.kk).up E4.kk).up ku)) (va_cons (ve_tuple T.tuple (ve_v 6 rfl (y := .dat (.list ((gone h gs st p).1.way.map encW1))) (j4.up ku)))
    (va_cons (ve_v 7 rfl (y := .dat (gone h gs st p).1.kn.enc) ((d5.up E4.kk).up ku)) va_nil)))) (va_cons (ve_v 4 rfl (y := .dat (.list ((gone h gs st p).2.map encV1))) (.lst upd_same ?_)) va_nil))) fun v5 Hk5 H5 E5 j5 => q v5 Hk5 H5 (ff.trans E5) j5
  have e : (gone h gs st p).2.map encV1 = [] ++ (come h st.shelf st.way).2.2.map encV1 ++ (asked h (come h st.shelf st.way).1 (come h st.shelf st.way).2.1 p).2.2.map encV1 ++ (started h (asked h (come h st.shelf st.way).1 (come h st.shelf st.way).2.1 p).1 (asked h (come h st.shelf st.way).1 (come h st.shelf st.way).2.1 p).2.1 (adv gs st.kn p).2).2.map encV1 := by
    simp only [gone, List.map_append, List.nil_append]
  rw [e]
  exact dl4.up ku

theorem scIdle : FnScope ["state", "one"] ["state"] (defScope sIdle) := ⟨rfl, rfl, rfl, by decide +kernel, rfl, by decide +kernel, by decide +kernel⟩
def gIdle (as : List Sp1) (r : Sp1) : Prop := ∃ (s : Sta), s.shelf.length ≤ 1000 ∧ as = [.dat s.enc] ∧ r = .dat (.int (idle s))
theorem ok_idle (T : Tp K w mg) (E : Ev K mg) : FnOk P w K mg base CX0 1 E.idle.f E.idle.fd ["state"] (spD K gIdle) := by
  refine ok_of E.idle.d.F scIdle (fun as r h => by obtain ⟨_, _, rfl, _⟩ := h; rfl) fun cdv A outer s H Hk vs as r Q hr sm ia g q => ?_
  obtain ⟨st, hl, rfl, rfl⟩ := g
  obtain ⟨vs', rfl, i1⟩ := ia1 ia
  have i1' : Is K Hk vs' (.dat (.tuple [.tuple (st.shelf.map encS1), .tuple (st.way.map encW1), st.kn.enc])) := i1
  refine xs_ret sm ((ve_add (ve_lenL T.len PySem.boot_len (ve_lc (own := [("one", 1)]) (g := gName 1) (ds := st.shelf.map encS1) rfl scIdle.nd (vi_tup (ve_itT (ve_v 0 rfl i1') (ve_int (i := 0)) rfl)) (fF decS1 encS1 fun x => x.2) (by rw [List.length_map]; omega) (blkOk_by (N := ["state", "one"]) (sc := defScope sIdle) (by decide +kernel)) (fun _ _ _ _ _ => pg_name (i := 1) scIdle.nd rfl (Or.inl rfl)) (fun i x v' Hk1 H1 hx k' s' dv' => ?_)))
    (ve_lenT T.len PySem.boot_len (ve_itT (ve_v 0 rfl i1') (ve_int (i := 1)) rfl))).is ?_) fun v2 Hk2 H2 E2 i2 => q v2 Hk2 H2 E2 i2
  · obtain ⟨z, hz', rfl⟩ := map_at hx
    have dv2 : Is K Hk1 v' (.dat (.tuple [.int z.1, .bool z.2])) := dv'
    refine ⟨_, fun Q' h => h, rfl, fun s0 H0 C cl fp => ⟨.inr ⟨_, rfl, VT.is (vt_val (ve_itT (ve_v 1 rfl dv2) (ve_int (i := 1)) rfl)) (fF_some dS1 _ _).symm⟩, fun r hr' => ?_⟩⟩
    rw [fF_eq dS1 hr']
    exact ve_v 1 rfl dv2
  · rw [fF_all dS1, List.length_map, List.length_map]
    rfl

/-! ### what is refused -/
abbrev nNeedS : List Str := ["setting", "memory", "room", "late", "most", "one"]
theorem scNeedS : FnScope nNeedS ["setting"] (defScope sNeedSetting) := ⟨rfl, rfl, rfl, by decide +kernel, rfl, by decide +kernel, by decide +kernel⟩
def gNeedS (as : List Sp1) (r : Sp1) : Prop := ∃ (s : Stg), s.ok ∧ as = [.dat s.enc] ∧ r = .dat .none
theorem ok_needS (T : Tp K w mg) (E : Ev K mg) : FnOk P w K mg base CX0 1 E.needSetting.f E.needSetting.fd ["setting"] (spD K gNeedS) := by
  refine ok_of E.needSetting.d.F scNeedS (fun as r h => by obtain ⟨_, _, rfl, _⟩ := h; rfl) fun cdv A outer s H Hk vs as r Q hr sm ia g q => ?_
  obtain ⟨st, ho, rfl, rfl⟩ := g
  obtain ⟨vs', rfl, i1⟩ := ia1 ia
  have hu64 : (A.deeper (envOfC "need_setting" (defScope sNeedSetting) s.heap.objs.size E.needSetting.f cdv)).units + 64 < cLine := hr.units
  refine xs_asg sm (ve_v 0 rfl (y := .dat st.enc) i1) (pg_tup rfl (pgs_cons (pg_name (i := 1) scNeedS.nd rfl (.inl rfl)) (pgs_cons (pg_name (i := 2) scNeedS.nd rfl (.inl rfl)) (pgs_cons (pg_name (i := 3) scNeedS.nd rfl (.inl rfl)) (pgs_cons (pg_name (i := 4) scNeedS.nd rfl (.inl rfl)) pgs_nil)))))
    fun v' Hk1 H1 E1 dv' => g_tup4 dv' E1.sub fun v1 v2 v3 v4 d1 d2 d3 d4 => ?_
  have d1' : Is K Hk1 v1 (.dat (.tuple (encI st.mem))) := d1
  have m1 := ho.m1
  have m2 := ho.m2
  have el : (encI st.mem).length = st.mem.length := by unfold encI; rw [List.length_map]
  refine xs_ifN E1.sub (VT.is (vt_w (vw_or (vt_not (vt_chain ve_int (ve_lenT T.len PySem.boot_len (ve_v 1 rfl d1')) (ve_gc T.mPlaces) cd_le cd_le)) fun _ => vw_one (vt_c ((ve_lc (own := [("one", 5)]) (g := gName 5) (ds := encI st.mem) rfl scNeedS.nd (vi_tup (ve_v 1 rfl d1')) (fI fun x => !(decide (0 ≤ x) && decide (x ≤ 99))) (by rw [el]; omega) (blkOk_by (N := nNeedS) (sc := defScope sNeedSetting) (by decide +kernel)) (fun _ _ _ _ _ => pg_name (i := 5) scNeedS.nd rfl (Or.inl rfl)) (fun i x v' Hk1 H1 hx k' s' dv' => ?_)).is (y := .dat (.list [])) ?_) (ve_lst (ds := []) va_nil)
    (cd_neD hu64 rfl rfl)))) ?_) fun Hk2 H2 E2 => ?_
  · obtain ⟨j, hj, rfl⟩ := encI_at hx
    have dv2 : Is K Hk1 v' (.dat (.int j)) := dv'
    refine ⟨_, fun Q' h => h, rfl, fun s0 H0 C cl fp => ⟨.inr ⟨_, rfl, VT.is (vt_not (vt_chain ve_int (ve_v 5 rfl dv2) (ve_gc (X := BK _ _ s0 H0 C cl fp) T.mNumber) cd_le cd_le)) ?_⟩, fun r hr' => ?_⟩⟩
    · simp only [fI]
      split
      · rename_i c; rw [c]; rfl
      · rename_i c; rw [Bool.eq_false_iff.mpr c]; rfl
    · have e : r = .int j := by
        simp only [fI] at hr'
        split at hr'
        · exact (Option.some.inj hr').symm
        · cases hr'
      rw [e]
      exact ve_v 5 rfl dv2
  · rw [fI_all]
    have e : st.mem.filter (fun x => !(decide (0 ≤ x) && decide (x ≤ 99))) = [] := by
      rw [List.filter_eq_nil_iff]
      intro x hx
      have := ho.mm x hx
      simp
      omega
    rw [e]
    rfl
  · rw [el]
    have e1 : (decide ((1 : Int) ≤ (st.mem.length : Int)) && decide ((st.mem.length : Int) ≤ 32)) = true := by simp; omega
    rw [e1]
    rfl
  · have r1 := ho.r1
    have r2 := ho.r2
    refine xs_ifN E2.sub (VT.is (vt_not (vt_chain ve_int (ve_v 2 rfl (y := .dat (.int st.room)) (d2.up E2.kk)) (ve_gc T.mRoom) cd_le cd_le)) (by simp; omega)) fun Hk3 H3 E3 => ?_
    have l1 := ho.l1
    have l2 := ho.l2
    refine xs_ifN E3.sub (VT.is (vt_not (vt_chain ve_int (ve_v 3 rfl (y := .dat (.int st.late)) ((d3.up E2.kk).up E3.kk)) (ve_gc T.mLate) cd_le cd_le)) (by simp; omega)) fun Hk4 H4 E4 => ?_
    have w1 := ho.w1
    have w2 := ho.w2
    refine xs_ifN E4.sub (VT.is (vt_not (vt_chain ve_int (ve_v 4 rfl (y := .dat (.int st.most)) (((d4.up E2.kk).up E3.kk).up E4.kk)) (ve_gc T.mWay) cd_le cd_le)) (by simp; omega)) fun Hk5 H5 E5 => wss_nil ?_
    exact q _ Hk5 H5 ((((E1.trans E2).trans E3).trans E4).trans E5) .non
end
end W
end
section
set_option Elab.async false
set_option linter.all false
set_option maxRecDepth 100000
set_option maxHeartbeats 4000000
/-! Plain: places apart, and what lies on the shelf, turn by turn. -/
namespace Ml
open PySem Mi W
def pS (s : Sv) : List Int := s.map (·.1)
def pW (s : Wy) : List Int := s.map (·.1)
/-- the numbers that lie: what events do to them -/
inductive Lies (n : Int) : (Int → Prop) → Evs → (Int → Prop) → Prop
  | nil {L L' : Int → Prop} : (∀ p, L p ↔ L' p) → Lies n L [] L'
  | out {L L' : Int → Prop} {w : Str} {p : Int} {r : Evs} : (w = "leave" ∨ w = "waste") → L p → Lies n (fun q => L q ∧ q ≠ p) r L' → Lies n L ((w, p) :: r) L'
  | inn {L L' : Int → Prop} {w : Str} {p : Int} {r : Evs} : (w = "come" ∨ w = "late" ∨ w = "miss") → 0 ≤ p → p < n → Lies n (fun q => L q ∨ q = p) r L' → Lies n L ((w, p) :: r) L'
  | stay {L L' : Int → Prop} {w : Str} {p : Int} {r : Evs} : (w = "first" ∨ w = "hit" ∨ w = "start") → Lies n L r L' → Lies n L ((w, p) :: r) L'
theorem Lies.cong {n : Int} {L L1 L' : Int → Prop} {e : Evs} (h : Lies n L e L') (c : ∀ p, L p ↔ L1 p) : Lies n L1 e L' := by
  induction h generalizing L1 with
  | nil q => exact .nil fun p => (c p).symm.trans (q p)
  | out hw hp _ ih => exact .out hw ((c _).mp hp) (ih fun p => and_congr (c p) Iff.rfl)
  | inn hw h0 h1 _ ih => exact .inn hw h0 h1 (ih fun p => or_congr (c p) Iff.rfl)
  | stay hw _ ih => exact .stay hw (ih c)
theorem Lies.app {n : Int} {L L1 L2 : Int → Prop} {e f : Evs} (h : Lies n L e L1) (g : Lies n L1 f L2) : Lies n L (e ++ f) L2 := by
  induction h with
  | nil q => exact g.cong fun p => (q p).symm
  | out hw hp _ ih => exact .out hw hp (ih g)
  | inn hw h0 h1 _ ih => exact .inn hw h0 h1 (ih g)
  | stay hw _ ih => exact .stay hw (ih g)
theorem Lies.to {n : Int} {L L1 L2 : Int → Prop} {e : Evs} (h : Lies n L e L1) (c : ∀ p, L1 p ↔ L2 p) : Lies n L e L2 := by
  have := h.app (.nil c)
  rwa [List.append_nil] at this
/-! ### a place laid -/
theorem laid_lies {h : Hs} {n : Int} {sh : Sv} {p : Int} {b : Bool} {w : Str} (hw : w = "come" ∨ w = "late" ∨ w = "miss") (h0 : 0 ≤ p) (h1 : p < n) (nd : (pS sh).Nodup) (hp : p ∉ pS sh) :
    Lies n (fun q => q ∈ pS sh) ((laid h sh p b).2 ++ [(w, p)]) (fun q => q ∈ pS (laid h sh p b).1) := by
  unfold laid
  split
  · cases sh with
    | nil => exact .inn hw h0 h1 (.nil fun q => by simp [pS])
    | cons x r =>
      refine .out (by cases x.2 <;> simp) (by simp [pS]) (.inn hw h0 h1 (.nil fun q => ?_))
      have nx : x.1 ∉ pS r := (List.nodup_cons.mp nd).1
      simp only [pS, List.map_cons, List.mem_cons, List.map_append, List.mem_append, List.map_nil, List.not_mem_nil, or_false] at *
      constructor
      · rintro (⟨h | h, h2⟩ | h)
        · exact absurd h h2
        · exact .inl h
        · exact .inr h
      · rintro (h | h)
        · exact .inl ⟨.inr h, fun z => nx (by rw [← z]; exact h)⟩
        · exact .inr h
  · refine .inn hw h0 h1 (.nil fun q => ?_)
    simp [pS]
theorem laid_sub {h : Hs} {sh : Sv} {p : Int} {b : Bool} : ∃ t, pS (laid h sh p b).1 = t ++ [p] ∧ t.Sublist (pS sh) := by
  unfold laid
  split
  · cases sh with
    | nil => exact ⟨[], rfl, List.Sublist.refl _⟩
    | cons x r => exact ⟨pS r, by simp [pS], List.sublist_cons_self _ _⟩
  · exact ⟨pS sh, by simp [pS], List.Sublist.refl _⟩
/-! ### apart -/
structure SOk (h : Hs) (s : Sta) : Prop where
  nd : (pS s.shelf ++ pW s.way).Nodup
  rg : ∀ p ∈ pS s.shelf ++ pW s.way, 0 ≤ p ∧ p < h.places
theorem come_ok {h : Hs} : ∀ (wy : Wy) (a : Sv × Wy × Evs), (pS a.1 ++ pW a.2.1 ++ pW wy).Nodup → (∀ p ∈ pS a.1 ++ pW a.2.1 ++ pW wy, 0 ≤ p ∧ p < h.places) →
    (pS (wy.foldl (come1 h) a).1 ++ pW (wy.foldl (come1 h) a).2.1).Nodup ∧ (∀ p ∈ pS (wy.foldl (come1 h) a).1 ++ pW (wy.foldl (come1 h) a).2.1, 0 ≤ p ∧ p < h.places) ∧
    ∃ e, (wy.foldl (come1 h) a).2.2 = a.2.2 ++ e ∧ Lies h.places (fun q => q ∈ pS a.1) e (fun q => q ∈ pS (wy.foldl (come1 h) a).1)
  | [], a, nd, rg => by
    have e : pW ([] : Wy) = [] := rfl
    rw [e, List.append_nil] at nd rg
    exact ⟨nd, rg, [], by simp, .nil fun _ => Iff.rfl⟩
  | x :: wy, a, nd, rg => by
    have ew : pW (x :: wy) = x.1 :: pW wy := rfl
    rw [ew] at nd rg
    rw [List.foldl_cons]
    have hx := rg x.1 (by simp)
    by_cases c : x.2 = 0
    · have e1 : come1 h a x = ((laid h a.1 x.1 true).1, a.2.1, a.2.2 ++ (laid h a.1 x.1 true).2 ++ [(("come" : Str), x.1)]) := by unfold come1; rw [if_pos c]
      rw [e1]
      obtain ⟨t, et, st⟩ := laid_sub (h := h) (sh := a.1) (p := x.1) (b := true)
      have nd2 : (t ++ x.1 :: (pW a.2.1 ++ pW wy)).Nodup := by
        have s1 : (t ++ (pW a.2.1 ++ x.1 :: pW wy)).Sublist (pS a.1 ++ pW a.2.1 ++ x.1 :: pW wy) := by
          rw [List.append_assoc]
          exact st.append (List.Sublist.refl _)
        have n1 := nd.sublist s1
        have p1 : (t ++ (pW a.2.1 ++ x.1 :: pW wy)).Perm (t ++ x.1 :: (pW a.2.1 ++ pW wy)) := List.Perm.append_left _ List.perm_middle
        exact p1.nodup_iff.mp n1
      have ih := come_ok wy ((laid h a.1 x.1 true).1, a.2.1, a.2.2 ++ (laid h a.1 x.1 true).2 ++ [(("come" : Str), x.1)]) (by
        show (pS (laid h a.1 x.1 true).1 ++ pW a.2.1 ++ pW wy).Nodup
        rw [et]
        simpa using nd2) (by
        show ∀ p ∈ pS (laid h a.1 x.1 true).1 ++ pW a.2.1 ++ pW wy, 0 ≤ p ∧ p < h.places
        rw [et]
        intro p hp
        simp only [List.mem_append, List.mem_singleton] at hp
        refine rg p ?_
        simp only [List.mem_append, List.mem_cons]
        rcases hp with (((hp | hp) | hp) | hp)
        · exact .inl (.inl (st.subset hp))
        · exact .inr (.inl hp)
        · exact .inl (.inr hp)
        · exact .inr (.inr hp))
      obtain ⟨i1, i2, e, i3, i4⟩ := ih
      refine ⟨i1, i2, (laid h a.1 x.1 true).2 ++ [(("come" : Str), x.1)] ++ e, ?_, ?_⟩
      · rw [i3]
        simp
      · refine (laid_lies (.inl rfl) hx.1 hx.2 ?_ ?_).app i4
        · exact nd.sublist (by rw [List.append_assoc]; exact List.sublist_append_left _ _)
        · intro z
          rw [List.append_assoc] at nd
          have := (List.nodup_append.mp nd).2.2 x.1 z x.1 (by simp)
          exact this rfl
    · have e1 : come1 h a x = (a.1, a.2.1 ++ [(x.1, x.2 - 1)], a.2.2) := by unfold come1; rw [if_neg c]
      rw [e1]
      have ep : pW (a.2.1 ++ [(x.1, x.2 - 1)]) = pW a.2.1 ++ [x.1] := by simp [pW]
      exact come_ok wy (a.1, a.2.1 ++ [(x.1, x.2 - 1)], a.2.2) (by
        show (pS a.1 ++ pW (a.2.1 ++ [(x.1, x.2 - 1)]) ++ pW wy).Nodup
        rw [ep]
        simpa using nd) (by
        show ∀ p ∈ pS a.1 ++ pW (a.2.1 ++ [(x.1, x.2 - 1)]) ++ pW wy, 0 ≤ p ∧ p < h.places
        rw [ep]
        intro p hp
        refine rg p ?_
        simp only [List.mem_append, List.mem_cons, List.not_mem_nil, or_false] at hp ⊢
        rcases hp with (hp | hp | hp) | hp
        · exact .inl (.inl hp)
        · exact .inl (.inr hp)
        · exact .inr (.inl hp)
        · exact .inr (.inr hp))
theorem asked_ok {h : Hs} {sh : Sv} {wy : Wy} {p : Int} (h0 : 0 ≤ p) (h1 : p < h.places) (nd : (pS sh ++ pW wy).Nodup) (rg : ∀ p ∈ pS sh ++ pW wy, 0 ≤ p ∧ p < h.places) :
    (pS (asked h sh wy p).1 ++ pW (asked h sh wy p).2.1).Nodup ∧ (∀ q ∈ pS (asked h sh wy p).1 ++ pW (asked h sh wy p).2.1, 0 ≤ q ∧ q < h.places) ∧ p ∈ pS (asked h sh wy p).1 ∧ Lies h.places (fun q => q ∈ pS sh) (asked h sh wy p).2.2 (fun q => q ∈ pS (asked h sh wy p).1) := by
  unfold asked
  cases e : sh.find? (fun x => decide (x.1 = p)) with
  | some x =>
    have hm := List.mem_of_find?_eq_some e
    have hx : x.1 = p := by simpa using List.find?_some e
    have nds : (pS sh).Nodup := (List.nodup_append.mp nd).1
    -- the others
    have inj : ∀ y ∈ sh, y.1 = p → y = x := by
      intro y hy ey
      have : ∀ {l : Sv}, (pS l).Nodup → x ∈ l → y ∈ l → y.1 = x.1 → y = x := by
        intro l
        induction l with
        | nil => intro _ h; cases h
        | cons z l ih =>
          intro n hx hy e
          have n' := List.nodup_cons.mp (show (z.1 :: pS l).Nodup from n)
          rcases List.mem_cons.mp hx with hx | hx <;> rcases List.mem_cons.mp hy with hy | hy
          · rw [hx, hy]
          · exact absurd (List.mem_map.mpr ⟨y, hy, by rw [e, hx]⟩) n'.1
          · exact absurd (List.mem_map.mpr ⟨x, hx, by rw [← e, hy]⟩) n'.1
          · exact ih n'.2 hx hy e
      exact this nds hm hy (by rw [ey, hx])
    have ep : pS (sh.filter (fun y => decide (y ≠ x)) ++ [(p, false)]) = pS (sh.filter (fun y => decide (y ≠ x))) ++ [p] := by simp [pS]
    have hs : (pS (sh.filter (fun y => decide (y ≠ x)))).Sublist (pS sh) := List.filter_sublist.map _
    have hn : p ∉ pS (sh.filter (fun y => decide (y ≠ x))) := by
      intro z
      obtain ⟨y, hy, ey⟩ := List.mem_map.mp z
      have h2 := List.mem_filter.mp hy
      have := inj y h2.1 ey
      simp [this] at h2
    have hpm : p ∈ pS sh := List.mem_map.mpr ⟨x, hm, hx⟩
    have memI : ∀ q, q ∈ pS sh ↔ q ∈ pS (sh.filter (fun y => decide (y ≠ x)) ++ [(p, false)]) := by
      intro q
      rw [ep]
      simp only [List.mem_append, List.mem_singleton]
      constructor
      · intro hq
        by_cases c : q = p
        · exact .inr c
        · obtain ⟨y, hy, ey⟩ := List.mem_map.mp hq
          exact .inl (List.mem_map.mpr ⟨y, List.mem_filter.mpr ⟨hy, by simp; intro z; exact c (by rw [← ey, z, hx])⟩, ey⟩)
      · rintro (hq | hq)
        · exact hs.subset hq
        · rw [hq]; exact hpm
    refine ⟨?_, fun q hq => ?_, ?_, .stay (by cases x.2 <;> simp) (.nil memI)⟩
    · dsimp only
      rw [ep]
      have n1 : (p :: pS (sh.filter (fun y => decide (y ≠ x))) ++ pW wy).Nodup := by
        refine List.nodup_cons.mpr ⟨fun z => ?_, nd.sublist (hs.append (List.Sublist.refl _))⟩
        rcases List.mem_append.mp z with z | z
        · exact hn z
        · exact (List.nodup_append.mp nd).2.2 p hpm p z rfl
      refine (List.Perm.append_right _ ?_).nodup_iff.mp n1
      exact List.perm_append_comm (l₁ := [p])
    · refine rg q ?_
      rcases List.mem_append.mp hq with hq | hq
      · exact List.mem_append.mpr (.inl ((memI q).mpr hq))
      · exact List.mem_append.mpr (.inr hq)
    · dsimp only
      rw [ep]
      simp
  | none =>
    have hn : p ∉ pS sh := by
      intro z
      obtain ⟨y, hy, ey⟩ := List.mem_map.mp z
      have := List.find?_eq_none.mp e y hy
      simp [ey] at this
    obtain ⟨t, et, st⟩ := laid_sub (h := h) (sh := sh) (p := p) (b := false)
    have hs : (pW (wy.filter (fun y : Int × Int => decide (y.1 ≠ p)))).Sublist (pW wy) := List.filter_sublist.map _
    have hw : p ∉ pW (wy.filter (fun y : Int × Int => decide (y.1 ≠ p))) := by
      intro z
      obtain ⟨y, hy, ey⟩ := List.mem_map.mp z
      have h2 := List.mem_filter.mp hy
      simp [ey] at h2
    dsimp only
    refine ⟨?_, fun q hq => ?_, ?_, laid_lies ?_ h0 h1 (List.nodup_append.mp nd).1 hn⟩
    · rw [et, List.append_assoc]
      have n1 : (p :: (t ++ pW (wy.filter (fun y : Int × Int => decide (y.1 ≠ p))))).Nodup := by
        refine List.nodup_cons.mpr ⟨fun z => ?_, nd.sublist (st.append hs)⟩
        rcases List.mem_append.mp z with z | z
        · exact hn (st.subset z)
        · exact hw z
      exact List.perm_middle.symm.nodup_iff.mp n1
    · rw [et] at hq
      simp only [List.mem_append, List.mem_singleton] at hq
      rcases hq with (hq | hq) | hq
      · exact rg q (List.mem_append.mpr (.inl (st.subset hq)))
      · rw [hq]; exact ⟨h0, h1⟩
      · exact rg q (List.mem_append.mpr (.inr (hs.subset hq)))
    · rw [et]
      simp
    · split <;> simp
theorem started_ok {h : Hs} {sh : Sv} : ∀ (gs : List Int) (a : Wy × Evs), (pS sh ++ pW a.1).Nodup → (∀ p ∈ pS sh ++ pW a.1, 0 ≤ p ∧ p < h.places) →
    (pS sh ++ pW (gs.foldl (start1 h sh) a).1).Nodup ∧ (∀ p ∈ pS sh ++ pW (gs.foldl (start1 h sh) a).1, 0 ≤ p ∧ p < h.places) ∧ ∃ e, (gs.foldl (start1 h sh) a).2 = a.2 ++ e ∧ Lies h.places (fun q => q ∈ pS sh) e (fun q => q ∈ pS sh)
  | [], a, nd, rg => ⟨nd, rg, [], by simp, .nil fun _ => Iff.rfl⟩
  | x :: gs, a, nd, rg => by
    rw [List.foldl_cons]
    by_cases c : starts h sh a.1 x
    · have e1 : start1 h sh a x = (a.1 ++ [(x, h.late)], a.2 ++ [(("start" : Str), x)]) := by unfold start1; rw [if_pos c]
      rw [e1]
      obtain ⟨c1, c2, c3, c4⟩ := c
      have ep : pW (a.1 ++ [(x, h.late)]) = pW a.1 ++ [x] := by simp [pW]
      obtain ⟨i1, i2, e, i3, i4⟩ := started_ok gs (a.1 ++ [(x, h.late)], a.2 ++ [(("start" : Str), x)]) (by
        show (pS sh ++ pW (a.1 ++ [(x, h.late)])).Nodup
        rw [ep, ← List.append_assoc]
        have n1 : (x :: (pS sh ++ pW a.1)).Nodup := List.nodup_cons.mpr ⟨c3, nd⟩
        exact (List.perm_append_comm (l₁ := [x])).nodup_iff.mp n1) (by
        show ∀ p ∈ pS sh ++ pW (a.1 ++ [(x, h.late)]), 0 ≤ p ∧ p < h.places
        rw [ep, ← List.append_assoc]
        intro p hp
        rcases List.mem_append.mp hp with hp | hp
        · exact rg p hp
        · rw [List.mem_singleton.mp hp]; exact ⟨c1, c2⟩)
      exact ⟨i1, i2, [(("start" : Str), x)] ++ e, by rw [i3]; simp, .stay (by simp) i4⟩
    · have e1 : start1 h sh a x = a := by unfold start1; rw [if_neg c]
      rw [e1]
      exact started_ok gs a nd rg
theorem gone_ok {h : Hs} {g : Gs} {s : Sta} {p : Int} (h0 : 0 ≤ p) (h1 : p < h.places) (ok : SOk h s) : SOk h (gone h g s p).1 ∧ p ∈ pS (gone h g s p).1.shelf ∧ Lies h.places (fun q => q ∈ pS s.shelf) (gone h g s p).2 (fun q => q ∈ pS (gone h g s p).1.shelf) := by
  obtain ⟨a1, a2, e1, a3, a4⟩ := come_ok (h := h) s.way (s.shelf, [], []) (by simpa [pW] using ok.nd) (by simpa [pW] using ok.rg)
  have ec : s.way.foldl (come1 h) (s.shelf, [], []) = come h s.shelf s.way := rfl
  rw [ec] at a1 a2 a3 a4
  obtain ⟨b1, b2, b3, b4⟩ := asked_ok h0 h1 a1 a2
  obtain ⟨c1, c2, e2, c3, c4⟩ := started_ok (h := h) (sh := (asked h (come h s.shelf s.way).1 (come h s.shelf s.way).2.1 p).1) (adv g s.kn p).2 ((asked h (come h s.shelf s.way).1 (come h s.shelf s.way).2.1 p).2.1, []) b1 b2
  have es : (adv g s.kn p).2.foldl (start1 h (asked h (come h s.shelf s.way).1 (come h s.shelf s.way).2.1 p).1) ((asked h (come h s.shelf s.way).1 (come h s.shelf s.way).2.1 p).2.1, []) = started h (asked h (come h s.shelf s.way).1 (come h s.shelf s.way).2.1 p).1 (asked h (come h s.shelf s.way).1 (come h s.shelf s.way).2.1 p).2.1 (adv g s.kn p).2 := rfl
  rw [es] at c1 c2 c3
  refine ⟨⟨c1, c2⟩, b3, ?_⟩
  show Lies h.places _ ((come h s.shelf s.way).2.2 ++ (asked h (come h s.shelf s.way).1 (come h s.shelf s.way).2.1 p).2.2 ++ (started h (asked h (come h s.shelf s.way).1 (come h s.shelf s.way).2.1 p).1 (asked h (come h s.shelf s.way).1 (come h s.shelf s.way).2.1 p).2.1 (adv g s.kn p).2).2) _
  rw [a3, c3]
  simp only [List.nil_append]
  exact (a4.app b4).app c4
theorem begun_ok {h : Hs} {g : Gs} : SOk h (begun g) := ⟨List.nodup_nil, fun _ hp => by simp [begun, pS, pW] at hp⟩
end Ml
end
section
set_option Elab.async false
set_option linter.all false
set_option maxRecDepth 100000
set_option maxHeartbeats 4000000
/-! is_deed, need_row, need_all, need_weights, need_rows -/
namespace W
open PySem PySem.Spec PyProof.Rows L2 DL Tx Mi
inductive Dd where
  | rd (p : Int)
  | wr (p n : Int)
def Dd.enc : Dd → PyData
  | .rd p => .tuple [.str "read", .int p]
  | .wr p n => .tuple [.str "write", .int p, .int n]
def Dd.p : Dd → Int
  | .rd p => p
  | .wr p _ => p
def Dd.ok (places : Int) : Dd → Prop
  | .rd p => 0 ≤ p ∧ p < places
  | .wr p n => (0 ≤ p ∧ p < places) ∧ 0 ≤ n ∧ n ≤ 99
theorem Dd.ok.at {places : Int} {d : Dd} (h : d.ok places) : 0 ≤ d.p ∧ d.p < places := by
  cases d with
  | rd p => exact h
  | wr p n => exact h.1
section
variable {P : Program} {w : World} {K : PySem.W.Frag} {mg : Str → Option Value} {base : Heap}
theorem scIsDeed : FnScope ["places", "deed"] ["places", "deed"] (defScope sIsDeed) := ⟨rfl, rfl, rfl, by decide +kernel, rfl, by decide +kernel, by decide +kernel⟩
def gIsDeed (as : List Sp1) (r : Sp1) : Prop := ∃ (n : Int) (d : Dd), d.ok n ∧ as = [.dat (.int n), .dat d.enc] ∧ r = .dat (.bool true)
theorem ok_isDeed (T : Tp K w mg) (E : Ev K mg) : FnOk P w K mg base CX0 1 E.isDeed.f E.isDeed.fd ["places", "deed"] (spD K gIsDeed) := by
  refine ok_of E.isDeed.d.F scIsDeed (fun as r h => by obtain ⟨_, _, _, rfl, _⟩ := h; rfl) fun cdv A outer s H Hk vs as r Q hr sm ia g q => ?_
  obtain ⟨n, d, ok, rfl, rfl⟩ := g
  obtain ⟨v1, v2, rfl, i1, i2⟩ := ia2 ia
  cases d with
  | rd p =>
    have i2' : Is K Hk v2 (.dat (.tuple [.str "read", .int p])) := i2
    refine xs_ifT sm (VT.is (vt_w (vw_and (vt_c (ve_lenT T.len PySem.boot_len (ve_v 1 rfl i2')) ve_int cd_eqI) fun _ => vw_one (vt_c (ve_itT (ve_v 1 rfl i2') (ve_int (i := 0)) rfl) ve_str cd_eqS))) (by simp)) fun Hk2 H2 E2 => ?_
    refine xs_ret E2.sub ((ve_chain ve_int (ve_itT (ve_v 1 rfl (i2'.up E2.kk)) (ve_int (i := 1)) rfl) (ve_v 0 rfl (i1.up E2.kk)) cd_le cd_lt).isB ?_) fun v3 Hk3 H3 E3 i3 => q v3 Hk3 H3 (E2.trans E3) i3
    simp only [Dd.ok] at ok
    simp
    omega
  | wr p k =>
    have i2' : Is K Hk v2 (.dat (.tuple [.str "write", .int p, .int k])) := i2
    simp only [Dd.ok] at ok
    refine xs_ifN sm (VT.is (vt_w (vw_and (d' := true) (VT.is (d' := false) (vt_c (ve_lenT T.len PySem.boot_len (ve_v 1 rfl i2')) ve_int cd_eqI) (by simp)) fun z => by cases z)) rfl) fun Hk2 H2 E2 => ?_
    replace i2' := i2'.up E2.kk
    refine xs_ifN E2.sub (VT.is (vt_w (vw_or (vt_c (ve_lenT T.len PySem.boot_len (ve_v 1 rfl i2')) ve_int cd_neI) fun _ => vw_one (vt_c (ve_itT (ve_v 1 rfl i2') (ve_int (i := 0)) rfl) ve_str cd_neS))) (by simp)) fun Hk3 H3 E3 => ?_
    replace i2' := i2'.up E3.kk
    have E23 := E2.trans E3
    refine xs_ret E3.sub (VE.isB (ve_and (ve_chain ve_int (ve_itT (ve_v 1 rfl i2') (ve_int (i := 1)) rfl) (ve_v 0 rfl (i1.up E23.kk)) cd_le cd_lt) fun _ => ve_one (ve_chain ve_int (ve_itT (ve_v 1 rfl i2') (ve_int (i := 2)) rfl) (ve_gc T.mNumber) cd_le cd_le)) ?_) fun v3 Hk4 H4 E4 i4 => q v3 Hk4 H4 (E23.trans E4) i4
    simp
    omega
abbrev nNeedRow : List Str := ["places", "row", "number"]
theorem scNeedRow : FnScope nNeedRow ["places", "row"] (defScope sNeedRow) := ⟨rfl, rfl, rfl, by decide +kernel, rfl, by decide +kernel, by decide +kernel⟩
def gNeedRow (as : List Sp1) (r : Sp1) : Prop := ∃ (n : Int) (ds : List Dd), ds.length ≤ 100 ∧ (∀ d ∈ ds, d.ok n) ∧ as = [.dat (.int n), .dat (.list (ds.map Dd.enc))] ∧ r = .dat .none
theorem ok_needRow (T : Tp K w mg) (E : Ev K mg) : FnOk P w K mg base CX0 2 E.needRow.f E.needRow.fd ["places", "row"] (spD K gNeedRow) := by
  refine ok_of E.needRow.d.F scNeedRow (fun as r h => by obtain ⟨_, _, _, _, rfl, _⟩ := h; rfl) fun cdv A outer s H Hk vs as r Q hr sm ia g q => ?_
  obtain ⟨n, ds, hl, ok, rfl, rfl⟩ := g
  obtain ⟨v1, v2, rfl, i1, i2⟩ := ia2 ia
  have el : (ds.map Dd.enc).length = ds.length := List.length_map _
  refine xs_for (g := gName 2) (ds := intsD ds.length) sm (vi_range T.range ((ve_lenL T.len PySem.boot_len (ve_v 1 rfl i2)).is (by rw [el])) (by omega)) (pg_name (i := 2) scNeedRow.nd rfl (.inl rfl)) rfl PassesOwn.never
    (fun i σ' Hk' H' => ∃ o2, σ' = [some v1, some v2, o2] ∧ Ext M0 Hk H Hk' H') (fun Hk4 H4 E4 => ⟨none, rfl, E4⟩) (fun i d v σ' Hk0 H0 Hk' H' hd' kk0 s0 hP E5 dv => ?_) fun σ' Hk' H' kk s' hP => ?_
  · obtain ⟨o2, rfl, EP⟩ := hP
    obtain ⟨hi, rfl⟩ := intsD_of hd'
    have EE := EP.trans E5
    obtain ⟨d, hd⟩ : ∃ d, ds[i]? = some d := ⟨ds[i], List.getElem?_eq_getElem hi⟩
    have hat : (ds.map Dd.enc)[i]? = some d.enc := by rw [List.getElem?_map, hd]; rfl
    refine xs_ifN E5.sub (VT.is (vt_w (vw_or (vt_c (ve_v 2 rfl (y := .dat (.int (i : Int))) dv) (ve_gc T.mDeeds) cd_ge) fun _ => vw_one (vt_not (vt_val (ve_f E.isDeed.d (ok_isDeed T E) hr (va_cons (ve_v 0 rfl (i1.up EE.kk)) (va_cons (ve_itL (ve_v 1 rfl (i2.up EE.kk)) (ve_v 2 rfl (y := .dat (.int (i : Int))) dv) hat) va_nil)) ⟨n, d, ok d (List.mem_of_getElem? hd), rfl, rfl⟩))))) ?_) fun Hk6 H6 E6 => wss_nil ?_
    · have : decide ((100 : Int) ≤ (i : Int)) = false := decide_eq_false (by omega)
      rw [this]
      rfl
    · exact ⟨Hk6, (E5.trans E6).kk, E6.sub, _, rfl, EE.trans E6⟩
  · obtain ⟨o2, rfl, EP⟩ := hP
    exact wss_nil (q _ Hk' H' EP .non)

theorem scNeedAll : FnScope ["setting", "guesser", "row"] ["setting", "guesser", "row"] (defScope sNeedAll) := ⟨rfl, rfl, rfl, by decide +kernel, rfl, by decide +kernel, by decide +kernel⟩
def gNeedAll (as : List Sp1) (r : Sp1) : Prop := ∃ (st : Stg) (g : Gs) (ds : List Dd), st.ok ∧ g.ok 0 ∧ ds.length ≤ 100 ∧ (∀ d ∈ ds, d.ok st.mem.length) ∧ as = [.dat st.enc, .dat g.enc, .dat (.list (ds.map Dd.enc))] ∧ r = .dat .none
theorem ok_needAll (T : Tp K w mg) (E : Ev K mg) : FnOk P w K mg base CX0 6 E.needAll.f E.needAll.fd ["setting", "guesser", "row"] (spD K gNeedAll) := by
  refine ok_of E.needAll.d.F scNeedAll (fun as r h => by obtain ⟨_, _, _, _, _, _, _, rfl, _⟩ := h; rfl) fun cdv A outer s H Hk vs as r Q hr sm ia g q => ?_
  obtain ⟨st, g, ds, ho, ok, hl, hd, rfl, rfl⟩ := g
  obtain ⟨v1, v2, v3, rfl, i1, i2, i3⟩ := ia3 ia
  refine xs_ex sm (ve_f E.needSetting.d (ok_needS T E) (hr.mono (by decide)) (va_cons (ve_v 0 rfl i1) va_nil) ⟨st, ho, rfl, rfl⟩) fun Hk1 H1 E1 => ?_
  refine xs_ex E1.sub (ve_f E.needG.d (ev_needG T E) hr (va_cons (ve_v 1 rfl (i2.up E1.kk)) va_nil) ⟨g, ok, rfl, rfl⟩) fun Hk2 H2 E2 => ?_
  have E12 := E1.trans E2
  have i1' : Is K Hk2 v1 (.dat (.tuple [.tuple (encI st.mem), .int st.room, .int st.late, .int st.most])) := i1.up E12.kk
  have el : (encI st.mem).length = st.mem.length := by unfold encI; rw [List.length_map]
  refine xs_ex E2.sub (ve_f E.needRow.d (ok_needRow T E) (hr.mono (by decide)) (va_cons ((ve_lenT T.len PySem.boot_len (ve_itT (ve_v 0 rfl i1') (ve_int (i := 0)) rfl)).is (by rw [el])) (va_cons (ve_v 2 rfl (i3.up E12.kk)) va_nil)) ⟨_, ds, hl, hd, rfl, rfl⟩) fun Hk3 H3 E3 => wss_nil ?_
  exact q _ Hk3 H3 (E12.trans E3) .non

theorem scNeedW : FnScope ["weights", "one"] ["weights"] (defScope sNeedWeights) := ⟨rfl, rfl, rfl, by decide +kernel, rfl, by decide +kernel, by decide +kernel⟩
def w123 : PyData := .tuple (encI [1, 2, 3])
def gNeedW (as : List Sp1) (r : Sp1) : Prop := as = [.dat w123] ∧ r = .dat .none
theorem ok_needW (T : Tp K w mg) (E : Ev K mg) : FnOk P w K mg base CX0 1 E.needW.f E.needW.fd ["weights"] (spD K gNeedW) := by
  refine ok_of E.needW.d.F scNeedW (fun as r h => by obtain ⟨rfl, _⟩ := h; rfl) fun cdv A outer s H Hk vs as r Q hr sm ia g q => ?_
  obtain ⟨rfl, rfl⟩ := g
  obtain ⟨v1, rfl, i1⟩ := ia1 ia
  have i1' : Is K Hk v1 (.dat (.tuple (encI [1, 2, 3]))) := i1
  have hu64 : (A.deeper (envOfC "need_weights" (defScope sNeedWeights) s.heap.objs.size E.needW.f cdv)).units + 64 < cLine := hr.units
  refine xs_ifN sm (VT.is (vt_w (vw_or (vt_c (ve_lenT T.len PySem.boot_len (ve_v 0 rfl i1')) ve_int cd_neI) fun _ => vw_one (vt_c ((ve_lc (own := [("one", 1)]) (g := gName 1) (ds := encI [1, 2, 3]) rfl scNeedW.nd (vi_tup (ve_v 0 rfl i1')) (fI fun x => !(decide (0 ≤ x) && decide (x ≤ 9))) (by decide) (blkOk_by (N := ["weights", "one"]) (sc := defScope sNeedWeights) (by decide +kernel)) (fun _ _ _ _ _ => pg_name (i := 1) scNeedW.nd rfl (Or.inl rfl)) (fun i x v' Hk1 H1 hx k' s' dv' => ?_)).is (y := .dat (.list [])) ?_) (ve_lst (ds := []) va_nil)
    (cd_neD hu64 rfl rfl)))) ?_) fun Hk2 H2 E2 => wss_nil ?_
  · obtain ⟨j, hj, rfl⟩ := encI_at hx
    have dv2 : Is K Hk1 v' (.dat (.int j)) := dv'
    refine ⟨_, fun Q' h => h, rfl, fun s0 H0 C cl fp => ⟨.inr ⟨_, rfl, VT.is (vt_not (vt_chain ve_int (ve_v 1 rfl dv2) (ve_gc (X := BK _ _ s0 H0 C cl fp) T.mWeight) cd_le cd_le)) ?_⟩, fun r hr' => ?_⟩⟩
    · simp only [fI]
      split
      · rename_i c; rw [c]; rfl
      · rename_i c; rw [Bool.eq_false_iff.mpr c]; rfl
    · have e : r = .int j := by
        simp only [fI] at hr'
        split at hr'
        · exact (Option.some.inj hr').symm
        · cases hr'
      rw [e]
      exact ve_v 1 rfl dv2
  · rw [fI_all]
    rfl
  · rfl
  · exact q _ Hk2 H2 E2 .non

theorem ve_min2 {X : Cx} {σ : L2.St} {Hk : Hp} {e f : Expr} {p pos : Pos} {i j : Int} (hc : X.calm = true) (hm : X.mg "min" = none) (h : VE X σ Hk e (.dat (.int i))) (h2 : VE X σ Hk f (.dat (.int j))) (hg : Gl X "min" := by rfl)
    (he : starEach [e, f] X.env = (false, eval e X.env) :: starEach [f] X.env := by rfl) (he2 : starEach [f] X.env = (false, eval f X.env) :: starEach [] X.env := by rfl) (hpl : (backTo pos (starEach [f] X.env)).any (·.1) = false := by rfl) : VE X σ Hk (.Call (.Name "min" p) [e, f] [] pos) (.dat (.int (if j < i then j else i))) :=
  ve_of (pe_callB (call_min2 hc) hg hm PyProof.Rows.boot_min (pa_cons pe_w (pa_cons pe_w pa_nil he2) he) (by decide) (by decide) he hpl) fun H s Q k => h H s _ fun v Hk1 H1 E1 i1 => (h2.up E1.kk) H1 E1.sub _ fun u Hk2 H2 E2 i2 => by
    have e1 := dp_int i1
    have e2 := dp_int i2
    subst e1 e2
    exact ⟨i, j, rfl, k _ Hk2 H2 (E1.trans E2) (.int _)⟩
abbrev nNeedRows : List Str := ["most", "places", "length", "rows", "turn"]
theorem scNeedRows : FnScope nNeedRows ["most", "places", "length"] (defScope sNeedRows) := ⟨rfl, rfl, rfl, by decide +kernel, rfl, by decide +kernel, by decide +kernel⟩
def gNeedRows (as : List Sp1) (r : Sp1) : Prop := ∃ (m p : Int), 1 ≤ p ∧ p ≤ 2 ∧ p ≤ m ∧ as = [.dat (.int m), .dat (.int p), .dat (.int 3)] ∧ r = .dat .none
theorem ok_needRows (T : Tp K w mg) (E : Ev K mg) : FnOk P w K mg base CX0 1 E.needRows.f E.needRows.fd ["most", "places", "length"] (spD K gNeedRows) := by
  refine ok_of E.needRows.d.F scNeedRows (fun as r h => by obtain ⟨_, _, _, _, _, rfl, _⟩ := h; rfl) fun cdv A outer s H Hk vs as r Q hr sm ia g q => ?_
  obtain ⟨m, p, h1, h2, h3, rfl, rfl⟩ := g
  obtain ⟨v1, v2, v3, rfl, i1, i2, i3⟩ := ia3 ia
  refine xs_ifN sm (VT.is (vt_w (vw_or (vt_not (vt_chain ve_int (ve_v 1 rfl i2) (ve_min2 rfl T.min (ve_gc T.mAsked) (ve_v 0 rfl i1)) cd_le cd_le)) fun _ => vw_one (vt_not (vt_chain ve_int (ve_v 2 rfl i3) (ve_gc T.mLength) cd_le cd_le)))) ?_) fun Hk1 H1 E1 => ?_
  · have e1 : (decide ((1 : Int) ≤ p) && decide (p ≤ (if m < 4 then m else 4))) = true := by
      simp only [Bool.and_eq_true, decide_eq_true_eq]
      refine ⟨h1, ?_⟩
      split <;> omega
    rw [e1]
    rfl
  · refine xs_set E1.sub ve_int (i := 3) (fun v4 Hk2 H2 E2 i4 => ?_) scNeedRows.nd
    have E12 := E1.trans E2
    refine xs_for (g := gName 4) (ds := intsD 3) E2.sub (vi_range T.range (ve_v 2 rfl (i3.up E12.kk)) (by decide)) (pg_name (i := 4) scNeedRows.nd rfl (.inl rfl)) rfl PassesOwn.never
      (fun i σ' Hk' H' => ∃ v o4, σ' = [some v1, some v2, some v3, some v, o4] ∧ Ext M0 Hk H Hk' H' ∧ Is K Hk' v (.dat (.int (p ^ i)))) (fun Hk4 H4 E4 => ⟨v4, none, rfl, E12.trans E4, by rw [Int.pow_zero]; exact i4.up E4.kk⟩) (fun i d v σ' Hk0 H0 Hk' H' hd' kk0 s0 hP E5 dv => ?_) fun σ' Hk' H' kk s' hP => ?_
    · obtain ⟨v, o4, rfl, EP, iv⟩ := hP
      have EE := EP.trans E5
      refine xs_set E5.sub ((ve_mul (ve_v 3 rfl (iv.up E5.kk)) (ve_v 1 rfl (i2.up EE.kk)) (.inr ⟨by omega, by omega⟩)).is (by rw [← Int.pow_succ])) (i := 3) (fun v5 Hk6 H6 E6 i5 => wss_nil ?_) scNeedRows.nd
      exact ⟨Hk6, (E5.trans E6).kk, E6.sub, v5, _, rfl, EE.trans E6, i5⟩
    · obtain ⟨v, o4, rfl, EP, iv⟩ := hP
      have e3 : (intsD 3).length = 3 := rfl
      rw [e3] at iv
      refine xs_ifN EP.sub (VT.is (vt_c (ve_v 3 rfl iv) (ve_gc T.mRows) cd_gt) ?_) fun Hk6 H6 E6 => wss_nil ?_
      · rcases (show p = 1 ∨ p = 2 by omega) with rfl | rfl <;> rfl
      · exact q _ Hk6 H6 (EP.trans E6) .non
end
end W
end
section
set_option Elab.async false
set_option linter.all false
set_option maxRecDepth 100000
set_option maxHeartbeats 4000000
/-! turn_cost, both_behind -/
namespace DL
open PySem PySem.Spec PyProof.Rows L2
section
variable {X : Cx} {σ : L2.St} {Hk H : Hp} {e o a b : Expr} {pos cpos apos p : Pos} {D : Ends} {rest body : List Stmt}
/-- l.count(x) of texts -/
def rCntS (K : PySem.W.Frag) : V → List V → Hp → VK → Prop := fun x xs H Q => ∃ (p : Addr) (ys : List V) (ws : List Str) (k : Str), x = .ref p ∧ xs = [.str k] ∧ SqL K H p ys ∧ L2.DpAll K H ys (ws.map .str) ∧ Q (.int ((ws.countP fun y => decide (y = k) : Nat) : Int)) H
theorem strs_plain : ∀ (ws : List Str), PyData.plainAll (ws.map .str) = true
  | [] => rfl
  | x :: ws => by
    show (PyData.plain (.str x) && PyData.plainAll (ws.map .str)) = true
    rw [strs_plain ws]
    rfl
theorem strs_count (k : Str) : ∀ (ws : List Str), (ws.map PyData.str).countP (fun y => PyData.eqv y (.str k)) = ws.countP fun y => decide (y = k)
  | [] => rfl
  | x :: ws => by
    rw [List.map_cons, List.countP_cons, List.countP_cons, strs_count k ws]
    have e : PyData.eqv (.str x) (.str k) = decide (x = k) := by
      show (x == k) = decide (x = k)
      rw [Bool.eq_iff_iff]
      simp only [beq_iff_eq, decide_eq_true_eq]
    rw [e]
theorem mt_lcountS (hu : X.A.units + 1 < cLine) : MtR X "list.count" (rCntS X.K) := by
  intro pins s σ H x xs v us Q I rx rxs h
  obtain ⟨p, ys, ws, k, rfl, rfl, hs, hd, q⟩ := h
  cases rx
  obtain ⟨u, rfl, ru⟩ := rxs.one
  obtain ⟨its, rv, pl, hz⟩ := I.list hs
  obtain ⟨as, ra⟩ := Dp.readsAll I _ _ _ hd rv
  obtain ⟨bs, rb⟩ := Dp.reads I (.str k) (.str k) u (.str k) ru
  refine PySem.SeqAt.count_list_data (vs := its.toArray) (xs := ws.map .str) (d := .str k) pl.isList (by simpa using ra) rb (strs_plain ws) rfl (by simp [PyData.depth]; omega) ?_
  rw [strs_count]
  exact ⟨V.int ((ws.countP fun y => decide (y = k) : Nat) : Int), H, I.tok _, ⟨s.toks, rfl⟩, q⟩
theorem ve_count {k : Str} {ws : List Str} (hu : X.A.units + 1 < cLine) (ho : VE X σ Hk o (.dat (.list (ws.map .str)))) (he : VE X σ Hk e (.dat (.str k)))
    (hpe : PE X (.Call (.Attribute o "count" apos) [e] [] cpos) (tBM X.K "list" (rCntS X.K) (WE X o) (tCons (WE X e) tNil)) := by exact pe_bm PySem.F.plainAttrs_list PySem.F.slot_list_count PySem.F.type_list_count (DL.mt_lcountS (by assumption)) pe_w (pa_cons pe_w pa_nil)) :
    VE X σ Hk (.Call (.Attribute o "count" apos) [e] [] cpos) (.dat (.int ((ws.countP fun y => decide (y = k) : Nat) : Int))) :=
  ve_of hpe fun H s Q kk => ho H s _ fun v Hk1 H1 E1 i1 => by
    obtain ⟨p, xs, rfl, hq, hx⟩ := dp_lst i1
    refine ⟨.inl ⟨rfl, xs, SqL.of (E1.sub _ _ hq)⟩, ?_⟩
    refine (he.up E1.kk) H1 E1.sub _ fun u Hk2 H2 E2 i2 => ?_
    have e2 := dp_str i2
    subst e2
    exact ⟨p, xs, ws, k, rfl, rfl, SqL.of (E2.sub _ _ (E2.kk _ _ hq)), dqAll_dp _ _ ((hx.up E2.kk).up E2.sub), kk _ Hk2 H2 (E1.trans E2) (.int _)⟩
/-! ### for x, y in zip(a, b), a and b tuples -/
theorem xs_forZ {i j : Nat} {ds es : List PyData} {elts : List Expr} {kk : Nat} {tpos : Pos} (s : Same Hk H) (hm : X.mg "zip" = none) (ha : VE X σ Hk a (.dat (.tuple ds))) (hb : VE X σ Hk b (.dat (.tuple es))) (hl : ds.length = es.length)
    (hg : PG X (.Tuple elts kk tpos) (gTup X.K 2 (gCons (gName i) (gCons (gName j) gNil)))) (hc : X.calm = true) (hp : PassesOwn (model X.prog X.w) X.A X.env X.xe) (P : Nat → L2.St → Hp → Hp → Prop) (h0 : ∀ Hk2 H2, Ext M0 Hk H Hk2 H2 → P 0 σ Hk2 H2)
    (hs : ∀ n d e x y σ' Hk0 H0 H1, ds[n]? = some d → es[n]? = some e → Same Hk Hk0 → Same Hk0 H0 → P n σ' Hk0 H0 → Ext M0 Hk0 H0 Hk0 H1 → Dq X.K Hk0 x d → Dq X.K Hk0 y e →
      WSs X body { D with nx := fun σ3 H3 => ∃ Hk3, Same Hk0 Hk3 ∧ Same Hk3 H3 ∧ P (n + 1) σ3 Hk3 H3, ct := fun σ3 H3 => ∃ Hk3, Same Hk0 Hk3 ∧ Same Hk3 H3 ∧ P (n + 1) σ3 Hk3 H3, bk := WSs X rest D } ((σ'.set i (some x)).set j (some y)) H1)
    (hd : ∀ σ' Hk' H', Same Hk Hk' → Same Hk' H' → P ds.length σ' Hk' H' → WSs X rest D σ' H')
    (hgz : Gl X "zip" := by rfl) (hz : starEach [a, b] X.env = (false, eval a X.env) :: starEach [b] X.env := by rfl) (hz2 : starEach [b] X.env = (false, eval b X.env) :: starEach [] X.env := by rfl) (hpl : (backTo pos (starEach [b] X.env)).any (·.1) = false := by rfl)
    (hf : ∀ x, foldedSetIterable (.Call (.Name "zip" p) [a, b] [] pos) X.env x = pure x := by intro _; rfl) :
    WSs X (.For (.Tuple elts kk tpos) (.Call (.Name "zip" p) [a, b] [] pos) body [] cpos :: rest) D σ H := by
  refine wss_cons (ws (ps_for hp hc (RZ.pi_zipA hgz hm (pa_cons pe_w (pa_cons pe_w pa_nil hz2) hz) hz hpl) hg pss_w hf) (ha H s _ fun v Hk1 H1 E1 i1 => (hb.up E1.kk) H1 E1.sub _ fun u Hk2 H2 E2 i2 => ?_))
  obtain ⟨p1, xs, rfl, hp1, hx⟩ := dp_tup (i1.up E2.kk)
  obtain ⟨p2, ys, rfl, hp2, hy⟩ := dp_tup i2
  have E := E1.trans E2
  refine ⟨p1, p2, xs, ys, rfl, .inr ⟨sqt_same E2.sub hp1.sq, sqt_same E2.sub hp2.sq, ?_⟩⟩
  have lx := hx.len
  have ly := hy.len
  refine ⟨fun n m σ' H' => m = ds.length - n ∧ n ≤ ds.length ∧ ∃ Hk', Same Hk2 Hk' ∧ Same Hk' H' ∧ P n σ' Hk' H', ⟨_, rfl, Nat.zero_le _, Hk2, Same.refl _, E.sub, h0 Hk2 H2 E⟩, ?_⟩
  rintro n m σ' H' ⟨rfl, hn, Hk', k1, s1, p⟩
  by_cases hlt : n < ds.length
  · obtain ⟨d, hd'⟩ : ∃ d, ds[n]? = some d := ⟨ds[n], List.getElem?_eq_getElem hlt⟩
    obtain ⟨e', he'⟩ : ∃ d, es[n]? = some d := ⟨es[n]'(by omega), List.getElem?_eq_getElem (by omega)⟩
    obtain ⟨x, hx1, dx⟩ := (hx.up k1).at hd'
    obtain ⟨y, hy1, dy⟩ := (hy.up k1).at he'
    refine .inr ⟨⟨xs, ys, x, y, sqt_same (k1.trans s1) hp1.sq, sqt_same (k1.trans s1) hp2.sq, hx1, hy1⟩, fun σ3 H3 => ∃ Hk3, Same Hk' Hk3 ∧ Same Hk3 H3 ∧ P (n + 1) σ3 Hk3 H3, fun σ3 H3 ⟨Hk3, a1, a2, a3⟩ => ⟨ds.length - (n + 1), by omega, rfl, hlt, Hk3, k1.trans a1, a2, a3⟩, fun v H3 yl => ?_⟩
    obtain ⟨t, x', y', rfl, nt, rfl, f1, f2⟩ := yl
    have ex := (f1 xs (sqt_same (k1.trans s1) hp1.sq)).symm.trans hx1
    have ey := (f2 ys (sqt_same (k1.trans s1) hp2.sq)).symm.trans hy1
    cases ex
    cases ey
    refine ⟨t, [x, y], rfl, .inl (.inl upd_same), rfl, x, [y], rfl, y, [], rfl, rfl, ?_⟩
    exact hs n d e' x y σ' Hk' H' _ hd' he' (E.kk.trans k1) s1 p (Ext.allocM s1 nt) dx dy
  · have e : n = ds.length := by omega
    subst e
    exact .inl ⟨⟨xs, ys, sqt_same (k1.trans s1) hp1.sq, sqt_same (k1.trans s1) hp2.sq, .inl (by omega)⟩, hd σ' Hk' H' (E.kk.trans k1) s1 p⟩
end
end DL
namespace W
open PySem PySem.Spec PyProof.Rows L2 DL Tx Mi
def decV1 : PyData → Option (Str × Int)
  | .tuple [.str a, .int b] => some (a, b)
  | _ => none
theorem dV1 : ∀ a, decV1 (encV1 a) = some a := fun _ => rfl
def cntW (evs : Evs) (k : Str) : Int := (((evs.map (·.1)).countP fun y => decide (y = k) : Nat) : Int)
def costM (evs : Evs) : Int := cntW evs "late" * 1 + cntW evs "miss" * 2 + cntW evs "waste" * 3
section
variable {P : Program} {w : World} {K : PySem.W.Frag} {mg : Str → Option Value} {base : Heap}
abbrev nTurnCost : List Str := ["events", "weights", "words", "word", "place"]
theorem scTurnCost : FnScope nTurnCost ["events", "weights"] (defScope sTurnCost) := ⟨rfl, rfl, rfl, by decide +kernel, rfl, by decide +kernel, by decide +kernel⟩
def gTurnCost (as : List Sp1) (r : Sp1) : Prop := ∃ (evs : Evs), evs.length ≤ 1000 ∧ as = [.dat (.list (evs.map encV1)), .dat w123] ∧ r = .dat (.int (costM evs))
theorem ok_turnCost (E : Ev K mg) : FnOk P w K mg base CX0 1 E.turnCost.f E.turnCost.fd ["events", "weights"] (spD K gTurnCost) := by
  refine ok_of E.turnCost.d.F scTurnCost (fun as r h => by obtain ⟨_, _, rfl, _⟩ := h; rfl) fun cdv A outer s H Hk vs as r Q hr sm ia g q => ?_
  obtain ⟨evs, hl, rfl, rfl⟩ := g
  obtain ⟨v1, v2, rfl, i1, i2⟩ := ia2 ia
  have hu := hu_of hr
  have hu1 : (A.deeper (envOfC "turn_cost" (defScope sTurnCost) s.heap.objs.size E.turnCost.f cdv)).units + 1 < cLine := hu
  refine xs_setLc (i := 2) (own := [("word", 3), ("place", 4)]) (g := gTup K 2 (gCons (gName 3) (gCons (gName 4) gNil))) (ds := evs.map encV1) sm rfl scTurnCost.nd (vi_list (ve_v 0 rfl i1)) (fM decV1 fun x => .str x.1) (by rw [List.length_map]; omega) rfl rfl (sw_true rfl rfl rfl (by decide +kernel)) (blkOk_by (N := nTurnCost) (sc := defScope sTurnCost) (by decide +kernel))
    (fun _ _ _ _ _ => pg_tup rfl (pgs_cons (pg_name (i := 3) scTurnCost.nd rfl (Or.inl rfl)) (pgs_cons (pg_name (i := 4) scTurnCost.nd rfl (Or.inl rfl)) pgs_nil))) (fun i x v' Hk1 H1 hx k' s' dv' => ?_) fun v6 Hk4 H4 E4 d6 => ?_
  · obtain ⟨z, hz', rfl⟩ := map_at hx
    have dv2 : Dq K Hk1 v' (.tuple [.str z.1, .int z.2]) := dv'
    refine ⟨[some v1, some v2, none, some (.str z.1), some (.int z.2)], fun Q' h => g_tup2 dv2 s' fun u1 u2 d1 d2 => by rw [dp_str d1, dp_int d2]; exact h, rfl, fun s0 H0 C cl fp => ⟨.inl ⟨rfl, by rw [fM_at dV1]; rfl⟩, fun r hr' => ?_⟩⟩
    rw [fM_eq dV1 hr']
    exact ve_v 3 rfl (.str _)
  · rw [fM_all dV1] at d6
    have d6' : Is K Hk4 v6 (.dat (.list ((evs.map (·.1)).map .str))) := by
      rw [List.map_map]
      exact d6
    have i2' : Is K Hk4 v2 (.dat (.tuple [.int 1, .int 2, .int 3])) := i2.up E4.kk
    refine xs_ret E4.sub (ve_add (ve_add (ve_mul (ve_count hu1 (ve_v 2 rfl d6') ve_str) (ve_itT (ve_v 1 rfl i2') (ve_int (i := 0)) rfl) (.inr ⟨by decide, by decide⟩)) (ve_mul (ve_count hu1 (ve_v 2 rfl d6') ve_str) (ve_itT (ve_v 1 rfl i2') (ve_int (i := 1)) rfl) (.inr ⟨by decide, by decide⟩)))
      (ve_mul (ve_count hu1 (ve_v 2 rfl d6') ve_str) (ve_itT (ve_v 1 rfl i2') (ve_int (i := 2)) rfl) (.inr ⟨by decide, by decide⟩))) fun v7 Hk5 H5 E5 i7 => q v7 Hk5 H5 (E4.trans E5) i7

abbrev nBothB : List Str := ["house", "guessers", "states", "place", "weights", "found", "costs", "guesser", "state", "behind", "events"]
theorem scBothB : FnScope nBothB ["house", "guessers", "states", "place", "weights"] (defScope sBothBehind) := ⟨rfl, rfl, rfl, by decide +kernel, rfl, by decide +kernel, by decide +kernel⟩
def encP (s : Sta × Sta) : PyData := .tuple [s.1.enc, s.2.enc]
def gBothB (C : Addr) (as : List Sp1) (r : Sp1) : Prop := ∃ (h : Hs) (g o : Gs) (s : Sta × Sta) (p : Int) (m : Nat), h.ok ∧ g.ok 0 ∧ o.ok 0 ∧ SLen h s.1 ∧ SLen h s.2 ∧ Kf m g s.1.kn ∧ Kf m o s.2.kn ∧ m ≤ 900 ∧ as = [spHouse C h, .dat (.tuple [g.enc, o.enc]), .dat (encP s), .dat (.int p), .dat w123] ∧
  r = .dat (.tuple [encP ((gone h g s.1 p).1, (gone h o s.2 p).1), .int (costM (gone h g s.1 p).2 - costM (gone h o s.2 p).2)])
theorem ok_bothB (T : Tp K w mg) (E : Ev K mg) : FnOk P w K mg base CX0 7 E.bothB.f E.bothB.fd ["house", "guessers", "states", "place", "weights"] (spD K (gBothB E.cHouse)) := by
  refine ok_of E.bothB.d.F scBothB (fun as r h => by obtain ⟨_, _, _, _, _, _, _, _, _, _, _, _, _, _, rfl, _⟩ := h; rfl) fun cdv A outer s H Hk vs as r Q hr sm ia g q => ?_
  obtain ⟨h, g, o, st, p, m, ho, ok1, ok2, l1, l2, k1, k2, hm, rfl, rfl⟩ := g
  obtain ⟨vh, vg, vs', vp, vw, rfl, i1, i2, i3, i4, i5⟩ := ia5 ia
  have gl1 := gone_len ho ok1 (p := p) k1 l1
  have gl2 := gone_len ho ok2 (p := p) k2 l2
  refine xs_nl (i := 5) (fun lf nlf => ?_) scBothB.nd
  have nfk := sm.free nlf
  have E0 : Ext M0 Hk H Hk (upd H lf (.lst [])) := Ext.allocM sm nlf
  refine xs_nl (i := 6) (fun lc nlc => ?_) scBothB.nd
  have nck := E0.sub.free nlc
  have ne : lc ≠ lf := fun z => by rw [z, upd_same] at nlc; cases nlc
  have nlcH : H lc = none := by rw [upd_ne ne] at nlc; exact nlc
  have E1 : Ext M0 Hk H Hk (upd (upd H lf (.lst [])) lc (.lst [])) := E0.trans (Ext.allocM E0.sub nlc)
  -- the two of them
  let G : Nat → Gs := fun n => if n = 0 then g else o
  let S : Nat → Sta := fun n => if n = 0 then st.1 else st.2
  refine xs_forZ (i := 7) (j := 8) (ds := [g.enc, o.enc]) (es := [st.1.enc, st.2.enc]) E1.sub T.zip (ve_v 1 rfl i2) (ve_v 2 rfl i3) rfl (pg_tup rfl (pgs_cons (pg_name (i := 7) scBothB.nd rfl (.inl rfl)) (pgs_cons (pg_name (i := 8) scBothB.nd rfl (.inl rfl)) pgs_nil))) rfl PassesOwn.never
    (fun n σ' Hk' H' => ∃ o7 o8 o9 o10 wf wc, σ' = [some vh, some vg, some vs', some vp, some vw, some (.ref lf), some (.ref lc), o7, o8, o9, o10] ∧ Ext M0 Hk H Hk' H' ∧ Hk' lf = none ∧ Hk' lc = none ∧ H' lf = some (.lst wf) ∧ H' lc = some (.lst wc) ∧
      DqAll K Hk' wf ((List.range n).map fun n => (gone h (G n) (S n) p).1.enc) ∧ DqAll K Hk' wc ((List.range n).map fun n => PyData.int (costM (gone h (G n) (S n) p).2)))
    (fun Hk4 H4 E4 => ⟨none, none, none, none, [], [], rfl, E1.trans E4, E4.unk nfk (by rw [upd_ne ne.symm, upd_same]; exact fun z => by cases z), E4.unk nck (by rw [upd_same]; exact fun z => by cases z), E4.same _ _ (by rw [upd_ne ne.symm, upd_same]), E4.same _ _ upd_same, .nil, .nil⟩)
    (fun n d e x y σ' Hk0 H0 H1 hd he kk0 s0 hP EA dx dy => ?_) fun σ' Hk' H' kk s' hP => ?_
  · obtain ⟨o7, o8, o9, o10, wf, wc, rfl, EP, nf, nc, hf, hc, df, dc⟩ := hP
    have hn : n < 2 := (List.getElem?_eq_some_iff.mp hd).1
    have ed : d = (G n).enc := by
      rcases (show n = 0 ∨ n = 1 by omega) with rfl | rfl
      · exact (Option.some.inj hd).symm
      · exact (Option.some.inj hd).symm
    have ee : e = (S n).enc := by
      rcases (show n = 0 ∨ n = 1 by omega) with rfl | rfl
      · exact (Option.some.inj he).symm
      · exact (Option.some.inj he).symm
    subst ed ee
    have okn : (G n).ok 0 ∧ SLen h (S n) ∧ Kf m (G n) (S n).kn ∧ (gone h (G n) (S n) p).2.length ≤ 50 := by
      rcases (show n = 0 ∨ n = 1 by omega) with rfl | rfl
      · exact ⟨ok1, l1, k1, gl1.2.2⟩
      · exact ⟨ok2, l2, k2, gl2.2.2⟩
    have tf : H0 lf ≠ none := by rw [hf]; exact fun z => by cases z
    have tc : H0 lc ≠ none := by rw [hc]; exact fun z => by cases z
    refine xs_asg EA.sub (ve_f E.gone.d (ok_gone T E) hr (va_cons (ve_v 0 rfl (i1.up kk0)) (va_cons (ve_v 7 rfl (y := .dat (G n).enc) dx) (va_cons (ve_v 8 rfl (y := .dat (S n).enc) dy) (va_cons (ve_v 3 rfl (i4.up kk0)) va_nil)))) ⟨h, G n, S n, p, m, ho, okn.1, okn.2.1, okn.2.2.1, hm, rfl, rfl⟩)
      (pg_tup rfl (pgs_cons (pg_name (i := 9) scBothB.nd rfl (.inl rfl)) (pgs_cons (pg_name (i := 10) scBothB.nd rfl (.inl rfl)) pgs_nil))) fun v Hk6 H6 E6 dv6 => g_tup2 dv6 E6.sub fun v3 v4 d3 d4 => ?_
    have EB := EA.trans E6
    have hwf : wf.length ≤ 2 := by rw [df.len, List.length_map, List.length_range]; omega
    have hwc : wc.length ≤ 2 := by rw [dc.len, List.length_map, List.length_range]; omega
    refine xs_app E6.sub (ve_v 5 rfl rfl) (EB.same _ _ hf) (by omega) (ve_v 9 rfl (y := .dat (gone h (G n) (S n) p).1.enc) d3) fun v7 Hk7 H7 E7 i7 => ?_
    have EC := EB.trans E7
    have nf7 : Hk7 lf = none := EC.unk nf tf
    have nc7 : Hk7 lc = none := EC.unk nc tc
    have ED : Ext M0 Hk H Hk7 (upd H7 lf (.lst (wf ++ [v7]))) := (EP.trans EC).loc nlf nf7
    have hc7 : (upd H7 lf (.lst (wf ++ [v7]))) lc = some (.lst wc) := by rw [upd_ne ne]; exact EC.same _ _ hc
    refine xs_app ED.sub (ve_v 6 rfl rfl) hc7 (by omega) (ve_f E.turnCost.d (ok_turnCost E) (hr.mono (by decide)) (va_cons (ve_v 10 rfl (y := .dat (.list ((gone h (G n) (S n) p).2.map encV1))) (d4.up E7.kk)) (va_cons (ve_v 4 rfl ((i5.up kk0).up (E6.kk.trans E7.kk))) va_nil)) ⟨(gone h (G n) (S n) p).2, by omega, rfl, rfl⟩) fun v8 Hk8 H8 E8 i8 => wss_nil ?_
    have nf8 : Hk8 lf = none := E8.unk nf7 (by rw [upd_same]; exact fun z => by cases z)
    have nc8 : Hk8 lc = none := E8.unk nc7 (by rw [hc7]; exact fun z => by cases z)
    have EE : Ext M0 Hk H Hk8 (upd H8 lc (.lst (wc ++ [v8]))) := (ED.trans E8).loc nlcH nc8
    refine ⟨Hk8, EC.kk.trans E8.kk, EE.sub, _, _, _, _, wf ++ [v7], wc ++ [v8], rfl, EE, nf8, nc8, ?_, upd_same, ?_, ?_⟩
    · rw [upd_ne ne.symm]
      exact E8.same _ _ upd_same
    · rw [List.range_succ, List.map_append]
      exact (df.up (EC.kk.trans E8.kk)).app (.cons (Is.up (a := .dat _) i7 E8.kk) .nil)
    · rw [List.range_succ, List.map_append]
      exact (dc.up (EC.kk.trans E8.kk)).app (.cons i8 .nil)
  · obtain ⟨o7, o8, o9, o10, wf, wc, rfl, EP, nf, nc, hf, hc, df, dc⟩ := hP
    have ff := EP.fix nlf nf hf
    have kf : Same Hk' (upd Hk' lf (.lst wf)) := same_up nf
    have nc' : (upd Hk' lf (.lst wf)) lc = none := by rw [upd_ne ne]; exact nc
    have fc := ff.fix nlcH nc' hc
    have kc : Same (upd Hk' lf (.lst wf)) (upd (upd Hk' lf (.lst wf)) lc (.lst wc)) := same_up nc'
    have df' : Is K (upd (upd Hk' lf (.lst wf)) lc (.lst wc)) (.ref lf) (.dat (.list [(gone h g st.1 p).1.enc, (gone h o st.2 p).1.enc])) := .lst (kc _ _ upd_same) ((df.up kf).up kc)
    have dc' : Is K (upd (upd Hk' lf (.lst wf)) lc (.lst wc)) (.ref lc) (.dat (.list [.int (costM (gone h g st.1 p).2), .int (costM (gone h o st.2 p).2)])) := .lst upd_same ((dc.up kf).up kc)
    exact xs_ret fc.sub (ve_tup (ds := [encP ((gone h g st.1 p).1, (gone h o st.2 p).1), .int (costM (gone h g st.1 p).2 - costM (gone h o st.2 p).2)]) (va_cons (ve_tuple T.tuple (ve_v 5 rfl df')) (va_cons (ve_sub (ve_itL (ve_v 6 rfl dc') (ve_int (i := 0)) rfl) (ve_itL (ve_v 6 rfl dc') (ve_int (i := 1)) rfl)) va_nil))) fun v9 Hk9 H9 E9 i9 => q v9 Hk9 H9 (fc.trans E9) i9
end
end W
end
section
set_option Elab.async false
set_option linter.all false
set_option maxRecDepth 100000
set_option maxHeartbeats 4000000
/-! The data layer: dicts and lists in fields of an object. -/
namespace DL
open PySem PySem.Spec PyProof.Rows L2
theorem Ext.localS {M M' : Addr → Prop} {Hk H Hk2 H2 : Hp} (E : Ext M Hk H Hk2 H2) (n : ∀ a, M a → H a = none) : Ext M' Hk H Hk2 H2 :=
  ⟨E.kk, E.sub, fun x u _ q => E.keep x u (fun z => by rw [n x z] at q; cases q) q, E.new, E.there⟩
section
variable {X : Cx} {σ : L2.St} {Hk H : Hp} {e o b f : Expr} {x y : Sp1} {pos cpos apos pos' : Pos} {D : Ends} {rest : List Stmt}
/-! ### o.f as a target -/
def gFld (K : PySem.W.Frag) (to : TE) (f : Str) : TG := fun v σ H Q => to σ H fun x H1 => ∃ a C dx fs, x = .ref a ∧ H1 a = some (.ins C dx fs) ∧ Cls K C ∧ NoAttr K C f ∧ fs.length < 1000 ∧ Q σ (upd H1 a (.ins C dx (putF f v fs)))
theorem asgAttr {M : Model} {A : Around} {E : Value → Shared → Prop} {s : Shared} {env : Env} {o : Expr} {attr : Str} {pos : Pos} {v : Value} {Q : Unit → Shared → Prop}
    (h : wpAny M A (eval o env) (fun ov s2 => wpAny M A (setAttr ov attr v) (fun _ => Q ()) E s2) E s) : wpAny M A (assign (.Attribute o attr pos) env v) Q E s := fun Γ p hΓ => by
  simp only [assign_Attribute, Sem.wp_bind', Sem.wp_holding, Sem.wp_cmd_standAt, Sem.wp_release]
  exact Sem.wp_mono M Γ _ (fun ov _ s₂ h₂ => h₂ Γ _ hΓ) (fun _ _ _ h' => h') _ _ (h Γ p hΓ)
theorem pg_fld {f : Str} {to : TE} (ho : PE X o to) : PG X (.Attribute o f pos) (gFld X.K to f) := by
  refine ⟨fun pins s σ H v u Q I r h => ?_⟩
  refine asgAttr (thn (ho.run pins s σ H _ I h) fun ov s2 ⟨x, H2, I2, rx, a, C, dx, fs, ex, ea, c, n, l, q2⟩ => ?_)
  subst ex
  obtain rfl : ov = Value.ref a := rx
  exact setattr_ok I2 ea c n l r fun s3 I3 => ⟨σ, _, I3, q2⟩
/-- o.f = e, e by its run -/
theorem xs_fldW {p C dx : Addr} {fs : List (Str × V)} {fl : Str} (h : WE X e σ H fun v H1 => ∃ Hk1, Same Hk1 H1 ∧ VE X σ Hk1 o (.val (.ref p)) ∧ H1 p = some (.ins C dx fs) ∧ ∀ Hk2 H2, Ext M0 Hk1 H1 Hk2 H2 → WSs X rest D σ (upd H2 p (.ins C dx (putF fl v fs)))) (c : Cls X.K C) (n : NoAttr X.K C fl) (hl : fs.length < 1000)
    (hs : swapsWith e (some (.Attribute o fl apos)) pos.line X.env = pure false := by rfl) : WSs X (.Assign [.Attribute o fl apos] e pos :: rest) D σ H := by
  refine wss_cons fun pins s I => ?_
  have g : (sFld X.K (WE X o) (WE X e) fl) { D with nx := WSs X rest D } σ H := by
    have : ∀ {Q Q' : VK}, (∀ v H1, Q v H1 → Q' v H1) → WE X e σ H Q → WE X e σ H Q' := fun hq w pins s I => thn (w pins s I) fun v s1 ⟨z, H1, I1, r1, q1⟩ => ⟨z, H1, I1, r1, hq z H1 q1⟩
    refine this (fun v H1 ⟨Hk1, s1, ho, hp, k⟩ => ?_) h
    refine ho H1 s1 _ fun u Hk2 H2 E2 i2 => ?_
    have e2 : u = .ref p := i2
    subst e2
    exact ⟨p, C, dx, fs, rfl, E2.same _ _ hp, c, n, hl, k Hk2 H2 E2⟩
  exact (ps_fld pe_w pe_w hs).run pins s σ H _ I g
/-! ### d[k], l[i] as they stand -/
theorem ve_dgetV {d : Addr} {kvs : List (Key × V)} {q : Int} {v : V} (hu : X.A.units + 1 < cLine) (ho : VE X σ Hk o (.val (.ref d))) (hd : Hk d = some (.dK kvs)) (he : VE X σ Hk e (.dat (.int q))) (hv : valV kvs (.inl q) = some v) (hs : NoSl e := by intro _ _; rfl) : VE X σ Hk (.Subscript o e pos) (.val v) :=
  ve_of (pe_dget hu pe_w pe_w hs) fun H s Q k => ho H s _ fun w Hk1 H1 E1 i1 => (he.up E1.kk) H1 E1.sub _ fun y Hk2 H2 E2 i2 => by
    have e2 := dp_int i2
    subst e2
    exact ⟨d, v, i1, .inl ⟨kvs, .inl q, .inl ((E1.trans E2).same _ _ (s _ _ hd)), rfl, hv.symm⟩, k v Hk2 H2 (E1.trans E2) rfl⟩
theorem ve_ixLV {l : Addr} {xs : List V} {i : Int} {j : Nat} {v : V} (ho : VE X σ Hk o (.val (.ref l))) (hl : Hk l = some (.lst xs)) (he : VE X σ Hk e (.dat (.int i))) (hj : i = (j : Int)) (hv : xs[j]? = some v) (hs : PlainIx e := by exact fun _ _ => rfl) : VE X σ Hk (.Subscript o e pos) (.val v) :=
  ve_of (pe_ix ix_list pe_w pe_w hs) fun H s Q k => ho H s _ fun w Hk1 H1 E1 i1 => (he.up E1.kk) H1 E1.sub _ fun y Hk2 H2 E2 i2 => by
    have e2 := dp_int i2
    subst e2
    exact ⟨l, xs, i, v, i1, rfl, SqL.of ((E1.trans E2).same _ _ (s _ _ hl)), by rw [hj]; exact atI_nat hv, k v Hk2 H2 (E1.trans E2) rfl⟩
/-! ### d[k] = v, d.pop(k), l[i] = v -/
theorem xs_dputH {d : Addr} {kvs : List (Key × V)} {q : Int} (hu : X.A.units + 1 < cLine) (s : Same Hk H) (hv : VE X σ Hk e x) (ho : VE X σ Hk o (.val (.ref d))) (hi : VE X σ Hk b (.dat (.int q))) (hd : H d = some (.dK kvs)) (hz : kvs.length < 1000000)
    (k : ∀ v Hk2 H2, Ext M0 Hk H Hk2 H2 → Is X.K Hk2 v x → WSs X rest D σ (upd H2 d (.dK (putK kvs (.inl q) v)))) (hs : swapsWith e (some (.Subscript o b pos')) pos.line X.env = pure false := by rfl) : WSs X (.Assign [.Subscript o b pos'] e pos :: rest) D σ H :=
  wss_cons (ws (ps_dput hu pe_w pe_w pe_w hs) (hv H s _ fun v Hk1 H1 E1 i1 => (ho.up E1.kk) H1 E1.sub _ fun o' Hk2 H2 E2 i2 => ((hi.up E1.kk).up E2.kk) H2 E2.sub _ fun y Hk3 H3 E3 i3 => by
    have e := dp_int i3
    subst e
    have E := (E1.trans E2).trans E3
    exact ⟨d, _, i2, DPut.k (k := .inl q) (E.same _ _ hd) (Nat.lt_of_lt_of_le hz (by rw [sizeLine_eq]; decide)), k v Hk3 H3 E ((i1.up E2.kk).up E3.kk)⟩))
theorem xs_dpop {d : Addr} {kvs : List (Key × V)} {q : Int} {v : V} (s : Same Hk H) (ho : VE X σ Hk o (.val (.ref d))) (hi : VE X σ Hk e (.dat (.int q))) (hd : H d = some (.dK kvs)) (hv : valV kvs (.inl q) = some v)
    (k : ∀ Hk2 H2, Ext M0 Hk H Hk2 H2 → WSs X rest D σ (upd H2 d (.dK (dropK kvs (.inl q))))) (m : L2.M1 X o "pop" apos e cpos := by exact ⟨rfl, rfl, rfl, rfl⟩) (hs : swapsWith (.Call (.Attribute o "pop" apos) [e] [] cpos) none pos.line X.env = pure false := by rfl) : WSs X (.Expr (.Call (.Attribute o "pop" apos) [e] [] cpos) pos :: rest) D σ H :=
  wss_cons (ws (ps_expr (pe_dpop1 pe_w pe_w m) hs) (ho H s _ fun o' Hk1 H1 E1 i1 => ⟨d, i1, .inl ⟨kvs, .inl (E1.same _ _ hd)⟩, (hi.up E1.kk) H1 E1.sub _ fun y Hk2 H2 E2 i2 => by
    have e := dp_int i2
    subst e
    exact ⟨kvs, .inl q, v, (E1.trans E2).same _ _ hd, rfl, hv, k Hk2 H2 (E1.trans E2)⟩⟩))
theorem xs_lput {l : Addr} {xs : List V} {i : Int} {j : Nat} (s : Same Hk H) (hv : VE X σ Hk e x) (ho : VE X σ Hk o (.val (.ref l))) (hi : VE X σ Hk b (.dat (.int i))) (hl : H l = some (.lst xs)) (hj : i = (j : Int)) (hjl : j < xs.length)
    (k : ∀ v Hk2 H2, Ext M0 Hk H Hk2 H2 → Is X.K Hk2 v x → WSs X rest D σ (upd H2 l (.lst (xs.set j v))))
    (hs : swapsWithSole [.Subscript o b pos'] e pos.line X.env = pure false := by rfl) (hw : swappedStores [.Subscript o b pos'] e X.env = pure none := by rfl) (h1 : (assignEach [.Subscript o b pos'] X.env).map (·.2) = [assign (.Subscript o b pos') X.env] := by rfl)
    (hg : PG X (.Subscript o b pos') (gSub (WE X o) (WE X b) rSetL) := by exact pg_sub pe_w pe_w set_list) :
    WSs X (.Assign [.Subscript o b pos'] e pos :: rest) D σ H :=
  wss_cons (ws (ps_asg pe_w hg hs hw h1) (hv H s _ fun v Hk1 H1 E1 i1 => (ho.up E1.kk) H1 E1.sub _ fun o' Hk2 H2 E2 i2 => ((hi.up E1.kk).up E2.kk) H2 E2.sub _ fun y Hk3 H3 E3 i3 => by
    have e := dp_int i3
    subst e
    have E := (E1.trans E2).trans E3
    refine ⟨l, xs, i, j, i2, rfl, E.same _ _ hl, ?_, k v Hk3 H3 E ((i1.up E2.kk).up E3.kk)⟩
    rw [hj]
    unfold ixN
    rw [if_pos (Int.natCast_nonneg j), if_pos (by omega)]
    simp))
end
theorem valV_drop (kvs : List (Key × V)) (k j : Key) : valV (dropK kvs k) j = if j = k then none else valV kvs j := by
  induction kvs with
  | nil => unfold dropK; simp [valV_nil]
  | cons p r ih =>
    by_cases e : p.1 = k
    · rw [dropK_pos e, ih]
      by_cases c : j = k
      · rw [if_pos c, if_pos c]
      · rw [if_neg c, if_neg c, valV_neg (fun z => c (by rw [← z]; exact e))]
    · rw [dropK_neg e]
      by_cases c : p.1 = j
      · rw [valV_pos c, valV_pos c, if_neg (fun z => e (c.trans z))]
      · rw [valV_neg c, valV_neg c, ih]
end DL
end
section
set_option Elab.async false
set_option linter.all false
set_option maxRecDepth 100000
set_option maxHeartbeats 4000000
/-! do_deed -/
namespace W
open PySem PySem.Spec PyProof.Rows L2 DL Tx Mi Ml
structure Ra where
  x : Addr
  dx : Addr
  c : Addr
  d : Addr
  a : Addr
  r : Addr
def Ra.M (R : Ra) : Addr → Prop := fun q => q = R.x ∨ q = R.c ∨ q = R.d ∨ q = R.a ∨ q = R.r
def Ra.M4 (R : Ra) : Addr → Prop := fun q => q = R.c ∨ q = R.d ∨ q = R.a ∨ q = R.r
structure Ra.ne (R : Ra) : Prop where
  cx : R.c ≠ R.x
  dx : R.d ≠ R.x
  ax : R.a ≠ R.x
  rx : R.r ≠ R.x
  cd : R.c ≠ R.d
  ca : R.c ≠ R.a
  cr : R.c ≠ R.r
  da : R.d ≠ R.a
  dr : R.d ≠ R.r
  ar : R.a ≠ R.r
def runFs (vh vg : V) (R : Ra) (vs : V) : List (Str × V) := [("house", vh), ("guesser", vg), ("cells", .ref R.c), ("lies", .ref R.d), ("answers", .ref R.a), ("rows", .ref R.r), ("state", vs)]
def encRow (turn : Int) (e : Str × Int) : PyData := .tuple [.int turn, .str e.1, .int e.2]
/-- what a run has besides itself -/
structure RunB (K : PySem.W.Frag) (R : Ra) (n : Int) (Hk H : Hp) (L : Int → Prop) (rows : List PyData) (t : Nat) : Prop where
  nc : Hk R.c = none
  nd : Hk R.d = none
  na : Hk R.a = none
  nr : Hk R.r = none
  fc : ∃ cs, H R.c = some (.lst cs) ∧ (cs.length : Int) = n
  fd : ∃ kvs, H R.d = some (.dK kvs) ∧ kvs.length ≤ t ∧ ∀ p, (valV kvs (.inl p)).isSome = true ↔ L p
  fa : ∃ as, H R.a = some (.lst as) ∧ as.length ≤ t
  fr : ∃ rs, H R.r = some (.lst rs) ∧ DqAll K Hk rs rows
section
variable {K : PySem.W.Frag} {R : Ra} {n : Int} {Hk H Hk2 H2 : Hp} {L L' : Int → Prop} {rows : List PyData} {t t' : Nat}
theorem some_ne {α : Type} {o : Option α} {x : α} (h : o = some x) : o ≠ none := by rw [h]; exact fun z => nomatch z
theorem RunB.ev (b : RunB K R n Hk H L rows t) (E : Ext M0 Hk H Hk2 H2) : RunB K R n Hk2 H2 L rows t := by
  obtain ⟨cs, h1, h2⟩ := b.fc
  obtain ⟨kvs, h3, h4⟩ := b.fd
  obtain ⟨as, h5, h6⟩ := b.fa
  obtain ⟨rs, h7, h8⟩ := b.fr
  exact ⟨E.unk b.nc (some_ne h1), E.unk b.nd (some_ne h3), E.unk b.na (some_ne h5), E.unk b.nr (some_ne h7), ⟨cs, E.same _ _ h1, h2⟩, ⟨kvs, E.same _ _ h3, h4⟩, ⟨as, E.same _ _ h5, h6⟩, ⟨rs, E.same _ _ h7, h8.up E.kk⟩⟩
/-- more is known, elsewhere -/
theorem RunB.upk (b : RunB K R n Hk H L rows t) (k : Same Hk Hk2) (c : Hk2 R.c = none) (d : Hk2 R.d = none) (a : Hk2 R.a = none) (r : Hk2 R.r = none) : RunB K R n Hk2 H L rows t :=
  ⟨c, d, a, r, b.fc, b.fd, b.fa, let ⟨rs, h7, h8⟩ := b.fr; ⟨rs, h7, h8.up k⟩⟩
theorem RunB.atx {o : HO} (b : RunB K R n Hk H L rows t) (ne : R.ne) : RunB K R n Hk (upd H R.x o) L rows t :=
  ⟨b.nc, b.nd, b.na, b.nr, by rw [upd_ne ne.cx]; exact b.fc, by rw [upd_ne ne.dx]; exact b.fd, by rw [upd_ne ne.ax]; exact b.fa, by rw [upd_ne ne.rx]; exact b.fr⟩
theorem RunB.row {rs : List V} {v : V} {e : PyData} (b : RunB K R n Hk H L rows t) (ne : R.ne) (h : DqAll K Hk rs rows) (hv : Dq K Hk v e) : RunB K R n Hk (upd H R.r (.lst (rs ++ [v]))) L (rows ++ [e]) t :=
  ⟨b.nc, b.nd, b.na, b.nr, by rw [upd_ne ne.cr]; exact b.fc, by rw [upd_ne ne.dr]; exact b.fd, by rw [upd_ne ne.ar]; exact b.fa, ⟨_, upd_same, h.app (.cons hv .nil)⟩⟩
theorem RunB.lie {kvs : List (Key × V)} (b : RunB K R n Hk H L rows t) (ne : R.ne) (le : t ≤ t') (hl : kvs.length ≤ t') (h : ∀ p, (valV kvs (.inl p)).isSome = true ↔ L' p) : RunB K R n Hk (upd H R.d (.dK kvs)) L' rows t' :=
  ⟨b.nc, b.nd, b.na, b.nr, by rw [upd_ne ne.cd]; exact b.fc, ⟨kvs, upd_same, hl, h⟩, by rw [upd_ne ne.da.symm]; exact let ⟨as, h1, h2⟩ := b.fa; ⟨as, h1, Nat.le_trans h2 le⟩, by rw [upd_ne ne.dr.symm]; exact b.fr⟩
theorem RunB.ans {as : List V} (b : RunB K R n Hk H L rows t) (ne : R.ne) (le : t ≤ t') (hl : as.length ≤ t') : RunB K R n Hk (upd H R.a (.lst as)) L rows t' :=
  ⟨b.nc, b.nd, b.na, b.nr, by rw [upd_ne ne.ca]; exact b.fc, by rw [upd_ne ne.da]; exact let ⟨kvs, h1, h2, h3⟩ := b.fd; ⟨kvs, h1, Nat.le_trans h2 le, h3⟩, ⟨as, upd_same, hl⟩, by rw [upd_ne ne.ar.symm]; exact b.fr⟩
theorem RunB.cell {cs : List V} (b : RunB K R n Hk H L rows t) (ne : R.ne) (hl : (cs.length : Int) = n) : RunB K R n Hk (upd H R.c (.lst cs)) L rows t :=
  ⟨b.nc, b.nd, b.na, b.nr, ⟨cs, upd_same, hl⟩, by rw [upd_ne ne.cd.symm]; exact b.fd, by rw [upd_ne ne.ca.symm]; exact b.fa, by rw [upd_ne ne.cr.symm]; exact b.fr⟩
theorem RunB.cong (b : RunB K R n Hk H L rows t) (c : ∀ p, L p ↔ L' p) (le : t ≤ t') : RunB K R n Hk H L' rows t' :=
  ⟨b.nc, b.nd, b.na, b.nr, b.fc, let ⟨kvs, h1, h2, h3⟩ := b.fd; ⟨kvs, h1, Nat.le_trans h2 le, fun p => (h3 p).trans (c p)⟩, let ⟨as, h1, h2⟩ := b.fa; ⟨as, h1, Nat.le_trans h2 le⟩, b.fr⟩
theorem same_both {x : Addr} {o : HO} (s : Same Hk H) (n : Hk x = none) : Same (upd Hk x o) (upd H x o) := fun y u q => by
  by_cases z : y = x
  · rw [z, upd_same] at q ⊢; exact q
  · rw [upd_ne z] at q ⊢; exact s _ _ q
end
/-- what do_deed is handed -/
structure DeedIn (K : PySem.W.Frag) (C CH : Addr) (R : Ra) (h : Hs) (g : Gs) (s : Sta) (rows : List PyData) (t m : Nat) (Hk H : Hp) (vh vg vst : V) : Prop where
  sm : Same Hk H
  fx : H R.x = some (.ins C R.dx (runFs vh vg R vst))
  nx : Hk R.x = none
  b : RunB K R h.places Hk H (fun q => q ∈ pS s.shelf) rows t
  ih : Is K Hk vh (spHouse CH h)
  ig : Is K Hk vg (.dat g.enc)
  is : Is K Hk vst (.dat s.enc)
  so : SOk h s
  sl : SLen h s
  kf : Kf m g s.kn
def spDeed (K : PySem.W.Frag) (C CH : Addr) : List V → Hp → VK → Prop := fun vs H Q => ∃ (Hk : Hp) (R : Ra) (h : Hs) (g : Gs) (s : Sta) (rows : List PyData) (t m : Nat) (turn : Int) (d : Dd) (vh vg vst vt vd : V), vs = [.ref R.x, vt, vd] ∧ R.ne ∧ DeedIn K C CH R h g s rows t m Hk H vh vg vst ∧ h.ok ∧ g.ok 0 ∧ m ≤ 900 ∧ t ≤ 50000 ∧ rows.length ≤ 50000 ∧
  Is K Hk vt (.dat (.int turn)) ∧ Is K Hk vd (.dat d.enc) ∧ d.ok h.places ∧
  ∀ Hk2 H2 vst2, Ext R.M Hk H Hk2 H2 → DeedIn K C CH R h g (gone h g s d.p).1 (rows ++ (gone h g s d.p).2.map (encRow turn)) (t + 60) (m + 1) Hk2 H2 vh vg vst2 → Q .non H2
def Dd.word : Dd → Str
  | .rd _ => "read"
  | .wr _ _ => "write"
section
variable {P : Program} {w : World} {K : PySem.W.Frag} {mg : Str → Option Value} {base : Heap}
abbrev nDeed : List Str := ["self", "turn", "deed", "events", "word", "place"]
theorem scDeed : FnScope nDeed ["self", "turn", "deed"] (defScope sDoDeed) := ⟨rfl, rfl, rfl, by decide +kernel, rfl, by decide +kernel, by decide +kernel⟩
theorem ok_deed (T : Tp K w mg) (E : Ev K mg) : FnOk P w K mg base CX0 7 E.deed.f E.deed.fd ["self", "turn", "deed"] (fun vs H Q _ => spDeed K E.cRun E.cHouse vs H Q) := by
  refine ok_gen E.deed.F scDeed (fun vs H Q h => by obtain ⟨_, _, _, _, _, _, _, _, _, _, _, _, _, _, _, rfl, _⟩ := h; rfl) fun cdv A outer s H vs Q hr g => ?_
  obtain ⟨Hk, R, h, g, st, rows, t, m, turn, d, vh, vg, vst, vt, vd, rfl, ne, D, ho, ok, hm, ht, hrl, it, id, dok, q⟩ := g
  have hu : (A.deeper (envOfC "Run.do_deed" (defScope sDoDeed) s.heap.objs.size E.deed.f cdv)).units + 1 < cLine := hu_of hr
  have c := E.run.c
  have na : ∀ f ∈ runF, NoAttr K E.cRun f := E.run.na
  obtain ⟨dds, hde, hd0, hd1⟩ : ∃ ds, d.enc = .tuple ds ∧ ds[0]? = some (.str (Dd.word d)) ∧ ds[1]? = some (.int d.p) := by
    cases d <;> exact ⟨_, rfl, rfl, rfl⟩
  have dat := dok.at
  have go := gone_ok (g := g) dat.1 dat.2 D.so
  have gl := gone_len ho ok (p := d.p) D.kf D.sl
  -- itself known for a while
  have sq : Same (upd Hk R.x (.ins E.cRun R.dx (runFs vh vg R vst))) H := same_know D.sm D.fx
  have ku : Same Hk (upd Hk R.x (.ins E.cRun R.dx (runFs vh vg R vst))) := same_up D.nx
  have fu : (upd Hk R.x (.ins E.cRun R.dx (runFs vh vg R vst))) R.x = some (.ins E.cRun R.dx (runFs vh vg R vst)) := upd_same
  have idt : Is K (upd Hk R.x (.ins E.cRun R.dx (runFs vh vg R vst))) vd (.dat (.tuple dds)) := by rw [← hde]; exact id.up ku
  refine xs_asg sq (ve_f E.gone.d (ok_gone T E) hr (va_cons (ve_fld (ve_v 0 rfl (y := .val (.ref R.x)) rfl) fu c (na _ (by simp)) rfl (D.ih.up ku)) (va_cons (ve_fld (ve_v 0 rfl (y := .val (.ref R.x)) rfl) fu c (na _ (by simp)) rfl (D.ig.up ku)) (va_cons (ve_fld (ve_v 0 rfl (y := .val (.ref R.x)) rfl) fu c (na _ (by simp)) rfl (D.is.up ku))
    (va_cons (ve_itT (ve_v 2 rfl idt) (ve_int (i := 1)) hd1) va_nil)))) ⟨h, g, st, d.p, m, ho, ok, D.sl, D.kf, hm, rfl, rfl⟩) (pg_tup rfl (pgs_cons (pg_fld pe_w) (pgs_cons (pg_name (i := 3) scDeed.nd rfl (.inl rfl)) pgs_nil))) fun v Hk1 H1 E1 dv => ?_
  obtain ⟨pa, xs, rfl, hp, hx⟩ := dp_tup dv
  obtain _ | ⟨x1, _ | ⟨x2, _ | _⟩⟩ := hx
  rename_i v1 v2
  refine ⟨pa, _, rfl, sqt_same E1.sub hp.sq, rfl, v1, [v2], rfl, ?_⟩
  refine (ve_v (X := (cxOf CX0 P w K mg base nDeed "Run.do_deed" (defScope sDoDeed) E.deed.f cdv A outer s H E0).nox) 0 rfl (y := .val (.ref R.x)) rfl) H1 E1.sub _ fun u Hk2 H2 E2 i2 => ⟨R.x, E.cRun, R.dx, runFs vh vg R vst, i2, E2.same _ _ (E1.same _ _ D.fx), c, na _ (by simp), by simp [runFs], v2, [], rfl, rfl, ?_⟩
  have E12 := E1.trans E2
  have K2 : Ext M0 Hk H (drop Hk2 R.x) H2 := E12.know2 D.nx D.fx
  have fx2 := E12.kk _ _ fu
  have ef : putF "state" v1 (runFs vh vg R vst) = runFs vh vg R v1 := rfl
  rw [ef]
  have sB : Same (drop Hk2 R.x) H2 := K2.sub
  have dB : (drop Hk2 R.x) R.x = none := drop_at
  have dv1 : Dq K (drop Hk2 R.x) v1 (gone h g st d.p).1.enc := dq_drop fx2 noDat_ins _ _ (x1.up E2.kk)
  have dv2 : Dq K (drop Hk2 R.x) v2 (.list ((gone h g st d.p).2.map encV1)) := dq_drop fx2 noDat_ins _ _ (x2.up E2.kk)
  have b2 := D.b.ev K2
  generalize hB : drop Hk2 R.x = B at K2 sB dB dv1 dv2 b2
  have s3 : Same (upd B R.x (.ins E.cRun R.dx (runFs vh vg R v1))) (upd H2 R.x (.ins E.cRun R.dx (runFs vh vg R v1))) := same_both sB dB
  have E3 : Ext R.M Hk H B (upd H2 R.x (.ins E.cRun R.dx (runFs vh vg R v1))) := K2.pure.mut (Or.inl rfl) dB
  have f3 : (upd H2 R.x (.ins E.cRun R.dx (runFs vh vg R v1))) R.x = some (.ins E.cRun R.dx (runFs vh vg R v1)) := upd_same
  have f3k : (upd B R.x (.ins E.cRun R.dx (runFs vh vg R v1))) R.x = some (.ins E.cRun R.dx (runFs vh vg R v1)) := upd_same
  have kB : Same B (upd B R.x (.ins E.cRun R.dx (runFs vh vg R v1))) := same_up dB
  have b3 := (b2.atx (o := .ins E.cRun R.dx (runFs vh vg R v1)) ne).upk kB (by rw [upd_ne ne.cx]; exact b2.nc) (by rw [upd_ne ne.dx]; exact b2.nd) (by rw [upd_ne ne.ax]; exact b2.na) (by rw [upd_ne ne.rx]; exact b2.nr)
  have itx := (it.up K2.kk).up kB
  have idx : Is K (upd B R.x (.ins E.cRun R.dx (runFs vh vg R v1))) vd (.dat (.tuple dds)) := by rw [← hde]; exact (id.up K2.kk).up kB
  generalize hX : upd B R.x (.ins E.cRun R.dx (runFs vh vg R v1)) = Hx at s3 f3k kB b3 itx idx
  generalize hH3 : upd H2 R.x (.ins E.cRun R.dx (runFs vh vg R v1)) = H3 at s3 E3 f3 b3
  generalize hev : (gone h g st d.p).2 = evs at dv2 go gl
  rw [hev] at q
  -- the events
  refine xs_for s3 (vi_list (ve_v 3 rfl (y := .dat (.list (evs.map encV1))) (dv2.up kB))) (pg_tup rfl (pgs_cons (pg_name (i := 4) scDeed.nd rfl (.inl rfl)) (pgs_cons (pg_name (i := 5) scDeed.nd rfl (.inl rfl)) pgs_nil))) rfl PassesOwn.never
    (fun i σ' Hk' H' => ∃ o4 o5 L, σ' = [some (.ref R.x), some vt, some vd, some v2, o4, o5] ∧ Ext R.M4 Hx H3 Hk' H' ∧ RunB K R h.places Hk' H' L (rows ++ (evs.take i).map (encRow turn)) (t + i) ∧ Lies h.places L (evs.drop i) (fun q => q ∈ pS (gone h g st d.p).1.shelf))
    (fun Hk4 H4 E4 => ⟨none, none, _, rfl, E4.pure, by rw [List.take_zero, List.map_nil, List.append_nil, Nat.add_zero]; exact b3.ev E4, go.2.2⟩) (fun i dd v σ' Hk0 H0 Hk' H' hd' kk0 s0 hP E5 dv => ?_) fun σ' Hk' H' kk s' hP => ?_
  · obtain ⟨o4, o5, L, rfl, EP, b, li⟩ := hP
    obtain ⟨x, hx, rfl⟩ := map_at hd'
    have hi : i < evs.length := (List.getElem?_eq_some_iff.mp hx).1
    have hdr : evs.drop i = x :: evs.drop (i + 1) := by
      rw [List.drop_eq_getElem_cons hi]
      congr 1
      exact (List.getElem?_eq_some_iff.mp hx).2
    rw [hdr] at li
    refine g_tup2 (d1 := .str x.1) (d2 := .int x.2) dv E5.sub fun u1 u2 e1 e2 => ?_
    have bA := b.ev E5
    obtain ⟨rs, hrs, drs⟩ := bA.fr
    have kA := kk0.trans E5.kk
    have hlr : rs.length < 1000000 := by
      rw [drs.len]
      simp only [List.length_append, List.length_map, List.length_take]
      omega
    refine xs_app E5.sub (ve_fld (ve_v 0 rfl (y := .val (.ref R.x)) rfl) (kA _ _ f3k) c (na _ (by simp)) rfl rfl) hrs hlr (ve_tup (ds := [.int turn, .str x.1, .int x.2]) (va_cons (ve_v 1 rfl (itx.up kA)) (va_cons (ve_v 4 rfl (y := .dat (.str x.1)) e1) (va_cons (ve_v 5 rfl (y := .dat (.int x.2)) e2) va_nil)))) fun v6 Hk6 H6 E6 i6 => ?_
    have bB := (bA.ev E6).row ne (drs.up E6.kk) i6
    have k6 := kA.trans E6.kk
    have EA : Ext R.M4 Hx H3 Hk6 (upd H6 R.r (.lst (rs ++ [v6]))) := ((EP.trans E5.pure).trans E6.pure).mut (Or.inr (Or.inr (Or.inr rfl))) bB.nr
    have k06 : Same Hk0 Hk6 := E5.kk.trans E6.kk
    have f6k : Hk6 R.x = some (.ins E.cRun R.dx (runFs vh vg R v1)) := k6 _ _ f3k
    generalize upd H6 R.r (.lst (rs ++ [v6])) = HB at bB EA
    have er : rows ++ (evs.take (i + 1)).map (encRow turn) = rows ++ (evs.take i).map (encRow turn) ++ [encRow turn x] := by rw [take_snoc hx, List.map_append, List.append_assoc]; rfl
    have u1e := dp_str e1
    have u2e := dp_int e2
    subst u1e u2e
    obtain ⟨wx, px⟩ := x
    cases li with
    | out hw hL hr' =>
      refine xs_ifT EA.sub (VT.is (vt_c (ve_v 4 rfl (y := .dat (.str wx)) (.str _)) (ve_tup (ds := ([("leave" : Str), ("waste" : Str)]).map .str) (va_cons ve_str (va_cons ve_str va_nil))) cd_inTS) (decide_eq_true (by simpa using hw))) fun Hk7 H7 E7 => ?_
      have bC := bB.ev E7
      obtain ⟨kvs, hkv, hlk, hmk⟩ := bC.fd
      obtain ⟨vv, hvv⟩ := Option.isSome_iff_exists.mp ((hmk px).mpr hL)
      refine xs_dpop E7.sub (ve_fld (ve_v 0 rfl (y := .val (.ref R.x)) rfl) (E7.kk _ _ f6k) c (na _ (by simp)) rfl rfl) (ve_v 5 rfl (y := .dat (.int px)) (.int _)) hkv hvv fun Hk8 H8 E8 => wss_nil (wss_nil ?_)
      have bD := bC.ev E8
      have bE := bD.lie (L' := fun q => L q ∧ q ≠ px) (t' := t + (i + 1)) (kvs := dropK kvs (.inl px)) ne (by omega) (by have := dropK_le kvs (.inl px); omega) fun p => by
        rw [valV_drop]
        by_cases e : p = px
        · subst e; simp
        · rw [if_neg (fun z => e (Sum.inl.inj z)), hmk p]
          exact ⟨fun z => ⟨z, e⟩, fun z => z.1⟩
      have EC : Ext R.M4 Hx H3 Hk8 (upd H8 R.d (.dK (dropK kvs (.inl px)))) := ((EA.trans E7.pure).trans E8.pure).mut (Or.inr (Or.inl rfl)) bD.nd
      refine ⟨Hk8, k06.trans (E7.kk.trans E8.kk), EC.sub, _, _, _, rfl, EC, ?_, hr'⟩
      rw [er]
      exact bE
    | inn hw h0 h1 hr' =>
      refine xs_ifF EA.sub (VT.is (vt_c (ve_v 4 rfl (y := .dat (.str wx)) (.str _)) (ve_tup (ds := ([("leave" : Str), ("waste" : Str)]).map .str) (va_cons ve_str (va_cons ve_str va_nil))) cd_inTS) (decide_eq_false (by rcases hw with rfl | rfl | rfl <;> decide))) fun Hk7 H7 E7 => ?_
      refine xs_ifT E7.sub (VT.is (vt_c (ve_v 4 rfl (y := .dat (.str wx)) (.str _)) (ve_tup (ds := ([("come" : Str), ("late" : Str), ("miss" : Str)]).map .str) (va_cons ve_str (va_cons ve_str (va_cons ve_str va_nil)))) cd_inTS) (decide_eq_true (by simpa using hw))) fun Hk8 H8 E8 => ?_
      have E78 := E7.trans E8
      have bC := bB.ev E78
      obtain ⟨kvs, hkv, hlk, hmk⟩ := bC.fd
      obtain ⟨cs, hcs, hlc⟩ := bC.fc
      have f8k := E78.kk _ _ f6k
      have kc : Same Hk8 (upd Hk8 R.c (.lst cs)) := same_up bC.nc
      have sc : Same (upd Hk8 R.c (.lst cs)) H8 := same_know E8.sub hcs
      obtain ⟨j, hj⟩ : ∃ j : Nat, px = (j : Int) := ⟨px.toNat, by omega⟩
      obtain ⟨cv, hcv⟩ : ∃ cv, cs[j]? = some cv := ⟨cs[j]'(by omega), List.getElem?_eq_getElem (by omega)⟩
      refine xs_dputH hu sc (ve_ixLV (ve_fld (ve_v 0 rfl (y := .val (.ref R.x)) rfl) (kc _ _ f8k) c (na _ (by simp)) rfl rfl) upd_same (ve_v 5 rfl (y := .dat (.int px)) (.int _)) hj hcv) (ve_fld (ve_v 0 rfl (y := .val (.ref R.x)) rfl) (kc _ _ f8k) c (na _ (by simp)) rfl rfl) (ve_v 5 rfl (y := .dat (.int px)) (.int _)) hkv (by omega) fun v9 Hk9 H9 E9 i9 => wss_nil (wss_nil (wss_nil ?_))
      have K9 : Ext M0 Hk8 H8 (drop Hk9 R.c) H9 := E9.know2 bC.nc hcs
      have bD := bC.ev K9
      have bE := bD.lie (L' := fun q => L q ∨ q = px) (t' := t + (i + 1)) (kvs := putK kvs (.inl px) v9) ne (by omega) (by have := length_putK kvs (.inl px) v9; omega) fun p => by
        rw [valV_put]
        by_cases e : p = px
        · subst e; simp
        · rw [if_neg (fun z => e (Sum.inl.inj z)), hmk p]
          exact ⟨Or.inl, fun z => z.elim (fun y => y) (fun y => absurd y e)⟩
      have EC : Ext R.M4 Hx H3 (drop Hk9 R.c) (upd H9 R.d (.dK (putK kvs (.inl px) v9))) := ((EA.trans E78.pure).trans K9.pure).mut (Or.inr (Or.inl rfl)) bD.nd
      refine ⟨drop Hk9 R.c, k06.trans (E78.kk.trans K9.kk), EC.sub, _, _, _, rfl, EC, ?_, hr'⟩
      rw [er]
      exact bE
    | stay hw hr' =>
      refine xs_ifF EA.sub (VT.is (vt_c (ve_v 4 rfl (y := .dat (.str wx)) (.str _)) (ve_tup (ds := ([("leave" : Str), ("waste" : Str)]).map .str) (va_cons ve_str (va_cons ve_str va_nil))) cd_inTS) (decide_eq_false (by rcases hw with rfl | rfl | rfl <;> decide))) fun Hk7 H7 E7 => ?_
      refine xs_ifN E7.sub (VT.is (vt_c (ve_v 4 rfl (y := .dat (.str wx)) (.str _)) (ve_tup (ds := ([("come" : Str), ("late" : Str), ("miss" : Str)]).map .str) (va_cons ve_str (va_cons ve_str (va_cons ve_str va_nil)))) cd_inTS) (decide_eq_false (by rcases hw with rfl | rfl | rfl <;> decide))) fun Hk8 H8 E8 => wss_nil (wss_nil ?_)
      have E78 := E7.trans E8
      have EC := EA.trans (E78.pure (M := R.M4))
      refine ⟨Hk8, k06.trans E78.kk, EC.sub, _, _, _, rfl, EC, ?_, hr'⟩
      rw [er]
      exact (bB.ev E78).cong (fun _ => Iff.rfl) (by omega)
  · obtain ⟨o4, o5, L, rfl, EP, b, li⟩ := hP
    rw [List.length_map, List.drop_length] at li
    rw [List.length_map, List.take_length] at b
    have lq : ∀ p, L p ↔ p ∈ pS (gone h g st d.p).1.shelf := by
      cases li with
      | nil z => exact z
    have b1 := b.cong lq (Nat.le_refl _)
    have k1 : Same Hx Hk' := kk
    have f1k := k1 _ _ f3k
    have idk := idx.up k1
    -- the end
    have fin : ∀ (Hk9 H9 : Hp), Ext R.M4 Hx H3 Hk9 H9 → RunB K R h.places Hk9 H9 (fun q => q ∈ pS (gone h g st d.p).1.shelf) (rows ++ evs.map (encRow turn)) (t + 60) → Q .non H9 := by
      intro Hk9 H9 E9 b9
      have f9k := E9.kk _ _ f3k
      rw [← hX] at E9
      have K9 : Ext R.M4 B H3 (drop Hk9 R.x) H9 := E9.know2 dB f3
      have EF : Ext R.M Hk H (drop Hk9 R.x) H9 := E3.trans (K9.mono fun y hy => Or.inr hy)
      have ff : H9 R.x = some (.ins E.cRun R.dx (runFs vh vg R v1)) := E9.sub _ _ f9k
      refine q _ _ v1 EF ⟨EF.sub, ff, drop_at, ⟨?_, ?_, ?_, ?_, b9.fc, b9.fd, b9.fa, ?_⟩, D.ih.up EF.kk, D.ig.up EF.kk, Is.up (a := .dat _) dv1 K9.kk, go.1, gl.1, gl.2.1⟩
      · rw [drop_ne ne.cx]; exact b9.nc
      · rw [drop_ne ne.dx]; exact b9.nd
      · rw [drop_ne ne.ax]; exact b9.na
      · rw [drop_ne ne.rx]; exact b9.nr
      · obtain ⟨rs, h1, h2⟩ := b9.fr
        exact ⟨rs, h1, dqAll_drop f9k noDat_ins _ _ h2⟩
    have hL : d.p ∈ pS (gone h g st d.p).1.shelf := go.2.1
    cases d with
    | rd p =>
      refine xs_ifT s' (VT.is (vt_c (ve_itT (ve_v 2 rfl idk) (ve_int (i := 0)) hd0) ve_str cd_eqS) rfl) fun Hk5 H5 E5 => ?_
      have b5 := b1.ev E5
      obtain ⟨kvs, hkv, hlk, hmk⟩ := b5.fd
      obtain ⟨as, has, hla⟩ := b5.fa
      obtain ⟨vv, hvv⟩ := Option.isSome_iff_exists.mp ((hmk p).mpr hL)
      have kd : Same Hk5 (upd Hk5 R.d (.dK kvs)) := same_up b5.nd
      have sd : Same (upd Hk5 R.d (.dK kvs)) H5 := same_know E5.sub hkv
      have f5k := kd _ _ (E5.kk _ _ f1k)
      refine xs_app sd (ve_fld (ve_v 0 rfl (y := .val (.ref R.x)) rfl) f5k c (na _ (by simp)) rfl rfl) has (by omega) (ve_dgetV hu (ve_fld (ve_v 0 rfl (y := .val (.ref R.x)) rfl) f5k c (na _ (by simp)) rfl rfl) upd_same (ve_itT (ve_v 2 rfl ((idk.up E5.kk).up kd)) (ve_int (i := 1)) hd1) hvv) fun v9 Hk9 H9 E9 i9 => wss_nil (wss_nil ?_)
      have K9 : Ext M0 Hk5 H5 (drop Hk9 R.d) H9 := E9.know2 b5.nd hkv
      have b9 := b5.ev K9
      exact fin _ _ (((EP.trans E5.pure).trans K9.pure).mut (Or.inr (Or.inr (Or.inl rfl))) b9.na) (b9.ans ne (by omega) (by rw [List.length_append]; simp only [List.length_cons, List.length_nil]; omega))
    | wr p n =>
      refine xs_ifF s' (VT.is (vt_c (ve_itT (ve_v 2 rfl idk) (ve_int (i := 0)) hd0) ve_str cd_eqS) rfl) fun Hk5 H5 E5 => ?_
      have e3 : dds = [.str "write", .int p, .int n] := by
        have : PyData.tuple [.str "write", .int p, .int n] = .tuple dds := hde
        exact (PyData.tuple.inj this).symm
      subst e3
      have b5 := b1.ev E5
      obtain ⟨kvs, hkv, hlk, hmk⟩ := b5.fd
      have f5k := E5.kk _ _ f1k
      have id5 := idk.up E5.kk
      refine xs_dputH hu E5.sub (ve_itT (ve_v 2 rfl id5) (ve_int (i := 2)) rfl) (ve_fld (ve_v 0 rfl (y := .val (.ref R.x)) rfl) f5k c (na _ (by simp)) rfl rfl) (ve_itT (ve_v 2 rfl id5) (ve_int (i := 1)) rfl) hkv (by omega) fun v6 Hk6 H6 E6 i6 => ?_
      have b6 := (b5.ev E6)
      have b6' := b6.lie (L' := fun q => q ∈ pS (gone h g st p).1.shelf) (t' := t + 60) (kvs := putK kvs (.inl p) v6) ne (by omega) (by have := length_putK kvs (.inl p) v6; omega) fun q => by
        rw [valV_put]
        by_cases e : q = p
        · subst e
          rw [if_pos rfl]
          exact ⟨fun _ => hL, fun _ => rfl⟩
        · rw [if_neg (fun z => e (Sum.inl.inj z)), hmk q]
          exact Iff.rfl
      have E6' : Ext R.M4 Hx H3 Hk6 (upd H6 R.d (.dK (putK kvs (.inl p) v6))) := ((EP.trans E5.pure).trans E6.pure).mut (Or.inr (Or.inl rfl)) b6.nd
      have f6k := E6.kk _ _ f5k
      have id6 := id5.up E6.kk
      obtain ⟨cs, hcs, hlc⟩ := b6'.fc
      have dat' : 0 ≤ p ∧ p < h.places := dat
      obtain ⟨j, hj⟩ : ∃ j : Nat, p = (j : Int) := ⟨p.toNat, by omega⟩
      refine xs_lput (j := j) E6'.sub (ve_itT (ve_v 2 rfl id6) (ve_int (i := 2)) rfl) (ve_fld (ve_v 0 rfl (y := .val (.ref R.x)) rfl) f6k c (na _ (by simp)) rfl rfl) (ve_itT (ve_v 2 rfl id6) (ve_int (i := 1)) rfl) hcs hj (by omega) fun v7 Hk7 H7 E7 i7 => wss_nil (wss_nil ?_)
      have b7 := b6'.ev E7
      exact fin _ _ ((E6'.trans E7.pure).mut (Or.inl rfl) b7.nc) (b7.cell ne (by rw [List.length_set]; exact hlc))
end
end W
end
section
set_option Elab.async false
set_option linter.all false
set_option maxRecDepth 100000
set_option maxHeartbeats 4000000
/-! Run, story -/
namespace DL
open PySem PySem.Spec PyProof.Rows L2
section
variable {X : Cx} {σ : L2.St} {Hk H : Hp} {e : Expr} {pos : Pos}
theorem we_copyT {m : Str} {p : Pos} {ds : List PyData} {Q : VK} (s : Same Hk H) (hm : X.mg m = none) (h : VE X σ Hk e (.dat (.tuple ds)))
    (k : ∀ l xs Hk2 H2, Ext M0 Hk H Hk2 H2 → H l = none → Hk2 l = none → H2 l = some (.lst xs) → DqAll X.K Hk2 xs ds → Q (.ref l) H2)
    (hb : bootBuiltins m = some (.type "list") := by decide +kernel) (hg : Gl X m := by rfl) (hn : m ≠ "__name__" := by decide) (hdb : (m == ("__debug__" : Str)) = false := by decide) (he : starEach [e] X.env = (false, eval e X.env) :: starEach [] X.env := by rfl) :
    WE X (.Call (.Name m p) [e] [] pos) σ H Q :=
  we (pe_callTy call_list_of hg hm hb (pa_cons pe_w pa_nil he) hn hdb he) (h H s _ fun v Hk1 H1 E1 i1 => by
    obtain ⟨a, xs, rfl, hq, hx'⟩ := dp_tup i1
    exact ⟨a, xs, rfl, .inr (sqt_same E1.sub hq.sq), fun l nl => k l xs Hk1 _ (E1.trans (Ext.allocM E1.sub nl)) (E1.same.free nl) (E1.sub.free nl) upd_same hx'⟩)
theorem va_run {es : List Expr} {as : List Sp1} {Q : List V → Hp → Prop} (h : VA X σ Hk es as) (s : Same Hk H) (k : ∀ vs Hk2 H2, Ext M0 Hk H Hk2 H2 → IsAll X.K Hk2 vs as → Q vs H2) : WA X es σ H Q := h H s Q k
end
end DL
namespace W
open PySem PySem.Spec PyProof.Rows L2 DL Tx Mi Ml
def storyM (h : Hs) (g : Gs) : Sta → Int → List Dd → List PyData
  | _, _, [] => []
  | s, t, d :: ds => (gone h g s d.p).2.map (encRow t) ++ storyM h g (gone h g s d.p).1 (t + 1) ds
def stA (h : Hs) (g : Gs) (s : Sta) (ds : List Dd) : Sta := ds.foldl (fun s d => (gone h g s d.p).1) s
theorem stA_snoc (h : Hs) (g : Gs) (s : Sta) (ds : List Dd) (d : Dd) : stA h g s (ds ++ [d]) = (gone h g (stA h g s ds) d.p).1 := by unfold stA; rw [List.foldl_append]; rfl
theorem storyM_snoc (h : Hs) (g : Gs) : ∀ (ds : List Dd) (s : Sta) (t : Int) (d : Dd), storyM h g s t (ds ++ [d]) = storyM h g s t ds ++ (gone h g (stA h g s ds) d.p).2.map (encRow (t + ds.length))
  | [], s, t, d => by
    show (gone h g s d.p).2.map (encRow t) ++ [] = [] ++ (gone h g s d.p).2.map (encRow (t + 0))
    rw [List.append_nil, List.nil_append, Int.add_zero]
  | x :: ds, s, t, d => by
    show (gone h g s x.p).2.map (encRow t) ++ storyM h g (gone h g s x.p).1 (t + 1) (ds ++ [d]) = ((gone h g s x.p).2.map (encRow t) ++ storyM h g (gone h g s x.p).1 (t + 1) ds) ++ _
    rw [storyM_snoc h g ds, List.append_assoc]
    have e : t + 1 + (ds.length : Int) = t + ((x :: ds).length : Int) := by simp only [List.length_cons]; omega
    rw [e]
    rfl
section
variable {K : PySem.W.Frag} {C CH : Addr} {R : Ra} {h : Hs} {g : Gs} {s : Sta} {rows : List PyData} {t m : Nat} {Hk H Hk2 H2 : Hp} {vh vg vst : V}
theorem DeedIn.ev (D : DeedIn K C CH R h g s rows t m Hk H vh vg vst) (E : Ext M0 Hk H Hk2 H2) : DeedIn K C CH R h g s rows t m Hk2 H2 vh vg vst :=
  ⟨E.sub, E.same _ _ D.fx, E.unk D.nx (some_ne D.fx), D.b.ev E, D.ih.up E.kk, D.ig.up E.kk, D.is.up E.kk, D.so, D.sl, D.kf⟩
end
section
variable {P : Program} {w : World} {K : PySem.W.Frag} {mg : Str → Option Value} {base : Heap}
abbrev nRun : List Str := ["self", "setting", "guesser", "row", "turn"]
theorem scRun : FnScope nRun ["self", "setting", "guesser", "row"] (defScope sRun) := ⟨rfl, rfl, rfl, by decide +kernel, rfl, by decide +kernel, by decide +kernel⟩
def spInitR (K : PySem.W.Frag) (C : Addr) : List V → Hp → VK → Prop := fun vs H Q => ∃ (Hk : Hp) (x dx : Addr) (st : Stg) (g : Gs) (ds : List Dd) (v1 v2 v3 : V), vs = [.ref x, v1, v2, v3] ∧ Same Hk H ∧ Hk x = none ∧ H x = some (.ins C dx []) ∧ st.ok ∧ g.ok 0 ∧ ds.length ≤ 100 ∧ (∀ d ∈ ds, d.ok st.mem.length) ∧
  Is K Hk v1 (.dat st.enc) ∧ Is K Hk v2 (.dat g.enc) ∧ Is K Hk v3 (.dat (.list (ds.map Dd.enc))) ∧
  ∀ (R : Ra) Hk2 H2 vh vg vst rs, R.x = x → H R.c = none → H R.d = none → H R.a = none → H R.r = none → Ext R.M Hk H Hk2 H2 → H2 x = some (.ins C dx (runFs vh vg R vst)) → Hk2 R.r = none → H2 R.r = some (.lst rs) → DqAll K Hk2 rs (storyM st.hs g (begun g) 0 ds) → Q .non H2
def fl2 (vh vg : V) : List (Str × V) := [("house", vh), ("guesser", vg)]
def fl3 (vh vg : V) (c : Addr) : List (Str × V) := [("house", vh), ("guesser", vg), ("cells", .ref c)]
def fl4 (vh vg : V) (c d : Addr) : List (Str × V) := [("house", vh), ("guesser", vg), ("cells", .ref c), ("lies", .ref d)]
def fl5 (vh vg : V) (c d a : Addr) : List (Str × V) := [("house", vh), ("guesser", vg), ("cells", .ref c), ("lies", .ref d), ("answers", .ref a)]
def fl6 (vh vg : V) (c d a r : Addr) : List (Str × V) := [("house", vh), ("guesser", vg), ("cells", .ref c), ("lies", .ref d), ("answers", .ref a), ("rows", .ref r)]
theorem ok_run (T : Tp K w mg) (E : Ev K mg) : FnOk P w K mg base CX0 8 E.runI.f E.runI.fd ["self", "setting", "guesser", "row"] (fun vs H Q _ => spInitR K E.cRun vs H Q) := by
  refine ok_gen E.runI.F scRun (fun vs H Q h => by obtain ⟨_, _, _, _, _, _, _, _, _, rfl, _⟩ := h; rfl) fun cdv A outer s H vs Q hr g => ?_
  obtain ⟨Hk, x, dx, st, gs, ds, vs1, vg, vr, rfl, sm, nx, fx, sok, ok, hds, dok, i1, i2, i3, q⟩ := g
  have c := E.run.c
  have na : ∀ f ∈ runF, NoAttr K E.cRun f := E.run.na
  have tx := some_ne fx
  have self_ : ∀ {σ : L2.St} {Hk' : Hp} {p : Pos}, σ[0]? = some (some (.ref x)) → VE (cxOf CX0 P w K mg base nRun "Run.__init__" (defScope sRun) E.runI.f cdv A outer s H E0).nox σ Hk' (.Name "self" p) (.val (.ref x)) := fun h => ve_v 0 h rfl
  refine xs_fld sm (ve_house T E (hr.mono (by decide)) (ve_v 1 rfl i1)) (self_ rfl) fx c (na _ (by simp)) (by decide) fun vh Hk1 H1 E1 ih => ?_
  have n1 := E1.unk nx tx
  have EA := fun o => (Ext.pure (M := DL.M1 x) E1).mut (o := o) (p := x) rfl n1
  refine xs_fld (EA _).sub (ve_v 2 rfl (i2.up E1.kk)) (self_ rfl) upd_same c (na _ (by simp)) (by have := putF_len "house" vh []; simp only [List.length_nil] at this; omega) fun v2 Hk2 H2 E2 ig => ?_
  have n2 := E2.unk n1 (some_ne upd_same)
  have EB := fun o => ((EA _).trans E2.pure).mut (o := o) (p := x) rfl n2
  have k2 : Same Hk Hk2 := E1.kk.trans E2.kk
  have i1t : Is K Hk2 vs1 (.dat (.tuple [.tuple (encI st.mem), .int st.room, .int st.late, .int st.most])) := i1.up k2
  have ef : putF "guesser" v2 (putF "house" vh []) = (fl2 vh v2) := rfl
  rw [ef]
  -- cells
  refine xs_fldW (p := x) (dx := dx) (fs := (fl2 vh v2)) (we_copyT (EB _).sub T.list (ve_itT (ve_v 1 rfl i1t) (ve_int (i := 0)) rfl) fun lc cs Hk3 H3 E3 nlc nkc hlc dcs => ⟨Hk3, E3.sub, self_ rfl, E3.same _ _ upd_same, fun Hk4 H4 E4 => ?_⟩) c (na _ (by simp)) (by simp [fl2, fl3, fl4, fl5])
  have E34 := E3.trans E4
  have n4 := E34.unk n2 (some_ne upd_same)
  have ncx : lc ≠ x := fun z => by rw [z, upd_same] at nlc; cases nlc
  have nlcH : H lc = none := by
    cases hh : H lc with
    | none => rfl
    | some o => exact absurd nlc ((EB (.ins E.cRun dx (fl2 vh v2))).there lc (some_ne hh))
  have EC := ((EB _).trans E34.pure).mut (M := DL.M1 x) (o := .ins E.cRun dx (putF "cells" (.ref lc) (fl2 vh v2))) (p := x) rfl n4
  have ef4 : putF "cells" (.ref lc) (fl2 vh v2) = (fl3 vh v2 lc) := rfl
  rw [ef4] at EC ⊢
  have kc4 : Hk4 lc = none := E4.unk nkc (some_ne hlc)
  have hc4 : (upd H4 x (.ins E.cRun dx (fl3 vh v2 lc))) lc = some (.lst cs) := by rw [upd_ne ncx]; exact E4.same _ _ hlc
  have f4 : (upd H4 x (.ins E.cRun dx (fl3 vh v2 lc))) x = some (.ins E.cRun dx (fl3 vh v2 lc)) := upd_same
  have k4 : Same Hk2 Hk4 := E34.kk
  generalize upd H4 x (.ins E.cRun dx (fl3 vh v2 lc)) = G4 at EC hc4 f4
  -- lies
  refine xs_fldW (p := x) (dx := dx) (fs := (fl3 vh v2 lc)) (we pe_dnewK fun ld nld => ⟨Hk4, (Ext.allocM (M := M0) EC.sub nld).sub, self_ rfl, (Ext.allocM (M := M0) EC.sub nld).same _ _ f4, fun Hk5 H5 E5 => ?_⟩) c (na _ (by simp)) (by simp [fl2, fl3, fl4, fl5])
  have A5 := (Ext.allocM (M := M0) (o := .dK []) EC.sub nld).trans E5
  have n5 := A5.unk n4 (some_ne f4)
  have ndx : ld ≠ x := fun z => by rw [z, f4] at nld; cases nld
  have ncd : lc ≠ ld := fun z => by rw [← z, hc4] at nld; cases nld
  have nldH : H ld = none := by
    cases hh : H ld with
    | none => rfl
    | some o => exact absurd nld (EC.there ld (some_ne hh))
  have ED := (EC.trans A5.pure).mut (M := DL.M1 x) (o := .ins E.cRun dx (putF "lies" (.ref ld) (fl3 vh v2 lc))) (p := x) rfl n5
  have ef5 : putF "lies" (.ref ld) (fl3 vh v2 lc) = (fl4 vh v2 lc ld) := rfl
  rw [ef5] at ED ⊢
  have kd5 : Hk5 ld = none := E5.unk (EC.sub.free nld) (some_ne upd_same)
  have kc5 : Hk5 lc = none := A5.unk kc4 (some_ne hc4)
  have hd5 : (upd H5 x (.ins E.cRun dx (fl4 vh v2 lc ld))) ld = some (.dK []) := by rw [upd_ne ndx]; exact E5.same _ _ upd_same
  have hc5 : (upd H5 x (.ins E.cRun dx (fl4 vh v2 lc ld))) lc = some (.lst cs) := by rw [upd_ne ncx]; exact A5.same _ _ hc4
  have f5 : (upd H5 x (.ins E.cRun dx (fl4 vh v2 lc ld))) x = some (.ins E.cRun dx (fl4 vh v2 lc ld)) := upd_same
  have k5 : Same Hk2 Hk5 := k4.trans A5.kk
  generalize upd H5 x (.ins E.cRun dx (fl4 vh v2 lc ld)) = G5 at ED hc5 hd5 f5
  -- answers
  refine xs_fldW (p := x) (dx := dx) (fs := (fl4 vh v2 lc ld)) (we (pe_lst pa_nil) ⟨Nat.zero_le _, fun la nla => ⟨Hk5, (Ext.allocM (M := M0) ED.sub nla).sub, self_ rfl, (Ext.allocM (M := M0) ED.sub nla).same _ _ f5, fun Hk6 H6 E6 => ?_⟩⟩) c (na _ (by simp)) (by simp [fl2, fl3, fl4, fl5])
  have A6 := (Ext.allocM (M := M0) (o := .lst []) ED.sub nla).trans E6
  have n6 := A6.unk n5 (some_ne f5)
  have nax : la ≠ x := fun z => by rw [z, f5] at nla; cases nla
  have nca : lc ≠ la := fun z => by rw [← z, hc5] at nla; cases nla
  have nda : ld ≠ la := fun z => by rw [← z, hd5] at nla; cases nla
  have nlaH : H la = none := by
    cases hh : H la with
    | none => rfl
    | some o => exact absurd nla (ED.there la (some_ne hh))
  have EE := (ED.trans A6.pure).mut (M := DL.M1 x) (o := .ins E.cRun dx (putF "answers" (.ref la) (fl4 vh v2 lc ld))) (p := x) rfl n6
  have ef6 : putF "answers" (.ref la) (fl4 vh v2 lc ld) = (fl5 vh v2 lc ld la) := rfl
  rw [ef6] at EE ⊢
  have ka6 : Hk6 la = none := E6.unk (ED.sub.free nla) (some_ne upd_same)
  have kd6 : Hk6 ld = none := A6.unk kd5 (some_ne hd5)
  have kc6 : Hk6 lc = none := A6.unk kc5 (some_ne hc5)
  have ha6 : (upd H6 x (.ins E.cRun dx (fl5 vh v2 lc ld la))) la = some (.lst []) := by rw [upd_ne nax]; exact E6.same _ _ upd_same
  have hd6 : (upd H6 x (.ins E.cRun dx (fl5 vh v2 lc ld la))) ld = some (.dK []) := by rw [upd_ne ndx]; exact A6.same _ _ hd5
  have hc6 : (upd H6 x (.ins E.cRun dx (fl5 vh v2 lc ld la))) lc = some (.lst cs) := by rw [upd_ne ncx]; exact A6.same _ _ hc5
  have f6 : (upd H6 x (.ins E.cRun dx (fl5 vh v2 lc ld la))) x = some (.ins E.cRun dx (fl5 vh v2 lc ld la)) := upd_same
  have k6 : Same Hk2 Hk6 := k5.trans A6.kk
  generalize upd H6 x (.ins E.cRun dx (fl5 vh v2 lc ld la)) = G6 at EE hc6 hd6 ha6 f6
  -- rows
  refine xs_fldW (p := x) (dx := dx) (fs := (fl5 vh v2 lc ld la)) (we (pe_lst pa_nil) ⟨Nat.zero_le _, fun lr nlr => ⟨Hk6, (Ext.allocM (M := M0) EE.sub nlr).sub, self_ rfl, (Ext.allocM (M := M0) EE.sub nlr).same _ _ f6, fun Hk7 H7 E7 => ?_⟩⟩) c (na _ (by simp)) (by simp [fl2, fl3, fl4, fl5])
  have A7 := (Ext.allocM (M := M0) (o := .lst []) EE.sub nlr).trans E7
  have n7 := A7.unk n6 (some_ne f6)
  have nrx : lr ≠ x := fun z => by rw [z, f6] at nlr; cases nlr
  have ncr : lc ≠ lr := fun z => by rw [← z, hc6] at nlr; cases nlr
  have ndr : ld ≠ lr := fun z => by rw [← z, hd6] at nlr; cases nlr
  have nar : la ≠ lr := fun z => by rw [← z, ha6] at nlr; cases nlr
  have nlrH : H lr = none := by
    cases hh : H lr with
    | none => rfl
    | some o => exact absurd nlr (EE.there lr (some_ne hh))
  have EF := (EE.trans A7.pure).mut (M := DL.M1 x) (o := .ins E.cRun dx (putF "rows" (.ref lr) (fl5 vh v2 lc ld la))) (p := x) rfl n7
  have ef7 : putF "rows" (.ref lr) (fl5 vh v2 lc ld la) = (fl6 vh v2 lc ld la lr) := rfl
  rw [ef7] at EF ⊢
  have kr7 : Hk7 lr = none := E7.unk (EE.sub.free nlr) (some_ne upd_same)
  have ka7 : Hk7 la = none := A7.unk ka6 (some_ne ha6)
  have kd7 : Hk7 ld = none := A7.unk kd6 (some_ne hd6)
  have kc7 : Hk7 lc = none := A7.unk kc6 (some_ne hc6)
  have hr7 : (upd H7 x (.ins E.cRun dx (fl6 vh v2 lc ld la lr))) lr = some (.lst []) := by rw [upd_ne nrx]; exact E7.same _ _ upd_same
  have ha7 : (upd H7 x (.ins E.cRun dx (fl6 vh v2 lc ld la lr))) la = some (.lst []) := by rw [upd_ne nax]; exact A7.same _ _ ha6
  have hd7 : (upd H7 x (.ins E.cRun dx (fl6 vh v2 lc ld la lr))) ld = some (.dK []) := by rw [upd_ne ndx]; exact A7.same _ _ hd6
  have hc7 : (upd H7 x (.ins E.cRun dx (fl6 vh v2 lc ld la lr))) lc = some (.lst cs) := by rw [upd_ne ncx]; exact A7.same _ _ hc6
  have f7 : (upd H7 x (.ins E.cRun dx (fl6 vh v2 lc ld la lr))) x = some (.ins E.cRun dx (fl6 vh v2 lc ld la lr)) := upd_same
  have k7 : Same Hk2 Hk7 := k6.trans A7.kk
  generalize upd H7 x (.ins E.cRun dx (fl6 vh v2 lc ld la lr)) = G7 at EF hc7 hd7 ha7 hr7 f7
  -- state
  refine xs_fld EF.sub (ve_f E.begun.d (ok_begun E) (hr.mono (by decide)) (va_cons (ve_v 2 rfl ((i2.up k2).up k7)) va_nil) ⟨gs, ok, rfl, rfl⟩) (self_ rfl) f7 c (na _ (by simp)) (by simp [fl6]) fun vst Hk8 H8 E8 ist => ?_
  have ef8 : putF "state" vst (fl6 vh v2 lc ld la lr) = runFs vh v2 ⟨x, dx, lc, ld, la, lr⟩ vst := rfl
  rw [ef8]
  have n8 := E8.unk n7 (some_ne f7)
  have EG := (EF.trans E8.pure).mut (M := DL.M1 x) (o := .ins E.cRun dx (runFs vh v2 ⟨x, dx, lc, ld, la, lr⟩ vst)) (p := x) rfl n8
  -- the run
  let R : Ra := ⟨x, dx, lc, ld, la, lr⟩
  have ne : R.ne := ⟨ncx, ndx, nax, nrx, ncd, nca, ncr, nda, ndr, nar⟩
  have k8 : Same Hk2 Hk8 := k7.trans E8.kk
  have hrs := sok.hs
  have D0 : DeedIn K E.cRun E.cHouse R st.hs gs (begun gs) [] 0 0 Hk8 (upd H8 x (.ins E.cRun dx (runFs vh v2 R vst))) vh v2 vst :=
    ⟨EG.sub, upd_same, n8, ⟨E8.unk kc7 (some_ne hc7), E8.unk kd7 (some_ne hd7), E8.unk ka7 (some_ne ha7), E8.unk kr7 (some_ne hr7),
      ⟨cs, by rw [upd_ne ncx]; exact E8.same _ _ hc7, by rw [dcs.len]; unfold encI; rw [List.length_map]; rfl⟩,
      ⟨[], by rw [upd_ne ndx]; exact E8.same _ _ hd7, Nat.le_refl _, fun p => by simp [valV_nil, begun, pS]⟩,
      ⟨[], by rw [upd_ne nax]; exact E8.same _ _ ha7, Nat.le_refl _⟩, ⟨[], by rw [upd_ne nrx]; exact E8.same _ _ hr7, .nil⟩⟩,
      (ih.up E2.kk).up k8, ig.up k8, ist, begun_ok, begun_len hrs gs, first_fits gs⟩
  have ER : Ext R.M Hk H Hk8 (upd H8 x (.ins E.cRun dx (runFs vh v2 R vst))) := EG.mono fun y hy => Or.inl hy
  have el : (ds.map Dd.enc).length = ds.length := List.length_map _
  refine xs_for (g := gName 4) (ds := intsD ds.length) EG.sub (vi_range T.range ((ve_lenL T.len PySem.boot_len (ve_v 3 rfl ((i3.up k2).up k8))).is (by rw [el])) (by omega)) (pg_name (i := 4) scRun.nd rfl (.inl rfl)) rfl PassesOwn.never
    (fun i σ' Hk' H' => ∃ o4 vst', σ' = [some (.ref x), some vs1, some vg, some vr, o4] ∧ Ext R.M Hk H Hk' H' ∧ DeedIn K E.cRun E.cHouse R st.hs gs (stA st.hs gs (begun gs) (ds.take i)) (storyM st.hs gs (begun gs) 0 (ds.take i)) (60 * i) i Hk' H' vh v2 vst' ∧ (storyM st.hs gs (begun gs) 0 (ds.take i)).length ≤ 50 * i)
    (fun Hk9 H9 E9 => ⟨none, vst, rfl, ER.trans E9.pure, D0.ev E9, Nat.le_refl _⟩) (fun i d v σ' Hk0 H0 Hk' H' hd' kk0 s0 hP E9 dv => ?_) fun σ' Hk' H' kk s' hP => ?_
  · obtain ⟨o4, vst', rfl, EP, D, hl⟩ := hP
    obtain ⟨hi, rfl⟩ := intsD_of hd'
    obtain ⟨d, hd⟩ : ∃ d, ds[i]? = some d := ⟨ds[i], List.getElem?_eq_getElem hi⟩
    have hat : (ds.map Dd.enc)[i]? = some d.enc := by rw [List.getElem?_map, hd]; rfl
    have k0 : Same Hk Hk' := EP.kk.trans E9.kk
    refine wss_one (ws (ps_expr (pe_meth pe_w c E.deedM (ok_deed T E) hr E.deed.b .nil pass0 pa_w)) ?_)
    refine (self_ rfl) H' E9.sub _ fun u Hk1 H1 E10 i10 => ?_
    have D1 := (D.ev E9).ev E10
    refine ⟨x, dx, _, i10, D1.fx, rfl, va_run (as := [.dat (.int (i : Int)), .dat d.enc]) (va_cons (ve_v 4 rfl (y := .dat (.int (i : Int))) (Is.up (a := .dat (.int (i : Int))) dv E10.kk)) (va_cons (ve_itL (ve_v 3 rfl ((i3.up k0).up E10.kk)) (ve_v 4 rfl (y := .dat (.int (i : Int))) (Is.up (a := .dat (.int (i : Int))) dv E10.kk)) hat) va_nil)) E10.sub fun us Hk2' H2' E11 i11 => ?_⟩
    have D2 := D1.ev E11
    obtain ⟨w1, w2, rfl, j1, j2⟩ := ia2 i11
    have eu : u = .ref x := i10
    subst eu
    refine ⟨Hk2', R, st.hs, gs, _, _, 60 * i, i, i, d, vh, v2, vst', w1, w2, rfl, ne, D2, hrs, ok, by omega, by omega, by omega, j1, j2, dok d (List.mem_of_getElem? hd), fun Hk3 H3 vst2 E12 D3 => ?_⟩
    have dd := (dok d (List.mem_of_getElem? hd)).at
    have gl := gone_len hrs ok (p := d.p) D.kf D.sl
    have EE' := (E9.trans E10).trans E11
    refine ⟨Hk3, EE'.kk.trans E12.kk, E12.sub, _, vst2, rfl, (EP.trans EE'.pure).trans E12, ?_, ?_⟩
    · rw [take_snoc hd, stA_snoc, storyM_snoc]
      have e0 : (0 : Int) + ((ds.take i).length : Int) = (i : Int) := by rw [List.length_take]; omega
      rw [e0]
      have e60 : 60 * (i + 1) = 60 * i + 60 := by omega
      rw [e60]
      exact D3
    · rw [take_snoc hd, storyM_snoc, List.length_append, List.length_map]
      omega
  · obtain ⟨o4, vst', rfl, EP, D, hl⟩ := hP
    have e : (intsD ds.length).length = ds.length := intsD_len _
    rw [e, List.take_length] at D
    obtain ⟨rs, h1, h2⟩ := D.b.fr
    exact wss_nil (q R Hk' H' vh v2 vst' rs rfl nlcH nldH nlaH nlrH EP D.fx D.b.nr h1 h2)

theorem scStory : FnScope ["setting", "guesser", "row"] ["setting", "guesser", "row"] (defScope sStory) := ⟨rfl, rfl, rfl, by decide +kernel, rfl, by decide +kernel, by decide +kernel⟩
def gStory (as : List Sp1) (r : Sp1) : Prop := ∃ (st : Stg) (g : Gs) (ds : List Dd), st.ok ∧ g.ok 0 ∧ ds.length ≤ 100 ∧ (∀ d ∈ ds, d.ok st.mem.length) ∧ as = [.dat st.enc, .dat g.enc, .dat (.list (ds.map Dd.enc))] ∧ r = .dat (.list (storyM st.hs g (begun g) 0 ds))
theorem ok_story (T : Tp K w mg) (E : Ev K mg) : FnOk P w K mg base CX0 10 E.story.f E.story.fd ["setting", "guesser", "row"] (spD K gStory) := by
  refine ok_of E.story.d.F scStory (fun as r h => by obtain ⟨_, _, _, _, _, _, _, rfl, _⟩ := h; rfl) fun cdv A outer s H Hk vs as r Q hr sm ia g q => ?_
  obtain ⟨st, g, ds, sok, ok, hl, hd, rfl, rfl⟩ := g
  obtain ⟨v1, v2, v3, rfl, i1, i2, i3⟩ := ia3 ia
  refine xs_ex sm (ve_f E.needAll.d (ok_needAll T E) (hr.mono (by decide)) (va_cons (ve_v 0 rfl i1) (va_cons (ve_v 1 rfl i2) (va_cons (ve_v 2 rfl i3) va_nil))) ⟨st, g, ds, sok, ok, hl, hd, rfl, rfl⟩) fun Hk1 H1 E1 => ?_
  refine xs_ret E1.sub (x := .dat (.list (storyM st.hs g (begun g) 0 ds))) (ve_of (pe_fld (pe_make (x := "Run") E.runM (ok_run T E) hr rfl E.run.g E.runI.b .nil pass0 pa_w) rfl) fun H' s' Q' k => va_run (as := [.dat st.enc, .dat g.enc, .dat (.list (ds.map Dd.enc))]) (va_cons (ve_v 0 rfl (i1.up E1.kk)) (va_cons (ve_v 1 rfl (i2.up E1.kk)) (va_cons (ve_v 2 rfl (i3.up E1.kk)) va_nil))) s' fun us Hk2 H2 E2 j2 => fun x dx nx ndx nex => ?_) fun v Hk5 H5 E5 i5 => q v Hk5 H5 (E1.trans E5) i5
  obtain ⟨w1, w2, w3, rfl, j1, j2, j3⟩ := ia3 j2
  have EA : Ext M0 Hk1 H' Hk2 (upd (upd H2 dx (.own x)) x (.ins E.cRun dx [])) := (E2.trans (Ext.allocM E2.sub ndx)).trans (Ext.allocM (Ext.allocM (M := M0) E2.sub ndx).sub (by rw [upd_ne nex.symm]; exact nx))
  refine ⟨Hk2, x, dx, st, g, ds, w1, w2, w3, rfl, EA.sub, E2.sub.free nx, upd_same, sok, ok, hl, hd, j1, j2, j3, fun R Hk3 H3 vh vg vst rs ex n1 n2 n3 n4 E3 hx hk hr' dr => ⟨rfl, x, E.cRun, dx, runFs vh vg R vst, .ref R.r, rfl, hx, E.run.c, E.run.na _ (by simp), rfl, ?_⟩⟩
  have free : ∀ a, (upd (upd H2 dx (.own x)) x (.ins E.cRun dx [])) a = none → H' a = none := fun a ha => by
    cases hh : H' a with
    | none => rfl
    | some o => exact absurd ha (EA.there a (some_ne hh))
  have EB : Ext M0 Hk1 H' Hk3 H3 := ((EA.mono (M' := R.M) fun _ z => z.elim).trans E3).localS fun a ha => by
    rcases ha with z | z | z | z | z
    · rw [z, ex]; exact E2.same.free nx
    · rw [z]; exact free _ n1
    · rw [z]; exact free _ n2
    · rw [z]; exact free _ n3
    · rw [z]; exact free _ n4
  exact k _ _ H3 (EB.fix (free _ n4) hk hr') (.lst upd_same (dr.up (same_up hk)))
end
end W
end
section
set_option Elab.async false
set_option linter.all false
set_option maxRecDepth 100000
set_option maxHeartbeats 4000000
/-! Dicts whose keys are tuples nested deeper than eight: a look-up goes well where keys of one hash are one key. -/
namespace Nd
open PySem
variable {prog : Program} {w : World}
abbrev NK := NestedKey
def entN (w : World) (x : NK × Addr × Value) : DictEntry := ⟨x.1.hash w, .ref x.2.1, x.2.2⟩
/-- == of a key is asked without an end that matters -/
theorem quiet_any : ∀ (n : Nat) (k : NK) (v : Value) (s : Shared), NestedIs s.heap k v → ∀ (A : Around) (E : Value → Shared → Prop) (Q : Bool → Shared → Prop), (∀ b, Q b s) → wpAny (model prog w) A (eqIsQuiet n v) Q E s := by
  intro n
  induction n with
  | zero =>
    intro k v s x A E Q q
    cases x with
    | tup hg hc hd hk =>
      unfold eqIsQuiet
      refine wpAny_bind (wpAny_specialOf (s := s) ⟨_, hg, hc⟩ F.slot_tuple_eq.lookup ?_)
      show wpAny _ _ (isInstance (.ref _) (.type "tuple") >>= _) Q E s
      refine wpAny_bind (wpAny_isInstance (s := s) ⟨_, hg, hc⟩ isSubtype_tuple_tuple ?_)
      simp only [Bool.not_true, Bool.false_eq_true, if_false]
      exact wpAny_pure (q _)
    | _ => rw [eqIsQuiet_byValue 0 (by rfl)]; exact wpAny_pure (q _)
  | succ n ih =>
    intro k v s x A E Q q
    cases x with
    | @tup a o vs m ks hg hc hd hk =>
      unfold eqIsQuiet
      refine wpAny_bind (wpAny_specialOf (s := s) ⟨_, hg, hc⟩ F.slot_tuple_eq.lookup ?_)
      show wpAny _ _ (isInstance (.ref _) (.type "tuple") >>= _) Q E s
      refine wpAny_bind (wpAny_isInstance (s := s) ⟨_, hg, hc⟩ isSubtype_tuple_tuple ?_)
      simp only [Bool.not_true, Bool.false_eq_true, if_false]
      refine wpAny_bind (wpAny_seqItems hg hd (wpAny_bind ?_))
      show wpAny _ _ (forIn vs _ _) _ E s
      rw [← Array.forIn_toList]
      have all : ∀ (ks : List NK) (us : List Value), NestedAll s.heap ks us → ∀ u ∈ us, ∃ k, NestedIs s.heap k u := by
        intro ks us h
        induction us generalizing ks with
        | nil => exact fun _ z => nomatch z
        | cons u us ih2 =>
          cases h with
          | cons h1 h2 =>
            intro y hy
            rcases List.mem_cons.mp hy with e | e
            · exact ⟨_, e ▸ h1⟩
            · exact ih2 _ h2 y e
      refine wpAny_forIn_list _ (fun rest r s' => r.1 = none ∧ s' = s ∧ ∀ u ∈ rest, ∃ k, NestedIs s.heap k u) _ (fun u rest r s' h => ?_) (fun r s' h => ?_) _ _ ⟨rfl, rfl, all _ _ hk⟩
      · obtain ⟨hr, rfl, hu⟩ := h
        obtain ⟨k', hk'⟩ := hu u List.mem_cons_self
        refine wpAny_bind (ih k' u s' hk' _ _ _ fun b => ?_)
        cases b with
        | true =>
          simp only [Bool.not_true, Bool.false_eq_true, if_false]
          exact wpAny_pure ⟨rfl, rfl, fun y hy => hu y (List.mem_cons_of_mem _ hy)⟩
        | false =>
          simp only [Bool.not_false, if_true]
          exact wpAny_pure (wpAny_pure (q _))
      · obtain ⟨r1, r2⟩ := r
        obtain ⟨hr, rfl, _⟩ := h
        have e : r1 = none := hr
        subst e
        exact wpAny_pure (q _)
    | _ => rw [eqIsQuiet_byValue (n + 1) (by rfl)]; exact wpAny_pure (q _)
theorem may_any {v : Value} {k : NK} {stored : List Value} {A : Around} {E : Value → Shared → Prop} {s : Shared} {Q : Bool → Shared → Prop} (hk : NestedIs s.heap k v) (hs : ∀ u ∈ stored, ∃ k', NestedIs s.heap k' u) (q : ∀ b, Q b s) : wpAny (model prog w) A (tableMayTell v stored) Q E s := by
  unfold tableMayTell
  split
  · exact wpAny_pure (q _)
  · refine wpAny_bind (quiet_any 8 k v s hk _ _ _ fun b => ?_)
    cases b with
    | false =>
      simp only [Bool.not_false, if_true]
      exact wpAny_pure (q _)
    | true =>
      simp only [Bool.not_true, Bool.false_eq_true, if_false]
      refine wpAny_bind (wpAny_forIn_list _ (fun rest r s' => s' = s ∧ r = (none, ()) ∧ ∀ u ∈ rest, ∃ k', NestedIs s.heap k' u) _ (fun u rest r s' h => ?_) (fun r s' h => ?_) _ _ ⟨rfl, rfl, hs⟩)
      · obtain ⟨rfl, rfl, hu⟩ := h
        obtain ⟨k', hk'⟩ := hu u List.mem_cons_self
        refine wpAny_bind (quiet_any 8 k' u s' hk' _ _ _ fun b => ?_)
        cases b with
        | true =>
          simp only [Bool.not_true, Bool.false_eq_true, if_false]
          exact wpAny_pure ⟨rfl, rfl, fun y hy => hu y (List.mem_cons_of_mem _ hy)⟩
        | false =>
          simp only [Bool.not_false, if_true]
          exact wpAny_pure (wpAny_pure (q _))
      · obtain ⟨rfl, rfl, _⟩ := h
        exact wpAny_pure (q _)
/-! ### the places of one hash -/
theorem filter_none {n : Nat} {p : Nat → Bool} (h : ∀ i, i < n → p i = false) : (List.range n).filter p = [] := by
  rw [List.filter_eq_nil_iff]
  intro i hi
  rw [h i (List.mem_range.mp hi)]
  exact Bool.false_ne_true
theorem filter_one {n j : Nat} {p : Nat → Bool} (hj : j < n) (pj : p j = true) (h : ∀ i, i < n → p i = true → i = j) : (List.range n).filter p = [j] := by
  have nd : ((List.range n).filter p).Nodup := List.nodup_range.filter _
  have mem : ∀ i, i ∈ (List.range n).filter p ↔ i = j := fun i => by
    rw [List.mem_filter, List.mem_range]
    exact ⟨fun z => h i z.1 z.2, fun z => by rw [z]; exact ⟨hj, pj⟩⟩
  generalize (List.range n).filter p = l at nd mem
  cases l with
  | nil => exact absurd ((mem j).mpr rfl) (by simp)
  | cons a l =>
    have ea := (mem a).mp List.mem_cons_self
    subst ea
    cases l with
    | nil => rfl
    | cons b l =>
      have eb := (mem b).mp (by simp)
      subst eb
      exact absurd nd (by simp)
def at_ (xs : List (NK × Addr × Value)) (k : NK) : Option (Addr × Value) := atKey xs k
/-- keys that may stand together: not deeper than eight, or of hashes of their own -/
def Fine (w : World) (ks : List NK) (k : NK) : Prop := (k.depth ≤ 8 ∧ ∀ x ∈ ks, x.depth ≤ 8) ∨ ∀ x ∈ ks, x.hash w = k.hash w → x = k
theorem entN_at {es : Array DictEntry} {xs : List (NK × Addr × Value)} (he : es.toList = xs.map (entN w)) (j : Nat) : es[j]? = (xs[j]?).map (entN w) := by
  rw [← Array.getElem?_toList, he, List.getElem?_map]
theorem find_deep {d a : Addr} {o : Obj} {es : Array DictEntry} {ep : Nat} {xs : List (NK × Addr × Value)} {k : NK} {A : Around} {E : Value → Shared → Prop} {s : Shared} {Q : Option Nat → Shared → Prop} (hu : A.units + 16 < cLine) (hk : NestedIs s.heap k (.ref a)) (hd : k.depth ≤ 16)
    (ho : s.heap.get? d = some o) (hdat : o.data = .dict es ep) (he : es.toList = xs.map (entN w)) (his : ∀ x ∈ xs, NestedIs s.heap x.1 (.ref x.2.1)) (hn : (xs.map (·.1)).Nodup) (hf : ∀ x ∈ xs, x.1.hash w = k.hash w → x.1 = k)
    (hnone : (∀ (j : Nat) (p : Addr × Value), xs[j]? ≠ some (k, p)) → Q none s) (hsome : ∀ (j : Nat) (p : Addr × Value), xs[j]? = some (k, p) → Q (some j) s) : wpAny (model prog w) A (dictFind d (.ref a) (k.hash w)) Q E s := by
  have hsz : es.size = xs.length := by rw [← Array.length_toList, he, List.length_map]
  have mem : ∀ e ∈ es, ∃ x ∈ xs, e = entN w x := fun e hin => by
    have z : e ∈ xs.map (entN w) := by rw [← he]; exact Array.mem_toList_iff.mpr hin
    obtain ⟨x, hx, e1⟩ := List.mem_map.mp z
    exact ⟨x, hx, e1.symm⟩
  have any : (es.any fun e => e.key == Value.ref a && e.hash != k.hash w) = false := by
    rw [Bool.eq_false_iff, ← Array.any_toList, ne_eq, List.any_eq_true]
    rintro ⟨e, hin, hc⟩
    obtain ⟨x, hx, rfl⟩ := mem e (Array.mem_toList_iff.mp hin)
    simp only [entN, Bool.and_eq_true, beq_iff_eq, bne_iff_ne, ne_eq, Value.ref.injEq] at hc
    obtain ⟨c1, c2⟩ := hc
    have i := his x hx
    rw [c1] at i
    exact c2 (by rw [NestedIs.inj _ _ _ i hk])
  unfold dictFind
  refine wpAny_holding (wpAny_bind (wpAny_dictEntries ho hdat ?_))
  dsimp only
  by_cases hex : ∃ (j : Nat) (p : Addr × Value), xs[j]? = some (k, p)
  · obtain ⟨j, p, hj⟩ := hex
    have hjl : j < es.size := by rw [hsz]; exact (List.getElem?_eq_some_iff.mp hj).1
    have ej : es[j]? = some ⟨k.hash w, .ref p.1, p.2⟩ := by rw [entN_at he j, hj]; rfl
    have pl : placesWithHash es.size (fun i => es[i]?.map (·.hash)) (k.hash w) = [j] := by
      refine filter_one hjl (by dsimp only; rw [ej]; simp) fun i hi e => ?_
      have hx : ∃ x, xs[i]? = some x := ⟨xs[i]'(by omega), List.getElem?_eq_getElem (by omega)⟩
      obtain ⟨⟨k', p'⟩, hx⟩ := hx
      dsimp only at e
      rw [entN_at he i, hx] at e
      simp only [entN, Option.map_some, beq_iff_eq, Option.some.injEq] at e
      have ek := hf _ (List.mem_of_getElem? hx) e
      have ek' : k' = k := ek
      subst ek'
      exact idxH_unique hn hx hj
    rw [pl]
    have st : [j].filterMap (fun i => es[i]?.map (·.key)) = [Value.ref p.1] := by simp [ej]
    rw [st, if_neg (show ¬ ((Value.ref a :: [Value.ref p.1]).all carriedByValue) = true by simp [carriedByValue]), if_neg (by rw [any]; exact Bool.false_ne_true)]
    have hp : NestedIs s.heap k (.ref p.1) := his _ (List.mem_of_getElem? hj)
    have hsame : PySem.SeqAt.EqAt A s (.ref p.1) (.ref a) true := (eqAt_key k k A s _ _ hp hk (by omega)).cast (NestedKey.beq_self k)
    by_cases one : ([Value.ref p.1] == [Value.ref a]) = true
    all_goals first
      | (rw [if_pos one]; refine wpAny_bind (wpAny_pure ?_))
      | (rw [if_neg one]; refine wpAny_bind (may_any hk (fun u hu' => ⟨k, by rw [List.mem_singleton.mp hu']; exact hp⟩) fun b => ?_))
    all_goals
      rw [if_neg (by simp)]
      refine wpAny_bind (wpAny_forIn_list _ (fun rest r s' => rest = [j] ∧ r = (none, none) ∧ s' = s) _ (fun x rest r s' h => ?_) (fun r s' h => absurd h.1 (by simp)) _ _ ⟨rfl, rfl, rfl⟩)
      obtain ⟨e1, rfl, rfl⟩ := h
      obtain ⟨rfl, rfl⟩ := List.cons.inj e1
      rw [ej]
      dsimp only
      rw [if_pos (beq_self_eq_true _)]
      refine wpAny_bind (wpAny_dictEpoch ho hdat (wpAny_bind (hsame _ _ _ _ (wpAny_bind (wpAny_dictEpoch ho hdat ?_)))))
      rw [if_neg (by simp)]
      simp only [if_true, Option.isSome_none, Bool.false_eq_true, if_false]
      refine wpAny_bind (wpAny_rule ?_)
      rw [if_pos (by simp)]
      exact wpAny_pure (wpAny_pure (hsome _ _ hj))
  · have no : ∀ (j : Nat) (p : Addr × Value), xs[j]? ≠ some (k, p) := fun j p e => hex ⟨j, p, e⟩
    have pl : placesWithHash es.size (fun i => es[i]?.map (·.hash)) (k.hash w) = [] := by
      refine filter_none fun i hi => ?_
      dsimp only
      obtain ⟨⟨k', p'⟩, hx⟩ : ∃ x, xs[i]? = some x := ⟨xs[i]'(by omega), List.getElem?_eq_getElem (by omega)⟩
      rw [entN_at he i, hx, Bool.eq_false_iff]
      intro e
      simp only [entN, Option.map_some, beq_iff_eq, Option.some.injEq] at e
      have ek' : k' = k := hf _ (List.mem_of_getElem? hx) e
      subst ek'
      exact no i p' hx
    rw [pl, List.filterMap_nil, if_neg (show ¬ ([Value.ref a].all carriedByValue) = true by simp [carriedByValue]), if_neg (by rw [any]; exact Bool.false_ne_true), if_neg (by simp)]
    refine wpAny_bind (may_any hk (fun u hu' => nomatch hu') fun b => ?_)
    rw [if_neg (by simp)]
    refine wpAny_bind (wpAny_forIn_list _ (fun rest r s' => rest = [] ∧ r = (none, none) ∧ s' = s) _ (fun x rest r s' h => absurd h.1 (by simp)) (fun r s' h => ?_) _ _ ⟨rfl, rfl, rfl⟩)
    obtain ⟨_, rfl, rfl⟩ := h
    exact wpAny_pure (hnone no)
end Nd
end
section
set_option Elab.async false
set_option linter.all false
set_option maxRecDepth 100000
set_option maxHeartbeats 4000000
/-! d[k], d[k] = v, k in d for such keys. -/
namespace Nd
open PySem
variable {prog : Program} {w : World}
/-- what a dict's object holds -/
structure Raw (w : World) (o : Obj) (xs : List (NK × Addr × Value)) : Prop where
  ex : o.ExactDict
  dat : ∃ es ep, o.data = .dict es ep ∧ es.toList = xs.map (entN w)
  nd : (xs.map (·.1)).Nodup
theorem Fine.of {ks ks' : List NK} {k : NK} (h : Fine w ks k) (m : ∀ x ∈ ks', x ∈ ks) : Fine w ks' k := by
  rcases h with ⟨h1, h2⟩ | h
  · exact .inl ⟨h1, fun x hx => h2 x (m x hx)⟩
  · exact .inr fun x hx => h x (m x hx)
section
variable {A : Around} {E : Value → Shared → Prop} {s : Shared} {d a : Addr} {o : Obj} {xs : List (NK × Addr × Value)} {k : NK}
theorem find_N {es : Array DictEntry} {ep : Nat} {Q : Option Nat → Shared → Prop} (hu : A.units + 16 < cLine) (hk : NestedIs s.heap k (.ref a)) (hd : k.depth ≤ 16) (ho : s.heap.get? d = some o) (hdat : o.data = .dict es ep) (he : es.toList = xs.map (entN w)) (his : ∀ x ∈ xs, NestedIs s.heap x.1 (.ref x.2.1))
    (hn : (xs.map (·.1)).Nodup) (hf : Fine w (xs.map (·.1)) k) (hnone : (∀ (j : Nat) (p : Addr × Value), xs[j]? ≠ some (k, p)) → Q none s) (hsome : ∀ (j : Nat) (p : Addr × Value), xs[j]? = some (k, p) → Q (some j) s) : wpAny (model prog w) A (dictFind d (.ref a) (k.hash w)) Q E s := by
  rcases hf with ⟨h1, h2⟩ | hf
  · have hu8 : A.units + 8 < cLine := by omega
    exact wpAny_dictFind_heap (knd := nestedKind prog w) hu8 ⟨hk, h1⟩ ho hdat he (fun x hx => ⟨his x hx, h2 _ (List.mem_map_of_mem hx)⟩) hn hnone hsome
  · exact find_deep hu hk hd ho hdat he his hn (fun x hx e => hf _ (List.mem_map_of_mem hx) e) hnone hsome
theorem get_N {Q : Option Value → Shared → Prop} (hu : A.units + 16 < cLine) (hk : NestedIs s.heap k (.ref a)) (hd : k.depth ≤ 16) (ho : s.heap.get? d = some o) (r : Raw w o xs) (his : ∀ x ∈ xs, NestedIs s.heap x.1 (.ref x.2.1)) (hf : Fine w (xs.map (·.1)) k)
    (h : ∀ tk, Q ((atKey xs k).map (·.2)) { s with toks := tk }) : wpAny (model prog w) A (dictGet d (.ref a)) Q E s := by
  obtain ⟨es, ep, hdat, he⟩ := r.dat
  unfold dictGet
  refine wpAny_holding (wpAny_bind (pyHash_key k _ A s _ hk (by omega) (wpAny_bind (find_N (s := { s with toks := s.toks + k.draws }) hu hk hd ho hdat he his r.nd hf (fun no => ?_) fun j p hj => ?_))))
  · have q := h (s.toks + k.draws)
    rw [atKey_none_of_get no] at q
    exact wpAny_pure q
  · have q := h (s.toks + k.draws)
    rw [atKey_of_get r.nd hj] at q
    refine wpAny_bind (wpAny_dictEntries (s := { s with toks := s.toks + k.draws }) ho hdat ?_)
    rw [entN_at he j, hj]
    exact wpAny_pure q
theorem set_N {v : Value} {Q : Unit → Shared → Prop} (hu : A.units + 16 < cLine) (hk : NestedIs s.heap k (.ref a)) (hd : k.depth ≤ 16) (ho : s.heap.get? d = some o) (r : Raw w o xs) (his : ∀ x ∈ xs, NestedIs s.heap x.1 (.ref x.2.1)) (hf : Fine w (xs.map (·.1)) k) (hz : xs.length < 1000)
    (hQ : ∀ h' tk o', h'.get? d = some o' → Raw w o' (storedH xs k a v) → Heap.SameBut d s.heap h' → Q () { s with heap := h', toks := tk }) : wpAny (model prog w) A (dictSet d (.ref a) v) Q E s := by
  obtain ⟨es, ep, hdat, he⟩ := r.dat
  have hl : es.size = xs.length := by rw [← Array.length_toList, he, List.length_map]
  have zz : es.size ≤ sizeLine := Nat.le_trans (show es.size ≤ 1000 by omega) (by decide)
  unfold dictSet
  refine wpAny_holding (wpAny_bind (pyHash_key k _ A s _ hk (by omega) ?_))
  unfold dictSetHashed
  refine wpAny_holding (wpAny_bind (find_N (s := { s with toks := s.toks + k.draws }) hu hk hd ho hdat he his r.nd hf (fun no => ?_) fun j p hj => ?_))
  · have hnot : k ∉ xs.map (·.1) := not_mem_keys_of_get no
    have es' : storedH xs k a v = xs ++ [(k, a, v)] := storedH_new (atKey_none_of_get no) a v
    refine wpAny_bind (wpAny_rule (wpAny_updateDictKeys (hz := zz) (s := { s with toks := s.toks + k.draws }) ho hdat (hQ _ _ _ (Heap.get?_update_self _ ho (Obj.isFreed_of_dict (Obj.data_mapDictKeys hdat _))) ⟨r.ex.mapDictKeys _, ⟨_, ep + 1, Obj.data_mapDictKeys hdat _, ?_⟩, ?_⟩ (Heap.SameBut.update ..))))
    · rw [es']
      simp [he, entN]
    · rw [es', List.map_append, List.nodup_append]
      refine ⟨r.nd, by simp, fun x hx y hy => ?_⟩
      have e : y = k := by simpa using hy
      rw [e]
      exact fun z => hnot (z ▸ hx)
  · have es' : storedH xs k a v = xs.map (putAt k v) := storedH_old (atKey_of_get r.nd hj) a v
    refine wpAny_bind (wpAny_rule (wpAny_bind (wpAny_updateDict (s := { s with toks := s.toks + k.draws }) ho hdat (wpAny_point (hQ _ _ _ (Heap.get?_update_self _ ho (Obj.isFreed_of_dict (Obj.data_mapDict hdat _))) ⟨r.ex.mapDict _, ⟨_, ep, Obj.data_mapDict hdat _, ?_⟩, ?_⟩ (Heap.SameBut.update ..))))))
    · rw [es']
      have z := modify_map_putAt (entN w) (fun e : DictEntry => { e with val := v }) k v (fun _ _ => rfl) r.nd hj
      rw [← he] at z
      obtain ⟨l⟩ := es
      simpa using z
    · rw [es', keys_map_putAt]
      exact r.nd
theorem has_N {Q : Bool → Shared → Prop} (hs : (d == sysModules) = false) (hu : A.units + 17 < cLine) (hk : NestedIs s.heap k (.ref a)) (hd : k.depth ≤ 16) (ho : s.heap.get? d = some o) (r : Raw w o xs) (his : ∀ x ∈ xs, NestedIs s.heap x.1 (.ref x.2.1)) (hf : Fine w (xs.map (·.1)) k)
    (h : ∀ tk, Q (atKey xs k).isSome { s with toks := tk }) : wpAny (model prog w) A (contains (.ref d) (.ref a)) Q E s := by
  have ty : s.TypeIs (.ref d) "dict" := ⟨o, ho, r.ex.1⟩
  refine wpAny_contains_slot ty F.slot_dict_contains (call_meetsIn F.slot_dict_contains ty F.entry_dict_contains (F.args_dict_contains_2 _ _) (S := fun A' R s' => A' = A ∧ s' = s ∧ ∀ tk, R (.ok (.ret (.bool (atKey xs k).isSome))) { s with toks := tk }) (fun A' R s' hS => ?_) ⟨rfl, rfl, fun tk => wpAny_truthy_bool (h tk)⟩)
  obtain ⟨rfl, rfl, hq⟩ := hS
  show wpAny _ _ (dictGet d (.ref a) >>= _) _ _ _
  refine wpAny_bind (get_N (by simp only [Around.in1_units]; omega) hk hd ho r his hf fun tk => ?_)
  have q := hq tk
  cases hc : atKey xs k with
  | some p =>
    rw [hc] at q
    show wpAny _ _ (ret (.bool true)) _ _ _
    exact wpAny_pure q
  | none =>
    rw [hc] at q
    show wpAny _ _ (Builtin.Dict.pendingKey? d (.ref a) >>= _) _ _ _
    exact wpAny_bind (wpAny_pendingKey_other hs (wpAny_pure q))
theorem item_N {p : Addr × Value} {Q : Value → Shared → Prop} (hu : A.units + 17 < cLine) (hk : NestedIs s.heap k (.ref a)) (hd : k.depth ≤ 16) (ho : s.heap.get? d = some o) (r : Raw w o xs) (his : ∀ x ∈ xs, NestedIs s.heap x.1 (.ref x.2.1)) (hf : Fine w (xs.map (·.1)) k)
    (hp : atKey xs k = some p) (h : ∀ tk, Q p.2 { s with toks := tk }) : wpAny (model prog w) A (getItem (.ref d) (.ref a)) Q E s := by
  have ty : s.TypeIs (.ref d) "dict" := ⟨o, ho, r.ex.1⟩
  unfold getItem
  refine wpAny_holding (wpAny_bind (wpAny_sequenceKey ty (by decide) (wpAny_bind (wpAny_callSpecial?_slot (name := Str.ofString "__getitem__") ty slot_dict_getitem (wpAny_call_entry slot_dict_getitem ty entry_dict_getitem ?_ (args_dict_getitem _ _))))))
  show wpAny _ _ (dictGet d (.ref a) >>= _) _ _ s
  refine wpAny_bind (get_N (by simp only [Around.in1_units]; omega) hk hd ho r his hf fun tk => ?_)
  rw [hp]
  exact wpAny_pure ⟨p.2, rfl, wpAny_pure (h tk)⟩
theorem put_N {v : Value} {Q : Unit → Shared → Prop} (hu : A.units + 17 < cLine) (hk : NestedIs s.heap k (.ref a)) (hd : k.depth ≤ 16) (ho : s.heap.get? d = some o) (r : Raw w o xs) (his : ∀ x ∈ xs, NestedIs s.heap x.1 (.ref x.2.1)) (hf : Fine w (xs.map (·.1)) k) (hz : xs.length < 1000)
    (hQ : ∀ h' tk o', h'.get? d = some o' → Raw w o' (storedH xs k a v) → Heap.SameBut d s.heap h' → Q () { s with heap := h', toks := tk }) : wpAny (model prog w) A (setItem (.ref d) (.ref a) v) Q E s := by
  have ty : s.TypeIs (.ref d) "dict" := ⟨o, ho, r.ex.1⟩
  unfold setItem
  refine wpAny_holding (wpAny_bind (wpAny_sequenceKey ty (by decide) (wpAny_bind (wpAny_callSpecial?_slot (name := Str.ofString "__setitem__") ty slot_dict_setitem (wpAny_call_entry slot_dict_setitem ty entry_dict_setitem ?_ (args_dict_setitem _ _ _))))))
  show wpAny _ _ (Builtin.Dict.notOrdered "__setitem__" ⟨[.ref d, .ref a, v], []⟩ >>= _) _ _ s
  refine wpAny_bind (wpAny_notOrdered_dict ty ?_)
  show wpAny _ _ (dictSet d (.ref a) v >>= _) _ _ s
  exact wpAny_bind (set_N (by simp only [Around.in1_units]; omega) hk hd ho r his hf hz fun h' tk o' e r' sb => wpAny_pure ⟨.none, rfl, wpAny_pure (hQ h' tk o' e r' sb)⟩)
end
end Nd
end
section
set_option Elab.async false
set_option linter.all false
set_option maxRecDepth 100000
set_option maxHeartbeats 4000000
/-! The walk's rules for dicts with nested keys; min of data; a < b of data. -/
namespace Nd
open PySem PySem.Spec PyProof.Rows L2 DL
mutual
def nk : PyData → NK
  | .bool b => .num (if b = true then 1 else 0)
  | .int i => .num i
  | .str x => .text x
  | .tuple ds => .tup (nks ds)
  | _ => .none
def nks : List PyData → List NK
  | [] => []
  | d :: ds => nk d :: nks ds
end
section
variable {X : Cx} {pins : List (Addr × Obj)} {σ : L2.St} {Hk H : Hp} {s : Shared}
mutual
theorem nested_of (I : Inv X pins σ H s) (sm : Same Hk H) : ∀ (d : PyData) (v : V) (u : Value), noL d = true → Dq X.K Hk v d → RelV v u → NestedIs s.heap (nk d) u
  | .none, _, _, _, h, r => by cases h; cases r; exact .none
  | .bool b, _, _, _, h, r => by cases h; cases r; exact .bool rfl
  | .int i, _, _, _, h, r => by
    cases h
    obtain ⟨t, rfl⟩ := r
    exact .int i t
  | .str x, _, _, _, h, r => by
    cases h
    obtain ⟨t, rfl⟩ := r
    exact .text x t
  | .list ds, _, _, q, _, _ => by cases q
  | .tuple ds, _, _, q, h, r => by
    cases h with
    | tup h1 h2 =>
      cases r
      obtain ⟨us, ob, n, rv, g, c, dn, dd, z⟩ := pl_obj I (h1.up sm)
      exact .tup g c dd (by simpa using nested_all I sm ds _ us q h2 rv)
  | .dict _, _, _, _, h, _ => by cases h
theorem nested_all (I : Inv X pins σ H s) (sm : Same Hk H) : ∀ (ds : List PyData) (vs : List V) (us : List Value), noLs ds = true → DqAll X.K Hk vs ds → Vals vs us → NestedAll s.heap (nks ds) us
  | [], _, _, _, h, r => by cases h; cases r; exact .nil
  | d :: ds, _, _, q, h, r => by
    have q' : (noL d && noLs ds) = true := q
    rw [Bool.and_eq_true] at q'
    cases h with
    | cons h1 h2 =>
      cases r with
      | cons r1 r2 => exact .cons (nested_of I sm d _ _ q'.1 h1 r1) (nested_all I sm ds _ _ q'.2 h2 r2)
end
end
/-! ### a dict by its object -/
def dO (d : Addr) (o : Obj) : HO := .ext fun h => h.get? d = some o
theorem dO_ok {P : Program} {w : World} {H : Hp} {h : Heap} {d : Addr} {o : Obj} (e : h.get? d = some o) : ObjOk P w H h d (dO d o) := ⟨e, ⟨_, e⟩, fun _ _ x k => k _ x⟩
theorem dO_get {P : Program} {w : World} {H : Hp} {h : Heap} {d : Addr} {o : Obj} (ok : HOk P w H h) (e : H d = some (dO d o)) : h.get? d = some o := (ok d _ e).1
abbrev Ent := NK × Addr × V
abbrev EV : List Ent → List (NK × Addr × Value) → Prop := Paired fun p q => p.1 = q.1 ∧ p.2.1 = q.2.1 ∧ RelV p.2.2 q.2.2
structure DictR (w : World) (d : Addr) (o : Obj) (es : List Ent) : Prop where
  r : ∃ xs, Raw w o xs ∧ EV es xs
  hs : (d == sysModules) = false
def entAt (es : List Ent) (k : NK) : Option V := (es.find? fun x => decide (x.1 = k)).map (·.2.2)
def putE (es : List Ent) (k : NK) (a : Addr) (v : V) : List Ent := if (entAt es k).isSome then es.map (fun x => if x.1 = k then (x.1, x.2.1, v) else x) else es ++ [(k, a, v)]
theorem ev_at {k : NK} : ∀ {es : List Ent} {xs : List (NK × Addr × Value)}, EV es xs → (entAt es k = none ∧ atKey xs k = none) ∨ ∃ v a u, entAt es k = some v ∧ atKey xs k = some (a, u) ∧ RelV v u
  | _, _, .nil => .inl ⟨rfl, rfl⟩
  | _, _, @Paired.cons _ _ _ p q es xs h t => by
    unfold entAt atKey
    rw [List.find?_cons, List.find?_cons, ← h.1]
    by_cases e : p.1 = k
    · rw [decide_eq_true e]
      exact .inr ⟨p.2.2, q.2.1, q.2.2, rfl, rfl, h.2.2⟩
    · rw [decide_eq_false e]
      exact ev_at t
theorem ev_some {k : NK} {es : List Ent} {xs : List (NK × Addr × Value)} (h : EV es xs) : (entAt es k).isSome = (atKey xs k).isSome := by
  rcases ev_at (k := k) h with ⟨h1, h2⟩ | ⟨v, a, u, h1, h2, _⟩
  · rw [h1, h2]; rfl
  · rw [h1, h2]; rfl
theorem ev_put {k : NK} {a : Addr} {v : V} {u : Value} (r : RelV v u) {es : List Ent} {xs : List (NK × Addr × Value)} (h : EV es xs) : EV (putE es k a v) (storedH xs k a u) := by
  unfold putE storedH
  rw [ev_some h]
  by_cases c : (atKey xs k).isSome = true
  · rw [if_pos c, if_pos c]
    clear c
    induction h with
    | nil => exact .nil
    | @cons p q es xs h t ih =>
      rw [List.map_cons, List.map_cons]
      refine .cons ?_ ih
      unfold putAt
      rw [← h.1]
      by_cases e : p.1 = k
      · rw [if_pos e, if_pos e]; exact ⟨rfl, h.2.1, r⟩
      · rw [if_neg e, if_neg e]; exact h
  · rw [if_neg c, if_neg c]
    induction h with
    | nil => exact .cons ⟨rfl, rfl, r⟩ .nil
    | @cons p q es xs h t ih =>
      refine .cons h (ih fun z => c ?_)
      unfold atKey at z ⊢
      rw [List.find?_cons]
      by_cases e : q.1 = k
      · rw [decide_eq_true e]; rfl
      · rw [decide_eq_false e]; exact z
theorem ev_keys : ∀ {es : List Ent} {xs : List (NK × Addr × Value)}, EV es xs → es.map (·.1) = xs.map (·.1)
  | _, _, .nil => rfl
  | _, _, .cons h t => by rw [List.map_cons, List.map_cons, h.1, ev_keys t]
theorem ev_len {es : List Ent} {xs : List (NK × Addr × Value)} (h : EV es xs) : es.length = xs.length := Paired.length h
theorem ev_idx : ∀ {es : List Ent} {xs : List (NK × Addr × Value)} {i : Nat} {q : NK × Addr × Value}, EV es xs → xs[i]? = some q → ∃ p, es[i]? = some p ∧ p.1 = q.1 ∧ p.2.1 = q.2.1 ∧ RelV p.2.2 q.2.2
  | _, _, _, _, .nil, h => by simp at h
  | _, _, 0, _, .cons h _, e => by cases e; exact ⟨_, rfl, h⟩
  | _, _, i + 1, _, .cons _ t, e => ev_idx (i := i) t e
/-- the keys as data -/
structure KeysN (K : PySem.W.Frag) (Hk : Hp) (es : List Ent) (ds : List PyData) : Prop where
  dq : DqAll K Hk (es.map fun e => V.ref e.2.1) ds
  ks : es.map (·.1) = ds.map nk
  nl : noLs ds = true
theorem KeysN.up {K : PySem.W.Frag} {Hk Hk2 : Hp} {es : List Ent} {ds : List PyData} (h : KeysN K Hk es ds) (e : Same Hk Hk2) : KeysN K Hk2 es ds := ⟨h.dq.up e, h.ks, h.nl⟩
theorem keysN_is {X : Cx} {pins : List (Addr × Obj)} {σ : L2.St} {Hk H : Hp} {s : Shared} (I : Inv X pins σ H s) (sm : Same Hk H) {es : List Ent} {ds : List PyData} {xs : List (NK × Addr × Value)} (k : KeysN X.K Hk es ds) (ev : EV es xs) : ∀ x ∈ xs, NestedIs s.heap x.1 (.ref x.2.1) := by
  unfold EV at ev
  induction ev generalizing ds with
  | nil => exact fun _ z => nomatch z
  | @cons p q es xs h t ih =>
    obtain ⟨k1, k2, k3⟩ := k
    cases ds with
    | nil => simp at k2
    | cons d ds =>
      cases k1 with
      | cons d1 d2 =>
        rw [List.map_cons, List.map_cons] at k2
        obtain ⟨e1, e2⟩ := List.cons.inj k2
        have q' : (noL d && noLs ds) = true := k3
        rw [Bool.and_eq_true] at q'
        intro x hx
        rcases List.mem_cons.mp hx with e | e
        · rw [e, ← h.1, ← h.2.1, e1]
          exact nested_of I sm d _ _ q'.1 d1 rfl
        · exact ih ⟨d2, e2, q'.2⟩ x e
/-- a dict as what an expression is worth -/
def DictP (d : Addr) (o : Obj) (es : List Ent) (ds : List PyData) : PySem.W.Frag → Hp → V → Prop := fun K Hk v => v = .ref d ∧ Hk d = some (dO d o) ∧ KeysN K Hk es ds
abbrev spDict (d : Addr) (o : Obj) (es : List Ent) (ds : List PyData) : Sp1 := .obj (DictP d o es ds) (fun K H H' v s q => ⟨q.1, s _ _ q.2.1, q.2.2.up s⟩)
section
variable {X : Cx} {σ : L2.St} {Hk H : Hp} {e a b c : Expr} {x y : Sp1} {pos cpos pos' : Pos} {D : Ends} {rest : List Stmt} {d : Addr} {o : Obj} {es : List Ent} {ds : List PyData}
/-! k not in d -/
def rNoN (K : PySem.W.Frag) (w : World) : R2 := fun x y H Q => ∃ (Hk : Hp) (d : Addr) (o : Obj) (es : List Ent) (ds : List PyData) (k : PyData) (q : Addr), x = .ref q ∧ y = .ref d ∧ Same Hk H ∧ Dq K Hk (.ref q) k ∧ noL k = true ∧ (nk k).depth ≤ 16 ∧ DictR w d o es ∧ H d = some (dO d o) ∧ KeysN K Hk es ds ∧ Fine w (es.map (·.1)) (nk k) ∧ Q (.bl (!(entAt es (nk k)).isSome)) H
theorem op_noN (hu : X.A.units + 17 < cLine) : OpR X (compareOp .NotIn) (rNoN X.K X.w) := by
  intro pins s σ H x y v u Q I rx ry h
  obtain ⟨Hk, d, o, es, ds, k, q, rfl, rfl, sm, dk, nl, dp, R, hd, kn, fine, hq⟩ := h
  cases rx
  cases ry
  obtain ⟨xs, raw, ev⟩ := R.r
  have ik := nested_of I sm k _ _ nl dk rfl
  show wpAny _ _ (do return Value.bool (!(← contains (.ref d) (.ref q)))) _ X.xe s
  refine wpAny_bind (has_N R.hs hu ik dp (dO_get I.hok hd) raw (keysN_is I sm kn ev) (by rw [← ev_keys ev]; exact fine) fun tk => ?_)
  rw [← ev_some ev]
  exact wpAny_pure ⟨.bl (!(entAt es (nk k)).isSome), H, I.tok _, rfl, hq⟩
theorem cd_noN {k : PyData} (hu : X.A.units + 17 < cLine) (nl : noL k = true) (hk : ∃ ks, k = .tuple ks) (dp : (nk k).depth ≤ 16) (R : DictR X.w d o es) (fine : Fine X.w (es.map (·.1)) (nk k)) : CmpD X .NotIn (.dat k) (spDict d o es ds) (!(entAt es (nk k)).isSome) :=
  ⟨_, op_noN hu, fun v u Hk2 H2 s i1 i2 Q q => by
    obtain ⟨ks, rfl⟩ := hk
    obtain ⟨q1, q2, q3⟩ := i2
    obtain ⟨p, xs, rfl, hp, hx⟩ := dp_tup i1
    exact ⟨Hk2, d, o, es, ds, _, p, rfl, q1, s, i1, nl, dp, R, s _ _ q2, q3, fine, q⟩⟩
/-! d[k] -/
def rGetN (K : PySem.W.Frag) (w : World) : R2 := fun x y H Q => ∃ (Hk : Hp) (d : Addr) (o : Obj) (es : List Ent) (ds : List PyData) (k : PyData) (q : Addr) (v : V), x = .ref d ∧ y = .ref q ∧ Same Hk H ∧ Dq K Hk (.ref q) k ∧ noL k = true ∧ (nk k).depth ≤ 16 ∧ DictR w d o es ∧ H d = some (dO d o) ∧ KeysN K Hk es ds ∧ Fine w (es.map (·.1)) (nk k) ∧ entAt es (nk k) = some v ∧ Q v H
theorem ix_getN (hu : X.A.units + 17 < cLine) : IxR X (rGetN X.K X.w) := by
  intro value slice pins s σ H x y v u Q I rx ry h hs
  obtain ⟨Hk, d, o, es, ds, k, q, v0, rfl, rfl, sm, dk, nl, dp, R, hd, kn, fine, hv, hq⟩ := h
  cases rx
  cases ry
  obtain ⟨xs, raw, ev⟩ := R.r
  have ik := nested_of I sm k _ _ nl dk rfl
  have ho := dO_get I.hok hd
  rcases ev_at (k := nk k) ev with ⟨h1, _⟩ | ⟨v1, a1, u1, h1, h2, r⟩
  · rw [h1] at hv; cases hv
  · rw [h1] at hv
    cases hv
    exact tail_any (show s.TypeIs (.ref d) "dict" from ⟨o, ho, raw.ex.1⟩) slot_dict_getitem.lookup (item_N hu ik dp ho raw (keysN_is I sm kn ev) (by rw [← ev_keys ev]; exact fine) h2 fun tk => ⟨v0, H, I.tok _, r, hq⟩) hs
theorem ve_itN {k : PyData} {v : V} (hu : X.A.units + 17 < cLine) (ha : VE X σ Hk a (spDict d o es ds)) (hb : VE X σ Hk b (.dat k)) (nl : noL k = true) (hk : ∃ ks, k = .tuple ks) (dp : (nk k).depth ≤ 16) (R : DictR X.w d o es) (fine : Fine X.w (es.map (·.1)) (nk k)) (hv : entAt es (nk k) = some v) (hs : PlainIx b := by exact fun _ _ => rfl) : VE X σ Hk (.Subscript a b pos) (.val v) :=
  ve_of (pe_ix (ix_getN hu) pe_w pe_w hs) fun H s Q q => ha.bin hb s fun x y Hk2 H2 E i1 i2 => by
    obtain ⟨ks, rfl⟩ := hk
    obtain ⟨q1, q2, q3⟩ := i1
    obtain ⟨p, xs, rfl, hp, hx⟩ := dp_tup i2
    exact ⟨Hk2, d, o, es, ds, _, p, v, q1, rfl, E.sub, i2, nl, dp, R, E.sub _ _ q2, q3, fine, hv, q v Hk2 H2 E rfl⟩
theorem VE.isV {v : V} (h : VE X σ Hk e (.val v)) (i : Is X.K Hk v y) : VE X σ Hk e y := fun H s Q q => h H s _ fun u Hk2 H2 E i2 => by
  have e2 : u = v := i2
  subst e2
  exact q _ Hk2 H2 E (i.up E.kk)
/-! d[k] = v -/
def rPutN (K : PySem.W.Frag) (w : World) : TSet := fun x y v H Q => ∃ (Hk : Hp) (d : Addr) (o : Obj) (es : List Ent) (ds : List PyData) (k : PyData) (q : Addr), x = .ref d ∧ y = .ref q ∧ Same Hk H ∧ Dq K Hk (.ref q) k ∧ noL k = true ∧ (nk k).depth ≤ 16 ∧ DictR w d o es ∧ H d = some (dO d o) ∧ KeysN K Hk es ds ∧ Fine w (es.map (·.1)) (nk k) ∧ es.length < 1000 ∧
  ∀ o', DictR w d o' (putE es (nk k) q v) → Q (upd H d (dO d o'))
theorem set_putN (hu : X.A.units + 17 < cLine) : PSet X (rPutN X.K X.w) := by
  intro pins s σ H x y v ov iv u Q I rx ry rv h
  obtain ⟨Hk, d, o, es, ds, k, q, rfl, rfl, sm, dk, nl, dp, R, hd, kn, fine, hz, hq⟩ := h
  cases rx
  cases ry
  obtain ⟨xs, raw, ev⟩ := R.r
  have ik := nested_of I sm k _ _ nl dk rfl
  refine put_N hu ik dp (dO_get I.hok hd) raw (keysN_is I sm kn ev) (by rw [← ev_keys ev]; exact fine) (by rw [← ev_len ev]; exact hz) fun h' tk o' e r' sb => ?_
  exact ⟨_, I.write (t' := tk) (x := d) (e := d) (by rw [hd]; exact trivial) (.inl rfl) (fun b ob hb z => (sb.2 b hb).trans z) ⟨_, e⟩ (dO_ok e), hq o' ⟨⟨_, r', ev_put rv ev⟩, R.hs⟩⟩
theorem xs_putN {k : PyData} (hu : X.A.units + 17 < cLine) (s : Same Hk H) (hv : VE X σ Hk e x) (ho : VE X σ Hk a (spDict d o es ds)) (hi : VE X σ Hk b (.dat k)) (nl : noL k = true) (hk : ∃ ks, k = .tuple ks) (dp : (nk k).depth ≤ 16) (R : DictR X.w d o es) (fine : Fine X.w (es.map (·.1)) (nk k)) (hz : es.length < 1000)
    (q : ∀ v p o' Hk2 H2, Ext M0 Hk H Hk2 H2 → Is X.K Hk2 v x → Dq X.K Hk2 (.ref p) k → DictR X.w d o' (putE es (nk k) p v) → WSs X rest D σ (upd H2 d (dO d o')))
    (hs : swapsWithSole [.Subscript a b pos'] e pos.line X.env = pure false := by rfl) (hw : swappedStores [.Subscript a b pos'] e X.env = pure none := by rfl) (h1 : (assignEach [.Subscript a b pos'] X.env).map (·.2) = [assign (.Subscript a b pos') X.env] := by rfl)
    (hg : PG X (.Subscript a b pos') (gSub (WE X a) (WE X b) (rPutN X.K X.w)) := by exact pg_sub pe_w pe_w (set_putN (by assumption))) :
    WSs X (.Assign [.Subscript a b pos'] e pos :: rest) D σ H :=
  wss_cons (ws (ps_asg pe_w hg hs hw h1) (hv H s _ fun v Hk1 H1 E1 i1 => (ho.up E1.kk) H1 E1.sub _ fun o2 Hk2 H2 E2 i2 => ((hi.up E1.kk).up E2.kk) H2 E2.sub _ fun y Hk3 H3 E3 i3 => by
    obtain ⟨ks, rfl⟩ := hk
    obtain ⟨q1, q2, q3⟩ := i2
    obtain ⟨p, xs, rfl, hp, hx⟩ := dp_tup i3
    exact ⟨Hk3, d, o, es, ds, _, p, q1, rfl, E3.sub, i3, nl, dp, R, E3.sub _ _ (E3.kk _ _ q2), q3.up E3.kk, fine, hz, fun o' R' => q v p o' Hk3 H3 ((E1.trans E2).trans E3) ((i1.up E2.kk).up E3.kk) i3 R'⟩))
end
end Nd
end
section
set_option Elab.async false
set_option linter.all false
set_option maxRecDepth 100000
set_option maxHeartbeats 4000000
/-! Walks over the keys, a display of one pair, min of data, a < b of data. -/
namespace Nd
open PySem PySem.Spec PyProof.Rows L2 DL
/-! ### for k in d -/
def ItN (d : Addr) (o : Obj) (es : List Ent) : It :=
  ⟨fun i H => H d = some (dO d o) ∧ i < es.length, fun i H x H' => H' = H ∧ ∃ e, es[i]? = some e ∧ x = .ref e.2.1, fun i H => H d = some (dO d o) ∧ es.length ≤ i⟩
theorem dictR_at {w : World} {d : Addr} {o : Obj} {es : List Ent} (R : DictR w d o es) : ∃ ents ep, o.data = .dict ents ep ∧ ents.size = es.length ∧ ∀ (i : Nat) (e : Ent), es[i]? = some e → ∃ en, ents[i]? = some en ∧ en.key = .ref e.2.1 := by
  obtain ⟨xs, raw, ev⟩ := R.r
  obtain ⟨ents, ep, hd, he⟩ := raw.dat
  have l := ev_len ev
  refine ⟨ents, ep, hd, by rw [← Array.length_toList, he, List.length_map]; exact l.symm, fun i e h => ?_⟩
  obtain ⟨q, hq⟩ : ∃ q, xs[i]? = some q := ⟨xs[i]'(by have := (List.getElem?_eq_some_iff.mp h).1; omega), List.getElem?_eq_getElem _⟩
  obtain ⟨p, hp, e1, e2, _⟩ := ev_idx ev hq
  rw [h] at hp
  cases hp
  exact ⟨_, by rw [entN_at he i, hq]; rfl, by rw [e2]; rfl⟩
theorem turnN {P : Program} {w : World} {K : PySem.W.Frag} {tg : Expr} {d : Addr} {o : Obj} {es : List Ent} {ents : Array DictEntry} {ep : Nat} (it : Addr) (R : DictR w d o es) (hod : o.data = .dict ents ep) (hsz : ents.size = es.length) : Turn P w K tg (ItN d o es) [it] it (fun i h => h.IsKeyIter it d i es.length ep) := by
  refine ⟨List.mem_singleton.mpr rfl, fun i h st b hb => ?_, fun i h h' st k => st.at fun oi e => k it (List.mem_singleton.mpr rfl) oi e, ?_, ?_, fun A i s Q E st h => ?_⟩
  · have e := List.mem_singleton.mp hb
    subst e
    obtain ⟨oi, e, c, dd⟩ := st
    exact ⟨oi, e, fun v z => by rw [dd] at z; cases z⟩
  · intro X hP hw hK hc i pins s σ H E I hf st ⟨hd, hi⟩
    subst hP hw hK
    obtain ⟨f0, f1, f2, f3, f4, f5⟩ := hf it (List.mem_singleton.mpr rfl)
    obtain ⟨e, he⟩ : ∃ e, es[i]? = some e := ⟨es[i], List.getElem?_eq_getElem hi⟩
    obtain ⟨ents', ep', hd', hsz', at'⟩ := dictR_at R
    rw [hod] at hd'
    cases hd'
    obtain ⟨en, hen, hk⟩ := at' i e he
    refine next_key_item st (dO_get I.hok hd) hod hsz hen fun h' st' sb => ?_
    have I1 : Inv X pins σ H { s with heap := h' } := I.turned (t' := s.toks) (fun b ob hb z => (sb.2 b hb).trans z) f0 f1 f3 f4 f5
    obtain ⟨oi, z, c, dd⟩ := id st'
    exact ⟨en.key, rfl, go_of (s := { s with heap := h' }) z c dd (by decide) ⟨.ref e.2.1, H, I1, hk, ⟨rfl, e, he, rfl⟩, st', fun b hb => (hf b hb).1⟩⟩
  · intro X hP hw hK hc i pins s σ H E I hf st ⟨hd, hi⟩
    subst hP hw hK
    obtain ⟨f0, f1, f2, f3, f4, f5⟩ := hf it (List.mem_singleton.mpr rfl)
    exact next_key_end (I.ok.hd hc) st (dO_get I.hok hd) hod hsz hi fun h' eb => ⟨rfl, I.turned (t' := s.toks) (fun b ob hb z => eb b ob hb z) f0 f1 f3 f4 f5⟩
  · refine wpAny_pyIter_slot st.typeIs F.slot_dict_keyiterator_iter (wpAny_call_entry F.slot_dict_keyiterator_iter st.typeIs F.entry_dict_keyiterator_iter ?_ (F.args_dict_keyiterator_iter_1 _))
    show wpAny _ _ (ret (.ref it)) _ _ s
    exact wpAny_pure ⟨_, rfl, "dict_keyiterator", _, st.typeIs, F.slot_dict_keyiterator_next.lookup, h⟩
section
variable {X : Cx} {σ : L2.St} {Hk H : Hp} {e a b c k v : Expr} {x y : Sp1} {pos cpos pos' p : Pos} {D : Ends} {rest : List Stmt} {d : Addr} {o : Obj} {es : List Ent} {ds : List PyData}
def iKeysN (w : World) (td : TE) : TI := fun σ H R => td σ H fun x H1 => ∃ (d : Addr) (o : Obj) (es : List Ent), x = .ref d ∧ H1 d = some (dO d o) ∧ DictR w d o es ∧ R (ItN d o es) H1
theorem pi_keysN {tg : Expr} {td : TE} (he : PE X e td) : PI X tg e (iKeysN X.w td) := by
  refine ⟨fun pins s σ H R I h => thn (he.run pins s σ H _ I h) fun u s1 ⟨x, H1, I1, rx, d, o, es, ex, hd, r, q⟩ => ?_⟩
  subst ex
  obtain rfl : u = Value.ref d := rx
  obtain ⟨xs, raw, ev⟩ := r.r
  obtain ⟨ents, ep, hdat, hsz, _⟩ := dictR_at r
  refine iter_keys r.hs (dO_get I1.hok hd) raw.ex hdat (pi_one (tk := s1.toks) I1 _ (turnN _ r hdat hsz) ⟨_, Heap.get?_push_size _ rfl, rfl, ?_⟩ q)
  rw [hsz] <;> rfl
theorem jok_keysN {K : PySem.W.Frag} (hd : Hk d = some (dO d o)) (kn : KeysN K Hk es ds) : JOk K (ItN d o es) Hk ds := by
  have l : es.length = ds.length := by have := kn.dq.len; rw [List.length_map] at this; exact this
  refine ⟨fun i H s hi => ⟨s _ _ hd, by omega⟩, fun i H s hi => ⟨s _ _ hd, by omega⟩, fun i H x H' hi h Hq kk s => ?_⟩
  obtain ⟨rfl, e, he, rfl⟩ := h
  obtain ⟨d', hd'⟩ : ∃ d, ds[i]? = some d := ⟨ds[i], List.getElem?_eq_getElem hi⟩
  obtain ⟨v, hv, dv⟩ := kn.dq.at hd'
  rw [List.getElem?_map, he] at hv
  cases hv
  exact ⟨d', Hq, hd', Ext.refl s, dv.up kk⟩
theorem vi_keysN {tg : Expr} (R : DictR X.w d o es) (h : VE X σ Hk e (spDict d o es ds)) : VI X σ Hk tg e ds :=
  ⟨_, pi_keysN pe_w, fun H s Rr q => h H s _ fun v Hk1 H1 E1 i1 => by
    obtain ⟨q1, q2, q3⟩ := i1
    exact ⟨d, o, es, q1, E1.sub _ _ q2, R, q _ Hk1 H1 E1 (jok_keysN q2 q3)⟩⟩
/-! ### {k: v} -/
def emptyO : Obj := { cls := .type "dict", data := .dict #[] }
theorem emptyR {w : World} {d : Addr} (h : (d == sysModules) = false) : DictR w d emptyO [] := ⟨⟨[], ⟨⟨rfl, rfl, rfl⟩, ⟨#[], 0, rfl, rfl⟩, List.nodup_nil⟩, .nil⟩, h⟩
def tDisp1 (K : PySem.W.Frag) (w : World) (tk tv : TE) : TE := fun σ H Q => ∀ p, H p = none → (p == sysModules) = false → tk σ (upd H p (dO p emptyO)) fun x H1 => tv σ H1 fun y H2 => H2 p = some (dO p emptyO) ∧ ∃ (Hk : Hp) (q : Addr) (k : PyData), x = .ref q ∧ Same Hk H2 ∧ Dq K Hk (.ref q) k ∧ noL k = true ∧ (nk k).depth ≤ 8 ∧
  ∀ o', DictR w p o' [(nk k, q, y)] → Q (.ref p) (upd H2 p (dO p o'))
theorem pe_disp1 {tk tv : TE} (hu : X.A.units + 8 < cLine) (hk : PE X k tk) (hv : PE X v tv) : PE X (.Dict [some k] [v] pos) (tDisp1 X.K X.w tk tv) := by
  refine ⟨fun pins s σ H Q I q => ?_⟩
  have hn := I.hok.fresh (Nat.le_refl s.heap.objs.size)
  have hs : (s.heap.objs.size == sysModules) = false := beq_eq_false_iff_ne.mpr (Nat.ne_of_gt I.big)
  have e0 : (s.heap.push emptyO).get? s.heap.objs.size = some emptyO := Heap.get?_push_size _ rfl
  have I1 := I.laid (a := s.heap.objs.size) (o := dO s.heap.objs.size emptyO) (h' := s.heap.push emptyO) (t' := s.toks) (fun _ _ z => Heap.get?_push_of_some _ z) (Nat.le_refl _) (dO_ok e0)
  rw [arm_eval_Dict, zip_pairTrees [some k] [v] X.env pos rfl rfl, dictDisplay_pairs (pairTrees [some k] [v] X.env pos) (by simp [pairTrees]) (by simp [pairTrees])]
  refine wpAny_bind (wpAny_standAt (wpAny_bind (wpAny_subDictH (knd := nestedKind X.prog X.w) hu (by simp [pairTrees]) ?_)))
  refine pairTrees_cons_walk (thn (hk.run pins _ σ _ _ I1 (q _ hn hs)) fun ku s1 ⟨x, H1, I2, rx, q1⟩ => thn (hv.run pins s1 σ H1 _ I2 q1) fun vu s2 ⟨y, H2, I3, ry, e, Hk, qa, kd, ex, sm, dk, nl, dp, q2⟩ => pairTrees_nil_walk ?_)
  subst ex
  obtain rfl : ku = Value.ref qa := rx
  have ho := dO_get I3.hok e
  have ik := nested_of I3 sm kd _ _ nl dk rfl
  refine ⟨[(nk kd, qa, vu)], ⟨rfl, rfl, ⟨ik, dp⟩, trivial⟩, ⟨emptyO, #[], 0, ho, ⟨rfl, rfl, rfl⟩, rfl, rfl, (fun _ z => nomatch z), List.nodup_nil⟩, fun h' tk' dh sb => ?_⟩
  obtain ⟨o', es', ep', ho', hx', hd', he', _, hn'⟩ := dh
  have est : storedAllH ([] : List (NK × Addr × Value)) [(nk kd, qa, vu)] = [(nk kd, qa, vu)] := rfl
  rw [est] at he' hn'
  refine wpAny_pure ⟨.ref s.heap.objs.size, _, I3.write (t' := tk') (x := s.heap.objs.size) (e := s.heap.objs.size) (by rw [e]; exact trivial) (.inl rfl) (fun b ob hb z => (sb.2 b hb).trans z) ⟨_, ho'⟩ (dO_ok ho'), rfl, q2 o' ⟨⟨_, ⟨hx', ⟨es', ep', hd', he'⟩, hn'⟩, .cons ⟨rfl, rfl, ry⟩ .nil⟩, hs⟩⟩
/-! ### a < b of data -/
def rLtD (K : PySem.W.Frag) : R2 := fun x y H Q => ∃ (Hk : Hp) (da db : PyData), Same Hk H ∧ Dq K Hk x da ∧ Dq K Hk y db ∧ PySem.W.alike da db = true ∧ da ≠ .none ∧ da.depth ≤ 16 ∧ Q (.bl (PySem.W.dataLt da db)) H
theorem op_ltD (hu : X.A.units + 17 < cLine) : OpR X (compareOp .Lt) (rLtD X.K) := by
  intro pins s σ H x y v u Q I rx ry h
  obtain ⟨Hk, da, db, sm, h1, h2, al, nn, dp, q⟩ := h
  obtain ⟨as, ra⟩ := Dp.reads I _ _ _ (dq_dp _ _ (h1.up sm)) rx
  obtain ⟨bs, rb⟩ := Dp.reads I _ _ _ (dq_dp _ _ (h2.up sm)) ry
  exact PySem.W.rcLt_alike da db X.A s v u as bs ra rb al nn (by have := Nat.min_le_left da.depth db.depth; omega) X.prog X.w _ _ ⟨.bl (PySem.W.dataLt da db), H, I.tok _, rfl, q⟩
theorem cd_ltD {da db : PyData} (hu : X.A.units + 17 < cLine) (al : PySem.W.alike da db = true) (nn : da ≠ .none) (dp : da.depth ≤ 16) : CmpD X .Lt (.dat da) (.dat db) (PySem.W.dataLt da db) :=
  ⟨_, op_ltD hu, fun v u Hk2 H2 s i1 i2 Q q => ⟨Hk2, da, db, s, i1, i2, al, nn, dp, q⟩⟩
/-! ### min(l) -/
def rMinD (K : PySem.W.Frag) : List V → Hp → VK → Prop := fun vs H Q => ∃ (Hk : Hp) (q : Addr) (xs : List V) (d : PyData) (ds : List PyData), vs = [.ref q] ∧ Same Hk H ∧ Hk q = some (.lst xs) ∧ DqAll K Hk xs (d :: ds) ∧ PySem.W.AlikeAll (d :: ds) ∧ PyData.depthAll (d :: ds) ≤ 16 ∧
  ∀ v, Dq K Hk v (PySem.W.minD d ds) → Q v H
theorem minD_mem : ∀ (ds : List PyData) (d : PyData), PySem.W.minD d ds ∈ d :: ds
  | [], d => List.mem_cons_self
  | x :: ds, d => by
    show PySem.W.minD (if PySem.W.dataLt x d then x else d) ds ∈ d :: x :: ds
    have ih := minD_mem ds (if PySem.W.dataLt x d then x else d)
    rcases List.mem_cons.mp ih with h | h
    · rw [h]
      split
      · simp
      · simp
    · exact List.mem_cons_of_mem _ (List.mem_cons_of_mem _ h)
theorem call_minD (hc : X.calm = true) (hu : X.A.units + 18 < cLine) : CallR X (.builtin "min") (rMinD X.K) := by
  intro pins s σ H vs us Q I r h
  obtain ⟨Hk, q, xs, d, ds, rfl, sm, hl, da, al, dp, hq⟩ := h
  obtain rfl := Vals.ref1 r
  obtain ⟨its, rv, pl, hz⟩ := I.list (SqL.of (sm _ _ hl))
  obtain ⟨as, ra⟩ := Dp.readsAll I _ _ _ (dqAll_dp _ _ (da.up sm)) rv
  refine PySem.W.min_list_data (I.ok.hd hc) pl.isList (by simpa using ra) al (by omega) fun i v h' tk bs hi rd kp => ?_
  have hi' : its[i]? = some v := by simpa using hi
  obtain ⟨v', hv', rr⟩ : ∃ v', xs[i]? = some v' ∧ RelV v' v := by
    have : ∀ {xs : List V} {its : List Value} {i : Nat} {v : Value}, Vals xs its → its[i]? = some v → ∃ v', xs[i]? = some v' ∧ RelV v' v := by
      intro xs its i v r
      induction r generalizing i with
      | nil => intro z; simp at z
      | cons h1 h2 ih =>
        intro z
        cases i with
        | zero => cases z; exact ⟨_, rfl, h1⟩
        | succ i => exact ih z
    exact this rv hi'
  obtain ⟨dd, hd, dv⟩ := da.of hv'
  obtain ⟨cs, rc⟩ := Dp.reads I _ _ _ (dq_dp _ _ (dv.up sm)) rr
  have e := PySem.W.alike_unique _ _ v _ _ (al.1 _ (List.mem_of_getElem? hd) _ (minD_mem ds d)) (PyProof.Rows.Reads.keeps kp rc) rd
  rw [← e] at hq
  exact ⟨v', H, I.kept (t' := tk) kp, rr, hq v' dv⟩
theorem ve_minD {n : Str} {pn : Pos} {d : PyData} {ds : List PyData} (hc : X.calm = true) (hu : X.A.units + 18 < cLine) (hm : X.mg n = none) (h : VE X σ Hk e (.dat (.list (d :: ds)))) (al : PySem.W.AlikeAll (d :: ds)) (dp : PyData.depthAll (d :: ds) ≤ 16)
    (hb : bootBuiltins n = some (.builtin "min") := by decide +kernel) (hg : Gl X n := by rfl) (hn : n ≠ "__name__" := by decide) (hdb : (n == ("__debug__" : Str)) = false := by decide) (he : starEach [e] X.env = (false, eval e X.env) :: starEach [] X.env := by rfl) : VE X σ Hk (.Call (.Name n pn) [e] [] pos) (.dat (PySem.W.minD d ds)) :=
  ve_of (pe_callB (call_minD hc hu) hg hm hb (pa_cons pe_w pa_nil he) hn hdb he) fun H s Q q => h H s _ fun v Hk1 H1 E1 i1 => by
    obtain ⟨a, xs, rfl, hq, hx⟩ := dp_lst i1
    exact ⟨Hk1, a, xs, d, ds, rfl, E1.sub, hq, hx, al, dp, fun v dv => q v Hk1 H1 E1 dv⟩
end
end Nd
end
section
set_option Elab.async false
set_option linter.all false
set_option maxRecDepth 100000
set_option maxHeartbeats 4000000
/-! worst: what is kept of a level -/
namespace W
open PySem PySem.Spec PyProof.Rows L2 DL Tx Mi Ml Nd
/-! ### no lists in a state -/
theorem noL_I (l : List Int) : noLs (encI l) = true := noLs_map _ (fun _ => rfl) l
theorem noL_O (o : Option Int) : noL (encO o) = true := by cases o <;> rfl
theorem noL_E (p : Int × List Int) : noL (encE p) = true := by
  show (noL (.int p.1) && (noL (.tuple (encI p.2)) && true)) = true
  rw [show noL (.tuple (encI p.2)) = noLs (encI p.2) from rfl, noL_I]
  rfl
theorem noL_K : ∀ (k : Kn), noL k.enc = true
  | .str l f t => by
    show (noL (encO l) && (true && (true && true))) = true
    rw [noL_O]; rfl
  | .prs l kn => by
    show (noL (encO l) && (noLs (kn.map encE) && true)) = true
    rw [noL_O, noLs_map _ noL_E]; rfl
  | .both a b => by
    show (noL a.enc && (noL b.enc && true)) = true
    rw [noL_K a, noL_K b]; rfl
theorem noL_S (s : Sta) : noL s.enc = true := by
  show (noLs (s.shelf.map encS1) && (noLs (s.way.map encW1) && (noL s.kn.enc && true))) = true
  rw [noLs_map _ (fun _ => rfl), noLs_map _ (fun _ => rfl), noL_K]
  rfl
theorem noL_P (s : Sta × Sta) : noL (encP s) = true := by
  show (noL s.1.enc && (noL s.2.enc && true)) = true
  rw [noL_S, noL_S]; rfl
/-! ### rows of places -/
def stR (h : Hs) (g : Gs) (r : List Int) : Sta := r.foldl (fun s p => (gone h g s p).1) (begun g)
theorem stR_snoc (h : Hs) (g : Gs) (r : List Int) (p : Int) : stR h g (r ++ [p]) = (gone h g (stR h g r) p).1 := by unfold stR; rw [List.foldl_append]; rfl
def okRow (pl : Int) (n : Nat) (r : List Int) : Prop := r.length = n ∧ ∀ x ∈ r, 0 ≤ x ∧ x < pl
theorem okRow.snoc {pl : Int} {n : Nat} {r : List Int} {p : Int} (h : okRow pl n r) (h0 : 0 ≤ p) (h1 : p < pl) : okRow pl (n + 1) (r ++ [p]) := ⟨by rw [List.length_append, h.1]; rfl, fun x hx => by
  rcases List.mem_append.mp hx with e | e
  · exact h.2 x e
  · rw [List.mem_singleton.mp e]; exact ⟨h0, h1⟩⟩
def zeros (n : Nat) : List Int := List.replicate n 0
theorem zeros_snoc (n : Nat) : zeros n ++ [0] = zeros (n + 1) := by unfold zeros; rw [List.replicate_succ']
theorem zeros_len (n : Nat) : (zeros n).length = n := by unfold zeros; simp
def pairR (h : Hs) (g o : Gs) (r : List Int) : Sta × Sta := (stR h g r, stR h o r)
def keyR (h : Hs) (g o : Gs) (r : List Int) : NK := nk (encP (pairR h g o r))
theorem stR_fits {h : Hs} (ho : h.ok) {g : Gs} (ok : g.ok 0) : ∀ (r : List Int), SLen h (stR h g r) ∧ Kf r.length g (stR h g r).kn := by
  have : ∀ (r : List Int) (s : Sta) (m : Nat), SLen h s → Kf m g s.kn → SLen h (r.foldl (fun s p => (gone h g s p).1) s) ∧ Kf (m + r.length) g (r.foldl (fun s p => (gone h g s p).1) s).kn := by
    intro r
    induction r with
    | nil => exact fun s m a b => ⟨a, b⟩
    | cons p r ih =>
      intro s m a b
      have h1 := gone_len ho ok (p := p) b a
      have h2 := ih _ (m + 1) h1.1 h1.2.1
      rw [List.length_cons, show m + (r.length + 1) = m + 1 + r.length by omega]
      exact h2
  intro r
  have h1 := this r (begun g) 0 (begun_len ho g) (first_fits g)
  rw [Nat.zero_add] at h1
  exact h1
/-- what the pair of guessers must keep for worst to be nothing -/
structure Wok (w : World) (h : Hs) (g o : Gs) (pl : Int) : Prop where
  cost : ∀ r p, r.length < 3 → okRow pl r.length r → 0 ≤ p → p < pl → costM (gone h g (stR h g r) p).2 = costM (gone h o (stR h o r) p).2
  idle : ∀ r, okRow pl 3 r → idle (stR h g r) = idle (stR h o r)
  dep : ∀ r, r.length ≤ 3 → okRow pl r.length r → (keyR h g o r).depth ≤ 16
  dep0 : (keyR h g o []).depth ≤ 8
  fine : ∀ n, n ≤ 3 → (∀ r, okRow pl n r → (keyR h g o r).depth ≤ 8) ∨ ∀ r r', okRow pl n r → okRow pl n r' → (keyR h g o r).hash w = (keyR h g o r').hash w → keyR h g o r = keyR h g o r'
theorem Wok.at {w : World} {h : Hs} {g o : Gs} {pl : Int} (k : Wok w h g o pl) {n : Nat} (hn : n ≤ 3) {ks : List NK} {r : List Int} (hr : okRow pl n r) (hk : ∀ x ∈ ks, ∃ r', okRow pl n r' ∧ x = keyR h g o r') : Fine w ks (keyR h g o r) := by
  rcases k.fine n hn with a | a
  · exact .inl ⟨a r hr, fun x hx => let ⟨r', h1, h2⟩ := hk x hx; h2 ▸ a r' h1⟩
  · exact .inr fun x hx e => by
      obtain ⟨r', h1, h2⟩ := hk x hx
      subst h2
      exact a r' r h1 hr e
/-! ### rows by their order -/
def encQ (q : List Int) : PyData := .tuple [.int 0, .list (encI q)]
theorem alikeQ (a b : List Int) : PySem.W.alike (encQ a) (encQ b) = true := by
  have h : PySem.W.alikeAll (encI a) (encI b) = true := PySem.W.alike_ints a b
  simp [encQ, PySem.W.alike, PySem.W.alikeAll, h]
theorem depthQ (a : List Int) : (encQ a).depth ≤ 3 := by
  have z : PyData.depthAll (encI a) = 0 := PySem.W.depth_ints _
  simp [encQ, PyData.depth, PyData.depthAll, z]
theorem lex_zero : ∀ (n : Nat) (q : List Int), q.length = n → (∀ x ∈ q, 0 ≤ x) → PyProof.Rows.lexLt PyProof.Rows.itemOrd (PySem.W.keyToksAll (encI q)) (PySem.W.keyToksAll (encI (zeros n))) = false
  | 0, [], _, _ => by decide
  | n + 1, x :: q, hl, hx => by
    have ih := lex_zero n q (by simpa using hl) fun y hy => hx y (List.mem_cons_of_mem _ hy)
    have ez : encI (zeros (n + 1)) = .int 0 :: encI (zeros n) := rfl
    have eq : encI (x :: q) = .int x :: encI q := rfl
    rw [ez, eq]
    have al : PySem.W.alike (.int x) (.int 0) = true := rfl
    have h0 := hx x List.mem_cons_self
    by_cases e : x = 0
    · rw [PySem.W.dataLt_all_yes al (by subst e; rfl)]
      exact ih
    · rw [PySem.W.dataLt_all_no al (by simpa [PyData.eqv] using e), PySem.W.dataLt_int]
      exact decide_eq_false (by omega)
theorem ltQ_zero {n : Nat} {q : List Int} (hl : q.length = n) (hx : ∀ x ∈ q, 0 ≤ x) : PySem.W.dataLt (encQ q) (encQ (zeros n)) = false := by
  have al : PySem.W.alike (.list (encI q)) (.list (encI (zeros n))) = true := PySem.W.alike_ints _ _
  unfold encQ
  rw [PySem.W.dataLt_pair rfl al, if_pos (by rfl), PySem.W.dataLt_list]
  have z := lex_zero n q hl hx
  split
  · rfl
  · exact z
theorem minD_first : ∀ (ds : List PyData) (d : PyData), (∀ y ∈ ds, PySem.W.dataLt y d = false) → PySem.W.minD d ds = d
  | [], _, _ => rfl
  | x :: ds, d, h => by
    show PySem.W.minD (if PySem.W.dataLt x d then x else d) ds = d
    rw [h x List.mem_cons_self, if_neg Bool.false_ne_true]
    exact minD_first ds d fun y hy => h y (List.mem_cons_of_mem _ hy)
/-! ### a level: its entries, each with a row that leads to its key and a row that is kept -/
structure Lv (K : PySem.W.Frag) (Hk : Hp) (h : Hs) (g o : Gs) (pl : Int) (n : Nat) (es : List Ent) (rs : List (List Int × List Int)) : Prop where
  kn : KeysN K Hk es (rs.map fun r => encP (pairR h g o r.1))
  vq : DqAll K Hk (es.map fun e => e.2.2) (rs.map fun r => encQ r.2)
  ok : ∀ r ∈ rs, okRow pl n r.1 ∧ okRow pl n r.2
  hd : ∀ r ∈ rs.head?, r.2 = zeros n
section
variable {K : PySem.W.Frag} {Hk Hk2 : Hp} {h : Hs} {g o : Gs} {pl : Int} {n : Nat} {es : List Ent} {rs : List (List Int × List Int)}
theorem Lv.up (L : Lv K Hk h g o pl n es rs) (s : Same Hk Hk2) : Lv K Hk2 h g o pl n es rs := ⟨L.kn.up s, L.vq.up s, L.ok, L.hd⟩
theorem Lv.len (L : Lv K Hk h g o pl n es rs) : es.length = rs.length := by
  have := L.vq.len
  rw [List.length_map, List.length_map] at this
  exact this
theorem Lv.keys (L : Lv K Hk h g o pl n es rs) : ∀ x ∈ es.map (·.1), ∃ r', okRow pl n r' ∧ x = keyR h g o r' := by
  intro x hx
  rw [L.kn.ks, List.map_map] at hx
  obtain ⟨r, hr, e⟩ := List.mem_map.mp hx
  exact ⟨r.1, (L.ok r hr).1, e.symm⟩
theorem noLs_D (rs : List (List Int × List Int)) : noLs (rs.map fun r => encP (pairR h g o r.1)) = true := noLs_map _ (fun _ => noL_P _) rs
/-- the value that stands at a key -/
theorem ent_val {k : NK} : ∀ {es : List Ent} {rs : List (List Int × List Int)} {v : V}, DqAll K Hk (es.map fun e => e.2.2) (rs.map fun r => encQ r.2) → entAt es k = some v → ∃ r ∈ rs, Dq K Hk v (encQ r.2)
  | [], _, _, _, e => by cases e
  | x :: es, [], _, d, _ => by cases d
  | x :: es, r :: rs, v, d, e => by
    cases d with
    | cons d1 d2 =>
      unfold entAt at e
      rw [List.find?_cons] at e
      by_cases c : x.1 = k
      · rw [decide_eq_true c] at e
        cases e
        exact ⟨r, List.mem_cons_self, d1⟩
      · rw [decide_eq_false c] at e
        obtain ⟨r', h1, h2⟩ := ent_val d2 e
        exact ⟨r', List.mem_cons_of_mem _ h1, h2⟩
theorem ent_has {k : NK} : ∀ {es : List Ent}, k ∈ es.map (·.1) → ∃ v, entAt es k = some v
  | [], h => by cases h
  | x :: es, h => by
    unfold entAt
    rw [List.find?_cons]
    by_cases c : x.1 = k
    · rw [decide_eq_true c]; exact ⟨_, rfl⟩
    · rw [decide_eq_false c]
      rw [List.map_cons] at h
      rcases List.mem_cons.mp h with e | e
      · exact absurd e.symm c
      · exact ent_has e
/-- one value, two data of one kind -/
theorem dqQ_inj {x : V} {a b : List Int} (ha : Dq K Hk x (encQ a)) (hb : Dq K Hk x (encQ b)) : a = b := by
  obtain ⟨p, xs, e1, hp, hx1⟩ := dp_tup ha
  obtain ⟨p', xs', e2, hp', hx2⟩ := dp_tup hb
  rw [e1] at e2
  cases e2
  obtain ⟨ob, g1, _⟩ := hp
  obtain ⟨ob', g2, _⟩ := hp'
  rw [g1] at g2
  cases g2
  obtain _ | ⟨_, _ | ⟨y1, _ | _⟩⟩ := hx1
  obtain _ | ⟨_, _ | ⟨y2, _ | _⟩⟩ := hx2
  obtain ⟨p, xs, e1, hp, hx1⟩ := dp_lst y1
  obtain ⟨p', xs', e2, hp', hx2⟩ := dp_lst y2
  rw [e1] at e2
  cases e2
  rw [hp] at hp'
  cases hp'
  have : ∀ (a b : List Int) (xs : List V), DqAll K Hk xs (encI a) → DqAll K Hk xs (encI b) → a = b := by
    intro a
    induction a with
    | nil =>
      intro b xs h1 h2
      cases h1
      cases b with
      | nil => rfl
      | cons y b => cases h2
    | cons x a ih =>
      intro b xs h1 h2
      cases b with
      | nil => cases h1; cases h2
      | cons y b =>
        obtain _ | ⟨k1, k2⟩ := h1
        obtain _ | ⟨k3, k4⟩ := h2
        have e1 := dp_int k1
        have e2 := dp_int k3
        rw [e1] at e2
        cases e2
        rw [ih b _ k2 k4]
  exact this a b _ hx1 hx2
/-- what level[states] is, at the i-th of its keys -/
theorem Lv.get (L : Lv K Hk h g o pl n es rs) {i : Nat} {r : List Int × List Int} (hr : rs[i]? = some r) : ∃ v q, entAt es (keyR h g o r.1) = some v ∧ Dq K Hk v (encQ q) ∧ okRow pl n q ∧ (i = 0 → q = zeros n) := by
  have hm : keyR h g o r.1 ∈ es.map (·.1) := by
    rw [L.kn.ks, List.map_map]
    exact List.mem_map.mpr ⟨r, List.mem_of_getElem? hr, rfl⟩
  obtain ⟨v, hv⟩ := ent_has hm
  obtain ⟨r', h1, h2⟩ := ent_val L.vq hv
  refine ⟨v, r'.2, hv, h2, (L.ok r' h1).2, fun z => ?_⟩
  subst z
  -- the first entry
  have hl := L.len
  have ks := L.kn.ks
  have vq := L.vq
  have hh := L.hd
  cases rs with
  | nil => simp at hr
  | cons r0 rs =>
    have e0 : r0 = r := by simpa using hr
    subst e0
    cases es with
    | nil => simp at hl
    | cons x es =>
      have hx : x.1 = keyR h g o r0.1 := by
        simp only [List.map_cons] at ks
        exact (List.cons.inj ks).1
      unfold entAt at hv
      rw [List.find?_cons, decide_eq_true hx] at hv
      cases hv
      cases vq with
      | cons d1 d2 =>
        have z0 : r0.2 = zeros n := hh r0 rfl
        replace d1 : Dq K Hk x.2.2 (encQ r0.2) := d1
        replace h2 : Dq K Hk x.2.2 (encQ r'.2) := h2
        rw [z0] at d1
        exact dqQ_inj h2 d1
/-- a new key -/
theorem Lv.add (L : Lv K Hk h g o pl n es rs) {r q : List Int} {a : Addr} {v : V} (hr : okRow pl n r) (hq : okRow pl n q) (dk : Dq K Hk (.ref a) (encP (pairR h g o r))) (dv : Dq K Hk v (encQ q)) (h0 : rs = [] → q = zeros n) (hn : entAt es (keyR h g o r) = none) :
    Lv K Hk h g o pl n (putE es (keyR h g o r) a v) (rs ++ [(r, q)]) := by
  have e : putE es (keyR h g o r) a v = es ++ [(keyR h g o r, a, v)] := by unfold putE; rw [hn]; rfl
  rw [e]
  refine ⟨⟨?_, ?_, noLs_D _⟩, ?_, fun x hx => ?_, fun x hx => ?_⟩
  · rw [List.map_append, List.map_append]
    exact L.kn.dq.app (.cons dk .nil)
  · rw [List.map_append, List.map_append, List.map_append, L.kn.ks]
    rfl
  · rw [List.map_append, List.map_append]
    exact L.vq.app (.cons dv .nil)
  · rcases List.mem_append.mp hx with z | z
    · exact L.ok x z
    · rw [List.mem_singleton.mp z]; exact ⟨hr, hq⟩
  · cases rs with
    | nil =>
      have z : (r, q) = x := by simpa using hx
      rw [← z]
      exact h0 rfl
    | cons y rs => exact L.hd x (by simpa using hx)
/-- a better row at a key -/
theorem Lv.rep {k : NK} {a : Addr} {v v0 : V} {q : List Int} (L : Lv K Hk h g o pl n es rs) (hq : okRow pl n q) (dv : Dq K Hk v (encQ q)) (hv : entAt es k = some v0) (hz : ¬ Dq K Hk v0 (encQ (zeros n))) :
    ∃ rs', rs'.length = rs.length ∧ Lv K Hk h g o pl n (putE es k a v) rs' := by
  have e : putE es k a v = es.map (fun x => if x.1 = k then (x.1, x.2.1, v) else x) := by unfold putE; rw [hv]; rfl
  rw [e]
  have key : ∀ (es : List Ent) (rs : List (List Int × List Int)), DqAll K Hk (es.map fun e => V.ref e.2.1) (rs.map fun r => encP (pairR h g o r.1)) → es.map (·.1) = (rs.map fun r => encP (pairR h g o r.1)).map nk → DqAll K Hk (es.map fun e => e.2.2) (rs.map fun r => encQ r.2) → (∀ r ∈ rs, okRow pl n r.1 ∧ okRow pl n r.2) →
      ∃ rs' : List (List Int × List Int), rs'.length = rs.length ∧ (∀ x ∈ rs'.head?, (∃ y ∈ rs.head?, x = y) ∨ ∃ y ∈ es.head?, y.1 = k) ∧ DqAll K Hk ((es.map (fun x => if x.1 = k then (x.1, x.2.1, v) else x)).map fun e => V.ref e.2.1) (rs'.map fun r => encP (pairR h g o r.1)) ∧
        (es.map (fun x => if x.1 = k then (x.1, x.2.1, v) else x)).map (·.1) = (rs'.map fun r => encP (pairR h g o r.1)).map nk ∧ DqAll K Hk ((es.map (fun x => if x.1 = k then (x.1, x.2.1, v) else x)).map fun e => e.2.2) (rs'.map fun r => encQ r.2) ∧ ∀ r ∈ rs', okRow pl n r.1 ∧ okRow pl n r.2 := by
    intro es
    induction es with
    | nil =>
      intro rs d1 d2 d3 d4
      cases rs with
      | nil => exact ⟨[], rfl, (fun _ z => by simp at z), .nil, rfl, .nil, (fun _ z => by simp at z)⟩
      | cons r rs => cases d1
    | cons x es ih =>
      intro rs d1 d2 d3 d4
      cases rs with
      | nil => cases d1
      | cons r rs =>
        obtain _ | ⟨a1, a2⟩ := d1
        obtain _ | ⟨b1, b2⟩ := d3
        simp only [List.map_cons] at d2
        obtain ⟨c1, c2⟩ := List.cons.inj d2
        obtain ⟨rs', i1, i2, i3, i4, i5, i6⟩ := ih rs a2 c2 b2 fun y hy => d4 y (List.mem_cons_of_mem _ hy)
        by_cases c : x.1 = k
        · refine ⟨(r.1, q) :: rs', by simp [i1], fun y hy => .inr ⟨x, rfl, c⟩, ?_, ?_, ?_, fun y hy => ?_⟩
          · rw [List.map_cons, if_pos c]
            exact .cons a1 i3
          · rw [List.map_cons, if_pos c, List.map_cons, List.map_cons, List.map_cons, i4]
            exact congrArg (· :: _) c1
          · rw [List.map_cons, if_pos c]
            exact .cons dv i5
          · rcases List.mem_cons.mp hy with z | z
            · rw [z]; exact ⟨(d4 r List.mem_cons_self).1, hq⟩
            · exact i6 y z
        · refine ⟨r :: rs', by simp [i1], fun y hy => .inl ⟨r, rfl, by simpa using hy.symm⟩, ?_, ?_, ?_, fun y hy => ?_⟩
          · rw [List.map_cons, if_neg c]
            exact .cons a1 i3
          · rw [List.map_cons, if_neg c, List.map_cons, List.map_cons, List.map_cons, i4]
            exact congrArg (· :: _) c1
          · rw [List.map_cons, if_neg c]
            exact .cons b1 i5
          · rcases List.mem_cons.mp hy with z | z
            · rw [z]; exact d4 r List.mem_cons_self
            · exact i6 y z
  obtain ⟨rs', i1, i2, i3, i4, i5, i6⟩ := key es rs L.kn.dq L.kn.ks L.vq L.ok
  refine ⟨rs', i1, ⟨i3, i4, noLs_D _⟩, i5, i6, fun x hx => ?_⟩
  rcases i2 x hx with ⟨y, hy, e2⟩ | ⟨y, hy, e2⟩
  · rw [e2]; exact L.hd y hy
  · -- the first entry is not changed
    exfalso
    have hl := L.len
    have vq := L.vq
    have hh := L.hd
    cases es with
    | nil => simp at hy
    | cons z es =>
      have ez : z = y := by simpa using hy
      subst ez
      cases rs with
      | nil => simp at hl
      | cons r rs =>
        obtain _ | ⟨b1, b2⟩ := vq
        have z0 : r.2 = zeros n := hh r rfl
        replace b1 : Dq K Hk z.2.2 (encQ r.2) := b1
        rw [z0] at b1
        unfold entAt at hv
        rw [List.find?_cons, decide_eq_true e2] at hv
        cases hv
        exact hz b1
end
end W
end
section
set_option Elab.async false
set_option linter.all false
set_option maxRecDepth 100000
set_option maxHeartbeats 4000000
/-! worst -/
namespace Nd
open PySem PySem.Spec PyProof.Rows L2 DL
section
variable {X : Cx} {σ : L2.St} {Hk H : Hp} {e : Expr} {x : Sp1} {pos : Pos}
theorem pe_dnewN : PE X (.Dict [] [] pos) (fun _ H Q => ∀ p, H p = none → (p == sysModules) = false → Q (.ref p) (upd H p (dO p emptyO))) := ⟨fun pins s σ H Q I h => by
  have hs : (s.heap.objs.size == sysModules) = false := beq_eq_false_iff_ne.mpr (Nat.ne_of_gt I.big)
  have e0 : (s.heap.push emptyO).get? s.heap.objs.size = some emptyO := Heap.get?_push_size _ rfl
  exact wpAny_Dict_empty ⟨.ref s.heap.objs.size, _, I.laid (a := s.heap.objs.size) (o := dO s.heap.objs.size emptyO) (h' := s.heap.push emptyO) (t' := s.toks) (fun _ _ z => Heap.get?_push_of_some _ z) (Nat.le_refl _) (dO_ok e0), rfl, h _ (I.hok.fresh (Nat.le_refl _)) hs⟩⟩
theorem ve_run {Q : VK} (h : VE X σ Hk e x) (s : Same Hk H) (k : ∀ v Hk2 H2, Ext M0 Hk H Hk2 H2 → Is X.K Hk2 v x → Q v H2) : WE X e σ H Q := h H s Q k
end
theorem noDat_dO {d : Addr} {o : Obj} : NoDat (dO d o) := noDat_ext
end Nd
namespace W
open PySem PySem.Spec PyProof.Rows L2 DL Tx Mi Ml Nd
theorem Lv.one {K : PySem.W.Frag} {Hk : Hp} {h : Hs} {g o : Gs} {pl : Int} {a : Addr} {v : V} (dk : Dq K Hk (.ref a) (encP (pairR h g o []))) (dv : Dq K Hk v (encQ [])) : Lv K Hk h g o pl 0 [(keyR h g o [], a, v)] [([], [])] := by
  have z : okRow pl 0 [] := ⟨rfl, fun _ z => nomatch z⟩
  refine ⟨⟨.cons dk .nil, rfl, noLs_D [([], [])]⟩, .cons dv .nil, fun r hr => ?_, fun r hr => ?_⟩
  · rw [List.mem_singleton.mp hr]
    exact ⟨z, z⟩
  · have e : ([], []) = r := by simpa using hr
    rw [← e]
    rfl
section
variable {P : Program} {w : World} {K : PySem.W.Frag} {mg : Str → Option Value} {base : Heap}
abbrev nWorst : List Str := ["setting", "guesser", "other", "weights", "places", "length", "house", "guessers", "level", "turn", "behind", "states", "more", "row", "place", "there", "far", "choice", "found", "least"]
theorem scWorst : FnScope nWorst ["setting", "guesser", "other", "weights", "places", "length"] (defScope sWorst) := ⟨rfl, rfl, rfl, by decide +kernel, rfl, by decide +kernel, by decide +kernel⟩
def gWorst (w : World) (as : List Sp1) (r : Sp1) : Prop := ∃ (st : Stg) (g o : Gs) (pl : Nat), st.ok ∧ g.ok 0 ∧ o.ok 0 ∧ 1 ≤ pl ∧ pl ≤ 2 ∧ pl ≤ st.mem.length ∧ Wok w st.hs g o pl ∧ as = [.dat st.enc, .dat g.enc, .dat o.enc, .dat w123, .dat (.int pl), .dat (.int 3)] ∧ r = .dat (encQ (zeros 3))
theorem ok_worst (T : Tp K w mg) (E : Ev K mg) : FnOk P w K mg base CX0 8 E.worst.f E.worst.fd ["setting", "guesser", "other", "weights", "places", "length"] (spD K (gWorst w)) := by
  refine ok_of E.worst.d.F scWorst (fun as r h => by obtain ⟨_, _, _, _, _, _, _, _, _, _, _, rfl, _⟩ := h; rfl) fun cdv A outer s H Hk vs as r Q hr sm ia gw q => ?_
  obtain ⟨st, g, o, pl, sok, okg, oko, p1, p2, p3, ck, rfl, rfl⟩ := gw
  obtain ⟨v0, v1, v2, v3, v4, v5, rfl, i0, i1, i2, i3, i4, i5⟩ := ia6 ia
  have hr64 : (A.deeper (envOfC "worst" (defScope sWorst) s.heap.objs.size E.worst.f cdv)).units + 64 < cLine := hr.units
  have hu17 : (A.deeper (envOfC "worst" (defScope sWorst) s.heap.objs.size E.worst.f cdv)).units + 17 < cLine := by omega
  have hu18 : (A.deeper (envOfC "worst" (defScope sWorst) s.heap.objs.size E.worst.f cdv)).units + 18 < cLine := by omega
  have hu8 : (A.deeper (envOfC "worst" (defScope sWorst) s.heap.objs.size E.worst.f cdv)).units + 8 < cLine := by omega
  have hho := sok.hs
  have el : (encI st.mem).length = st.mem.length := by unfold encI; rw [List.length_map]
  -- what is refused
  refine xs_ex sm (ve_f E.needSetting.d (ok_needS T E) (hr.mono (by decide)) (va_cons (ve_v 0 rfl i0) va_nil) ⟨st, sok, rfl, rfl⟩) fun Hk1 H1 E1 => ?_
  refine xs_ex E1.sub (ve_f E.needG.d (ev_needG T E) (hr.mono (by decide)) (va_cons (ve_v 1 rfl (i1.up E1.kk)) va_nil) ⟨g, okg, rfl, rfl⟩) fun Hk2 H2 E2 => ?_
  have E12 := E1.trans E2
  refine xs_ex E2.sub (ve_f E.needG.d (ev_needG T E) (hr.mono (by decide)) (va_cons (ve_v 2 rfl (i2.up E12.kk)) va_nil) ⟨o, oko, rfl, rfl⟩) fun Hk3 H3 E3 => ?_
  have E13 := E12.trans E3
  refine xs_ex E3.sub (ve_f E.needW.d (ok_needW T E) (hr.mono (by decide)) (va_cons (ve_v 3 rfl (i3.up E13.kk)) va_nil) ⟨rfl, rfl⟩) fun Hk4 H4 E4 => ?_
  have E14 := E13.trans E4
  have i0t : Is K Hk4 v0 (.dat (.tuple [.tuple (encI st.mem), .int st.room, .int st.late, .int st.most])) := i0.up E14.kk
  refine xs_ex E4.sub (ve_f E.needRows.d (ok_needRows T E) (hr.mono (by decide)) (va_cons ((ve_lenT T.len PySem.boot_len (ve_itT (ve_v 0 rfl i0t) (ve_int (i := 0)) rfl)).is (by rw [el])) (va_cons (ve_v 4 rfl (i4.up E14.kk)) (va_cons (ve_v 5 rfl (i5.up E14.kk)) va_nil))) ⟨st.mem.length, pl, by omega, by omega, by omega, rfl, rfl⟩) fun Hk5 H5 E5 => ?_
  have E15 := E14.trans E5
  -- the house, the two guessers
  refine xs_set E5.sub (ve_house T E (hr.mono (by decide)) (ve_v 0 rfl (i0.up E15.kk))) (i := 6) (fun v6 Hk6 H6 E6 i6 => ?_) scWorst.nd
  have E16 := E15.trans E6
  refine xs_set E6.sub (ve_tup (ds := [g.enc, o.enc]) (va_cons (ve_v 1 rfl (i1.up E16.kk)) (va_cons (ve_v 2 rfl (i2.up E16.kk)) va_nil))) (i := 7) (fun v7 Hk7 H7 E7 i7 => ?_) scWorst.nd
  have E17 := E16.trans E7
  have k7 := E17.kk
  replace i6 := i6.up E7.kk
  -- the first level
  refine xs_setW (i := 8) (we (pe_disp1 hu8 pe_w pe_w) fun pz npz hsz => ve_run (x := .dat (encP (pairR st.hs g o []))) (ve_tup (ds := [(begun g).enc, (begun o).enc]) (va_cons (ve_f E.begun.d (ok_begun E) (hr.mono (by decide)) (va_cons (ve_v 1 rfl (i1.up k7)) va_nil) ⟨g, okg, rfl, rfl⟩) (va_cons (ve_f E.begun.d (ok_begun E) (hr.mono (by decide)) (va_cons (ve_v 2 rfl (i2.up k7)) va_nil) ⟨o, oko, rfl, rfl⟩) va_nil)))
    (Ext.allocM (M := M0) E7.sub npz).sub fun x Hk8 H8 E8 ix => ve_run (x := .dat (encQ [])) (ve_tup (ds := [.int 0, .list []]) (va_cons ve_int (va_cons (ve_lst (ds := []) va_nil) va_nil))) E8.sub fun y Hk9 H9 E9 iy => ?_) scWorst.nd
  obtain ⟨qa, xsq, rfl, _, _⟩ := dp_tup ix
  have EP : Ext M0 Hk7 H7 Hk7 (upd H7 pz (dO pz emptyO)) := Ext.allocM E7.sub npz
  have e9 : H9 pz = some (dO pz emptyO) := E9.same _ _ (E8.same _ _ upd_same)
  refine ⟨e9, Hk9, qa, encP (pairR st.hs g o []), rfl, E9.sub, Is.up (a := .dat _) ix E9.kk, noL_P _, ck.dep0, fun ol0 R0 => ?_⟩
  have npH : H pz = none := E17.same.free npz
  have EX0 : Ext M0 Hk H Hk9 H9 := ((E17.trans EP).trans E8).trans E9
  have nk9 : Hk9 pz = none := E9.unk (E8.unk (E7.sub.free npz) (by rw [upd_same]; exact fun z => by cases z)) (by rw [E8.same _ _ upd_same]; exact fun z => by cases z)
  have EX : Ext M0 Hk H Hk9 (upd H9 pz (dO pz ol0)) := EX0.loc npH nk9
  have FX := EX.fix npH nk9 upd_same
  have ku9 : Same Hk9 (upd Hk9 pz (dO pz ol0)) := same_up nk9
  have k79 : Same Hk7 (upd Hk9 pz (dO pz ol0)) := (E8.kk.trans E9.kk).trans ku9
  have L0 : Lv K (upd Hk9 pz (dO pz ol0)) st.hs g o pl 0 [(keyR st.hs g o [], qa, y)] [([], [])] :=
    Lv.one ((Is.up (a := .dat _) ix E9.kk).up ku9) (iy.up ku9)
  have j1 := (i1.up k7).up k79
  have j2 := (i2.up k7).up k79
  have j3 := (i3.up k7).up k79
  have j4 := (i4.up k7).up k79
  have j5 := (i5.up k7).up k79
  have j6 := i6.up k79
  have j7 := i7.up k79
  have hd0 : (upd Hk9 pz (dO pz ol0)) pz = some (dO pz ol0) := upd_same
  generalize upd Hk9 pz (dO pz ol0) = HkT at FX L0 j1 j2 j3 j4 j5 j6 j7 hd0
  generalize upd H9 pz (dO pz ol0) = HT at FX
  -- the turns
  refine xs_for (g := gName 9) (ds := intsD 3) FX.sub (vi_range T.range (ve_v 5 rfl j5) (by decide)) (pg_name (i := 9) scWorst.nd rfl (.inl rfl)) rfl PassesOwn.never
    (fun n σ' Hk' H' => ∃ o9 o10 o11 o12 o13 o14 o15 o16 o17 dl ol es rs, σ' = [some v0, some v1, some v2, some v3, some v4, some v5, some v6, some v7, some (.ref dl), o9, o10, o11, o12, o13, o14, o15, o16, o17, none, none] ∧ Ext M0 Hk H Hk' H' ∧ Hk' dl = some (dO dl ol) ∧ DictR w dl ol es ∧ Lv K Hk' st.hs g o pl n es rs ∧ rs ≠ [] ∧ rs.length ≤ 2 ^ n)
    (fun Hk' H' E' => ⟨none, none, none, none, none, none, none, none, none, pz, ol0, _, _, rfl, FX.trans E', E'.kk _ _ hd0, R0, L0.up E'.kk, by simp, by simp⟩) (fun n d v σ' Hk0 H0 Hk' H' hd' kk0 s0 hP E5 dv => ?_) fun σ' Hk' H' kk s' hP => ?_
  · obtain ⟨o9, o10, o11, o12, o13, o14, o15, o16, o17, dl, ol, es, rs, rfl, EP, hdl, R, L, rne, rln⟩ := hP
    obtain ⟨hn, rfl⟩ := intsD_of hd'
    have EA := EP.trans E5
    have L1 := L.up E5.kk
    have hdl1 := E5.kk _ _ hdl
    have kT : Same HkT Hk' := kk0.trans E5.kk
    have r8 : rs.length ≤ 8 := Nat.le_trans rln (by rcases (show n = 0 ∨ n = 1 ∨ n = 2 by omega) with rfl | rfl | rfl <;> decide)
    refine xs_setW (i := 10) (we pe_dnewN fun db ndb hsb => ?_) scWorst.nd
    have ndbH : H db = none := EA.same.free ndb
    have nkb : Hk' db = none := E5.sub.free ndb
    have EB : Ext M0 Hk H Hk' (upd H' db (dO db emptyO)) := EA.trans (Ext.allocM E5.sub ndb)
    -- the keys of the level
    refine xs_for (g := gName 11) EB.sub (vi_keysN R (ve_v 8 rfl (y := spDict dl ol es (rs.map fun r : List Int × List Int => encP (pairR st.hs g o r.1))) ⟨rfl, hdl1, L1.kn⟩)) (pg_name (i := 11) scWorst.nd rfl (.inl rfl)) rfl PassesOwn.never
      (fun i σ2 Hk2 H2 => ∃ p9 p11 p12 p13 p14 p15 p16 p17 ob esb rsb, σ2 = [some v0, some v1, some v2, some v3, some v4, some v5, some v6, some v7, some (.ref dl), p9, some (.ref db), p11, p12, p13, p14, p15, p16, p17, none, none] ∧ Ext M0 Hk H Hk2 H2 ∧ Hk2 db = none ∧ H2 db = some (dO db ob) ∧ DictR w db ob esb ∧ Lv K Hk2 st.hs g o pl (n + 1) esb rsb ∧ rsb.length ≤ pl * i ∧ (rsb = [] → i = 0))
      (fun Hk2 H2 E2 => ⟨_, _, _, _, _, _, _, _, emptyO, [], [], rfl, EB.trans E2, E2.unk nkb (by rw [upd_same]; exact fun z => by cases z), E2.same _ _ upd_same, emptyR hsb, ⟨⟨.nil, rfl, rfl⟩, .nil, (fun _ z => nomatch z), (fun _ z => by simp at z)⟩, Nat.zero_le _, fun _ => rfl⟩)
      (fun i d vk σ2 Hk2 H2 Hk3 H3 hdi kk2 s2 hP2 E3 dvk => ?_) fun σ2 Hk2 H2 kk2 s2 hP2 => ?_
    · obtain ⟨p9, p11, p12, p13, p14, p15, p16, p17, ob, esb, rsb, rfl, EC, nb, hb, Rb, Lb, lb, zb⟩ := hP2
      obtain ⟨r, hri, rfl⟩ := map_at hdi
      have hi : i < rs.length := (List.getElem?_eq_some_iff.mp hri).1
      have k23 : Same Hk' Hk3 := kk2.trans E3.kk
      obtain ⟨vl, qr, hvl, dvl, okq, zq⟩ := (L1.up k23).get hri
      have okr := (L.ok r (List.mem_of_getElem? hri)).1
      have fineL : Fine w (es.map (·.1)) (keyR st.hs g o r.1) := ck.at (by omega) okr L.keys
      have depL := ck.dep r.1 (by rw [okr.1]; omega) (by rw [okr.1]; exact okr)
      have dvk' : Is K Hk3 vk (.dat (encP (pairR st.hs g o r.1))) := dvk
      have spL : Is K Hk3 (.ref dl) (spDict dl ol es (rs.map fun r : List Int × List Int => encP (pairR st.hs g o r.1))) := ⟨rfl, k23 _ _ hdl1, L1.kn.up k23⟩
      -- more, row = level[states]
      refine xs_asg E3.sub (x := .dat (encQ qr)) (VE.isV (ve_itN hu17 (ve_v 8 rfl spL) (ve_v 11 rfl dvk') (noL_P _) ⟨_, rfl⟩ depL R fineL hvl) dvl) (pg_tup rfl (pgs_cons (pg_name (i := 12) scWorst.nd rfl (.inl rfl)) (pgs_cons (pg_name (i := 13) scWorst.nd rfl (.inl rfl)) pgs_nil))) fun vq Hk4 H4 E4 dq => g_tup2 dq E4.sub fun u1 u2 e1 e2 => ?_
      have E34 := E3.trans E4
      have tb : H2 db ≠ none := some_ne hb
      have ED := EC.trans E34
      have k4T : Same HkT Hk4 := kT.trans (k23.trans E4.kk)
      -- the places
      refine xs_for (g := gName 14) (ds := intsD pl) E4.sub (vi_range T.range (ve_v 4 rfl (j4.up k4T)) (by omega)) (pg_name (i := 14) scWorst.nd rfl (.inl rfl)) rfl PassesOwn.never
        (fun j σ3 Hk5 H5 => ∃ p14 p15 p16 p17 ob esb rsb, σ3 = [some v0, some v1, some v2, some v3, some v4, some v5, some v6, some v7, some (.ref dl), p9, some (.ref db), some vk, some u1, some u2, p14, p15, p16, p17, none, none] ∧ Ext M0 Hk H Hk5 H5 ∧ Hk5 db = none ∧ H5 db = some (dO db ob) ∧ DictR w db ob esb ∧ Lv K Hk5 st.hs g o pl (n + 1) esb rsb ∧ rsb.length ≤ pl * i + j ∧ (rsb = [] → i = 0 ∧ j = 0))
        (fun Hk5 H5 E5 => ⟨_, _, _, _, ob, esb, rsb, rfl, ED.trans E5, E5.unk (E34.unk nb tb) (some_ne (E34.same _ _ hb)), E5.same _ _ (E34.same _ _ hb), Rb, Lb.up (E34.kk.trans E5.kk), by omega, fun z => ⟨zb z, rfl⟩⟩)
        (fun j d vp σ3 Hk5 H5 Hk6 H6 hdj kk5 s5 hP3 E6 dvp => ?_) fun σ3 Hk5 H5 kk5 s5 hP3 => wss_nil ?_
      · obtain ⟨p14, p15, p16, p17, ob, esb, rsb, rfl, EE, nb5, hb5, Rb, Lb, lb, zb⟩ := hP3
        obtain ⟨hj, rfl⟩ := intsD_of hdj
        have k46 : Same Hk4 Hk6 := kk5.trans E6.kk
        have k6T : Same HkT Hk6 := k4T.trans k46
        have fg := stR_fits hho okg r.1
        have fo := stR_fits hho oko r.1
        rw [okr.1] at fg fo
        have dvp' : Is K Hk6 vp (.dat (.int (j : Int))) := dvp
        -- there, far
        refine xs_asg E6.sub (ve_f E.bothB.d (ok_bothB T E) hr (va_cons (ve_v 6 rfl (j6.up k6T)) (va_cons (ve_v 7 rfl (j7.up k6T)) (va_cons (ve_v 11 rfl ((dvk'.up E4.kk).up k46)) (va_cons (ve_v 14 rfl dvp') (va_cons (ve_v 3 rfl (j3.up k6T)) va_nil))))) ⟨st.hs, g, o, pairR st.hs g o r.1, j, n, hho, okg, oko, fg.1, fo.1, fg.2, fo.2, by omega, rfl, rfl⟩)
          (pg_tup rfl (pgs_cons (pg_name (i := 15) scWorst.nd rfl (.inl rfl)) (pgs_cons (pg_name (i := 16) scWorst.nd rfl (.inl rfl)) pgs_nil))) fun vb Hk7 H7 E7 db7 => g_tup2 db7 E7.sub fun w1 w2 f1 f2 => ?_
        have okr2 : okRow pl (n + 1) (r.1 ++ [(j : Int)]) := okr.snoc (by omega) (by omega)
        have okq2 : okRow pl (n + 1) (qr ++ [(j : Int)]) := okq.snoc (by omega) (by omega)
        have ecost := ck.cost r.1 j (by rw [okr.1]; omega) (by rw [okr.1]; exact okr) (by omega) (by omega)
        have f1' : Is K Hk7 w1 (.dat (encP (pairR st.hs g o (r.1 ++ [(j : Int)])))) := by
          have e : pairR st.hs g o (r.1 ++ [(j : Int)]) = ((gone st.hs g (pairR st.hs g o r.1).1 j).1, (gone st.hs o (pairR st.hs g o r.1).2 j).1) := by unfold pairR; rw [stR_snoc, stR_snoc]
          rw [e]
          exact f1
        have f2' : Is K Hk7 w2 (.dat (.int 0)) := by
          have e : costM (gone st.hs g (pairR st.hs g o r.1).1 j).2 - costM (gone st.hs o (pairR st.hs g o r.1).2 j).2 = 0 := by
            show costM (gone st.hs g (stR st.hs g r.1) j).2 - costM (gone st.hs o (stR st.hs o r.1) j).2 = 0
            omega
          rw [← e]
          exact f2
        have k47 := k46.trans E7.kk
        have e1' : Is K Hk7 u1 (.dat (.int 0)) := Dq.up e1 k47
        have e2' : Is K Hk7 u2 (.dat (.list (encI qr))) := Dq.up e2 k47
        have dvp7 := dvp'.up E7.kk
        have lq : (encI qr).length = n := by unfold encI; rw [List.length_map]; exact okq.1
        -- choice
        refine xs_set E7.sub (x := .dat (encQ (qr ++ [(j : Int)]))) (i := 17) ((ve_tup (ds := [.int (0 - 0 - 0), .list (encI qr ++ [.int (j : Int)])]) (va_cons (ve_sub (ve_sub ve_int (ve_v 12 rfl e1')) (ve_v 16 rfl f2')) (va_cons (ve_catL (ve_v 13 rfl e2') (ve_lst (ds := [.int (j : Int)]) (va_cons (ve_v 14 rfl dvp7) va_nil)) (by rw [lq]; simp only [List.length_cons, List.length_nil]; omega)) va_nil))).is (by unfold encQ encI; rw [List.map_append]; rfl)) (fun vc Hk8 H8 E8 ic => ?_) scWorst.nd
        have E78 := E7.trans E8
        have E68 := E6.trans E78
        have tb5 : H5 db ≠ none := some_ne hb5
        have nb8 : Hk8 db = none := E68.unk nb5 tb5
        have hb8 := E68.same _ _ hb5
        have L8 := Lb.up E68.kk
        have EF := EE.trans E68
        -- behind is known for a while
        have ku : Same Hk8 (upd Hk8 db (dO db ob)) := same_up nb8
        have su : Same (upd Hk8 db (dO db ob)) H8 := same_know E8.sub hb8
        have fu : (upd Hk8 db (dO db ob)) db = some (dO db ob) := upd_same
        have spB : Is K (upd Hk8 db (dO db ob)) (.ref db) (spDict db ob esb (rsb.map fun r : List Int × List Int => encP (pairR st.hs g o r.1))) := ⟨rfl, fu, L8.kn.up ku⟩
        have f1u := (f1'.up E8.kk).up ku
        have f2u := (f2'.up E8.kk).up ku
        have e1u := (e1'.up E8.kk).up ku
        have icu := ic.up ku
        have dep2 := ck.dep (r.1 ++ [(j : Int)]) (by rw [okr2.1]; omega) (by rw [okr2.1]; exact okr2)
        have fineB : Fine w (esb.map (·.1)) (keyR st.hs g o (r.1 ++ [(j : Int)])) := ck.at (by omega) okr2 Lb.keys
        have lenb : esb.length < 1000 := by
          rw [Lb.len]
          have : pl * i ≤ 2 * 8 := Nat.mul_le_mul p2 (by omega)
          omega
        have k58 : Same Hk5 Hk8 := E68.kk
        have dA : ∀ {d : PyData} {v : V} {HkA HA : Hp}, Ext M0 (upd Hk8 db (dO db ob)) H8 HkA HA → Dq K HkA v d → Dq K (drop HkA db) v d := fun EA dv => dq_drop (EA.kk _ _ fu) noDat_dO _ _ dv
        -- nothing is put
        have skip : ∀ (HkA HA : Hp), Ext M0 (upd Hk8 db (dO db ob)) H8 HkA HA → rsb ≠ [] → ∃ Hk9, Same Hk5 Hk9 ∧ Same Hk9 HA ∧ ∃ p14 p15 p16 p17 ob esb rsb, [some v0, some v1, some v2, some v3, some v4, some v5, some v6, some v7, some (.ref dl), p9, some (.ref db), some vk, some u1, some u2, some vp, some w1, some w2, some vc, none, none] = [some v0, some v1, some v2, some v3, some v4, some v5, some v6, some v7, some (.ref dl), p9, some (.ref db), some vk, some u1, some u2, p14, p15, p16, p17, none, none] ∧ Ext M0 Hk H Hk9 HA ∧ Hk9 db = none ∧ HA db = some (dO db ob) ∧ DictR w db ob esb ∧ Lv K Hk9 st.hs g o pl (n + 1) esb rsb ∧ rsb.length ≤ pl * i + (j + 1) ∧ (rsb = [] → i = 0 ∧ j + 1 = 0) := by
          intro HkA HA EAA ne
          have K9 : Ext M0 Hk8 H8 (drop HkA db) HA := EAA.know2 nb8 hb8
          exact ⟨drop HkA db, k58.trans K9.kk, K9.sub, _, _, _, _, ob, esb, rsb, rfl, EF.trans K9, drop_at, K9.same _ _ hb8, Rb, L8.up K9.kk, by omega, fun z => absurd z ne⟩
        -- .. it is put
        have done : ∀ (HkA HA : Hp) (ob' : Obj) (vv : V) (pp : Addr) (rsb' : List (List Int × List Int)), Ext M0 (upd Hk8 db (dO db ob)) H8 HkA HA → DictR w db ob' (putE esb (keyR st.hs g o (r.1 ++ [(j : Int)])) pp vv) → Lv K (drop HkA db) st.hs g o pl (n + 1) (putE esb (keyR st.hs g o (r.1 ++ [(j : Int)])) pp vv) rsb' → rsb' ≠ [] → rsb'.length ≤ pl * i + (j + 1) →
            ∃ Hk9, Same Hk5 Hk9 ∧ Same Hk9 (upd HA db (dO db ob')) ∧ ∃ p14 p15 p16 p17 ob esb rsb, [some v0, some v1, some v2, some v3, some v4, some v5, some v6, some v7, some (.ref dl), p9, some (.ref db), some vk, some u1, some u2, some vp, some w1, some w2, some vc, none, none] = [some v0, some v1, some v2, some v3, some v4, some v5, some v6, some v7, some (.ref dl), p9, some (.ref db), some vk, some u1, some u2, p14, p15, p16, p17, none, none] ∧ Ext M0 Hk H Hk9 (upd HA db (dO db ob')) ∧ Hk9 db = none ∧ (upd HA db (dO db ob')) db = some (dO db ob) ∧ DictR w db ob esb ∧ Lv K Hk9 st.hs g o pl (n + 1) esb rsb ∧ rsb.length ≤ pl * i + (j + 1) ∧ (rsb = [] → i = 0 ∧ j + 1 = 0) := by
          intro HkA HA ob' vv pp rsb' EAA R' L' ne hl
          have K9 : Ext M0 Hk8 H8 (drop HkA db) HA := EAA.know2 nb8 hb8
          have EG : Ext M0 Hk H (drop HkA db) (upd HA db (dO db ob')) := (EF.trans K9).loc ndbH drop_at
          exact ⟨drop HkA db, k58.trans K9.kk, EG.sub, _, _, _, _, ob', _, rsb', rfl, EG, drop_at, upd_same, R', L', hl, fun z => absurd z ne⟩
        cases he : entAt esb (keyR st.hs g o (r.1 ++ [(j : Int)])) with
        | none =>
          refine xs_ifT su (VT.is (vt_w (vw_or (d' := true) (VT.is (d' := true) (vt_c (ve_v 15 rfl f1u) (ve_v 10 rfl spB) (cd_noN hu17 (noL_P _) ⟨_, rfl⟩ dep2 Rb fineB)) (by show (!(entAt esb (keyR st.hs g o (r.1 ++ [(j : Int)]))).isSome) = true; rw [he]; rfl)) fun z => by cases z)) rfl) fun Hk9 H9 E9 => ?_
          have spB9 := Is.up (a := spDict db ob esb (rsb.map fun r : List Int × List Int => encP (pairR st.hs g o r.1))) spB E9.kk
          have icQ : Is K Hk9 vc (.dat (.tuple [.int 0, .list (encI (qr ++ [(j : Int)]))])) := icu.up E9.kk
          refine xs_putN hu17 E9.sub (x := .dat (encQ (qr ++ [(j : Int)]))) ((ve_tup (ds := [.int (0 + 0), .list (encI (qr ++ [(j : Int)]))]) (va_cons (ve_add (ve_v 12 rfl (e1u.up E9.kk)) (ve_v 16 rfl (f2u.up E9.kk))) (va_cons (ve_itT (ve_v 17 rfl icQ) (ve_int (i := 1)) rfl) va_nil))).is rfl) (ve_v 10 rfl spB9) (ve_v 15 rfl (f1u.up E9.kk)) (noL_P _) ⟨_, rfl⟩ dep2 Rb fineB lenb fun vv pp ob' HkA HA EA1 iv dk R' => wss_nil (wss_nil ?_)
          have E9A := E9.trans EA1
          have LD := (L8.up (E9A.know2 nb8 hb8).kk).add (pl := pl) okr2 okq2 (dA E9A dk) (dA E9A iv) (fun z => by
            obtain ⟨z1, z2⟩ := zb z
            rw [zq z1, z2]
            exact zeros_snoc n) he
          exact done HkA HA ob' vv pp _ E9A R' LD (by simp) (by rw [List.length_append]; simp only [List.length_cons, List.length_nil]; omega)
        | some v' =>
          obtain ⟨rv', hrv, dv'⟩ := ent_val (L8.up ku).vq he
          have ne : rsb ≠ [] := fun z => by rw [z] at hrv; cases hrv
          have dvT : Is K (upd Hk8 db (dO db ob)) v' (.dat (.tuple [.int 0, .list (encI rv'.2)])) := dv'
          refine xs_if su (d := PySem.W.dataLt (encQ (qr ++ [(j : Int)])) (encQ rv'.2)) (VT.is (vt_w (vw_or (VT.is (d' := false) (vt_c (ve_v 15 rfl f1u) (ve_v 10 rfl spB) (cd_noN hu17 (noL_P _) ⟨_, rfl⟩ dep2 Rb fineB)) (by show (!(entAt esb (keyR st.hs g o (r.1 ++ [(j : Int)]))).isSome) = false; rw [he]; rfl)) fun _ => vw_one (vt_c (ve_v 17 rfl icu) ((ve_tup (ds := [.int (0 - 0), .list (encI rv'.2)]) (va_cons (ve_sub ve_int (ve_itT (VE.isV (ve_itN hu17 (ve_v 10 rfl spB) (ve_v 15 rfl f1u) (noL_P _) ⟨_, rfl⟩ dep2 Rb fineB he) dvT) (ve_int (i := 0)) rfl))
            (va_cons (ve_itT (VE.isV (ve_itN hu17 (ve_v 10 rfl spB) (ve_v 15 rfl f1u) (noL_P _) ⟨_, rfl⟩ dep2 Rb fineB he) dvT) (ve_int (i := 1)) rfl) va_nil))).is (y := .dat (encQ rv'.2)) rfl) (cd_ltD hu17 (alikeQ _ _) (fun z => by cases z) (Nat.le_trans (depthQ _) (by decide)))))) (by simp)) (fun hlt Hk9 H9 E9 => ?_) fun _ Hk9 H9 E9 => wss_nil (wss_nil (skip Hk9 H9 E9 ne))
          have spB9 := Is.up (a := spDict db ob esb (rsb.map fun r : List Int × List Int => encP (pairR st.hs g o r.1))) spB E9.kk
          have icQ : Is K Hk9 vc (.dat (.tuple [.int 0, .list (encI (qr ++ [(j : Int)]))])) := icu.up E9.kk
          refine xs_putN hu17 E9.sub (x := .dat (encQ (qr ++ [(j : Int)]))) ((ve_tup (ds := [.int (0 + 0), .list (encI (qr ++ [(j : Int)]))]) (va_cons (ve_add (ve_v 12 rfl (e1u.up E9.kk)) (ve_v 16 rfl (f2u.up E9.kk))) (va_cons (ve_itT (ve_v 17 rfl icQ) (ve_int (i := 1)) rfl) va_nil))).is rfl) (ve_v 10 rfl spB9) (ve_v 15 rfl (f1u.up E9.kk)) (noL_P _) ⟨_, rfl⟩ dep2 Rb fineB lenb fun vv pp ob' HkA HA EA1 iv dk R' => wss_nil (wss_nil ?_)
          have E9A := E9.trans EA1
          have dvA : Dq K (drop HkA db) v' (encQ rv'.2) := dA E9A (Dq.up dv' E9A.kk)
          obtain ⟨rsb', hl', L'⟩ := (L8.up (E9A.know2 nb8 hb8).kk).rep (a := pp) okq2 (dA E9A iv) he fun dz => by
            have ez : rv'.2 = zeros (n + 1) := dqQ_inj dvA dz
            rw [ez, ltQ_zero okq2.1 (fun x hx => (okq2.2 x hx).1)] at hlt
            cases hlt
          exact done HkA HA ob' vv pp rsb' E9A R' L' (fun z => ne (by rw [z] at hl'; exact List.length_eq_zero_iff.mp hl'.symm)) (by omega)
      · obtain ⟨p14, p15, p16, p17, ob, esb, rsb, rfl, EE, nb5, hb5, Rb, Lb, lb, zb⟩ := hP3
        rw [intsD_len] at lb zb
        refine ⟨Hk5, E34.kk.trans kk5, s5, _, _, _, _, _, _, _, _, ob, esb, rsb, rfl, EE, nb5, hb5, Rb, Lb, ?_, fun z => ?_⟩
        · rw [Nat.mul_add, Nat.mul_one]; exact lb
        · have := (zb z).2
          omega
    · obtain ⟨p9, p11, p12, p13, p14, p15, p16, p17, ob, esb, rsb, rfl, EC, nb, hb, Rb, Lb, lb, zb⟩ := hP2
      rw [List.length_map] at lb zb
      refine xs_set s2 (ve_v 10 rfl (y := .val (.ref db)) rfl) (i := 8) (fun vl Hk3 H3 E3 il => wss_nil ?_) scWorst.nd
      have evl : vl = .ref db := il
      subst evl
      have ED := EC.trans E3
      have nb3 := E3.unk nb (some_ne hb)
      have hb3 := E3.same _ _ hb
      have FF := ED.fix ndbH nb3 hb3
      have k3 : Same Hk3 (upd Hk3 db (dO db ob)) := same_up nb3
      refine ⟨upd Hk3 db (dO db ob), ((E5.kk.trans kk2).trans E3.kk).trans k3, FF.sub, _, _, _, _, _, _, _, _, _, db, ob, esb, rsb, rfl, FF, upd_same, Rb, (Lb.up E3.kk).up k3, fun z => ?_, ?_⟩
      · have := zb z
        exact rne (List.length_eq_zero_iff.mp this)
      · have h2 : pl * rs.length ≤ 2 * 2 ^ n := Nat.mul_le_mul p2 rln
        have h3 : 2 ^ (n + 1) = 2 * 2 ^ n := by rw [Nat.pow_succ]; omega
        omega
  · obtain ⟨o9, o10, o11, o12, o13, o14, o15, o16, o17, dl, ol, es, rs, rfl, EP, hdl, R, L, rne, rln⟩ := hP
    rw [intsD_len] at L rln
    have r8 : rs.length ≤ 8 := rln
    -- found
    refine xs_nl (i := 18) (fun lf nlf => ?_) scWorst.nd
    have nlfH : H lf = none := EP.same.free nlf
    have nkf : Hk' lf = none := EP.sub.free nlf
    have EB : Ext M0 Hk H Hk' (upd H' lf (.lst [])) := EP.trans (Ext.allocM EP.sub nlf)
    refine xs_for (g := gName 11) EB.sub (vi_keysN R (ve_v 8 rfl (y := spDict dl ol es (rs.map fun r : List Int × List Int => encP (pairR st.hs g o r.1))) ⟨rfl, hdl, L.kn⟩)) (pg_name (i := 11) scWorst.nd rfl (.inl rfl)) rfl PassesOwn.never
      (fun i σ2 Hk2 H2 => ∃ p11 p12 p13 wf qs, σ2 = [some v0, some v1, some v2, some v3, some v4, some v5, some v6, some v7, some (.ref dl), o9, o10, p11, p12, p13, o14, o15, o16, o17, some (.ref lf), none] ∧ Ext M0 Hk H Hk2 H2 ∧ Hk2 lf = none ∧ H2 lf = some (.lst wf) ∧ DqAll K Hk2 wf (qs.map encQ) ∧ qs.length = i ∧ (∀ q ∈ qs, okRow pl 3 q) ∧ ∀ q ∈ qs.head?, q = zeros 3)
      (fun Hk2 H2 E2 => ⟨_, _, _, [], [], rfl, EB.trans E2, E2.unk nkf (by rw [upd_same]; exact fun z => by cases z), E2.same _ _ upd_same, .nil, rfl, (fun _ z => nomatch z), (fun _ z => by simp at z)⟩)
      (fun i d vk σ2 Hk2 H2 Hk3 H3 hdi kk2 s2 hP2 E3 dvk => ?_) fun σ2 Hk2 H2 kk2 s2 hP2 => ?_
    · obtain ⟨p11, p12, p13, wf, qs, rfl, EC, nf, hf, df, hqs, okqs, hdq⟩ := hP2
      obtain ⟨r, hri, rfl⟩ := map_at hdi
      have hi : i < rs.length := (List.getElem?_eq_some_iff.mp hri).1
      have k23 : Same Hk' Hk3 := kk2.trans E3.kk
      obtain ⟨vl, qr, hvl, dvl, okq, zq⟩ := (L.up k23).get hri
      have okr := (L.ok r (List.mem_of_getElem? hri)).1
      have fineL : Fine w (es.map (·.1)) (keyR st.hs g o r.1) := ck.at (by omega) okr L.keys
      have depL := ck.dep r.1 (by rw [okr.1]; omega) (by rw [okr.1]; exact okr)
      have dvk' : Is K Hk3 vk (.dat (.tuple [(stR st.hs g r.1).enc, (stR st.hs o r.1).enc])) := dvk
      have spL : Is K Hk3 (.ref dl) (spDict dl ol es (rs.map fun r : List Int × List Int => encP (pairR st.hs g o r.1))) := ⟨rfl, k23 _ _ hdl, L.kn.up k23⟩
      refine xs_asg E3.sub (x := .dat (encQ qr)) (VE.isV (ve_itN hu17 (ve_v 8 rfl spL) (ve_v 11 rfl dvk') (noL_P (pairR st.hs g o r.1)) ⟨_, rfl⟩ depL R fineL hvl) dvl) (pg_tup rfl (pgs_cons (pg_name (i := 12) scWorst.nd rfl (.inl rfl)) (pgs_cons (pg_name (i := 13) scWorst.nd rfl (.inl rfl)) pgs_nil))) fun vq Hk4 H4 E4 dq => g_tup2 dq E4.sub fun u1 u2 e1 e2 => ?_
      have E34 := E3.trans E4
      have k4T : Same HkT Hk4 := kk.trans (k23.trans E4.kk)
      have fg := (stR_fits hho okg r.1).1
      have fo := (stR_fits hho oko r.1).1
      have fgs := fg.sh
      have fos := fo.sh
      have r2 := hho.r2
      have eidle := ck.idle r.1 okr
      have w3 : Is K Hk4 v3 (.dat (.tuple [.int 1, .int 2, .int 3])) := j3.up k4T
      have e1' : Is K Hk4 u1 (.dat (.int 0)) := e1
      have dvk4 := dvk'.up E4.kk
      refine xs_set E4.sub (x := .dat (.int 0)) (i := 12) ((ve_add (ve_v 12 rfl e1') (ve_mul (ve_sub (ve_f E.idle.d (ok_idle T E) (hr.mono (by decide)) (va_cons (ve_itT (ve_v 11 rfl dvk4) (ve_int (i := 0)) rfl) va_nil) ⟨stR st.hs g r.1, by omega, rfl, rfl⟩) (ve_f E.idle.d (ok_idle T E) (hr.mono (by decide)) (va_cons (ve_itT (ve_v 11 rfl dvk4) (ve_int (i := 1)) rfl) va_nil) ⟨stR st.hs o r.1, by omega, rfl, rfl⟩)) (ve_itT (ve_v 3 rfl w3) (ve_int (i := 2)) rfl) (.inr ⟨by decide, by decide⟩))).is (by rw [eidle, Int.sub_self]; rfl)) (fun v12 Hk5 H5 E5 i12 => ?_) scWorst.nd
      have E35 := E34.trans E5
      have e2' : Is K Hk5 u2 (.dat (.list (encI qr))) := Dq.up e2 E5.kk
      have hwl : wf.length < 1000000 := by rw [df.len, List.length_map]; omega
      refine xs_app E5.sub (x := .dat (encQ qr)) (ve_v 18 rfl rfl) (E35.same _ _ hf) hwl ((ve_tup (ds := [.int (0 - 0), .list (encI qr)]) (va_cons (ve_sub ve_int (ve_v 12 rfl i12)) (va_cons (ve_v 13 rfl e2') va_nil))).is rfl) fun v6' Hk6 H6 E6 i6' => wss_nil ?_
      have E36 := E35.trans E6
      have nf6 : Hk6 lf = none := E36.unk nf (some_ne hf)
      have EG : Ext M0 Hk H Hk6 (upd H6 lf (.lst (wf ++ [v6']))) := (EC.trans E36).loc nlfH nf6
      refine ⟨Hk6, E36.kk, EG.sub, _, _, _, wf ++ [v6'], qs ++ [qr], rfl, EG, nf6, upd_same, ?_, by rw [List.length_append, hqs]; rfl, fun x hx => ?_, fun x hx => ?_⟩
      · rw [List.map_append]
        exact (df.up E36.kk).app (.cons i6' .nil)
      · rcases List.mem_append.mp hx with z | z
        · exact okqs x z
        · rw [List.mem_singleton.mp z]; exact okq
      · cases qs with
        | nil =>
          have z : qr = x := by simpa using hx
          rw [← z]
          exact zq (by simpa using hqs.symm)
        | cons y qs => exact hdq x (by simpa using hx)
    · obtain ⟨p11, p12, p13, wf, qs, rfl, EC, nf, hf, df, hqs, okqs, hdq⟩ := hP2
      rw [List.length_map] at hqs
      have FF := EC.fix nlfH nf hf
      have kf : Same Hk2 (upd Hk2 lf (.lst wf)) := same_up nf
      cases qs with
      | nil => exact absurd (List.length_eq_zero_iff.mp hqs.symm) rne
      | cons q0 qs =>
        have z0 : q0 = zeros 3 := hdq q0 rfl
        subst z0
        have lst : Is K (upd Hk2 lf (.lst wf)) (.ref lf) (.dat (.list (encQ (zeros 3) :: qs.map encQ))) := .lst upd_same (df.up kf)
        have al : PySem.W.AlikeAll (encQ (zeros 3) :: qs.map encQ) := by
          refine ⟨fun x hx y hy => ?_, fun x hx => ?_⟩
          · obtain ⟨a, _, rfl⟩ : ∃ a, a ∈ zeros 3 :: qs ∧ encQ a = x := List.mem_map.mp (show x ∈ (zeros 3 :: qs).map encQ from hx)
            obtain ⟨b, _, rfl⟩ : ∃ a, a ∈ zeros 3 :: qs ∧ encQ a = y := List.mem_map.mp (show y ∈ (zeros 3 :: qs).map encQ from hy)
            exact alikeQ _ _
          · obtain ⟨a, _, rfl⟩ : ∃ a, a ∈ zeros 3 :: qs ∧ encQ a = x := List.mem_map.mp (show x ∈ (zeros 3 :: qs).map encQ from hx)
            exact fun z => by cases z
        have dpt : PyData.depthAll (encQ (zeros 3) :: qs.map encQ) ≤ 16 := by
          have : ∀ (l : List (List Int)), PyData.depthAll (l.map encQ) ≤ 3 := by
            intro l
            induction l with
            | nil => simp [PyData.depthAll]
            | cons x l ih =>
              have := depthQ x
              simp only [List.map_cons, PyData.depthAll]
              omega
          have h := this (zeros 3 :: qs)
          rw [List.map_cons] at h
          omega
        have mn : PySem.W.minD (encQ (zeros 3)) (qs.map encQ) = encQ (zeros 3) := minD_first _ _ fun y hy => by
          obtain ⟨a, ha, rfl⟩ := List.mem_map.mp hy
          have oka := okqs a (List.mem_cons_of_mem _ ha)
          exact ltQ_zero oka.1 fun x hx => (oka.2 x hx).1
        refine xs_set FF.sub ((ve_minD rfl hu18 T.min (ve_v 18 rfl lst) al dpt).is (by rw [mn])) (i := 19) (fun vm Hk3 H3 E3 im => ?_) scWorst.nd
        have im' : Is K Hk3 vm (.dat (.tuple [.int 0, .list (encI (zeros 3))])) := im
        exact xs_ret E3.sub (x := .dat (encQ (zeros 3))) ((ve_tup (ds := [.int (0 - 0), .list (encI (zeros 3))]) (va_cons (ve_sub ve_int (ve_itT (ve_v 19 rfl im') (ve_int (i := 0)) rfl)) (va_cons (ve_itT (ve_v 19 rfl im') (ve_int (i := 1)) rfl) va_nil))).is rfl) fun v9 Hk9 H9 E9 i9 => q v9 Hk9 H9 ((FF.trans E3).trans E9) i9
end
end W
end
section
set_option Elab.async false
set_option linter.all false
set_option maxRecDepth 100000
set_option maxHeartbeats 4000000
/-! Plain: guessers that go alike; how deep a key is. -/
namespace Ml
open PySem Mi W Nd DL
/-- two guessers that guess the same, what they know told by R -/
structure Al (g o : Gs) (R : Kn → Kn → Prop) : Prop where
  st : R (first g) (first o)
  ad : ∀ k k' p, R k k' → (adv g k p).2 = (adv o k' p).2 ∧ R (adv g k p).1 (adv o k' p).1
section
variable {g o : Gs} {R : Kn → Kn → Prop} {h : Hs}
theorem Al.guesses (a : Al g o R) : ∀ (ps : List Int) (k k' : Kn), R k k' → guessesM g k ps = guessesM o k' ps
  | [], _, _, _ => rfl
  | p :: ps, k, k', r => by
    have h1 := a.ad k k' p r
    show (adv g k p).2 :: guessesM g (adv g k p).1 ps = (adv o k' p).2 :: guessesM o (adv o k' p).1 ps
    rw [h1.1, a.guesses ps _ _ h1.2]
structure Sm (R : Kn → Kn → Prop) (s s' : Sta) : Prop where
  sh : s.shelf = s'.shelf
  wy : s.way = s'.way
  kn : R s.kn s'.kn
theorem Al.gone (a : Al g o R) {s s' : Sta} (m : Sm R s s') (p : Int) : Sm R (gone h g s p).1 (gone h o s' p).1 ∧ (gone h g s p).2 = (gone h o s' p).2 := by
  have h1 := a.ad s.kn s'.kn p m.kn
  have e1 := m.sh
  have e2 := m.wy
  refine ⟨⟨?_, ?_, h1.2⟩, ?_⟩
  · simp only [Mi.gone, e1, e2]
  · simp only [Mi.gone, e1, e2, h1.1]
  · simp only [Mi.gone, e1, e2, h1.1]
theorem Al.story (a : Al g o R) : ∀ (ds : List Dd) (s s' : Sta) (t : Int), Sm R s s' → storyM h g s t ds = storyM h o s' t ds
  | [], _, _, _, _ => rfl
  | d :: ds, s, s', t, m => by
    have h1 := a.gone (h := h) m d.p
    show (Mi.gone h g s d.p).2.map (encRow t) ++ storyM h g (Mi.gone h g s d.p).1 (t + 1) ds = (Mi.gone h o s' d.p).2.map (encRow t) ++ storyM h o (Mi.gone h o s' d.p).1 (t + 1) ds
    rw [h1.2, a.story ds _ _ _ h1.1]
theorem Al.begun (a : Al g o R) : Sm R (begun g) (begun o) := ⟨rfl, rfl, a.st⟩
theorem Al.row (a : Al g o R) (r : List Int) : Sm R (stR h g r) (stR h o r) := by
  have : ∀ (r : List Int) (s s' : Sta), Sm R s s' → Sm R (r.foldl (fun s p => (Mi.gone h g s p).1) s) (r.foldl (fun s p => (Mi.gone h o s p).1) s') := by
    intro r
    induction r with
    | nil => exact fun _ _ m => m
    | cons p r ih => exact fun s s' m => ih _ _ (a.gone m p).1
  exact this r _ _ a.begun
theorem Al.cost (a : Al g o R) (r : List Int) (p : Int) : costM (Mi.gone h g (stR h g r) p).2 = costM (Mi.gone h o (stR h o r) p).2 := by rw [(a.gone (a.row r) p).2]
theorem Al.idle (a : Al g o R) (r : List Int) : idle (stR h g r) = idle (stR h o r) := by
  have m := a.row (h := h) r
  unfold Mi.idle
  rw [m.sh, m.wy]
end
/-! ### union -/
theorem union_self (l : List Int) : union l l = l := by
  unfold union
  have e : l.filter (fun x => decide (x ∉ l)) = [] := by
    rw [List.filter_eq_nil_iff]
    intro x hx
    simp [hx]
  rw [e, List.append_nil]
theorem union_nil (l : List Int) : union l [] = l := by unfold union; simp
theorem nil_union (l : List Int) : union [] l = l := by
  unfold union
  rw [List.nil_append]
  have : l.filter (fun x => decide (x ∉ ([] : List Int))) = l := List.filter_eq_self.mpr fun x _ => by simp
  exact this
theorem union_assoc (a b c : List Int) : union (union a b) c = union a (union b c) := by
  unfold union
  rw [List.append_assoc]
  congr 1
  rw [List.filter_append]
  congr 1
  rw [List.filter_filter]
  refine List.filter_congr fun x _ => ?_
  rw [Bool.eq_iff_iff]
  simp only [List.mem_append, List.mem_filter, Bool.and_eq_true, decide_eq_true_eq]
  constructor
  · intro h
    exact ⟨fun z => h (.inl z), fun z => h (.inr ⟨z, fun y => h (.inl y)⟩)⟩
  · rintro ⟨h1, h2⟩ (z | ⟨z, _⟩)
    · exact h1 z
    · exact h2 z
theorem adv_none (k : Kn) (p : Int) : adv .none k p = (k, []) := by cases k <;> rfl
theorem adv_both (a b : Gs) (x y : Kn) (p : Int) : adv (.both a b) (.both x y) p = (.both (adv a x p).1 (adv b y p).1, union (adv a x p).2 (adv b y p).2) := by simp only [adv]
theorem al_twice (g : Gs) : Al g (.both g g) (fun k k' => k' = .both k k) := ⟨rfl, fun k k' p r => by
  subst r
  rw [adv_both, union_self]
  exact ⟨rfl, rfl⟩⟩
theorem al_none (g : Gs) : Al g (.both g .none) (fun k k' => k' = .both k (.prs none [])) := ⟨rfl, fun k k' p r => by
  subst r
  rw [adv_both, adv_none, union_nil]
  exact ⟨rfl, rfl⟩⟩
theorem none_al (g : Gs) : Al g (.both .none g) (fun k k' => k' = .both (.prs none []) k) := ⟨rfl, fun k k' p r => by
  subst r
  rw [adv_both, adv_none, nil_union]
  exact ⟨rfl, rfl⟩⟩
theorem al_assoc (a b c : Gs) : Al (.both (.both a b) c) (.both a (.both b c)) (fun k k' => ∃ x y z, k = .both (.both x y) z ∧ k' = .both x (.both y z)) := ⟨⟨_, _, _, rfl, rfl⟩, fun k k' p r => by
  obtain ⟨x, y, z, rfl, rfl⟩ := r
  simp only [adv_both]
  rw [union_assoc]
  exact ⟨rfl, _, _, _, rfl, rfl⟩⟩
/-! ### how deep a key is -/
theorem dep_ints : ∀ (l : List Int), NestedKey.depthAll (nks (encI l)) = 0
  | [] => rfl
  | x :: l => by
    have ih := dep_ints l
    show max (NestedKey.depth (.num x)) (NestedKey.depthAll (nks (encI l))) = 0
    rw [ih]; rfl
theorem dep_O (o : Option Int) : (nk (encO o)).depth = 0 := by cases o <;> rfl
theorem dep_E (p : Int × List Int) : (nk (encE p)).depth = 2 := by
  show max (NestedKey.depth (.num p.1)) (max (NestedKey.depthAll (nks (encI p.2)) + 1) 0) + 1 = 2
  rw [dep_ints]; rfl
theorem dep_map {α : Type} (enc : α → PyData) (m : Nat) (h : ∀ x, (nk (enc x)).depth ≤ m) : ∀ (l : List α), NestedKey.depthAll (nks (l.map enc)) ≤ m
  | [] => Nat.zero_le _
  | x :: l => by
    have := dep_map enc m h l
    have := h x
    show max (nk (enc x)).depth (NestedKey.depthAll (nks (l.map enc))) ≤ m
    omega
def hgt : Kn → Nat
  | .str _ _ _ => 0
  | .prs _ _ => 0
  | .both a b => max (hgt a) (hgt b) + 1
/-- a knowledge that knows no pairs yet -/
def young : Kn → Prop
  | .str _ _ _ => True
  | .prs _ kn => kn = []
  | .both a b => young a ∧ young b
theorem dep_K : ∀ (k : Kn), (nk k.enc).depth ≤ hgt k + 4 ∧ (young k → (nk k.enc).depth ≤ hgt k + 2)
  | .str l f t => by
    have e : (nk (Kn.str l f t).enc).depth = max (nk (encO l)).depth (max 0 (max 0 0)) + 1 := rfl
    rw [e, dep_O]
    simp only [hgt]
    exact ⟨by omega, fun _ => by omega⟩
  | .prs l kn => by
    have e : (nk (Kn.prs l kn).enc).depth = max (nk (encO l)).depth (max (NestedKey.depthAll (nks (kn.map encE)) + 1) 0) + 1 := rfl
    rw [e, dep_O]
    have := dep_map encE 2 (fun x => Nat.le_of_eq (dep_E x)) kn
    simp only [hgt]
    refine ⟨by omega, fun h => ?_⟩
    have h' : kn = [] := h
    subst h'
    show max 0 (max (0 + 1) 0) + 1 ≤ 0 + 2
    omega
  | .both a b => by
    have h1 := dep_K a
    have h2 := dep_K b
    have e : (nk (Kn.both a b).enc).depth = max (nk a.enc).depth (max (nk b.enc).depth 0) + 1 := rfl
    rw [e]
    simp only [hgt]
    refine ⟨by omega, fun h => ?_⟩
    have h' : young a ∧ young b := h
    have := h1.2 h'.1
    have := h2.2 h'.2
    omega
theorem dep_S (s : Sta) : (nk s.enc).depth ≤ max 2 (nk s.kn.enc).depth + 1 := by
  have e : (nk s.enc).depth = max (NestedKey.depthAll (nks (s.shelf.map encS1)) + 1) (max (NestedKey.depthAll (nks (s.way.map encW1)) + 1) (max (nk s.kn.enc).depth 0)) + 1 := rfl
  have h1 := dep_map encS1 1 (fun x => Nat.le_refl _) s.shelf
  have h2 := dep_map encW1 1 (fun x => Nat.le_refl _) s.way
  rw [e]
  omega
theorem dep_P (s : Sta × Sta) : (nk (encP s)).depth ≤ max 2 (max (nk s.1.kn.enc).depth (nk s.2.kn.enc).depth) + 2 := by
  have e : (nk (encP s)).depth = max (nk s.1.enc).depth (max (nk s.2.enc).depth 0) + 1 := rfl
  have h1 := dep_S s.1
  have h2 := dep_S s.2
  rw [e]
  omega
/-- how many "both" a guesser is within one another -/
def ght : Gs → Nat
  | .both a b => max (ght a) (ght b) + 1
  | _ => 0
theorem kf_hgt : ∀ (g : Gs) (k : Kn) (m : Nat), Kf m g k → hgt k = ght g
  | .none, k, m, h => by
    have e : k = .prs none [] := h
    subst e; rfl
  | .next _, k, m, h => by
    have e : k = .prs none [] := h
    subst e; rfl
  | .stride _, k, m, h => by
    cases k with
    | str l f t => rfl
    | prs l kn => exact h.elim
    | both a b => exact h.elim
  | .pairs _, k, m, h => by
    cases k with
    | str l f t => exact h.elim
    | prs l kn => rfl
    | both a b => exact h.elim
  | .both a b, k, m, h => by
    cases k with
    | str l f t => exact h.elim
    | prs l kn => exact h.elim
    | both x y =>
      have h' : Kf m a x ∧ Kf m b y := h
      simp only [hgt, ght, kf_hgt a x m h'.1, kf_hgt b y m h'.2]
theorem key_dep {h : Hs} (ho : h.ok) {g o : Gs} (okg : g.ok 0) (oko : o.ok 0) (r : List Int) : (keyR h g o r).depth ≤ max (ght g) (ght o) + 6 ∧ (young (stR h g r).kn → young (stR h o r).kn → (keyR h g o r).depth ≤ max (ght g) (ght o) + 4) := by
  have fg := kf_hgt _ _ _ (stR_fits ho okg r).2
  have fo := kf_hgt _ _ _ (stR_fits ho oko r).2
  have h1 := dep_K (stR h g r).kn
  have h2 := dep_K (stR h o r).kn
  have h3 : (keyR h g o r).depth ≤ max 2 (max (nk (stR h g r).kn.enc).depth (nk (stR h o r).kn.enc).depth) + 2 := dep_P (pairR h g o r)
  rw [fg] at h1
  rw [fo] at h2
  refine ⟨by omega, fun y1 y2 => ?_⟩
  have := h1.2 y1
  have := h2.2 y2
  omega
theorem young_first : ∀ (g : Gs), young (first g)
  | .none => rfl
  | .next _ => rfl
  | .stride _ => trivial
  | .pairs _ => rfl
  | .both a b => ⟨young_first a, young_first b⟩
theorem young_adv : ∀ (g : Gs) (p : Int), young (adv g (first g) p).1
  | .none, p => rfl
  | .next _, p => rfl
  | .stride _, p => trivial
  | .pairs _, p => rfl
  | .both a b, p => by
    show young (adv (.both a b) (.both (first a) (first b)) p).1
    rw [adv_both]
    exact ⟨young_adv a p, young_adv b p⟩
/-- where no key is deeper than eight -/
theorem wok_flat {w : PySem.World} {h : Hs} (ho : h.ok) {g o : Gs} {R : Kn → Kn → Prop} (a : Al g o R) (okg : g.ok 0) (oko : o.ok 0) (hg : ght g ≤ 2) (hgo : ght o ≤ 2) (pl : Int) : Wok w h g o pl := by
  have d : ∀ r, (keyR h g o r).depth ≤ 8 := fun r => by have := (key_dep ho okg oko r).1; omega
  exact ⟨fun r p _ _ _ _ => a.cost r p, fun r _ => a.idle r, fun r _ _ => Nat.le_trans (d r) (by decide), d [], fun n _ => .inl fun r _ => d r⟩
end Ml
end
section
set_option Elab.async false
set_option linter.all false
set_option maxRecDepth 100000
set_option maxHeartbeats 4000000
/-! _law_taken; expressions that draw -/
namespace DL
open PySem PySem.Spec PyProof.Rows L2
section
variable {X : Cx} {σ : L2.St} {Hk H : Hp} {e a b o : Expr} {pos : Pos}
theorem ve_lenV {x : Str} {p : Pos} {q : Addr} {xs : List V} (hm : X.mg x = none) (hb : bootBuiltins x = some (.builtin "len")) (h : VE X σ Hk e (.val (.ref q))) (hq : SqL X.K Hk q xs) (hg : Gl X x := by rfl) (hn : x ≠ "__name__" := by decide) (hdb : (x == ("__debug__" : Str)) = false := by decide)
    (he : starEach [e] X.env = (false, eval e X.env) :: starEach [] X.env := by rfl) : VE X σ Hk (.Call (.Name x p) [e] [] pos) (.dat (.int xs.length)) :=
  ve_of (pe_callB call_len_seq hg hm hb (pa_cons pe_w pa_nil he) hn hdb he) fun H s Q k => h H s _ fun v Hk1 H1 E1 i1 => by
    have e1 : v = .ref q := i1
    subst e1
    exact ⟨q, xs, rfl, .inl ((E1.kk.trans E1.sub).seq hq), k _ Hk1 H1 E1 (.int _)⟩
theorem ve_ixSq {l : Addr} {xs : List V} {i : Int} {j : Nat} {v : V} (ho : VE X σ Hk o (.val (.ref l))) (hl : SqL X.K Hk l xs) (he : VE X σ Hk e (.dat (.int i))) (hj : i = (j : Int)) (hv : xs[j]? = some v) (hs : PlainIx e := by exact fun _ _ => rfl) : VE X σ Hk (.Subscript o e pos) (.val v) :=
  ve_of (pe_ix ix_list pe_w pe_w hs) fun H s Q k => ho H s _ fun w Hk1 H1 E1 i1 => (he.up E1.kk) H1 E1.sub _ fun y Hk2 H2 E2 i2 => by
    have e2 := dp_int i2
    subst e2
    exact ⟨l, xs, i, v, i1, rfl, ((E1.kk.trans E2.kk).trans E2.sub).seq hl, by rw [hj]; exact atI_nat hv, k v Hk2 H2 (E1.trans E2) rfl⟩
end
/-- a list that stands still -/
def SqF (K : PySem.W.Frag) (Hk : Hp) (a : Addr) (xs : List V) : Prop := (∃ o, Hk a = some (.frz o (.lst xs))) ∨ ∃ (o : Obj) (its : Array Value) (n : Nat), K.lookup a = some o ∧ o.cls = .type "list" ∧ o.dict = none ∧ o.data = .seq its n ∧ its.size ≤ sizeLine ∧ Vals xs its.toList
theorem SqF.up {K : PySem.W.Frag} {Hk Hk2 : Hp} {a : Addr} {xs : List V} (h : SqF K Hk a xs) (e : Same Hk Hk2) : SqF K Hk2 a xs := by
  rcases h with ⟨o, q⟩ | h
  · exact .inl ⟨o, e _ _ q⟩
  · exact .inr h
theorem SqF.sq {K : PySem.W.Frag} {Hk : Hp} {a : Addr} {xs : List V} (h : SqF K Hk a xs) : SqL K Hk a xs := by
  rcases h with ⟨o, q⟩ | h
  · exact .inl (.inr ⟨o, q⟩)
  · exact .inr h
theorem SqF.drop {K : PySem.W.Frag} {Hk : Hp} {a d : Addr} {xs ys : List V} (h : SqF K Hk a xs) (e : Hk d = some (.lst ys)) : SqF K (DL.drop Hk d) a xs := by
  rcases h with ⟨o, q⟩ | h
  · exact .inl ⟨o, by rw [drop_ne (fun z => by rw [z, e] at q; cases q)]; exact q⟩
  · exact .inr h
/-- the row of draws: the script, how many are drawn, the state -/
def RowAt (K : PySem.W.Frag) (Hk H : Hp) (l : Addr) : Prop := Hk l = none ∧ ∃ (sc : Addr) (ns : List Int) (c s : Int), SqF K Hk sc (ns.map V.int) ∧ H l = some (.lst [.ref sc, .int c, .int s]) ∧ 0 ≤ c
theorem RowAt.ev {K : PySem.W.Frag} {Hk H Hk2 H2 : Hp} {l : Addr} (r : RowAt K Hk H l) (E : Ext M0 Hk H Hk2 H2) : RowAt K Hk2 H2 l := by
  obtain ⟨n, sc, ns, c, s, h1, h2, h3⟩ := r
  exact ⟨E.unk n (by rw [h2]; exact fun z => nomatch z), sc, ns, c, s, h1.up E.kk, E.same _ _ h2, h3⟩
end DL
namespace W
open PySem PySem.Spec PyProof.Rows L2 DL Tx Mi Ml Nd
section
variable {P : Program} {w : World} {K : PySem.W.Frag} {mg : Str → Option Value} {base : Heap}
abbrev nTaken : List Str := ["_law_row", "_law_many", "_law_cell"]
theorem scTaken : FnScope nTaken ["_law_row", "_law_many"] (defScope sTaken) := ⟨rfl, rfl, rfl, by decide +kernel, rfl, by decide +kernel, by decide +kernel⟩
def spTaken (K : PySem.W.Frag) : List V → Hp → VK → Prop := fun vs H Q => ∃ (Hk : Hp) (l : Addr) (many : Int), vs = [.ref l, .int many] ∧ Same Hk H ∧ RowAt K Hk H l ∧ 0 < many ∧ ∀ r Hk2 H2, 0 ≤ r → r < many → Ext (DL.M1 l) Hk H Hk2 H2 → RowAt K Hk2 H2 l → Q (.int r) H2
theorem ok_taken (T : Tp K w mg) (E : Ev K mg) : FnOk P w K mg base CX0 1 E.taken.f E.taken.fd ["_law_row", "_law_many"] (fun vs H Q _ => spTaken K vs H Q) := by
  refine ok_gen E.taken.d.F scTaken (fun vs H Q h => by obtain ⟨_, _, _, rfl, _⟩ := h; rfl) fun cdv A outer s H vs Q hr g => ?_
  obtain ⟨Hk, l, many, rfl, sm, ⟨nl, sc, ns, c, st, hsc, hl, hc⟩, hm, q⟩ := g
  have row_ : ∀ {σ : L2.St} {Hk' : Hp} {p : Pos}, σ[0]? = some (some (.ref l)) → VE (cxOf CX0 P w K mg base nTaken "_law_taken" (defScope sTaken) E.taken.f cdv A outer s H E0).nox σ Hk' (.Name "_law_row" p) (.val (.ref l)) := fun h => ve_v 0 h rfl
  -- one more is drawn
  have k0 : Same Hk (upd Hk l (.lst [.ref sc, .int c, .int st])) := same_up nl
  have s0 : Same (upd Hk l (.lst [.ref sc, .int c, .int st])) H := same_know sm hl
  refine xs_lput (j := 1) s0 (x := .dat (.int (c + 1))) (ve_add (VE.isV (ve_ixLV (row_ rfl) upd_same (ve_int (i := 1)) rfl rfl) (.int c)) ve_int) (row_ rfl) (ve_int (i := 1)) hl rfl (by simp) fun v1 Hk1 H1 E1 i1 => ?_
  have e1 := dp_int i1
  subst e1
  have K1 : Ext M0 Hk H (drop Hk1 l) H1 := E1.know2 nl hl
  have EA : Ext (DL.M1 l) Hk H (drop Hk1 l) (upd H1 l (.lst [.ref sc, .int (c + 1), .int st])) := K1.pure.mut rfl drop_at
  have hsc1 := hsc.up K1.kk
  have nl1 : drop Hk1 l l = none := drop_at
  have hl1 : (upd H1 l (.lst [.ref sc, .int (c + 1), .int st])) l = some (.lst [.ref sc, .int (c + 1), .int st]) := upd_same
  show WSs _ _ _ _ (upd H1 l (.lst [.ref sc, .int (c + 1), .int st]))
  generalize drop Hk1 l = B at EA hsc1 nl1
  generalize upd H1 l (.lst [.ref sc, .int (c + 1), .int st]) = G at EA hl1
  have k1 : Same B (upd B l (.lst [.ref sc, .int (c + 1), .int st])) := same_up nl1
  have s1 : Same (upd B l (.lst [.ref sc, .int (c + 1), .int st])) G := same_know EA.sub hl1
  have hscU := hsc1.up k1
  have f1 : (upd B l (.lst [.ref sc, .int (c + 1), .int st])) l = some (.lst [.ref sc, .int (c + 1), .int st]) := upd_same
  have len : (ns.map V.int).length = ns.length := List.length_map _
  by_cases hlt : (ns.length : Int) < c + 1
  · refine xs_ifT s1 (VT.is (vt_c (VE.isV (y := .dat (.int (c + 1))) (ve_ixLV (row_ rfl) f1 (ve_int (i := 1)) rfl rfl) (.int (c + 1))) (ve_lenV T.len PySem.boot_len (ve_ixLV (row_ rfl) f1 (ve_int (i := 0)) rfl rfl) hscU.sq) cd_gt) (by rw [len]; exact decide_eq_true hlt)) fun Hk2 H2 E2 => ?_
    refine xs_lput (j := 2) E2.sub (x := .dat (.int ((st * 48271 + 11) % 2147483647))) (ve_mod (ve_add (ve_mul (VE.isV (ve_ixLV (row_ rfl) (E2.kk _ _ f1) (ve_int (i := 2)) rfl rfl) (.int st)) ve_int (.inr ⟨by decide, by decide⟩)) ve_int) ve_int (by decide)) (row_ rfl) (ve_int (i := 2)) (E2.same _ _ hl1) rfl (by simp) fun v2 Hk3 H3 E3 i2 => ?_
    have e2 := dp_int i2
    subst e2
    have K3 : Ext M0 B G (drop Hk3 l) H3 := (E2.trans E3).know2 nl1 hl1
    have EB : Ext (DL.M1 l) Hk H (drop Hk3 l) (upd H3 l (.lst [.ref sc, .int (c + 1), .int ((st * 48271 + 11) % 2147483647)])) := (EA.trans K3.pure).mut rfl drop_at
    have k3 : Same (drop Hk3 l) (upd (drop Hk3 l) l (.lst [.ref sc, .int (c + 1), .int ((st * 48271 + 11) % 2147483647)])) := same_up drop_at
    have s3 : Same (upd (drop Hk3 l) l (.lst [.ref sc, .int (c + 1), .int ((st * 48271 + 11) % 2147483647)])) (upd H3 l (.lst [.ref sc, .int (c + 1), .int ((st * 48271 + 11) % 2147483647)])) := same_know EB.sub upd_same
    refine xs_ret s3 (ve_mod (ve_div (VE.isV (ve_ixLV (row_ rfl) upd_same (ve_int (i := 2)) rfl rfl) (.int ((st * 48271 + 11) % 2147483647))) ve_int ⟨by decide, by decide⟩) (ve_v 1 rfl (y := .dat (.int many)) (.int _)) hm) fun v4 Hk4 H4 E4 i4 => ?_
    have e4 := dp_int i4
    subst e4
    have K4 : Ext M0 (drop Hk3 l) (upd H3 l (.lst [.ref sc, .int (c + 1), .int ((st * 48271 + 11) % 2147483647)])) (drop Hk4 l) H4 := E4.know2 drop_at upd_same
    exact q _ (drop Hk4 l) H4 (Int.emod_nonneg _ (by omega)) (Int.emod_lt_of_pos _ hm) (EB.trans K4.pure) ⟨drop_at, sc, ns, c + 1, _, hsc1.up (K3.kk.trans K4.kk), K4.same _ _ upd_same, by omega⟩
  · refine xs_ifN s1 (VT.is (vt_c (VE.isV (y := .dat (.int (c + 1))) (ve_ixLV (row_ rfl) f1 (ve_int (i := 1)) rfl rfl) (.int (c + 1))) (ve_lenV T.len PySem.boot_len (ve_ixLV (row_ rfl) f1 (ve_int (i := 0)) rfl rfl) hscU.sq) cd_gt) (by rw [len]; exact decide_eq_false hlt)) fun Hk2 H2 E2 => ?_
    obtain ⟨j, hj⟩ : ∃ j : Nat, c = (j : Int) := ⟨c.toNat, by omega⟩
    obtain ⟨cell, hcell⟩ : ∃ x, ns[j]? = some x := ⟨ns[j]'(by omega), List.getElem?_eq_getElem (by omega)⟩
    have hcv : (ns.map V.int)[j]? = some (.int cell) := by rw [List.getElem?_map, hcell]; rfl
    refine xs_set E2.sub (x := .dat (.int cell)) (VE.isV (ve_ixSq (ve_ixLV (row_ rfl) (E2.kk _ _ f1) (ve_int (i := 0)) rfl rfl) (hscU.up E2.kk).sq (ve_sub (VE.isV (ve_ixLV (row_ rfl) (E2.kk _ _ f1) (ve_int (i := 1)) rfl rfl) (.int (c + 1))) ve_int) (j := j) (by omega) hcv) (.int cell)) (i := 2) (fun v2 Hk3 H3 E3 i2 => ?_) scTaken.nd
    have E23 := E2.trans E3
    refine xs_lput (j := 2) E3.sub (x := .dat (.int ((st * 48271 + cell + 11) % 2147483647))) (ve_mod (ve_add (ve_add (ve_mul (VE.isV (ve_ixLV (row_ rfl) (E23.kk _ _ f1) (ve_int (i := 2)) rfl rfl) (.int st)) ve_int (.inr ⟨by decide, by decide⟩)) (ve_v 2 rfl i2)) ve_int) ve_int (by decide)) (row_ rfl) (ve_int (i := 2)) (E23.same _ _ hl1) rfl (by simp) fun v4 Hk4 H4 E4 i4 => ?_
    have e4 := dp_int i4
    subst e4
    have K4 : Ext M0 B G (drop Hk4 l) H4 := (E23.trans E4).know2 nl1 hl1
    have EB : Ext (DL.M1 l) Hk H (drop Hk4 l) (upd H4 l (.lst [.ref sc, .int (c + 1), .int ((st * 48271 + cell + 11) % 2147483647)])) := (EA.trans K4.pure).mut rfl drop_at
    have e2 := dp_int i2
    subst e2
    refine xs_ret EB.sub (ve_mod (ve_v 2 rfl (y := .dat (.int cell)) (.int _)) (ve_v 1 rfl (y := .dat (.int many)) (.int _)) hm) fun v5 Hk5 H5 E5 i5 => ?_
    have e5 := dp_int i5
    subst e5
    exact q _ Hk5 H5 (Int.emod_nonneg _ (by omega)) (Int.emod_lt_of_pos _ hm) (EB.trans E5.pure) ⟨E5.unk drop_at (by rw [upd_same]; exact fun z => nomatch z), sc, ns, c + 1, _, hsc1.up (K4.kk.trans E5.kk), E5.same _ _ upd_same, by omega⟩
end
end W
end
section
set_option Elab.async false
set_option linter.all false
set_option maxRecDepth 100000
set_option maxHeartbeats 4000000
/-! The data layer: expressions that draw from the row at l; what they are worth is told by a predicate. -/
namespace DL
open PySem PySem.Spec PyProof.Rows L2
def VM (X : Cx) (σ : L2.St) (Hk : Hp) (l : Addr) (e : Expr) (S : PyData → Prop) : Prop :=
  ∀ Hq H, Same Hk Hq → Same Hq H → RowAt X.K Hq H l → ∀ Q : VK, (∀ v d Hk2 H2, Ext (DL.M1 l) Hq H Hk2 H2 → RowAt X.K Hk2 H2 l → S d → Dq X.K Hk2 v d → Q v H2) → WE X e σ H Q
inductive AllS : List (PyData → Prop) → List PyData → Prop
  | nil : AllS [] []
  | cons {S Ss d ds} : S d → AllS Ss ds → AllS (S :: Ss) (d :: ds)
def VAM (X : Cx) (σ : L2.St) (Hk : Hp) (l : Addr) (es : List Expr) (Ss : List (PyData → Prop)) : Prop :=
  ∀ Hq H, Same Hk Hq → Same Hq H → RowAt X.K Hq H l → ∀ Q : List V → Hp → Prop, (∀ vs ds Hk2 H2, Ext (DL.M1 l) Hq H Hk2 H2 → RowAt X.K Hk2 H2 l → AllS Ss ds → DqAll X.K Hk2 vs ds → Q vs H2) → WA X es σ H Q
/-- a def whose first argument is the row of draws -/
def spI (K : PySem.W.Frag) (G : List PyData → (PyData → Prop) → Prop) : Sp := fun vs H Q _ => ∃ (Hk : Hp) (l : Addr) (us : List V) (as : List PyData) (S : PyData → Prop), vs = .ref l :: us ∧ Same Hk H ∧ RowAt K Hk H l ∧ DqAll K Hk us as ∧ G as S ∧ ∀ v d Hk2 H2, Ext (DL.M1 l) Hk H Hk2 H2 → RowAt K Hk2 H2 l → S d → Dq K Hk2 v d → Q v H2
section
variable {X : Cx} {σ : L2.St} {Hk H : Hp} {l : Addr} {e a b c : Expr} {es : List Expr} {S Sa Sb : PyData → Prop} {Ss : List (PyData → Prop)} {pos p p2 : Pos} {D : Ends} {rest A B : List Stmt}
theorem VM.up (h : VM X σ Hk l e S) {Hq : Hp} (k : Same Hk Hq) : VM X σ Hq l e S := fun H1 H k1 s r Q q => h H1 H (k.trans k1) s r Q q
theorem VM.imp {S' : PyData → Prop} (h : VM X σ Hk l e S) (i : ∀ d, S d → S' d) : VM X σ Hk l e S' := fun H1 H k1 s r Q q => h H1 H k1 s r Q fun v d Hk2 H2 E r2 z dv => q v d Hk2 H2 E r2 (i d z) dv
theorem vm_of {d : PyData} (h : VE X σ Hk e (.dat d)) (s : S d) : VM X σ Hk l e S := fun Hq H k sm r Q q => (h.up k) H sm Q fun v Hk2 H2 E i => q v d Hk2 H2 E.pure (r.ev E) s i
theorem vam_nil : VAM X σ Hk l [] [] := fun Hq H k sm r Q q => wa pa_nil (q [] [] Hq H (Ext.refl sm) r .nil .nil)
theorem vam_cons (h : VM X σ Hk l e S) (t : VAM X σ Hk l es Ss) (hs : starEach (e :: es) X.env = (false, eval e X.env) :: starEach es X.env := by rfl) : VAM X σ Hk l (e :: es) (S :: Ss) :=
  fun Hq H k sm r Q q => wa (pa_cons pe_w pa_w hs) (h Hq H k sm r _ fun v d Hk1 H1 E1 r1 z dv => t Hk1 H1 (k.trans E1.kk) E1.sub r1 _ fun vs ds Hk2 H2 E2 r2 zs dvs => q _ _ Hk2 H2 (E1.trans E2) r2 (.cons z zs) (.cons (dv.up E2.kk) dvs))
theorem vm_op {op : Operator} {r : R2} (ho : OpR X (binaryOp op) r) (ha : VM X σ Hk l a Sa) (hb : VM X σ Hk l b Sb)
    (q : ∀ x y v w Hk2 H2, Sa x → Sb y → Same Hk2 H2 → Dq X.K Hk2 v x → Dq X.K Hk2 w y → ∀ Q : VK, (∀ u d Hk3 H3, Ext M0 Hk2 H2 Hk3 H3 → S d → Dq X.K Hk3 u d → Q u H3) → r v w H2 Q) : VM X σ Hk l (.BinOp a op b pos) S :=
  fun Hq H k sm rr Q kk => we (pe_op ho pe_w pe_w) (ha Hq H k sm rr _ fun v x Hk1 H1 E1 r1 zx dx => hb Hk1 H1 (k.trans E1.kk) E1.sub r1 _ fun w y Hk2 H2 E2 r2 zy dy => q x y v w Hk2 H2 zx zy E2.sub (dx.up E2.kk) dy Q fun u d Hk3 H3 E3 zd du => kk u d Hk3 H3 ((E1.trans E2).trans E3.pure) (r2.ev E3) zd du)
theorem vm_add (ha : VM X σ Hk l a Sa) (hb : VM X σ Hk l b Sb) (q : ∀ x y, Sa x → Sb y → ∃ i j : Int, x = .int i ∧ y = .int j ∧ S (.int (i + j))) : VM X σ Hk l (.BinOp a .Add b pos) S :=
  vm_op op_add ha hb fun x y v w Hk2 H2 zx zy s dx dy Q k => by
    obtain ⟨i, j, rfl, rfl, z⟩ := q x y zx zy
    exact ⟨i, j, dp_int dx, dp_int dy, k _ _ Hk2 H2 (Ext.refl s) z (.int _)⟩
theorem vm_sub (ha : VM X σ Hk l a Sa) (hb : VM X σ Hk l b Sb) (q : ∀ x y, Sa x → Sb y → ∃ i j : Int, x = .int i ∧ y = .int j ∧ S (.int (i - j))) : VM X σ Hk l (.BinOp a .Sub b pos) S :=
  vm_op op_sub ha hb fun x y v w Hk2 H2 zx zy s dx dy Q k => by
    obtain ⟨i, j, rfl, rfl, z⟩ := q x y zx zy
    exact ⟨i, j, dp_int dx, dp_int dy, k _ _ Hk2 H2 (Ext.refl s) z (.int _)⟩
theorem vm_div (ha : VM X σ Hk l a Sa) (hb : VM X σ Hk l b Sb) (q : ∀ x y, Sa x → Sb y → ∃ i j : Int, x = .int i ∧ y = .int j ∧ CDiv i j ∧ S (.int (i / j))) : VM X σ Hk l (.BinOp a .FloorDiv b pos) S :=
  vm_op op_fdiv ha hb fun x y v w Hk2 H2 zx zy s dx dy Q k => by
    obtain ⟨i, j, rfl, rfl, c, z⟩ := q x y zx zy
    exact ⟨i, j, dp_int dx, dp_int dy, c, k _ _ Hk2 H2 (Ext.refl s) z (.int _)⟩
theorem vm_catL (ha : VM X σ Hk l a Sa) (hb : VM X σ Hk l b Sb) (q : ∀ x y, Sa x → Sb y → ∃ i j : List PyData, x = .list i ∧ y = .list j ∧ i.length + j.length ≤ 1000000 ∧ S (.list (i ++ j))) : VM X σ Hk l (.BinOp a .Add b pos) S :=
  vm_op op_cat ha hb fun x y v w Hk2 H2 zx zy s dx dy Q k => by
    obtain ⟨i, j, rfl, rfl, hz, z⟩ := q x y zx zy
    obtain ⟨p, xs, rfl, hp, hx⟩ := dp_lst dx
    obtain ⟨r, ys, rfl, hr, hy⟩ := dp_lst dy
    exact ⟨p, r, xs, ys, rfl, rfl, s _ _ hp, s _ _ hr, by rw [hx.len, hy.len]; exact Nat.le_trans hz (by rw [sizeLine_eq]; decide), fun q nq => k _ _ (upd Hk2 q (.lst (xs ++ ys))) _ (Ext.alloc s nq) z (dp_new_lst (s.free nq) (hx.app hy))⟩
theorem vm_tup {x1} (h : VAM X σ Hk l es Ss) (hl : es.length ≤ 1000) (q : ∀ ds, AllS Ss ds → S (.tuple ds)) (hel : ∀ ds, AllS Ss ds → ds.length ≤ 1000) : VM X σ Hk l (.Tuple es x1 pos) S :=
  fun Hq H k sm r Q kk => we (pe_tupP pa_w) (h Hq H k sm r _ fun vs ds Hk1 H1 E1 r1 zs dvs => by
    refine ⟨by rw [dvs.len]; exact Nat.le_trans (hel ds zs) (by rw [sizeLine_eq]; decide), fun p o np hc ho => ?_⟩
    have EA : Ext M0 Hk1 H1 (upd Hk1 p (.frz o (.tup vs))) (upd H1 p (.frz o (.tup vs))) := Ext.alloc E1.sub np
    exact kk _ _ _ _ (E1.trans EA.pure) (r1.ev EA) (q ds zs) (dp_new_tup (E1.sub.free np) hc ho dvs))
theorem vm_lst (h : VAM X σ Hk l es Ss) (q : ∀ ds, AllS Ss ds → S (.list ds)) (hel : ∀ ds, AllS Ss ds → ds.length ≤ 1000) : VM X σ Hk l (.List es pos) S :=
  fun Hq H k sm r Q kk => we (pe_lst pa_w) (h Hq H k sm r _ fun vs ds Hk1 H1 E1 r1 zs dvs => by
    refine ⟨by rw [dvs.len]; exact Nat.le_trans (hel ds zs) (by rw [sizeLine_eq]; decide), fun p np => ?_⟩
    have EA : Ext M0 Hk1 H1 (upd Hk1 p (.lst vs)) (upd H1 p (.lst vs)) := Ext.alloc E1.sub np
    exact kk _ _ _ _ (E1.trans EA.pure) (r1.ev EA) (q ds zs) (dp_new_lst (E1.sub.free np) dvs))
theorem AllS.len : ∀ {Ss : List (PyData → Prop)} {ds : List PyData}, AllS Ss ds → ds.length = Ss.length
  | _, _, .nil => rfl
  | _, _, .cons _ t => by rw [List.length_cons, List.length_cons, AllS.len t]
theorem vm_itL (ha : VM X σ Hk l a Sa) (hb : VM X σ Hk l b Sb) (q : ∀ x y, Sa x → Sb y → ∃ (ds : List PyData) (j : Nat) (d : PyData), x = .list ds ∧ y = .int j ∧ ds[j]? = some d ∧ S d) (hs : PlainIx b := by exact fun _ _ => rfl) : VM X σ Hk l (.Subscript a b pos) S :=
  fun Hq H k sm r Q kk => we (pe_ix ix_list pe_w pe_w hs) (ha Hq H k sm r _ fun v x Hk1 H1 E1 r1 zx dx => hb Hk1 H1 (k.trans E1.kk) E1.sub r1 _ fun w y Hk2 H2 E2 r2 zy dy => by
    obtain ⟨ds, j, d, rfl, rfl, hd, z⟩ := q x y zx zy
    obtain ⟨p, xs, rfl, hp, hx⟩ := dp_lst (dx.up E2.kk)
    obtain ⟨u, hu, du⟩ := hx.at hd
    exact ⟨p, xs, j, u, rfl, dp_int dy, SqL.of (E2.sub _ _ hp), atI_nat hu, kk u d Hk2 H2 (E1.trans E2) r2 z du⟩)
theorem vm_tuple {n : Str} (hm : X.mg n = none) (h : VM X σ Hk l e Sa) (q : ∀ x, Sa x → ∃ ds, x = .list ds ∧ S (.tuple ds)) (hb : bootBuiltins n = some (.type "tuple") := by decide +kernel) (hg : Gl X n := by rfl) (hn : n ≠ "__name__" := by decide) (hdb : (n == ("__debug__" : Str)) = false := by decide)
    (he : starEach [e] X.env = (false, eval e X.env) :: starEach [] X.env := by rfl) : VM X σ Hk l (.Call (.Name n p) [e] [] pos) S :=
  fun Hq H k sm r Q kk => we (pe_callTy call_tupP hg hm hb (pa_cons pe_w pa_nil he) hn hdb he) (h Hq H k sm r _ fun v x Hk1 H1 E1 r1 zx dx => by
    obtain ⟨ds, rfl, z⟩ := q x zx
    obtain ⟨a, xs, rfl, hq, hx⟩ := dp_lst dx
    refine ⟨a, xs, rfl, SqL.of (E1.sub _ _ hq), fun q o nq hc ho => ?_⟩
    have EA : Ext M0 Hk1 H1 (upd Hk1 q (.frz o (.tup xs))) (upd H1 q (.frz o (.tup xs))) := Ext.alloc E1.sub nq
    exact kk _ _ _ _ (E1.trans EA.pure) (r1.ev EA) z (dp_new_tup (E1.sub.free nq) hc ho hx))
/-- a def of the law by its promise -/
theorem vm_call {k : Nat} {f : Addr} {fd : FuncData} {ps : List Str} {G : List PyData → (PyData → Prop) → Prop} {n : Str} (F : FnOk X.prog X.w X.K X.mg X.base CX0 k f fd ps (spI X.K G)) (hr : Room k X.A) (hm : X.mg n = some (.ref f)) (hk : PySem.W.keepIn X.K (.ref f) = true) (hb : Binds X.K fd ps [])
    (ho : VE X σ Hk a (.val (.ref l))) (ha : VAM X σ Hk l es Ss) (g : ∀ ds, AllS Ss ds → G ds S) (hg : Gl X n := by rfl) (hd : (n == ("__debug__" : Str)) = false := by decide) (he : starEach (a :: es) X.env = (false, eval a X.env) :: starEach es X.env := by rfl) (hpl : (backTo pos (starEach es X.env)).any (·.1) = false := by rfl) : VM X σ Hk l (.Call (.Name n p) (a :: es) [] pos) S :=
  fun Hq H kk sm r Q q => we (pe_call F hr hg hm hk hb .nil pass0 (pa_cons pe_w pa_w he) (hdb := hd) (he := he) (hpl := hpl)) ((ho.up kk) H sm _ fun v Hk1 H1 E1 i1 => ha Hk1 H1 (kk.trans E1.kk) E1.sub (r.ev E1) _ fun vs ds Hk2 H2 E2 r2 zs dvs => by
    have e1 : v = .ref l := i1
    subst e1
    refine ⟨Hk2, l, vs, ds, S, by rw [List.append_nil], E2.sub, r2, dvs, g ds zs, fun u d Hk3 H3 E3 r3 z du => q u d Hk3 H3 ((E1.pure.trans E2).trans E3) r3 z du⟩)
/-! statements -/
theorem xs_setI {i : Nat} {n : Str} {pn : Pos} (s : Same Hk H) (r : RowAt X.K Hk H l) (h : VM X σ Hk l e S) (k : ∀ v d Hk2 H2, Ext (DL.M1 l) Hk H Hk2 H2 → RowAt X.K Hk2 H2 l → S d → Dq X.K Hk2 v d → WSs X rest D (σ.set i (some v)) H2)
    (hN : X.N.Nodup) (hi : X.N[i]? = some n := by rfl) (hx : Loc X.env.scope n := by first | exact Or.inl rfl | exact Or.inr rfl) (hs : swapsWith e (some (.Name n pn)) pos.line X.env = pure false := by rfl) (hf : X.fn n = true ∨ X.env.scope.names.lookup n = some .local := by first | exact .inl rfl | exact .inr rfl) :
    WSs X (.Assign [.Name n pn] e pos :: rest) D σ H := wss_cons (ws (ps_set hN hi hx pe_w hs hf) (h Hk H (Same.refl _) s r _ k))
theorem xs_asgI {tg : Expr} {g : TG} (s : Same Hk H) (r : RowAt X.K Hk H l) (h : VM X σ Hk l e S) (hg : PG X tg g) (k : ∀ v d Hk2 H2, Ext (DL.M1 l) Hk H Hk2 H2 → RowAt X.K Hk2 H2 l → S d → Dq X.K Hk2 v d → g v σ H2 (WSs X rest D))
    (hs : swapsWithSole [tg] e pos.line X.env = pure false := by rfl) (hw : swappedStores [tg] e X.env = pure none := by rfl) (h1 : (assignEach [tg] X.env).map (·.2) = [assign tg X.env] := by rfl) :
    WSs X (.Assign [tg] e pos :: rest) D σ H := wss_cons (ws (ps_asg pe_w hg hs hw h1) (h Hk H (Same.refl _) s r _ k))
theorem xs_retI (s : Same Hk H) (r : RowAt X.K Hk H l) (h : VM X σ Hk l e S) (k : ∀ v d Hk2 H2, Ext (DL.M1 l) Hk H Hk2 H2 → RowAt X.K Hk2 H2 l → S d → Dq X.K Hk2 v d → D.rt v H2) : WSs X (.Return (some e) pos :: rest) D σ H :=
  wss_cons (ws (ps_ret pe_w) (h Hk H (Same.refl _) s r _ k))
/-- if e == c, e drawn -/
theorem xs_ifEqI {i : Int} (s : Same Hk H) (r : RowAt X.K Hk H l) (h : VM X σ Hk l e fun d => ∃ j : Int, d = .int j) (hb : VE X σ Hk b (.dat (.int i))) (h1 : ∀ Hk2 H2, Ext (DL.M1 l) Hk H Hk2 H2 → RowAt X.K Hk2 H2 l → WSs X A { D with nx := WSs X rest D } σ H2) (h2 : ∀ Hk2 H2, Ext (DL.M1 l) Hk H Hk2 H2 → RowAt X.K Hk2 H2 l → WSs X B { D with nx := WSs X rest D } σ H2)
    (hm : behindInMarks .Eq b = false := by first | exact nomark _ | rfl | with_unfolding_all rfl) : WSs X (.If (.Compare e [.Eq] [b] p) A B pos :: rest) D σ H :=
  wss_cons (ws (ps_if (pt_cmpR op_eq pe_w pe_w hm) pss_w pss_w) (h Hk H (Same.refl _) s r _ fun v d Hk1 H1 E1 r1 z dv => (hb.up E1.kk) H1 E1.sub _ fun w Hk2 H2 E2 i2 => by
    obtain ⟨j, rfl⟩ := z
    have e1 := dp_int dv
    have e2 := dp_int i2
    subst e1 e2
    have EE := E1.trans E2.pure
    have r2 := r1.ev E2
    refine ⟨rfl, decide (V.int j = V.int i), rfl, ?_⟩
    cases decide (V.int j = V.int i) with
    | true => exact iteT (h1 Hk2 H2 EE r2)
    | false => exact iteF (h2 Hk2 H2 EE r2)))
/-! what is walked, drawn -/
def VIM (X : Cx) (σ : L2.St) (Hk : Hp) (l : Addr) (tg iter : Expr) (T : List PyData → Prop) : Prop :=
  ∃ wi, PI X tg iter wi ∧ ∀ H, Same Hk H → RowAt X.K Hk H l → ∀ R : It → Hp → Prop, (∀ J ds Hk2 H2, Ext (DL.M1 l) Hk H Hk2 H2 → RowAt X.K Hk2 H2 l → T ds → JOk X.K J Hk2 ds → R J H2) → wi σ H R
theorem vim_list {tg : Expr} {T : List PyData → Prop} (h : VM X σ Hk l e Sa) (q : ∀ x, Sa x → ∃ ds, x = .list ds ∧ T ds) : VIM X σ Hk l tg e T :=
  ⟨_, pi_list pe_w, fun H s r R k => h Hk H (Same.refl _) s r _ fun v x Hk1 H1 E1 r1 zx dx => by
    obtain ⟨ds, rfl, t⟩ := q x zx
    obtain ⟨p, xs, rfl, hq, hx⟩ := dp_lst dx
    exact ⟨p, rfl, ⟨xs, SqL.of (E1.sub _ _ hq)⟩, k _ ds Hk1 H1 E1 r1 t (jok_list (SqL.of hq) hx)⟩⟩
theorem vim_range {tg : Expr} {m : Nat} (hm : X.mg "range" = none) (h : VM X σ Hk l e Sa) (q : ∀ x, Sa x → ∃ n : Nat, x = .int n ∧ n ≤ m) (hz : m ≤ 1000000) (hg : Gl X "range" := by rfl) (hs : starEach [e] X.env = [(false, eval e X.env)] := by rfl) : VIM X σ Hk l tg (.Call (.Name "range" p) [e] [] pos) (fun ds => ∃ n : Nat, ds = intsD n ∧ n ≤ m ∧ Sa (.int n)) :=
  ⟨_, pi_range1 hg hm (pa_cons pe_w pa_nil hs) hs, fun H s r R k => h Hk H (Same.refl _) s r _ fun v x Hk1 H1 E1 r1 zx dx => by
    obtain ⟨n, rfl, hn⟩ := q x zx
    have e1 := dp_int dx
    subst e1
    exact ⟨n, rfl, by omega, by omega, k _ (intsD n) Hk1 H1 E1 r1 ⟨n, rfl, hn, zx⟩ jok_range⟩⟩
theorem xs_forI {tg iter : Expr} {body : List Stmt} {g : TG} {T : List PyData → Prop} (s : Same Hk H) (r : RowAt X.K Hk H l) (hi : VIM X σ Hk l tg iter T) (hg : PG X tg g) (hc : X.calm = true) (hp : PassesOwn (model X.prog X.w) X.A X.env X.xe)
    (P : List PyData → Nat → L2.St → Hp → Hp → Prop) (h0 : ∀ ds Hk2 H2, T ds → Ext (DL.M1 l) Hk H Hk2 H2 → RowAt X.K Hk2 H2 l → P ds 0 σ Hk2 H2)
    (hs : ∀ ds i d v σ' Hk0 H0 Hk' H', T ds → ds[i]? = some d → Same Hk Hk0 → Same Hk0 H0 → P ds i σ' Hk0 H0 → Ext M0 Hk0 H0 Hk' H' → Dq X.K Hk' v d →
      g v σ' H' fun σ2 H2 => WSs X body { D with nx := fun σ3 H3 => ∃ Hk3, Same Hk0 Hk3 ∧ Same Hk3 H3 ∧ P ds (i + 1) σ3 Hk3 H3, ct := fun σ3 H3 => ∃ Hk3, Same Hk0 Hk3 ∧ Same Hk3 H3 ∧ P ds (i + 1) σ3 Hk3 H3, bk := WSs X rest D } σ2 H2)
    (hd : ∀ ds σ' Hk' H', T ds → Same Hk Hk' → Same Hk' H' → P ds ds.length σ' Hk' H' → WSs X rest D σ' H')
    (hf : ∀ x, foldedSetIterable iter X.env x = pure x := by intro _; rfl) : WSs X (.For tg iter body [] pos :: rest) D σ H := by
  obtain ⟨wi, hpi, q⟩ := hi
  refine wss_cons (ws (ps_for hp hc hpi hg pss_w hf) (q H s r _ fun J ds Hk1 H1 E1 r1 t jo => ?_))
  refine ⟨fun i m σ' H' => m = ds.length - i ∧ i ≤ ds.length ∧ ∃ Hk', Same Hk1 Hk' ∧ Same Hk' H' ∧ P ds i σ' Hk' H', ⟨_, rfl, Nat.zero_le _, Hk1, Same.refl _, E1.sub, h0 ds Hk1 H1 t E1 r1⟩, fun i m σ' H' w => ?_⟩
  obtain ⟨rfl, hi, Hk', k1, s1, p⟩ := w
  by_cases hlt : i < ds.length
  · refine .inr ⟨jo.go i H' (k1.trans s1) hlt, fun σ3 H3 => ∃ Hk3, Same Hk' Hk3 ∧ Same Hk3 H3 ∧ P ds (i + 1) σ3 Hk3 H3, fun σ3 H3 w => ?_, fun v H2 y => ?_⟩
    · obtain ⟨Hk3, a1, a2, a3⟩ := w
      exact ⟨ds.length - (i + 1), by omega, rfl, hlt, Hk3, k1.trans a1, a2, a3⟩
    · obtain ⟨d, Hq', hd', E2, dv⟩ := jo.yld i H' v H2 hlt y Hk' k1 s1
      exact hs ds i d v σ' Hk' H' Hq' H2 t hd' (E1.kk.trans k1) s1 p E2 dv
  · have e : i = ds.length := by omega
    subst e
    exact .inl ⟨jo.stop _ H' (k1.trans s1) (Nat.le_refl _), hd ds σ' Hk' H' t (E1.kk.trans k1) s1 p⟩
/-- [e for x in it], both drawn -/
theorem vm_lc {elt tg iter : Expr} {scope : Scope} {own : List (Str × Nat)} {g : TG} {T : List PyData → Prop} (hc : X.calm = true) (hN : X.N.Nodup) (hk : ∀ Hq, Same Hk Hq → VIM X σ Hq l tg iter T) (hz : ∀ ds, T ds → ds.length ≤ 1000000) (ok : BlkOk X.N X.env.scope scope own)
    (hg : ∀ (s : Shared) (H : Hp) (C : Addr) (cl : List (Str × Addr)) (fp : List Addr), PG (BK X scope s H C cl fp) tg g)
    (hE : ∀ d v Hk' H', Same Hk Hk' → Same Hk' H' → Dq X.K Hk' v d → ∃ σ2, (∀ Q : L2.St → Hp → Prop, Q σ2 H' → g v (wipe σ (own.map (·.2))) H' Q) ∧ wipe σ2 (own.map (·.2)) = wipe σ (own.map (·.2)) ∧ ∀ (s : Shared) (H0 : Hp) (C : Addr) (cl : List (Str × Addr)) (fp : List Addr), VM (BK X scope s H0 C cl fp) σ2 Hk' l elt Sb)
    (q : ∀ ds rs, T ds → rs.length = ds.length → (∀ r ∈ rs, Sb r) → S (.list rs))
    (hs : ∀ x, foldedSetIterable iter X.env x = pure x := by intro _; rfl) : VM X σ Hk l (.ListComp elt [⟨tg, iter, [], 0⟩] scope pos) S := by
  intro Hq H k sm r Q kk
  obtain ⟨wi, hpi, qi⟩ := hk Hq k
  refine we (pe_lc (tt := WTb X scope []) (te := WEb X scope elt) hc hN hpi ok hg (fun s H C cl fp => ⟨fun pins s' σ' H' Q I h => h s H C cl fp pins s' I⟩) (fun s H C cl fp => ⟨fun pins s' σ' H' Q I h => h s H C cl fp pins s' I⟩) hs) (qi H sm r _ fun J ds Hk1 H1 E1 r1 t jo => ?_)
  intro Dl nD
  have nl : Dl ≠ l := fun z => by obtain ⟨_, _, _, _, _, _, h2, _⟩ := r1; rw [z, h2] at nD; cases nD
  have nDH : H Dl = none := by
    cases hh : H Dl with
    | none => rfl
    | some o => exact absurd nD (E1.there Dl (by rw [hh]; exact fun z => nomatch z))
  have A1 : Ext M0 Hk1 H1 Hk1 (upd H1 Dl (.lst [])) := Ext.allocM E1.sub nD
  refine ⟨fun i m H' => m = ds.length - i ∧ i ≤ ds.length ∧ ∃ Hk' acc rs, Ext (DL.M1 l) Hq H Hk' H' ∧ Same Hk1 Hk' ∧ RowAt X.K Hk' H' l ∧ Hk' Dl = none ∧ H' Dl = some (.lst acc) ∧ DqAll X.K Hk' acc rs ∧ rs.length = i ∧ ∀ r ∈ rs, Sb r, ⟨_, rfl, Nat.zero_le _, Hk1, [], [], E1.trans A1.pure, Same.refl _, r1.ev A1, E1.sub.free nD, upd_same, .nil, rfl, (fun _ z => nomatch z)⟩, fun i m H' w => ?_⟩
  obtain ⟨rfl, hil, Hk', acc, rs, E, k1, rr, nk, ea, da, hl, hS⟩ := w
  by_cases hlt : i < ds.length
  · refine .inr ⟨jo.go i H' (k1.trans E.sub) hlt, fun H3 => ∃ Hk3 acc3 rs3, Ext (DL.M1 l) Hq H Hk3 H3 ∧ Same Hk1 Hk3 ∧ RowAt X.K Hk3 H3 l ∧ Hk3 Dl = none ∧ H3 Dl = some (.lst acc3) ∧ DqAll X.K Hk3 acc3 rs3 ∧ rs3.length = i + 1 ∧ ∀ r ∈ rs3, Sb r, fun H3 w => ?_, fun v H2 y => ?_⟩
    · obtain ⟨Hk3, acc3, rs3, w⟩ := w
      exact ⟨ds.length - (i + 1), by omega, rfl, hlt, Hk3, acc3, rs3, w⟩
    · obtain ⟨d, Hq', hd', E2, dv⟩ := jo.yld i H' v H2 hlt y Hk' k1 E.sub
      have tD : H' Dl ≠ none := by rw [ea]; exact fun z => nomatch z
      obtain ⟨σ2, hg2, hw, hb⟩ := hE d v Hq' H2 (((k.trans E1.kk).trans k1).trans E2.kk) E2.sub dv
      refine hg2 _ ⟨hw, fun s0 H0 C cl fp => ?_⟩
      refine WTs.of (X := BK X scope s0 H0 C cl fp) (b := true) (.inl ⟨rfl, rfl⟩) E2.sub fun Hk3 H3 E3 => iteT fun s0' H0' C' cl' fp' => ?_
      have E23 := E2.trans E3
      refine (hb s0' H0' C' cl' fp') Hk3 H3 E3.kk E3.sub (rr.ev E23) _ fun u du Hk4 H4 E4 r4 zu dvu => ?_
      have t3 : H3 Dl ≠ none := by rw [E23.same _ _ ea]; exact fun z => nomatch z
      have nk4 : Hk4 Dl = none := (E4.new Dl t3).trans (E23.unk nk tD)
      have ea4 : H4 Dl = some (.lst acc) := E4.keep _ _ nl (E23.same _ _ ea)
      have hz1 := hz ds t
      have EA : Ext (DL.M1 l) Hq H Hk4 H4 := (E.trans E23.pure).trans E4
      have EB : Ext (DL.M1 l) Hq H Hk4 (upd H4 Dl (.lst (acc ++ [u]))) := EA.loc nDH nk4
      refine ⟨acc, ea4, Nat.lt_of_le_of_lt (show acc.length ≤ 1000000 by rw [da.len, hl]; omega) (by rw [sizeLine_eq]; decide), Hk4, acc ++ [u], rs ++ [du], EB, (k1.trans E23.kk).trans E4.kk, ?_, nk4, upd_same, (da.up (E23.kk.trans E4.kk)).app (.cons dvu .nil), by rw [List.length_append, hl]; rfl, fun x hx => ?_⟩
      · obtain ⟨n4, sc, ns, c, st, h1, h2, h3⟩ := r4
        exact ⟨n4, sc, ns, c, st, h1, by rw [upd_ne nl.symm]; exact h2, h3⟩
      · rcases List.mem_append.mp hx with z | z
        · exact hS x z
        · rw [List.mem_singleton.mp z]; exact zu
  · have e : i = ds.length := by omega
    subst e
    refine .inl ⟨jo.stop _ H' (k1.trans E.sub) (Nat.le_refl _), ?_⟩
    have EF := E.fix nDH nk ea
    refine kk _ (.list rs) _ H' EF ?_ (q ds rs t hl hS) (.lst upd_same (da.up (same_up nk)))
    obtain ⟨n4, sc, ns, c, st, h1, h2, h3⟩ := rr
    exact ⟨by rw [upd_ne nl.symm]; exact n4, sc, ns, c, st, h1.up (same_up nk), h2, h3⟩
end
end DL
end
section
set_option Elab.async false
set_option linter.all false
set_option maxRecDepth 100000
set_option maxHeartbeats 4000000
/-! _law_guesser, _law_setting -/
namespace DL
open PySem PySem.Spec PyProof.Rows L2
section
variable {X : Cx} {σ : L2.St} {Hk H : Hp} {e : Expr} {pos p : Pos}
theorem ve_intB {n : Str} {d : Bool} (hm : X.mg n = none) (h : VE X σ Hk e (.dat (.bool d))) (hb : bootBuiltins n = some (.type "int") := by decide +kernel) (hg : Gl X n := by rfl) (hn : n ≠ "__name__" := by decide) (hdb : (n == ("__debug__" : Str)) = false := by decide)
    (he : starEach [e] X.env = (false, eval e X.env) :: starEach [] X.env := by rfl) : VE X σ Hk (.Call (.Name n p) [e] [] pos) (.dat (.int (if d then 1 else 0))) :=
  ve_of (pe_callTy call_int1 hg hm hb (pa_cons pe_w pa_nil he) hn hdb he) fun H s Q k => h H s _ fun v Hk1 H1 E1 i1 => by
    have e1 := dp_bool i1
    subst e1
    exact .inr ⟨d, rfl, k _ Hk1 H1 E1 (.int _)⟩
theorem WSs.mono {st : List Stmt} {D D' : Ends} (h : WSs X st D σ H) (n : ∀ σ H, D.nx σ H → D'.nx σ H) (r : ∀ v H, D.rt v H → D'.rt v H) (b : ∀ σ H, D.bk σ H → D'.bk σ H) (c : ∀ σ H, D.ct σ H → D'.ct σ H) : WSs X st D' σ H := fun pins s I => thn (h pins s I) fun f s1 q => by
  cases f with
  | next => obtain ⟨σ', H', I', q⟩ := q; exact ⟨σ', H', I', n _ _ q⟩
  | brk => obtain ⟨σ', H', I', q⟩ := q; exact ⟨σ', H', I', b _ _ q⟩
  | cont => obtain ⟨σ', H', I', q⟩ := q; exact ⟨σ', H', I', c _ _ q⟩
  | ret v => obtain ⟨x, σ', H', I', rr, q⟩ := q; exact ⟨x, σ', H', I', rr, r _ _ q⟩
end
end DL
namespace W
open PySem PySem.Spec PyProof.Rows L2 DL Tx Mi Ml Nd
section
variable {P : Program} {w : World} {K : PySem.W.Frag} {mg : Str → Option Value} {base : Heap}
/-- a law's def by its body -/
theorem ok_ofI {n : Str} {st : Stmt} {ps N : List Str} {f : Addr} {fd : FuncData} {G : List PyData → (PyData → Prop) → Prop} {k : Nat} (Fd : Fun K n n st f fd) (S : FnScope N ps (defScope st)) (len : ∀ as S, G as S → as.length + 1 = ps.length)
    (body : ∀ (cdv : Value) (A : Around) (outer : List Env) (s : Shared) (H Hk : Hp) (l : Addr) (us : List V) (as : List PyData) (T : PyData → Prop) (Q : VK), Room k (A.deeper (envOfC n (defScope st) s.heap.objs.size f cdv)) → Same Hk H → RowAt K Hk H l → DqAll K Hk us as → G as T →
      (∀ v d Hk2 H2, Ext (DL.M1 l) Hk H Hk2 H2 → RowAt K Hk2 H2 l → T d → Dq K Hk2 v d → Q v H2) →
      WSs (cxOf CX0 P w K mg base N n (defScope st) f cdv A outer s H E0).nox (defBody st) { nx := fun _ H' => Q .non H', rt := Q } (start N (.ref l :: us)) H) : FnOk P w K mg base CX0 (k + 1) f fd ps (spI K G) := by
  refine ok_gen (sp := fun vs H Q => spI K G vs H Q E0) Fd S (fun vs H Q h => ?_) fun cdv A outer s H vs Q hr h => ?_
  · obtain ⟨Hk, l, us, as, T, rfl, _, _, h, g, _⟩ := h
    rw [List.length_cons, h.len]
    exact len as T g
  · obtain ⟨Hk, l, us, as, T, rfl, sm, r, h, g, q⟩ := h
    exact body cdv A outer s H Hk l us as T Q hr sm r h g q
def gTaken (as : List PyData) (S : PyData → Prop) : Prop := ∃ m : Int, as = [.int m] ∧ 0 < m ∧ ∀ r, 0 ≤ r → r < m → S (.int r)
theorem ev_taken (T : Tp K w mg) (E : Ev K mg) : FnOk P w K mg base CX0 1 E.taken.f E.taken.fd ["_law_row", "_law_many"] (spI K gTaken) :=
  (ok_taken T E).imp fun vs H Q _ h => by
    obtain ⟨Hk, l, us, as, S, rfl, sm, r, da, ⟨m, rfl, hm, hs⟩, q⟩ := h
    obtain _ | ⟨d1, _ | _⟩ := da
    have e1 := dp_int d1
    subst e1
    exact ⟨Hk, l, m, rfl, sm, r, hm, fun x Hk2 H2 h0 h1 E r2 => q (.int x) (.int x) Hk2 H2 E r2 (hs x h0 h1) (.int x)⟩
end
section
variable {X : Cx} {σ : L2.St} {Hk : Hp} {l : Addr} {a b : Expr} {S Sb : PyData → Prop} {pos p : Pos}
theorem vm_taken (T : Tp X.K X.w X.mg) (E : Ev X.K X.mg) (hr : Room 1 X.A) (ho : VE X σ Hk a (.val (.ref l))) (hb : VM X σ Hk l b Sb) (q : ∀ d, Sb d → ∃ m : Int, d = .int m ∧ 0 < m ∧ ∀ r, 0 ≤ r → r < m → S (.int r)) (hg : Gl X "_law_taken" := by rfl)
    (hb1 : starEach [b] X.env = (false, eval b X.env) :: starEach [] X.env := by rfl) (he : starEach [a, b] X.env = (false, eval a X.env) :: starEach [b] X.env := by rfl) (hpl : (backTo pos (starEach [b] X.env)).any (·.1) = false := by rfl) : VM X σ Hk l (.Call (.Name "_law_taken" p) [a, b] [] pos) S :=
  vm_call (ev_taken T E) hr E.taken.d.g E.taken.d.F.kp E.taken.d.b ho (vam_cons hb vam_nil hb1) (fun ds z => by
    obtain _ | ⟨z1, _ | _⟩ := z
    obtain ⟨m, rfl, hm, hs⟩ := q _ z1
    exact ⟨m, rfl, hm, hs⟩) hg (by decide) he hpl
/-- .. of a number that stands there -/
theorem vm_takenN (T : Tp X.K X.w X.mg) (E : Ev X.K X.mg) (hr : Room 1 X.A) (ho : VE X σ Hk a (.val (.ref l))) {m : Int} (hb : VE X σ Hk b (.dat (.int m))) (hm : 0 < m) (hg : Gl X "_law_taken" := by rfl)
    (hb1 : starEach [b] X.env = (false, eval b X.env) :: starEach [] X.env := by rfl) (he : starEach [a, b] X.env = (false, eval a X.env) :: starEach [b] X.env := by rfl) (hpl : (backTo pos (starEach [b] X.env)).any (·.1) = false := by rfl) : VM X σ Hk l (.Call (.Name "_law_taken" p) [a, b] [] pos) (fun d => ∃ r : Int, d = .int r ∧ 0 ≤ r ∧ r < m) :=
  vm_taken T E hr ho (Sb := fun d => d = .int m) (vm_of hb rfl) (fun d e => ⟨m, e, hm, fun r h0 h1 => ⟨r, rfl, h0, h1⟩⟩) hg hb1 he hpl
end
section
variable {P : Program} {w : World} {K : PySem.W.Frag} {mg : Str → Option Value} {base : Heap}
abbrev nLG : List Str := ["_law_row", "_law_within", "_law_way", "_law_one", "_law_sorts"]
theorem scLG : FnScope nLG ["_law_row", "_law_within"] (defScope sLGuesser) := ⟨rfl, rfl, rfl, by decide +kernel, rfl, by decide +kernel, by decide +kernel⟩
def gLG (n : Nat) (as : List PyData) (S : PyData → Prop) : Prop := ∃ wv : Nat, wv < n ∧ wv ≤ 1 ∧ as = [.int wv] ∧ ∀ g : Gs, g.ok (3 - wv) → S g.enc
def leaf (d : PyData) : Prop := ∃ g : Gs, (∀ wi, wi ≤ 3 → g.ok wi) ∧ d = g.enc
theorem ok_lg {n : Nat} (T : Tp K w mg) (E : Ev K mg) (G : FnOk P w K mg base CX0 (n + 1) E.lGuesser.f E.lGuesser.fd ["_law_row", "_law_within"] (spI K (gLG n))) : FnOk P w K mg base CX0 (n + 2) E.lGuesser.f E.lGuesser.fd ["_law_row", "_law_within"] (spI K (gLG (n + 1))) := by
  refine ok_ofI E.lGuesser.d.F scLG (fun as S h => by obtain ⟨_, _, _, rfl, _⟩ := h; rfl) fun cdv A outer s H Hk l us as S Q hr sm r da g q => ?_
  obtain ⟨wv, hwn, hw1, rfl, gS⟩ := g
  obtain _ | ⟨d1, _ | _⟩ := da
  rename_i vw
  have hr1 := hr.mono (show 1 ≤ n + 1 by omega)
  have row_ : ∀ {σ : L2.St} {Hk' : Hp} {p : Pos}, σ[0]? = some (some (.ref l)) → VE (cxOf CX0 P w K mg base nLG "_law_guesser" (defScope sLGuesser) E.lGuesser.f cdv A outer s H E0).nox σ Hk' (.Name "_law_row" p) (.val (.ref l)) := fun h => ve_v 0 h rfl
  have tn : ∀ (m : Int), 0 < m → ∀ {σ : L2.St} {Hk' : Hp} {p p1 p2 pos : Pos} {j : Nat}, σ[0]? = some (some (.ref l)) → VM (cxOf CX0 P w K mg base nLG "_law_guesser" (defScope sLGuesser) E.lGuesser.f cdv A outer s H E0).nox σ Hk' l (.Call (.Name "_law_taken" p) [.Name "_law_row" p1, .Constant (.int m) j p2] [] pos) (fun d => ∃ r : Int, d = .int r ∧ 0 ≤ r ∧ r < m) :=
    fun m hm σ Hk' p p1 p2 pos j h => vm_takenN T E hr1 (row_ h) ve_int hm
  have e68 : ([PyData.int 6, .int 8])[if decide ((0 : Int) < (wv : Int)) then 1 else 0]? = some (.int (if wv = 0 then 6 else 8)) := by
    rcases (show wv = 0 ∨ wv = 1 by omega) with rfl | rfl <;> rfl
  -- way
  refine xs_setI (i := 2) sm r (vm_takenN T E hr1 (row_ rfl) (m := if wv = 0 then 6 else 8) (ve_itL (i := if decide ((0 : Int) < (wv : Int)) then 1 else 0) (ve_lst (ds := [.int 6, .int 8]) (va_cons ve_int (va_cons ve_int va_nil))) (VE.is (ve_intB T.int (ve_c (ve_v 1 rfl (y := .dat (.int (wv : Int))) d1) ve_int cd_gt)) ?_) e68) (by split <;> decide)) (fun v2 dd Hk1 H1 E1 r1 z1 dv1 => ?_) scLG.nd
  · rcases (show wv = 0 ∨ wv = 1 by omega) with rfl | rfl <;> rfl
  obtain ⟨x, rfl, x0, x1⟩ := z1
  by_cases hx : (5 : Int) < x
  · have ew : wv = 1 := by
      rcases (show wv = 0 ∨ wv = 1 by omega) with rfl | rfl
      · simp at x1; omega
      · rfl
    subst ew
    have sub1 : ∀ {σ : L2.St} {Hk' : Hp} {p p1 p2 p3 p4 pos : Pos} {j : Nat}, σ[0]? = some (some (.ref l)) → σ[1]? = some (some vw) → Dq K Hk' vw (.int ((1 : Nat) : Int)) → VM (cxOf CX0 P w K mg base nLG "_law_guesser" (defScope sLGuesser) E.lGuesser.f cdv A outer s H E0).nox σ Hk' l (.Call (.Name "_law_guesser" p) [.Name "_law_row" p1, .BinOp (.Name "_law_within" p2) .Sub (.Constant (.int 1) j p3) p4] [] pos) leaf := by
      intro σ Hk' p p1 p2 p3 p4 pos j h0 h1 dw
      refine vm_call G hr E.lGuesser.d.g E.lGuesser.d.F.kp E.lGuesser.d.b (row_ h0) (vam_cons (S := fun d => d = .int 0) (vm_of (ve_sub (ve_v 1 h1 (y := .dat (.int ((1 : Nat) : Int))) dw) ve_int) rfl) vam_nil) fun ds z => ?_
      obtain _ | ⟨z1, _ | _⟩ := z
      subst z1
      refine ⟨0, by omega, by omega, rfl, fun g hg => ⟨g, fun wi hwi => ?_, rfl⟩⟩
      cases g with
      | both a b =>
        simp only [Gs.ok] at hg
        have := ok_le hg.2.1
        omega
      | none => simp only [Gs.ok]; omega
      | next _ => simp only [Gs.ok] at hg ⊢; omega
      | stride _ => simp only [Gs.ok] at hg ⊢; omega
      | pairs _ => simp only [Gs.ok] at hg ⊢; omega
    refine xs_ifT E1.sub (VT.is (vt_c (ve_v 2 rfl (y := .dat (.int x)) dv1) ve_int cd_gt) (decide_eq_true hx)) fun Hk2 H2 E2 => ?_
    refine xs_setI (i := 3) E2.sub (r1.ev E2) (sub1 rfl rfl (d1.up (E1.kk.trans E2.kk))) (fun v3 d3 Hk3 H3 E3 r3 z3 dv3 => ?_) scLG.nd
    have E13 := (E1.trans E2.pure).trans E3
    refine xs_retI (S := S) E3.sub r3 (vm_tup (Ss := [fun d => d = .str "both", fun d => d = d3, leaf]) (vam_cons (vm_of ve_str rfl) (vam_cons (vm_of (ve_v 3 rfl (y := .dat d3) dv3) rfl) (vam_cons (sub1 rfl rfl (d1.up E13.kk)) vam_nil))) (by simp) (fun ds z => ?_) (fun ds z => by rw [z.len]; simp)) fun v d Hk4 H4 E4 r4 z4 dv4 => q v d Hk4 H4 (E13.trans E4) r4 z4 dv4
    obtain _ | ⟨rfl, _ | ⟨rfl, _ | ⟨z5, _ | _⟩⟩⟩ := z
    obtain ⟨g1, h1, rfl⟩ := z3
    obtain ⟨g2, h2, rfl⟩ := z5
    exact gS (.both g1 g2) ⟨by decide, h1 3 (by decide), h2 3 (by decide)⟩
  · refine xs_ifN E1.sub (VT.is (vt_c (ve_v 2 rfl (y := .dat (.int x)) dv1) ve_int cd_gt) (decide_eq_false hx)) fun Hk2 H2 E2 => ?_
    have two : ∀ (wd : Str) (m : Int) (Z : PyData → Prop), 0 < m → (∀ r : Int, 0 ≤ r → r < m → Z (.tuple [.str wd, .int (1 + r)])) → ∀ {σ : L2.St} {Hk' : Hp} {p p1 p2 p3 p4 p5 p6 pos : Pos} {j j2 j3 x1 : Nat}, σ[0]? = some (some (.ref l)) →
        VM (cxOf CX0 P w K mg base nLG "_law_guesser" (defScope sLGuesser) E.lGuesser.f cdv A outer s H E0).nox σ Hk' l (.Tuple [.Constant (.str wd) j3 p4, .BinOp (.Constant (.int 1) j2 p5) .Add (.Call (.Name "_law_taken" p) [.Name "_law_row" p1, .Constant (.int m) j p2] [] p3) p6] x1 pos) Z := by
      intro wd m Z hm hz σ Hk' p p1 p2 p3 p4 p5 p6 pos j j2 j3 x1 h
      refine vm_tup (Ss := [fun d => d = .str wd, fun d => ∃ r : Int, d = .int (1 + r) ∧ 0 ≤ r ∧ r < m]) (vam_cons (vm_of ve_str rfl) (vam_cons (vm_add (Sa := fun d => d = .int 1) (vm_of ve_int rfl) (tn m hm h) fun a b ea ⟨r, eb, h0, h1⟩ => ⟨1, r, ea, eb, r, rfl, h0, h1⟩) vam_nil)) (by simp) (fun ds z => ?_) fun ds z => by rw [z.len]; simp
      obtain _ | ⟨rfl, _ | ⟨⟨r, rfl, h0, h1⟩, _ | _⟩⟩ := z
      exact hz r h0 h1
    have nat1 : ∀ r : Int, 0 ≤ r → ∃ k : Nat, 1 + r = (k : Int) ∧ 1 ≤ k := fun r h => ⟨(1 + r).toNat, by omega, by omega⟩
    refine xs_setI (i := 4) E2.sub (r1.ev E2) (S := fun d => ∃ ds, d = .list ds ∧ ds.length = 3 ∧ ∀ y ∈ ds, leaf y) (vm_lst (Ss := [leaf, leaf, leaf]) (vam_cons (vm_of (ve_tup (ds := [.str "none"]) (va_cons ve_str va_nil)) ⟨.none, fun wi h => h, rfl⟩) (vam_cons (two "next" 3 leaf (by decide) (fun r h0 h1 => by
      obtain ⟨k, e, h⟩ := nat1 r h0
      rw [e]
      exact ⟨.next k, fun wi hw => ⟨hw, h, by omega⟩, rfl⟩) rfl) (vam_cons (two "stride" 3 leaf (by decide) (fun r h0 h1 => by
      obtain ⟨k, e, h⟩ := nat1 r h0
      rw [e]
      exact ⟨.stride k, fun wi hw => ⟨hw, h, by omega⟩, rfl⟩) rfl) vam_nil))) (fun ds z => ?_) (fun ds z => by rw [z.len]; simp)) (fun v3 d3 Hk3 H3 E3 r3 z3 dv3 => ?_) scLG.nd
    · obtain _ | ⟨z1, _ | ⟨z2, _ | ⟨z3, _ | _⟩⟩⟩ := z
      refine ⟨_, rfl, rfl, fun y hy => ?_⟩
      simp only [List.mem_cons, List.not_mem_nil, or_false] at hy
      rcases hy with rfl | rfl | rfl
      · exact z1
      · exact z2
      · exact z3
    · obtain ⟨ds1, rfl, hl1, hy1⟩ := z3
      refine xs_setI (i := 4) E3.sub r3 (S := fun d => ∃ ds, d = .list ds ∧ ds.length = 6 ∧ ∀ y ∈ ds, leaf y) (vm_catL (Sa := fun d => d = .list ds1) (Sb := fun d => ∃ ds, d = .list ds ∧ ds.length = 3 ∧ ∀ y ∈ ds, leaf y) (vm_of (ve_v 4 rfl (y := .dat (.list ds1)) dv3) rfl) (vm_lst (Ss := [leaf, leaf, leaf]) (vam_cons (two "pairs" 2 leaf (by decide) (fun r h0 h1 => by
        obtain ⟨k, e, h⟩ := nat1 r h0
        rw [e]
        exact ⟨.pairs k, fun wi hw => ⟨hw, h, by omega⟩, rfl⟩) rfl) (vam_cons (vm_of (ve_tup (ds := [.str "stride", .int 1]) (va_cons ve_str (va_cons ve_int va_nil))) ⟨.stride 1, fun wi hw => ⟨hw, by decide, by decide⟩, rfl⟩) (vam_cons (vm_of (ve_tup (ds := [.str "next", .int 1]) (va_cons ve_str (va_cons ve_int va_nil))) ⟨.next 1, fun wi hw => ⟨hw, by decide, by decide⟩, rfl⟩) vam_nil))) (fun ds z => ?_) (fun ds z => by rw [z.len]; simp)) fun a b ea eb => ?_) (fun v4 d4 Hk4 H4 E4 r4 z4 dv4 => ?_) scLG.nd
      · obtain _ | ⟨z1, _ | ⟨z2, _ | ⟨z3, _ | _⟩⟩⟩ := z
        refine ⟨_, rfl, rfl, fun y hy => ?_⟩
        simp only [List.mem_cons, List.not_mem_nil, or_false] at hy
        rcases hy with rfl | rfl | rfl
        · exact z1
        · exact z2
        · exact z3
      · obtain ⟨ds2, rfl, hl2, hy2⟩ := eb
        refine ⟨ds1, ds2, ea, rfl, by omega, _, rfl, by rw [List.length_append, hl1, hl2], fun y hy => ?_⟩
        rcases List.mem_append.mp hy with h | h
        · exact hy1 y h
        · exact hy2 y h
      · obtain ⟨ds2, rfl, hl2, hy2⟩ := z4
        obtain ⟨j, hj⟩ : ∃ j : Nat, x = (j : Int) := ⟨x.toNat, by omega⟩
        subst hj
        obtain ⟨y, hy⟩ : ∃ y, ds2[j]? = some y := ⟨ds2[j]'(by omega), List.getElem?_eq_getElem (by omega)⟩
        obtain ⟨gl, hgl, rfl⟩ := hy2 y (List.mem_of_getElem? hy)
        have E24 := ((E1.trans E2.pure).trans E3).trans E4
        exact xs_ret E4.sub (ve_itL (ve_v 4 rfl (y := .dat (.list ds2)) dv4) (ve_v 2 rfl (y := .dat (.int (j : Int))) (dv1.up ((E2.kk.trans E3.kk).trans E4.kk))) hy) fun v Hk5 H5 E5 i5 => q v _ Hk5 H5 (E24.trans E5.pure) (r4.ev E5) (gS gl (hgl _ (by omega))) i5
theorem ok_lgs (T : Tp K w mg) (E : Ev K mg) : ∀ n, FnOk P w K mg base CX0 (n + 1) E.lGuesser.f E.lGuesser.fd ["_law_row", "_law_within"] (spI K (gLG n))
  | 0 => by
    have no : ∀ vs H Q E', ¬ spI K (gLG 0) vs H Q E' := fun vs H Q E' h => by
      obtain ⟨_, _, _, _, _, _, _, _, _, ⟨_, h, _⟩, _⟩ := h
      omega
    exact ⟨fun vs H Q E' h => absurd h (no vs H Q E'), fun A outer s H args us vs Q E' _ _ _ _ h => absurd h (no vs H Q E')⟩
  | n + 1 => ok_lg T E (ok_lgs T E n)
end
end W
end
section
set_option Elab.async false
set_option linter.all false
set_option maxRecDepth 100000
set_option maxHeartbeats 4000000
/-! _law_setting, _law_places, _law_deeds -/
namespace DL
open PySem PySem.Spec PyProof.Rows L2
section
variable {X : Cx} {σ : L2.St} {Hk H : Hp} {l : Addr} {e a c : Expr} {S : PyData → Prop} {pos : Pos} {D : Ends} {rest A B : List Stmt}
/-- both ways of an if lead to one state -/
theorem xs_ifJ {d : Bool} (J : L2.St → Hp → Prop) (s : Same Hk H) (h : VT X σ Hk c d) (h1 : d = true → ∀ Hk2 H2, Ext M0 Hk H Hk2 H2 → WSs X A { D with nx := J } σ H2) (h2 : d = false → ∀ Hk2 H2, Ext M0 Hk H Hk2 H2 → WSs X B { D with nx := J } σ H2)
    (k : ∀ σ H, J σ H → WSs X rest D σ H) : WSs X (.If c A B pos :: rest) D σ H :=
  xs_if s h (fun z Hk2 H2 E => (h1 z Hk2 H2 E).mono k (fun _ _ q => q) (fun _ _ q => q) (fun _ _ q => q)) (fun z Hk2 H2 E => (h2 z Hk2 H2 E).mono k (fun _ _ q => q) (fun _ _ q => q) (fun _ _ q => q))
/-- l2.append(e), e drawn -/
theorem xs_appI {apos cpos : Pos} {lf : Addr} {vs : List V} (s : Same Hk H) (r : RowAt X.K Hk H l) (ne : lf ≠ l) (ho : VE X σ Hk a (.val (.ref lf))) (hl : H lf = some (.lst vs)) (hn : vs.length < 1000000) (h : VM X σ Hk l e S)
    (k : ∀ v d Hk2 H2, Ext (DL.M1 l) Hk H Hk2 H2 → RowAt X.K Hk2 H2 l → S d → Dq X.K Hk2 v d → WSs X rest D σ (upd H2 lf (.lst (vs ++ [v]))))
    (hs : swapsWith (.Call (.Attribute a "append" apos) [e] [] cpos) none pos.line X.env = pure false := by rfl)
    (hpe : PE X (.Call (.Attribute a "append" apos) [e] [] cpos) (tBM X.K "list" rAppend (WE X a) (tCons (WE X e) tNil)) := by exact pe_bm PySem.F.plainAttrs_list PySem.F.slot_list_append PySem.F.type_list_append mt_append pe_w (pa_cons pe_w pa_nil)) :
    WSs X (.Expr (.Call (.Attribute a "append" apos) [e] [] cpos) pos :: rest) D σ H :=
  wss_cons (ws (ps_expr hpe hs) (ho H s _ fun o Hk1 H1 E1 i1 => by
    have e1 : o = .ref lf := i1
    subst e1
    refine ⟨.inl ⟨rfl, vs, SqL.of (E1.same _ _ hl)⟩, ?_⟩
    refine h Hk1 H1 E1.kk E1.sub (r.ev E1) _ fun v d Hk2 H2 E2 r2 z dv => ?_
    have E := E1.pure.trans E2
    exact ⟨lf, vs, v, rfl, rfl, E.keep _ _ ne hl, Nat.lt_of_lt_of_le hn (by rw [sizeLine_eq]; decide), k v d Hk2 H2 E r2 z dv⟩))
end
theorem RowAt.upd {K : PySem.W.Frag} {Hk H : Hp} {l lf : Addr} {o : HO} (r : RowAt K Hk H l) (ne : lf ≠ l) : RowAt K Hk (L2.upd H lf o) l := by
  obtain ⟨n, sc, ns, c, s, h1, h2, h3⟩ := r
  exact ⟨n, sc, ns, c, s, h1, by rw [upd_ne ne.symm]; exact h2, h3⟩
end DL
namespace W
open PySem PySem.Spec PyProof.Rows L2 DL Tx Mi Ml Nd
section
variable {P : Program} {w : World} {K : PySem.W.Frag} {mg : Str → Option Value} {base : Heap}
abbrev nLS : List Str := ["_law_row", "_law_most", "_law_memory", "_law_room", "_law_k"]
theorem scLS : FnScope nLS ["_law_row", "_law_most"] (defScope sLSetting) := ⟨rfl, rfl, rfl, by decide +kernel, rfl, by decide +kernel, by decide +kernel⟩
def gLS (as : List PyData) (S : PyData → Prop) : Prop := as = [.int 32] ∧ ∀ st : Stg, st.ok → S st.enc
def cellD (d : PyData) : Prop := ∃ x : Int, d = .int x ∧ 0 ≤ x ∧ x < 100
theorem cells_of : ∀ (rs : List PyData), (∀ r ∈ rs, cellD r) → ∃ ns : List Int, rs = encI ns ∧ ∀ x ∈ ns, 0 ≤ x ∧ x ≤ 99
  | [], _ => ⟨[], rfl, fun _ z => nomatch z⟩
  | d :: rs, h => by
    obtain ⟨ns, e, hn⟩ := cells_of rs fun r hr => h r (List.mem_cons_of_mem _ hr)
    obtain ⟨x, ex, h0, h1⟩ := h d List.mem_cons_self
    refine ⟨x :: ns, by rw [e, ex]; rfl, fun y hy => ?_⟩
    rcases List.mem_cons.mp hy with z | z
    · rw [z]; omega
    · exact hn y z
theorem ok_ls (T : Tp K w mg) (E : Ev K mg) : FnOk P w K mg base CX0 2 E.lSetting.f E.lSetting.fd ["_law_row", "_law_most"] (spI K gLS) := by
  refine ok_ofI E.lSetting.d.F scLS (fun as S h => by obtain ⟨rfl, _⟩ := h; rfl) fun cdv A outer s H Hk l us as S Q hr sm r da g q => ?_
  obtain ⟨rfl, gS⟩ := g
  obtain _ | ⟨d1, _ | _⟩ := da
  rename_i vm
  have row_ : ∀ {σ : L2.St} {Hk' : Hp} {p : Pos}, σ[0]? = some (some (.ref l)) → VE (cxOf CX0 P w K mg base nLS "_law_setting" (defScope sLSetting) E.lSetting.f cdv A outer s H E0).nox σ Hk' (.Name "_law_row" p) (.val (.ref l)) := fun h => ve_v 0 h rfl
  have tn : ∀ (m : Int), 0 < m → ∀ {σ : L2.St} {Hk' : Hp} {p p1 p2 pos : Pos} {j : Nat}, σ[0]? = some (some (.ref l)) → VM (cxOf CX0 P w K mg base nLS "_law_setting" (defScope sLSetting) E.lSetting.f cdv A outer s H E0).nox σ Hk' l (.Call (.Name "_law_taken" p) [.Name "_law_row" p1, .Constant (.int m) j p2] [] pos) (fun d => ∃ r : Int, d = .int r ∧ 0 ≤ r ∧ r < m) :=
    fun m hm σ Hk' p p1 p2 pos j h => vm_takenN T E hr (row_ h) ve_int hm
  -- memory
  refine xs_setI (i := 2) sm r (S := fun d => ∃ ns : List Int, d = .tuple (encI ns) ∧ 1 ≤ ns.length ∧ ns.length ≤ 32 ∧ ∀ x ∈ ns, 0 ≤ x ∧ x ≤ 99) (vm_tuple (Sa := fun d => ∃ ns : List Int, d = .list (encI ns) ∧ 1 ≤ ns.length ∧ ns.length ≤ 32 ∧ ∀ x ∈ ns, 0 ≤ x ∧ x ≤ 99) T.tuple (vm_lc (own := [("_law_k", 4)]) (g := gName 4) (Sb := cellD) rfl scLS.nd (T := fun ds => ∃ n : Nat, ds = intsD n ∧ n ≤ 32 ∧ ∃ k : Int, PyData.int (n : Int) = .int k ∧ 1 ≤ k ∧ k ≤ 32) (fun Hq k => vim_range (Sa := fun d => ∃ k : Int, d = .int k ∧ 1 ≤ k ∧ k ≤ 32) T.range (vm_add (Sa := fun d => d = .int 1) (vm_of ve_int rfl) (vm_takenN T E hr (row_ rfl) (m := 32) (ve_v 1 rfl (y := .dat (.int 32)) (Dq.up d1 k)) (by decide)) fun a b ea ⟨x, eb, h0, h1⟩ => ⟨1, x, ea, eb, 1 + x, rfl, by omega, by omega⟩) (fun x ⟨k, ek, h0, h1⟩ => ⟨k.toNat, by rw [ek]; exact congrArg PyData.int (by omega), by omega⟩) (by decide)) (fun ds ⟨n, e, hn, _⟩ => by rw [e, intsD_len]; omega)
    (blkOk_by (N := nLS) (sc := defScope sLSetting) (by decide +kernel)) (fun _ _ _ _ _ => pg_name (i := 4) scLS.nd rfl (Or.inl rfl)) (fun d v Hk' H' k' s' dv => ?_) (fun ds rs ⟨n, e, hn, k, ek, h1, h2⟩ hl hS => ?_)) fun x ⟨ns, e, h⟩ => ⟨_, e, ns, rfl, h⟩) (fun v2 dm Hk1 H1 E1 r1 z1 dv1 => ?_) scLS.nd
  · refine ⟨_, fun Q' h => h, rfl, fun s0 H0 C cl fp => ?_⟩
    exact (vm_takenN (X := BK (cxOf CX0 P w K mg base nLS "_law_setting" (defScope sLSetting) E.lSetting.f cdv A outer s H E0).nox _ s0 H0 C cl fp) T E hr (ve_v 0 rfl rfl) (m := 100) ve_int (by decide)).imp fun d h => h
  · obtain ⟨ns, en, hns⟩ := cells_of rs hS
    have ln : ns.length = n := by
      rw [e, intsD_len, en] at hl
      unfold encI at hl
      rw [List.length_map] at hl
      exact hl
    cases ek
    exact ⟨ns, by rw [en], by omega, by omega, hns⟩
  · obtain ⟨ns, rfl, n1, n2, hns⟩ := z1
    have e38 : ∀ x : Int, 0 ≤ x → x < 2 → ∃ m : Int, ([PyData.int 3, .int 8])[x.toNat]? = some (.int m) ∧ 0 < m ∧ m ≤ 8 := fun x h0 h1 => by
      rcases (show x = 0 ∨ x = 1 by omega) with rfl | rfl
      · exact ⟨3, rfl, by decide, by decide⟩
      · exact ⟨8, rfl, by decide, by decide⟩
    -- room
    refine xs_setI (i := 3) E1.sub r1 (S := fun d => ∃ x : Int, d = .int x ∧ 1 ≤ x ∧ x ≤ 8) (vm_add (Sa := fun d => d = .int 1) (Sb := fun d => ∃ x : Int, d = .int x ∧ 0 ≤ x ∧ x < 8) (vm_of ve_int rfl) (vm_taken T E hr (row_ rfl) (Sb := fun d => ∃ m : Int, d = .int m ∧ 0 < m ∧ m ≤ 8) (vm_itL (Sa := fun d => d = .list [.int 3, .int 8]) (vm_of (ve_lst (ds := [.int 3, .int 8]) (va_cons ve_int (va_cons ve_int va_nil))) rfl) (tn 2 (by decide) rfl) fun a b ea ⟨x, eb, h0, h1⟩ => by
      obtain ⟨m, e1, h2, h3⟩ := e38 x h0 h1
      exact ⟨_, x.toNat, _, ea, by rw [eb]; exact congrArg PyData.int (by omega), e1, m, rfl, h2, h3⟩) fun d ⟨m, e, h0, h1⟩ => ⟨m, e, h0, fun r h2 h3 => ⟨r, rfl, h2, by omega⟩⟩) fun a b ea ⟨x, eb, h0, h1⟩ => ⟨1, x, ea, eb, 1 + x, rfl, by omega, by omega⟩) (fun v3 dr Hk2 H2 E2 r2 z2 dv2 => ?_) scLS.nd
    obtain ⟨rm, rfl, rm1, rm2⟩ := z2
    have dv1' := dv1.up E2.kk
    refine xs_retI (S := S) E2.sub r2 (vm_tup (Ss := [fun d => d = .tuple (encI ns), fun d => d = .int rm, fun d => ∃ x : Int, d = .int x ∧ 0 ≤ x ∧ x ≤ 4, fun d => ∃ x : Int, d = .int x ∧ 1 ≤ x ∧ x ≤ 4]) (vam_cons (vm_of (ve_v 2 rfl (y := .dat (.tuple (encI ns))) dv1') rfl) (vam_cons (vm_of (ve_v 3 rfl (y := .dat (.int rm)) dv2) rfl) (vam_cons
      (vm_itL (Sa := fun d => ∃ x : Int, d = .list [.int 0, .int 1, .int x] ∧ 0 ≤ x ∧ x < 5) (vm_lst (Ss := [fun d => d = .int 0, fun d => d = .int 1, fun d => ∃ x : Int, d = .int x ∧ 0 ≤ x ∧ x < 5]) (vam_cons (vm_of ve_int rfl) (vam_cons (vm_of ve_int rfl) (vam_cons (tn 5 (by decide) rfl) vam_nil))) (fun ds z => ?_) (fun ds z => by rw [z.len]; simp)) (tn 3 (by decide) rfl) fun a b ⟨x, ea, h0, h1⟩ ⟨y, eb, g0, g1⟩ => ?_)
      (vam_cons (vm_add (Sa := fun d => d = .int 1) (vm_of ve_int rfl) (tn 4 (by decide) rfl) fun a b ea ⟨x, eb, h0, h1⟩ => ⟨1, x, ea, eb, 1 + x, rfl, by omega, by omega⟩) vam_nil)))) (by simp) (fun ds z => ?_) (fun ds z => by rw [z.len]; simp)) fun v d Hk3 H3 E3 r3 z3 dv3 => q v d Hk3 H3 ((E1.trans E2).trans E3) r3 z3 dv3
    · obtain _ | ⟨rfl, _ | ⟨rfl, _ | ⟨⟨x, rfl, h0, h1⟩, _ | _⟩⟩⟩ := z
      exact ⟨x, rfl, h0, h1⟩
    · rcases (show y = 0 ∨ y = 1 ∨ y = 2 by omega) with rfl | rfl | rfl
      · exact ⟨_, 0, _, ea, eb, rfl, 0, rfl, by decide, by decide⟩
      · exact ⟨_, 1, _, ea, eb, rfl, 1, rfl, by decide, by decide⟩
      · exact ⟨_, 2, _, ea, eb, rfl, x, rfl, h0, by omega⟩
    · obtain _ | ⟨rfl, _ | ⟨rfl, _ | ⟨⟨lt, rfl, h0, h1⟩, _ | ⟨⟨mo, rfl, h2, h3⟩, _ | _⟩⟩⟩⟩ := z
      exact gS ⟨ns, rm, lt, mo⟩ ⟨n1, n2, hns, rm1, rm2, h0, h1, h2, h3⟩
end
end W
end
section
set_option Elab.async false
set_option linter.all false
set_option maxRecDepth 100000
set_option maxHeartbeats 4000000
/-! _law_places, _law_deeds -/
namespace W
open PySem PySem.Spec PyProof.Rows L2 DL Tx Mi Ml Nd
section
variable {P : Program} {w : World} {K : PySem.W.Frag} {mg : Str → Option Value} {base : Heap}
abbrev nLP : List Str := ["_law_row", "_law_places_here", "_law_most", "_law_found", "_law_here", "_law_far", "_law_k", "_law_way"]
theorem scLP : FnScope nLP ["_law_row", "_law_places_here", "_law_most"] (defScope sLPlaces) := ⟨rfl, rfl, rfl, by decide +kernel, rfl, by decide +kernel, by decide +kernel⟩
def gLP (as : List PyData) (S : PyData → Prop) : Prop := ∃ (n : Int) (most : Nat), 0 < n ∧ most ≤ 1000 ∧ as = [.int n, .int most] ∧ ∀ ps : List Int, ps.length ≤ most → (∀ x ∈ ps, 0 ≤ x ∧ x < n) → S (.list (encI ps))
/-- where a turn of the walk stands -/
structure PlAt (K : PySem.W.Frag) (l lf : Addr) (n : Int) (i : Nat) (v1 v2 : V) (Hk0 H0 Hk H : Hp) (σ : L2.St) : Prop where
  ex : Ext (DL.M1 l) Hk0 H0 Hk H
  ra : RowAt K Hk H l
  nf : Hk lf = none
  st : ∃ vh vf o6 o7 wf ps hr far, σ = [some (.ref l), some v1, some v2, some (.ref lf), some vh, some vf, o6, o7] ∧ H lf = some (.lst wf) ∧ DqAll K Hk wf (encI ps) ∧ ps.length = i ∧ (∀ x ∈ ps, 0 ≤ x ∧ x < n) ∧ Dq K Hk vh (.int hr) ∧ 0 ≤ hr ∧ hr < n ∧ Dq K Hk vf (.int far)
theorem ok_lp (T : Tp K w mg) (E : Ev K mg) : FnOk P w K mg base CX0 2 E.lPlaces.f E.lPlaces.fd ["_law_row", "_law_places_here", "_law_most"] (spI K gLP) := by
  refine ok_ofI E.lPlaces.d.F scLP (fun as S h => by obtain ⟨_, _, _, _, rfl, _⟩ := h; rfl) fun cdv A outer s H Hk l us as S Q hr sm r da g q => ?_
  obtain ⟨n, most, hn, hmost, rfl, gS⟩ := g
  obtain _ | ⟨d1, _ | ⟨d2, _ | _⟩⟩ := da
  rename_i v1 v2
  have hu64 : (A.deeper (envOfC "_law_places" (defScope sLPlaces) s.heap.objs.size E.lPlaces.f cdv)).units + 64 < cLine := hr.units
  have row_ : ∀ {σ : L2.St} {Hk' : Hp} {p : Pos}, σ[0]? = some (some (.ref l)) → VE (cxOf CX0 P w K mg base nLP "_law_places" (defScope sLPlaces) E.lPlaces.f cdv A outer s H E0).nox σ Hk' (.Name "_law_row" p) (.val (.ref l)) := fun h => ve_v 0 h rfl
  have tn : ∀ (m : Int), 0 < m → ∀ {σ : L2.St} {Hk' : Hp} {p p1 p2 pos : Pos} {j : Nat}, σ[0]? = some (some (.ref l)) → VM (cxOf CX0 P w K mg base nLP "_law_places" (defScope sLPlaces) E.lPlaces.f cdv A outer s H E0).nox σ Hk' l (.Call (.Name "_law_taken" p) [.Name "_law_row" p1, .Constant (.int m) j p2] [] pos) (fun d => ∃ r : Int, d = .int r ∧ 0 ≤ r ∧ r < m) :=
    fun m hm σ Hk' p p1 p2 pos j h => vm_takenN T E hr (row_ h) ve_int hm
  refine xs_nl (i := 3) (fun lf nlf => ?_) scLP.nd
  have ne : lf ≠ l := fun z => by obtain ⟨_, _, _, _, _, _, h2, _⟩ := r; rw [z, h2] at nlf; cases nlf
  have E0' : Ext M0 Hk H Hk (upd H lf (.lst [])) := Ext.allocM sm nlf
  have r0 := r.ev E0'
  -- here, far
  refine xs_setI (i := 4) E0'.sub r0 (vm_takenN T E hr (row_ rfl) (ve_v 1 rfl (y := .dat (.int n)) d1) hn) (fun vh dh Hk1 H1 E1 r1 z1 dv1 => ?_) scLP.nd
  obtain ⟨hr0, rfl, h0, h1⟩ := z1
  refine xs_setI (i := 5) E1.sub r1 (S := fun d => ∃ x : Int, d = .int x) (vm_sub (Sb := fun d => d = .int 3) (tn 7 (by decide) rfl) (vm_of ve_int rfl) fun a b ⟨x, ea, _, _⟩ eb => ⟨x, 3, ea, eb, x - 3, rfl⟩) (fun vf df Hk2 H2 E2 r2 z2 dv2 => ?_) scLP.nd
  obtain ⟨far0, rfl⟩ := z2
  have EA : Ext (DL.M1 l) Hk H Hk2 H2 := (E0'.pure.trans E1).trans E2
  have nkf0 : Hk lf = none := sm.free nlf
  have t0 : (upd H lf (.lst [])) lf ≠ none := by rw [upd_same]; exact fun z => nomatch z
  have nkf1 : Hk1 lf = none := (E1.new lf t0).trans nkf0
  have hf1 : H1 lf = some (.lst []) := E1.keep _ _ ne upd_same
  have nkf2 : Hk2 lf = none := (E2.new lf (by rw [hf1]; exact fun z => nomatch z)).trans nkf1
  have hf2 : H2 lf = some (.lst []) := E2.keep _ _ ne hf1
  refine xs_forI (g := gName 6) E2.sub r2 (vim_range (m := most) (Sa := fun d => ∃ x : Int, d = .int x ∧ 0 ≤ x ∧ x < (most : Int) + 1) T.range (vm_takenN T E hr (row_ rfl) (ve_add (ve_v 2 rfl (y := .dat (.int (most : Int))) (d2.up EA.kk)) ve_int) (by omega)) (fun x ⟨k, e, a, b⟩ => ⟨k.toNat, by rw [e]; exact congrArg PyData.int (by omega), by omega⟩) (by omega)) (pg_name (i := 6) scLP.nd rfl (.inl rfl)) rfl PassesOwn.never
    (fun ds i σ' Hk' H' => PlAt K l lf n i v1 v2 Hk H Hk' H' σ') (fun ds Hk3 H3 _ E3 r3 => ⟨EA.trans E3, r3, (E3.new lf (by rw [hf2]; exact fun z => nomatch z)).trans nkf2, vh, vf, none, none, [], [], hr0, far0, rfl, E3.keep _ _ ne hf2, .nil, rfl, (fun _ z => nomatch z), dv1.up (E2.kk.trans E3.kk), h0, h1, dv2.up E3.kk⟩)
    (fun ds i d v σ' Hk0 H0 Hk' H' hT hd' kk0 s0 hP E5 dv => ?_) fun ds σ' Hk' H' hT kk s' hP => ?_
  · -- a turn
    obtain ⟨m, rfl, hm, _⟩ := hT
    obtain ⟨hi, rfl⟩ := intsD_of hd'
    obtain ⟨ex, ra, nf, vh, vf, o6, o7, wf, ps, hr1, far, rfl, hfl, dwf, hps, okp, dvh, g0, g1, dvf⟩ := hP
    have tf : H0 lf ≠ none := by rw [hfl]; exact fun z => nomatch z
    have ra5 := ra.ev E5
    have ex5 := ex.trans E5.pure
    have nf5 := E5.unk nf tf
    have hfl5 := E5.same _ _ hfl
    -- way
    refine xs_setI (i := 7) E5.sub ra5 (tn 8 (by decide) rfl) (fun vw dw Hk6 H6 E6 r6 z6 dv6 => ?_) scLP.nd
    obtain ⟨wy, rfl, w0, w1⟩ := z6
    have nf6 : Hk6 lf = none := (E6.new lf (by rw [hfl5]; exact fun z => nomatch z)).trans nf5
    have hfl6 : H6 lf = some (.lst wf) := E6.keep _ _ ne hfl5
    -- the state between the tests: hr and far may be others
    let J : L2.St → Hp → Prop := fun σ3 H3 => ∃ Hk3 vh vf hr far, σ3 = [some (.ref l), some v1, some v2, some (.ref lf), some vh, some vf, some v, some vw] ∧ Ext (DL.M1 l) Hk6 H6 Hk3 H3 ∧ RowAt K Hk3 H3 l ∧ Hk3 lf = none ∧ H3 lf = some (.lst wf) ∧ Dq K Hk3 vh (.int hr) ∧ 0 ≤ hr ∧ hr < n ∧ Dq K Hk3 vf (.int far)
    have k6 := E5.kk.trans E6.kk
    have k06 : Same Hk Hk6 := (EA.kk.trans kk0).trans k6
    refine xs_ifJ J E6.sub (vt_c (ve_v 7 rfl (y := .dat (.int wy)) dv6) ve_int cd_eqI) (fun _ Hk7 H7 E7 => ?_) (fun _ Hk7 H7 E7 => wss_nil ⟨Hk7, vh, vf, hr1, far, rfl, E7.pure, r6.ev E7, E7.unk nf6 (by rw [hfl6]; exact fun z => nomatch z), E7.same _ _ hfl6, (dvh.up k6).up E7.kk, g0, g1, (dvf.up k6).up E7.kk⟩) fun σ3 H3 hJ => ?_
    · refine xs_setI (i := 4) E7.sub (r6.ev E7) (vm_takenN T E hr (row_ rfl) (ve_v 1 rfl (y := .dat (.int n)) ((d1.up k06).up E7.kk)) hn) (fun vh' dh' Hk8 H8 E8 r8 z8 dv8 => wss_nil ?_) scLP.nd
      obtain ⟨hr', rfl, a0, a1⟩ := z8
      have E78 := E7.pure.trans E8
      have hfl7 := E7.same _ _ hfl6
      exact ⟨Hk8, vh', vf, hr', far, rfl, E78, r8, (E8.new lf (by rw [hfl7]; exact fun z => nomatch z)).trans (E7.unk nf6 (by rw [hfl6]; exact fun z => nomatch z)), E8.keep _ _ ne hfl7, dv8, a0, a1, (dvf.up k6).up E78.kk⟩
    · obtain ⟨Hk7, vh, vf, hr1, far, rfl, E7, r7, nf7, hfl7, dvh, g0, g1, dvf⟩ := hJ
      refine xs_ifJ J E7.sub (vt_c (ve_v 7 rfl (y := .dat (.int wy)) (dv6.up E7.kk)) ve_int cd_eqI) (fun _ Hk8 H8 E8 => ?_) (fun _ Hk8 H8 E8 => wss_nil ⟨Hk8, vh, vf, hr1, far, rfl, E7.trans E8.pure, r7.ev E8, E8.unk nf7 (by rw [hfl7]; exact fun z => nomatch z), E8.same _ _ hfl7, dvh.up E8.kk, g0, g1, dvf.up E8.kk⟩) fun σ3 H8 hJ => ?_
      · refine xs_setI (i := 5) E8.sub (r7.ev E8) (S := fun d => ∃ x : Int, d = .int x) (vm_sub (Sb := fun d => d = .int 3) (tn 7 (by decide) rfl) (vm_of ve_int rfl) fun a b ⟨x, ea, _, _⟩ eb => ⟨x, 3, ea, eb, x - 3, rfl⟩) (fun vf' df' Hk9 H9 E9 r9 z9 dv9 => wss_nil ?_) scLP.nd
        obtain ⟨far', rfl⟩ := z9
        have hfl8 := E8.same _ _ hfl7
        exact ⟨Hk9, vh, vf', hr1, far', rfl, (E7.trans E8.pure).trans E9, r9, (E9.new lf (by rw [hfl8]; exact fun z => nomatch z)).trans (E8.unk nf7 (by rw [hfl7]; exact fun z => nomatch z)), E9.keep _ _ ne hfl8, dvh.up (E8.kk.trans E9.kk), g0, g1, dv9⟩
      · obtain ⟨Hk8, vh, vf, hr1, far, rfl, E8, r8, nf8, hfl8, dvh, g0, g1, dvf⟩ := hJ
        have dwf8 : DqAll K Hk8 wf (encI ps) := (dwf.up k6).up E8.kk
        have kl : Same Hk8 (upd Hk8 lf (.lst wf)) := same_up nf8
        have sl : Same (upd Hk8 lf (.lst wf)) H8 := same_know E8.sub hfl8
        have fou : Is K (upd Hk8 lf (.lst wf)) (.ref lf) (.dat (.list (encI ps))) := .lst upd_same (dwf8.up kl)
        have shp : SeqAt.shaped (.list (encI ps)) = true := by
          have h1 : PyData.depthAll (encI ps) = 0 := PySem.W.depth_ints _
          have h2 : PyData.canLayAll0 (encI ps) = true := by
            clear hps okp dwf fou dwf8 h1
            induction ps with
            | nil => rfl
            | cons x ps ih => exact ih
          simp [SeqAt.shaped, PyData.canLay0, PyData.depth, h1, h2]
        have elen : (encI ps).length = i := by unfold encI; rw [List.length_map]; exact hps
        -- way == 5 and found != []
        refine xs_ifJ (d := decide (wy = 5) && !PyData.eqv (.list (encI ps)) (.list [])) J sl (vt_w (vw_and (vt_c (ve_v 7 rfl (y := .dat (.int wy)) ((dv6.up E8.kk).up kl)) ve_int cd_eqI) fun _ => vw_one (vt_c (ve_v 3 rfl fou) (ve_lst (ds := []) va_nil) (cd_neD hu64 shp rfl)))) (fun hb Hk9 H9 E9 => ?_) (fun _ Hk9 H9 E9 => wss_nil ?_) fun σ3 H3 hJ => ?_
        · have hne : ps ≠ [] := fun z => by subst z; simp [encI, PyData.eqv, PyData.eqvAll] at hb
          have hpl : 0 < ps.length := List.length_pos_iff.mpr hne
          have ke := E9.know2 nf8 hfl8
          have ex9 : H9 lf = some (.lst wf) := E9.same _ _ hfl8
          have E8d : Ext (DL.M1 l) Hk6 H6 (drop Hk9 lf) H9 := E8.trans ke.pure
          -- found[..]: found is known while the place is drawn
          have knl : (upd Hk8 lf (.lst wf)) l = none := by rw [upd_ne ne.symm]; exact r8.1
          have r9 : RowAt K (drop Hk9 lf) H9 l := r8.ev ke
          have kd : Same (drop Hk9 lf) (upd (drop Hk9 lf) lf (.lst wf)) := same_up drop_at
          have sd : Same (upd (drop Hk9 lf) lf (.lst wf)) H9 := same_know ke.sub ex9
          have r9k : RowAt K (upd (drop Hk9 lf) lf (.lst wf)) H9 l := by
            obtain ⟨n9, sc, ns, c, st, a1, a2, a3⟩ := r9
            exact ⟨by rw [upd_ne ne.symm]; exact n9, sc, ns, c, st, a1.up kd, a2, a3⟩
          have fo9 : Is K (upd (drop Hk9 lf) lf (.lst wf)) (.ref lf) (.dat (.list (encI ps))) := .lst upd_same ((dwf8.up ke.kk).up kd)
          refine xs_setI (i := 4) sd r9k (S := fun d => ∃ x : Int, d = .int x ∧ 0 ≤ x ∧ x < n) (vm_itL (Sa := fun d => d = .list (encI ps)) (vm_of (ve_v 3 rfl fo9) rfl) (vm_takenN T E hr (row_ rfl) (ve_lenL T.len PySem.boot_len (ve_v 3 rfl fo9)) (by rw [elen]; omega)) fun a b ea ⟨x, eb, b0, b1⟩ => ?_) (fun vh' dh' Hk10 H10 E10 r10 z10 dv10 => wss_nil ?_) scLP.nd
          · rw [elen] at b1
            obtain ⟨y, hy⟩ : ∃ y, ps[x.toNat]? = some y := ⟨ps[x.toNat]'(by omega), List.getElem?_eq_getElem (by omega)⟩
            have hb2 := okp y (List.mem_of_getElem? hy)
            refine ⟨encI ps, x.toNat, .int y, ea, by rw [eb]; exact congrArg PyData.int (by omega), ?_, y, rfl, hb2.1, hb2.2⟩
            unfold encI
            rw [List.getElem?_map, hy]
            rfl
          · obtain ⟨hr', rfl, a0, a1⟩ := z10
            have K10 : Ext (DL.M1 l) (drop Hk9 lf) H9 (drop Hk10 lf) H10 := E10.know2 drop_at ex9
            have hf10 : H10 lf = some (.lst wf) := E10.keep _ _ ne ex9
            have e10 : vh' = .int hr' := dp_int dv10
            subst e10
            obtain ⟨n10, sc, ns, c, st, a1', a2, a3⟩ := r10
            -- the script's list is known without found
            refine ⟨drop Hk10 lf, .int hr', vf, hr', far, rfl, E8d.trans K10, ⟨by rw [drop_ne ne.symm]; exact n10, ?_⟩, drop_at, hf10, .int _, a0, a1, (dvf.up ke.kk).up K10.kk⟩
            exact ⟨sc, ns, c, st, a1'.drop (E10.kk _ _ upd_same), a2, a3⟩
        · have ke := E9.know2 nf8 hfl8
          exact ⟨drop Hk9 lf, vh, vf, hr1, far, rfl, E8.trans ke.pure, r8.ev ke, drop_at, E9.same _ _ hfl8, dvh.up ke.kk, g0, g1, dvf.up ke.kk⟩
        · obtain ⟨Hk9, vh, vf, hr1, far, rfl, E9, r9, nf9, hfl9, dvh, g0, g1, dvf⟩ := hJ
          have k69 : Same Hk0 Hk9 := k6.trans E9.kk
          refine xs_app E9.sub (ve_v 3 rfl rfl) hfl9 (by rw [dwf.len, elen]; omega) (ve_v 4 rfl (y := .dat (.int hr1)) dvh) fun v10 Hk10 H10 E10 i10 => ?_
          have nf10 : Hk10 lf = none := E10.unk nf9 (by rw [hfl9]; exact fun z => nomatch z)
          have EF : Ext (DL.M1 l) Hk H Hk10 (upd H10 lf (.lst (wf ++ [v10]))) := (((ex5.trans E6).trans E9).trans E10.pure).loc nlf nf10
          have r10 : RowAt K Hk10 (upd H10 lf (.lst (wf ++ [v10]))) l := (r9.ev E10).upd ne
          have d1k : Dq K Hk10 v1 (.int n) := (d1.up k06).up (E9.kk.trans E10.kk)
          refine xs_set EF.sub (ve_mod (ve_add (ve_v 4 rfl (y := .dat (.int hr1)) (dvh.up E10.kk)) (ve_v 5 rfl (y := .dat (.int far)) (dvf.up E10.kk))) (ve_v 1 rfl (y := .dat (.int n)) d1k) hn) (i := 4) (fun v11 Hk11 H11 E11 i11 => wss_nil ?_) scLP.nd
          have hfl11 : H11 lf = some (.lst (wf ++ [v10])) := E11.same _ _ upd_same
          have k1011 : Same Hk0 Hk11 := (k69.trans E10.kk).trans E11.kk
          refine ⟨Hk11, k1011, E11.sub, EF.trans E11.pure, r10.ev E11, E11.unk nf10 (by rw [upd_same]; exact fun z => nomatch z), v11, vf, some v, some vw, wf ++ [v10], ps ++ [hr1], (hr1 + far) % n, far, rfl, hfl11, ?_, by rw [List.length_append, hps]; rfl, fun x hx => ?_, i11, Int.emod_nonneg _ (by omega), Int.emod_lt_of_pos _ hn, dvf.up (E10.kk.trans E11.kk)⟩
          · have e : encI (ps ++ [hr1]) = encI ps ++ [.int hr1] := by unfold encI; rw [List.map_append]; rfl
            rw [e]
            exact (dwf.up k1011).app (.cons (Is.up (a := .dat (.int hr1)) i10 E11.kk) .nil)
          · rcases List.mem_append.mp hx with z | z
            · exact okp x z
            · rw [List.mem_singleton.mp z]; exact ⟨g0, g1⟩
  · obtain ⟨m, rfl, hm, _⟩ := hT
    obtain ⟨ex, ra, nf, vh, vf, o6, o7, wf, ps, hr1, far, rfl, hfl, dwf, hps, okp, dvh, g0, g1, dvf⟩ := hP
    rw [intsD_len] at hps
    have FF := ex.fix nlf nf hfl
    have ku : Same Hk' (upd Hk' lf (.lst wf)) := same_up nf
    have rF : RowAt K (upd Hk' lf (.lst wf)) H' l := by
      obtain ⟨n9, sc, ns, c, st, a1, a2, a3⟩ := ra
      exact ⟨by rw [upd_ne ne.symm]; exact n9, sc, ns, c, st, a1.up ku, a2, a3⟩
    have lst : Is K (upd Hk' lf (.lst wf)) (.ref lf) (.dat (.list (encI ps))) := .lst upd_same (dwf.up ku)
    exact xs_ret FF.sub (ve_v 3 rfl lst) fun v9 Hk9 H9 E9 i9 => q v9 _ Hk9 H9 (FF.trans E9.pure) (rF.ev E9) (gS ps (by omega) okp) i9
end
end W
end
section
set_option Elab.async false
set_option linter.all false
set_option maxRecDepth 100000
set_option maxHeartbeats 4000000
/-! _law_deeds -/
namespace W
open PySem PySem.Spec PyProof.Rows L2 DL Tx Mi Ml Nd
section
variable {P : Program} {w : World} {K : PySem.W.Frag} {mg : Str → Option Value} {base : Heap}
abbrev nLD : List Str := ["_law_row", "_law_places_here", "_law_most", "_law_found", "_law_place"]
theorem scLD : FnScope nLD ["_law_row", "_law_places_here", "_law_most"] (defScope sLDeeds) := ⟨rfl, rfl, rfl, by decide +kernel, rfl, by decide +kernel, by decide +kernel⟩
def gLD (as : List PyData) (S : PyData → Prop) : Prop := ∃ (n : Int) (most : Nat), 0 < n ∧ most ≤ 1000 ∧ as = [.int n, .int most] ∧ ∀ ds : List Dd, ds.length ≤ most → (∀ d ∈ ds, d.ok n) → S (.list (ds.map Dd.enc))
theorem ok_ld (T : Tp K w mg) (E : Ev K mg) : FnOk P w K mg base CX0 3 E.lDeeds.f E.lDeeds.fd ["_law_row", "_law_places_here", "_law_most"] (spI K gLD) := by
  refine ok_ofI E.lDeeds.d.F scLD (fun as S h => by obtain ⟨_, _, _, _, rfl, _⟩ := h; rfl) fun cdv A outer s H Hk l us as S Q hr sm r da g q => ?_
  obtain ⟨n, most, hn, hmost, rfl, gS⟩ := g
  obtain _ | ⟨d1, _ | ⟨d2, _ | _⟩⟩ := da
  rename_i v1 v2
  have row_ : ∀ {σ : L2.St} {Hk' : Hp} {p : Pos}, σ[0]? = some (some (.ref l)) → VE (cxOf CX0 P w K mg base nLD "_law_deeds" (defScope sLDeeds) E.lDeeds.f cdv A outer s H E0).nox σ Hk' (.Name "_law_row" p) (.val (.ref l)) := fun h => ve_v 0 h rfl
  have tn : ∀ (m : Int), 0 < m → ∀ {σ : L2.St} {Hk' : Hp} {p p1 p2 pos : Pos} {j : Nat}, σ[0]? = some (some (.ref l)) → VM (cxOf CX0 P w K mg base nLD "_law_deeds" (defScope sLDeeds) E.lDeeds.f cdv A outer s H E0).nox σ Hk' l (.Call (.Name "_law_taken" p) [.Name "_law_row" p1, .Constant (.int m) j p2] [] pos) (fun d => ∃ r : Int, d = .int r ∧ 0 ≤ r ∧ r < m) :=
    fun m hm σ Hk' p p1 p2 pos j h => vm_takenN T E (hr.mono (by decide)) (row_ h) ve_int hm
  refine xs_nl (i := 3) (fun lf nlf => ?_) scLD.nd
  have ne : lf ≠ l := fun z => by obtain ⟨_, _, _, _, _, _, h2, _⟩ := r; rw [z, h2] at nlf; cases nlf
  have E0' : Ext M0 Hk H Hk (upd H lf (.lst [])) := Ext.allocM sm nlf
  have r0 := r.ev E0'
  have nkf0 : Hk lf = none := sm.free nlf
  refine xs_forI (g := gName 4) E0'.sub r0 (vim_list (T := fun ds => ∃ ps : List Int, ds = encI ps ∧ ps.length ≤ most ∧ ∀ x ∈ ps, 0 ≤ x ∧ x < n) (vm_call (Ss := [fun d => d = .int n, fun d => d = .int (most : Int)]) (S := fun d => ∃ ps : List Int, d = .list (encI ps) ∧ ps.length ≤ most ∧ ∀ x ∈ ps, 0 ≤ x ∧ x < n) (ok_lp T E) hr E.lPlaces.d.g E.lPlaces.d.F.kp E.lPlaces.d.b (row_ rfl) (vam_cons (vm_of (ve_v 1 rfl (y := .dat (.int n)) d1) rfl) (vam_cons (vm_of (ve_v 2 rfl (y := .dat (.int (most : Int))) d2) rfl) vam_nil)) fun ds z => by
      obtain _ | ⟨rfl, _ | ⟨rfl, _ | _⟩⟩ := z
      exact ⟨n, most, hn, hmost, rfl, fun ps h1 h2 => ⟨ps, rfl, h1, h2⟩⟩) fun x ⟨ps, e, h1, h2⟩ => ⟨_, e, ps, rfl, h1, h2⟩) (pg_name (i := 4) scLD.nd rfl (.inl rfl)) rfl PassesOwn.never
    (fun ds i σ' Hk' H' => ∃ o4 wf dd, σ' = [some (.ref l), some v1, some v2, some (.ref lf), o4] ∧ Ext (DL.M1 l) Hk H Hk' H' ∧ RowAt K Hk' H' l ∧ Hk' lf = none ∧ H' lf = some (.lst wf) ∧ DqAll K Hk' wf (dd.map Dd.enc) ∧ dd.length = i ∧ ∀ d ∈ dd, d.ok n)
    (fun ds Hk3 H3 _ E3 r3 => ⟨none, [], [], rfl, E0'.pure.trans E3, r3, (E3.new lf (by rw [upd_same]; exact fun z => nomatch z)).trans nkf0, E3.keep _ _ ne upd_same, .nil, rfl, (fun _ z => nomatch z)⟩)
    (fun ds i d v σ' Hk0 H0 Hk' H' hT hd' kk0 s0 hP E5 dv => ?_) fun ds σ' Hk' H' hT kk s' hP => ?_
  · obtain ⟨ps, rfl, hpl, okp⟩ := hT
    obtain ⟨x, hx, rfl⟩ := encI_at hd'
    have xr := okp x (List.mem_of_getElem? hx)
    have hi : i < ps.length := (List.getElem?_eq_some_iff.mp hx).1
    obtain ⟨o4, wf, dd, rfl, ex, ra, nf, hfl, dwf, hl, okd⟩ := hP
    have tf : H0 lf ≠ none := by rw [hfl]; exact fun z => nomatch z
    have ex5 := ex.trans E5.pure
    have hfl5 := E5.same _ _ hfl
    have nf5 := E5.unk nf tf
    have tf5 : H' lf ≠ none := by rw [hfl5]; exact fun z => nomatch z
    have wl : wf.length < 1000000 := by rw [dwf.len, List.length_map]; omega
    have fin : ∀ (Hk9 H9 : Hp) (vd : V) (d : Dd), Ext (DL.M1 l) Hk' H' Hk9 H9 → RowAt K Hk9 H9 l → Dq K Hk9 vd d.enc → d.ok n → ∃ Hk3, Same Hk0 Hk3 ∧ Same Hk3 (upd H9 lf (.lst (wf ++ [vd]))) ∧ ∃ (o4 : Option V) (wf2 : List V) (dd : List Dd), [some (.ref l), some v1, some v2, some (.ref lf), some v] = [some (.ref l), some v1, some v2, some (.ref lf), o4] ∧ Ext (DL.M1 l) Hk H Hk3 (upd H9 lf (.lst (wf ++ [vd]))) ∧ RowAt K Hk3 (upd H9 lf (.lst (wf ++ [vd]))) l ∧ Hk3 lf = none ∧ (upd H9 lf (.lst (wf ++ [vd]))) lf = some (.lst wf2) ∧ DqAll K Hk3 wf2 (dd.map Dd.enc) ∧ dd.length = i + 1 ∧ ∀ d ∈ dd, d.ok n := by
      intro Hk9 H9 vd d E9 r9 dvd dok
      have nf9 : Hk9 lf = none := (E9.new lf tf5).trans nf5
      have EF : Ext (DL.M1 l) Hk H Hk9 (upd H9 lf (.lst (wf ++ [vd]))) := (ex5.trans E9).loc nlf nf9
      refine ⟨Hk9, E5.kk.trans E9.kk, EF.sub, _, _, dd ++ [d], rfl, EF, r9.upd ne, nf9, upd_same, ?_, by rw [List.length_append, hl]; rfl, fun y hy => ?_⟩
      · rw [List.map_append]
        exact (dwf.up (E5.kk.trans E9.kk)).app (.cons dvd .nil)
      · rcases List.mem_append.mp hy with z | z
        · exact okd y z
        · rw [List.mem_singleton.mp z]; exact dok
    refine xs_ifEqI E5.sub (ra.ev E5) ((tn 3 (by decide) rfl).imp fun d ⟨j, e, _⟩ => ⟨j, e⟩) ve_int (fun Hk6 H6 E6 r6 => ?_) (fun Hk6 H6 E6 r6 => ?_)
    · have dv6 := Dq.up dv E6.kk
      refine xs_appI (S := fun d => ∃ k : Int, d = (Dd.wr x k).enc ∧ 0 ≤ k ∧ k ≤ 99) E6.sub r6 ne (ve_v 3 rfl rfl) (E6.keep _ _ ne hfl5) wl (vm_tup (Ss := [fun d => d = .str "write", fun d => d = .int x, fun d => ∃ r : Int, d = .int r ∧ 0 ≤ r ∧ r < 100]) (vam_cons (vm_of ve_str rfl) (vam_cons (vm_of (ve_v 4 rfl (y := .dat (.int x)) dv6) rfl) (vam_cons (tn 100 (by decide) rfl) vam_nil))) (by simp) (fun ds z => ?_) (fun ds z => by rw [z.len]; simp)) fun vd d Hk7 H7 E7 r7 z7 dv7 => wss_nil (wss_nil ?_)
      · obtain _ | ⟨rfl, _ | ⟨rfl, _ | ⟨⟨k, rfl, k0, k1⟩, _ | _⟩⟩⟩ := z
        exact ⟨k, rfl, k0, by omega⟩
      · obtain ⟨k, rfl, k0, k1⟩ := z7
        exact fin Hk7 H7 vd (.wr x k) (E6.trans E7) r7 dv7 ⟨xr, k0, k1⟩
    · have dv6 := Dq.up dv E6.kk
      refine xs_app E6.sub (ve_v 3 rfl rfl) (E6.keep _ _ ne hfl5) wl (ve_tup (ds := [.str "read", .int x]) (va_cons ve_str (va_cons (ve_v 4 rfl (y := .dat (.int x)) dv6) va_nil))) fun vd Hk7 H7 E7 i7 => wss_nil (wss_nil ?_)
      exact fin Hk7 H7 vd (.rd x) (E6.trans E7.pure) (r6.ev E7) i7 xr
  · obtain ⟨ps, rfl, hpl, okp⟩ := hT
    obtain ⟨o4, wf, dd, rfl, ex, ra, nf, hfl, dwf, hl, okd⟩ := hP
    have el : (encI ps).length = ps.length := by unfold encI; rw [List.length_map]
    rw [el] at hl
    have FF := ex.fix nlf nf hfl
    have ku : Same Hk' (upd Hk' lf (.lst wf)) := same_up nf
    have rF : RowAt K (upd Hk' lf (.lst wf)) H' l := by
      obtain ⟨n9, sc, ns, c, st, a1, a2, a3⟩ := ra
      exact ⟨by rw [upd_ne ne.symm]; exact n9, sc, ns, c, st, a1.up ku, a2, a3⟩
    have lst : Is K (upd Hk' lf (.lst wf)) (.ref lf) (.dat (.list (dd.map Dd.enc))) := .lst upd_same (dwf.up ku)
    exact xs_ret FF.sub (ve_v 3 rfl lst) fun v9 Hk9 H9 E9 i9 => q v9 _ Hk9 H9 (FF.trans E9.pure) (rF.ev E9) (gS dd (by omega) okd) i9
end
end W
end
section
set_option Elab.async false
set_option linter.all false
set_option maxRecDepth 100000
set_option maxHeartbeats 4000000
/-! _law_same -/
namespace W
open PySem PySem.Spec PyProof.Rows L2 DL Tx Mi Ml Nd
theorem eqvAll_self : ∀ (l : List PyData), (∀ x ∈ l, PyData.eqv x x = true) → PyData.eqvAll l l = true
  | [], _ => rfl
  | x :: l, h => by
    show (PyData.eqv x x && PyData.eqvAll l l) = true
    rw [h x List.mem_cons_self, eqvAll_self l fun y hy => h y (List.mem_cons_of_mem _ hy)]
    rfl
theorem lay_all : ∀ (l : List PyData), (∀ x ∈ l, PyData.canLay0 x = true) → PyData.canLayAll0 l = true
  | [], _ => rfl
  | x :: l, h => by
    show (PyData.canLay0 x && PyData.canLayAll0 l) = true
    rw [h x List.mem_cons_self, lay_all l fun y hy => h y (List.mem_cons_of_mem _ hy)]
    rfl
theorem depth_all {m : Nat} : ∀ (l : List PyData), (∀ x ∈ l, x.depth ≤ m) → PyData.depthAll l ≤ m
  | [], _ => Nat.zero_le _
  | x :: l, h => by
    have h1 := h x List.mem_cons_self
    have h2 := depth_all l fun y hy => h y (List.mem_cons_of_mem _ hy)
    simp only [PyData.depthAll]
    omega
theorem eqv_ints (l : List Int) : PyData.eqvAll (encI l) (encI l) = true := eqvAll_self _ fun x hx => by
  obtain ⟨i, _, rfl⟩ := List.mem_map.mp hx
  simp [PyData.eqv]
theorem shaped_list {l : List PyData} {m : Nat} (h1 : ∀ x ∈ l, PyData.canLay0 x = true) (h2 : ∀ x ∈ l, x.depth ≤ m) (hm : m ≤ 60) : SeqAt.shaped (.list l) = true := by
  have a := lay_all l h1
  have b := depth_all l h2
  have e : PyData.depth (.list l) = PyData.depthAll l + 1 := by simp [PyData.depth]
  show (PyData.canLayAll0 l && decide (PyData.depth (.list l) ≤ 64)) = true
  rw [a, e]
  have h : PyData.depthAll l + 1 ≤ 64 := by omega
  rw [decide_eq_true h]
  rfl
theorem lay_ints (l : List Int) : PyData.canLayAll0 (encI l) = true := lay_all _ fun x hx => by
  obtain ⟨i, _, rfl⟩ := List.mem_map.mp hx
  rfl
theorem shaped_guesses (ls : List (List Int)) : SeqAt.shaped (.list (ls.map encL)) = true := shaped_list (m := 1) (fun x hx => by
  obtain ⟨a, _, rfl⟩ := List.mem_map.mp hx
  exact lay_ints a) (fun x hx => by
  obtain ⟨a, _, rfl⟩ := List.mem_map.mp hx
  have z : PyData.depthAll (encI a) = 0 := PySem.W.depth_ints _
  simp [encL, PyData.depth, z]) (by decide)
theorem eqv_guesses (ls : List (List Int)) : PyData.eqv (.list (ls.map encL)) (.list (ls.map encL)) = true := eqvAll_self _ fun x hx => by
  obtain ⟨a, _, rfl⟩ := List.mem_map.mp hx
  exact eqv_ints a
/-! the words of a story -/
def okW (w : Str) : Prop := w ∈ [("come" : Str), "late", "miss", "leave", "waste", "first", "hit", "start"]
theorem lies_words {n : Int} {L L' : Int → Prop} {e : Evs} (h : Lies n L e L') : ∀ x ∈ e, okW x.1 := by
  induction h with
  | nil _ => exact fun _ z => nomatch z
  | out hw _ _ ih =>
    intro x hx
    rcases List.mem_cons.mp hx with rfl | hx
    · rcases hw with rfl | rfl <;> simp [okW]
    · exact ih x hx
  | inn hw _ _ _ ih =>
    intro x hx
    rcases List.mem_cons.mp hx with rfl | hx
    · rcases hw with rfl | rfl | rfl <;> simp [okW]
    · exact ih x hx
  | stay hw _ ih =>
    intro x hx
    rcases List.mem_cons.mp hx with rfl | hx
    · rcases hw with rfl | rfl | rfl <;> simp [okW]
    · exact ih x hx
theorem story_rows {h : Hs} {g : Gs} : ∀ (ds : List Dd) (s : Sta) (t : Int), SOk h s → (∀ d ∈ ds, d.ok h.places) → ∀ x ∈ storyM h g s t ds, ∃ k e, x = encRow k e ∧ okW e.1
  | [], _, _, _, _ => fun _ z => nomatch z
  | d :: ds, s, t, so, hd => by
    have dd := (hd d List.mem_cons_self).at
    have go := gone_ok (g := g) dd.1 dd.2 so
    intro x hx
    rcases List.mem_append.mp hx with hx | hx
    · obtain ⟨e, he, rfl⟩ := List.mem_map.mp hx
      exact ⟨t, e, rfl, lies_words go.2.2 e he⟩
    · exact story_rows ds _ _ go.1 (fun y hy => hd y (List.mem_cons_of_mem _ hy)) x hx
theorem okW_str {w : Str} (h : okW w) : PyData.canLay0 (.str w) = true := by
  simp only [okW, List.mem_cons, List.not_mem_nil, or_false] at h
  rcases h with rfl | rfl | rfl | rfl | rfl | rfl | rfl | rfl <;> decide +kernel
theorem shaped_story {l : List PyData} (h : ∀ x ∈ l, ∃ k e, x = encRow k e ∧ okW e.1) : SeqAt.shaped (.list l) = true := shaped_list (m := 1) (fun x hx => by
  obtain ⟨k, e, rfl, hw⟩ := h x hx
  have := okW_str hw
  show (true && (PyData.canLay0 (.str e.1) && (true && true))) = true
  rw [this]
  rfl) (fun x hx => by
  obtain ⟨k, e, rfl, _⟩ := h x hx
  simp [encRow, PyData.depth, PyData.depthAll]) (by decide)
theorem eqv_story {l : List PyData} (h : ∀ x ∈ l, ∃ k e, x = encRow k e ∧ okW e.1) : PyData.eqv (.list l) (.list l) = true := eqvAll_self _ fun x hx => by
  obtain ⟨k, e, rfl, _⟩ := h x hx
  simp [encRow, PyData.eqv, PyData.eqvAll]
def fPlace : PyData → Option PyData
  | .tuple (_ :: .int p :: _) => some (.int p)
  | _ => none
theorem fPlace_at (d : Dd) : fPlace d.enc = some (.int d.p) := by cases d <;> rfl
theorem fPlace_all : ∀ (ds : List Dd), (ds.map Dd.enc).filterMap fPlace = encI (ds.map Dd.p)
  | [] => rfl
  | d :: ds => by rw [List.map_cons, List.filterMap_cons, fPlace_at, fPlace_all ds]; rfl
section
variable {P : Program} {w : World} {K : PySem.W.Frag} {mg : Str → Option Value} {base : Heap}
abbrev nSame : List Str := ["_law_setting_here", "_law_one", "_law_other", "_law_row", "_law_places_here", "_law_deed"]
theorem scSame : FnScope nSame ["_law_setting_here", "_law_one", "_law_other", "_law_row"] (defScope sSame) := ⟨rfl, rfl, rfl, by decide +kernel, rfl, by decide +kernel, by decide +kernel⟩
def gSame (w : World) (as : List Sp1) (r : Sp1) : Prop := ∃ (st : Stg) (g o : Gs) (ds : List Dd) (R : Kn → Kn → Prop), st.ok ∧ g.ok 0 ∧ o.ok 0 ∧ Al g o R ∧ Wok w st.hs g o ((1 + st.mem.length / 20 : Nat) : Int) ∧ ds.length ≤ 100 ∧ (∀ d ∈ ds, d.ok st.mem.length) ∧ as = [.dat st.enc, .dat g.enc, .dat o.enc, .dat (.list (ds.map Dd.enc))] ∧ r = .dat (.bool true)
theorem ok_same (T : Tp K w mg) (E : Ev K mg) : FnOk P w K mg base CX0 11 E.same.f E.same.fd ["_law_setting_here", "_law_one", "_law_other", "_law_row"] (spD K (gSame w)) := by
  refine ok_of E.same.d.F scSame (fun as r h => by obtain ⟨_, _, _, _, _, _, _, _, _, _, _, _, rfl, _⟩ := h; rfl) fun cdv A outer s H Hk vs as r Q hr sm ia gw q => ?_
  obtain ⟨st, g, o, ds, R, sok, okg, oko, al, ck, hl, hd, rfl, rfl⟩ := gw
  obtain ⟨v0, v1, v2, v3, rfl, i0, i1, i2, i3⟩ := ia4 ia
  have hu64 : (A.deeper (envOfC "_law_same" (defScope sSame) s.heap.objs.size E.same.f cdv)).units + 64 < cLine := hr.units
  -- the places
  refine xs_setLc (i := 4) (own := [("_law_deed", 5)]) (g := gName 5) (ds := ds.map Dd.enc) sm rfl scSame.nd (vi_list (ve_v 3 rfl i3)) fPlace (by rw [List.length_map]; omega) rfl rfl (sw_true rfl rfl rfl (by decide +kernel)) (blkOk_by (N := nSame) (sc := defScope sSame) (by decide +kernel))
    (fun _ _ _ _ _ => pg_name (i := 5) scSame.nd rfl (Or.inl rfl)) (fun i x v' Hk' H' hx k' s' dv' => ?_) fun v4 Hk1 H1 E1 d4 => ?_
  · obtain ⟨d, hd', rfl⟩ := map_at hx
    refine ⟨[some v0, some v1, some v2, some v3, none, some v'], fun Q' h => h, rfl, fun s0 H0 C cl fp => ⟨.inl ⟨rfl, by rw [fPlace_at]; rfl⟩, fun r hr' => ?_⟩⟩
    rw [fPlace_at] at hr'
    cases hr'
    cases d with
    | rd p =>
      have dv2 : Is K Hk' v' (.dat (.tuple [.str "read", .int p])) := dv'
      exact ve_itT (ve_v 5 rfl dv2) (ve_int (i := 1)) rfl
    | wr p n =>
      have dv2 : Is K Hk' v' (.dat (.tuple [.str "write", .int p, .int n])) := dv'
      exact ve_itT (ve_v 5 rfl dv2) (ve_int (i := 1)) rfl
  rw [fPlace_all] at d4
  have d4' : Is K Hk1 v4 (.dat (.list (encI (ds.map Dd.p)))) := d4
  have i0' := i0.up E1.kk
  have i1' := i1.up E1.kk
  have i2' := i2.up E1.kk
  have i3' := i3.up E1.kk
  have lp : (ds.map Dd.p).length ≤ 800 := by rw [List.length_map]; omega
  have eg : guessesM o (first o) (ds.map Dd.p) = guessesM g (first g) (ds.map Dd.p) := (al.guesses _ _ _ al.st).symm
  have es : storyM st.hs o (begun o) 0 ds = storyM st.hs g (begun g) 0 ds := (al.story ds _ _ 0 al.begun).symm
  have rows := story_rows (h := st.hs) (g := g) ds (begun g) 0 begun_ok hd
  refine xs_ifN E1.sub (VT.is (vt_w (vw_or (VT.is (d' := false) (vt_c (ve_f E.guesses.d (ok_guesses T E) (hr.mono (by decide)) (va_cons (ve_v 1 rfl i1') (va_cons (ve_v 4 rfl d4') va_nil)) ⟨g, _, okg, lp, rfl, rfl⟩) ((ve_f E.guesses.d (ok_guesses T E) (hr.mono (by decide)) (va_cons (ve_v 2 rfl i2') (va_cons (ve_v 4 rfl d4') va_nil)) ⟨o, _, oko, lp, rfl, rfl⟩).is (by rw [eg])) (cd_neD hu64 (shaped_guesses _) (shaped_guesses _))) (by rw [eqv_guesses]; rfl)) fun _ =>
    vw_one (VT.is (d' := false) (vt_c (ve_f E.story.d (ok_story T E) hr (va_cons (ve_v 0 rfl i0') (va_cons (ve_v 1 rfl i1') (va_cons (ve_v 3 rfl i3') va_nil))) ⟨st, g, ds, sok, okg, hl, hd, rfl, rfl⟩) ((ve_f E.story.d (ok_story T E) hr (va_cons (ve_v 0 rfl i0') (va_cons (ve_v 2 rfl i2') (va_cons (ve_v 3 rfl i3') va_nil))) ⟨st, o, ds, sok, oko, hl, hd, rfl, rfl⟩).is (by rw [es])) (cd_neD hu64 (shaped_story rows) (shaped_story rows))) (by rw [eqv_story rows]; rfl)))) rfl) fun Hk2 H2 E2 => ?_
  have i0t : Is K Hk2 v0 (.dat (.tuple [.tuple (encI st.mem), .int st.room, .int st.late, .int st.most])) := i0'.up E2.kk
  have el : (encI st.mem).length = st.mem.length := by unfold encI; rw [List.length_map]
  have m1 := sok.m1
  have m2 := sok.m2
  have hsh : SeqAt.shaped (encQ (zeros 3)) = true := by decide +kernel
  refine xs_ret E2.sub (VE.isB (ve_c (ve_f E.worst.d (ok_worst T E) (hr.mono (by decide)) (va_cons (ve_v 0 rfl (i0'.up E2.kk)) (va_cons (ve_v 1 rfl (i1'.up E2.kk)) (va_cons (ve_v 2 rfl (i2'.up E2.kk)) (va_cons ((ve_tup (ds := [.int 1, .int 2, .int 3]) (va_cons ve_int (va_cons ve_int (va_cons ve_int va_nil)))).is (y := .dat w123) rfl) (va_cons ((ve_add ve_int (ve_div (ve_lenT T.len PySem.boot_len (ve_itT (ve_v 0 rfl i0t) (ve_int (i := 0)) rfl)) ve_int ⟨by decide, by decide⟩)).is (y := .dat (.int ((1 + st.mem.length / 20 : Nat) : Int))) (by rw [el]; exact congrArg (fun x => Sp1.dat (PyData.int x)) (by omega)))
    (va_cons ve_int va_nil)))))) ⟨st, g, o, 1 + st.mem.length / 20, sok, okg, oko, by omega, by omega, by omega, ck, rfl, rfl⟩) (ve_tup (ds := [.int 0, .list [.int 0, .int 0, .int 0]]) (va_cons ve_int (va_cons (ve_lst (ds := [.int 0, .int 0, .int 0]) (va_cons ve_int (va_cons ve_int (va_cons ve_int va_nil)))) va_nil))) (cd_eqD hu64 hsh hsh)) (by decide +kernel)) fun v Hk3 H3 E3 i3 => q v Hk3 H3 ((E1.trans E2).trans E3) i3
end
end W
end
section
set_option Elab.async false
set_option linter.all false
set_option maxRecDepth 100000
set_option maxHeartbeats 4000000
/-! law -/
namespace DL
open PySem PySem.Spec PyProof.Rows L2
theorem vam_run {X : Cx} {σ : L2.St} {Hk H : Hp} {l : Addr} {es : List Expr} {Ss : List (PyData → Prop)} {Q : List V → Hp → Prop} (h : VAM X σ Hk l es Ss) (s : Same Hk H) (r : RowAt X.K Hk H l) (k : ∀ vs ds Hk2 H2, Ext (DL.M1 l) Hk H Hk2 H2 → RowAt X.K Hk2 H2 l → AllS Ss ds → DqAll X.K Hk2 vs ds → Q vs H2) : WA X es σ H Q := h Hk H (Same.refl _) s r Q k
end DL
namespace W
open PySem PySem.Spec PyProof.Rows L2 DL Tx Mi Ml Nd
theorem ght_ok : ∀ (g : Gs) (wi : Nat), g.ok wi → ght g + wi ≤ 3
  | .none, wi, h => by simp only [Gs.ok] at h; simp only [ght]; omega
  | .next _, wi, h => by simp only [Gs.ok] at h; simp only [ght]; omega
  | .stride _, wi, h => by simp only [Gs.ok] at h; simp only [ght]; omega
  | .pairs _, wi, h => by simp only [Gs.ok] at h; simp only [ght]; omega
  | .both a b, wi, h => by
    simp only [Gs.ok] at h
    have h1 := ght_ok a _ h.2.1
    have h2 := ght_ok b _ h.2.2
    simp only [ght]
    omega
theorem ok_mono : ∀ (g : Gs) (wi wj : Nat), g.ok wi → wj ≤ wi → g.ok wj
  | .none, wi, wj, h, le => by simp only [Gs.ok] at *; omega
  | .next _, wi, wj, h, le => by simp only [Gs.ok] at *; omega
  | .stride _, wi, wj, h, le => by simp only [Gs.ok] at *; omega
  | .pairs _, wi, wj, h, le => by simp only [Gs.ok] at *; omega
  | .both a b, wi, wj, h, le => by
    simp only [Gs.ok] at *
    exact ⟨by omega, ok_mono a _ _ h.2.1 (by omega), ok_mono b _ _ h.2.2 (by omega)⟩
/-- what the fourth call needs: no two keys of one hash -/
def DeepOk (w : World) : Prop := ∀ (h : Hs) (a b c : Gs), h.ok → a.ok 2 → b.ok 2 → c.ok 2 → ∀ pl : Nat, (pl = 1 ∨ (pl = 2 ∧ 20 ≤ h.places)) → Wok w h (.both (.both a b) c) (.both a (.both b c)) (pl : Int)
def spLaw (K : PySem.W.Frag) : List V → Hp → VK → Prop := fun vs H Q => ∃ (sc : Addr) (ns : List Int), vs = [.ref sc] ∧ SqF K H sc (ns.map V.int) ∧ ∀ H2, Q (.bl true) H2
def gsD (n : Nat) (d : PyData) : Prop := ∃ g : Gs, g.ok n ∧ d = g.enc
section
variable {P : Program} {w : World} {K : PySem.W.Frag} {mg : Str → Option Value} {base : Heap}
abbrev nLaw : List Str := ["_law_script", "_law_row", "_law_turn", "_law_setting_here", "_law_one", "_law_two", "_law_three", "_law_deeds_here", "_law_other", "_law_first"]
theorem scLaw : FnScope nLaw ["_law_script"] (defScope sLaw) := ⟨rfl, rfl, rfl, by decide +kernel, rfl, by decide +kernel, by decide +kernel⟩
theorem ok_law {f : Addr} {fd : FuncData} (F : Fun K "law" "law" sLaw f fd) (T : Tp K w mg) (E : Ev K mg) (hD : DeepOk w) : FnOk P w K mg base CX0 12 f fd ["_law_script"] (fun vs H Q _ => spLaw K vs H Q) := by
  refine ok_gen F scLaw (fun vs H Q h => by obtain ⟨_, _, rfl, _⟩ := h; rfl) fun cdv A outer s H vs Q hr g => ?_
  obtain ⟨sc, ns, rfl, hsc, q⟩ := g
  refine xs_setW (i := 1) (we (pe_lst pa_w) (va_run (as := [.val (.ref sc), .dat (.int 0), .dat (.int 0)]) (va_cons (ve_v 0 rfl rfl) (va_cons ve_int (va_cons ve_int va_nil))) (Same.refl H) fun us Hk1 H1 E1 i1 => ?_)) scLaw.nd
  obtain ⟨u1, u2, u3, rfl, j1, j2, j3⟩ := ia3 i1
  have e1 : u1 = .ref sc := j1
  have e2 := dp_int j2
  have e3 := dp_int j3
  subst e1 e2 e3
  refine ⟨by simp only [List.length_cons, List.length_nil]; decide, fun l nl => ?_⟩
  have EA : Ext M0 Hk1 H1 Hk1 (upd H1 l (.lst [.ref sc, .int 0, .int 0])) := Ext.allocM E1.sub nl
  have r0 : RowAt K Hk1 (upd H1 l (.lst [.ref sc, .int 0, .int 0])) l := ⟨E1.sub.free nl, sc, ns, 0, 0, hsc.up E1.kk, upd_same, Int.le_refl 0⟩
  have row_ : ∀ {σ : L2.St} {Hk' : Hp} {p : Pos}, σ[1]? = some (some (.ref l)) → VE (cxOf CX0 P w K mg base nLaw "law" (defScope sLaw) f cdv A outer s H E0).nox σ Hk' (.Name "_law_row" p) (.val (.ref l)) := fun h => ve_v 1 h rfl
  have gcall : ∀ {σ : L2.St} {Hk' : Hp} {p p1 p2 pos : Pos} {j : Nat}, σ[1]? = some (some (.ref l)) → VM (cxOf CX0 P w K mg base nLaw "law" (defScope sLaw) f cdv A outer s H E0).nox σ Hk' l (.Call (.Name "_law_guesser" p) [.Name "_law_row" p1, .Constant (.int 1) j p2] [] pos) (gsD 2) := by
    intro σ Hk' p p1 p2 pos j h
    refine vm_call (ok_lgs T E 2) (hr.mono (by decide)) E.lGuesser.d.g E.lGuesser.d.F.kp E.lGuesser.d.b (row_ h) (vam_cons (S := fun d => d = .int 1) (vm_of ve_int rfl) vam_nil) fun ds z => ?_
    obtain _ | ⟨rfl, _ | _⟩ := z
    exact ⟨1, by decide, by decide, rfl, fun g hg => ⟨g, hg, rfl⟩⟩
  -- the turns
  refine xs_for (g := gName 2) (ds := intsD 2) EA.sub (vi_range T.range (ve_int (i := 2)) (by decide)) (pg_name (i := 2) scLaw.nd rfl (.inl rfl)) rfl PassesOwn.never
    (fun i σ' Hk' H' => ∃ o2 o3 o4 o5 o6 o7 o8 o9, σ' = [some (.ref sc), some (.ref l), o2, o3, o4, o5, o6, o7, o8, o9] ∧ RowAt K Hk' H' l)
    (fun Hk2 H2 E2 => ⟨none, none, none, none, none, none, none, none, rfl, r0.ev E2⟩) (fun i d v σ' Hk0 H0 Hk' H' hd' kk0 s0 hP E5 dv => ?_) fun σ' Hk' H' kk s' hP => ?_
  · obtain ⟨o2, o3, o4, o5, o6, o7, o8, o9, rfl, ra⟩ := hP
    -- the setting
    refine xs_setI (i := 3) E5.sub (ra.ev E5) (S := fun d => ∃ st : Stg, st.ok ∧ d = st.enc) (vm_call (ok_ls T E) (hr.mono (by decide)) E.lSetting.d.g E.lSetting.d.F.kp E.lSetting.d.b (row_ rfl) (vam_cons (S := fun d => d = .int 32) (vm_of ve_int rfl) vam_nil) fun ds z => ?_) (fun v3 dS Hk2 H2 E2 r2 z2 dv2 => ?_) scLaw.nd
    · obtain _ | ⟨rfl, _ | _⟩ := z
      exact ⟨rfl, fun st h => ⟨st, h, rfl⟩⟩
    obtain ⟨st, sok, rfl⟩ := z2
    -- the guessers
    refine wss_cons (ws (ps_par3 (i := 4) (j := 5) (l := 6) rfl scLaw.nd rfl rfl rfl (by decide) (by decide) (by decide) rfl rfl rfl pa_w (by rfl)) (vam_run (Ss := [gsD 2, gsD 2, gsD 2]) (vam_cons (gcall rfl) (vam_cons (gcall rfl) (vam_cons (gcall rfl) vam_nil))) E2.sub r2 fun us dts Hk3 H3 E3 r3 z3 dv3 => ?_))
    obtain _ | ⟨⟨a, oka, rfl⟩, _ | ⟨⟨b, okb, rfl⟩, _ | ⟨⟨c, okc, rfl⟩, _ | _⟩⟩⟩ := z3
    obtain _ | ⟨f1, _ | ⟨f2, _ | ⟨f3, _ | _⟩⟩⟩ := dv3
    rename_i w1 w2 w3
    refine ⟨w1, w2, w3, rfl, ?_⟩
    have dv2' : Dq K Hk3 v3 st.enc := dv2.up E3.kk
    have dst : Is K Hk3 v3 (.dat (.tuple [.tuple (encI st.mem), .int st.room, .int st.late, .int st.most])) := dv2'
    have el : (encI st.mem).length = st.mem.length := by unfold encI; rw [List.length_map]
    have m1 := sok.m1
    -- the deeds
    refine xs_setI (i := 7) E3.sub r3 (S := fun d => ∃ ds : List Dd, d = .list (ds.map Dd.enc) ∧ ds.length ≤ 100 ∧ ∀ x ∈ ds, x.ok st.mem.length) (vm_call (ok_ld T E) (hr.mono (by decide)) E.lDeeds.d.g E.lDeeds.d.F.kp E.lDeeds.d.b (row_ rfl) (vam_cons (S := fun d => d = .int (st.mem.length : Int)) (vm_of (ve_lenT T.len PySem.boot_len (ve_itT (ve_v 3 rfl dst) (ve_int (i := 0)) rfl)) (by rw [el])) (vam_cons (S := fun d => ∃ k : Nat, d = .int (k : Int) ∧ k ≤ 100)
      (vm_itL (Sa := fun d => d = .list [.int 40, .int 100]) (vm_of (ve_lst (ds := [.int 40, .int 100]) (va_cons ve_int (va_cons ve_int va_nil))) rfl) (vm_div (Sb := fun d => d = .int 3) (S := fun d => ∃ j : Int, d = .int j ∧ 0 ≤ j ∧ j ≤ 1) (vm_takenN T E (hr.mono (by decide)) (row_ rfl) (ve_int (i := 4)) (by decide)) (vm_of ve_int rfl) fun x y ⟨r, e, h0, h1⟩ ey => ⟨r, 3, e, ey, ⟨by decide, by decide⟩, r / 3, rfl, by omega, by omega⟩) fun x y ex ⟨j, ey, h0, h1⟩ => ?_) vam_nil)) fun ds z => ?_) (fun v7 dD Hk4 H4 E4 r4 z4 dv4 => ?_) scLaw.nd
    · rcases (show j = 0 ∨ j = 1 by omega) with rfl | rfl
      · exact ⟨_, 0, _, ex, ey, rfl, 40, rfl, by decide⟩
      · exact ⟨_, 1, _, ex, ey, rfl, 100, rfl, by decide⟩
    · obtain _ | ⟨rfl, _ | ⟨⟨k, rfl, hk⟩, _ | _⟩⟩ := z
      exact ⟨st.mem.length, k, by omega, by omega, rfl, fun ds h1 h2 => ⟨ds, rfl, by omega, h2⟩⟩
    obtain ⟨ds, rfl, hdl, hdo⟩ := z4
    have fa : Is K Hk4 w1 (.dat a.enc) := Dq.up f1 E4.kk
    have fb : Is K Hk4 w2 (.dat b.enc) := Dq.up f2 E4.kk
    have fc : Is K Hk4 w3 (.dat c.enc) := Dq.up f3 E4.kk
    have fs : Is K Hk4 v3 (.dat st.enc) := dv2'.up E4.kk
    have fd : Is K Hk4 v7 (.dat (.list (ds.map Dd.enc))) := dv4
    have okn : Gs.ok 1 .none := by simp [Gs.ok]
    have g1 := ght_ok a 2 oka
    have hho := sok.hs
    have hpl : ((1 + st.mem.length / 20 : Nat) = 1 ∨ ((1 + st.mem.length / 20 : Nat) = 2 ∧ 20 ≤ st.hs.places)) := by
      have m2 := sok.m2
      by_cases h20 : st.mem.length < 20
      · exact .inl (by omega)
      · exact .inr ⟨by omega, by show (20 : Int) ≤ (st.mem.length : Int); omega⟩
    -- both of one and itself, of it and none, of none and it
    refine xs_for (g := gName 8) (ds := [(Gs.both a a).enc, (Gs.both a .none).enc, (Gs.both .none a).enc]) E4.sub (vi_list (ve_lst (ds := [(Gs.both a a).enc, (Gs.both a .none).enc, (Gs.both .none a).enc]) (va_cons (ve_tup (ds := [.str "both", a.enc, a.enc]) (va_cons ve_str (va_cons (ve_v 4 rfl fa) (va_cons (ve_v 4 rfl fa) va_nil)))) (va_cons (ve_tup (ds := [.str "both", a.enc, .tuple [.str "none"]]) (va_cons ve_str (va_cons (ve_v 4 rfl fa) (va_cons (ve_tup (ds := [.str "none"]) (va_cons ve_str va_nil)) va_nil))))
      (va_cons (ve_tup (ds := [.str "both", .tuple [.str "none"], a.enc]) (va_cons ve_str (va_cons (ve_tup (ds := [.str "none"]) (va_cons ve_str va_nil)) (va_cons (ve_v 4 rfl fa) va_nil)))) va_nil))))) (pg_name (i := 8) scLaw.nd rfl (.inl rfl)) rfl PassesOwn.never
      (fun i σ' Hk' H' => ∃ p8, σ' = [some (.ref sc), some (.ref l), some v, some v3, some w1, some w2, some w3, some v7, p8, o9] ∧ RowAt K Hk' H' l) (fun Hk6 H6 E6 => ⟨_, rfl, r4.ev E6⟩) (fun j d vo σ' Hk6 H6 Hk7 H7 hdj kk6 s6 hP6 E7 dvo => ?_) fun σ' Hk6 H6 kk6 s6 hP6 => ?_
    · obtain ⟨p8, rfl, r6⟩ := hP6
      have k7 : Same Hk4 Hk7 := kk6.trans E7.kk
      obtain ⟨o, R, rfl, al, oko, hgo⟩ : ∃ (o : Gs) (R : Kn → Kn → Prop), d = o.enc ∧ Al a o R ∧ o.ok 0 ∧ ght o ≤ 2 := by
        have hj : j < 3 := (List.getElem?_eq_some_iff.mp hdj).1
        rcases (show j = 0 ∨ j = 1 ∨ j = 2 by omega) with rfl | rfl | rfl
        · exact ⟨.both a a, _, (Option.some.inj hdj).symm, al_twice a, ⟨by decide, ok_mono a 2 1 oka (by decide), ok_mono a 2 1 oka (by decide)⟩, by simp only [ght]; omega⟩
        · exact ⟨.both a .none, _, (Option.some.inj hdj).symm, al_none a, ⟨by decide, ok_mono a 2 1 oka (by decide), okn⟩, by simp only [ght]; omega⟩
        · exact ⟨.both .none a, _, (Option.some.inj hdj).symm, none_al a, ⟨by decide, okn, ok_mono a 2 1 oka (by decide)⟩, by simp only [ght]; omega⟩
      have oka0 := ok_mono a 2 0 oka (by decide)
      have dvo' : Is K Hk7 vo (.dat o.enc) := dvo
      refine xs_ifN E7.sub (VT.is (vt_not (vt_val (ve_f E.same.d (ok_same T E) hr (va_cons (ve_v 3 rfl (fs.up k7)) (va_cons (ve_v 4 rfl (fa.up k7)) (va_cons (ve_v 8 rfl dvo') (va_cons (ve_v 7 rfl (fd.up k7)) va_nil)))) ⟨st, a, o, ds, R, sok, oka0, oko, al, wok_flat hho al oka0 oko (by omega) hgo _, hdl, hdo, rfl, rfl⟩))) rfl) fun Hk8 H8 E8 => wss_nil ?_
      exact ⟨Hk8, E7.kk.trans E8.kk, E8.sub, _, rfl, (r6.ev E7).ev E8⟩
    · obtain ⟨p8, rfl, r6⟩ := hP6
      have k6 : Same Hk4 Hk6 := kk6
      refine xs_set s6 (ve_tup (ds := [.str "both", (Gs.both a b).enc, c.enc]) (va_cons ve_str (va_cons (ve_tup (ds := [.str "both", a.enc, b.enc]) (va_cons ve_str (va_cons (ve_v 4 rfl (fa.up k6)) (va_cons (ve_v 5 rfl (fb.up k6)) va_nil)))) (va_cons (ve_v 6 rfl (fc.up k6)) va_nil)))) (i := 9) (fun v9 Hk7 H7 E7 i7 => ?_) scLaw.nd
      have k7 := k6.trans E7.kk
      have i7' : Is K Hk7 v9 (.dat (Gs.both (.both a b) c).enc) := i7
      have ok1 : Gs.ok 0 (.both (.both a b) c) := ⟨by decide, ⟨by decide, oka, okb⟩, ok_mono c 2 1 okc (by decide)⟩
      have ok2 : Gs.ok 0 (.both a (.both b c)) := ⟨by decide, ok_mono a 2 1 oka (by decide), ⟨by decide, okb, okc⟩⟩
      refine xs_ifN E7.sub (VT.is (vt_not (vt_val (ve_f E.same.d (ok_same T E) hr (va_cons (ve_v 3 rfl (fs.up k7)) (va_cons (ve_v 9 rfl i7') (va_cons ((ve_tup (ds := [.str "both", a.enc, (Gs.both b c).enc]) (va_cons ve_str (va_cons (ve_v 4 rfl (fa.up k7)) (va_cons (ve_tup (ds := [.str "both", b.enc, c.enc]) (va_cons ve_str (va_cons (ve_v 5 rfl (fb.up k7)) (va_cons (ve_v 6 rfl (fc.up k7)) va_nil)))) va_nil)))).is (y := .dat (Gs.both a (.both b c)).enc) rfl) (va_cons (ve_v 7 rfl (fd.up k7)) va_nil))))
        ⟨st, _, _, ds, _, sok, ok1, ok2, al_assoc a b c, hD st.hs a b c hho oka okb okc _ hpl, hdl, hdo, rfl, rfl⟩))) rfl) fun Hk8 H8 E8 => wss_nil ?_
      exact ⟨Hk8, (((E5.kk.trans E2.kk).trans (E3.kk.trans E4.kk)).trans k7).trans E8.kk, E8.sub, _, _, _, _, _, _, _, _, rfl, (r6.ev E7).ev E8⟩
  · obtain ⟨o2, o3, o4, o5, o6, o7, o8, o9, rfl, ra⟩ := hP
    exact xs_ret s' (ve_bl (d := true)) fun v Hk2 H2 E2 i2 => by
      have e := dp_bool i2
      subst e
      exact q H2
end
end W
end
section
set_option Elab.async false
set_option linter.all false
set_option maxRecDepth 100000
set_option maxHeartbeats 4000000
/-! Big numbers as rows of lanes: twenty by twenty by twenty lanes of 128 bits. -/
namespace Ln
def L : List Nat := [0, 1, 2, 3, 4, 5, 6, 7, 8, 9, 10, 11, 12, 13, 14, 15, 16, 17, 18, 19]
theorem mem_L {i : Nat} : i ∈ L ↔ i < 20 := by
  unfold L
  simp only [List.mem_cons, List.not_mem_nil, or_false]
  omega
def pkL (W : Nat) (f : Nat → Nat) (l : List Nat) : Nat := l.foldr (fun x acc => f x + W * acc) 0
def pk (W : Nat) (f : Nat → Nat) : Nat := pkL W f L
theorem pkL_cons (W : Nat) (f : Nat → Nat) (x : Nat) (l : List Nat) : pkL W f (x :: l) = f x + W * pkL W f l := rfl
@[irreducible] def pw (k : Nat) : Nat := 2 ^ k
theorem pw_eq (k : Nat) : pw k = 2 ^ k := by unfold pw; rfl
theorem pw_pos (k : Nat) : 0 < pw k := by rw [pw_eq]; exact Nat.two_pow_pos k
section
variable {W : Nat} {f g : Nat → Nat}
theorem pkL_congr : ∀ (l : List Nat), (∀ x ∈ l, f x = g x) → pkL W f l = pkL W g l
  | [], _ => rfl
  | x :: l, h => by rw [pkL_cons, pkL_cons, h x List.mem_cons_self, pkL_congr l fun y hy => h y (List.mem_cons_of_mem _ hy)]
theorem pkL_add : ∀ (l : List Nat), pkL W f l + pkL W g l = pkL W (fun x => f x + g x) l
  | [] => rfl
  | x :: l => by
    rw [pkL_cons, pkL_cons, pkL_cons, ← pkL_add l, Nat.mul_add]
    omega
theorem pkL_mul (c : Nat) : ∀ (l : List Nat), pkL W f l * c = pkL W (fun x => f x * c) l
  | [] => by simp [pkL]
  | x :: l => by
    rw [pkL_cons, pkL_cons, ← pkL_mul c l, Nat.add_mul, Nat.mul_assoc]
theorem land_split (k a b c d : Nat) (ha : a < pw k) (hc : c < pw k) : (a + pw k * b) &&& (c + pw k * d) = (a &&& c) + pw k * (b &&& d) := by
  rw [pw_eq] at *
  have hac : a &&& c < 2 ^ k := Nat.lt_of_le_of_lt Nat.and_le_left ha
  apply Nat.eq_of_testBit_eq
  intro i
  rw [Nat.testBit_and, Nat.add_comm a, Nat.add_comm c, Nat.add_comm (a &&& c), Nat.testBit_two_pow_mul_add b ha, Nat.testBit_two_pow_mul_add d hc, Nat.testBit_two_pow_mul_add _ hac]
  split
  · rw [Nat.testBit_and]
  · rw [Nat.testBit_and]
theorem xor_split (k a b c d : Nat) (ha : a < pw k) (hc : c < pw k) : (a + pw k * b) ^^^ (c + pw k * d) = (a ^^^ c) + pw k * (b ^^^ d) := by
  rw [pw_eq] at *
  have hac : a ^^^ c < 2 ^ k := Nat.xor_lt_two_pow ha hc
  apply Nat.eq_of_testBit_eq
  intro i
  rw [Nat.testBit_xor, Nat.add_comm a, Nat.add_comm c, Nat.add_comm (a ^^^ c), Nat.testBit_two_pow_mul_add b ha, Nat.testBit_two_pow_mul_add d hc, Nat.testBit_two_pow_mul_add _ hac]
  split
  · rw [Nat.testBit_xor]
  · rw [Nat.testBit_xor]
theorem pkL_land (k : Nat) : ∀ (l : List Nat), (∀ x ∈ l, f x < pw k) → (∀ x ∈ l, g x < pw k) → pkL (pw k) f l &&& pkL (pw k) g l = pkL (pw k) (fun x => f x &&& g x) l
  | [], _, _ => Nat.zero_and 0
  | x :: l, h1, h2 => by
    rw [pkL_cons, pkL_cons, pkL_cons, land_split k _ _ _ _ (h1 x List.mem_cons_self) (h2 x List.mem_cons_self), pkL_land k l (fun y hy => h1 y (List.mem_cons_of_mem _ hy)) fun y hy => h2 y (List.mem_cons_of_mem _ hy)]
theorem pkL_xor (k : Nat) : ∀ (l : List Nat), (∀ x ∈ l, f x < pw k) → (∀ x ∈ l, g x < pw k) → pkL (pw k) f l ^^^ pkL (pw k) g l = pkL (pw k) (fun x => f x ^^^ g x) l
  | [], _, _ => Nat.xor_self 0
  | x :: l, h1, h2 => by
    rw [pkL_cons, pkL_cons, pkL_cons, xor_split k _ _ _ _ (h1 x List.mem_cons_self) (h2 x List.mem_cons_self), pkL_xor k l (fun y hy => h1 y (List.mem_cons_of_mem _ hy)) fun y hy => h2 y (List.mem_cons_of_mem _ hy)]
theorem pkL_lt (k : Nat) : ∀ (l : List Nat), (∀ x ∈ l, f x < pw k) → pkL (pw k) f l < pw (k * l.length)
  | [], _ => pw_pos _
  | x :: l, h => by
    have h1 := h x List.mem_cons_self
    have h2 := pkL_lt k l fun y hy => h y (List.mem_cons_of_mem _ hy)
    have h3 : pw k * (pkL (pw k) f l + 1) ≤ pw k * pw (k * l.length) := Nat.mul_le_mul_left _ h2
    rw [Nat.mul_add, Nat.mul_one] at h3
    rw [pkL_cons, List.length_cons, pw_eq (k * _), Nat.mul_add, Nat.mul_one, Nat.add_comm (k * _), Nat.pow_add, ← pw_eq, ← pw_eq]
    omega
theorem pkL_inj (k : Nat) : ∀ (l : List Nat), (∀ x ∈ l, f x < pw k) → (∀ x ∈ l, g x < pw k) → pkL (pw k) f l = pkL (pw k) g l → ∀ x ∈ l, f x = g x
  | [], _, _, _ => fun _ h => nomatch h
  | x :: l, h1, h2, e => by
    rw [pkL_cons, pkL_cons] at e
    have a1 := h1 x List.mem_cons_self
    have a2 := h2 x List.mem_cons_self
    have e1 : f x = g x := by
      have := congrArg (· % pw k) e
      simp only [Nat.add_mul_mod_self_left, Nat.mod_eq_of_lt a1, Nat.mod_eq_of_lt a2] at this
      exact this
    have e2 : pkL (pw k) f l = pkL (pw k) g l := by
      rw [e1] at e
      exact Nat.eq_of_mul_eq_mul_left (pw_pos k) (Nat.add_left_cancel e)
    intro y hy
    rcases List.mem_cons.mp hy with z | z
    · rw [z]; exact e1
    · exact pkL_inj k l (fun y hy => h1 y (List.mem_cons_of_mem _ hy)) (fun y hy => h2 y (List.mem_cons_of_mem _ hy)) e2 y z
end
abbrev F3 := Nat → Nat → Nat → Nat
def V (f : F3) : Nat := pk (pw 51200) fun c => pk (pw 2560) fun b => pk (pw 128) fun a => f a b c
def Bd (f : F3) : Prop := ∀ a ∈ L, ∀ b ∈ L, ∀ c ∈ L, f a b c < pw 128
theorem pw_128 : pw 128 = 340282366920938463463374607431768211456 := by rw [pw_eq]
theorem pk_lt (k m : Nat) (e : k * 20 = m) {f : Nat → Nat} (h : ∀ x ∈ L, f x < pw k) : pk (pw k) f < pw m := by
  have := pkL_lt k L h
  rw [show L.length = 20 from rfl, e] at this
  exact this
section
variable {f g : F3}
theorem V_congr (h : ∀ a ∈ L, ∀ b ∈ L, ∀ c ∈ L, f a b c = g a b c) : V f = V g := by
  unfold V pk
  exact pkL_congr _ fun c hc => pkL_congr _ fun b hb => pkL_congr _ fun a ha => h a ha b hb c hc
theorem V_add : V f + V g = V fun a b c => f a b c + g a b c := by
  unfold V pk
  rw [pkL_add]
  exact pkL_congr _ fun c _ => by
    dsimp only
    rw [pkL_add]
    exact pkL_congr _ fun b _ => pkL_add _
theorem V_mul (k : Nat) : V f * k = V fun a b c => f a b c * k := by
  unfold V pk
  rw [pkL_mul]
  exact pkL_congr _ fun c _ => by
    dsimp only
    rw [pkL_mul]
    exact pkL_congr _ fun b _ => pkL_mul _ _
theorem in1 (h : Bd f) {b c : Nat} (hb : b ∈ L) (hc : c ∈ L) : pkL (pw 128) (fun a => f a b c) L < pw 2560 := pk_lt 128 2560 (by decide) fun a ha => h a ha b hb c hc
theorem in2 (h : Bd f) {c : Nat} (hc : c ∈ L) : pkL (pw 2560) (fun b => pkL (pw 128) (fun a => f a b c) L) L < pw 51200 := pk_lt 2560 51200 (by decide) fun b hb => in1 h hb hc
theorem V_land (h1 : Bd f) (h2 : Bd g) : V f &&& V g = V fun a b c => f a b c &&& g a b c := by
  unfold V pk
  rw [pkL_land 51200 L (fun c hc => in2 h1 hc) fun c hc => in2 h2 hc]
  exact pkL_congr _ fun c hc => by
    dsimp only
    rw [pkL_land 2560 L (fun b hb => in1 h1 hb hc) fun b hb => in1 h2 hb hc]
    exact pkL_congr _ fun b hb => pkL_land 128 L (fun a ha => h1 a ha b hb c hc) fun a ha => h2 a ha b hb c hc
theorem V_xor (h1 : Bd f) (h2 : Bd g) : V f ^^^ V g = V fun a b c => f a b c ^^^ g a b c := by
  unfold V pk
  rw [pkL_xor 51200 L (fun c hc => in2 h1 hc) fun c hc => in2 h2 hc]
  exact pkL_congr _ fun c hc => by
    dsimp only
    rw [pkL_xor 2560 L (fun b hb => in1 h1 hb hc) fun b hb => in1 h2 hb hc]
    exact pkL_congr _ fun b hb => pkL_xor 128 L (fun a ha => h1 a ha b hb c hc) fun a ha => h2 a ha b hb c hc
theorem V_inj (h1 : Bd f) (h2 : Bd g) (e : V f = V g) : ∀ a ∈ L, ∀ b ∈ L, ∀ c ∈ L, f a b c = g a b c := fun a ha b hb c hc =>
  pkL_inj 128 L (fun a ha => h1 a ha b hb c hc) (fun a ha => h2 a ha b hb c hc) (pkL_inj 2560 L (fun b hb => in1 h1 hb hc) (fun b hb => in1 h2 hb hc) (pkL_inj 51200 L (fun c hc => in2 h1 hc) (fun c hc => in2 h2 hc) e c hc) b hb) a ha
end
/-! ### the steps of a tuple's hash -/
def M : Nat := 18446744073709551616
def P1 : Nat := 11400714785074694791
def P2 : Nat := 14029467366897019727
def P5 : Nat := 2870177450012600261
def C2 : Nat := 2 ^^^ (P5 ^^^ 3527539)
def C3 : Nat := 3 ^^^ (P5 ^^^ 3527539)
def rot (a : Nat) : Nat := (a * 2147483648 % M + a / 8589934592) * P1 % M
def rnd (acc h : Nat) : Nat := rot ((acc + h * P2) % M)
def fin (k acc : Nat) : Nat := if (acc + k) % M = M - 1 then 1546275796 else (acc + k) % M
theorem rot_lt (a : Nat) : rot a < M := Nat.mod_lt _ (by decide)
theorem rnd_lt (a h : Nat) : rnd a h < M := rot_lt _
theorem fin_lt (k a : Nat) : fin k a < M := by
  unfold fin
  split
  · decide
  · exact Nat.mod_lt _ (by decide)
/-- the same of lanes -/
def one1 : Nat := pk (pw 128) fun _ => 1
def one2 : Nat := pk (pw 2560) fun _ => one1
def ONES : Nat := pk (pw 51200) fun _ => one2
theorem one1_mul (k : Nat) : one1 * k = pk (pw 128) fun _ => k := by
  unfold one1 pk
  rw [pkL_mul]
  exact pkL_congr _ fun _ _ => Nat.one_mul k
theorem one2_mul (k : Nat) : one2 * k = pk (pw 2560) fun _ => pk (pw 128) fun _ => k := by
  unfold one2
  rw [← one1_mul]
  exact pkL_mul _ _
def V1 (f : Nat → Nat) : Nat := let x := pk (pw 2560) fun _ => pk (pw 128) f; pk (pw 51200) fun _ => x
def V3 (f : Nat → Nat) : Nat := pk (pw 51200) fun c => one2 * f c
def V12 (f : Nat → Nat → Nat) : Nat := pk (pw 51200) fun _ => pk (pw 2560) fun b => pk (pw 128) fun a => f a b
def V23 (f : Nat → Nat → Nat) : Nat := pk (pw 51200) fun c => pk (pw 2560) fun b => one1 * f b c
theorem V1_eq (f : Nat → Nat) : V1 f = V fun a _ _ => f a := by unfold V1 V; rfl
theorem V12_eq (f : Nat → Nat → Nat) : V12 f = V fun a b _ => f a b := by unfold V12 V; rfl
theorem V3_eq (f : Nat → Nat) : V3 f = V fun _ _ c => f c := by
  unfold V3 V
  rw [show pk (pw 51200) = fun f => pk (pw 51200) f from rfl]
  exact pkL_congr _ fun c _ => one2_mul _
theorem V23_eq (f : Nat → Nat → Nat) : V23 f = V fun _ b c => f b c := by
  unfold V23 V
  exact pkL_congr _ fun c _ => pkL_congr _ fun b _ => one1_mul _
/-- a mask of lanes -/
def maskV (d : Nat → Bool) : Nat := pk (pw 51200) fun c => if d c = true then one2 * M else pk (pw 2560) fun b => if d b = true then one1 * M else pk (pw 128) fun a => if d a = true then M else 0
theorem maskV_eq (d : Nat → Bool) : maskV d = V fun a b c => if (d a || d b || d c) = true then M else 0 := by
  unfold maskV V
  refine pkL_congr _ fun c _ => ?_
  by_cases hc : d c = true
  · rw [if_pos hc, one2_mul]
    exact pkL_congr _ fun b _ => pkL_congr _ fun a _ => by dsimp only; rw [hc, Bool.or_true, if_pos rfl]
  · rw [if_neg hc]
    refine pkL_congr _ fun b _ => ?_
    by_cases hb : d b = true
    · rw [if_pos hb, one1_mul]
      exact pkL_congr _ fun a _ => by dsimp only; rw [hb, Bool.or_true, Bool.true_or, if_pos rfl]
    · rw [if_neg hb]
      refine pkL_congr _ fun a _ => ?_
      dsimp only
      rw [Bool.eq_false_iff.mpr hc, Bool.eq_false_iff.mpr hb, Bool.or_false, Bool.or_false]
def MM : Nat := ONES * 18446744073709551615
def HI : Nat := ONES * M
def rotV (Y : Nat) : Nat := (((Y &&& MM) + (Y - (Y &&& MM)) / M) * P1) &&& MM
def rndV (A H : Nat) : Nat := rotV (((A + H * P2) &&& MM) * 2147483648)
def finV (k A : Nat) : Nat := (A + ONES * k) &&& MM
/-- lanes that are unlike where the mask asks -/
def neV (X Y mask : Nat) : Bool := Nat.beq ((Nat.xor X Y + MM) &&& mask) mask
structure Is (X : Nat) (f : F3) : Prop where
  eq : X = V f
  lt : ∀ a ∈ L, ∀ b ∈ L, ∀ c ∈ L, f a b c < M
section
variable {X Y A H : Nat} {f g : F3}
theorem bd_of (h : ∀ a ∈ L, ∀ b ∈ L, ∀ c ∈ L, f a b c < M) : Bd f := fun a ha b hb c hc => Nat.lt_trans (h a ha b hb c hc) (by rw [pw_128]; decide)
theorem Is.bd (h : Is X f) : Bd f := bd_of h.lt
theorem ones_mul (k : Nat) : ONES * k = V fun _ _ _ => k := by
  unfold ONES V
  dsimp only
  rw [← one2_mul]
  exact pkL_mul _ _
theorem Is.const {k : Nat} (h : k < M) : Is (ONES * k) (fun _ _ _ => k) := ⟨ones_mul k, fun _ _ _ _ _ _ => h⟩
theorem land_mm (k : Nat) : k &&& 18446744073709551615 = k % M := by
  exact Nat.and_two_pow_sub_one_eq_mod k 64
theorem V_mm (h : Bd f) : V f &&& MM = V fun a b c => f a b c % M := by
  unfold MM
  rw [ones_mul, V_land h fun _ _ _ _ _ _ => by rw [pw_128]; decide]
  exact V_congr fun _ _ _ _ _ _ => land_mm _
theorem Is.mm (h : Bd f) : Is (V f &&& MM) (fun a b c => f a b c % M) := ⟨V_mm h, fun _ _ _ _ _ _ => Nat.mod_lt _ (by decide)⟩
theorem V_div (h : Bd f) : (V f - (V f &&& MM)) / M = V fun a b c => f a b c / M := by
  rw [V_mm h]
  have e : V f = (V fun a b c => f a b c % M) + (V fun a b c => f a b c / M) * M := by
    rw [V_mul, V_add]
    exact V_congr fun a _ b _ c _ => by rw [Nat.mul_comm]; exact (Nat.mod_add_div _ _).symm
  have e2 : V f - (V fun a b c => f a b c % M) = (V fun a b c => f a b c / M) * M := by omega
  rw [e2, Nat.mul_div_cancel _ (by decide)]
theorem Is.rnd (a : Is A f) (h : Is H g) : Is (rndV A H) (fun x y z => rnd (f x y z) (g x y z)) := by
  have b1 : Bd fun x y z => f x y z + g x y z * P2 := fun x hx y hy z hz => by
    have h1 := a.lt x hx y hy z hz
    have h2 := h.lt x hx y hy z hz
    have h3 : g x y z * P2 ≤ (M - 1) * P2 := Nat.mul_le_mul_right _ (by unfold M at *; omega)
    have h4 : M + (M - 1) * P2 < pw 128 := by rw [pw_128]; decide
    dsimp only
    omega
  have e1 : (A + H * P2) &&& MM = V fun x y z => (f x y z + g x y z * P2) % M := by rw [a.eq, h.eq, V_mul, V_add, V_mm b1]
  unfold rndV
  rw [e1, V_mul]
  have b2 : Bd fun x y z => (f x y z + g x y z * P2) % M * 2147483648 := fun x hx y hy z hz => by
    have h1 : (f x y z + g x y z * P2) % M < M := Nat.mod_lt _ (by decide)
    unfold M at *
    rw [pw_128]
    dsimp only
    omega
  unfold rotV
  rw [V_div b2, V_mm b2, V_add, V_mul]
  have b3 : Bd fun x y z => ((f x y z + g x y z * P2) % M * 2147483648 % M + (f x y z + g x y z * P2) % M * 2147483648 / M) * P1 := fun x hx y hy z hz => by
    have h1 : (f x y z + g x y z * P2) % M < M := Nat.mod_lt _ (by decide)
    dsimp only
    generalize (f x y z + g x y z * P2) % M = u at h1
    have h2 : u * 2147483648 % M < M := Nat.mod_lt _ (by decide)
    have h3 : u * 2147483648 / M < 2147483648 := by
      rw [Nat.div_lt_iff_lt_mul (by decide)]
      rw [Nat.mul_comm]
      exact Nat.mul_lt_mul_of_pos_left h1 (by decide)
    have h4 : u * 2147483648 % M + u * 2147483648 / M ≤ M + 2147483648 := by omega
    exact Nat.lt_of_le_of_lt (Nat.mul_le_mul_right P1 h4) (by rw [pw_128]; decide)
  rw [V_mm b3]
  refine ⟨V_congr fun x hx y hy z hz => ?_, fun _ _ _ _ _ _ => Nat.mod_lt _ (by decide)⟩
  unfold Ln.rnd rot
  generalize (f x y z + g x y z * P2) % M = u
  have e3 : u * 2147483648 / M = u / 8589934592 := by
    rw [show M = 8589934592 * 2147483648 by decide, Nat.mul_div_mul_right _ _ (by decide)]
  rw [e3]
theorem land_hi_small : 18446744073709551615 &&& M = 0 := by decide
/-- where the mask asks, the lanes are unlike -/
theorem ne_of (a : Is X f) (b : Is Y g) {mask : Nat} {d : Nat → Nat → Nat → Bool} (hm : mask = V fun x y z => if d x y z = true then M else 0) (h : neV X Y mask = true) : ∀ x ∈ L, ∀ y ∈ L, ∀ z ∈ L, d x y z = true → f x y z ≠ g x y z := by
  have e : ((X ^^^ Y) + MM) &&& mask = mask := Nat.eq_of_beq_eq_true (by unfold neV at h; exact h)
  have lm : ∀ x y z, (if d x y z = true then M else 0) ≤ M := fun x y z => by split <;> decide
  have bm : Bd fun x y z => if d x y z = true then M else 0 := fun x _ y _ z _ => Nat.lt_of_le_of_lt (lm x y z) (by rw [pw_128]; decide)
  have bx : ∀ x ∈ L, ∀ y ∈ L, ∀ z ∈ L, f x y z ^^^ g x y z < M := fun x hx y hy z hz => Nat.xor_lt_two_pow (n := 64) (a.lt x hx y hy z hz) (b.lt x hx y hy z hz)
  have bs : Bd fun x y z => (f x y z ^^^ g x y z) + 18446744073709551615 := fun x hx y hy z hz => by
    have := bx x hx y hy z hz
    have h4 : M + 18446744073709551615 < pw 128 := by rw [pw_128]; decide
    dsimp only
    omega
  rw [a.eq, b.eq, V_xor a.bd b.bd, show MM = ONES * 18446744073709551615 from rfl, ones_mul, V_add, hm, V_land bs bm] at e
  intro x hx y hy z hz hd hne
  have := V_inj (fun x hx y hy z hz => Nat.lt_of_le_of_lt Nat.and_le_right (bm x hx y hy z hz)) bm e x hx y hy z hz
  rw [if_pos hd, hne, Nat.xor_self, Nat.zero_add, land_hi_small] at this
  exact absurd this (by decide)
theorem Is.fin {k : Nat} (hk : k < M) (a : Is A f) (h : neV (finV k A) MM HI = true) : Is (finV k A) (fun x y z => fin k (f x y z)) := by
  have b : Bd fun x y z => f x y z + k := fun x hx y hy z hz => by
    have := a.lt x hx y hy z hz
    have h4 : M + M < pw 128 := by rw [pw_128]; decide
    dsimp only
    omega
  have e : finV k A = V fun x y z => (f x y z + k) % M := by
    unfold finV
    rw [a.eq, ones_mul, V_add, V_mm b]
  have i1 : Is (finV k A) fun x y z => (f x y z + k) % M := ⟨e, fun _ _ _ _ _ _ => Nat.mod_lt _ (by decide)⟩
  have hm : HI = V fun x y z => if (fun _ _ _ => true : Nat → Nat → Nat → Bool) x y z = true then M else 0 := ones_mul M
  have n := ne_of i1 (Is.const (k := 18446744073709551615) (by decide)) hm h
  refine ⟨e.trans (V_congr fun x hx y hy z hz => ?_), fun _ _ _ _ _ _ => fin_lt _ _⟩
  unfold Ln.fin
  rw [if_neg]
  exact n x hx y hy z hz rfl
/-! ### three in a lane, each by its last 41 bits -/
def T41 : Nat := ONES * 2199023255551
def R3 : Nat := 19342813113838464841809921
def S3 : Nat := ONES * (2199023255551 * R3)
/-- one, three times -/
def thrice (X : Nat) : Nat := (X &&& T41) * R3
def trio (X Y Z : Nat) : Nat := (X &&& T41) + (Y &&& T41) * 4398046511104 + (Z &&& T41) * 19342813113834066795298816
def ne3 (X Y mask : Nat) : Bool := Nat.beq ((Nat.xor X Y + S3) &&& mask) mask
theorem split3 (k a b c a' b' c' : Nat) (ha : a < 2 ^ k) (hb : b < 2 ^ k) (ha' : a' < 2 ^ k) (hb' : b' < 2 ^ k) (e : a + 2 ^ k * (b + 2 ^ k * c) = a' + 2 ^ k * (b' + 2 ^ k * c')) : a = a' ∧ b = b' ∧ c = c' := by
  have h0 : 0 < 2 ^ k := Nat.two_pow_pos k
  have e1 : a = a' := by
    have := congrArg (· % 2 ^ k) e
    simpa only [Nat.add_mul_mod_self_left, Nat.mod_eq_of_lt ha, Nat.mod_eq_of_lt ha'] using this
  subst e1
  have e2 := Nat.eq_of_mul_eq_mul_left h0 (Nat.add_left_cancel e)
  have e3 : b = b' := by
    have := congrArg (· % 2 ^ k) e2
    simpa only [Nat.add_mul_mod_self_left, Nat.mod_eq_of_lt hb, Nat.mod_eq_of_lt hb'] using this
  subst e3
  exact ⟨rfl, rfl, Nat.eq_of_mul_eq_mul_left h0 (Nat.add_left_cancel e2)⟩
theorem lane3 (x y1 y2 y3 : Nat) (hx : x < 2199023255552) (h1 : y1 < 2199023255552) (h2 : y2 < 2199023255552) (h3 : y3 < 2199023255552)
    (e : (((x * R3) ^^^ (y1 + y2 * 4398046511104 + y3 * 19342813113834066795298816)) + 2199023255551 * R3) &&& (2199023255552 * R3) = 2199023255552 * R3) : x ≠ y1 ∧ x ≠ y2 ∧ x ≠ y3 := by
  have ex : x * R3 = x + pw 42 * (x + pw 42 * x) := by rw [pw_eq]; unfold R3; omega
  have ey : y1 + y2 * 4398046511104 + y3 * 19342813113834066795298816 = y1 + pw 42 * (y2 + pw 42 * y3) := by rw [pw_eq]; omega
  have p42 : pw 42 = 4398046511104 := by rw [pw_eq]
  rw [ex, ey, xor_split _ _ _ _ _ (by omega) (by omega), xor_split _ _ _ _ _ (by omega) (by omega)] at e
  have b1 : x ^^^ y1 < 2199023255552 := Nat.xor_lt_two_pow (n := 41) hx h1
  have b2 : x ^^^ y2 < 2199023255552 := Nat.xor_lt_two_pow (n := 41) hx h2
  have b3 : x ^^^ y3 < 2199023255552 := Nat.xor_lt_two_pow (n := 41) hx h3
  have z1 : x = y1 → x ^^^ y1 = 0 := fun h => by rw [h, Nat.xor_self]
  have z2 : x = y2 → x ^^^ y2 = 0 := fun h => by rw [h, Nat.xor_self]
  have z3 : x = y3 → x ^^^ y3 = 0 := fun h => by rw [h, Nat.xor_self]
  generalize x ^^^ y1 = u1 at *
  generalize x ^^^ y2 = u2 at *
  generalize x ^^^ y3 = u3 at *
  have es : u1 + pw 42 * (u2 + pw 42 * u3) + 2199023255551 * R3 = (u1 + 2199023255551) + pw 42 * ((u2 + 2199023255551) + pw 42 * (u3 + 2199023255551)) := by rw [p42]; unfold R3; omega
  have em : 2199023255552 * R3 = 2199023255552 + pw 42 * (2199023255552 + pw 42 * 2199023255552) := by rw [p42]; unfold R3; omega
  rw [es, em, land_split _ _ _ _ _ (by omega) (by omega), land_split _ _ _ _ _ (by omega) (by omega), pw_eq] at e
  have l1 : (u1 + 2199023255551) &&& 2199023255552 ≤ 2199023255552 := Nat.and_le_right
  have l2 : (u2 + 2199023255551) &&& 2199023255552 ≤ 2199023255552 := Nat.and_le_right
  obtain ⟨e1, e2, e3⟩ := split3 42 _ _ _ _ _ _ (Nat.lt_of_le_of_lt l1 (by decide)) (Nat.lt_of_le_of_lt l2 (by decide)) (by decide) (by decide) e
  refine ⟨fun h => ?_, fun h => ?_, fun h => ?_⟩
  · rw [z1 h] at e1; exact absurd e1 (by decide)
  · rw [z2 h] at e2; exact absurd e2 (by decide)
  · rw [z3 h] at e3; exact absurd e3 (by decide)
theorem land_41 (k : Nat) : k &&& 2199023255551 = k % 2199023255552 := Nat.and_two_pow_sub_one_eq_mod k 41
theorem Is.cut (a : Is X f) : X &&& T41 = V fun x y z => f x y z % 2199023255552 := by
  unfold T41
  rw [a.eq, ones_mul, V_land a.bd fun _ _ _ _ _ _ => by rw [pw_128]; decide]
  exact V_congr fun _ _ _ _ _ _ => land_41 _
theorem ne3_of {Z U : Nat} {p q : F3} (a : Is X f) (b : Is Y g) (c : Is Z p) (u : Is U q) {mask : Nat} {d : Nat → Nat → Nat → Bool} (hm : mask = V fun x y z => if d x y z = true then M else 0) {mask3 : Nat} (hm3 : mask3 = mask / 8388608 * R3) (h : ne3 (thrice X) (trio Y Z U) mask3 = true) :
    ∀ x ∈ L, ∀ y ∈ L, ∀ z ∈ L, d x y z = true → f x y z ≠ g x y z ∧ f x y z ≠ p x y z ∧ f x y z ≠ q x y z := by
  have em : mask / 8388608 = V fun x y z => if d x y z = true then 2199023255552 else 0 := by
    have : mask = (V fun x y z => if d x y z = true then 2199023255552 else 0) * 8388608 := by
      rw [hm, V_mul]
      exact V_congr fun _ _ _ _ _ _ => by split <;> rfl
    rw [this, Nat.mul_div_cancel _ (by decide)]
  have et : thrice X = V fun x y z => f x y z % 2199023255552 * R3 := by unfold thrice; rw [a.cut, V_mul]
  have eq : trio Y Z U = V fun x y z => g x y z % 2199023255552 + p x y z % 2199023255552 * 4398046511104 + q x y z % 2199023255552 * 19342813113834066795298816 := by
    unfold trio
    rw [b.cut, c.cut, u.cut, V_mul, V_mul, V_add, V_add]
  have hml : ∀ v : Nat, v % 2199023255552 < 2199023255552 := fun v => Nat.mod_lt _ (by decide)
  have bx : Bd fun x y z => f x y z % 2199023255552 * R3 := fun x _ y _ z _ => by
    have := hml (f x y z)
    rw [pw_128]
    dsimp only
    unfold R3
    omega
  have by_ : Bd fun x y z => g x y z % 2199023255552 + p x y z % 2199023255552 * 4398046511104 + q x y z % 2199023255552 * 19342813113834066795298816 := fun x _ y _ z _ => by
    have := hml (g x y z)
    have := hml (p x y z)
    have := hml (q x y z)
    rw [pw_128]
    dsimp only
    omega
  have e : ((thrice X ^^^ trio Y Z U) + S3) &&& mask3 = mask3 := Nat.eq_of_beq_eq_true (by unfold ne3 at h; exact h)
  have bs : Bd fun x y z => ((f x y z % 2199023255552 * R3) ^^^ (g x y z % 2199023255552 + p x y z % 2199023255552 * 4398046511104 + q x y z % 2199023255552 * 19342813113834066795298816)) + 2199023255551 * R3 := fun x hx y hy z hz => by
    have h1 : f x y z % 2199023255552 * R3 < 2 ^ 126 := by
      have := hml (f x y z)
      unfold R3
      omega
    have h2 : g x y z % 2199023255552 + p x y z % 2199023255552 * 4398046511104 + q x y z % 2199023255552 * 19342813113834066795298816 < 2 ^ 126 := by
      have := hml (g x y z)
      have := hml (p x y z)
      have := hml (q x y z)
      omega
    have h3 := Nat.xor_lt_two_pow h1 h2
    have h4 : 2 ^ 126 + 2199023255551 * R3 < pw 128 := by rw [pw_128]; decide
    dsimp only
    omega
  have bm : Bd fun x y z => (if d x y z = true then 2199023255552 else 0) * R3 := fun x _ y _ z _ => by
    rw [pw_128]
    dsimp only
    split <;> decide
  rw [et, eq, V_xor bx by_, show S3 = ONES * (2199023255551 * R3) from rfl, ones_mul, V_add, hm3, em, V_mul, V_land bs bm] at e
  intro x hx y hy z hz hd
  have e1 := V_inj (fun x hx y hy z hz => Nat.lt_of_le_of_lt Nat.and_le_right (bm x hx y hy z hz)) bm e x hx y hy z hz
  rw [if_pos hd] at e1
  have n := lane3 _ _ _ _ (hml _) (hml _) (hml _) (hml _) e1
  exact ⟨fun w => n.1 (by rw [w]), fun w => n.2.1 (by rw [w]), fun w => n.2.2 (by rw [w])⟩
end
end Ln
end
section
set_option Elab.async false
set_option linter.all false
set_option maxRecDepth 100000
set_option maxHeartbeats 4000000
/-! What the keys' hashes are, by lanes. -/
namespace Hu
open PySem Mi W Ln
def un (i : Int) : Nat := (i % 18446744073709551616).toNat
def uI (i : Int) : Nat := un (hashInt i)
def tH (us : List Nat) : Nat := fin (us.length ^^^ (P5 ^^^ 3527539)) (us.foldl rnd P5)
def uO : Option Int → Nat
  | .none => 4238894112
  | .some i => uI i
def uS1 (x : Int × Bool) : Nat := tH [uI x.1, if x.2 = true then 1 else 0]
def uW1 (x : Int × Int) : Nat := tH [uI x.1, uI x.2]
def uS (s : Sv) : Nat := tH (s.map uS1)
def uW (s : Wy) : Nat := tH (s.map uW1)
def uE (p : Int × List Int) : Nat := tH [uI p.1, tH (p.2.map uI)]
def uK : Kn → Nat
  | .str l f t => tH [uO l, uI f, uI t]
  | .prs l kn => tH [uO l, tH (kn.map uE)]
  | .both a b => tH [uK a, uK b]
def uT (s : Sta) : Nat := tH [uS s.shelf, uW s.way, uK s.kn]
/-- of a shelf and a way -/
def uB (x : Sv × Wy) : Nat := rnd (rnd P5 (uS x.1)) (uW x.2)
def leafG (i : Nat) : Gs := if i = 0 then .none else if i = 1 then .stride 1 else if i = 2 then .pairs 1 else .pairs 2
/-- the twenty sorts of what a guesser knows -/
def kG (i : Nat) : Gs := if i < 4 then leafG i else .both (leafG ((i - 4) / 4)) (leafG ((i - 4) % 4))
def deep1 (i : Nat) : Bool := Nat.ble 4 i && (Nat.ble 2 ((i - 4) / 4) || Nat.ble 2 ((i - 4) % 4))
def deep (a b c : Nat) : Bool := deep1 a || deep1 b || deep1 c
def tK (r : List Int) (i : Nat) : Nat := uK (knA (kG i) (first (kG i)) r)
def tP (r : List Int) (i j : Nat) : Nat := tH [tK r i, tK r j]
def k1N (r : List Int) : F3 := fun a b c => fin C2 (rnd (rnd P5 (tP r a b)) (tK r c))
def k2N (r : List Int) : F3 := fun a b c => fin C2 (rnd (rnd P5 (tK r a)) (tP r b c))
def keyN (r : List Int) (B : Nat) : F3 := fun a b c => fin C2 (rnd (rnd P5 (fin C3 (rnd B (k1N r a b c)))) (fin C3 (rnd B (k2N r a b c))))
def K1 (r : List Int) : Nat := finV C2 (rndV (V12 fun a b => rnd P5 (tP r a b)) (V3 fun c => tK r c))
def K2 (r : List Int) : Nat := finV C2 (rndV (V1 fun a => rnd P5 (tK r a)) (V23 fun b c => tP r b c))
def X1 (r : List Int) (B : Nat) : Nat := finV C3 (rndV (ONES * B) (K1 r))
def X2 (r : List Int) (B : Nat) : Nat := finV C3 (rndV (ONES * B) (K2 r))
def keyV (r : List Int) (B : Nat) : Nat := finV C2 (rndV (rndV (ONES * P5) (X1 r B)) (X2 r B))
def DM : Nat := maskV deep1
def rowOk (r : List Int) (bs : List Nat) : Bool := neV (K1 r) MM HI && (neV (K2 r) MM HI && bs.all fun B => Nat.blt B M && (neV (X1 r B) MM HI && (neV (X2 r B) MM HI && neV (keyV r B) MM HI)))
/-- a mask of three in a lane -/
def DM3 : Nat := DM / 8388608 * R3
def g3 : List Nat → List (Nat × Nat × Nat)
  | a :: b :: c :: l => (a, b, c) :: g3 l
  | [a, b] => [(a, b, b)]
  | [a] => [(a, a, a)]
  | [] => []
def pairOk (r r' : List Int) (bs bs' : List Nat) : Bool := bs.all fun B => (g3 bs').all fun t => ne3 (thrice (keyV r B)) (trio (keyV r' t.1) (keyV r' t.2.1) (keyV r' t.2.2)) DM3
theorem mem_g3 {x : Nat} : ∀ (l : List Nat), x ∈ l → ∃ t ∈ g3 l, (t.1 ∈ l ∧ t.2.1 ∈ l ∧ t.2.2 ∈ l) ∧ (x = t.1 ∨ x = t.2.1 ∨ x = t.2.2)
  | [], h => by simp at h
  | [a], h => by
    simp only [List.mem_singleton] at h
    exact ⟨(a, a, a), by simp [g3], by simp, .inl h⟩
  | [a, b], h => by
    simp only [List.mem_cons, List.not_mem_nil, or_false] at h
    exact ⟨(a, b, b), by simp [g3], by simp, h.elim .inl fun z => .inr (.inl z)⟩
  | a :: b :: c :: l, h => by
    have s : ∀ y, y ∈ l → y ∈ a :: b :: c :: l := fun y hy => List.mem_cons_of_mem _ (List.mem_cons_of_mem _ (List.mem_cons_of_mem _ hy))
    simp only [List.mem_cons] at h
    rcases h with h | h | h | h
    · exact ⟨(a, b, c), by simp [g3], by simp, .inl h⟩
    · exact ⟨(a, b, c), by simp [g3], by simp, .inr (.inl h)⟩
    · exact ⟨(a, b, c), by simp [g3], by simp, .inr (.inr h)⟩
    · obtain ⟨t, h1, h2, h3⟩ := mem_g3 l h
      exact ⟨t, by simp [g3, h1], ⟨s _ h2.1, s _ h2.2.1, s _ h2.2.2⟩, h3⟩
theorem tH_lt (us : List Nat) : tH us < M := fin_lt _ _
theorem uK_lt (k : Kn) : uK k < M := by cases k <;> exact tH_lt _
theorem ok_key {r : List Int} {bs : List Nat} (h : rowOk r bs = true) {B : Nat} (hB : B ∈ bs) : Is (keyV r B) (keyN r B) := by
  unfold rowOk at h
  simp only [Bool.and_eq_true, List.all_eq_true] at h
  obtain ⟨h1, h2, h3⟩ := h
  obtain ⟨h4, h5, h6, h7⟩ := h3 B hB
  have hb : B < M := Nat.blt_eq.mp h4
  have i1 : Is (K1 r) (k1N r) := Is.fin (by decide) (Is.rnd ⟨V12_eq _, fun _ _ _ _ _ _ => rnd_lt _ _⟩ ⟨V3_eq _, fun _ _ _ _ _ _ => uK_lt _⟩) h1
  have i2 : Is (K2 r) (k2N r) := Is.fin (by decide) (Is.rnd ⟨V1_eq _, fun _ _ _ _ _ _ => rnd_lt _ _⟩ ⟨V23_eq _, fun _ _ _ _ _ _ => tH_lt _⟩) h2
  have j1 := Is.fin (k := C3) (by decide) (Is.rnd (Is.const hb) i1) h5
  have j2 := Is.fin (k := C3) (by decide) (Is.rnd (Is.const hb) i2) h6
  exact Is.fin (by decide) (Is.rnd (Is.rnd (Is.const (k := P5) (by decide)) j1) j2) h7
theorem ok_pair {r r' : List Int} {bs bs' : List Nat} (h : rowOk r bs = true) (h' : rowOk r' bs' = true) (hp : pairOk r r' bs bs' = true) {B B' a b c : Nat} (hB : B ∈ bs) (hB' : B' ∈ bs') (ha : a < 20) (hb : b < 20) (hc : c < 20) (hd : deep a b c = true) : keyN r B a b c ≠ keyN r' B' a b c := by
  unfold pairOk at hp
  simp only [List.all_eq_true] at hp
  obtain ⟨t, h1, ⟨m1, m2, m3⟩, h3⟩ := mem_g3 bs' hB'
  have n := ne3_of (ok_key h hB) (ok_key h' m1) (ok_key h' m2) (ok_key h' m3) (mask := DM) (d := deep) (maskV_eq deep1) rfl (hp B hB t h1) a (mem_L.mpr ha) b (mem_L.mpr hb) c (mem_L.mpr hc) hd
  rcases h3 with e | e | e
  · rw [e]; exact n.1
  · rw [e]; exact n.2.1
  · rw [e]; exact n.2.2
end Hu
end
section
set_option Elab.async false
set_option linter.all false
set_option maxRecDepth 100000
set_option maxHeartbeats 4000000
/-! The hash of a key, without sign. -/
namespace Hu
open PySem Mi W Ln Nd DL
theorem step_eq (acc : Nat) (h : Int) : (((acc + (h % ((2 ^ 64 : Nat) : Int)).toNat * 14029467366897019727) % 2 ^ 64 * 2 ^ 31 % 2 ^ 64 + (acc + (h % ((2 ^ 64 : Nat) : Int)).toNat * 14029467366897019727) % 2 ^ 64 / 2 ^ 33) * 11400714785074694791) % 2 ^ 64 = rnd acc (un h) := rfl
theorem tho (hs : List Int) : Builtin.Tuple.tupleHashOf hs = (let acc := ((hs.map un).foldl rnd P5 + ((hs.map un).length ^^^ (P5 ^^^ 3527539))) % M; if (acc == M - 1) = true then 1546275796 else if acc < 2 ^ 63 then (acc : Int) else (acc : Int) - (M : Nat)) := by
  unfold Builtin.Tuple.tupleHashOf
  rw [List.foldl_map, List.length_map]
  rfl
theorem un_tup (hs : List Int) : un (reduceHash (Builtin.Tuple.tupleHashOf hs)) = tH (hs.map un) := by
  rw [tho]
  unfold tH fin
  have hl : ((hs.map un).foldl rnd P5 + ((hs.map un).length ^^^ (P5 ^^^ 3527539))) % M < M := Nat.mod_lt _ (by decide)
  generalize ((hs.map un).foldl rnd P5 + ((hs.map un).length ^^^ (P5 ^^^ 3527539))) % M = acc at hl
  dsimp only
  by_cases e : acc = M - 1
  · rw [if_pos (by simp [e]), if_pos e]
    decide
  · rw [if_neg (by simpa using e), if_neg e]
    unfold M at *
    by_cases lt : acc < 2 ^ 63
    · rw [if_pos lt]
      unfold reduceHash
      rw [if_pos (by simp only [Bool.and_eq_true, decide_eq_true_eq]; omega), if_neg (by simp only [beq_iff_eq]; omega)]
      unfold un
      omega
    · rw [if_neg lt]
      unfold reduceHash
      rw [if_pos (by simp only [Bool.and_eq_true, decide_eq_true_eq]; omega), if_neg (by simp only [beq_iff_eq]; omega)]
      unfold un
      omega
section
variable {w : World}
theorem un_tp (ks : List NK) : un ((NestedKey.tup ks).hash w) = tH ((NestedKey.hashes w ks).map un) := by
  rw [NestedKey.hash]
  exact un_tup _
theorem un_map {α : Type} (enc : α → PyData) (u : α → Nat) (h : ∀ x, un ((nk (enc x)).hash w) = u x) : ∀ (l : List α), (NestedKey.hashes w (nks (l.map enc))).map un = l.map u
  | [] => rfl
  | x :: l => by
    have e : NestedKey.hashes w (nks ((x :: l).map enc)) = (nk (enc x)).hash w :: NestedKey.hashes w (nks (l.map enc)) := rfl
    rw [e, List.map_cons, List.map_cons, h, un_map enc u h l]
theorem un_O (o : Option Int) : un ((nk (encO o)).hash w) = uO o := by
  cases o with
  | none =>
    show un (reduceHash 0xFCA86420) = 4238894112
    decide
  | some i => rfl
theorem un_I (i : Int) : un ((nk (.int i)).hash w) = uI i := rfl
theorem un_B (b : Bool) : un ((nk (.bool b)).hash w) = if b = true then 1 else 0 := by
  cases b with
  | false => show un (hashInt 0) = 0; decide
  | true => show un (hashInt 1) = 1; decide
theorem un_E (p : Int × List Int) : un ((nk (encE p)).hash w) = uE p := by
  have e : nk (encE p) = .tup [nk (.int p.1), .tup (nks (encI p.2))] := rfl
  rw [e, un_tp]
  show tH [un ((nk (.int p.1)).hash w), un ((NestedKey.tup (nks (p.2.map .int))).hash w)] = uE p
  rw [un_tp, un_map .int uI un_I, un_I]
  rfl
theorem un_K : ∀ (k : Kn), un ((nk k.enc).hash w) = uK k
  | .str l f t => by
    have e : nk (Kn.str l f t).enc = .tup [nk (encO l), nk (.int f), nk (.int t)] := rfl
    rw [e, un_tp]
    show tH [un ((nk (encO l)).hash w), un ((nk (.int f)).hash w), un ((nk (.int t)).hash w)] = _
    rw [un_O, un_I, un_I]
    rfl
  | .prs l kn => by
    have e : nk (Kn.prs l kn).enc = .tup [nk (encO l), .tup (nks (kn.map encE))] := rfl
    rw [e, un_tp]
    show tH [un ((nk (encO l)).hash w), un ((NestedKey.tup (nks (kn.map encE))).hash w)] = _
    rw [un_O, un_tp, un_map encE uE un_E]
    rfl
  | .both a b => by
    have e : nk (Kn.both a b).enc = .tup [nk a.enc, nk b.enc] := rfl
    rw [e, un_tp]
    show tH [un ((nk a.enc).hash w), un ((nk b.enc).hash w)] = _
    rw [un_K a, un_K b]
    rfl
theorem un_S1 (x : Int × Bool) : un ((nk (encS1 x)).hash w) = uS1 x := by
  have e : nk (encS1 x) = .tup [nk (.int x.1), nk (.bool x.2)] := rfl
  rw [e, un_tp]
  show tH [un ((nk (.int x.1)).hash w), un ((nk (.bool x.2)).hash w)] = _
  rw [un_I, un_B]
  rfl
theorem un_W1 (x : Int × Int) : un ((nk (encW1 x)).hash w) = uW1 x := by
  have e : nk (encW1 x) = .tup [nk (.int x.1), nk (.int x.2)] := rfl
  rw [e, un_tp]
  show tH [un ((nk (.int x.1)).hash w), un ((nk (.int x.2)).hash w)] = _
  rw [un_I, un_I]
  rfl
theorem un_T (s : Sta) : un ((nk s.enc).hash w) = uT s := by
  have e : nk s.enc = .tup [.tup (nks (s.shelf.map encS1)), .tup (nks (s.way.map encW1)), nk s.kn.enc] := rfl
  rw [e, un_tp]
  show tH [un ((NestedKey.tup (nks (s.shelf.map encS1))).hash w), un ((NestedKey.tup (nks (s.way.map encW1))).hash w), un ((nk s.kn.enc).hash w)] = _
  rw [un_tp, un_tp, un_map encS1 uS1 un_S1, un_map encW1 uW1 un_W1, un_K]
  rfl
theorem un_P (p : Sta × Sta) : un ((nk (encP p)).hash w) = tH [uT p.1, uT p.2] := by
  have e : nk (encP p) = .tup [nk p.1.enc, nk p.2.enc] := rfl
  rw [e, un_tp]
  show tH [un ((nk p.1.enc).hash w), un ((nk p.2.enc).hash w)] = _
  rw [un_T, un_T]
end
theorem tH2 (a b : Nat) : tH [a, b] = fin C2 (rnd (rnd P5 a) b) := by
  unfold tH
  have e : [a, b].length ^^^ (P5 ^^^ 3527539) = C2 := rfl
  rw [e, List.foldl_cons, List.foldl_cons, List.foldl_nil]
theorem tH3 (a b c : Nat) : tH [a, b, c] = fin C3 (rnd (rnd (rnd P5 a) b) c) := by
  unfold tH
  have e : [a, b, c].length ^^^ (P5 ^^^ 3527539) = C3 := rfl
  rw [e, List.foldl_cons, List.foldl_cons, List.foldl_cons, List.foldl_nil]
theorem uT_eq (s : Sta) : uT s = fin C3 (rnd (uB (s.shelf, s.way)) (uK s.kn)) := by
  unfold uT uB
  rw [tH3]
theorem uK_both (a b : Kn) : uK (.both a b) = tH [uK a, uK b] := by rw [uK]
/-- a key of the fourth call, by the shelf and the way and three sorts of knowledge -/
theorem key_eq (sh : Sv) (wy : Wy) (x y z : Kn) : tH [uT ⟨sh, wy, .both (.both x y) z⟩, uT ⟨sh, wy, .both x (.both y z)⟩] =
    fin C2 (rnd (rnd P5 (fin C3 (rnd (uB (sh, wy)) (fin C2 (rnd (rnd P5 (tH [uK x, uK y])) (uK z)))))) (fin C3 (rnd (uB (sh, wy)) (fin C2 (rnd (rnd P5 (uK x)) (tH [uK y, uK z])))))) := by
  rw [tH2 (uT _), uT_eq, uT_eq]
  dsimp only
  rw [uK_both (.both x y), uK_both x (.both y z), uK_both x y, uK_both y z, tH2 (tH [uK x, uK y]), tH2 (uK x) (tH _)]
end Hu
end
section
set_option Elab.async false
set_option linter.all false
set_option maxRecDepth 100000
set_option maxHeartbeats 4000000
/-! The shelf and the way, by what is guessed. -/
namespace Hu
open PySem Mi W Ln Nd DL Ml
def turnS (h : Hs) (x : Sv × Wy) (p : Int) (gl : List Int) : Sv × Wy :=
  ((asked h (come h x.1 x.2).1 (come h x.1 x.2).2.1 p).1, (started h (asked h (come h x.1 x.2).1 (come h x.1 x.2).2.1 p).1 (asked h (come h x.1 x.2).1 (come h x.1 x.2).2.1 p).2.1 gl).1)
def runS (h : Hs) : Sv × Wy → List Int → List (List Int) → Sv × Wy
  | x, p :: r, gl :: gls => runS h (turnS h x p gl) r gls
  | x, _, _ => x
theorem fold_gone (h : Hs) (g : Gs) : ∀ (r : List Int) (s : Sta), r.foldl (fun s p => (gone h g s p).1) s = ⟨(runS h (s.shelf, s.way) r (guessesM g s.kn r)).1, (runS h (s.shelf, s.way) r (guessesM g s.kn r)).2, knA g s.kn r⟩
  | [], s => rfl
  | p :: r, s => by
    have ih := fold_gone h g r (gone h g s p).1
    exact ih
theorem stR_eq (h : Hs) (g : Gs) (r : List Int) : stR h g r = ⟨(runS h ([], []) r (guessesM g (first g) r)).1, (runS h ([], []) r (guessesM g (first g) r)).2, knA g (first g) r⟩ := fold_gone h g r (begun g)
/-! ### what can't start -/
def fl (p : Int) (l : List Int) : List Int := l.filter fun q => decide (0 ≤ q) && !decide (q = p)
theorem started_fl (h : Hs) (sh : Sv) (p : Int) (hp : p ∈ sh.map (·.1)) : ∀ (gl : List Int) (a : Wy × Evs), gl.foldl (start1 h sh) a = (fl p gl).foldl (start1 h sh) a
  | [], a => rfl
  | q :: gl, a => by
    have ih := started_fl h sh p hp gl
    unfold fl at ih ⊢
    rw [List.foldl_cons, List.filter_cons]
    by_cases c : (decide (0 ≤ q) && !decide (q = p)) = true
    · rw [if_pos c, List.foldl_cons, ih]
    · rw [if_neg c, ← ih]
      congr 1
      unfold start1
      rw [if_neg]
      intro s
      unfold starts at s
      obtain ⟨s1, s2, s3, s4⟩ := s
      apply c
      simp only [Bool.and_eq_true, decide_eq_true_eq, Bool.not_eq_true', decide_eq_false_iff_not]
      exact ⟨s1, fun e => s3 (List.mem_append.mpr (.inl (e ▸ hp)))⟩
theorem laid_has (h : Hs) (sh : Sv) (p : Int) (w : Bool) : p ∈ (laid h sh p w).1.map (·.1) := by
  unfold laid
  split
  · split
    · simp
    · simp
  · simp
theorem asked_has (h : Hs) (sh : Sv) (wy : Wy) (p : Int) : p ∈ (asked h sh wy p).1.map (·.1) := by
  unfold asked
  split
  · simp
  · exact laid_has h sh p false
theorem turn_fl (h : Hs) (x : Sv × Wy) (p : Int) (gl : List Int) : turnS h x p gl = turnS h x p (fl p gl) := by
  unfold turnS started
  rw [started_fl h _ p (asked_has h _ _ p) gl]
theorem run_fl (h : Hs) : ∀ (r : List Int) (x : Sv × Wy) (gls : List (List Int)), runS h x r gls = runS h x r (List.zipWith fl r gls)
  | [], x, gls => rfl
  | p :: r, x, [] => rfl
  | p :: r, x, gl :: gls => by
    show runS h (turnS h x p gl) r gls = runS h (turnS h x p (fl p gl)) r (List.zipWith fl r gls)
    rw [← turn_fl, run_fl h r]
theorem fl_union (p : Int) (a b : List Int) : fl p (union a b) = union (fl p a) (fl p b) := by
  unfold fl union
  rw [List.filter_append, List.filter_filter, List.filter_filter]
  congr 1
  refine List.filter_congr fun x _ => ?_
  rw [Bool.eq_iff_iff]
  simp only [Bool.and_eq_true, decide_eq_true_eq, Bool.not_eq_true', decide_eq_false_iff_not, List.mem_filter]
  constructor
  · rintro ⟨⟨h1, h2⟩, h3⟩
    exact ⟨fun z => h3 z.1, h1, h2⟩
  · rintro ⟨h1, h2, h3⟩
    exact ⟨⟨h2, h3⟩, fun z => h1 ⟨z, h2, h3⟩⟩
def prof (g : Gs) (r : List Int) : List (List Int) := List.zipWith fl r (guessesM g (first g) r)
theorem guesses_both (a b : Gs) : ∀ (r : List Int) (x y : Kn), guessesM (.both a b) (.both x y) r = List.zipWith union (guessesM a x r) (guessesM b y r)
  | [], _, _ => rfl
  | p :: r, x, y => by
    show (adv (.both a b) (.both x y) p).2 :: guessesM (.both a b) (adv (.both a b) (.both x y) p).1 r = _
    rw [adv_both]
    show _ :: guessesM (.both a b) (.both (adv a x p).1 (adv b y p).1) r = _
    rw [guesses_both a b r]
    rfl
theorem zip_fl : ∀ (r : List Int) (A B : List (List Int)), List.zipWith fl r (List.zipWith union A B) = List.zipWith union (List.zipWith fl r A) (List.zipWith fl r B)
  | [], _, _ => by simp
  | _ :: _, [], _ => by simp
  | _ :: _, _ :: _, [] => by simp
  | p :: r, a :: A, b :: B => by
    simp only [List.zipWith_cons_cons]
    rw [fl_union, zip_fl r A B]
theorem prof_both (a b : Gs) (r : List Int) : prof (.both a b) r = List.zipWith union (prof a r) (prof b r) := by
  unfold prof
  rw [← zip_fl]
  congr 1
  exact guesses_both a b r (first a) (first b)
theorem stR_prof (h : Hs) (g : Gs) (r : List Int) : stR h g r = ⟨(runS h ([], []) r (prof g r)).1, (runS h ([], []) r (prof g r)).2, knA g (first g) r⟩ := by
  rw [stR_eq, run_fl]
  rfl
/-! ### twenty places are enough -/
theorem start_20 {h : Hs} (hp : 20 ≤ h.places) (sh : Sv) : ∀ (gl : List Int) (a : Wy × Evs), (∀ q ∈ gl, q < 20) → gl.foldl (start1 h sh) a = gl.foldl (start1 ⟨20, h.room, h.late, h.most⟩ sh) a
  | [], a, _ => rfl
  | q :: gl, a, hq => by
    have h1 := hq q List.mem_cons_self
    rw [List.foldl_cons, List.foldl_cons, start_20 hp sh gl _ fun y hy => hq y (List.mem_cons_of_mem _ hy)]
    congr 1
    unfold start1
    have e : starts h sh a.1 q ↔ starts ⟨20, h.room, h.late, h.most⟩ sh a.1 q := by
      unfold starts
      exact ⟨fun ⟨a, b, c⟩ => ⟨a, h1, c⟩, fun ⟨a, b, c⟩ => ⟨a, by omega, c⟩⟩
    by_cases c : starts h sh a.1 q
    · rw [if_pos c, if_pos (e.mp c)]
    · rw [if_neg c, if_neg fun z => c (e.mpr z)]
theorem turn_20 {h : Hs} (hp : 20 ≤ h.places) (x : Sv × Wy) (p : Int) {gl : List Int} (hq : ∀ q ∈ gl, q < 20) : turnS h x p gl = turnS ⟨20, h.room, h.late, h.most⟩ x p gl := by
  unfold turnS started
  rw [start_20 hp _ gl _ hq]
  rfl
theorem run_20 {h : Hs} (hp : 20 ≤ h.places) : ∀ (r : List Int) (x : Sv × Wy) (gls : List (List Int)), (∀ gl ∈ gls, ∀ q ∈ gl, q < 20) → runS h x r gls = runS ⟨20, h.room, h.late, h.most⟩ x r gls
  | [], x, gls, _ => rfl
  | p :: r, x, [], _ => rfl
  | p :: r, x, gl :: gls, hq => by
    show runS h (turnS h x p gl) r gls = runS _ (turnS _ x p gl) r gls
    rw [turn_20 hp x p (hq gl List.mem_cons_self), run_20 hp r _ gls fun g hg => hq g (List.mem_cons_of_mem _ hg)]
/-! ### tables -/
def leaves : List Gs := [.none, .next 1, .next 2, .next 3, .stride 1, .stride 2, .stride 3, .pairs 1, .pairs 2]
def clOk (r : List Int) (S : List (List (List Int))) : Bool :=
  (leaves.all fun g => S.any fun x => decide (x = prof g r)) && ((S.all fun x => S.all fun y => S.any fun z => decide (z = List.zipWith union x y)) && S.all fun x => x.all fun gl => gl.all fun q => decide (q < 20))
def tabOk (rooms : List Int) (r : List Int) (S : List (List (List Int))) (bs : List Nat) : Bool :=
  rooms.all fun room => [0, 1, 2, 3, 4].all fun late => [1, 2, 3, 4].all fun most => S.all fun pf => bs.any fun B => Nat.beq B (uB (runS ⟨20, room, late, most⟩ ([], []) r pf))
theorem prof_in {r : List Int} {S : List (List (List Int))} (h : clOk r S = true) : ∀ (g : Gs) (wi : Nat), g.ok wi → prof g r ∈ S := by
  unfold clOk at h
  simp only [Bool.and_eq_true, List.all_eq_true, List.any_eq_true, decide_eq_true_eq] at h
  obtain ⟨h1, h2, _⟩ := h
  have lf : ∀ g ∈ leaves, prof g r ∈ S := fun g hg => by
    obtain ⟨x, hx, e⟩ := h1 g hg
    exact e ▸ hx
  intro g
  induction g with
  | none => exact fun _ _ => lf _ (by simp [leaves])
  | next n =>
    intro wi ok
    simp only [Gs.ok] at ok
    rcases (show n = 1 ∨ n = 2 ∨ n = 3 by omega) with rfl | rfl | rfl <;> exact lf _ (by simp [leaves])
  | stride n =>
    intro wi ok
    simp only [Gs.ok] at ok
    rcases (show n = 1 ∨ n = 2 ∨ n = 3 by omega) with rfl | rfl | rfl <;> exact lf _ (by simp [leaves])
  | pairs n =>
    intro wi ok
    simp only [Gs.ok] at ok
    rcases (show n = 1 ∨ n = 2 by omega) with rfl | rfl <;> exact lf _ (by simp [leaves])
  | both a b iha ihb =>
    intro wi ok
    simp only [Gs.ok] at ok
    obtain ⟨z, hz, e⟩ := h2 _ (iha _ ok.2.1) _ (ihb _ ok.2.2)
    rw [prof_both, ← e]
    exact hz
theorem uB_in {r : List Int} {S : List (List (List Int))} {bs : List Nat} (hc : clOk r S = true) (ht : tabOk [1, 2, 3, 4] r S bs = true) (hu : tabOk [5, 6, 7, 8] r S bs = true) {h : Hs} (ho : h.ok) (hp : 20 ≤ h.places) {g : Gs} {wi : Nat} (ok : g.ok wi) : uB ((stR h g r).shelf, (stR h g r).way) ∈ bs := by
  have hm := prof_in hc g wi ok
  have hq : ∀ gl ∈ prof g r, ∀ q ∈ gl, q < 20 := by
    unfold clOk at hc
    simp only [Bool.and_eq_true, List.all_eq_true, decide_eq_true_eq] at hc
    exact hc.2.2 _ hm
  rw [stR_prof]
  rw [run_20 hp r _ _ hq]
  unfold tabOk at ht hu
  simp only [List.all_eq_true, List.any_eq_true] at ht hu
  have h1 : h.room ∈ ([1, 2, 3, 4] : List Int) ∨ h.room ∈ ([5, 6, 7, 8] : List Int) := by
    have := ho.r1
    have := ho.r2
    simp only [List.mem_cons, List.not_mem_nil, or_false]
    omega
  have h2 : h.late ∈ ([0, 1, 2, 3, 4] : List Int) := by
    have := ho.l1
    have := ho.l2
    simp only [List.mem_cons, List.not_mem_nil, or_false]
    omega
  have h3 : h.most ∈ ([1, 2, 3, 4] : List Int) := by
    have := ho.w1
    have := ho.w2
    simp only [List.mem_cons, List.not_mem_nil, or_false]
    omega
  obtain ⟨B, hB, e⟩ := h1.elim (fun z => ht _ z _ h2 _ h3 _ hm) fun z => hu _ z _ h2 _ h3 _ hm
  rw [← Nat.eq_of_beq_eq_true e]
  exact hB
end Hu
end
section
set_option Elab.async false
set_option linter.all false
set_option maxRecDepth 100000
set_option maxHeartbeats 0
/-! The tables: what stands on the shelf and the way behind two and three places, by its hash; each row held against them. -/
namespace Hu
open Ln
def b00 : List Nat := [1870286233766978329, 3148679398774945050, 3765535785154354590, 5365427551154101976, 5432606882587388923, 5460388203998916046, 6300455278494611410, 7799930143783426789, 7800248835937968111, 8378387564025712602, 9184971579578109755, 9268260583131081921, 9580690118529407614, 9806224508030448087, 10697373833562243245, 11248745138400395978, 11806065350860909260, 14837898889233169465, 15137481415349984839, 15587233041276957222, 17059358044990051301, 17376437085015468125]
def s00 : List (List (List Int)) := [[[], []], [[1], [1]], [[1, 2], [1, 2]], [[1, 2, 3], [1, 2, 3]]]
theorem c00 : clOk [0, 0] s00 = true := by decide +kernel
theorem t00 : tabOk [1, 2, 3, 4] [0, 0] s00 b00 = true := by decide +kernel
theorem u00 : tabOk [5, 6, 7, 8] [0, 0] s00 b00 = true := by decide +kernel
theorem r00 : rowOk [0, 0] b00 = true := by decide +kernel
def b01 : List Nat := [674262177199877287, 891039398057370240, 1734769372808999861, 2989339299479691443, 3180691910475970616, 4066205664660008562, 4333377629654107719, 4684194702227974839, 4847844547924083201, 5002233772166842264, 5686689530496814855, 5785259667778181931, 7292260305293343502, 7762596246780478514, 8175284492163085831, 8580240836718733010, 9274221478777219961, 9348101948784015319, 11317223655013217021, 11409005037015531760, 11846062441885216392, 11960395805039722966, 12324703797334777360, 13415523556435538224, 13481356313306843242, 13707249347250519690, 13805819484531886766, 14789160005336521716, 15110378959183821620, 15274028804879929982, 15428418029122689045, 15456756447391318258, 16072426085229088222, 16195844308916790666, 17294781295530924796, 17368661765537720154, 17718444562249190283]
def s01 : List (List (List Int)) := [[[], []], [[], [2]], [[1], [2]], [[1, 2], [2, 3]], [[1, 2, 3], [2, 3, 4]]]
theorem c01 : clOk [0, 1] s01 = true := by decide +kernel
theorem t01 : tabOk [1, 2, 3, 4] [0, 1] s01 b01 = true := by decide +kernel
theorem u01 : tabOk [5, 6, 7, 8] [0, 1] s01 b01 = true := by decide +kernel
theorem r01 : rowOk [0, 1] b01 = true := by decide +kernel
def b10 : List Nat := [921097111345163472, 1164070475969372656, 1942337063050113278, 2087629311921400575, 2596421262788019783, 2933991584032314293, 3035301905666185938, 3326202100826739281, 3565867013199743024, 4582620320960976219, 4825593685585185403, 5432606882587388923, 5460388203998916046, 5749152521537213322, 6300455278494611410, 6388410545323380651, 6595514793648127040, 6800320147213964361, 7552853484863392494, 8047286040443588969, 8660898027482118813, 8769441853443166063, 9580690118529407614, 9806224508030448087, 10285695258273284583, 10486512827939225774, 10593585602050694009, 10828181724412028697, 11166753552334779390, 11357074115930568217, 12241378203766470758, 12322421237097931560, 12425061893485942044, 12666195198929674123, 12707181055693643178, 12745123918040738515, 12846423456757456950, 12887977353706548133, 13714913875399655378, 13947218467889097330, 14127602120782262695, 14337986370926088821, 14356481155709890413, 14489704934027841444, 15218001855342131837, 15587233041276957222, 16327718408545486870, 17376437085015468125, 17820522769759924807, 18111422964920478150, 18389922531062459163]
def s10 : List (List (List Int)) := [[[], []], [[2], [1]], [[2, 3], [1, 2]], [[2, 3, 4], [1, 2, 3]]]
theorem c10 : clOk [1, 0] s10 = true := by decide +kernel
theorem t10 : tabOk [1, 2, 3, 4] [1, 0] s10 b10 = true := by decide +kernel
theorem u10 : tabOk [5, 6, 7, 8] [1, 0] s10 b10 = true := by decide +kernel
theorem r10 : rowOk [1, 0] b10 = true := by decide +kernel
def b11 : List Nat := [674262177199877287, 2094968411824412105, 2708580398862941949, 3180691910475970616, 3386975266015838617, 4066205664660008562, 4333377629654107719, 5105275047524759220, 7482302516442400347, 7762596246780478514, 8175284492163085831, 9220533235490259246, 9274221478777219961, 9300273094832107487, 9401486006325247869, 9511433430650812589, 13310892272903240048, 13415523556435538224, 13658496921059747408, 14582055757011775327, 15428418029122689045, 15456756447391318258]
def s11 : List (List (List Int)) := [[[], []], [[2], [2]], [[2, 3], [2, 3]], [[2, 3, 4], [2, 3, 4]]]
theorem c11 : clOk [1, 1] s11 = true := by decide +kernel
theorem t11 : tabOk [1, 2, 3, 4] [1, 1] s11 b11 = true := by decide +kernel
theorem u11 : tabOk [5, 6, 7, 8] [1, 1] s11 b11 = true := by decide +kernel
theorem r11 : rowOk [1, 1] b11 = true := by decide +kernel
def b000 : List Nat := [3148679398774945050, 3765535785154354590, 3825025265615788579, 4393622504527008820, 5365427551154101976, 5432606882587388923, 5460388203998916046, 6300455278494611410, 7799930143783426789, 7800248835937968111, 8378387564025712602, 9184971579578109755, 9198996699849966883, 9268260583131081921, 9580690118529407614, 9597659824960717072, 9806224508030448087, 11248745138400395978, 11646590725533876087, 12239535362657146705, 13553588815454214624, 14837898889233169465, 15137481415349984839, 15587233041276957222, 17059358044990051301, 17376437085015468125]
def s000 : List (List (List Int)) := [[[], [], []], [[1], [1], [1]], [[1, 2], [1, 2], [1, 2]], [[1, 2, 3], [1, 2, 3], [1, 2, 3]]]
theorem c000 : clOk [0, 0, 0] s000 = true := by decide +kernel
theorem t000 : tabOk [1, 2, 3, 4] [0, 0, 0] s000 b000 = true := by decide +kernel
theorem u000 : tabOk [5, 6, 7, 8] [0, 0, 0] s000 b000 = true := by decide +kernel
theorem r000 : rowOk [0, 0, 0] b000 = true := by decide +kernel
def b001 : List Nat := [991019216464253866, 1734769372808999861, 1738637264771176794, 1756842358243723966, 2094968411824412105, 2586953232833133202, 2612208947781938364, 2708580398862941949, 2989339299479691443, 3180691910475970616, 4066205664660008562, 4107862884511562926, 4333377629654107719, 4557825025853984408, 4721474871550092770, 5002233772166842264, 5612268641092079348, 5686689530496814855, 6565110566508284809, 6690706987995260272, 7280245854250533525, 7311523234956994550, 7762596246780478514, 8144172935016973454, 8175284492163085831, 9011579033217958701, 9274221478777219961, 9490324631043613868, 9861897041857345713, 12057506761074596592, 12128422701265267761, 12353937446407812554, 12578384842607689243, 12742034688303797605, 13038393204737785145, 13415523556435538224, 13481356313306843242, 13707249347250519690, 14171999808988452107, 14933238351430917454, 15428418029122689045, 15456756447391318258, 16072426085229088222, 16195844308916790666, 17294781295530924796]
def s001 : List (List (List Int)) := [[[], [], []], [[], [], [2]], [[1], [1], [2]], [[1, 2], [1, 2], [2, 3]], [[1, 2, 3], [1, 2, 3], [2, 3, 4]]]
theorem c001 : clOk [0, 0, 1] s001 = true := by decide +kernel
theorem t001 : tabOk [1, 2, 3, 4] [0, 0, 1] s001 b001 = true := by decide +kernel
theorem u001 : tabOk [5, 6, 7, 8] [0, 0, 1] s001 b001 = true := by decide +kernel
theorem r001 : rowOk [0, 0, 1] b001 = true := by decide +kernel
def b010 : List Nat := [93569076459269079, 921097111345163472, 1234116935875686758, 1870286233766978329, 1993283663330790014, 2042768186420999849, 2596421262788019783, 2933991584032314293, 3565867013199743024, 3802512182987163501, 3973010366655659693, 4008036008642911414, 4582620320960976219, 4892140528442308167, 5432606882587388923, 5460388203998916046, 6300455278494611410, 6388410545323380651, 6511998648584205039, 6527436562103475457, 6595514793648127040, 6800320147213964361, 7339219913412990667, 7800248835937968111, 8769441853443166063, 8925147629359748312, 9067423564269449818, 9472310472495263320, 9580690118529407614, 9806224508030448087, 9813143308625118932, 9979152385522992569, 10143787227066888548, 10173521858200017786, 10828181724412028697, 10902062194418824055, 11166753552334779390, 11752604277819386316, 12241378203766470758, 12871183900648025757, 12887977353706548133, 13714913875399655378, 14003524549828626342, 14099190792243607297, 14127235621465011260, 14127602120782262695, 14331685737238068551, 14489704934027841444, 14515627827845006504, 14563585404034636802, 14906735523433435726, 15218001855342131837, 15770428513765070879, 16398014007837819216, 16532707110263838504, 16664339204818630356, 16827989050514738718, 17059358044990051301, 17167188093936757072, 17376437085015468125, 17586472382513399389, 18046772411663660239]
def s010 : List (List (List Int)) := [[[], [], []], [[], [], [1]], [[], [2], []], [[], [2], [1]], [[1], [2], [1]], [[1, 2], [2, 3], [1, 2]], [[1, 2, 3], [2, 3, 4], [1, 2, 3]]]
theorem c010 : clOk [0, 1, 0] s010 = true := by decide +kernel
theorem t010 : tabOk [1, 2, 3, 4] [0, 1, 0] s010 b010 = true := by decide +kernel
theorem u010 : tabOk [5, 6, 7, 8] [0, 1, 0] s010 b010 = true := by decide +kernel
theorem r010 : rowOk [0, 1, 0] b010 = true := by decide +kernel
def b011 : List Nat := [674262177199877287, 891039398057370240, 1401570678020483497, 1734769372808999861, 2551021467989548188, 2989339299479691443, 3180691910475970616, 3386975266015838617, 3388276558228538840, 4066205664660008562, 4333377629654107719, 4684194702227974839, 4847844547924083201, 5002233772166842264, 5105275047524759220, 5785259667778181931, 6123593338278467643, 7482302516442400347, 7762596246780478514, 8175284492163085831, 8580240836718733010, 9274221478777219961, 9300273094832107487, 9348101948784015319, 9378228452474483444, 9401486006325247869, 11317223655013217021, 11846062441885216392, 11960395805039722966, 12471899348032734072, 12554908209028123288, 13310892272903240048, 13415523556435538224, 13481356313306843242, 13805819484531886766, 15110378959183821620, 15274028804879929982, 15428418029122689045, 16195844308916790666, 17294781295530924796, 17330828629651556449, 17368661765537720154]
def s011 : List (List (List Int)) := [[[], [], []], [[], [2], []], [[1], [2], [2]], [[1, 2], [2, 3], [2, 3]], [[1, 2, 3], [2, 3, 4], [2, 3, 4]]]
theorem c011 : clOk [0, 1, 1] s011 = true := by decide +kernel
theorem t011 : tabOk [1, 2, 3, 4] [0, 1, 1] s011 b011 = true := by decide +kernel
theorem u011 : tabOk [5, 6, 7, 8] [0, 1, 1] s011 b011 = true := by decide +kernel
theorem r011 : rowOk [0, 1, 1] b011 = true := by decide +kernel
def b100 : List Nat := [921097111345163472, 1164070475969372656, 1231451356735993642, 1844176768517542052, 1942337063050113278, 2596421262788019783, 2933991584032314293, 3148679398774945050, 3326202100826739281, 3825025265615788579, 4393622504527008820, 4582620320960976219, 4825593685585185403, 5432606882587388923, 5460388203998916046, 6300455278494611410, 6388410545323380651, 6483866373226539580, 6595514793648127040, 6800320147213964361, 7238397106949793355, 7552853484863392494, 8047286040443588969, 8378387564025712602, 8660898027482118813, 8769441853443166063, 9184971579578109755, 9580690118529407614, 9806224508030448087, 10285695258273284583, 10486512827939225774, 10593585602050694009, 10874489697379544265, 11248745138400395978, 11357074115930568217, 12239535362657146705, 12322421237097931560, 12666195198929674123, 12846423456757456950, 12887977353706548133, 13553588815454214624, 13714913875399655378, 13947218467889097330, 14062644471409228752, 14127602120782262695, 14337986370926088821, 14356481155709890413, 14837898889233169465, 15137481415349984839, 15266307496109342299, 15587233041276957222, 16327718408545486870, 17059358044990051301, 17376437085015468125, 18111422964920478150, 18389922531062459163]
def s100 : List (List (List Int)) := [[[], [], []], [[2], [1], [1]], [[2, 3], [1, 2], [1, 2]], [[2, 3, 4], [1, 2, 3], [1, 2, 3]]]
theorem c100 : clOk [1, 0, 0] s100 = true := by decide +kernel
theorem t100 : tabOk [1, 2, 3, 4] [1, 0, 0] s100 b100 = true := by decide +kernel
theorem u100 : tabOk [5, 6, 7, 8] [1, 0, 0] s100 b100 = true := by decide +kernel
theorem r100 : rowOk [1, 0, 0] b100 = true := by decide +kernel
def b101 : List Nat := [263694487599877912, 490491779739718204, 686050696339018606, 1136984950963069356, 1394235122368542179, 1734769372808999861, 1738637264771176794, 2094968411824412105, 2551021467989548188, 2586953232833133202, 2708580398862941949, 2989339299479691443, 3180691910475970616, 3232312664103900627, 3388276558228538840, 4066205664660008562, 4074984364490007826, 4114122677700414968, 4161246942052795476, 4333377629654107719, 4370282099321789082, 4642766404430621607, 4675832419787361152, 4675840533441835874, 5002233772166842264, 5105275047524759220, 5192765490378243049, 5221620451658614781, 5243893298612704733, 5612268641092079348, 5686689530496814855, 5764258883716540318, 5766342989344225454, 5866283985481233841, 6038787805862479738, 6131278462329822633, 6278205227909287164, 6386971617148656058, 6491549751337619270, 6565110566508284809, 6602940196201431934, 6644688330085187288, 6690706987995260272, 6727597688064982934, 6920061953899429198, 6955966350866447135, 7096641679485257750, 7115716481677309341, 7280245854250533525, 7311523234956994550, 7592284593757675069, 7762596246780478514, 8175284492163085831, 8454680652629070752, 8504444224024770091, 8657582802772338109, 8847511589881217655, 9109536152172408571, 9274221478777219961, 9300273094832107487, 9335050897314953364, 9511433430650812589, 9640474638125911898, 9861897041857345713, 10115528228578116940, 10256612553116290580, 10292242778019577519, 10486387402633469103, 10753584438893649871, 11347945370002104185, 11978855327713837401, 12324703797334777360, 12353937446407812554, 12509741395472325401, 12550069409739378591, 12554908209028123288, 12656967578965618952, 13310892272903240048, 13348623021354014480, 13415523556435538224, 13430506265861007860, 13597501280891463284, 13658496921059747408, 13707249347250519690, 14291483119390326075, 14313384041403232514, 14375267360474539555, 14707256128223307643, 14763982141261233128, 14867014884549988454, 14933238351430917454, 15127497598601014912, 15428418029122689045, 15443400738548158681, 15456756447391318258, 15956688624419383143, 16072426085229088222, 16081204785059087486, 16195844308916790666, 16279914654193550526, 16865923250621681723, 17130990820100150883, 17155494129531269146, 17294781295530924796, 17352106326374143533, 17483440880702726967, 17579077419191910555]
def s101 : List (List (List Int)) := [[[], [], []], [[], [], [0]], [[], [], [0, 2]], [[], [], [2]], [[], [], [2, 0]], [[2], [1], [0, 2]], [[2], [1], [2]], [[2], [1], [2, 0]], [[2, 3], [1, 2], [0, 2, 3]], [[2, 3], [1, 2], [2, 0, 3]], [[2, 3], [1, 2], [2, 3]], [[2, 3], [1, 2], [2, 3, 0]], [[2, 3, 4], [1, 2, 3], [0, 2, 3, 4]], [[2, 3, 4], [1, 2, 3], [2, 0, 3, 4]], [[2, 3, 4], [1, 2, 3], [2, 3, 0, 4]], [[2, 3, 4], [1, 2, 3], [2, 3, 4]], [[2, 3, 4], [1, 2, 3], [2, 3, 4, 0]]]
theorem c101 : clOk [1, 0, 1] s101 = true := by decide +kernel
theorem t101 : tabOk [1, 2, 3, 4] [1, 0, 1] s101 b101 = true := by decide +kernel
theorem u101 : tabOk [5, 6, 7, 8] [1, 0, 1] s101 b101 = true := by decide +kernel
theorem r101 : rowOk [1, 0, 1] b101 = true := by decide +kernel
def b110 : List Nat := [93569076459269079, 150282705677653936, 921097111345163472, 1164070475969372656, 1231451356735993642, 1558710341173090121, 1942337063050113278, 2933991584032314293, 3326202100826739281, 3905039256038243103, 4393622504527008820, 4582620320960976219, 4825593685585185403, 5432606882587388923, 5460388203998916046, 6300455278494611410, 6388410545323380651, 6483866373226539580, 6527436562103475457, 6595514793648127040, 7682505323743180959, 8047286040443588969, 8378387564025712602, 8660898027482118813, 8976546101767912452, 9067423564269449818, 9580690118529407614, 9806224508030448087, 10143787227066888548, 10285695258273284583, 10490611403167734187, 10874489697379544265, 11166753552334779390, 11306635838321978081, 11357074115930568217, 11652407428637955403, 12139675636788346708, 12239535362657146705, 12271072330117669370, 12322421237097931560, 12666195198929674123, 12887977353706548133, 13053527705082203339, 13553588815454214624, 13714913875399655378, 13947218467889097330, 14003524549828626342, 14127602120782262695, 14151054198998928761, 14356481155709890413, 14586066771713788683, 15137481415349984839, 15266307496109342299, 16143776595288493253, 16327718408545486870, 16333284653495779153, 17059358044990051301, 17376437085015468125, 17586472382513399389, 18111422964920478150]
def s110 : List (List (List Int)) := [[[], [], []], [[2], [2], [1]], [[2, 3], [2, 3], [1, 2]], [[2, 3, 4], [2, 3, 4], [1, 2, 3]]]
theorem c110 : clOk [1, 1, 0] s110 = true := by decide +kernel
theorem t110 : tabOk [1, 2, 3, 4] [1, 1, 0] s110 b110 = true := by decide +kernel
theorem u110 : tabOk [5, 6, 7, 8] [1, 1, 0] s110 b110 = true := by decide +kernel
theorem r110 : rowOk [1, 1, 0] b110 = true := by decide +kernel
def b111 : List Nat := [674262177199877287, 2094968411824412105, 2708580398862941949, 3180691910475970616, 3386975266015838617, 4066205664660008562, 4161246942052795476, 4333377629654107719, 5105275047524759220, 5192765490378243049, 5243893298612704733, 5612268641092079348, 7280245854250533525, 7482302516442400347, 7762596246780478514, 8175284492163085831, 9300273094832107487, 9401486006325247869, 9511433430650812589, 9861897041857345713, 13310892272903240048, 13415523556435538224, 13658496921059747408, 15428418029122689045, 15456756447391318258, 18300185852611949161]
def s111 : List (List (List Int)) := [[[], [], []], [[2], [2], [2]], [[2, 3], [2, 3], [2, 3]], [[2, 3, 4], [2, 3, 4], [2, 3, 4]]]
theorem c111 : clOk [1, 1, 1] s111 = true := by decide +kernel
theorem t111 : tabOk [1, 2, 3, 4] [1, 1, 1] s111 b111 = true := by decide +kernel
theorem u111 : tabOk [5, 6, 7, 8] [1, 1, 1] s111 b111 = true := by decide +kernel
theorem r111 : rowOk [1, 1, 1] b111 = true := by decide +kernel
end Hu
end
section
set_option Elab.async false
set_option linter.all false
set_option maxRecDepth 100000
set_option maxHeartbeats 0
/-! No two keys of one level have one hash. -/
namespace Hu
open Ln
theorem p00_01 : pairOk [0, 0] [0, 1] b00 b01 = true := by decide +kernel
theorem p00_10 : pairOk [0, 0] [1, 0] b00 b10 = true := by decide +kernel
theorem p00_11 : pairOk [0, 0] [1, 1] b00 b11 = true := by decide +kernel
theorem p01_10 : pairOk [0, 1] [1, 0] b01 b10 = true := by decide +kernel
theorem p01_11 : pairOk [0, 1] [1, 1] b01 b11 = true := by decide +kernel
theorem p10_11 : pairOk [1, 0] [1, 1] b10 b11 = true := by decide +kernel
theorem p000_001 : pairOk [0, 0, 0] [0, 0, 1] b000 b001 = true := by decide +kernel
theorem p000_010 : pairOk [0, 0, 0] [0, 1, 0] b000 b010 = true := by decide +kernel
theorem p000_011 : pairOk [0, 0, 0] [0, 1, 1] b000 b011 = true := by decide +kernel
theorem p000_100 : pairOk [0, 0, 0] [1, 0, 0] b000 b100 = true := by decide +kernel
theorem p000_101 : pairOk [0, 0, 0] [1, 0, 1] b000 b101 = true := by decide +kernel
theorem p000_110 : pairOk [0, 0, 0] [1, 1, 0] b000 b110 = true := by decide +kernel
theorem p000_111 : pairOk [0, 0, 0] [1, 1, 1] b000 b111 = true := by decide +kernel
theorem p001_010 : pairOk [0, 0, 1] [0, 1, 0] b001 b010 = true := by decide +kernel
theorem p001_011 : pairOk [0, 0, 1] [0, 1, 1] b001 b011 = true := by decide +kernel
theorem p001_100 : pairOk [0, 0, 1] [1, 0, 0] b001 b100 = true := by decide +kernel
theorem p001_101 : pairOk [0, 0, 1] [1, 0, 1] b001 b101 = true := by decide +kernel
theorem p001_110 : pairOk [0, 0, 1] [1, 1, 0] b001 b110 = true := by decide +kernel
theorem p001_111 : pairOk [0, 0, 1] [1, 1, 1] b001 b111 = true := by decide +kernel
theorem p010_011 : pairOk [0, 1, 0] [0, 1, 1] b010 b011 = true := by decide +kernel
theorem p010_100 : pairOk [0, 1, 0] [1, 0, 0] b010 b100 = true := by decide +kernel
theorem p010_101 : pairOk [0, 1, 0] [1, 0, 1] b010 b101 = true := by decide +kernel
theorem p010_110 : pairOk [0, 1, 0] [1, 1, 0] b010 b110 = true := by decide +kernel
theorem p010_111 : pairOk [0, 1, 0] [1, 1, 1] b010 b111 = true := by decide +kernel
theorem p011_100 : pairOk [0, 1, 1] [1, 0, 0] b011 b100 = true := by decide +kernel
theorem p011_101 : pairOk [0, 1, 1] [1, 0, 1] b011 b101 = true := by decide +kernel
theorem p011_110 : pairOk [0, 1, 1] [1, 1, 0] b011 b110 = true := by decide +kernel
theorem p011_111 : pairOk [0, 1, 1] [1, 1, 1] b011 b111 = true := by decide +kernel
theorem p100_101 : pairOk [1, 0, 0] [1, 0, 1] b100 b101 = true := by decide +kernel
theorem p100_110 : pairOk [1, 0, 0] [1, 1, 0] b100 b110 = true := by decide +kernel
theorem p100_111 : pairOk [1, 0, 0] [1, 1, 1] b100 b111 = true := by decide +kernel
theorem p101_110 : pairOk [1, 0, 1] [1, 1, 0] b101 b110 = true := by decide +kernel
theorem p101_111 : pairOk [1, 0, 1] [1, 1, 1] b101 b111 = true := by decide +kernel
theorem p110_111 : pairOk [1, 1, 0] [1, 1, 1] b110 b111 = true := by decide +kernel
end Hu
end
section
set_option Elab.async false
set_option linter.all false
set_option maxRecDepth 100000
set_option maxHeartbeats 4000000
/-! The fourth call's keys: no two of one level have one hash, where they are deep. -/
namespace Hu
open PySem Mi W Ln Nd DL Ml
/-! ### sorts of knowledge -/
def kR (g : Gs) (r : List Int) : Kn := knA g (first g) r
theorem tK_eq (r : List Int) (i : Nat) : tK r i = uK (kR (kG i) r) := rfl
theorem knA_cons (g : Gs) (k : Kn) (p : Int) (r : List Int) : knA g k (p :: r) = knA g (adv g k p).1 r := rfl
theorem knA_still {g : Gs} (h : ∀ k p, (adv g k p).1 = k) : ∀ (r : List Int) (k : Kn), knA g k r = k
  | [], _ => rfl
  | p :: r, k => by rw [knA_cons, h]; exact knA_still h r k
theorem knA_like {g o : Gs} (h : ∀ k p, (adv g k p).1 = (adv o k p).1) : ∀ (r : List Int) (k : Kn), knA g k r = knA o k r
  | [], _ => rfl
  | p :: r, k => by rw [knA_cons, knA_cons, h]; exact knA_like h r _
theorem adv_next (n : Nat) (k : Kn) (p : Int) : (adv (.next n) k p).1 = k := by cases k <;> rfl
theorem adv_stride (n : Nat) (k : Kn) (p : Int) : (adv (.stride n) k p).1 = (adv (.stride 1) k p).1 := by
  cases k with
  | str l f t => cases l <;> rfl
  | prs l kn => rfl
  | both a b => rfl
theorem kR_stride (n : Nat) : ∀ (r : List Int) (l : Option Int) (f t : Int), ∃ l' f' t', knA (.stride n) (.str l f t) r = .str l' f' t'
  | [], l, f, t => ⟨l, f, t, rfl⟩
  | p :: r, l, f, t => by
    rw [knA_cons]
    cases l with
    | none => exact kR_stride n r _ _ _
    | some q => exact kR_stride n r _ _ _
theorem kR_pairs (n : Nat) : ∀ (r : List Int) (l : Option Int) (kn : List (Int × List Int)), ∃ l' kn', knA (.pairs n) (.prs l kn) r = .prs l' kn'
  | [], l, kn => ⟨l, kn, rfl⟩
  | p :: r, l, kn => by
    rw [knA_cons]
    exact kR_pairs n r _ _
theorem knA_both (a b : Gs) : ∀ (r : List Int) (x y : Kn), knA (.both a b) (.both x y) r = .both (knA a x r) (knA b y r)
  | [], _, _ => rfl
  | p :: r, x, y => by
    rw [knA_cons, adv_both]
    exact knA_both a b r _ _
theorem kR_both (a b : Gs) (r : List Int) : kR (.both a b) r = .both (kR a r) (kR b r) := knA_both a b r _ _
theorem leaf_hgt : ∀ (i : Nat), i < 4 → ∀ r, hgt (kR (leafG i) r) = 0
  | 0, _, r => by
    show hgt (knA .none (.prs none []) r) = 0
    rw [knA_still (fun k p => by rw [adv_none]) r]
    rfl
  | 1, _, r => by
    obtain ⟨l, f, t, e⟩ := kR_stride 1 r none 0 0
    show hgt (knA (.stride 1) (.str none 0 0) r) = 0
    rw [e]; rfl
  | 2, _, r => by
    obtain ⟨l, kn, e⟩ := kR_pairs 1 r none []
    show hgt (knA (.pairs 1) (.prs none []) r) = 0
    rw [e]; rfl
  | 3, _, r => by
    obtain ⟨l, kn, e⟩ := kR_pairs 2 r none []
    show hgt (knA (.pairs 2) (.prs none []) r) = 0
    rw [e]; rfl
  | n + 4, h, _ => by omega
theorem leaf_young : ∀ (i : Nat), i < 2 → ∀ r, young (kR (leafG i) r)
  | 0, _, r => by
    show young (knA .none (.prs none []) r)
    rw [knA_still (fun k p => by rw [adv_none]) r]
    rfl
  | 1, _, r => by
    obtain ⟨l, f, t, e⟩ := kR_stride 1 r none 0 0
    show young (knA (.stride 1) (.str none 0 0) r)
    rw [e]; trivial
  | n + 2, h, _ => by omega
theorem leaf_of {x : Gs} (ok : x.ok 3) : ∃ i, i < 4 ∧ ∀ r, kR x r = kR (leafG i) r := by
  cases x with
  | none => exact ⟨0, by decide, fun r => rfl⟩
  | next n => exact ⟨0, by decide, fun r => by
      show knA (.next n) (.prs none []) r = knA .none (.prs none []) r
      rw [knA_still (adv_next n) r, knA_still (fun k p => by rw [adv_none]) r]⟩
  | stride n => exact ⟨1, by decide, fun r => knA_like (adv_stride n) r _⟩
  | pairs n =>
    simp only [Gs.ok] at ok
    rcases (show n = 1 ∨ n = 2 by omega) with rfl | rfl
    · exact ⟨2, by decide, fun r => rfl⟩
    · exact ⟨3, by decide, fun r => rfl⟩
  | both a b =>
    simp only [Gs.ok] at ok
    exfalso
    have h1 := ght_ok a 4 ok.2.1
    omega
structure Kind (a : Gs) (i : Nat) : Prop where
  lt : i < 20
  kn : ∀ r, uK (kR a r) = tK r i
  dp : deep1 i = false → ∀ r, (nk (kR a r).enc).depth ≤ 4
theorem kG_leaf : ∀ i, i < 4 → kG i = leafG i ∧ deep1 i = false := by decide
theorem kG_both : ∀ i, i < 4 → ∀ j, j < 4 → kG (4 + 4 * i + j) = .both (leafG i) (leafG j) ∧ (deep1 (4 + 4 * i + j) = false → i < 2 ∧ j < 2) := by decide
theorem kind_of {a : Gs} (ok : a.ok 2) : ∃ i, Kind a i := by
  have leaf : a.ok 3 → ∃ i, Kind a i := fun ok3 => by
    obtain ⟨i, hi, e⟩ := leaf_of ok3
    refine ⟨i, by omega, fun r => by rw [e, tK_eq, (kG_leaf i hi).1], fun _ r => ?_⟩
    rw [e]
    have := (dep_K (kR (leafG i) r)).1
    rw [leaf_hgt i hi] at this
    exact this
  cases a with
  | none => exact leaf (by simp [Gs.ok])
  | next n => exact leaf (by simp only [Gs.ok] at *; omega)
  | stride n => exact leaf (by simp only [Gs.ok] at *; omega)
  | pairs n => exact leaf (by simp only [Gs.ok] at *; omega)
  | both x y =>
    simp only [Gs.ok] at ok
    obtain ⟨i, hi, e1⟩ := leaf_of ok.2.1
    obtain ⟨j, hj, e2⟩ := leaf_of ok.2.2
    obtain ⟨k1, k2⟩ := kG_both i hi j hj
    refine ⟨4 + 4 * i + j, by omega, fun r => by rw [kR_both, e1, e2, tK_eq, k1, kR_both], fun d r => ?_⟩
    obtain ⟨h1, h2⟩ := k2 d
    rw [kR_both, e1, e2]
    have := (dep_K (.both (kR (leafG i) r) (kR (leafG j) r))).2 ⟨leaf_young i h1 r, leaf_young j h2 r⟩
    simp only [hgt, leaf_hgt i hi, leaf_hgt j hj] at this
    omega
/-! ### the key -/
section
variable {w : World} {h : Hs} {a b c : Gs} {i j k : Nat} {r r' : List Int} {bs bs' : List Nat}
theorem stR_g (h : Hs) (a b c : Gs) (r : List Int) : ∃ sh wy, stR h (.both (.both a b) c) r = ⟨sh, wy, .both (.both (kR a r) (kR b r)) (kR c r)⟩ ∧ stR h (.both a (.both b c)) r = ⟨sh, wy, .both (kR a r) (.both (kR b r) (kR c r))⟩ := by
  have m := (al_assoc a b c).row (h := h) r
  have e1 := stR_prof h (.both (.both a b) c) r
  have e2 := stR_prof h (.both a (.both b c)) r
  rw [show knA (.both (.both a b) c) (first (.both (.both a b) c)) r = kR (.both (.both a b) c) r from rfl, kR_both, kR_both] at e1
  rw [show knA (.both a (.both b c)) (first (.both a (.both b c))) r = kR (.both a (.both b c)) r from rfl, kR_both, kR_both] at e2
  have hs := m.sh
  have hw := m.wy
  rw [e1, e2] at hs hw
  dsimp only at hs hw
  exact ⟨_, _, e1, by rw [e2, ← hs, ← hw]⟩
theorem key_un (ka : Kind a i) (kb : Kind b j) (kc : Kind c k) (r : List Int) : un ((keyR h (.both (.both a b) c) (.both a (.both b c)) r).hash w) = keyN r (uB ((stR h (.both (.both a b) c) r).shelf, (stR h (.both (.both a b) c) r).way)) i j k := by
  obtain ⟨sh, wy, e1, e2⟩ := stR_g h a b c r
  unfold keyR pairR
  rw [un_P, e1, e2]
  dsimp only
  rw [key_eq]
  unfold keyN k1N k2N tP
  rw [ka.kn, kb.kn, kc.kn]
structure RowD (r : List Int) (bs : List Nat) : Prop where
  inn : ∀ {h : Hs}, h.ok → 20 ≤ h.places → ∀ (g : Gs) (wi : Nat), g.ok wi → uB ((stR h g r).shelf, (stR h g r).way) ∈ bs
  row : rowOk r bs = true
theorem key_ne (D : RowD r bs) (D' : RowD r' bs') (p : pairOk r r' bs bs' = true) (ho : h.ok) (hp : 20 ≤ h.places) (okg : (Gs.both (.both a b) c).ok 0) (ka : Kind a i) (kb : Kind b j) (kc : Kind c k) (dp : deep i j k = true) :
    (keyR h (.both (.both a b) c) (.both a (.both b c)) r).hash w ≠ (keyR h (.both (.both a b) c) (.both a (.both b c)) r').hash w := by
  intro e
  have e1 := congrArg un e
  rw [key_un ka kb kc, key_un ka kb kc] at e1
  exact ok_pair D.row D'.row p (D.inn ho hp _ 0 okg) (D'.inn ho hp _ 0 okg) ka.lt kb.lt kc.lt dp e1
theorem key_flat (ka : Kind a i) (kb : Kind b j) (kc : Kind c k) (dp : deep i j k = false) (r : List Int) : (keyR h (.both (.both a b) c) (.both a (.both b c)) r).depth ≤ 8 := by
  obtain ⟨sh, wy, e1, e2⟩ := stR_g h a b c r
  unfold deep at dp
  simp only [Bool.or_eq_false_iff] at dp
  have d1 := ka.dp dp.1.1 r
  have d2 := kb.dp dp.1.2 r
  have d3 := kc.dp dp.2 r
  have h3 : (keyR h (.both (.both a b) c) (.both a (.both b c)) r).depth ≤ max 2 (max (nk (stR h (.both (.both a b) c) r).kn.enc).depth (nk (stR h (.both a (.both b c)) r).kn.enc).depth) + 2 := dep_P (pairR h _ _ r)
  rw [e1, e2] at h3
  have f1 : (nk (Kn.both (.both (kR a r) (kR b r)) (kR c r)).enc).depth = max (max (nk (kR a r).enc).depth (max (nk (kR b r).enc).depth 0) + 1) (max (nk (kR c r).enc).depth 0) + 1 := rfl
  have f2 : (nk (Kn.both (kR a r) (.both (kR b r) (kR c r))).enc).depth = max (nk (kR a r).enc).depth (max (max (nk (kR b r).enc).depth (max (nk (kR c r).enc).depth 0) + 1) 0) + 1 := rfl
  rw [f1, f2] at h3
  omega
end
theorem bit {x : Int} (h : 0 ≤ x ∧ x < ((2 : Nat) : Int)) : x = 0 ∨ x = 1 := by omega
theorem rows2 {r : List Int} (h : okRow ((2 : Nat) : Int) 2 r) : r = [0, 0] ∨ r = [0, 1] ∨ r = [1, 0] ∨ r = [1, 1] := by
  obtain ⟨hl, hx⟩ := h
  match r, hl with
  | [x, y], _ =>
    have h1 := bit (hx x (by simp))
    have h2 := bit (hx y (by simp))
    rcases h1 with rfl | rfl <;> rcases h2 with rfl | rfl <;> simp
theorem rows3 {r : List Int} (h : okRow ((2 : Nat) : Int) 3 r) : r = [0, 0, 0] ∨ r = [0, 0, 1] ∨ r = [0, 1, 0] ∨ r = [0, 1, 1] ∨ r = [1, 0, 0] ∨ r = [1, 0, 1] ∨ r = [1, 1, 0] ∨ r = [1, 1, 1] := by
  obtain ⟨hl, hx⟩ := h
  match r, hl with
  | [x, y, z], _ =>
    have h1 := bit (hx x (by simp))
    have h2 := bit (hx y (by simp))
    have h3 := bit (hx z (by simp))
    rcases h1 with rfl | rfl <;> rcases h2 with rfl | rfl <;> rcases h3 with rfl | rfl <;> simp
theorem rows_one {n : Nat} {r r' : List Int} (h : okRow ((1 : Nat) : Int) n r) (h' : okRow ((1 : Nat) : Int) n r') : r = r' := by
  have z : ∀ (n : Nat) (r : List Int), okRow ((1 : Nat) : Int) n r → r = List.replicate n 0 := by
    intro n
    induction n with
    | zero =>
      intro r h
      exact List.length_eq_zero_iff.mp h.1
    | succ n ih =>
      intro r h
      cases r with
      | nil => exact absurd h.1 (by simp)
      | cons x r =>
        have hx := h.2 x List.mem_cons_self
        rw [List.replicate_succ, ih r ⟨by simpa using h.1, fun y hy => h.2 y (List.mem_cons_of_mem _ hy)⟩]
        congr 1
        omega
  rw [z n r h, z n r' h']
theorem d00 : RowD [0, 0] b00 := ⟨fun ho hp g wi ok => uB_in c00 t00 u00 ho hp ok, r00⟩
theorem d01 : RowD [0, 1] b01 := ⟨fun ho hp g wi ok => uB_in c01 t01 u01 ho hp ok, r01⟩
theorem d10 : RowD [1, 0] b10 := ⟨fun ho hp g wi ok => uB_in c10 t10 u10 ho hp ok, r10⟩
theorem d11 : RowD [1, 1] b11 := ⟨fun ho hp g wi ok => uB_in c11 t11 u11 ho hp ok, r11⟩
theorem d000 : RowD [0, 0, 0] b000 := ⟨fun ho hp g wi ok => uB_in c000 t000 u000 ho hp ok, r000⟩
theorem d001 : RowD [0, 0, 1] b001 := ⟨fun ho hp g wi ok => uB_in c001 t001 u001 ho hp ok, r001⟩
theorem d010 : RowD [0, 1, 0] b010 := ⟨fun ho hp g wi ok => uB_in c010 t010 u010 ho hp ok, r010⟩
theorem d011 : RowD [0, 1, 1] b011 := ⟨fun ho hp g wi ok => uB_in c011 t011 u011 ho hp ok, r011⟩
theorem d100 : RowD [1, 0, 0] b100 := ⟨fun ho hp g wi ok => uB_in c100 t100 u100 ho hp ok, r100⟩
theorem d101 : RowD [1, 0, 1] b101 := ⟨fun ho hp g wi ok => uB_in c101 t101 u101 ho hp ok, r101⟩
theorem d110 : RowD [1, 1, 0] b110 := ⟨fun ho hp g wi ok => uB_in c110 t110 u110 ho hp ok, r110⟩
theorem d111 : RowD [1, 1, 1] b111 := ⟨fun ho hp g wi ok => uB_in c111 t111 u111 ho hp ok, r111⟩
section
variable {w : World} {h : Hs} {a b c : Gs} {i j k : Nat} {r r' : List Int}
theorem two_ok (ho : h.ok) (hp : 20 ≤ h.places) (ok : (Gs.both (.both a b) c).ok 0) (ka : Kind a i) (kb : Kind b j) (kc : Kind c k) (d : deep i j k = true) (hr : okRow ((2 : Nat) : Int) 2 r) (hr' : okRow ((2 : Nat) : Int) 2 r')
    (e : (keyR h (.both (.both a b) c) (.both a (.both b c)) r).hash w = (keyR h (.both (.both a b) c) (.both a (.both b c)) r').hash w) : keyR h (.both (.both a b) c) (.both a (.both b c)) r = keyR h (.both (.both a b) c) (.both a (.both b c)) r' := by
  rcases rows2 hr with rfl | rfl | rfl | rfl <;> rcases rows2 hr' with rfl | rfl | rfl | rfl
  · rfl
  · exact absurd e (key_ne d00 d01 p00_01 ho hp ok ka kb kc d)
  · exact absurd e (key_ne d00 d10 p00_10 ho hp ok ka kb kc d)
  · exact absurd e (key_ne d00 d11 p00_11 ho hp ok ka kb kc d)
  · exact absurd e.symm (key_ne d00 d01 p00_01 ho hp ok ka kb kc d)
  · rfl
  · exact absurd e (key_ne d01 d10 p01_10 ho hp ok ka kb kc d)
  · exact absurd e (key_ne d01 d11 p01_11 ho hp ok ka kb kc d)
  · exact absurd e.symm (key_ne d00 d10 p00_10 ho hp ok ka kb kc d)
  · exact absurd e.symm (key_ne d01 d10 p01_10 ho hp ok ka kb kc d)
  · rfl
  · exact absurd e (key_ne d10 d11 p10_11 ho hp ok ka kb kc d)
  · exact absurd e.symm (key_ne d00 d11 p00_11 ho hp ok ka kb kc d)
  · exact absurd e.symm (key_ne d01 d11 p01_11 ho hp ok ka kb kc d)
  · exact absurd e.symm (key_ne d10 d11 p10_11 ho hp ok ka kb kc d)
  · rfl
end
section
variable {w : World} {h : Hs} {a b c : Gs} {i j k : Nat} {r r' : List Int}
theorem three_ok (ho : h.ok) (hp : 20 ≤ h.places) (ok : (Gs.both (.both a b) c).ok 0) (ka : Kind a i) (kb : Kind b j) (kc : Kind c k) (d : deep i j k = true) (hr : okRow ((2 : Nat) : Int) 3 r) (hr' : okRow ((2 : Nat) : Int) 3 r')
    (e : (keyR h (.both (.both a b) c) (.both a (.both b c)) r).hash w = (keyR h (.both (.both a b) c) (.both a (.both b c)) r').hash w) : keyR h (.both (.both a b) c) (.both a (.both b c)) r = keyR h (.both (.both a b) c) (.both a (.both b c)) r' := by
  rcases rows3 hr with rfl | rfl | rfl | rfl | rfl | rfl | rfl | rfl <;> rcases rows3 hr' with rfl | rfl | rfl | rfl | rfl | rfl | rfl | rfl
  · rfl
  · exact absurd e (key_ne d000 d001 p000_001 ho hp ok ka kb kc d)
  · exact absurd e (key_ne d000 d010 p000_010 ho hp ok ka kb kc d)
  · exact absurd e (key_ne d000 d011 p000_011 ho hp ok ka kb kc d)
  · exact absurd e (key_ne d000 d100 p000_100 ho hp ok ka kb kc d)
  · exact absurd e (key_ne d000 d101 p000_101 ho hp ok ka kb kc d)
  · exact absurd e (key_ne d000 d110 p000_110 ho hp ok ka kb kc d)
  · exact absurd e (key_ne d000 d111 p000_111 ho hp ok ka kb kc d)
  · exact absurd e.symm (key_ne d000 d001 p000_001 ho hp ok ka kb kc d)
  · rfl
  · exact absurd e (key_ne d001 d010 p001_010 ho hp ok ka kb kc d)
  · exact absurd e (key_ne d001 d011 p001_011 ho hp ok ka kb kc d)
  · exact absurd e (key_ne d001 d100 p001_100 ho hp ok ka kb kc d)
  · exact absurd e (key_ne d001 d101 p001_101 ho hp ok ka kb kc d)
  · exact absurd e (key_ne d001 d110 p001_110 ho hp ok ka kb kc d)
  · exact absurd e (key_ne d001 d111 p001_111 ho hp ok ka kb kc d)
  · exact absurd e.symm (key_ne d000 d010 p000_010 ho hp ok ka kb kc d)
  · exact absurd e.symm (key_ne d001 d010 p001_010 ho hp ok ka kb kc d)
  · rfl
  · exact absurd e (key_ne d010 d011 p010_011 ho hp ok ka kb kc d)
  · exact absurd e (key_ne d010 d100 p010_100 ho hp ok ka kb kc d)
  · exact absurd e (key_ne d010 d101 p010_101 ho hp ok ka kb kc d)
  · exact absurd e (key_ne d010 d110 p010_110 ho hp ok ka kb kc d)
  · exact absurd e (key_ne d010 d111 p010_111 ho hp ok ka kb kc d)
  · exact absurd e.symm (key_ne d000 d011 p000_011 ho hp ok ka kb kc d)
  · exact absurd e.symm (key_ne d001 d011 p001_011 ho hp ok ka kb kc d)
  · exact absurd e.symm (key_ne d010 d011 p010_011 ho hp ok ka kb kc d)
  · rfl
  · exact absurd e (key_ne d011 d100 p011_100 ho hp ok ka kb kc d)
  · exact absurd e (key_ne d011 d101 p011_101 ho hp ok ka kb kc d)
  · exact absurd e (key_ne d011 d110 p011_110 ho hp ok ka kb kc d)
  · exact absurd e (key_ne d011 d111 p011_111 ho hp ok ka kb kc d)
  · exact absurd e.symm (key_ne d000 d100 p000_100 ho hp ok ka kb kc d)
  · exact absurd e.symm (key_ne d001 d100 p001_100 ho hp ok ka kb kc d)
  · exact absurd e.symm (key_ne d010 d100 p010_100 ho hp ok ka kb kc d)
  · exact absurd e.symm (key_ne d011 d100 p011_100 ho hp ok ka kb kc d)
  · rfl
  · exact absurd e (key_ne d100 d101 p100_101 ho hp ok ka kb kc d)
  · exact absurd e (key_ne d100 d110 p100_110 ho hp ok ka kb kc d)
  · exact absurd e (key_ne d100 d111 p100_111 ho hp ok ka kb kc d)
  · exact absurd e.symm (key_ne d000 d101 p000_101 ho hp ok ka kb kc d)
  · exact absurd e.symm (key_ne d001 d101 p001_101 ho hp ok ka kb kc d)
  · exact absurd e.symm (key_ne d010 d101 p010_101 ho hp ok ka kb kc d)
  · exact absurd e.symm (key_ne d011 d101 p011_101 ho hp ok ka kb kc d)
  · exact absurd e.symm (key_ne d100 d101 p100_101 ho hp ok ka kb kc d)
  · rfl
  · exact absurd e (key_ne d101 d110 p101_110 ho hp ok ka kb kc d)
  · exact absurd e (key_ne d101 d111 p101_111 ho hp ok ka kb kc d)
  · exact absurd e.symm (key_ne d000 d110 p000_110 ho hp ok ka kb kc d)
  · exact absurd e.symm (key_ne d001 d110 p001_110 ho hp ok ka kb kc d)
  · exact absurd e.symm (key_ne d010 d110 p010_110 ho hp ok ka kb kc d)
  · exact absurd e.symm (key_ne d011 d110 p011_110 ho hp ok ka kb kc d)
  · exact absurd e.symm (key_ne d100 d110 p100_110 ho hp ok ka kb kc d)
  · exact absurd e.symm (key_ne d101 d110 p101_110 ho hp ok ka kb kc d)
  · rfl
  · exact absurd e (key_ne d110 d111 p110_111 ho hp ok ka kb kc d)
  · exact absurd e.symm (key_ne d000 d111 p000_111 ho hp ok ka kb kc d)
  · exact absurd e.symm (key_ne d001 d111 p001_111 ho hp ok ka kb kc d)
  · exact absurd e.symm (key_ne d010 d111 p010_111 ho hp ok ka kb kc d)
  · exact absurd e.symm (key_ne d011 d111 p011_111 ho hp ok ka kb kc d)
  · exact absurd e.symm (key_ne d100 d111 p100_111 ho hp ok ka kb kc d)
  · exact absurd e.symm (key_ne d101 d111 p101_111 ho hp ok ka kb kc d)
  · exact absurd e.symm (key_ne d110 d111 p110_111 ho hp ok ka kb kc d)
  · rfl
end
theorem deep_ok (w : World) : DeepOk w := by
  intro h a b c ho oka okb okc pl hpl
  obtain ⟨i, ka⟩ := kind_of oka
  obtain ⟨j, kb⟩ := kind_of okb
  obtain ⟨k, kc⟩ := kind_of okc
  have ok1 : Gs.ok 0 (.both (.both a b) c) := ⟨by decide, ⟨by decide, oka, okb⟩, ok_mono c 2 1 okc (by decide)⟩
  have ok2 : Gs.ok 0 (.both a (.both b c)) := ⟨by decide, ok_mono a 2 1 oka (by decide), ⟨by decide, okb, okc⟩⟩
  have g1 := ght_ok _ 0 ok1
  have g2 := ght_ok _ 0 ok2
  have al := al_assoc a b c
  refine ⟨fun r p _ _ _ _ => al.cost r p, fun r _ => al.idle r, fun r _ _ => ?_, ?_, fun n hn => ?_⟩
  · have := (key_dep ho ok1 ok2 r).1
    omega
  · have := (key_dep ho ok1 ok2 []).2 (young_first _) (young_first _)
    omega
  · rcases hpl with rfl | ⟨rfl, hp⟩
    · exact .inr fun r r' hr hr' _ => by rw [rows_one hr hr']
    · cases d : deep i j k with
      | false => exact .inl fun r _ => key_flat ka kb kc d r
      | true =>
        rcases (show n = 0 ∨ n = 1 ∨ n = 2 ∨ n = 3 by omega) with rfl | rfl | rfl | rfl
        · refine .inr fun r r' hr hr' _ => ?_
          rw [List.length_eq_zero_iff.mp hr.1, List.length_eq_zero_iff.mp hr'.1]
        · refine .inl fun r hr => ?_
          obtain ⟨hl, hx⟩ := hr
          match r, hl with
          | [p], _ =>
            have := (key_dep ho ok1 ok2 [p]).2 (young_adv _ p) (young_adv _ p)
            omega
        · exact .inr fun r r' hr hr' e => two_ok ho hp ok1 ka kb kc d hr hr' e
        · exact .inr fun r r' hr hr' e => three_ok ho hp ok1 ka kb kc d hr hr' e
end Hu
end
section
set_option Elab.async false
set_option linter.all false
set_option maxRecDepth 100000
set_option maxHeartbeats 4000000
/-! The facts of the top, and the row. -/
namespace W
open PySem PySem.Spec PyProof.Rows L2 DL Tx Mi Ml Nd
theorem all_mk {l : PySem.W.OpenLaw} {w : World} {K : PySem.W.Frag} {h : Heap} {mg : Str → Option Value} (hD : DeepOk w) {fa f_isG f_needG f_first f_strided f_paired f_stepped f_guesses f_needSetting f_isDeed f_needRow f_begun f_laid f_come f_asked f_started f_gone f_idle f_needAll f_story f_needW f_turnCost f_bothB f_needRows f_worst f_taken f_lGuesser f_lSetting f_lPlaces f_lDeeds f_same f_law cHouse cRun f_houseI f_runI f_deed d_sorts d_mostOf : Addr} {t_within t_mPlaces t_mNumber t_mRoom t_mLate t_mWay t_mDeeds t_mWeight t_mAsked t_mLength t_mRows t_sorts_none t_sorts_next t_sorts_stride t_sorts_pairs t_sorts_both t_mostOf_next t_mostOf_stride t_mostOf_pairs : Tok}
    {od_isG an_isG : Option Addr} {sl_isG : Array (Option Value)} {oc_isG kv_isG dc_isG pm_isG cd_isG ct_isG : Value}
    {od_needG an_needG : Option Addr} {sl_needG : Array (Option Value)} {oc_needG kv_needG dc_needG pm_needG cd_needG ct_needG : Value}
    {od_first an_first : Option Addr} {sl_first : Array (Option Value)} {oc_first kv_first dc_first pm_first cd_first ct_first : Value}
    {od_strided an_strided : Option Addr} {sl_strided : Array (Option Value)} {oc_strided kv_strided dc_strided pm_strided cd_strided ct_strided : Value}
    {od_paired an_paired : Option Addr} {sl_paired : Array (Option Value)} {oc_paired kv_paired dc_paired pm_paired cd_paired ct_paired : Value}
    {od_stepped an_stepped : Option Addr} {sl_stepped : Array (Option Value)} {oc_stepped kv_stepped dc_stepped pm_stepped cd_stepped ct_stepped : Value}
    {od_guesses an_guesses : Option Addr} {sl_guesses : Array (Option Value)} {oc_guesses kv_guesses dc_guesses pm_guesses cd_guesses ct_guesses : Value}
    {od_needSetting an_needSetting : Option Addr} {sl_needSetting : Array (Option Value)} {oc_needSetting kv_needSetting dc_needSetting pm_needSetting cd_needSetting ct_needSetting : Value}
    {od_isDeed an_isDeed : Option Addr} {sl_isDeed : Array (Option Value)} {oc_isDeed kv_isDeed dc_isDeed pm_isDeed cd_isDeed ct_isDeed : Value}
    {od_needRow an_needRow : Option Addr} {sl_needRow : Array (Option Value)} {oc_needRow kv_needRow dc_needRow pm_needRow cd_needRow ct_needRow : Value}
    {od_begun an_begun : Option Addr} {sl_begun : Array (Option Value)} {oc_begun kv_begun dc_begun pm_begun cd_begun ct_begun : Value}
    {od_laid an_laid : Option Addr} {sl_laid : Array (Option Value)} {oc_laid kv_laid dc_laid pm_laid cd_laid ct_laid : Value}
    {od_come an_come : Option Addr} {sl_come : Array (Option Value)} {oc_come kv_come dc_come pm_come cd_come ct_come : Value}
    {od_asked an_asked : Option Addr} {sl_asked : Array (Option Value)} {oc_asked kv_asked dc_asked pm_asked cd_asked ct_asked : Value}
    {od_started an_started : Option Addr} {sl_started : Array (Option Value)} {oc_started kv_started dc_started pm_started cd_started ct_started : Value}
    {od_gone an_gone : Option Addr} {sl_gone : Array (Option Value)} {oc_gone kv_gone dc_gone pm_gone cd_gone ct_gone : Value}
    {od_idle an_idle : Option Addr} {sl_idle : Array (Option Value)} {oc_idle kv_idle dc_idle pm_idle cd_idle ct_idle : Value}
    {od_needAll an_needAll : Option Addr} {sl_needAll : Array (Option Value)} {oc_needAll kv_needAll dc_needAll pm_needAll cd_needAll ct_needAll : Value}
    {od_story an_story : Option Addr} {sl_story : Array (Option Value)} {oc_story kv_story dc_story pm_story cd_story ct_story : Value}
    {od_needW an_needW : Option Addr} {sl_needW : Array (Option Value)} {oc_needW kv_needW dc_needW pm_needW cd_needW ct_needW : Value}
    {od_turnCost an_turnCost : Option Addr} {sl_turnCost : Array (Option Value)} {oc_turnCost kv_turnCost dc_turnCost pm_turnCost cd_turnCost ct_turnCost : Value}
    {od_bothB an_bothB : Option Addr} {sl_bothB : Array (Option Value)} {oc_bothB kv_bothB dc_bothB pm_bothB cd_bothB ct_bothB : Value}
    {od_needRows an_needRows : Option Addr} {sl_needRows : Array (Option Value)} {oc_needRows kv_needRows dc_needRows pm_needRows cd_needRows ct_needRows : Value}
    {od_worst an_worst : Option Addr} {sl_worst : Array (Option Value)} {oc_worst kv_worst dc_worst pm_worst cd_worst ct_worst : Value}
    {od_taken an_taken : Option Addr} {sl_taken : Array (Option Value)} {oc_taken kv_taken dc_taken pm_taken cd_taken ct_taken : Value}
    {od_lGuesser an_lGuesser : Option Addr} {sl_lGuesser : Array (Option Value)} {oc_lGuesser kv_lGuesser dc_lGuesser pm_lGuesser cd_lGuesser ct_lGuesser : Value}
    {od_lSetting an_lSetting : Option Addr} {sl_lSetting : Array (Option Value)} {oc_lSetting kv_lSetting dc_lSetting pm_lSetting cd_lSetting ct_lSetting : Value}
    {od_lPlaces an_lPlaces : Option Addr} {sl_lPlaces : Array (Option Value)} {oc_lPlaces kv_lPlaces dc_lPlaces pm_lPlaces cd_lPlaces ct_lPlaces : Value}
    {od_lDeeds an_lDeeds : Option Addr} {sl_lDeeds : Array (Option Value)} {oc_lDeeds kv_lDeeds dc_lDeeds pm_lDeeds cd_lDeeds ct_lDeeds : Value}
    {od_same an_same : Option Addr} {sl_same : Array (Option Value)} {oc_same kv_same dc_same pm_same cd_same ct_same : Value}
    {od_law an_law : Option Addr} {sl_law : Array (Option Value)} {oc_law kv_law dc_law pm_law cd_law ct_law : Value}
    {od_houseI an_houseI : Option Addr} {sl_houseI : Array (Option Value)} {oc_houseI kv_houseI dc_houseI pm_houseI cd_houseI ct_houseI : Value}
    {od_runI an_runI : Option Addr} {sl_runI : Array (Option Value)} {oc_runI kv_runI dc_runI pm_runI cd_runI ct_runI : Value}
    {od_deed an_deed : Option Addr} {sl_deed : Array (Option Value)} {oc_deed kv_deed dc_deed pm_deed cd_deed ct_deed : Value}
    {es_sorts : Array DictEntry} {m_sorts : Nat}
    {es_mostOf : Array DictEntry} {m_mostOf : Nat}
    (X : K.In h) (G : h.Ns mainGlobals mg) (hfa : mg "law" = some (.ref fa))
    (a_isG : PySem.W.nsIn K mainGlobals "is_guesser" = some (some (.ref f_isG)))
    (l_isG : K.lookup f_isG = some ⟨oc_isG, od_isG, .func (PySem.W.fnOf "is_guesser" "is_guesser" (defArgs sIsGuesser) (defBody sIsGuesser) (defScope sIsGuesser) .none kv_isG dc_isG pm_isG an_isG cd_isG ct_isG), sl_isG⟩)
    (c_isG : PySem.W.codeIn K cd_isG "is_guesser" = true)
    (k_isG : PySem.W.keepIn K (.ref f_isG) = true)
    (a_needG : PySem.W.nsIn K mainGlobals "need_guesser" = some (some (.ref f_needG)))
    (l_needG : K.lookup f_needG = some ⟨oc_needG, od_needG, .func (PySem.W.fnOf "need_guesser" "need_guesser" (defArgs sNeedGuesser) (defBody sNeedGuesser) (defScope sNeedGuesser) .none kv_needG dc_needG pm_needG an_needG cd_needG ct_needG), sl_needG⟩)
    (c_needG : PySem.W.codeIn K cd_needG "need_guesser" = true)
    (k_needG : PySem.W.keepIn K (.ref f_needG) = true)
    (a_first : PySem.W.nsIn K mainGlobals "first_state" = some (some (.ref f_first)))
    (l_first : K.lookup f_first = some ⟨oc_first, od_first, .func (PySem.W.fnOf "first_state" "first_state" (defArgs sFirst) (defBody sFirst) (defScope sFirst) .none kv_first dc_first pm_first an_first cd_first ct_first), sl_first⟩)
    (c_first : PySem.W.codeIn K cd_first "first_state" = true)
    (k_first : PySem.W.keepIn K (.ref f_first) = true)
    (a_strided : PySem.W.nsIn K mainGlobals "strided" = some (some (.ref f_strided)))
    (l_strided : K.lookup f_strided = some ⟨oc_strided, od_strided, .func (PySem.W.fnOf "strided" "strided" (defArgs sStrided) (defBody sStrided) (defScope sStrided) .none kv_strided dc_strided pm_strided an_strided cd_strided ct_strided), sl_strided⟩)
    (c_strided : PySem.W.codeIn K cd_strided "strided" = true)
    (k_strided : PySem.W.keepIn K (.ref f_strided) = true)
    (a_paired : PySem.W.nsIn K mainGlobals "paired" = some (some (.ref f_paired)))
    (l_paired : K.lookup f_paired = some ⟨oc_paired, od_paired, .func (PySem.W.fnOf "paired" "paired" (defArgs sPaired) (defBody sPaired) (defScope sPaired) .none kv_paired dc_paired pm_paired an_paired cd_paired ct_paired), sl_paired⟩)
    (c_paired : PySem.W.codeIn K cd_paired "paired" = true)
    (k_paired : PySem.W.keepIn K (.ref f_paired) = true)
    (a_stepped : PySem.W.nsIn K mainGlobals "stepped" = some (some (.ref f_stepped)))
    (l_stepped : K.lookup f_stepped = some ⟨oc_stepped, od_stepped, .func (PySem.W.fnOf "stepped" "stepped" (defArgs sStepped) (defBody sStepped) (defScope sStepped) .none kv_stepped dc_stepped pm_stepped an_stepped cd_stepped ct_stepped), sl_stepped⟩)
    (c_stepped : PySem.W.codeIn K cd_stepped "stepped" = true)
    (k_stepped : PySem.W.keepIn K (.ref f_stepped) = true)
    (a_guesses : PySem.W.nsIn K mainGlobals "guesses" = some (some (.ref f_guesses)))
    (l_guesses : K.lookup f_guesses = some ⟨oc_guesses, od_guesses, .func (PySem.W.fnOf "guesses" "guesses" (defArgs sGuesses) (defBody sGuesses) (defScope sGuesses) .none kv_guesses dc_guesses pm_guesses an_guesses cd_guesses ct_guesses), sl_guesses⟩)
    (c_guesses : PySem.W.codeIn K cd_guesses "guesses" = true)
    (k_guesses : PySem.W.keepIn K (.ref f_guesses) = true)
    (a_needSetting : PySem.W.nsIn K mainGlobals "need_setting" = some (some (.ref f_needSetting)))
    (l_needSetting : K.lookup f_needSetting = some ⟨oc_needSetting, od_needSetting, .func (PySem.W.fnOf "need_setting" "need_setting" (defArgs sNeedSetting) (defBody sNeedSetting) (defScope sNeedSetting) .none kv_needSetting dc_needSetting pm_needSetting an_needSetting cd_needSetting ct_needSetting), sl_needSetting⟩)
    (c_needSetting : PySem.W.codeIn K cd_needSetting "need_setting" = true)
    (k_needSetting : PySem.W.keepIn K (.ref f_needSetting) = true)
    (a_isDeed : PySem.W.nsIn K mainGlobals "is_deed" = some (some (.ref f_isDeed)))
    (l_isDeed : K.lookup f_isDeed = some ⟨oc_isDeed, od_isDeed, .func (PySem.W.fnOf "is_deed" "is_deed" (defArgs sIsDeed) (defBody sIsDeed) (defScope sIsDeed) .none kv_isDeed dc_isDeed pm_isDeed an_isDeed cd_isDeed ct_isDeed), sl_isDeed⟩)
    (c_isDeed : PySem.W.codeIn K cd_isDeed "is_deed" = true)
    (k_isDeed : PySem.W.keepIn K (.ref f_isDeed) = true)
    (a_needRow : PySem.W.nsIn K mainGlobals "need_row" = some (some (.ref f_needRow)))
    (l_needRow : K.lookup f_needRow = some ⟨oc_needRow, od_needRow, .func (PySem.W.fnOf "need_row" "need_row" (defArgs sNeedRow) (defBody sNeedRow) (defScope sNeedRow) .none kv_needRow dc_needRow pm_needRow an_needRow cd_needRow ct_needRow), sl_needRow⟩)
    (c_needRow : PySem.W.codeIn K cd_needRow "need_row" = true)
    (k_needRow : PySem.W.keepIn K (.ref f_needRow) = true)
    (a_begun : PySem.W.nsIn K mainGlobals "begun" = some (some (.ref f_begun)))
    (l_begun : K.lookup f_begun = some ⟨oc_begun, od_begun, .func (PySem.W.fnOf "begun" "begun" (defArgs sBegun) (defBody sBegun) (defScope sBegun) .none kv_begun dc_begun pm_begun an_begun cd_begun ct_begun), sl_begun⟩)
    (c_begun : PySem.W.codeIn K cd_begun "begun" = true)
    (k_begun : PySem.W.keepIn K (.ref f_begun) = true)
    (a_laid : PySem.W.nsIn K mainGlobals "laid" = some (some (.ref f_laid)))
    (l_laid : K.lookup f_laid = some ⟨oc_laid, od_laid, .func (PySem.W.fnOf "laid" "laid" (defArgs sLaid) (defBody sLaid) (defScope sLaid) .none kv_laid dc_laid pm_laid an_laid cd_laid ct_laid), sl_laid⟩)
    (c_laid : PySem.W.codeIn K cd_laid "laid" = true)
    (k_laid : PySem.W.keepIn K (.ref f_laid) = true)
    (a_come : PySem.W.nsIn K mainGlobals "come" = some (some (.ref f_come)))
    (l_come : K.lookup f_come = some ⟨oc_come, od_come, .func (PySem.W.fnOf "come" "come" (defArgs sCome) (defBody sCome) (defScope sCome) .none kv_come dc_come pm_come an_come cd_come ct_come), sl_come⟩)
    (c_come : PySem.W.codeIn K cd_come "come" = true)
    (k_come : PySem.W.keepIn K (.ref f_come) = true)
    (a_asked : PySem.W.nsIn K mainGlobals "asked" = some (some (.ref f_asked)))
    (l_asked : K.lookup f_asked = some ⟨oc_asked, od_asked, .func (PySem.W.fnOf "asked" "asked" (defArgs sAsked) (defBody sAsked) (defScope sAsked) .none kv_asked dc_asked pm_asked an_asked cd_asked ct_asked), sl_asked⟩)
    (c_asked : PySem.W.codeIn K cd_asked "asked" = true)
    (k_asked : PySem.W.keepIn K (.ref f_asked) = true)
    (a_started : PySem.W.nsIn K mainGlobals "started" = some (some (.ref f_started)))
    (l_started : K.lookup f_started = some ⟨oc_started, od_started, .func (PySem.W.fnOf "started" "started" (defArgs sStarted) (defBody sStarted) (defScope sStarted) .none kv_started dc_started pm_started an_started cd_started ct_started), sl_started⟩)
    (c_started : PySem.W.codeIn K cd_started "started" = true)
    (k_started : PySem.W.keepIn K (.ref f_started) = true)
    (a_gone : PySem.W.nsIn K mainGlobals "gone_on" = some (some (.ref f_gone)))
    (l_gone : K.lookup f_gone = some ⟨oc_gone, od_gone, .func (PySem.W.fnOf "gone_on" "gone_on" (defArgs sGone) (defBody sGone) (defScope sGone) .none kv_gone dc_gone pm_gone an_gone cd_gone ct_gone), sl_gone⟩)
    (c_gone : PySem.W.codeIn K cd_gone "gone_on" = true)
    (k_gone : PySem.W.keepIn K (.ref f_gone) = true)
    (a_idle : PySem.W.nsIn K mainGlobals "idle_in" = some (some (.ref f_idle)))
    (l_idle : K.lookup f_idle = some ⟨oc_idle, od_idle, .func (PySem.W.fnOf "idle_in" "idle_in" (defArgs sIdle) (defBody sIdle) (defScope sIdle) .none kv_idle dc_idle pm_idle an_idle cd_idle ct_idle), sl_idle⟩)
    (c_idle : PySem.W.codeIn K cd_idle "idle_in" = true)
    (k_idle : PySem.W.keepIn K (.ref f_idle) = true)
    (a_needAll : PySem.W.nsIn K mainGlobals "need_all" = some (some (.ref f_needAll)))
    (l_needAll : K.lookup f_needAll = some ⟨oc_needAll, od_needAll, .func (PySem.W.fnOf "need_all" "need_all" (defArgs sNeedAll) (defBody sNeedAll) (defScope sNeedAll) .none kv_needAll dc_needAll pm_needAll an_needAll cd_needAll ct_needAll), sl_needAll⟩)
    (c_needAll : PySem.W.codeIn K cd_needAll "need_all" = true)
    (k_needAll : PySem.W.keepIn K (.ref f_needAll) = true)
    (a_story : PySem.W.nsIn K mainGlobals "story" = some (some (.ref f_story)))
    (l_story : K.lookup f_story = some ⟨oc_story, od_story, .func (PySem.W.fnOf "story" "story" (defArgs sStory) (defBody sStory) (defScope sStory) .none kv_story dc_story pm_story an_story cd_story ct_story), sl_story⟩)
    (c_story : PySem.W.codeIn K cd_story "story" = true)
    (k_story : PySem.W.keepIn K (.ref f_story) = true)
    (a_needW : PySem.W.nsIn K mainGlobals "need_weights" = some (some (.ref f_needW)))
    (l_needW : K.lookup f_needW = some ⟨oc_needW, od_needW, .func (PySem.W.fnOf "need_weights" "need_weights" (defArgs sNeedWeights) (defBody sNeedWeights) (defScope sNeedWeights) .none kv_needW dc_needW pm_needW an_needW cd_needW ct_needW), sl_needW⟩)
    (c_needW : PySem.W.codeIn K cd_needW "need_weights" = true)
    (k_needW : PySem.W.keepIn K (.ref f_needW) = true)
    (a_turnCost : PySem.W.nsIn K mainGlobals "turn_cost" = some (some (.ref f_turnCost)))
    (l_turnCost : K.lookup f_turnCost = some ⟨oc_turnCost, od_turnCost, .func (PySem.W.fnOf "turn_cost" "turn_cost" (defArgs sTurnCost) (defBody sTurnCost) (defScope sTurnCost) .none kv_turnCost dc_turnCost pm_turnCost an_turnCost cd_turnCost ct_turnCost), sl_turnCost⟩)
    (c_turnCost : PySem.W.codeIn K cd_turnCost "turn_cost" = true)
    (k_turnCost : PySem.W.keepIn K (.ref f_turnCost) = true)
    (a_bothB : PySem.W.nsIn K mainGlobals "both_behind" = some (some (.ref f_bothB)))
    (l_bothB : K.lookup f_bothB = some ⟨oc_bothB, od_bothB, .func (PySem.W.fnOf "both_behind" "both_behind" (defArgs sBothBehind) (defBody sBothBehind) (defScope sBothBehind) .none kv_bothB dc_bothB pm_bothB an_bothB cd_bothB ct_bothB), sl_bothB⟩)
    (c_bothB : PySem.W.codeIn K cd_bothB "both_behind" = true)
    (k_bothB : PySem.W.keepIn K (.ref f_bothB) = true)
    (a_needRows : PySem.W.nsIn K mainGlobals "need_rows" = some (some (.ref f_needRows)))
    (l_needRows : K.lookup f_needRows = some ⟨oc_needRows, od_needRows, .func (PySem.W.fnOf "need_rows" "need_rows" (defArgs sNeedRows) (defBody sNeedRows) (defScope sNeedRows) .none kv_needRows dc_needRows pm_needRows an_needRows cd_needRows ct_needRows), sl_needRows⟩)
    (c_needRows : PySem.W.codeIn K cd_needRows "need_rows" = true)
    (k_needRows : PySem.W.keepIn K (.ref f_needRows) = true)
    (a_worst : PySem.W.nsIn K mainGlobals "worst" = some (some (.ref f_worst)))
    (l_worst : K.lookup f_worst = some ⟨oc_worst, od_worst, .func (PySem.W.fnOf "worst" "worst" (defArgs sWorst) (defBody sWorst) (defScope sWorst) .none kv_worst dc_worst pm_worst an_worst cd_worst ct_worst), sl_worst⟩)
    (c_worst : PySem.W.codeIn K cd_worst "worst" = true)
    (k_worst : PySem.W.keepIn K (.ref f_worst) = true)
    (a_taken : PySem.W.nsIn K mainGlobals "_law_taken" = some (some (.ref f_taken)))
    (l_taken : K.lookup f_taken = some ⟨oc_taken, od_taken, .func (PySem.W.fnOf "_law_taken" "_law_taken" (defArgs sTaken) (defBody sTaken) (defScope sTaken) .none kv_taken dc_taken pm_taken an_taken cd_taken ct_taken), sl_taken⟩)
    (c_taken : PySem.W.codeIn K cd_taken "_law_taken" = true)
    (k_taken : PySem.W.keepIn K (.ref f_taken) = true)
    (a_lGuesser : PySem.W.nsIn K mainGlobals "_law_guesser" = some (some (.ref f_lGuesser)))
    (l_lGuesser : K.lookup f_lGuesser = some ⟨oc_lGuesser, od_lGuesser, .func (PySem.W.fnOf "_law_guesser" "_law_guesser" (defArgs sLGuesser) (defBody sLGuesser) (defScope sLGuesser) .none kv_lGuesser dc_lGuesser pm_lGuesser an_lGuesser cd_lGuesser ct_lGuesser), sl_lGuesser⟩)
    (c_lGuesser : PySem.W.codeIn K cd_lGuesser "_law_guesser" = true)
    (k_lGuesser : PySem.W.keepIn K (.ref f_lGuesser) = true)
    (a_lSetting : PySem.W.nsIn K mainGlobals "_law_setting" = some (some (.ref f_lSetting)))
    (l_lSetting : K.lookup f_lSetting = some ⟨oc_lSetting, od_lSetting, .func (PySem.W.fnOf "_law_setting" "_law_setting" (defArgs sLSetting) (defBody sLSetting) (defScope sLSetting) .none kv_lSetting dc_lSetting pm_lSetting an_lSetting cd_lSetting ct_lSetting), sl_lSetting⟩)
    (c_lSetting : PySem.W.codeIn K cd_lSetting "_law_setting" = true)
    (k_lSetting : PySem.W.keepIn K (.ref f_lSetting) = true)
    (a_lPlaces : PySem.W.nsIn K mainGlobals "_law_places" = some (some (.ref f_lPlaces)))
    (l_lPlaces : K.lookup f_lPlaces = some ⟨oc_lPlaces, od_lPlaces, .func (PySem.W.fnOf "_law_places" "_law_places" (defArgs sLPlaces) (defBody sLPlaces) (defScope sLPlaces) .none kv_lPlaces dc_lPlaces pm_lPlaces an_lPlaces cd_lPlaces ct_lPlaces), sl_lPlaces⟩)
    (c_lPlaces : PySem.W.codeIn K cd_lPlaces "_law_places" = true)
    (k_lPlaces : PySem.W.keepIn K (.ref f_lPlaces) = true)
    (a_lDeeds : PySem.W.nsIn K mainGlobals "_law_deeds" = some (some (.ref f_lDeeds)))
    (l_lDeeds : K.lookup f_lDeeds = some ⟨oc_lDeeds, od_lDeeds, .func (PySem.W.fnOf "_law_deeds" "_law_deeds" (defArgs sLDeeds) (defBody sLDeeds) (defScope sLDeeds) .none kv_lDeeds dc_lDeeds pm_lDeeds an_lDeeds cd_lDeeds ct_lDeeds), sl_lDeeds⟩)
    (c_lDeeds : PySem.W.codeIn K cd_lDeeds "_law_deeds" = true)
    (k_lDeeds : PySem.W.keepIn K (.ref f_lDeeds) = true)
    (a_same : PySem.W.nsIn K mainGlobals "_law_same" = some (some (.ref f_same)))
    (l_same : K.lookup f_same = some ⟨oc_same, od_same, .func (PySem.W.fnOf "_law_same" "_law_same" (defArgs sSame) (defBody sSame) (defScope sSame) .none kv_same dc_same pm_same an_same cd_same ct_same), sl_same⟩)
    (c_same : PySem.W.codeIn K cd_same "_law_same" = true)
    (k_same : PySem.W.keepIn K (.ref f_same) = true)
    (a_law : PySem.W.nsIn K mainGlobals "law" = some (some (.ref f_law)))
    (l_law : K.lookup f_law = some ⟨oc_law, od_law, .func (PySem.W.fnOf "law" "law" (defArgs sLaw) (defBody sLaw) (defScope sLaw) .none kv_law dc_law pm_law an_law cd_law ct_law), sl_law⟩)
    (c_law : PySem.W.codeIn K cd_law "law" = true)
    (k_law : PySem.W.keepIn K (.ref f_law) = true)
    (a_cHouse : PySem.W.nsIn K mainGlobals "House" = some (some (.ref cHouse)))
    (pg_cHouse : PySem.W.plainGet K cHouse Str.empty = true)
    (hd_cHouse : PySem.W.hasDictIn K cHouse = true)
    (po_cHouse : PySem.W.plainOver K cHouse = true)
    (sa_cHouse : PySem.W.findIn K (.ref cHouse) "__setattr__" = some (some (.builtin "object.__setattr__")))
    (mk_cHouse : PySem.W.makesIn K cHouse = true)
    (kc_cHouse : PySem.W.keepIn K (.ref cHouse) = true)
    (n_cHouse_places : PySem.W.findIn K (.ref cHouse) "places" = some none)
    (n_cHouse_room : PySem.W.findIn K (.ref cHouse) "room" = some none)
    (n_cHouse_late : PySem.W.findIn K (.ref cHouse) "late" = some none)
    (n_cHouse_most : PySem.W.findIn K (.ref cHouse) "most" = some none)
    (a_cRun : PySem.W.nsIn K mainGlobals "Run" = some (some (.ref cRun)))
    (pg_cRun : PySem.W.plainGet K cRun Str.empty = true)
    (hd_cRun : PySem.W.hasDictIn K cRun = true)
    (po_cRun : PySem.W.plainOver K cRun = true)
    (sa_cRun : PySem.W.findIn K (.ref cRun) "__setattr__" = some (some (.builtin "object.__setattr__")))
    (mk_cRun : PySem.W.makesIn K cRun = true)
    (kc_cRun : PySem.W.keepIn K (.ref cRun) = true)
    (n_cRun_house : PySem.W.findIn K (.ref cRun) "house" = some none)
    (n_cRun_guesser : PySem.W.findIn K (.ref cRun) "guesser" = some none)
    (n_cRun_cells : PySem.W.findIn K (.ref cRun) "cells" = some none)
    (n_cRun_lies : PySem.W.findIn K (.ref cRun) "lies" = some none)
    (n_cRun_answers : PySem.W.findIn K (.ref cRun) "answers" = some none)
    (n_cRun_rows : PySem.W.findIn K (.ref cRun) "rows" = some none)
    (n_cRun_state : PySem.W.findIn K (.ref cRun) "state" = some none)
    (a_houseI : PySem.W.findIn K (.ref cHouse) "__init__" = some (some (.ref f_houseI)))
    (i_houseI : PySem.W.isFn K (.ref f_houseI) = true)
    (l_houseI : K.lookup f_houseI = some ⟨oc_houseI, od_houseI, .func (PySem.W.fnOf "__init__" "House.__init__" (defArgs sHouse) (defBody sHouse) (defScope sHouse) .none kv_houseI dc_houseI pm_houseI an_houseI cd_houseI ct_houseI), sl_houseI⟩)
    (c_houseI : PySem.W.codeIn K cd_houseI "House.__init__" = true)
    (k_houseI : PySem.W.keepIn K (.ref f_houseI) = true)
    (a_runI : PySem.W.findIn K (.ref cRun) "__init__" = some (some (.ref f_runI)))
    (i_runI : PySem.W.isFn K (.ref f_runI) = true)
    (l_runI : K.lookup f_runI = some ⟨oc_runI, od_runI, .func (PySem.W.fnOf "__init__" "Run.__init__" (defArgs sRun) (defBody sRun) (defScope sRun) .none kv_runI dc_runI pm_runI an_runI cd_runI ct_runI), sl_runI⟩)
    (c_runI : PySem.W.codeIn K cd_runI "Run.__init__" = true)
    (k_runI : PySem.W.keepIn K (.ref f_runI) = true)
    (a_deed : PySem.W.findIn K (.ref cRun) "do_deed" = some (some (.ref f_deed)))
    (i_deed : PySem.W.isFn K (.ref f_deed) = true)
    (l_deed : K.lookup f_deed = some ⟨oc_deed, od_deed, .func (PySem.W.fnOf "do_deed" "Run.do_deed" (defArgs sDoDeed) (defBody sDoDeed) (defScope sDoDeed) .none kv_deed dc_deed pm_deed an_deed cd_deed ct_deed), sl_deed⟩)
    (c_deed : PySem.W.codeIn K cd_deed "Run.do_deed" = true)
    (k_deed : PySem.W.keepIn K (.ref f_deed) = true)
    (z_len : PySem.W.nsIn K mainGlobals "len" = some none)
    (z_range : PySem.W.nsIn K mainGlobals "range" = some none)
    (z_zip : PySem.W.nsIn K mainGlobals "zip" = some none)
    (z_dict : PySem.W.nsIn K mainGlobals "dict" = some none)
    (z_tuple : PySem.W.nsIn K mainGlobals "tuple" = some none)
    (z_list : PySem.W.nsIn K mainGlobals "list" = some none)
    (z_sorted : PySem.W.nsIn K mainGlobals "sorted" = some none)
    (z_int : PySem.W.nsIn K mainGlobals "int" = some none)
    (z_min : PySem.W.nsIn K mainGlobals "min" = some none)
    (v_within : PySem.W.nsIn K mainGlobals "MOST_WITHIN" = some (some (.int 3 t_within)))
    (v_mPlaces : PySem.W.nsIn K mainGlobals "MOST_PLACES" = some (some (.int 32 t_mPlaces)))
    (v_mNumber : PySem.W.nsIn K mainGlobals "MOST_NUMBER" = some (some (.int 99 t_mNumber)))
    (v_mRoom : PySem.W.nsIn K mainGlobals "MOST_ROOM" = some (some (.int 8 t_mRoom)))
    (v_mLate : PySem.W.nsIn K mainGlobals "MOST_LATE" = some (some (.int 4 t_mLate)))
    (v_mWay : PySem.W.nsIn K mainGlobals "MOST_WAY" = some (some (.int 4 t_mWay)))
    (v_mDeeds : PySem.W.nsIn K mainGlobals "MOST_DEEDS" = some (some (.int 100 t_mDeeds)))
    (v_mWeight : PySem.W.nsIn K mainGlobals "MOST_WEIGHT" = some (some (.int 9 t_mWeight)))
    (v_mAsked : PySem.W.nsIn K mainGlobals "MOST_ASKED" = some (some (.int 4 t_mAsked)))
    (v_mLength : PySem.W.nsIn K mainGlobals "MOST_LENGTH" = some (some (.int 7 t_mLength)))
    (v_mRows : PySem.W.nsIn K mainGlobals "MOST_ROWS" = some (some (.int 1024 t_mRows)))
    (a_d_sorts : PySem.W.nsIn K mainGlobals "SORTS" = some (some (.ref d_sorts)))
    (at_sorts : K.lookup d_sorts = some ⟨.type "dict", none, .dict es_sorts m_sorts, #[]⟩)
    (lit_sorts : PySem.W.KeysLit w.params es_sorts.toList)
    (low_sorts : (d_sorts == sysModules) = false)
    (e_sorts_none : PySem.W.nsIn K d_sorts "none" = some (some (.int 1 t_sorts_none)))
    (e_sorts_next : PySem.W.nsIn K d_sorts "next" = some (some (.int 2 t_sorts_next)))
    (e_sorts_stride : PySem.W.nsIn K d_sorts "stride" = some (some (.int 2 t_sorts_stride)))
    (e_sorts_pairs : PySem.W.nsIn K d_sorts "pairs" = some (some (.int 2 t_sorts_pairs)))
    (e_sorts_both : PySem.W.nsIn K d_sorts "both" = some (some (.int 3 t_sorts_both)))
    (a_d_mostOf : PySem.W.nsIn K mainGlobals "MOST_OF" = some (some (.ref d_mostOf)))
    (at_mostOf : K.lookup d_mostOf = some ⟨.type "dict", none, .dict es_mostOf m_mostOf, #[]⟩)
    (lit_mostOf : PySem.W.KeysLit w.params es_mostOf.toList)
    (low_mostOf : (d_mostOf == sysModules) = false)
    (e_mostOf_next : PySem.W.nsIn K d_mostOf "next" = some (some (.int 3 t_mostOf_next)))
    (e_mostOf_stride : PySem.W.nsIn K d_mostOf "stride" = some (some (.int 3 t_mostOf_stride)))
    (e_mostOf_pairs : PySem.W.nsIn K d_mostOf "pairs" = some (some (.int 2 t_mostOf_pairs)))
    : ∃ fd : FuncData, (∀ (s : Shared) (v : Value), BindsTo s fd ⟨[v], []⟩ [("_law_script", v)]) ∧ ∀ base : Heap, K.In base → base.Ns mainGlobals mg → FnOk l.prog w K mg base CX0 12 fa fd ["_law_script"] (fun vs H Q _ => spLaw K vs H Q) := by
  have e := hfa.symm.trans (PySem.W.mg_of X G a_law)
  cases e
  have F_isG := fun_mk (st := sIsGuesser) l_isG c_isG k_isG
  have b_isG := F_isG.binds (ps := ["guesser", "within"]) fun _ _ _ _ _ _ us hl => match us, hl with | [_, _], _ => rfl
  have F_needG := fun_mk (st := sNeedGuesser) l_needG c_needG k_needG
  have b_needG := F_needG.binds (ps := ["guesser"]) fun _ _ _ _ _ _ us hl => match us, hl with | [_], _ => rfl
  have F_first := fun_mk (st := sFirst) l_first c_first k_first
  have b_first := F_first.binds (ps := ["guesser"]) fun _ _ _ _ _ _ us hl => match us, hl with | [_], _ => rfl
  have F_strided := fun_mk (st := sStrided) l_strided c_strided k_strided
  have b_strided := F_strided.binds (ps := ["trust", "state", "place"]) fun _ _ _ _ _ _ us hl => match us, hl with | [_, _, _], _ => rfl
  have F_paired := fun_mk (st := sPaired) l_paired c_paired k_paired
  have b_paired := F_paired.binds (ps := ["many", "state", "place"]) fun _ _ _ _ _ _ us hl => match us, hl with | [_, _, _], _ => rfl
  have F_stepped := fun_mk (st := sStepped) l_stepped c_stepped k_stepped
  have b_stepped := F_stepped.binds (ps := ["guesser", "state", "place"]) fun _ _ _ _ _ _ us hl => match us, hl with | [_, _, _], _ => rfl
  have F_guesses := fun_mk (st := sGuesses) l_guesses c_guesses k_guesses
  have b_guesses := F_guesses.binds (ps := ["guesser", "places"]) fun _ _ _ _ _ _ us hl => match us, hl with | [_, _], _ => rfl
  have F_needSetting := fun_mk (st := sNeedSetting) l_needSetting c_needSetting k_needSetting
  have b_needSetting := F_needSetting.binds (ps := ["setting"]) fun _ _ _ _ _ _ us hl => match us, hl with | [_], _ => rfl
  have F_isDeed := fun_mk (st := sIsDeed) l_isDeed c_isDeed k_isDeed
  have b_isDeed := F_isDeed.binds (ps := ["places", "deed"]) fun _ _ _ _ _ _ us hl => match us, hl with | [_, _], _ => rfl
  have F_needRow := fun_mk (st := sNeedRow) l_needRow c_needRow k_needRow
  have b_needRow := F_needRow.binds (ps := ["places", "row"]) fun _ _ _ _ _ _ us hl => match us, hl with | [_, _], _ => rfl
  have F_begun := fun_mk (st := sBegun) l_begun c_begun k_begun
  have b_begun := F_begun.binds (ps := ["guesser"]) fun _ _ _ _ _ _ us hl => match us, hl with | [_], _ => rfl
  have F_laid := fun_mk (st := sLaid) l_laid c_laid k_laid
  have b_laid := F_laid.binds (ps := ["house", "shelf", "place", "waits", "events"]) fun _ _ _ _ _ _ us hl => match us, hl with | [_, _, _, _, _], _ => rfl
  have F_come := fun_mk (st := sCome) l_come c_come k_come
  have b_come := F_come.binds (ps := ["house", "shelf", "way", "events"]) fun _ _ _ _ _ _ us hl => match us, hl with | [_, _, _, _], _ => rfl
  have F_asked := fun_mk (st := sAsked) l_asked c_asked k_asked
  have b_asked := F_asked.binds (ps := ["house", "shelf", "way", "place", "events"]) fun _ _ _ _ _ _ us hl => match us, hl with | [_, _, _, _, _], _ => rfl
  have F_started := fun_mk (st := sStarted) l_started c_started k_started
  have b_started := F_started.binds (ps := ["house", "shelf", "way", "guessed", "events"]) fun _ _ _ _ _ _ us hl => match us, hl with | [_, _, _, _, _], _ => rfl
  have F_gone := fun_mk (st := sGone) l_gone c_gone k_gone
  have b_gone := F_gone.binds (ps := ["house", "guesser", "state", "place"]) fun _ _ _ _ _ _ us hl => match us, hl with | [_, _, _, _], _ => rfl
  have F_idle := fun_mk (st := sIdle) l_idle c_idle k_idle
  have b_idle := F_idle.binds (ps := ["state"]) fun _ _ _ _ _ _ us hl => match us, hl with | [_], _ => rfl
  have F_needAll := fun_mk (st := sNeedAll) l_needAll c_needAll k_needAll
  have b_needAll := F_needAll.binds (ps := ["setting", "guesser", "row"]) fun _ _ _ _ _ _ us hl => match us, hl with | [_, _, _], _ => rfl
  have F_story := fun_mk (st := sStory) l_story c_story k_story
  have b_story := F_story.binds (ps := ["setting", "guesser", "row"]) fun _ _ _ _ _ _ us hl => match us, hl with | [_, _, _], _ => rfl
  have F_needW := fun_mk (st := sNeedWeights) l_needW c_needW k_needW
  have b_needW := F_needW.binds (ps := ["weights"]) fun _ _ _ _ _ _ us hl => match us, hl with | [_], _ => rfl
  have F_turnCost := fun_mk (st := sTurnCost) l_turnCost c_turnCost k_turnCost
  have b_turnCost := F_turnCost.binds (ps := ["events", "weights"]) fun _ _ _ _ _ _ us hl => match us, hl with | [_, _], _ => rfl
  have F_bothB := fun_mk (st := sBothBehind) l_bothB c_bothB k_bothB
  have b_bothB := F_bothB.binds (ps := ["house", "guessers", "states", "place", "weights"]) fun _ _ _ _ _ _ us hl => match us, hl with | [_, _, _, _, _], _ => rfl
  have F_needRows := fun_mk (st := sNeedRows) l_needRows c_needRows k_needRows
  have b_needRows := F_needRows.binds (ps := ["most", "places", "length"]) fun _ _ _ _ _ _ us hl => match us, hl with | [_, _, _], _ => rfl
  have F_worst := fun_mk (st := sWorst) l_worst c_worst k_worst
  have b_worst := F_worst.binds (ps := ["setting", "guesser", "other", "weights", "places", "length"]) fun _ _ _ _ _ _ us hl => match us, hl with | [_, _, _, _, _, _], _ => rfl
  have F_taken := fun_mk (st := sTaken) l_taken c_taken k_taken
  have b_taken := F_taken.binds (ps := ["_law_row", "_law_many"]) fun _ _ _ _ _ _ us hl => match us, hl with | [_, _], _ => rfl
  have F_lGuesser := fun_mk (st := sLGuesser) l_lGuesser c_lGuesser k_lGuesser
  have b_lGuesser := F_lGuesser.binds (ps := ["_law_row", "_law_within"]) fun _ _ _ _ _ _ us hl => match us, hl with | [_, _], _ => rfl
  have F_lSetting := fun_mk (st := sLSetting) l_lSetting c_lSetting k_lSetting
  have b_lSetting := F_lSetting.binds (ps := ["_law_row", "_law_most"]) fun _ _ _ _ _ _ us hl => match us, hl with | [_, _], _ => rfl
  have F_lPlaces := fun_mk (st := sLPlaces) l_lPlaces c_lPlaces k_lPlaces
  have b_lPlaces := F_lPlaces.binds (ps := ["_law_row", "_law_places_here", "_law_most"]) fun _ _ _ _ _ _ us hl => match us, hl with | [_, _, _], _ => rfl
  have F_lDeeds := fun_mk (st := sLDeeds) l_lDeeds c_lDeeds k_lDeeds
  have b_lDeeds := F_lDeeds.binds (ps := ["_law_row", "_law_places_here", "_law_most"]) fun _ _ _ _ _ _ us hl => match us, hl with | [_, _, _], _ => rfl
  have F_same := fun_mk (st := sSame) l_same c_same k_same
  have b_same := F_same.binds (ps := ["_law_setting_here", "_law_one", "_law_other", "_law_row"]) fun _ _ _ _ _ _ us hl => match us, hl with | [_, _, _, _], _ => rfl
  have F_law := fun_mk (st := sLaw) l_law c_law k_law
  have F_houseI := fun_mk (st := sHouse) l_houseI c_houseI k_houseI
  have b_houseI := F_houseI.binds (ps := ["self", "setting"]) fun _ _ _ _ _ _ us hl => match us, hl with | [_, _], _ => rfl
  have F_runI := fun_mk (st := sRun) l_runI c_runI k_runI
  have b_runI := F_runI.binds (ps := ["self", "setting", "guesser", "row"]) fun _ _ _ _ _ _ us hl => match us, hl with | [_, _, _, _], _ => rfl
  have F_deed := fun_mk (st := sDoDeed) l_deed c_deed k_deed
  have b_deed := F_deed.binds (ps := ["self", "turn", "deed"]) fun _ _ _ _ _ _ us hl => match us, hl with | [_, _, _], _ => rfl
  have T : Tp K w mg := {
    len := PySem.W.mg_none_of X G z_len
    range := PySem.W.mg_none_of X G z_range
    zip := PySem.W.mg_none_of X G z_zip
    dict := PySem.W.mg_none_of X G z_dict
    tuple := PySem.W.mg_none_of X G z_tuple
    list := PySem.W.mg_none_of X G z_list
    sorted := PySem.W.mg_none_of X G z_sorted
    int := PySem.W.mg_none_of X G z_int
    min := PySem.W.mg_none_of X G z_min
    sorts := ⟨d_sorts, PySem.W.mg_of X G a_d_sorts, ⟨es_sorts, m_sorts, at_sorts, lit_sorts, low_sorts⟩, by
      intro p hp
      simp only [Tx.sorts, List.mem_cons, List.not_mem_nil, or_false] at hp
      rcases hp with rfl | rfl | rfl | rfl | rfl
      · exact ⟨t_sorts_none, e_sorts_none⟩
      · exact ⟨t_sorts_next, e_sorts_next⟩
      · exact ⟨t_sorts_stride, e_sorts_stride⟩
      · exact ⟨t_sorts_pairs, e_sorts_pairs⟩
      · exact ⟨t_sorts_both, e_sorts_both⟩⟩
    mostOf := ⟨d_mostOf, PySem.W.mg_of X G a_d_mostOf, ⟨es_mostOf, m_mostOf, at_mostOf, lit_mostOf, low_mostOf⟩, by
      intro p hp
      simp only [Tx.mostOf, List.mem_cons, List.not_mem_nil, or_false] at hp
      rcases hp with rfl | rfl | rfl
      · exact ⟨t_mostOf_next, e_mostOf_next⟩
      · exact ⟨t_mostOf_stride, e_mostOf_stride⟩
      · exact ⟨t_mostOf_pairs, e_mostOf_pairs⟩⟩
    within := ⟨t_within, PySem.W.mg_of X G v_within⟩
    mPlaces := ⟨t_mPlaces, PySem.W.mg_of X G v_mPlaces⟩
    mNumber := ⟨t_mNumber, PySem.W.mg_of X G v_mNumber⟩
    mRoom := ⟨t_mRoom, PySem.W.mg_of X G v_mRoom⟩
    mLate := ⟨t_mLate, PySem.W.mg_of X G v_mLate⟩
    mWay := ⟨t_mWay, PySem.W.mg_of X G v_mWay⟩
    mDeeds := ⟨t_mDeeds, PySem.W.mg_of X G v_mDeeds⟩
    mWeight := ⟨t_mWeight, PySem.W.mg_of X G v_mWeight⟩
    mAsked := ⟨t_mAsked, PySem.W.mg_of X G v_mAsked⟩
    mLength := ⟨t_mLength, PySem.W.mg_of X G v_mLength⟩
    mRows := ⟨t_mRows, PySem.W.mg_of X G v_mRows⟩
  }
  have E : Ev K mg := {
    isG := ⟨f_isG, _, ⟨F_isG, PySem.W.mg_of X G a_isG, b_isG⟩⟩
    needG := ⟨f_needG, _, ⟨F_needG, PySem.W.mg_of X G a_needG, b_needG⟩⟩
    first := ⟨f_first, _, ⟨F_first, PySem.W.mg_of X G a_first, b_first⟩⟩
    strided := ⟨f_strided, _, ⟨F_strided, PySem.W.mg_of X G a_strided, b_strided⟩⟩
    paired := ⟨f_paired, _, ⟨F_paired, PySem.W.mg_of X G a_paired, b_paired⟩⟩
    stepped := ⟨f_stepped, _, ⟨F_stepped, PySem.W.mg_of X G a_stepped, b_stepped⟩⟩
    guesses := ⟨f_guesses, _, ⟨F_guesses, PySem.W.mg_of X G a_guesses, b_guesses⟩⟩
    needSetting := ⟨f_needSetting, _, ⟨F_needSetting, PySem.W.mg_of X G a_needSetting, b_needSetting⟩⟩
    isDeed := ⟨f_isDeed, _, ⟨F_isDeed, PySem.W.mg_of X G a_isDeed, b_isDeed⟩⟩
    needRow := ⟨f_needRow, _, ⟨F_needRow, PySem.W.mg_of X G a_needRow, b_needRow⟩⟩
    begun := ⟨f_begun, _, ⟨F_begun, PySem.W.mg_of X G a_begun, b_begun⟩⟩
    laid := ⟨f_laid, _, ⟨F_laid, PySem.W.mg_of X G a_laid, b_laid⟩⟩
    come := ⟨f_come, _, ⟨F_come, PySem.W.mg_of X G a_come, b_come⟩⟩
    asked := ⟨f_asked, _, ⟨F_asked, PySem.W.mg_of X G a_asked, b_asked⟩⟩
    started := ⟨f_started, _, ⟨F_started, PySem.W.mg_of X G a_started, b_started⟩⟩
    gone := ⟨f_gone, _, ⟨F_gone, PySem.W.mg_of X G a_gone, b_gone⟩⟩
    idle := ⟨f_idle, _, ⟨F_idle, PySem.W.mg_of X G a_idle, b_idle⟩⟩
    needAll := ⟨f_needAll, _, ⟨F_needAll, PySem.W.mg_of X G a_needAll, b_needAll⟩⟩
    story := ⟨f_story, _, ⟨F_story, PySem.W.mg_of X G a_story, b_story⟩⟩
    needW := ⟨f_needW, _, ⟨F_needW, PySem.W.mg_of X G a_needW, b_needW⟩⟩
    turnCost := ⟨f_turnCost, _, ⟨F_turnCost, PySem.W.mg_of X G a_turnCost, b_turnCost⟩⟩
    bothB := ⟨f_bothB, _, ⟨F_bothB, PySem.W.mg_of X G a_bothB, b_bothB⟩⟩
    needRows := ⟨f_needRows, _, ⟨F_needRows, PySem.W.mg_of X G a_needRows, b_needRows⟩⟩
    worst := ⟨f_worst, _, ⟨F_worst, PySem.W.mg_of X G a_worst, b_worst⟩⟩
    taken := ⟨f_taken, _, ⟨F_taken, PySem.W.mg_of X G a_taken, b_taken⟩⟩
    lGuesser := ⟨f_lGuesser, _, ⟨F_lGuesser, PySem.W.mg_of X G a_lGuesser, b_lGuesser⟩⟩
    lSetting := ⟨f_lSetting, _, ⟨F_lSetting, PySem.W.mg_of X G a_lSetting, b_lSetting⟩⟩
    lPlaces := ⟨f_lPlaces, _, ⟨F_lPlaces, PySem.W.mg_of X G a_lPlaces, b_lPlaces⟩⟩
    lDeeds := ⟨f_lDeeds, _, ⟨F_lDeeds, PySem.W.mg_of X G a_lDeeds, b_lDeeds⟩⟩
    same := ⟨f_same, _, ⟨F_same, PySem.W.mg_of X G a_same, b_same⟩⟩
    cHouse := cHouse
    house := ⟨PySem.W.mg_of X G a_cHouse, ⟨pg_cHouse, hd_cHouse, po_cHouse, sa_cHouse⟩, by
      intro x hx
      simp only [List.mem_cons, List.not_mem_nil, or_false] at hx
      rcases hx with rfl | rfl | rfl | rfl
      · exact n_cHouse_places
      · exact n_cHouse_room
      · exact n_cHouse_late
      · exact n_cHouse_most⟩
    cRun := cRun
    run := ⟨PySem.W.mg_of X G a_cRun, ⟨pg_cRun, hd_cRun, po_cRun, sa_cRun⟩, by
      intro x hx
      simp only [List.mem_cons, List.not_mem_nil, or_false] at hx
      rcases hx with rfl | rfl | rfl | rfl | rfl | rfl | rfl
      · exact n_cRun_house
      · exact n_cRun_guesser
      · exact n_cRun_cells
      · exact n_cRun_lies
      · exact n_cRun_answers
      · exact n_cRun_rows
      · exact n_cRun_state⟩
    houseI := ⟨f_houseI, _, F_houseI, b_houseI⟩
    runI := ⟨f_runI, _, F_runI, b_runI⟩
    deed := ⟨f_deed, _, F_deed, b_deed⟩
    houseM := ⟨mk_cHouse, a_houseI, i_houseI, kc_cHouse⟩
    runM := ⟨mk_cRun, a_runI, i_runI, kc_cRun⟩
    deedM := ⟨a_deed, i_deed, k_deed⟩
  }
  exact ⟨_, fun s v => .of_eq rfl, fun base _ _ => ok_law F_law T E hD⟩
theorem walk {l : PySem.W.OpenLaw} {q : Program} {loose : List Str} {XP : (Str → Option Value) → Heap → Prop} {YP : World → Heap → Prop} {d : DefRec} {K : Params → PySem.W.Frag} (hn : l.most = some 63) (hdf : d.params.defaults = [])
    (hY : ∀ (w : World) (h : Heap), YP w h → (K w.params).In h)
    (F : ∀ (w : World) (mg : Str → Option Value) (fa : Addr) (h : Heap), (K w.params).In h → h.Ns mainGlobals mg → mg d.name = some (.ref fa) → ∃ fd : FuncData, (∀ (s : Shared) (u : Value), BindsTo s fd ⟨[u], []⟩ [("_law_script", u)]) ∧ ∀ base : Heap, (K w.params).In base → base.Ns mainGlobals mg → FnOk l.prog w (K w.params) mg base CX0 12 fa fd ["_law_script"] (fun vs H Q _ => spLaw (K w.params) vs H Q)) :
    PySem.W.WalkO q loose XP YP l.row.toRowW d [] (fun f vs => PySem.call f vs) :=
  L2.walk_of (n := 63) (k := 12) (x := "_law_script") (CX := fun _ => CX0) (sp := fun w => fun vs H Q _ => spLaw (K w.params) vs H Q) hn (by decide) hdf ⟨rfl, by decide, by decide⟩ hY F (fun w H a ns hl hO hS => by
    refine ⟨a, ns, rfl, ?_, fun _ => rfl⟩
    rcases hS with (h | h) | h
    · rcases hO a with z | ⟨ob, ys, z⟩
      · rw [z] at h; cases h
      · rw [z] at h; cases h
    · exact .inl h
    · exact .inr h) fun _ _ _ _ _ z => z
end W
end
set_option Elab.async false
set_option linter.all false
set_option maxRecDepth 100000

open PySem PySem.W PyProof.Rows
set_option maxHeartbeats 0 in
theorem PySem.Challenge.cw_stridewell_k10_whole_both_of_some_holds : PySem.Challenge.rw_stridewell_k10_whole_both_of_some.Holds := by
  w_on; o_law; k_head; (case hw => w_witness2)
  k_fill
  refine W.walk (l := PySem.Challenge.rw_stridewell_k10_whole_both_of_some) rfl rfl (fun w h Y => PySem.W.kIn_of Y) ?F
  case F =>
    intro w mg fa h KX G hmg
    refine' W.all_mk (Hu.deep_ok w) KX G hmg ?a_isG ?l_isG ?c_isG ?k_isG ?a_needG ?l_needG ?c_needG ?k_needG ?a_first ?l_first ?c_first ?k_first ?a_strided ?l_strided ?c_strided ?k_strided ?a_paired ?l_paired ?c_paired ?k_paired ?a_stepped ?l_stepped ?c_stepped ?k_stepped ?a_guesses ?l_guesses ?c_guesses ?k_guesses ?a_needSetting ?l_needSetting ?c_needSetting ?k_needSetting ?a_isDeed ?l_isDeed ?c_isDeed ?k_isDeed ?a_needRow ?l_needRow ?c_needRow ?k_needRow ?a_begun ?l_begun ?c_begun ?k_begun ?a_laid ?l_laid ?c_laid ?k_laid ?a_come ?l_come ?c_come ?k_come ?a_asked ?l_asked ?c_asked ?k_asked ?a_started ?l_started ?c_started ?k_started ?a_gone ?l_gone ?c_gone ?k_gone ?a_idle ?l_idle ?c_idle ?k_idle ?a_needAll ?l_needAll ?c_needAll ?k_needAll ?a_story ?l_story ?c_story ?k_story ?a_needW ?l_needW ?c_needW ?k_needW ?a_turnCost ?l_turnCost ?c_turnCost ?k_turnCost ?a_bothB ?l_bothB ?c_bothB ?k_bothB ?a_needRows ?l_needRows ?c_needRows ?k_needRows ?a_worst ?l_worst ?c_worst ?k_worst ?a_taken ?l_taken ?c_taken ?k_taken ?a_lGuesser ?l_lGuesser ?c_lGuesser ?k_lGuesser ?a_lSetting ?l_lSetting ?c_lSetting ?k_lSetting ?a_lPlaces ?l_lPlaces ?c_lPlaces ?k_lPlaces ?a_lDeeds ?l_lDeeds ?c_lDeeds ?k_lDeeds ?a_same ?l_same ?c_same ?k_same ?a_law ?l_law ?c_law ?k_law ?a_cHouse ?pg_cHouse ?hd_cHouse ?po_cHouse ?sa_cHouse ?mk_cHouse ?kc_cHouse ?n_cHouse_places ?n_cHouse_room ?n_cHouse_late ?n_cHouse_most ?a_cRun ?pg_cRun ?hd_cRun ?po_cRun ?sa_cRun ?mk_cRun ?kc_cRun ?n_cRun_house ?n_cRun_guesser ?n_cRun_cells ?n_cRun_lies ?n_cRun_answers ?n_cRun_rows ?n_cRun_state ?a_houseI ?i_houseI ?l_houseI ?c_houseI ?k_houseI ?a_runI ?i_runI ?l_runI ?c_runI ?k_runI ?a_deed ?i_deed ?l_deed ?c_deed ?k_deed ?z_len ?z_range ?z_zip ?z_dict ?z_tuple ?z_list ?z_sorted ?z_int ?z_min ?v_within ?v_mPlaces ?v_mNumber ?v_mRoom ?v_mLate ?v_mWay ?v_mDeeds ?v_mWeight ?v_mAsked ?v_mLength ?v_mRows ?a_d_sorts ?at_sorts ?lit_sorts ?low_sorts ?e_sorts_none ?e_sorts_next ?e_sorts_stride ?e_sorts_pairs ?e_sorts_both ?a_d_mostOf ?at_mostOf ?lit_mostOf ?low_mostOf ?e_mostOf_next ?e_mostOf_stride ?e_mostOf_pairs
    (case a_isG => k_is); (case l_isG => k_is); (case c_isG => k_is); (case k_isG => k_is); (case a_needG => k_is); (case l_needG => k_is); (case c_needG => k_is)
    (case k_needG => k_is); (case a_first => k_is); (case l_first => k_is); (case c_first => k_is); (case k_first => k_is); (case a_strided => k_is); (case l_strided => k_is)
    (case c_strided => k_is); (case k_strided => k_is); (case a_paired => k_is); (case l_paired => k_is); (case c_paired => k_is); (case k_paired => k_is); (case a_stepped => k_is)
    (case l_stepped => k_is); (case c_stepped => k_is); (case k_stepped => k_is); (case a_guesses => k_is); (case l_guesses => k_is); (case c_guesses => k_is)
    (case k_guesses => k_is); (case a_needSetting => k_is); (case l_needSetting => k_is); (case c_needSetting => k_is); (case k_needSetting => k_is); (case a_isDeed => k_is)
    (case l_isDeed => k_is); (case c_isDeed => k_is); (case k_isDeed => k_is); (case a_needRow => k_is); (case l_needRow => k_is); (case c_needRow => k_is)
    (case k_needRow => k_is); (case a_begun => k_is); (case l_begun => k_is); (case c_begun => k_is); (case k_begun => k_is); (case a_laid => k_is); (case l_laid => k_is)
    (case c_laid => k_is); (case k_laid => k_is); (case a_come => k_is); (case l_come => k_is); (case c_come => k_is); (case k_come => k_is); (case a_asked => k_is)
    (case l_asked => k_is); (case c_asked => k_is); (case k_asked => k_is); (case a_started => k_is); (case l_started => k_is); (case c_started => k_is); (case k_started => k_is)
    (case a_gone => k_is); (case l_gone => k_is); (case c_gone => k_is); (case k_gone => k_is); (case a_idle => k_is); (case l_idle => k_is); (case c_idle => k_is)
    (case k_idle => k_is); (case a_needAll => k_is); (case l_needAll => k_is); (case c_needAll => k_is); (case k_needAll => k_is); (case a_story => k_is); (case l_story => k_is)
    (case c_story => k_is); (case k_story => k_is); (case a_needW => k_is); (case l_needW => k_is); (case c_needW => k_is); (case k_needW => k_is); (case a_turnCost => k_is)
    (case l_turnCost => k_is); (case c_turnCost => k_is); (case k_turnCost => k_is); (case a_bothB => k_is); (case l_bothB => k_is); (case c_bothB => k_is); (case k_bothB => k_is)
    (case a_needRows => k_is); (case l_needRows => k_is); (case c_needRows => k_is); (case k_needRows => k_is); (case a_worst => k_is); (case l_worst => k_is)
    (case c_worst => k_is); (case k_worst => k_is); (case a_taken => k_is); (case l_taken => k_is); (case c_taken => k_is); (case k_taken => k_is); (case a_lGuesser => k_is)
    (case l_lGuesser => k_is); (case c_lGuesser => k_is); (case k_lGuesser => k_is); (case a_lSetting => k_is); (case l_lSetting => k_is); (case c_lSetting => k_is)
    (case k_lSetting => k_is); (case a_lPlaces => k_is); (case l_lPlaces => k_is); (case c_lPlaces => k_is); (case k_lPlaces => k_is); (case a_lDeeds => k_is)
    (case l_lDeeds => k_is); (case c_lDeeds => k_is); (case k_lDeeds => k_is); (case a_same => k_is); (case l_same => k_is); (case c_same => k_is); (case k_same => k_is)
    (case a_law => k_is); (case l_law => k_is); (case c_law => k_is); (case k_law => k_is); (case a_cHouse => k_is); (case pg_cHouse => k_is); (case hd_cHouse => k_is)
    (case po_cHouse => k_is); (case sa_cHouse => k_is); (case mk_cHouse => k_is); (case kc_cHouse => k_is); (case n_cHouse_places => k_is); (case n_cHouse_room => k_is)
    (case n_cHouse_late => k_is); (case n_cHouse_most => k_is); (case a_cRun => k_is); (case pg_cRun => k_is); (case hd_cRun => k_is); (case po_cRun => k_is)
    (case sa_cRun => k_is); (case mk_cRun => k_is); (case kc_cRun => k_is); (case n_cRun_house => k_is); (case n_cRun_guesser => k_is); (case n_cRun_cells => k_is)
    (case n_cRun_lies => k_is); (case n_cRun_answers => k_is); (case n_cRun_rows => k_is); (case n_cRun_state => k_is); (case a_houseI => k_is); (case i_houseI => k_is)
    (case l_houseI => k_is); (case c_houseI => k_is); (case k_houseI => k_is); (case a_runI => k_is); (case i_runI => k_is); (case l_runI => k_is); (case c_runI => k_is)
    (case k_runI => k_is); (case a_deed => k_is); (case i_deed => k_is); (case l_deed => k_is); (case c_deed => k_is); (case k_deed => k_is); (case z_len => k_is)
    (case z_range => k_is); (case z_zip => k_is); (case z_dict => k_is); (case z_tuple => k_is); (case z_list => k_is); (case z_sorted => k_is); (case z_int => k_is)
    (case z_min => k_is); (case v_within => k_is); (case v_mPlaces => k_is); (case v_mNumber => k_is); (case v_mRoom => k_is); (case v_mLate => k_is); (case v_mWay => k_is)
    (case v_mDeeds => k_is); (case v_mWeight => k_is); (case v_mAsked => k_is); (case v_mLength => k_is); (case v_mRows => k_is); (case a_d_sorts => k_is); (case at_sorts => k_is)
    (case lit_sorts => exact ⟨⟨_, _, rfl, rfl⟩, ⟨⟨_, _, rfl, rfl⟩, ⟨⟨_, _, rfl, rfl⟩, ⟨⟨_, _, rfl, rfl⟩, ⟨⟨_, _, rfl, rfl⟩, trivial⟩⟩⟩⟩⟩); (case low_sorts => decide +kernel)
    (case e_sorts_none => k_is); (case e_sorts_next => k_is); (case e_sorts_stride => k_is); (case e_sorts_pairs => k_is); (case e_sorts_both => k_is); (case a_d_mostOf => k_is)
    (case at_mostOf => k_is); (case lit_mostOf => exact ⟨⟨_, _, rfl, rfl⟩, ⟨⟨_, _, rfl, rfl⟩, ⟨⟨_, _, rfl, rfl⟩, trivial⟩⟩⟩); (case low_mostOf => decide +kernel)
    (case e_mostOf_next => k_is); (case e_mostOf_stride => k_is); (case e_mostOf_pairs => k_is)
