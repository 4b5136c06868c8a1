import PyProof.Rows.All
import Wide.All
import OpenK.AllK
import Wide.FinOn
import PySem.Challenge.RW_bidclear_k13_whole_no_other_set
import HandS.ForMost
import HandS.Evl
import HandS.IsInst
import HandS.SortInts
import HandS.SortRule
import HandS.ExcCtx
import HandS.EndBits
import HandS.HotCalls
import HandS.ExcIs
import HandS.WordsExc
set_option Elab.async false
set_option linter.all false
set_option maxRecDepth 100000
set_option maxHeartbeats 2000000
set_option Elab.async false
set_option linter.all false
set_option maxRecDepth 100000
/-! Value semantics over the hand layer: names hold data, fresh lists are owned by one name. -/
namespace VS
open PySem L2
open Evl (Ex ex_rd ex_l ex_t)

/-! ### heaps -/
theorem Ex.ne {H H' : Hp} (e : Ex H H') {a : Addr} (h : H' a = none) : H a = none := Evl.fresh_back e h
/-- what was frozen, and all that is new since H -/
def Grow (B H H' : Hp) : Hp := fun a => match H a with
  | none => H' a
  | some _ => B a
theorem grow_new {B H H' : Hp} {a : Addr} (h : H a = none) : Grow B H H' a = H' a := by unfold Grow; rw [h]
theorem grow_old {B H H' : Hp} {a : Addr} (h : H a ≠ none) : Grow B H H' a = B a := by
  unfold Grow
  cases e : H a with
  | none => exact absurd e h
  | some o => rfl
theorem ne_some {H : Hp} {a : Addr} {o : HO} (h : H a = some o) : H a ≠ none := fun z => by rw [h] at z; cases z
theorem grow_ex1 {B H H' : Hp} (e : Ex B H) : Ex B (Grow B H H') := fun a o h => by
  rw [grow_old (ne_some (e a o h))]
  exact h
theorem grow_ex2 {B H H' : Hp} (e : Ex B H) (e' : Ex H H') : Ex (Grow B H H') H' := fun a o h => by
  cases q : H a with
  | none => rw [grow_new q] at h; exact h
  | some u => rw [grow_old (ne_some q)] at h; exact e' a o (e a o h)
theorem grow_mono {B B1 H H' : Hp} (e : Ex B B1) : Ex (Grow B H H') (Grow B1 H H') := fun a o h => by
  cases q : H a with
  | none => rw [grow_new q] at h ⊢; exact h
  | some u => rw [grow_old (ne_some q)] at h ⊢; exact e a o h
theorem grow_right {B H H1 H2 : Hp} (e : Ex H1 H2) : Ex (Grow B H H1) (Grow B H H2) := fun a o h => by
  cases q : H a with
  | none => rw [grow_new q] at h ⊢; exact e a o h
  | some u => rw [grow_old (ne_some q)] at h ⊢; exact h
theorem grow_trans {B H H1 H2 : Hp} (e1 : Ex H H1) (e2 : Ex H1 H2) : Ex (Grow (Grow B H H1) H1 H2) (Grow B H H2) := fun a o h => by
  cases q : H1 a with
  | none =>
    rw [grow_new q] at h
    rw [grow_new (Ex.ne e1 q)]
    exact h
  | some u =>
    rw [grow_old (ne_some q)] at h
    cases q0 : H a with
    | none =>
      rw [grow_new q0] at h ⊢
      exact e2 a o h
    | some u0 =>
      rw [grow_old (ne_some q0)] at h ⊢
      exact h
def del (H : Hp) (p : Addr) : Hp := fun a => if a = p then none else H a
theorem del_same {H : Hp} {p : Addr} : del H p p = none := by unfold del; rw [if_pos rfl]
theorem del_ne {H : Hp} {p a : Addr} (h : a ≠ p) : del H p a = H a := by unfold del; rw [if_neg h]
theorem del_ex {H : Hp} {p : Addr} : Ex (del H p) H := fun a o h => by
  by_cases q : a = p
  · rw [q, del_same] at h; cases h
  · rw [del_ne q] at h; exact h
/-- what stood before p was made -/
theorem ex_del {H H' : Hp} {p : Addr} (e : Ex H H') (h : H p = none) : Ex H (del H' p) := fun a o q => by
  rw [del_ne (ne_of_none q h)]
  exact e a o q

/-! ### data -/
mutual
/-- the value v stands for the data d -/
inductive Rep (K : PySem.W.Frag) (H : Hp) : V → PyData → Prop
  | non : Rep K H .non .none
  | bl (b : Bool) : Rep K H (.bl b) (.bool b)
  | int (i : Int) : Rep K H (.int i) (.int i)
  | str (x : Str) : Rep K H (.str x) (.str x)
  | lst {a : Addr} {xs : List V} {ds : List PyData} : H a = some (.lst xs) → RepAll K H xs ds → Rep K H (.ref a) (.list ds)
  | tup {a : Addr} {xs : List V} {ds : List PyData} : H a = some (.tup xs) → RepAll K H xs ds → Rep K H (.ref a) (.tuple ds)
  | scr {a : Addr} {ns : List Int} : SqL K H a (ns.map V.int) → Rep K H (.ref a) (.dict [(.none, .list (ns.map PyData.int))])
  | edict {a : Addr} : H a = some (.dK []) → Rep K H (.ref a) (.dict [])
  | raw (a : Addr) : Rep K H (.ref a) (.dict [(.bool true, .int ((a : Nat) : Int))])
inductive RepAll (K : PySem.W.Frag) (H : Hp) : List V → List PyData → Prop
  | nil : RepAll K H [] []
  | cons {v : V} {vs : List V} {d : PyData} {ds : List PyData} : Rep K H v d → RepAll K H vs ds → RepAll K H (v :: vs) (d :: ds)
end
/-- a reference, no more -/
abbrev rawD (a : Addr) : PyData := .dict [(.bool true, .int ((a : Nat) : Int))]
/-- the script, a list that is read -/
abbrev scrD (ns : List Int) : PyData := .dict [(.none, .list (ns.map PyData.int))]
mutual
theorem Rep.mono {K : PySem.W.Frag} {H H' : Hp} (e : Ex H H') : ∀ {v : V} {d : PyData}, Rep K H v d → Rep K H' v d
  | _, _, .non => .non
  | _, _, .bl b => .bl b
  | _, _, .int i => .int i
  | _, _, .str x => .str x
  | _, _, .lst h r => .lst (e _ _ h) (RepAll.mono e r)
  | _, _, .tup h r => .tup (e _ _ h) (RepAll.mono e r)
  | _, _, .scr h => .scr (ex_l e h)
  | _, _, .edict h => .edict (e _ _ h)
  | _, _, .raw a => .raw a
theorem RepAll.mono {K : PySem.W.Frag} {H H' : Hp} (e : Ex H H') : ∀ {vs : List V} {ds : List PyData}, RepAll K H vs ds → RepAll K H' vs ds
  | _, _, .nil => .nil
  | _, _, .cons a r => .cons (Rep.mono e a) (RepAll.mono e r)
end
section
variable {K : PySem.W.Frag} {H H' : Hp}
theorem RepAll.length : ∀ {vs : List V} {ds : List PyData}, RepAll K H vs ds → vs.length = ds.length
  | _, _, .nil => rfl
  | _, _, .cons _ r => congrArg (· + 1) (RepAll.length r)
theorem RepAll.get : ∀ {vs : List V} {ds : List PyData} {i : Nat} {d : PyData}, RepAll K H vs ds → ds[i]? = some d → ∃ v, vs[i]? = some v ∧ Rep K H v d
  | _, _, i, d, .nil, h => by simp at h
  | _, _, 0, d, .cons a _, h => by
    simp at h
    subst h
    exact ⟨_, rfl, a⟩
  | _, _, i + 1, d, .cons _ r, h => by
    obtain ⟨v, h1, h2⟩ := RepAll.get (i := i) r (by simpa using h)
    exact ⟨v, by simpa using h1, h2⟩
theorem RepAll.get' : ∀ {vs : List V} {ds : List PyData} {i : Nat} {v : V}, RepAll K H vs ds → vs[i]? = some v → ∃ d, ds[i]? = some d ∧ Rep K H v d
  | _, _, i, d, .nil, h => by simp at h
  | _, _, 0, d, .cons a _, h => by
    simp at h
    subst h
    exact ⟨_, rfl, a⟩
  | _, _, i + 1, d, .cons _ r, h => by
    obtain ⟨v, h1, h2⟩ := RepAll.get' (i := i) r (by simpa using h)
    exact ⟨v, by simpa using h1, h2⟩
theorem RepAll.append : ∀ {vs us : List V} {ds es : List PyData}, RepAll K H vs ds → RepAll K H us es → RepAll K H (vs ++ us) (ds ++ es)
  | _, _, _, _, .nil, q => q
  | _, _, _, _, .cons a r, q => .cons a (RepAll.append r q)
theorem RepAll.set {v : V} {d : PyData} (h : Rep K H v d) : ∀ {vs : List V} {ds : List PyData} {j : Nat}, RepAll K H vs ds → RepAll K H (vs.set j v) (ds.set j d)
  | _, _, _, .nil => .nil
  | _, _, 0, .cons _ r => .cons h r
  | _, _, _ + 1, .cons a r => .cons a (RepAll.set h r)
theorem RepAll.drop : ∀ (n : Nat) {vs : List V} {ds : List PyData}, RepAll K H vs ds → RepAll K H (vs.drop n) (ds.drop n)
  | 0, _, _, r => r
  | _ + 1, _, _, .nil => .nil
  | n + 1, _, _, .cons _ r => RepAll.drop n r
theorem RepAll.take : ∀ (n : Nat) {vs : List V} {ds : List PyData}, RepAll K H vs ds → RepAll K H (vs.take n) (ds.take n)
  | 0, _, _, _ => .nil
  | _ + 1, _, _, .nil => .nil
  | n + 1, _, _, .cons a r => .cons a (RepAll.take n r)
theorem RepAll.ints : ∀ (ns : List Int), RepAll K H (ns.map V.int) (ns.map PyData.int)
  | [] => .nil
  | n :: ns => .cons (.int n) (RepAll.ints ns)
theorem RepAll.of_ints : ∀ {ns : List Int} {vs : List V}, RepAll K H vs (ns.map PyData.int) → vs = ns.map V.int
  | [], vs, h => by cases h; rfl
  | n :: ns, vs, h => by
    cases h with
    | cons a r =>
      cases a
      rw [RepAll.of_ints r]
      rfl
/-- scalars stand by themselves -/
def scalarD : PyData → Bool
  | .none => true
  | .bool _ => true
  | .int _ => true
  | .str _ => true
  | _ => false
theorem Rep.scalar {v : V} {d : PyData} (h : Rep K H v d) (s : scalarD d = true) : Rep K H' v d := by
  cases h with
  | non => exact .non
  | bl b => exact .bl b
  | int i => exact .int i
  | str x => exact .str x
  | lst _ _ => cases s
  | tup _ _ => cases s
  | scr _ => cases s
  | edict _ => cases s
  | raw _ => cases s
theorem Rep.int_eq {v : V} {i : Int} (h : Rep K H v (.int i)) : v = .int i := by cases h; rfl
theorem Rep.str_eq {v : V} {i : Str} (h : Rep K H v (.str i)) : v = .str i := by cases h; rfl
theorem Rep.bool_eq {v : V} {i : Bool} (h : Rep K H v (.bool i)) : v = .bl i := by cases h; rfl
theorem Rep.none_eq {v : V} (h : Rep K H v .none) : v = .non := by cases h; rfl
theorem Rep.list_eq {v : V} {ds : List PyData} (h : Rep K H v (.list ds)) : ∃ a xs, v = .ref a ∧ H a = some (.lst xs) ∧ RepAll K H xs ds := by
  cases h with
  | lst h r => exact ⟨_, _, rfl, h, r⟩
theorem Rep.tup_eq {v : V} {ds : List PyData} (h : Rep K H v (.tuple ds)) : ∃ a xs, v = .ref a ∧ H a = some (.tup xs) ∧ RepAll K H xs ds := by
  cases h with
  | tup h r => exact ⟨_, _, rfl, h, r⟩
theorem Rep.raw_eq {v : V} {a : Addr} (h : Rep K H v (rawD a)) : v = .ref a := by
  generalize e : rawD a = d at h
  cases h with
  | raw b =>
    unfold rawD at e
    injection e with e
    injection e with e _
    injection e with _ e
    injection e with e
    have q : a = b := Int.ofNat.inj e
    rw [q]
  | scr _ => cases e
  | non => cases e
  | bl b => cases e
  | int i => cases e
  | str x => cases e
  | lst _ _ => cases e
  | tup _ _ => cases e
  | edict _ => cases e
theorem map_int_inj : ∀ {ns ms : List Int}, ns.map PyData.int = ms.map PyData.int → ns = ms
  | [], [], _ => rfl
  | [], _ :: _, h => by simp at h
  | _ :: _, [], h => by simp at h
  | n :: ns, m :: ms, h => by
    rw [List.map_cons, List.map_cons] at h
    injection h with h1 h2
    injection h1 with h1
    rw [h1, map_int_inj h2]
theorem Rep.scr_eq {v : V} {ns : List Int} (h : Rep K H v (scrD ns)) : ∃ a, v = .ref a ∧ SqL K H a (ns.map V.int) := by
  generalize e : scrD ns = d at h
  cases h with
  | @scr a ms h =>
    unfold scrD at e
    injection e with e
    injection e with e _
    injection e with _ e
    injection e with e
    rw [map_int_inj e]
    exact ⟨_, rfl, h⟩
  | non => cases e
  | bl b => cases e
  | int i => cases e
  | str x => cases e
  | lst _ _ => cases e
  | tup _ _ => cases e
  | edict _ => cases e
  | raw _ => cases e
end

/-! ### what evaluates to which data -/
/-- B: what may be looked at and stays -/
def EnvR (K : PySem.W.Frag) (B : Hp) (σ : L2.St) (ds : List (Option PyData)) : Prop := σ.length = ds.length ∧ ∀ (i : Nat) (d : PyData), ds[i]? = some (some d) → ∃ v, σ[i]? = some (some v) ∧ Rep K B v d
theorem EnvR.mono {K : PySem.W.Frag} {B B' : Hp} {σ : L2.St} {ds : List (Option PyData)} (e : Ex B B') (h : EnvR K B σ ds) : EnvR K B' σ ds := ⟨h.1, fun i d q => by
  obtain ⟨v, h1, h2⟩ := h.2 i d q
  exact ⟨v, h1, h2.mono e⟩⟩
def DE (K : PySem.W.Frag) (te : TE) (ds : List (Option PyData)) (d : PyData) : Prop :=
  ∀ (B : Hp) (σ : L2.St), EnvR K B σ ds → ∀ H, Ex B H → ∀ Q : VK, (∀ v H', Ex H H' → Rep K (Grow B H H') v d → Q v H') → te σ H Q
def DT (K : PySem.W.Frag) (tt : TT) (ds : List (Option PyData)) (b : Bool) : Prop :=
  ∀ (B : Hp) (σ : L2.St), EnvR K B σ ds → ∀ H, Ex B H → ∀ Q : Bool → Hp → Prop, (∀ H', Ex H H' → Q b H') → tt σ H Q
def DA (K : PySem.W.Frag) (ta : TA) (ds : List (Option PyData)) (es : List PyData) : Prop :=
  ∀ (B : Hp) (σ : L2.St), EnvR K B σ ds → ∀ H, Ex B H → ∀ Q : List V → Hp → Prop, (∀ vs H', Ex H H' → RepAll K (Grow B H H') vs es → Q vs H') → ta σ H Q
/-- a NEW list -/
def DN (K : PySem.W.Frag) (te : TE) (ds : List (Option PyData)) (xs : List PyData) : Prop :=
  ∀ (B : Hp) (σ : L2.St), EnvR K B σ ds → ∀ H, Ex B H → ∀ Q : VK, (∀ p vs H', Ex H H' → H p = none → H' p = some (.lst vs) → RepAll K (Grow B H (del H' p)) vs xs → Q (.ref p) H') → te σ H Q
def DO (K : PySem.W.Frag) (to : TO) (ds : List (Option PyData)) (o : Option Int) : Prop :=
  ∀ (B : Hp) (σ : L2.St), EnvR K B σ ds → ∀ H, Ex B H → ∀ Q : Option Int → Hp → Prop, (∀ H', Ex H H' → Q o H') → to σ H Q
/-- it raises the class at C -/
def DX (K : PySem.W.Frag) (te : TE) (ds : List (Option PyData)) (E : XK) (C : Addr) : Prop :=
  ∀ (B : Hp) (σ : L2.St), EnvR K B σ ds → ∀ H, Ex B H → ∀ Q : VK, (∀ H', Ex H H' → E (.ref C) none H') → te σ H Q
def DAX (K : PySem.W.Frag) (ta : TA) (ds : List (Option PyData)) (E : XK) (C : Addr) : Prop :=
  ∀ (B : Hp) (σ : L2.St), EnvR K B σ ds → ∀ H, Ex B H → ∀ Q : List V → Hp → Prop, (∀ H', Ex H H' → E (.ref C) none H') → ta σ H Q
/-- operations on values -/
def D2 (K : PySem.W.Frag) (r : R2) (x y z : PyData) : Prop := ∀ (B H : Hp) (v u : V), Ex B H → Rep K B v x → Rep K B u y → ∀ Q : VK, (∀ w H', Ex H H' → Rep K (Grow B H H') w z → Q w H') → r v u H Q
def D2N (K : PySem.W.Frag) (r : R2) (x y : PyData) (zs : List PyData) : Prop := ∀ (B H : Hp) (v u : V), Ex B H → Rep K B v x → Rep K B u y → ∀ Q : VK, (∀ p vs H', Ex H H' → H p = none → H' p = some (.lst vs) → RepAll K (Grow B H (del H' p)) vs zs → Q (.ref p) H') → r v u H Q
def D1 (K : PySem.W.Frag) (r : V → Hp → VK → Prop) (x z : PyData) : Prop := ∀ (B H : Hp) (v : V), Ex B H → Rep K B v x → ∀ Q : VK, (∀ w H', Ex H H' → Rep K (Grow B H H') w z → Q w H') → r v H Q
def DC (K : PySem.W.Frag) (r : List V → Hp → VK → Prop) (xs : List PyData) (z : PyData) : Prop := ∀ (B H : Hp) (vs : List V), Ex B H → RepAll K B vs xs → ∀ Q : VK, (∀ w H', Ex H H' → Rep K (Grow B H H') w z → Q w H') → r vs H Q
def DCN (K : PySem.W.Frag) (r : List V → Hp → VK → Prop) (xs : List PyData) (zs : List PyData) : Prop := ∀ (B H : Hp) (vs : List V), Ex B H → RepAll K B vs xs → ∀ Q : VK, (∀ p us H', Ex H H' → H p = none → H' p = some (.lst us) → RepAll K (Grow B H (del H' p)) us zs → Q (.ref p) H') → r vs H Q

section
variable {K : PySem.W.Frag} {ds : List (Option PyData)} {ta tb te tc : TE} {t u : TT} {x y z d : PyData} {r r' : R2} {E : XK} {C : Addr} {xs ys zs es : List PyData}

/-- what evaluates at a base does so at a greater one -/
theorem DE.up {B B' : Hp} {σ : L2.St} {H : Hp} {Q : VK} (h : DE K te ds d) (en : EnvR K B σ ds) (e : Ex B B') (e' : Ex B' H) (k : ∀ v H', Ex H H' → Rep K (Grow B' H H') v d → Q v H') : te σ H Q :=
  h B' σ (en.mono e) H e' Q k
theorem grow_same {B H H' : Hp} (e : Ex B H) {v : V} (h : Rep K B v d) : Rep K (Grow B H H') v d := h.mono (grow_ex1 e)

theorem de_var {i : Nat} (h : ds[i]? = some (some d)) : DE K (tVar i) ds d := fun B σ en H e Q k => by
  obtain ⟨v, h1, h2⟩ := en.2 i d h
  exact ⟨v, h1, k v H (Evl.Ex.refl H) (grow_same e h2)⟩
theorem de_int {i : Int} : DE K (tC (.int i)) ds (.int i) := fun B σ en H e Q k => k _ H (Evl.Ex.refl H) (.int i)
theorem de_str {i : Str} : DE K (tC (.str i)) ds (.str i) := fun B σ en H e Q k => k _ H (Evl.Ex.refl H) (.str i)
theorem de_bl {i : Bool} : DE K (tC (.bl i)) ds (.bool i) := fun B σ en H e Q k => k _ H (Evl.Ex.refl H) (.bl i)
theorem de_non : DE K (tC .non) ds .none := fun B σ en H e Q k => k _ H (Evl.Ex.refl H) .non

theorem de_op (ha : DE K ta ds x) (hb : DE K tb ds y) (hr : D2 K r x y z) : DE K (tOp r ta tb) ds z := fun B σ en H e Q k =>
  ha B σ en H e _ fun v H1 e1 rv => hb.up en (grow_ex1 (H' := H1) e) (grow_ex2 e e1) fun u H2 e2 ru => by
    refine hr (Grow (Grow B H H1) H1 H2) H2 v u (grow_ex2 (grow_ex2 e e1) e2) (rv.mono (grow_ex1 (grow_ex2 e e1))) ru Q fun w H3 e3 rw => ?_
    refine k w H3 (e1.trans (e2.trans e3)) (rw.mono ?_)
    exact Evl.Ex.trans (grow_mono (grow_trans e1 e2)) (grow_trans (e1.trans e2) e3)
theorem dn_op (ha : DE K ta ds x) (hb : DE K tb ds y) (hr : D2N K r x y zs) : DN K (tOp r ta tb) ds zs := fun B σ en H e Q k =>
  ha B σ en H e _ fun v H1 e1 rv => hb.up en (grow_ex1 (H' := H1) e) (grow_ex2 e e1) fun u H2 e2 ru => by
    refine hr (Grow (Grow B H H1) H1 H2) H2 v u (grow_ex2 (grow_ex2 e e1) e2) (rv.mono (grow_ex1 (grow_ex2 e e1))) ru Q fun p vs H3 e3 hp h3 rw => ?_
    refine k p vs H3 (e1.trans (e2.trans e3)) (Ex.ne (e1.trans e2) hp) h3 (rw.mono ?_)
    exact Evl.Ex.trans (grow_mono (grow_trans e1 e2)) (grow_trans (e1.trans e2) (ex_del e3 hp))
theorem de_un {r : V → Hp → VK → Prop} (ha : DE K ta ds x) (hr : D1 K r x z) : DE K (tUn r ta) ds z := fun B σ en H e Q k =>
  ha B σ en H e _ fun v H1 e1 rv => hr (Grow B H H1) H1 v (grow_ex2 e e1) rv Q fun w H2 e2 rw => k w H2 (e1.trans e2) (rw.mono (grow_trans e1 e2))
theorem da_nil : DA K tNil ds [] := fun B σ en H e Q k => k [] H (Evl.Ex.refl H) .nil
theorem da_cons {tr : TA} (ha : DE K ta ds x) (hr : DA K tr ds xs) : DA K (tCons ta tr) ds (x :: xs) := fun B σ en H e Q k =>
  ha B σ en H e _ fun v H1 e1 rv => hr (Grow B H H1) σ (en.mono (grow_ex1 e)) H1 (grow_ex2 e e1) _ fun vs H2 e2 rs =>
    k (v :: vs) H2 (e1.trans e2) (.cons (rv.mono (Evl.Ex.trans (grow_ex1 (grow_ex2 e e1)) (grow_trans e1 e2))) (rs.mono (grow_trans e1 e2)))
theorem de_cb {r : List V → Hp → VK → Prop} {ta : TA} (ha : DA K ta ds xs) (hr : DC K r xs z) : DE K (tCB r ta) ds z := fun B σ en H e Q k =>
  ha B σ en H e _ fun vs H1 e1 rs => hr (Grow B H H1) H1 vs (grow_ex2 e e1) rs Q fun w H2 e2 rw => k w H2 (e1.trans e2) (rw.mono (grow_trans e1 e2))
theorem dn_cb {r : List V → Hp → VK → Prop} {ta : TA} (ha : DA K ta ds xs) (hr : DCN K r xs zs) : DN K (tCB r ta) ds zs := fun B σ en H e Q k =>
  ha B σ en H e _ fun vs H1 e1 rs => hr (Grow B H H1) H1 vs (grow_ex2 e e1) rs Q fun p us H2 e2 hp h2 rw => k p us H2 (e1.trans e2) (Ex.ne e1 hp) h2 (rw.mono (grow_trans e1 (ex_del e2 hp)))
/-- a new list is a list -/
theorem de_new (h : DN K te ds xs) : DE K te ds (.list xs) := fun B σ en H e Q k =>
  h B σ en H e Q fun p vs H' e' hp hl r => k _ H' e' (.lst (by rw [grow_new hp]; exact hl) (r.mono (grow_right del_ex)))
theorem de_is {d' : PyData} (h : DE K te ds d) (e : d = d') : DE K te ds d' := e ▸ h
theorem dt_is {b b' : Bool} (h : DT K t ds b) (e : b = b') : DT K t ds b' := e ▸ h

/-! displays -/
theorem upd_ex {H : Hp} {p : Addr} {o : HO} (h : H p = none) : Ex H (upd H p o) := Evl.Ex.new h
theorem del_upd {H : Hp} {p : Addr} {o : HO} (h : H p = none) : Ex H (del (upd H p o) p) := ex_del (upd_ex h) h
theorem len_ok {n : Nat} (h : n ≤ 100000) : n ≤ sizeLine := Evl.sz_of h
theorem de_tup {ta : TA} (h : DA K ta ds xs) (hl : xs.length ≤ 100000) : DE K (tTup ta) ds (.tuple xs) := fun B σ en H e Q k =>
  h B σ en H e _ fun vs H1 e1 rs => ⟨len_ok (by rw [rs.length]; exact hl), fun p hp => k _ _ (e1.trans (upd_ex hp)) (.tup (by rw [grow_new (Ex.ne e1 hp), upd_same]) (rs.mono (grow_right (upd_ex hp))))⟩
theorem dn_lst {ta : TA} (h : DA K ta ds xs) (hl : xs.length ≤ 100000) : DN K (tLst ta) ds xs := fun B σ en H e Q k =>
  h B σ en H e _ fun vs H1 e1 rs => ⟨len_ok (by rw [rs.length]; exact hl), fun p hp => k p vs _ (e1.trans (upd_ex hp)) (Ex.ne e1 hp) upd_same (rs.mono (grow_right (del_upd hp)))⟩

/-! tests -/
theorem dt_test {b : Bool} (h : DE K te ds (.bool b)) : DT K (tTest te) ds b := fun B σ en H e Q k =>
  h B σ en H e _ fun v H1 e1 rv => ⟨b, rv.bool_eq, k H1 e1⟩
theorem dt_B {b : Bool} (h : DE K te ds (.bool b)) : DT K (tB te) ds b := fun B σ en H e Q k =>
  h B σ en H e _ fun v H1 e1 rv => ⟨b, rv.bool_eq, k H1 e1⟩
theorem DT.up {B : Hp} {σ : L2.St} {H H1 : Hp} {Q : Bool → Hp → Prop} {b : Bool} (h : DT K t ds b) (en : EnvR K B σ ds) (e : Ex B H) (e1 : Ex H H1) (k : ∀ H', Ex H1 H' → Q b H') : t σ H1 Q := h B σ en H1 (e.trans e1) Q k
theorem dt_and {a b : Bool} (h1 : DT K t ds a) (h2 : a = true → DT K u ds b) : DT K (tAnd t u) ds (a && b) := fun B σ en H e Q k => h1 B σ en H e _ fun H1 e1 => by
  cases a with
  | true =>
    show u σ H1 Q
    exact (h2 rfl).up en e e1 fun H2 e2 => k H2 (e1.trans e2)
  | false =>
    show Q false H1
    exact k H1 e1
theorem dt_or {a b : Bool} (h1 : DT K t ds a) (h2 : a = false → DT K u ds b) : DT K (tOr t u) ds (a || b) := fun B σ en H e Q k => h1 B σ en H e _ fun H1 e1 => by
  cases a with
  | true =>
    show Q true H1
    exact k H1 e1
  | false =>
    show u σ H1 Q
    exact (h2 rfl).up en e e1 fun H2 e2 => k H2 (e1.trans e2)
theorem dt_not {a : Bool} (h1 : DT K t ds a) : DT K (tNot t) ds (!a) := fun B σ en H e Q k => h1 B σ en H e _ fun H1 e1 => k H1 e1
/-- values by and, or, not -/
theorem de_up2 {B : Hp} {σ : L2.St} {H H1 : Hp} {Q : VK} (h : DE K te ds d) (en : EnvR K B σ ds) (e : Ex B H) (e1 : Ex H H1) (k : ∀ v H', Ex H H' → Rep K (Grow B H H') v d → Q v H') : te σ H1 Q :=
  h.up en (grow_ex1 (H' := H1) e) (grow_ex2 e e1) fun v H2 e2 rv => k v H2 (e1.trans e2) (rv.mono (grow_trans e1 e2))
theorem de_andV {a b : Bool} (h1 : DE K ta ds (.bool a)) (h2 : a = true → DE K tb ds (.bool b)) : DE K (tAndV ta tb) ds (.bool (a && b)) := fun B σ en H e Q k => h1 B σ en H e _ fun v H1 e1 rv => ⟨a, rv.bool_eq, by
  cases a with
  | true =>
    show tb σ H1 Q
    exact de_up2 (h2 rfl) en e e1 k
  | false =>
    show Q (.bl false) H1
    exact k _ H1 e1 (.bl false)⟩
theorem de_orV {a b : Bool} (h1 : DE K ta ds (.bool a)) (h2 : a = false → DE K tb ds (.bool b)) : DE K (tOrV ta tb) ds (.bool (a || b)) := fun B σ en H e Q k => h1 B σ en H e _ fun v H1 e1 rv => ⟨a, rv.bool_eq, by
  cases a with
  | true =>
    show Q (.bl true) H1
    exact k _ H1 e1 (.bl true)
  | false =>
    show tb σ H1 Q
    exact de_up2 (h2 rfl) en e e1 k⟩
theorem de_notV {a : Bool} (h1 : DE K ta ds (.bool a)) : DE K (tNotV ta) ds (.bool (!a)) := fun B σ en H e Q k => h1 B σ en H e _ fun v H1 e1 rv => ⟨a, rv.bool_eq, k _ H1 e1 (.bl _)⟩
theorem de_chain {a b : Bool} (ha : DE K ta ds x) (hb : DE K tb ds y) (hr : D2 K r x y (.bool a)) (hc : a = true → DE K tc ds z) (hr' : a = true → D2 K r' y z (.bool b)) : DE K (tChain r r' ta tb tc) ds (.bool (a && b)) := fun B σ en H e Q k =>
  ha B σ en H e _ fun v H1 e1 rv => hb.up en (grow_ex1 (H' := H1) e) (grow_ex2 e e1) fun u H2 e2 ru => by
    have e12 : Ex (Grow B H H1) (Grow (Grow B H H1) H1 H2) := grow_ex1 (grow_ex2 e e1)
    have eb2 : Ex (Grow (Grow B H H1) H1 H2) H2 := grow_ex2 (grow_ex2 e e1) e2
    refine hr (Grow (Grow B H H1) H1 H2) H2 v u eb2 (rv.mono e12) ru _ fun w H3 e3 rw => ⟨a, rw.bool_eq, ?_⟩
    cases a with
    | false =>
      show Q (.bl false) H3
      exact k _ H3 (e1.trans (e2.trans e3)) (.bl false)
    | true =>
      show tc σ H3 fun w' H4 => r' u w' H4 Q
      have eb3 : Ex (Grow (Grow (Grow B H H1) H1 H2) H2 H3) H3 := grow_ex2 eb2 e3
      have bb : Ex B (Grow (Grow (Grow B H H1) H1 H2) H2 H3) := Evl.Ex.trans (grow_ex1 e) (Evl.Ex.trans e12 (grow_ex1 eb2))
      refine (hc rfl) _ σ (en.mono bb) H3 eb3 _ fun w' H4 e4 rw' => ?_
      refine hr' rfl (Grow (Grow (Grow (Grow B H H1) H1 H2) H2 H3) H3 H4) H4 u w' (grow_ex2 eb3 e4) ((ru.mono (grow_ex1 eb2)).mono (grow_ex1 eb3)) rw' Q fun o H5 e5 ro => ?_
      exact k o H5 (e1.trans (e2.trans (e3.trans (e4.trans e5)))) (by
        have q := ro.bool_eq
        rw [q]
        exact .bl _)

/-! arithmetic -/
theorem d2_I0 {g : Int → Int → V} {f : Int → Int → PyData} {i j : Int} (h : ∀ B, Rep K B (g i j) (f i j)) : D2 K (rI0 g) (.int i) (.int j) (f i j) := fun B H v u e rv ru Q k =>
  ⟨i, j, rv.int_eq, ru.int_eq, k _ H (Evl.Ex.refl H) (h _)⟩
theorem d2_I {P : Int → Int → Prop} {g : Int → Int → V} {f : Int → Int → PyData} {i j : Int} (h : ∀ B, Rep K B (g i j) (f i j)) (c : P i j) : D2 K (rI P g) (.int i) (.int j) (f i j) := fun B H v u e rv ru Q k =>
  ⟨i, j, rv.int_eq, ru.int_eq, c, k _ H (Evl.Ex.refl H) (h _)⟩
theorem d2_add {i j : Int} : D2 K (rI0 fun i j => .int (i + j)) (.int i) (.int j) (.int (i + j)) := d2_I0 (f := fun i j => .int (i + j)) fun _ => .int _
theorem d2_sub {i j : Int} : D2 K (rI0 fun i j => .int (i - j)) (.int i) (.int j) (.int (i - j)) := d2_I0 (f := fun i j => .int (i - j)) fun _ => .int _
theorem d2_mul {i j : Int} (c : CMul i j) : D2 K (rI CMul fun i j => .int (i * j)) (.int i) (.int j) (.int (i * j)) := d2_I (f := fun i j => .int (i * j)) (fun _ => .int _) c
theorem d2_fdiv {i j : Int} (c : CDiv i j) : D2 K (rI CDiv fun i j => .int (i / j)) (.int i) (.int j) (.int (i / j)) := d2_I (f := fun i j => .int (i / j)) (fun _ => .int _) c
theorem d2_mod {i j : Int} (c : 0 < j) : D2 K (rI (fun _ j => 0 < j) fun i j => .int (i % j)) (.int i) (.int j) (.int (i % j)) := d2_I (f := fun i j => .int (i % j)) (fun _ => .int _) c
theorem d2_lt {i j : Int} : D2 K (rI0 fun i j => .bl (decide (i < j))) (.int i) (.int j) (.bool (decide (i < j))) := d2_I0 (f := fun i j => .bool (decide (i < j))) fun _ => .bl _
theorem d2_le {i j : Int} : D2 K (rI0 fun i j => .bl (decide (i ≤ j))) (.int i) (.int j) (.bool (decide (i ≤ j))) := d2_I0 (f := fun i j => .bool (decide (i ≤ j))) fun _ => .bl _
theorem d2_gt {i j : Int} : D2 K (rI0 fun i j => .bl (decide (j < i))) (.int i) (.int j) (.bool (decide (j < i))) := d2_I0 (f := fun i j => .bool (decide (j < i))) fun _ => .bl _
theorem d2_ge {i j : Int} : D2 K (rI0 fun i j => .bl (decide (j ≤ i))) (.int i) (.int j) (.bool (decide (j ≤ i))) := d2_I0 (f := fun i j => .bool (decide (j ≤ i))) fun _ => .bl _
theorem d1_neg {i : Int} : D1 K (rU fun i => .int (-i)) (.int i) (.int (-i)) := fun B H v e rv Q k => ⟨i, rv.int_eq, k _ H (Evl.Ex.refl H) (.int _)⟩
/-- == of scalars -/
theorem d2_eqI {i j : Int} : D2 K rEq (.int i) (.int j) (.bool (decide (i = j))) := fun B H v u e rv ru Q k => by
  rw [rv.int_eq, ru.int_eq]
  refine ⟨rfl, ?_⟩
  have q : decide (V.int i = V.int j) = decide (i = j) := decide_eq_decide.mpr ⟨fun h => V.int.inj h, fun h => h ▸ rfl⟩
  rw [q]
  exact k _ H (Evl.Ex.refl H) (.bl _)
theorem d2_eqS {i j : Str} : D2 K rEq (.str i) (.str j) (.bool (decide (i = j))) := fun B H v u e rv ru Q k => by
  rw [rv.str_eq, ru.str_eq]
  refine ⟨rfl, ?_⟩
  have q : decide (V.str i = V.str j) = decide (i = j) := decide_eq_decide.mpr ⟨fun h => V.str.inj h, fun h => h ▸ rfl⟩
  rw [q]
  exact k _ H (Evl.Ex.refl H) (.bl _)
theorem d2_eqB {i j : Bool} : D2 K rEq (.bool i) (.bool j) (.bool (decide (i = j))) := fun B H v u e rv ru Q k => by
  rw [rv.bool_eq, ru.bool_eq]
  refine ⟨rfl, ?_⟩
  have q : decide (V.bl i = V.bl j) = decide (i = j) := decide_eq_decide.mpr ⟨fun h => V.bl.inj h, fun h => h ▸ rfl⟩
  rw [q]
  exact k _ H (Evl.Ex.refl H) (.bl _)
theorem d2_neI {i j : Int} : D2 K rNe (.int i) (.int j) (.bool (!decide (i = j))) := fun B H v u e rv ru Q k => by
  rw [rv.int_eq, ru.int_eq]
  refine ⟨rfl, ?_⟩
  have q : decide (V.int i = V.int j) = decide (i = j) := decide_eq_decide.mpr ⟨fun h => V.int.inj h, fun h => h ▸ rfl⟩
  rw [q]
  exact k _ H (Evl.Ex.refl H) (.bl _)
theorem d2_neS {i j : Str} : D2 K rNe (.str i) (.str j) (.bool (!decide (i = j))) := fun B H v u e rv ru Q k => by
  rw [rv.str_eq, ru.str_eq]
  refine ⟨rfl, ?_⟩
  have q : decide (V.str i = V.str j) = decide (i = j) := decide_eq_decide.mpr ⟨fun h => V.str.inj h, fun h => h ▸ rfl⟩
  rw [q]
  exact k _ H (Evl.Ex.refl H) (.bl _)
mutual
theorem Rep.dp {H : Hp} : ∀ {v : V} {d : PyData}, Rep K H v d → d.canLay0 = true → Dp K H v d
  | _, _, .non, _ => .non
  | _, _, .bl b, _ => .bl b
  | _, _, .int i, _ => .int i
  | _, _, .str x, _ => .str x
  | _, _, .lst h r, c => .lst (SqL.of h) (RepAll.dp r (by simpa [PyData.canLay0] using c))
  | _, _, .tup h r, c => .tup (SqT.of h) (RepAll.dp r (by simpa [PyData.canLay0] using c))
  | _, _, .scr _, c => by simp [PyData.canLay0] at c
  | _, _, .edict _, c => by simp [PyData.canLay0] at c
  | _, _, .raw _, c => by simp [PyData.canLay0] at c
theorem RepAll.dp {H : Hp} : ∀ {vs : List V} {ds : List PyData}, RepAll K H vs ds → PyData.canLayAll0 ds = true → DpAll K H vs ds
  | _, _, .nil, _ => .nil
  | _, _, .cons a r, c => .cons (Rep.dp a (by simp [PyData.canLayAll0] at c; exact c.1)) (RepAll.dp r (by simp [PyData.canLayAll0] at c; exact c.2))
end
end
end VS

set_option Elab.async false
set_option linter.all false
set_option maxRecDepth 100000
/-! Value semantics: statements, promises. -/
namespace VS
open PySem L2
open Evl (Ex ex_rd ex_l ex_t)
abbrev exr {H : Hp} : Ex H H := Evl.Ex.refl H

/-! ### names -/
inductive Slot where
  | no
  | val (d : PyData)
  | own (xs : List PyData)
/-- what may be looked at -/
def Slot.see : Slot → Option PyData
  | .no => none
  | .val d => some d
  | .own xs => some (.list xs)
/-- what stays -/
def Slot.frz : Slot → Option PyData
  | .val d => some d
  | _ => none
abbrev see (es : List Slot) : List (Option PyData) := es.map Slot.see
abbrev frz (es : List Slot) : List (Option PyData) := es.map Slot.frz

/-- F0, H0: at the entry; F: what stays; H: the heap -/
structure At (K : PySem.W.Frag) (F0 H0 F H : Hp) (σ : L2.St) (es : List Slot) : Prop where
  f00 : Ex F0 H0
  f0 : Ex F0 F
  h0 : Ex H0 H
  fh : Ex F H
  fresh : ∀ a o, F a = some o → F0 a = some o ∨ H0 a = none
  len : σ.length = es.length
  val : ∀ (i : Nat) d, es[i]? = some (.val d) → ∃ v, σ[i]? = some (some v) ∧ Rep K F v d
  own : ∀ (i : Nat) xs, es[i]? = some (.own xs) → ∃ a vs, σ[i]? = some (some (.ref a)) ∧ H0 a = none ∧ F a = none ∧ H a = some (.lst vs) ∧ RepAll K F vs xs
  sep : ∀ (i j : Nat) xs ys a, es[i]? = some (.own xs) → es[j]? = some (.own ys) → σ[i]? = some (some (.ref a)) → σ[j]? = some (some (.ref a)) → i = j

section
variable {K : PySem.W.Frag} {F0 H0 F H H' : Hp} {σ : L2.St} {es : List Slot}
theorem map_get {es : List Slot} {f : Slot → Option PyData} {i : Nat} {d : PyData} (h : (es.map f)[i]? = some (some d)) : ∃ s, es[i]? = some s ∧ f s = some d := by
  rw [List.getElem?_map] at h
  cases e : es[i]? with
  | none => rw [e] at h; cases h
  | some s => rw [e] at h; exact ⟨s, rfl, Option.some.inj h⟩
theorem At.envF (A : At K F0 H0 F H σ es) : EnvR K F σ (frz es) := ⟨A.len.trans (by rw [List.length_map]), fun i d h => by
  obtain ⟨s, e, q⟩ := map_get h
  cases s with
  | no => cases q
  | val d' => cases q; exact A.val i _ e
  | own xs => cases q⟩
theorem At.seen (A : At K F0 H0 F H σ es) : Ex F (Grow F0 H0 H) := fun a o h => by
  rcases A.fresh a o h with q | q
  · rw [grow_old (ne_some (A.f00 a o q))]; exact q
  · rw [grow_new q]; exact A.fh a o h
theorem At.seen2 (A : At K F0 H0 F H σ es) : Ex (Grow F0 H0 H) H := grow_ex2 A.f00 A.h0
theorem At.envV (A : At K F0 H0 F H σ es) : EnvR K (Grow F0 H0 H) σ (see es) := ⟨A.len.trans (by rw [List.length_map]), fun i d h => by
  obtain ⟨s, e, q⟩ := map_get h
  cases s with
  | no => cases q
  | val d' =>
    cases q
    obtain ⟨v, h1, h2⟩ := A.val i _ e
    exact ⟨v, h1, h2.mono A.seen⟩
  | own xs =>
    cases q
    obtain ⟨a, vs, h1, h2, _, h4, h5⟩ := A.own i _ e
    exact ⟨_, h1, .lst (by rw [grow_new h2]; exact h4) (h5.mono A.seen)⟩⟩
theorem get_set_ne {α : Type} {l : List α} {i j : Nat} {x : α} (h : i ≠ j) : (l.set i x)[j]? = l[j]? := List.getElem?_set_ne h
theorem get_set_at {α : Type} {l : List α} {i : Nat} {x y : α} (h : (l.set i x)[i]? = some y) : y = x := by
  by_cases q : i < l.length
  · rw [List.getElem?_set_self q] at h; exact (Option.some.inj h).symm
  · rw [List.getElem?_eq_none (by rw [List.length_set]; omega)] at h; cases h
theorem get_set_is {α : Type} {l : List α} {i : Nat} {x y : α} (h : (l.set i x)[i]? = some y) : i < l.length := by
  by_cases q : i < l.length
  · exact q
  · rw [List.getElem?_eq_none (by rw [List.length_set]; omega)] at h; cases h
/-- the heap grew -/
theorem At.grow (A : At K F0 H0 F H σ es) (e : Ex H H') : At K F0 H0 F H' σ es :=
  ⟨A.f00, A.f0, A.h0.trans e, A.fh.trans e, A.fresh, A.len, A.val, fun i xs q => by
    obtain ⟨a, vs, h1, h2, h3, h4, h5⟩ := A.own i xs q
    exact ⟨a, vs, h1, h2, h3, e a _ h4, h5⟩, A.sep⟩
/-- what is new stays -/
theorem At.keep (A : At K F0 H0 F H σ es) (e : Ex H H') : At K F0 H0 (Grow F H H') H' σ es :=
  ⟨A.f00, Evl.Ex.trans A.f0 (grow_ex1 A.fh), A.h0.trans e, grow_ex2 A.fh e, fun a o q => by
    cases z : H a with
    | none => exact .inr (Ex.ne A.h0 z)
    | some u => rw [grow_old (ne_some z)] at q; exact A.fresh a o q, A.len, fun i d q => by
    obtain ⟨v, h1, h2⟩ := A.val i d q
    exact ⟨v, h1, h2.mono (grow_ex1 A.fh)⟩, fun i xs q => by
    obtain ⟨a, vs, h1, h2, h3, h4, h5⟩ := A.own i xs q
    exact ⟨a, vs, h1, h2, by rw [grow_old (ne_some h4)]; exact h3, e a _ h4, h5.mono (grow_ex1 A.fh)⟩, A.sep⟩
theorem At.set (A : At K F0 H0 F H σ es) {i : Nat} {v : V} {d : PyData} (r : Rep K F v d) : At K F0 H0 F H (σ.set i (some v)) (es.set i (.val d)) :=
  ⟨A.f00, A.f0, A.h0, A.fh, A.fresh, by rw [List.length_set, List.length_set]; exact A.len, fun j d' q => by
    by_cases z : i = j
    · subst z
      have hi := get_set_is q
      cases get_set_at q
      exact ⟨v, List.getElem?_set_self (by rw [A.len]; exact hi), r⟩
    · rw [get_set_ne z] at q ⊢
      exact A.val j d' q, fun j xs q => by
    by_cases z : i = j
    · subst z
      cases get_set_at q
    · rw [get_set_ne z] at q ⊢
      exact A.own j xs q, fun j k xs ys a q1 q2 q3 q4 => by
    by_cases z : i = j
    · subst z
      cases get_set_at q1
    · by_cases z2 : i = k
      · subst z2
        cases get_set_at q2
      · rw [get_set_ne z] at q1 q3
        rw [get_set_ne z2] at q2 q4
        exact A.sep j k xs ys a q1 q2 q3 q4⟩
/-- a new list gets a name -/
theorem At.mint (A : At K F0 H0 F H σ es) (e : Ex H H') {i : Nat} {p : Addr} {vs : List V} {xs : List PyData} (hp : H p = none) (hl : H' p = some (.lst vs)) (r : RepAll K (Grow F H (del H' p)) vs xs) :
    At K F0 H0 (Grow F H (del H' p)) H' (σ.set i (some (.ref p))) (es.set i (.own xs)) := by
  have ed : Ex H (del H' p) := ex_del e hp
  have B := A.keep ed
  refine ⟨B.f00, B.f0, A.h0.trans e, Evl.Ex.trans B.fh del_ex, B.fresh, by rw [List.length_set, List.length_set]; exact A.len, fun j d' q => ?_, fun j ys q => ?_, fun j k ys zs a q1 q2 q3 q4 => ?_⟩
  · by_cases z : i = j
    · subst z
      cases get_set_at q
    · rw [get_set_ne z] at q ⊢
      exact B.val j d' q
  · by_cases z : i = j
    · subst z
      have hi := get_set_is q
      cases get_set_at q
      exact ⟨p, vs, List.getElem?_set_self (by rw [A.len]; exact hi), Ex.ne A.h0 hp, by rw [grow_new hp, del_same], hl, r⟩
    · rw [get_set_ne z] at q ⊢
      obtain ⟨a, us, h1, h2, h3, h4, h5⟩ := A.own j ys q
      exact ⟨a, us, h1, h2, by rw [grow_old (ne_some h4)]; exact h3, e a _ h4, h5.mono (grow_ex1 A.fh)⟩
  · by_cases z : i = j
    · subst z
      by_cases z2 : i = k
      · exact z2
      · rw [get_set_ne z2] at q2 q4
        have hi := get_set_is q1
        rw [List.getElem?_set_self (by rw [A.len]; exact hi)] at q3
        have q3' := Option.some.inj (Option.some.inj q3)
        injection q3' with q3'
        obtain ⟨b, us, h1, _, _, h4, _⟩ := A.own k _ q2
        rw [q4] at h1
        have h1' := Option.some.inj (Option.some.inj h1)
        injection h1' with h1'
        rw [← h1', ← q3', hp] at h4
        cases h4
    · by_cases z2 : i = k
      · subst z2
        rw [get_set_ne z] at q1 q3
        have hi := get_set_is q2
        rw [List.getElem?_set_self (by rw [A.len]; exact hi)] at q4
        have q4' := Option.some.inj (Option.some.inj q4)
        injection q4' with q4'
        obtain ⟨b, us, h1, _, _, h4, _⟩ := A.own j _ q1
        rw [q3] at h1
        have h1' := Option.some.inj (Option.some.inj h1)
        injection h1' with h1'
        rw [← h1', ← q4', hp] at h4
        cases h4
      · rw [get_set_ne z] at q1 q3
        rw [get_set_ne z2] at q2 q4
        exact A.sep j k ys zs a q1 q2 q3 q4
/-- an owned list changes -/
theorem At.change (A : At K F0 H0 F H σ es) {i : Nat} {a : Addr} {xs ys : List PyData} {us : List V} (hi : es[i]? = some (.own xs)) (hs : σ[i]? = some (some (.ref a))) (r : RepAll K F us ys) :
    At K F0 H0 F (upd H a (.lst us)) σ (es.set i (.own ys)) := by
  obtain ⟨b, vs, h1, h2, h3, h4, h5⟩ := A.own i xs hi
  rw [hs] at h1
  have h1' := Option.some.inj (Option.some.inj h1)
  injection h1' with h1'
  subst h1'
  have hn : ∀ j zs c, i ≠ j → es[j]? = some (.own zs) → σ[j]? = some (some (.ref c)) → c ≠ a := fun j zs c z q1 q2 q3 => by
    subst q3
    exact z (A.sep i j xs zs _ hi q1 hs q2)
  refine ⟨A.f00, A.f0, Evl.Ex.mut A.h0 h2, Evl.Ex.mut A.fh h3, A.fresh, by rw [List.length_set]; exact A.len, fun j d q => ?_, fun j zs q => ?_, fun j k zs ws c q1 q2 q3 q4 => ?_⟩
  · by_cases z : i = j
    · subst z
      cases get_set_at q
    · rw [get_set_ne z] at q
      exact A.val j d q
  · by_cases z : i = j
    · subst z
      cases get_set_at q
      exact ⟨a, us, hs, h2, h3, upd_same, r⟩
    · rw [get_set_ne z] at q
      obtain ⟨c, ws, g1, g2, g3, g4, g5⟩ := A.own j zs q
      exact ⟨c, ws, g1, g2, g3, by rw [upd_ne (hn j zs c z q g1)]; exact g4, g5⟩
  · have f : ∀ {j : Nat} {zs : List PyData}, (es.set i (.own ys))[j]? = some (.own zs) → ∃ ws, es[j]? = some (.own ws) := fun {j zs} q => by
      by_cases z : i = j
      · subst z; exact ⟨xs, hi⟩
      · rw [get_set_ne z] at q; exact ⟨zs, q⟩
    obtain ⟨_, f1⟩ := f q1
    obtain ⟨_, f2⟩ := f q2
    exact A.sep j k _ _ c f1 f2 q3 q4
/-- an owned list is from now on looked at only -/
theorem At.freeze (A : At K F0 H0 F H σ es) {i : Nat} {xs : List PyData} (hi : es[i]? = some (.own xs)) : ∃ F', Ex F F' ∧ At K F0 H0 F' H σ (es.set i (.val (.list xs))) := by
  obtain ⟨a, vs, h1, h2, h3, h4, h5⟩ := A.own i xs hi
  have ef : Ex F (upd F a (.lst vs)) := Evl.Ex.new h3
  refine ⟨upd F a (.lst vs), ef, A.f00, Evl.Ex.trans A.f0 ef, A.h0, fun b o q => ?_, fun b o q => ?_, by rw [List.length_set]; exact A.len, fun j d q => ?_, fun j zs q => ?_, fun j k zs ws c q1 q2 q3 q4 => ?_⟩
  · by_cases z : b = a
    · subst z; rw [upd_same] at q; cases q; exact h4
    · rw [upd_ne z] at q; exact A.fh b o q
  · by_cases z : b = a
    · subst z; exact .inr h2
    · rw [upd_ne z] at q; exact A.fresh b o q
  · by_cases z : i = j
    · subst z
      cases get_set_at q
      exact ⟨_, h1, .lst upd_same (h5.mono ef)⟩
    · rw [get_set_ne z] at q
      obtain ⟨v, g1, g2⟩ := A.val j d q
      exact ⟨v, g1, g2.mono ef⟩
  · by_cases z : i = j
    · subst z
      cases get_set_at q
    · rw [get_set_ne z] at q
      obtain ⟨c, ws, g1, g2, g3, g4, g5⟩ := A.own j zs q
      refine ⟨c, ws, g1, g2, ?_, g4, g5.mono ef⟩
      rw [upd_ne]
      · exact g3
      · intro y
        subst y
        exact z (A.sep i j xs zs c hi q h1 g1)
  · by_cases z : i = j
    · subst z
      cases get_set_at q1
    · by_cases z2 : i = k
      · subst z2
        cases get_set_at q2
      · rw [get_set_ne z] at q1
        rw [get_set_ne z2] at q2
        exact A.sep j k zs ws c q1 q2 q3 q4
/-- a name is forgotten -/
theorem At.forget (A : At K F0 H0 F H σ es) {es' : List Slot} (hl : es'.length = es.length) (h : ∀ (i : Nat) s, es'[i]? = some s → s = .no ∨ es[i]? = some s) : At K F0 H0 F H σ es' :=
  ⟨A.f00, A.f0, A.h0, A.fh, A.fresh, A.len.trans hl.symm, fun i d q => by
    rcases h i _ q with z | z
    · cases z
    · exact A.val i d z, fun i xs q => by
    rcases h i _ q with z | z
    · cases z
    · exact A.own i xs z, fun i j xs ys a q1 q2 q3 q4 => by
    rcases h i _ q1 with z | z
    · cases z
    · rcases h j _ q2 with y | y
      · cases y
      · exact A.sep i j xs ys a z y q3 q4⟩
end

/-! ### statements -/
structure Post where
  nx : List Slot → Prop := fun _ => False
  rt : PyData → Prop := fun _ => False
  bk : List Slot → Prop := fun _ => False
  ct : List Slot → Prop := fun _ => False
  ex : Addr → Prop := fun _ => False
structure Meets (K : PySem.W.Frag) (E : XK) (F0 H0 F : Hp) (P : Post) (D : Ends) : Prop where
  nx : ∀ F' H σ es, Ex F F' → At K F0 H0 F' H σ es → P.nx es → D.nx σ H
  bk : ∀ F' H σ es, Ex F F' → At K F0 H0 F' H σ es → P.bk es → D.bk σ H
  ct : ∀ F' H σ es, Ex F F' → At K F0 H0 F' H σ es → P.ct es → D.ct σ H
  rt : ∀ v H d, Ex H0 H → Rep K (Grow F0 H0 H) v d → P.rt d → D.rt v H
  ex : ∀ C H, Ex H0 H → P.ex C → E (.ref C) none H
theorem Meets.up {K : PySem.W.Frag} {E : XK} {F0 H0 F F' : Hp} {P : Post} {D : Ends} (M : Meets K E F0 H0 F P D) (e : Ex F F') : Meets K E F0 H0 F' P D :=
  ⟨fun F' H σ es x => M.nx F' H σ es (e.trans x), fun F' H σ es x => M.bk F' H σ es (e.trans x), fun F' H σ es x => M.ct F' H σ es (e.trans x), M.rt, M.ex⟩
def DS (K : PySem.W.Frag) (E : XK) (t : TS) (es : List Slot) (P : Post) : Prop :=
  ∀ F0 H0 F H σ D, At K F0 H0 F H σ es → Meets K E F0 H0 F P D → t D σ H

section
variable {K : PySem.W.Frag} {E : XK} {es : List Slot} {P : Post} {te ta ti : TE} {tc : TT} {t u tb : TS} {d : PyData} {i j : Nat} {xs : List PyData}
/-- what follows, said by its own word -/
theorem ds_seq (h : DS K E t es { P with nx := fun es' => DS K E u es' P }) : DS K E (tSeq t u) es P := fun F0 H0 F H σ D A M =>
  h F0 H0 F H σ { D with nx := u D } A ⟨fun F' H σ es' x A' q => q F0 H0 F' H σ D A' (M.up x), M.bk, M.ct, M.rt, M.ex⟩
theorem ds_next (h : P.nx es) : DS K E tNext es P := fun F0 H0 F H σ D A M => M.nx F H σ es exr A h
theorem ds_brk (h : P.bk es) : DS K E tBreak es P := fun F0 H0 F H σ D A M => M.bk F H σ es exr A h
theorem ds_cont (h : P.ct es) : DS K E tCont es P := fun F0 H0 F H σ D A M => M.ct F H σ es exr A h
/-- x = e, a scalar -/
theorem ds_set (h : DE K te (see es) d) (hs : scalarD d = true) (k : P.nx (es.set i (.val d))) : DS K E (tAsg te (gName i)) es P := fun F0 H0 F H σ D A M =>
  h _ σ A.envV H A.seen2 _ fun v H' e r => M.nx F H' _ _ exr ((A.grow e).set (r.scalar hs)) k
/-- x = e, anything that stays -/
theorem ds_let (h : DE K te (frz es) d) (k : P.nx (es.set i (.val d))) : DS K E (tAsg te (gName i)) es P := fun F0 H0 F H σ D A M =>
  h _ σ A.envF H A.fh _ fun v H' e r => M.nx _ H' _ _ (grow_ex1 A.fh) ((A.keep e).set r) k
/-- x = e, a new list -/
theorem ds_new (h : DN K te (frz es) xs) (k : P.nx (es.set i (.own xs))) : DS K E (tAsg te (gName i)) es P := fun F0 H0 F H σ D A M =>
  h _ σ A.envF H A.fh _ fun p vs H' e hp hl r => M.nx _ H' _ _ (grow_ex1 A.fh) (A.mint e hp hl r) k
theorem ds_ret (h : DE K te (see es) d) (k : P.rt d) : DS K E (tRet te) es P := fun F0 H0 F H σ D A M =>
  h _ σ A.envV H A.seen2 _ fun v H' e r => M.rt v H' d (A.h0.trans e) (r.mono (grow_trans A.h0 e)) k
theorem ds_retN (k : P.rt .none) : DS K E tRetN es P := fun F0 H0 F H σ D A M => M.rt .non H .none A.h0 .non k
theorem ds_drop (h : DE K te (see es) d) (k : P.nx es) : DS K E (tDrop te) es P := fun F0 H0 F H σ D A M =>
  h _ σ A.envV H A.seen2 _ fun v H' e r => M.nx F H' σ es exr (A.grow e) k
theorem ds_if {b : Bool} (h : DT K tc (see es) b) (h1 : b = true → DS K E t es P) (h2 : b = false → DS K E u es P) : DS K E (tIfS tc t u) es P := fun F0 H0 F H σ D A M =>
  h _ σ A.envV H A.seen2 _ fun H' e => by
    cases b with
    | true =>
      show t D σ H'
      exact h1 rfl F0 H0 F H' σ D (A.grow e) M
    | false =>
      show u D σ H'
      exact h2 rfl F0 H0 F H' σ D (A.grow e) M
/-- raising -/
theorem ds_setX {C : Addr} {g : TG} (h : DX K te (see es) E C) (k : P.ex C) : DS K E (tAsg te g) es P := fun F0 H0 F H σ D A M =>
  h _ σ A.envV H A.seen2 _ fun H' e => M.ex C H' (A.h0.trans e) k
theorem ds_dropX {C : Addr} (h : DX K te (see es) E C) (k : P.ex C) : DS K E (tDrop te) es P := fun F0 H0 F H σ D A M =>
  h _ σ A.envV H A.seen2 _ fun H' e => M.ex C H' (A.h0.trans e) k
theorem ds_retX {C : Addr} (h : DX K te (see es) E C) (k : P.ex C) : DS K E (tRet te) es P := fun F0 H0 F H σ D A M =>
  h _ σ A.envV H A.seen2 _ fun H' e => M.ex C H' (A.h0.trans e) k
/-- raise X(..) -/
def tRse (E : XK) (C : Addr) : TS := fun _ _ H => E (.ref C) none H
theorem ds_raise {C : Addr} (k : P.ex C) : DS K E (tRse E C) es P := fun F0 H0 F H σ D A M => M.ex C H A.h0 k
/-- xs.append(e) -/
theorem ds_app (h : DE K te (see es) d) (hs : scalarD d = true) (hi : es[i]? = some (.own xs)) (hl : xs.length < 100000) (k : P.nx (es.set i (.own (xs ++ [d])))) : DS K E (tDrop (tBM K "list" rAppend (tVar i) (tCons te tNil))) es P := fun F0 H0 F H σ D A M => by
  obtain ⟨a, vs, h1, h2, h3, h4, h5⟩ := A.own i xs hi
  refine ⟨.ref a, h1, .inl ⟨rfl, vs, SqL.of h4⟩, h _ σ A.envV H A.seen2 _ fun v H' e r => ⟨a, vs, v, rfl, rfl, e a _ h4, ?_, ?_⟩⟩
  · exact Evl.sz_lt (by rw [h5.length]; exact hl)
  · exact M.nx F _ σ _ exr ((A.grow e).change hi h1 (h5.append (.cons (r.scalar hs) .nil))) k
theorem ds_appV (h : DE K te (frz es) d) (hi : es[i]? = some (.own xs)) (hl : xs.length < 100000) (k : P.nx (es.set i (.own (xs ++ [d])))) : DS K E (tDrop (tBM K "list" rAppend (tVar i) (tCons te tNil))) es P := fun F0 H0 F H σ D A M => by
  obtain ⟨a, vs, h1, h2, h3, h4, h5⟩ := A.own i xs hi
  refine ⟨.ref a, h1, .inl ⟨rfl, vs, SqL.of h4⟩, h _ σ A.envF H A.fh _ fun v H' e r => ⟨a, vs, v, rfl, rfl, e a _ h4, ?_, ?_⟩⟩
  · exact Evl.sz_lt (by rw [h5.length]; exact hl)
  · exact M.nx _ _ σ _ (grow_ex1 A.fh) ((A.keep e).change hi h1 ((h5.mono (grow_ex1 A.fh)).append (.cons r .nil))) k
/-- xs[i] = e -/
theorem ds_put {n : Int} {k0 : Nat} (h : DE K te (see es) d) (hs : scalarD d = true) (hi : es[i]? = some (.own xs)) (hn : DE K ti (see es) (.int n)) (hk : ixN xs.length n = some k0) (k : P.nx (es.set i (.own (xs.set k0 d)))) : DS K E (tAsg te (gSub (tVar i) ti rSetL)) es P := fun F0 H0 F H σ D A M => by
  obtain ⟨a, vs, h1, h2, h3, h4, h5⟩ := A.own i xs hi
  refine h _ σ A.envV H A.seen2 _ fun v H1 e1 r => ⟨.ref a, h1, ?_⟩
  refine hn _ σ (A.grow e1).envV H1 (A.grow e1).seen2 _ fun w H2 e2 rw => ⟨a, vs, n, k0, rfl, rw.int_eq, e2 a _ (e1 a _ h4), ?_, ?_⟩
  · rw [h5.length]; exact hk
  · exact M.nx F _ σ _ exr (((A.grow e1).grow e2).change hi h1 (h5.set (r.scalar hs))) k
/-- freeze, forget -/
theorem ds_freeze (hi : es[i]? = some (.own xs)) (h : DS K E t (es.set i (.val (.list xs))) P) : DS K E t es P := fun F0 H0 F H σ D A M => by
  obtain ⟨F', x, A'⟩ := A.freeze hi
  exact h F0 H0 F' H σ D A' (M.up x)
theorem ds_forget {es' : List Slot} (hl : es'.length = es.length) (hh : ∀ (i : Nat) s, es'[i]? = some s → s = .no ∨ es[i]? = some s) (h : DS K E t es' P) : DS K E t es P := fun F0 H0 F H σ D A M => h F0 H0 F H σ D (A.forget hl hh) M

/-! loops -/
/-- W: what holds of the names at the turn -/
theorem ds_for {tl : TE} {xs : List PyData} (W : Nat → List Slot → Prop) (h : DE K tl (frz es) (.list xs)) (h0 : W 0 es) (hs : ∀ k x es', xs[k]? = some x → W k es' → DS K E tb (es'.set j (.val x)) { P with nx := W (k + 1), ct := W (k + 1), bk := P.nx }) (hd : ∀ es', W xs.length es' → P.nx es') :
    DS K E (tFor (iList K tl) (gName j) tb) es P := fun F0 H0 F H σ D A M => by
  refine h _ σ A.envF H A.fh _ fun v H1 e1 r => ?_
  obtain ⟨a, vs, rfl, ha, rs⟩ := r.list_eq
  refine ⟨a, rfl, ⟨vs, SqL.of (grow_ex2 A.fh e1 a _ ha)⟩, ?_⟩
  refine for_list (K := K) (a := a) (xs := vs) (fun k σ' H' => ∃ F' es', Ex (Grow F H H1) F' ∧ At K F0 H0 F' H' σ' es' ∧ W k es') ⟨_, es, exr, A.keep e1, h0⟩ (fun k σ' H' _ ⟨F', es', e', A', _⟩ => SqL.of (A'.fh a _ (e' a _ ha))) ?_ ?_
  · rintro k x σ' H' hk ⟨F', es', e', A', w⟩
    obtain ⟨d, hd', rd⟩ := rs.get' hk
    have mf : Ex F F' := Evl.Ex.trans (grow_ex1 A.fh) e'
    exact hs k d es' hd' w F0 H0 F' H' _ _ (A'.set (rd.mono e')) ⟨fun F2 H2 σ2 es2 x A2 q => ⟨F2, es2, e'.trans x, A2, q⟩, fun F2 H2 σ2 es2 x A2 q => M.nx F2 H2 σ2 es2 (mf.trans x) A2 q, fun F2 H2 σ2 es2 x A2 q => ⟨F2, es2, e'.trans x, A2, q⟩, M.rt, M.ex⟩
  · rintro σ' H' ⟨F', es', e', A', w⟩
    rw [rs.length] at w
    exact M.nx F' H' σ' es' (Evl.Ex.trans (grow_ex1 A.fh) e') A' (hd es' w)
/-- over a tuple -/
theorem ds_forT {tl : TE} {xs : List PyData} (W : Nat → List Slot → Prop) (h : DE K tl (frz es) (.tuple xs)) (h0 : W 0 es) (hs : ∀ k x es', xs[k]? = some x → W k es' → DS K E tb (es'.set j (.val x)) { P with nx := W (k + 1), ct := W (k + 1), bk := P.nx }) (hd : ∀ es', W xs.length es' → P.nx es') :
    DS K E (tFor (iTup K tl) (gName j) tb) es P := fun F0 H0 F H σ D A M => by
  refine h _ σ A.envF H A.fh _ fun v H1 e1 r => ?_
  obtain ⟨a, vs, rfl, ha, rs⟩ := r.tup_eq
  refine ⟨a, rfl, ⟨vs, SqT.of (grow_ex2 A.fh e1 a _ ha)⟩, ?_⟩
  refine for_tup (K := K) (a := a) (xs := vs) (fun k σ' H' => ∃ F' es', Ex (Grow F H H1) F' ∧ At K F0 H0 F' H' σ' es' ∧ W k es') ⟨_, es, exr, A.keep e1, h0⟩ (fun k σ' H' _ ⟨F', es', e', A', _⟩ => SqT.of (A'.fh a _ (e' a _ ha))) ?_ ?_
  · rintro k x σ' H' hk ⟨F', es', e', A', w⟩
    obtain ⟨d, hd', rd⟩ := rs.get' hk
    have mf : Ex F F' := Evl.Ex.trans (grow_ex1 A.fh) e'
    exact hs k d es' hd' w F0 H0 F' H' _ _ (A'.set (rd.mono e')) ⟨fun F2 H2 σ2 es2 x A2 q => ⟨F2, es2, e'.trans x, A2, q⟩, fun F2 H2 σ2 es2 x A2 q => M.nx F2 H2 σ2 es2 (mf.trans x) A2 q, fun F2 H2 σ2 es2 x A2 q => ⟨F2, es2, e'.trans x, A2, q⟩, M.rt, M.ex⟩
  · rintro σ' H' ⟨F', es', e', A', w⟩
    rw [rs.length] at w
    exact M.nx F' H' σ' es' (Evl.Ex.trans (grow_ex1 A.fh) e') A' (hd es' w)
/-- over range(n) -/
theorem ds_forR1 {ta : TA} {n : Int} (W : Nat → List Slot → Prop) (h : DA K ta (see es) [.int n]) (hn : n ≤ 100000) (h0 : W 0 es) (hs : ∀ (k : Nat) es', (k : Int) < n → W k es' → DS K E tb (es'.set j (.val (.int (k : Int)))) { P with nx := W (k + 1), ct := W (k + 1), bk := P.nx }) (hd : ∀ es', W n.toNat es' → P.nx es') (hlo : -100000 ≤ n) :
    DS K E (tFor (iRng1 ta) (gName j) tb) es P := fun F0 H0 F H σ D A M => by
  refine h _ σ A.envV H A.seen2 _ fun vs H1 e1 r => ?_
  have ev : vs = [.int n] := by
    cases r with
    | cons a r => cases r; rw [a.int_eq]
  refine ⟨n, ev, by omega, by omega, ?_⟩
  refine for_range (lo := 0) (n := n.toNat) (fun k σ' H' => ∃ F' es', Ex F F' ∧ At K F0 H0 F' H' σ' es' ∧ W k es') ⟨_, es, exr, A.grow e1, h0⟩ ?_ ?_
  · rintro k σ' H' hk ⟨F', es', e', A', w⟩
    have e0 : (0 : Int) + (k : Int) = (k : Int) := Int.zero_add _
    rw [e0]
    exact hs k es' (by omega) w F0 H0 F' H' _ _ (A'.set (.int _)) ⟨fun F2 H2 σ2 es2 x A2 q => ⟨F2, es2, e'.trans x, A2, q⟩, fun F2 H2 σ2 es2 x A2 q => M.nx F2 H2 σ2 es2 (e'.trans x) A2 q, fun F2 H2 σ2 es2 x A2 q => ⟨F2, es2, e'.trans x, A2, q⟩, M.rt, M.ex⟩
  · rintro σ' H' ⟨F', es', e', A', w⟩
    exact M.nx F' H' σ' es' e' A' (hd es' w)
/-- over range(lo, n) -/
theorem ds_forR2 {ta : TA} {lo n : Int} (W : Nat → List Slot → Prop) (h : DA K ta (see es) [.int lo, .int n]) (hb : -100000 ≤ lo ∧ lo ≤ 100000 ∧ -100000 ≤ n ∧ n ≤ 100000) (h0 : W 0 es) (hs : ∀ (k : Nat) es', lo + (k : Int) < n → W k es' → DS K E tb (es'.set j (.val (.int (lo + (k : Int))))) { P with nx := W (k + 1), ct := W (k + 1), bk := P.nx }) (hd : ∀ es', W (n - lo).toNat es' → P.nx es') :
    DS K E (tFor (iRng2 ta) (gName j) tb) es P := fun F0 H0 F H σ D A M => by
  refine h _ σ A.envV H A.seen2 _ fun vs H1 e1 r => ?_
  have ev : vs = [.int lo, .int n] := by
    cases r with
    | cons a r =>
      cases r with
      | cons b r => cases r; rw [a.int_eq, b.int_eq]
  refine ⟨lo, n, ev, ⟨by omega, by omega, by omega, by omega⟩, ?_⟩
  refine for_range (lo := lo) (n := (n - lo).toNat) (fun k σ' H' => ∃ F' es', Ex F F' ∧ At K F0 H0 F' H' σ' es' ∧ W k es') ⟨_, es, exr, A.grow e1, h0⟩ ?_ ?_
  · rintro k σ' H' hk ⟨F', es', e', A', w⟩
    exact hs k es' (by omega) w F0 H0 F' H' _ _ (A'.set (.int _)) ⟨fun F2 H2 σ2 es2 x A2 q => ⟨F2, es2, e'.trans x, A2, q⟩, fun F2 H2 σ2 es2 x A2 q => M.nx F2 H2 σ2 es2 (e'.trans x) A2 q, fun F2 H2 σ2 es2 x A2 q => ⟨F2, es2, e'.trans x, A2, q⟩, M.rt, M.ex⟩
  · rintro σ' H' ⟨F', es', e', A', w⟩
    exact M.nx F' H' σ' es' e' A' (hd es' w)
/-- while, by a word and a number that falls -/
theorem ds_while (W : Nat → List Slot → Prop) (m0 : Nat) (h0 : W m0 es) (hs : ∀ m es', W m es' → ∃ b, DT K tc (see es') b ∧ (b = true → DS K E tb es' { P with nx := fun es2 => ∃ m', m' < m ∧ W m' es2, ct := fun es2 => ∃ m', m' < m ∧ W m' es2, bk := P.nx }) ∧ (b = false → P.nx es')) :
    DS K E (tWhile tc tb) es P := fun F0 H0 F H σ D A M => by
  refine ⟨fun m σ' H' => ∃ F' es', Ex F F' ∧ At K F0 H0 F' H' σ' es' ∧ W m es', ⟨m0, F, es, exr, A, h0⟩, ?_⟩
  rintro m σ' H' ⟨F', es', e', A', w⟩
  obtain ⟨b, hb, h1, h2⟩ := hs m es' w
  refine hb _ σ' A'.envV H' A'.seen2 _ fun H1 e1 => ?_
  cases b with
  | true =>
    rw [if_pos rfl]
    refine ⟨fun σ2 H2 => ∃ m', m' < m ∧ ∃ F' es', Ex F F' ∧ At K F0 H0 F' H2 σ2 es' ∧ W m' es', fun σ2 H2 q => q, ?_⟩
    exact h1 rfl F0 H0 F' H1 σ' _ (A'.grow e1) ⟨fun F2 H2 σ2 es2 x A2 ⟨m', l, q⟩ => ⟨m', l, F2, es2, e'.trans x, A2, q⟩, fun F2 H2 σ2 es2 x A2 q => M.nx F2 H2 σ2 es2 (e'.trans x) A2 q, fun F2 H2 σ2 es2 x A2 ⟨m', l, q⟩ => ⟨m', l, F2, es2, e'.trans x, A2, q⟩, M.rt, M.ex⟩
  | false =>
    rw [if_neg Bool.false_ne_true]
    exact M.nx F' H1 σ' es' e' (A'.grow e1) (h2 rfl)
theorem ds_post {P' : Post} (h : DS K E t es P') (n : ∀ es, P'.nx es → P.nx es) (b : ∀ es, P'.bk es → P.bk es) (c : ∀ es, P'.ct es → P.ct es) (r : ∀ d, P'.rt d → P.rt d) (x : ∀ C, P'.ex C → P.ex C) : DS K E t es P := fun F0 H0 F H σ D A M =>
  h F0 H0 F H σ D A ⟨fun F' H σ es e A q => M.nx F' H σ es e A (n es q), fun F' H σ es e A q => M.bk F' H σ es e A (b es q), fun F' H σ es e A q => M.ct F' H σ es e A (c es q), fun v H d e R q => M.rt v H d e R (r d q), fun C H e q => M.ex C H e (x C q)⟩
end

/-! ### promises -/
inductive Out where
  | ret (d : PyData)
  | exc (C : Addr)
/-- called with these data it ends so -/
def spD (K : PySem.W.Frag) (R : List PyData → Out → Prop) : Sp := fun vs H Q E => ∃ F ds o, Ex F H ∧ RepAll K F vs ds ∧ R ds o ∧
  (∀ d v H', o = .ret d → Ex H H' → Rep K (Grow F H H') v d → Q v H') ∧ (∀ C H', o = .exc C → Ex H H' → E (.ref C) none H')
section
variable {K : PySem.W.Frag} {E E' : XK} {ds : List (Option PyData)} {ta : TA} {xs : List PyData} {d : PyData} {R : List PyData → Out → Prop} {C : Addr}
theorem de_call (ha : DA K ta ds xs) (hr : R xs (.ret d)) : DE K (tCall (spD K R) [] E ta) ds d := fun B σ en H e Q k =>
  ha B σ en H e _ fun vs H1 e1 rs => ⟨Grow B H H1, xs, .ret d, grow_ex2 e e1, by rw [List.append_nil]; exact rs, hr, fun d' v H' q e2 r => by
    cases q
    exact k v H' (e1.trans e2) (r.mono (grow_trans e1 e2)), fun C H' q => by cases q⟩
theorem dx_call (ha : DA K ta ds xs) (hr : R xs (.exc C)) : DX K (tCall (spD K R) [] E ta) ds E C := fun B σ en H e Q k =>
  ha B σ en H e _ fun vs H1 e1 rs => ⟨Grow B H H1, xs, .exc C, grow_ex2 e e1, by rw [List.append_nil]; exact rs, hr, (fun d' v H' q => by cases q), (fun C' H' q e2 => by
    cases q
    exact k H' (e1.trans e2))⟩
theorem dax_1 {te : TE} {tr : TA} (h : DX K te ds E C) : DAX K (tCons te tr) ds E C := fun B σ en H e Q k => h B σ en H e _ k
theorem dax_2 {te : TE} {tr : TA} (h : DE K te ds d) (hr : DAX K tr ds E C) : DAX K (tCons te tr) ds E C := fun B σ en H e Q k =>
  h B σ en H e _ fun v H1 e1 _ => hr B σ en H1 (e.trans e1) _ fun H' e2 => k H' (e1.trans e2)
theorem dx_tup (h : DAX K ta ds E C) : DX K (tTup ta) ds E C := fun B σ en H e Q k => h B σ en H e _ k
theorem dx_args {sp : Sp} (h : DAX K ta ds E C) : DX K (tCall sp [] E' ta) ds E C := fun B σ en H e Q k => h B σ en H e _ k
end
/-- the names at the entry -/
def slots (n : Nat) (ds : List PyData) : List Slot := ds.map Slot.val ++ List.replicate (n - ds.length) .no
theorem start_at {K : PySem.W.Frag} {F H : Hp} {N : List Str} {vs : List V} {ds : List PyData} (e : Ex F H) (r : RepAll K F vs ds) : At K F H F H (L2.start N vs) (slots N.length ds) := by
  have hl := r.length
  have own : ∀ (i : Nat) xs, (slots N.length ds)[i]? ≠ some (.own xs) := fun i xs h => by
    unfold slots at h
    by_cases q : i < ds.length
    · rw [List.getElem?_append_left (by rw [List.length_map]; exact q), List.getElem?_map, List.getElem?_eq_getElem q] at h
      simp at h
    · rw [List.getElem?_append_right (by rw [List.length_map]; omega), List.getElem?_replicate] at h
      split at h <;> simp at h
  refine ⟨e, exr, exr, e, fun a o q => .inl q, ?_, fun i d h => ?_, fun i xs h => absurd h (own i xs), fun i j xs ys a h => absurd h (own i xs)⟩
  · unfold L2.start slots
    simp [hl]
  · unfold slots at h
    by_cases q : i < ds.length
    · rw [List.getElem?_append_left (by rw [List.length_map]; exact q), List.getElem?_map] at h
      cases z : ds[i]? with
      | none => rw [z] at h; cases h
      | some d' =>
        rw [z] at h
        have h' := Option.some.inj h
        injection h' with h'
        subst h'
        obtain ⟨v, h1, h2⟩ := r.get z
        refine ⟨v, ?_, h2⟩
        unfold L2.start
        rw [List.getElem?_append_left (by rw [List.length_map, hl]; exact q), List.getElem?_map, h1]
        rfl
    · rw [List.getElem?_append_right (by rw [List.length_map]; omega), List.getElem?_replicate] at h
      split at h <;> simp at h
def Out.post (o : Out) : Post := { nx := fun _ => o = .ret .none, rt := fun d => o = .ret d, ex := fun C => o = .exc C }
/-- a def's body by its data -/
theorem run_body {K : PySem.W.Frag} {N : List Str} {t : TS} {R : List PyData → Out → Prop} {vs : List V} {H : Hp} {Q : VK} {E : XK} (h : spD K R vs H Q E) (hb : ∀ ds o, R ds o → DS K E t (slots N.length ds) o.post) :
    t { nx := fun _ H' => Q .non H', rt := Q } (L2.start N vs) H := by
  obtain ⟨F, ds, o, e, r, hr, k1, k2⟩ := h
  have A := start_at (N := N) e r
  refine hb ds o hr F H F H _ _ A ⟨fun F' H' σ es x A' q => ?_, fun F' H' σ es x A' q => False.elim q, fun F' H' σ es x A' q => False.elim q, fun v H' d e' r' q => k1 d v H' q e' r', fun C H' e' q => k2 C H' q e'⟩
  exact k1 .none .non H' q A'.h0 .non
theorem sp_len {K : PySem.W.Frag} {R : List PyData → Out → Prop} {n : Nat} (hR : ∀ ds o, R ds o → ds.length = n) : ∀ vs H Q E, spD K R vs H Q E → vs.length = n := fun vs H Q E ⟨F, ds, o, e, r, hr, _⟩ => by
  rw [r.length]
  exact hR ds o hr
/-- the same word for all ways to ask -/
theorem spD_mono {K : PySem.W.Frag} {R R' : List PyData → Out → Prop} (h : ∀ ds o, R ds o → R' ds o) {vs H Q E} (x : spD K R vs H Q E) : spD K R' vs H Q E := by
  obtain ⟨F, ds, o, e, r, hr, k⟩ := x
  exact ⟨F, ds, o, e, r, h ds o hr, k⟩
end VS

set_option Elab.async false
set_option linter.all false
set_option maxRecDepth 100000
/-! Value semantics: items, slices, built-ins, comprehensions. -/
namespace VS
open PySem L2
open Evl (Ex ex_rd ex_l ex_t)
section
variable {K : PySem.W.Frag} {ds : List (Option PyData)} {ta tb te : TE} {x y z d : PyData} {xs ys zs es : List PyData} {i : Int}
/-! ### items -/
theorem RepAll.at {H : Hp} {vs : List V} (r : RepAll K H vs xs) (h : atI xs i = some d) : ∃ v, atI vs i = some v ∧ Rep K H v d := by
  unfold atI at h ⊢
  rw [r.length]
  cases q : ixN xs.length i with
  | none => rw [q] at h; cases h
  | some j =>
    rw [q] at h
    obtain ⟨v, h1, h2⟩ := r.get (i := j) h
    exact ⟨v, h1, h2⟩
theorem d2_ixL (h : atI xs i = some d) : D2 K (rIxL K) (.list xs) (.int i) d := fun B H v u e rv ru Q k => by
  obtain ⟨a, vs, rfl, ha, rs⟩ := rv.list_eq
  obtain ⟨w, h1, h2⟩ := rs.at h
  exact ⟨a, vs, i, w, rfl, ru.int_eq, SqL.of (e a _ ha), h1, k w H exr (grow_same e h2)⟩
theorem d2_ixT (h : atI xs i = some d) : D2 K (rIxT K) (.tuple xs) (.int i) d := fun B H v u e rv ru Q k => by
  obtain ⟨a, vs, rfl, ha, rs⟩ := rv.tup_eq
  obtain ⟨w, h1, h2⟩ := rs.at h
  exact ⟨a, vs, i, w, rfl, ru.int_eq, SqT.of (e a _ ha), h1, k w H exr (grow_same e h2)⟩
theorem d2_ixC {ns : List Int} {n : Int} (h : atI ns i = some n) : D2 K (rIxL K) (scrD ns) (.int i) (.int n) := fun B H v u e rv ru Q k => by
  obtain ⟨a, rfl, ha⟩ := rv.scr_eq
  refine ⟨a, ns.map V.int, i, .int n, rfl, ru.int_eq, ex_l e ha, ?_, k _ H exr (.int n)⟩
  unfold atI at h ⊢
  rw [List.length_map]
  cases q : ixN ns.length i with
  | none => rw [q] at h; cases h
  | some j =>
    rw [q] at h
    show (ns.map V.int)[j]? = some (V.int n)
    rw [List.getElem?_map, show ns[j]? = some n from h]
    rfl
theorem d2_ixS {s : Str} {c : Nat} (hl : s.length ≤ 100000) (h : atI s.cps.toList i = some c) : D2 K rIxS (.str s) (.int i) (.str ⟨#[c]⟩) := fun B H v u e rv ru Q k =>
  ⟨s, i, c, rv.str_eq, ru.int_eq, len_ok hl, h, k _ H exr (.str _)⟩
/-! ### slices -/
def cut {α : Type} (xs : List α) (lo hi : Option Int) : List α := (xs.drop (HT.sIx xs.length 0 lo)).take (HT.sIx xs.length xs.length hi - HT.sIx xs.length 0 lo)
theorem RepAll.cut {H : Hp} {vs : List V} (r : RepAll K H vs xs) (lo hi : Option Int) : RepAll K H (cutV vs lo hi) (VS.cut xs lo hi) := by
  unfold cutV VS.cut
  rw [r.length]
  exact (r.drop _).take _
theorem do_none : DO K tNoPart ds none := fun B σ en H e Q k => k H exr
theorem do_some (h : DE K te ds (.int i)) : DO K (tPart te) ds (some i) := fun B σ en H e Q k => h B σ en H e _ fun v H1 e1 r => ⟨i, r.int_eq, k H1 e1⟩
theorem dn_sl {tl th : TO} {lo hi : Option Int} (h : DE K te ds (.list xs)) (h1 : DO K tl ds lo) (h2 : DO K th ds hi) : DN K (tSl (rSlL K) te tl th) ds (cut xs lo hi) := fun B σ en H e Q k =>
  h B σ en H e _ fun v H1 e1 r => h1 B σ en H1 (e.trans e1) _ fun H2 e2 => h2 B σ en H2 ((e.trans e1).trans e2) _ fun H3 e3 => by
    obtain ⟨a, vs, rfl, ha, rs⟩ := r.list_eq
    refine ⟨a, vs, rfl, SqL.of (e3 a _ (e2 a _ (grow_ex2 e e1 a _ ha))), fun p hp => ?_⟩
    have e13 : Ex H1 H3 := e2.trans e3
    have hp0 := Ex.ne (e1.trans e13) hp
    refine k p _ _ (e1.trans (e13.trans (upd_ex hp))) hp0 upd_same ((rs.cut lo hi).mono ?_)
    exact grow_right (e13.trans (del_upd hp))
theorem dn_slC {tl th : TO} {lo hi : Option Int} {ns : List Int} (h : DE K te ds (scrD ns)) (h1 : DO K tl ds lo) (h2 : DO K th ds hi) : DN K (tSl (rSlL K) te tl th) ds ((cut ns lo hi).map PyData.int) := fun B σ en H e Q k =>
  h B σ en H e _ fun v H1 e1 r => h1 B σ en H1 (e.trans e1) _ fun H2 e2 => h2 B σ en H2 ((e.trans e1).trans e2) _ fun H3 e3 => by
    obtain ⟨a, rfl, ha⟩ := r.scr_eq
    have e13 : Ex H1 H3 := e2.trans e3
    refine ⟨a, ns.map V.int, rfl, ex_l (Evl.Ex.trans (grow_ex2 e e1) e13) ha, fun p hp => ?_⟩
    have hp0 := Ex.ne (e1.trans e13) hp
    refine k p _ _ (e1.trans (e13.trans (upd_ex hp))) hp0 upd_same ?_
    have q : cutV (ns.map V.int) lo hi = (cut ns lo hi).map V.int := by
      unfold cutV VS.cut
      rw [List.length_map, List.map_take, List.map_drop]
    rw [q]
    exact .ints _
/-! ### built-ins -/
theorem dc_len : DC K (fun xs H Q => ∃ p ys, xs = [V.ref p] ∧ (SqL K H p ys ∨ SqT K H p ys) ∧ Q (.int ys.length) H) [.list xs] (.int (xs.length : Int)) := fun B H vs e r Q k => by
  cases r with
  | cons a r =>
    cases r
    obtain ⟨p, ys, rfl, ha, rs⟩ := a.list_eq
    exact ⟨p, ys, rfl, .inl (SqL.of (e p _ ha)), by rw [rs.length]; exact k _ H exr (.int _)⟩
theorem dc_lenT : DC K (fun xs H Q => ∃ p ys, xs = [V.ref p] ∧ (SqL K H p ys ∨ SqT K H p ys) ∧ Q (.int ys.length) H) [.tuple xs] (.int (xs.length : Int)) := fun B H vs e r Q k => by
  cases r with
  | cons a r =>
    cases r
    obtain ⟨p, ys, rfl, ha, rs⟩ := a.tup_eq
    exact ⟨p, ys, rfl, .inr (SqT.of (e p _ ha)), by rw [rs.length]; exact k _ H exr (.int _)⟩
theorem dc_lenC {ns : List Int} : DC K (fun xs H Q => ∃ p ys, xs = [V.ref p] ∧ (SqL K H p ys ∨ SqT K H p ys) ∧ Q (.int ys.length) H) [scrD ns] (.int (ns.length : Int)) := fun B H vs e r Q k => by
  cases r with
  | cons a r =>
    cases r
    obtain ⟨p, rfl, ha⟩ := a.scr_eq
    exact ⟨p, ns.map V.int, rfl, .inl (ex_l e ha), by rw [List.length_map]; exact k _ H exr (.int _)⟩
theorem dc_lenS {s : Str} (h : s.length ≤ 100000) : DC K (fun xs H Q => ∃ z, xs = [V.str z] ∧ z.length ≤ sizeLine ∧ Q (.int z.length) H) [.str s] (.int (s.length : Int)) := fun B H vs e r Q k => by
  cases r with
  | cons a r =>
    cases r
    rw [a.str_eq]
    exact ⟨s, rfl, len_ok h, k _ H exr (.int _)⟩
theorem dcn_list : DCN K (fun xs H Q => ∃ p ys, xs = [V.ref p] ∧ (SqL K H p ys ∨ SqT K H p ys) ∧ ∀ l, H l = none → Q (.ref l) (upd H l (.lst ys))) [.list xs] xs := fun B H vs e r Q k => by
  cases r with
  | cons a r =>
    cases r
    obtain ⟨p, ys, rfl, ha, rs⟩ := a.list_eq
    exact ⟨p, ys, rfl, .inl (SqL.of (e p _ ha)), fun l hl => k l ys _ (upd_ex hl) hl upd_same (rs.mono (grow_ex1 e))⟩
theorem dcn_listT : DCN K (fun xs H Q => ∃ p ys, xs = [V.ref p] ∧ (SqL K H p ys ∨ SqT K H p ys) ∧ ∀ l, H l = none → Q (.ref l) (upd H l (.lst ys))) [.tuple xs] xs := fun B H vs e r Q k => by
  cases r with
  | cons a r =>
    cases r
    obtain ⟨p, ys, rfl, ha, rs⟩ := a.tup_eq
    exact ⟨p, ys, rfl, .inr (SqT.of (e p _ ha)), fun l hl => k l ys _ (upd_ex hl) hl upd_same (rs.mono (grow_ex1 e))⟩
theorem dc_min2 {i j : Int} : DC K (fun xs H Q => ∃ i j, xs = [V.int i, V.int j] ∧ Q (.int (if j < i then j else i)) H) [.int i, .int j] (.int (min i j)) := fun B H vs e r Q k => by
  cases r with
  | cons a r =>
    cases r with
    | cons b r =>
      cases r
      rw [a.int_eq, b.int_eq]
      have q : (if j < i then j else i) = min i j := by
        rw [Int.min_def]
        split <;> split <;> omega
      exact ⟨i, j, rfl, by rw [q]; exact k _ H exr (.int _)⟩
theorem dc_max2 {i j : Int} : DC K (fun xs H Q => ∃ i j, xs = [V.int i, V.int j] ∧ Q (.int (if j > i then j else i)) H) [.int i, .int j] (.int (max i j)) := fun B H vs e r Q k => by
  cases r with
  | cons a r =>
    cases r with
    | cons b r =>
      cases r
      rw [a.int_eq, b.int_eq]
      have q : (if j > i then j else i) = max i j := by
        rw [Int.max_def]
        split <;> split <;> omega
      exact ⟨i, j, rfl, by rw [q]; exact k _ H exr (.int _)⟩
theorem dc_abs {i : Int} : DC K (fun xs H Q => ∃ i, xs = [V.int i] ∧ Q (.int (if i < 0 then -i else i)) H) [.int i] (.int (if i < 0 then -i else i)) := fun B H vs e r Q k => by
  cases r with
  | cons a r =>
    cases r
    rw [a.int_eq]
    exact ⟨i, rfl, k _ H exr (.int _)⟩
theorem dc_intB {b : Bool} : DC K (fun xs H Q => (∃ i, xs = [V.int i] ∧ Q (.int i) H) ∨ ∃ k, xs = [V.bl k] ∧ Q (.int (if k then 1 else 0)) H) [.bool b] (.int (if b then 1 else 0)) := fun B H vs e r Q k => by
  cases r with
  | cons a r =>
    cases r
    rw [a.bool_eq]
    exact .inr ⟨b, rfl, k _ H exr (.int _)⟩
theorem dc_sum {ns : List Int} : DC K (rSum K) [.list (ns.map PyData.int)] (.int ns.sum) := fun B H vs e r Q k => by
  cases r with
  | cons a r =>
    cases r
    obtain ⟨p, ys, rfl, ha, rs⟩ := a.list_eq
    have q := rs.of_ints
    subst q
    exact ⟨p, ns, rfl, SqL.of (e p _ ha), k _ H exr (.int _)⟩
theorem dc_maxL {ns : List Int} {m : Int} (h0 : 0 < ns.length) (h1 : m ∈ ns) (h2 : ∀ y ∈ ns, y ≤ m) : DC K (rMax K) [.list (ns.map PyData.int)] (.int m) := fun B H vs e r Q k => by
  cases r with
  | cons a r =>
    cases r
    obtain ⟨p, ys, rfl, ha, rs⟩ := a.list_eq
    have q := rs.of_ints
    subst q
    refine ⟨p, ns, rfl, SqL.of (e p _ ha), h0, fun m' g1 g2 => ?_⟩
    have q : m' = m := Int.le_antisymm (h2 m' g1) (g2 m h1)
    rw [q]
    exact k _ H exr (.int _)
theorem dc_minL {ns : List Int} {m : Int} (h0 : 0 < ns.length) (h1 : m ∈ ns) (h2 : ∀ y ∈ ns, m ≤ y) : DC K (rMin K) [.list (ns.map PyData.int)] (.int m) := fun B H vs e r Q k => by
  cases r with
  | cons a r =>
    cases r
    obtain ⟨p, ys, rfl, ha, rs⟩ := a.list_eq
    have q := rs.of_ints
    subst q
    refine ⟨p, ns, rfl, SqL.of (e p _ ha), h0, fun m' g1 g2 => ?_⟩
    have q : m' = m := Int.le_antisymm (g2 m h1) (h2 m' g1)
    rw [q]
    exact k _ H exr (.int _)
/-- sorted of ints -/
theorem sort_ints {ns ms : List Int} (p : ms.Perm ns) (s : ms.Pairwise (· ≤ ·)) : ms = ns.mergeSort (fun a b => decide (a ≤ b)) := by
  have h : (ns.mergeSort (fun a b => decide (a ≤ b))).Pairwise (fun a b => decide (a ≤ b) = true) := List.pairwise_mergeSort (fun a b c h1 h2 => by simp at *; omega) (fun a b => by simp; omega) ns
  refine List.Perm.eq_of_pairwise (le := fun a b : Int => a ≤ b) (fun a b _ _ h1 h2 => Int.le_antisymm h1 h2) s (h.imp fun h => of_decide_eq_true h) (p.trans (List.mergeSort_perm _ _).symm)
theorem dcn_sortI {ns : List Int} : DCN K (rSortedI K) [.list (ns.map PyData.int)] ((ns.mergeSort (fun a b => decide (a ≤ b))).map PyData.int) := fun B H vs e r Q k => by
  cases r with
  | cons a r =>
    cases r
    obtain ⟨p, ys, rfl, ha, rs⟩ := a.list_eq
    have q := rs.of_ints
    subst q
    refine ⟨p, ns, rfl, SqL.of (e p _ ha), fun ms l hp hs hl => ?_⟩
    rw [sort_ints hp hs]
    exact k l _ _ (upd_ex hl) hl upd_same (.ints _)
/-- sorted of pairs of ints -/
def pairD (p : Int × Int) : PyData := .tuple [.int p.1, .int p.2]
def leP (p q : Int × Int) : Bool := decide (p.1 < q.1) || (decide (p.1 = q.1) && decide (p.2 ≤ q.2))
theorem leP_iff {p q : Int × Int} : leP p q = true ↔ p.1 < q.1 ∨ (p.1 = q.1 ∧ p.2 ≤ q.2) := by
  unfold leP
  simp
theorem sort_pairs {ps qs : List (Int × Int)} (p : qs.Perm ps) (s : qs.Pairwise fun a b => leP a b = true) : qs = ps.mergeSort leP := by
  have h : (ps.mergeSort leP).Pairwise (fun a b => leP a b = true) := List.pairwise_mergeSort (fun a b c h1 h2 => by rw [leP_iff] at *; omega) (fun a b => by rw [Bool.or_eq_true, leP_iff, leP_iff]; omega) ps
  exact List.Perm.eq_of_pairwise (le := fun a b => leP a b = true) (fun a b _ _ h1 h2 => by
    rw [leP_iff] at h1 h2
    exact Prod.ext (by omega) (by omega)) s h (p.trans (List.mergeSort_perm _ _).symm)
def keyP (H : Hp) : V → Int × Int
  | .ref t => match H t with
    | some (.tup [.int i, .int j]) => (i, j)
    | _ => (0, 0)
  | _ => (0, 0)
theorem keyP_eq {H : Hp} {t : Addr} {i j : Int} (h : H t = some (.tup [.int i, .int j])) : keyP H (.ref t) = (i, j) := by
  show (match H t with
    | some (.tup [.int i, .int j]) => (i, j)
    | _ => (0, 0)) = (i, j)
  rw [h]
theorem reps_pairs {B H : Hp} (e : Ex B H) : ∀ {vs : List V} {ps : List (Int × Int)}, RepAll K B vs (ps.map pairD) → (∀ v ∈ vs, ∃ t, v = V.ref t ∧ B t = some (.tup [.int (keyP H v).1, .int (keyP H v).2])) ∧ vs.map (keyP H) = ps
  | [], ps, h => by
    cases ps with
    | nil => exact ⟨fun v hv => by simp at hv, rfl⟩
    | cons p ps => cases h
  | v :: vs, ps, h => by
    cases ps with
    | nil => cases h
    | cons p ps =>
      cases h with
      | cons a r =>
        obtain ⟨h1, h2⟩ := reps_pairs e r
        obtain ⟨t, ws, rfl, ht, rs⟩ := a.tup_eq
        cases rs with
        | cons a1 rs =>
          cases rs with
          | cons a2 rs =>
            cases rs
            rw [a1.int_eq, a2.int_eq] at ht
            have kq : keyP H (.ref t) = p := keyP_eq (e t _ ht)
            refine ⟨fun w hw => ?_, ?_⟩
            · rcases List.mem_cons.mp hw with rfl | hw
              · exact ⟨t, rfl, by rw [kq]; exact ht⟩
              · exact h1 w hw
            · rw [List.map_cons, kq, h2]
theorem reps_back {B H : Hp} : ∀ {vs : List V}, (∀ v ∈ vs, ∃ t, v = V.ref t ∧ B t = some (.tup [.int (keyP H v).1, .int (keyP H v).2])) → RepAll K B vs ((vs.map (keyP H)).map pairD)
  | [], _ => .nil
  | v :: vs, h => by
    obtain ⟨t, e, ht⟩ := h v List.mem_cons_self
    refine .cons ?_ (reps_back fun w hw => h w (List.mem_cons_of_mem _ hw))
    rw [e] at ht ⊢
    exact .tup ht (.cons (.int _) (.cons (.int _) .nil))
theorem dcn_sortP {ps : List (Int × Int)} : DCN K (rSortedPO K) [.list (ps.map pairD)] ((ps.mergeSort leP).map pairD) := fun B H vs e r Q k => by
  cases r with
  | cons a r =>
    cases r
    obtain ⟨p, ys, rfl, ha, rs⟩ := a.list_eq
    obtain ⟨h1, h2⟩ := reps_pairs e rs
    refine ⟨p, ys, keyP H, rfl, SqL.of (e p _ ha), fun v hv => ?_, fun zs l hs hb hl => ?_⟩
    · obtain ⟨t, q, ht⟩ := h1 v hv
      exact ⟨t, q, e t _ ht⟩
    · have hz : zs.map (keyP H) = ps.mergeSort leP := by
        refine sort_pairs ?_ ?_
        · rw [← h2]
          exact hb.perm.map _
        · refine List.pairwise_map.mpr (hs.imp fun {x y} q => ?_)
          have q' := SrtO.lexB_no.mp q
          rw [leP_iff]
          omega
      refine k l zs _ (upd_ex hl) hl upd_same ?_
      rw [← hz]
      refine (reps_back (B := B) fun v hv => h1 v (hb.perm.mem_iff.mp hv)).mono (grow_ex1 e)
/-- xs + ys -/
theorem d2n_cat (hl : xs.length + ys.length ≤ 100000) : D2N K rCat (.list xs) (.list ys) (xs ++ ys) := fun B H v u e rv ru Q k => by
  obtain ⟨a, vs, rfl, ha, rs⟩ := rv.list_eq
  obtain ⟨b, us, rfl, hb, ru⟩ := ru.list_eq
  refine ⟨a, b, vs, us, rfl, rfl, e a _ ha, e b _ hb, len_ok (by rw [rs.length, ru.length]; exact hl), fun p hp => ?_⟩
  exact k p _ _ (upd_ex hp) hp upd_same ((rs.append ru).mono (grow_ex1 e))
/-- == of data -/
theorem d2_eqD (hx : SeqAt.shaped x = true) (hy : SeqAt.shaped y = true) : D2 K (rEqD K) x y (.bool (PyData.eqv x y)) := fun B H v u e rv ru Q k =>
  ⟨x, y, (rv.mono e).dp (SeqAt.canLay_of_shaped hx), (ru.mono e).dp (SeqAt.canLay_of_shaped hy), hx, hy, k _ H exr (.bl _)⟩
theorem d2_neD (hx : SeqAt.shaped x = true) (hy : SeqAt.shaped y = true) : D2 K (rNeD K) x y (.bool (!PyData.eqv x y)) := fun B H v u e rv ru Q k =>
  ⟨x, y, (rv.mono e).dp (SeqAt.canLay_of_shaped hx), (ru.mono e).dp (SeqAt.canLay_of_shaped hy), hx, hy, k _ H exr (.bl _)⟩
/-- x in (a, b): texts -/
theorem all_strs {B : Hp} {ss : List Str} : ∀ {vs : List V}, RepAll K B vs (ss.map PyData.str) → vs = ss.map V.str := by
  induction ss with
  | nil => intro vs h; cases h; rfl
  | cons s ss ih =>
    intro vs h
    cases h with
    | cons a r => rw [a.str_eq, ih r]; rfl
theorem inV_strs {s : Str} : ∀ {ss : List Str}, inV (.str s) (ss.map V.str) = decide (s ∈ ss)
  | [] => rfl
  | t :: ss => by
    have ih := inV_strs (s := s) (ss := ss)
    unfold inV at ih ⊢
    rw [List.map_cons, List.any_cons, ih]
    show (t == s || decide (s ∈ ss)) = decide (s ∈ t :: ss)
    rw [Bool.eq_iff_iff]
    simp only [Bool.or_eq_true, beq_iff_eq, decide_eq_true_eq, List.mem_cons]
    exact ⟨fun h => h.imp Eq.symm id, fun h => h.imp Eq.symm id⟩
theorem d2_inT {s : Str} {ss : List Str} {neg : Bool} : D2 K (rIn K neg) (.str s) (.tuple (ss.map PyData.str)) (.bool (if neg then !decide (s ∈ ss) else decide (s ∈ ss))) := fun B H v u e rv ru Q k => by
  obtain ⟨a, vs, rfl, ha, rs⟩ := ru.tup_eq
  rw [rv.str_eq]
  have q := all_strs rs
  subst q
  refine ⟨a, _, rfl, .inr (SqT.of (e a _ ha)), rfl, by simp [flatV], ?_⟩
  rw [inV_strs]
  exact k _ H exr (.bl _)
/-- neither the script nor a bare reference -/
def notScr : PyData → Bool
  | .dict (_ :: _) => false
  | _ => true
/-- isinstance -/
def tyD : PyData → String
  | .none => "NoneType"
  | .bool _ => "bool"
  | .int _ => "int"
  | .str _ => "str"
  | .list _ => "list"
  | .tuple _ => "tuple"
  | .dict [] => "dict"
  | .dict _ => "list"
theorem Rep.ty {H : Hp} {v : V} (h : Rep K H v d) (hn : notScr d = true) : TyX K H v (.type (tyD d)) := by
  cases h with
  | non => exact .base .non
  | bl b => exact .base (.bl b)
  | int i => exact .base (.int i)
  | str x => exact .base (.str x)
  | lst h _ => exact .base (.lst h)
  | tup h _ => exact .base (.tup h)
  | @scr a ns _ => cases hn
  | raw a => cases hn
  | edict h => exact .base (.dK h)
theorem dc_isi {T : String} {b : Bool} (hk : kitB (tyD d) T = some b) (hn : notScr d = true) {v : V} {B H : Hp} (e : Ex B H) (r : Rep K B v d) {Q : VK} (k : Q (.bl b) H) : rIsi K [v, .ty T] H Q :=
  ⟨v, .ty T, .type (tyD d), .type T, b, rfl, .ty T, (r.mono e).ty hn, kit_ty hk, k⟩
theorem de_isi {T : String} {b : Bool} (h : DE K te ds d) (hk : kitB (tyD d) T = some b) (hn : notScr d = true) : DE K (tCB (rIsi K) (tCons te (tCons (tC (.ty T)) tNil))) ds (.bool b) := fun B σ en H e Q k =>
  h B σ en H e _ fun v H1 e1 r => dc_isi hk hn (grow_ex2 e e1) r (k _ H1 e1 (.bl b))
/-! ### comprehensions -/
theorem wipe_len {σ : L2.St} : ∀ {vs : List Nat}, (wipe σ vs).length = σ.length
  | [] => rfl
  | v :: vs => by
    show ((wipe σ vs).set v none).length = σ.length
    rw [List.length_set, wipe_len]
def wipeD (ds : List (Option PyData)) : List Nat → List (Option PyData)
  | [] => ds
  | v :: vs => (wipeD ds vs).set v none
theorem wipeD_len : ∀ {vs : List Nat}, (wipeD ds vs).length = ds.length
  | [] => rfl
  | v :: vs => by
    show ((wipeD ds vs).set v none).length = ds.length
    rw [List.length_set, wipeD_len]
theorem EnvR.set {B : Hp} {σ : L2.St} (h : EnvR K B σ ds) {j : Nat} {v : V} (r : Rep K B v d) : EnvR K B (σ.set j (some v)) (ds.set j (some d)) := ⟨by rw [List.length_set, List.length_set]; exact h.1, fun i d' q => by
  by_cases z : j = i
  · subst z
    have hi := get_set_is q
    cases get_set_at q
    exact ⟨v, List.getElem?_set_self (by rw [h.1]; exact hi), r⟩
  · rw [get_set_ne z] at q ⊢
    exact h.2 i d' q⟩
/-- a comprehension's own name is set, from the empty place -/
theorem EnvR.own {B : Hp} {σ : L2.St} (h : EnvR K B σ ds) {j : Nat} {v : V} (r : Rep K B v d) : EnvR K B ((L2.wipe σ [j]).set j (some v)) (ds.set j (some d)) := by
  have q : (L2.wipe σ [j]).set j (some v) = σ.set j (some v) := by
    show (σ.set j none).set j (some v) = σ.set j (some v)
    rw [List.set_set]
  rw [q]
  exact h.set r
theorem wipe_set1 {σ : L2.St} {j : Nat} {o : Option V} : wipe ((wipe σ [j]).set j o) [j] = wipe σ [j] := by
  show ((σ.set j none).set j o).set j none = σ.set j none
  rw [List.set_set, List.set_set]
/-- the items of a comprehension -/
def lcOf {α : Type} (f : α → Bool) (g : α → PyData) (xs : List α) : List PyData := (xs.filter f).map g
theorem lcOf_snoc_yes {α : Type} {f : α → Bool} {g : α → PyData} {xs : List α} {i : Nat} {x : α} (hi : xs[i]? = some x) (h : f x = true) : lcOf f g (xs.take (i + 1)) = lcOf f g (xs.take i) ++ [g x] := by
  unfold lcOf
  rw [List.take_add_one, hi, List.filter_append, List.map_append]
  simp [h]
theorem lcOf_snoc_no {α : Type} {f : α → Bool} {g : α → PyData} {xs : List α} {i : Nat} {x : α} (hi : xs[i]? = some x) (h : f x = false) : lcOf f g (xs.take (i + 1)) = lcOf f g (xs.take i) := by
  unfold lcOf
  rw [List.take_add_one, hi, List.filter_append, List.map_append]
  simp [h]
theorem lcOf_len {α : Type} (f : α → Bool) (g : α → PyData) (xs : List α) (i : Nat) : (lcOf f g (xs.take i)).length ≤ xs.length := by
  unfold lcOf
  rw [List.length_map]
  exact Nat.le_trans (List.length_filter_le _ _) (by rw [List.length_take]; omega)
/-- what holds of the heap within: D bears what is made so far -/
structure Lw (K : PySem.W.Frag) (B H0 : Hp) (D : Addr) (acc : List PyData) (H : Hp) : Prop where
  new : H0 D = none
  up : Ex H0 H
  here : ∃ vs, H D = some (.lst vs) ∧ RepAll K (Grow B H0 (del H D)) vs acc
theorem lw_turn {α : Type} {B H0 H : Hp} {D : Addr} {f : α → Bool} {g : α → PyData} {xs : List α} {i : Nat} {x : α} {t : TT} {te : TE} {σ2 : L2.St} {ds2 : List (Option PyData)} (e0 : Ex B H0) (w : Lw K B H0 D (lcOf f g (xs.take i)) H) (hx : xs[i]? = some x) (hz : xs.length ≤ 50000)
    (en : EnvR K (Grow B H0 (del H D)) σ2 ds2) (ht : DT K t ds2 (f x)) (he : f x = true → DE K te ds2 (g x)) :
    t σ2 H fun b H3 => if b = true then te σ2 H3 fun y H4 => ∃ acc, H4 D = some (.lst acc) ∧ acc.length < sizeLine ∧ Lw K B H0 D (lcOf f g (xs.take (i + 1))) (upd H4 D (.lst (acc ++ [y]))) else Lw K B H0 D (lcOf f g (xs.take (i + 1))) H3 := by
  obtain ⟨hn, hu, vs, hD, hr⟩ := w
  have eF : Ex (Grow B H0 (del H D)) H := fun a o q => by
    cases z : H0 a with
    | none => rw [grow_new z] at q; exact del_ex a o q
    | some u => rw [grow_old (ne_some z)] at q; exact hu a o (e0 a o q)
  have FD : Grow B H0 (del H D) D = none := by rw [grow_new hn, del_same]
  refine ht _ σ2 en H eF _ fun H3 e3 => ?_
  have eF3 := Evl.Ex.trans eF e3
  cases hf : f x with
  | false =>
    show Lw K B H0 D (lcOf f g (xs.take (i + 1))) H3
    rw [lcOf_snoc_no hx hf]
    refine ⟨hn, hu.trans e3, vs, e3 D _ hD, hr.mono ?_⟩
    refine grow_right fun a o q => ?_
    by_cases z : a = D
    · rw [z, del_same] at q; cases q
    · rw [del_ne z] at q ⊢; exact e3 a o q
  | true =>
    show te σ2 H3 _
    refine he hf _ σ2 en H3 eF3 _ fun y H4 e4 ry => ?_
    refine ⟨vs, e4 D _ (e3 D _ hD), ?_, hn, Evl.Ex.mut (hu.trans (e3.trans e4)) hn, vs ++ [y], upd_same, ?_⟩
    · have q := hr.length
      have q2 := lcOf_len f g xs i
      exact Evl.sz_lt (by omega)
    · rw [lcOf_snoc_yes hx hf]
      have ek : ∀ a o, Grow B H0 (del H D) a = some o → Grow B H0 (del (upd H4 D (.lst (vs ++ [y]))) D) a = some o := fun a o q => by
        cases z0 : H0 a with
        | none =>
          rw [grow_new z0] at q ⊢
          by_cases z : a = D
          · rw [z, del_same] at q; cases q
          · rw [del_ne z] at q ⊢
            rw [upd_ne z]
            exact e4 a o (e3 a o q)
        | some u => rw [grow_old (ne_some z0)] at q ⊢; exact q
      refine (hr.mono ek).append (.cons (ry.mono fun a o q => ?_) .nil)
      cases z3 : H3 a with
      | none =>
        rw [grow_new z3] at q
        have z : a ≠ D := fun z => by rw [z, e3 D _ hD] at z3; cases z3
        rw [grow_new (Ex.ne (hu.trans e3) z3), del_ne z, upd_ne z]
        exact q
      | some u =>
        rw [grow_old (ne_some z3)] at q
        exact ek a o q
/-- over a list -/
theorem dn_lcL {tl : TE} {t : TT} {j : Nat} {xs : List PyData} (f : PyData → Bool) (g : PyData → PyData) (h : DE K tl ds (.list xs)) (hz : xs.length ≤ 50000)
    (ht : ∀ x ∈ xs, DT K t (ds.set j (some x)) (f x)) (he : ∀ x ∈ xs, f x = true → DE K te (ds.set j (some x)) (g x)) :
    DN K (tLc (iList K tl) (gName j) t te [j]) ds (lcOf f g xs) := fun B σ en H e Q k => by
  refine h B σ en H e _ fun v H1 e1 r => ?_
  obtain ⟨a, vs, rfl, ha, rs⟩ := r.list_eq
  refine ⟨a, rfl, ⟨vs, SqL.of (grow_ex2 e e1 a _ ha)⟩, fun D hD => ?_⟩
  have e01 : Ex (Grow B H H1) H1 := grow_ex2 e e1
  refine lc_list (xs := vs) (fun i H' => Lw K (Grow B H H1) H1 D (lcOf f g (xs.take i)) H') ?_ (fun i H' _ w => SqL.of (w.up a _ (e01 a _ ha))) ?_ ?_
  · exact ⟨hD, upd_ex hD, [], upd_same, .nil⟩
  · intro i x H' hi w
    obtain ⟨d, hd, rd⟩ := rs.get' hi
    have hm : d ∈ xs := List.mem_of_getElem? hd
    have eF : Ex (Grow B H H1) (Grow (Grow B H H1) H1 (del H' D)) := grow_ex1 e01
    have eb : Ex B (Grow (Grow B H H1) H1 (del H' D)) := Evl.Ex.trans (grow_ex1 e) eF
    have en2 := (en.mono eb).own (j := j) (rd.mono eF)
    exact ⟨wipe_set1, lw_turn e01 w hd hz en2 (ht d hm) (fun hf => he d hm hf)⟩
  · rintro H' ⟨hn, hu, us, hl, hr⟩
    rw [rs.length, List.take_length] at hr
    exact k D us H' (e1.trans hu) (Ex.ne e1 hn) hl (hr.mono (grow_trans e1 (ex_del hu hn)))
/-- over range(n) -/
theorem dn_lcR {tl : TA} {t : TT} {j : Nat} {n : Nat} (f : Nat → Bool) (g : Nat → PyData) (h : DA K tl ds [.int (n : Int)]) (hz : n ≤ 50000)
    (ht : ∀ i : Nat, i < n → DT K t (ds.set j (some (.int (i : Int)))) (f i)) (he : ∀ i : Nat, i < n → f i = true → DE K te (ds.set j (some (.int (i : Int)))) (g i)) :
    DN K (tLc (iRng1 tl) (gName j) t te [j]) ds (lcOf f g (List.range n)) := fun B σ en H e Q k => by
  refine h B σ en H e _ fun vs H1 e1 r => ?_
  have ev : vs = [.int (n : Int)] := by
    cases r with
    | cons a r => cases r; rw [a.int_eq]
  refine ⟨(n : Int), ev, by omega, by omega, fun D hD => ?_⟩
  have e01 : Ex (Grow B H H1) H1 := grow_ex2 e e1
  refine lc_range (lo := 0) (n := ((n : Int)).toNat) (fun i H' => Lw K (Grow B H H1) H1 D (lcOf f g ((List.range n).take i)) H') ?_ ?_ ?_
  · exact ⟨hD, upd_ex hD, [], upd_same, .nil⟩
  · intro i H' hi w
    have hi' : i < n := by omega
    have e0 : (0 : Int) + (i : Int) = (i : Int) := Int.zero_add _
    rw [e0]
    have eb : Ex B (Grow (Grow B H H1) H1 (del H' D)) := Evl.Ex.trans (grow_ex1 e) (grow_ex1 e01)
    have en2 := (en.mono eb).own (j := j) (v := .int (i : Int)) (d := .int (i : Int)) (.int _)
    refine ⟨wipe_set1, lw_turn (f := f) (g := g) (xs := List.range n) (x := i) e01 w ?_ (by rw [List.length_range]; exact hz) en2 (ht i hi') (fun hf => he i hi' hf)⟩
    rw [List.getElem?_range hi']
  · rintro H' ⟨hn, hu, us, hl, hr⟩
    have q : ((n : Int)).toNat = n := by omega
    rw [q, List.take_of_length_le (by rw [List.length_range]; exact Nat.le_refl _)] at hr
    exact k D us H' (e1.trans hu) (Ex.ne e1 hn) hl (hr.mono (grow_trans e1 (ex_del hu hn)))
theorem dt_yes : DT K tYes ds true := fun B σ en H e Q k => k H exr
theorem lcOf_all {α : Type} (g : α → PyData) (xs : List α) : lcOf (fun _ => true) g xs = xs.map g := by
  unfold lcOf
  rw [List.filter_eq_self.mpr fun _ _ => rfl]
end
end VS

set_option Elab.async false
set_option linter.all false
set_option maxRecDepth 100000
/-! Value semantics: short names of readings, the steps. -/
namespace VS
open PySem L2
open Evl (Ex ex_rd ex_l ex_t)
abbrev rAddI : R2 := rI0 fun i j => .int (i + j)
abbrev rSubI : R2 := rI0 fun i j => .int (i - j)
abbrev rMulI : R2 := rI CMul fun i j => .int (i * j)
abbrev rDivI : R2 := rI CDiv fun i j => .int (i / j)
abbrev rModI : R2 := rI (fun _ j => 0 < j) fun i j => .int (i % j)
abbrev rLtI : R2 := rI0 fun i j => .bl (decide (i < j))
abbrev rLeI : R2 := rI0 fun i j => .bl (decide (i ≤ j))
abbrev rGtI : R2 := rI0 fun i j => .bl (decide (j < i))
abbrev rGeI : R2 := rI0 fun i j => .bl (decide (j ≤ i))
abbrev rNegI : V → Hp → VK → Prop := rU fun i => .int (-i)
abbrev rLenSq (K : PySem.W.Frag) : List V → Hp → VK → Prop := fun xs H Q => ∃ p ys, xs = [V.ref p] ∧ (SqL K H p ys ∨ SqT K H p ys) ∧ Q (.int ys.length) H
abbrev rLenStr : List V → Hp → VK → Prop := fun xs H Q => ∃ z, xs = [V.str z] ∧ z.length ≤ sizeLine ∧ Q (.int z.length) H
abbrev rListOf (K : PySem.W.Frag) : List V → Hp → VK → Prop := fun xs H Q => ∃ p ys, xs = [V.ref p] ∧ (SqL K H p ys ∨ SqT K H p ys) ∧ ∀ l, H l = none → Q (.ref l) (upd H l (.lst ys))
abbrev rMin2 : List V → Hp → VK → Prop := fun xs H Q => ∃ i j, xs = [V.int i, V.int j] ∧ Q (.int (if j < i then j else i)) H
abbrev rMax2 : List V → Hp → VK → Prop := fun xs H Q => ∃ i j, xs = [V.int i, V.int j] ∧ Q (.int (if j > i then j else i)) H
abbrev rAbs : List V → Hp → VK → Prop := fun xs H Q => ∃ i, xs = [V.int i] ∧ Q (.int (if i < 0 then -i else i)) H
abbrev rInt1 : List V → Hp → VK → Prop := fun xs H Q => (∃ i, xs = [V.int i] ∧ Q (.int i) H) ∨ ∃ k, xs = [V.bl k] ∧ Q (.int (if k then 1 else 0)) H
/-- a < b < c < d -/
def tChain3 (r r' r2 : R2) (ta tb tc td : TE) : TE := fun σ H Q => ta σ H fun x H1 => tb σ H1 fun y H2 => r x y H2 fun z H3 => ∃ k, z = .bl k ∧
  (if k = true then tc σ H3 fun w H4 => r' y w H4 fun z2 H5 => ∃ k2, z2 = .bl k2 ∧ (if k2 = true then td σ H5 fun v H6 => r2 w v H6 Q else Q (.bl false) H5) else Q (.bl false) H3)
theorem de_chain3 {K : PySem.W.Frag} {ds : List (Option PyData)} {ta tb tc td : TE} {i j k l : Int} {r r' r2 : R2} {a b e : Bool} (ha : DE K ta ds (.int i)) (hb : DE K tb ds (.int j)) (hc : DE K tc ds (.int k)) (hd : DE K td ds (.int l))
    (h1 : D2 K r (.int i) (.int j) (.bool a)) (h2 : D2 K r' (.int j) (.int k) (.bool b)) (h3 : D2 K r2 (.int k) (.int l) (.bool e)) : DE K (tChain3 r r' r2 ta tb tc td) ds (.bool (a && (b && e))) := fun B σ en H e0 Q q =>
  ha B σ en H e0 _ fun v H1 e1 rv => by
    rw [rv.int_eq]
    refine hb B σ en H1 (e0.trans e1) _ fun u H2 e2 ru => ?_
    rw [ru.int_eq]
    refine h1 B H2 _ _ (e0.trans (e1.trans e2)) (.int i) (.int j) _ fun w H3 e3 rw => ⟨a, rw.bool_eq, ?_⟩
    have x3 : Ex H H3 := e1.trans (e2.trans e3)
    cases a with
    | false =>
      show Q (.bl false) H3
      exact q _ H3 x3 (.bl _)
    | true =>
      show tc σ H3 _
      refine hc B σ en H3 (e0.trans x3) _ fun w4 H4 e4 r4 => ?_
      rw [r4.int_eq]
      refine h2 B H4 _ _ (e0.trans (x3.trans e4)) (.int j) (.int k) _ fun w5 H5 e5 r5 => ⟨b, r5.bool_eq, ?_⟩
      have x5 : Ex H H5 := x3.trans (e4.trans e5)
      cases b with
      | false =>
        show Q (.bl false) H5
        exact q _ H5 x5 (.bl _)
      | true =>
        show td σ H5 _
        refine hd B σ en H5 (e0.trans x5) _ fun w6 H6 e6 r6 => ?_
        rw [r6.int_eq]
        refine h3 B H6 _ _ (e0.trans (x5.trans e6)) (.int k) (.int l) Q fun w7 H7 e7 r7 => ?_
        rw [r7.bool_eq]
        exact q _ H7 (x5.trans (e6.trans e7)) (.bl _)
theorem rawD_eq (a : Addr) : rawD a = rawD a := rfl
/-- the errors by their names -/
inductive ErrC where
  | wish | price | pieces | uneven | none | unread
  deriving DecidableEq
/-- {} -/
def tDnew : TE := fun _ H Q => ∀ d, H d = none → Q (.ref d) (upd H d (.dK []))
theorem de_dnew {K : PySem.W.Frag} {ds : List (Option PyData)} : DE K tDnew ds (.dict []) := fun B σ en H e Q k d hd => k _ _ (upd_ex hd) (.edict (by rw [grow_new hd, upd_same]))
/-- the classes -/
structure Cs where
  BidError : Addr
  BadWish : Addr
  BadPrice : Addr
  BadPieces : Addr
  Uneven : Addr
  NoSuch : Addr
  Unread : Addr
def Cs.at (c : Cs) : ErrC → Addr
  | .wish => c.BadWish
  | .price => c.BadPrice
  | .pieces => c.BadPieces
  | .uneven => c.Uneven
  | .none => c.NoSuch
  | .unread => c.Unread
abbrev rAddStr : R2 := fun x y H Q => ∃ i j, x = .str i ∧ y = .str j ∧ i.length + j.length ≤ sizeLine ∧ Q (.str (i ++ j)) H
theorem d2_addStr {K : PySem.W.Frag} {i j : Str} (h : i.length + j.length ≤ 100000) : D2 K rAddStr (.str i) (.str j) (.str (i ++ j)) := fun B H v u e rv ru Q k =>
  ⟨i, j, rv.str_eq, ru.str_eq, len_ok h, k _ H exr (.str _)⟩
section
variable {K : PySem.W.Frag} {E : XK} {es : List Slot} {P : Post} {te ta ti : TE} {tc : TT} {t u tb : TS} {d : PyData} {i j : Nat} {xs : List PyData}
/-- ..; the rest -/
theorem q_set (h : DE K te (see es) d) (hs : scalarD d = true) (k : DS K E u (es.set i (.val d)) P) : DS K E (tSeq (tAsg te (gName i)) u) es P := ds_seq (ds_set h hs k)
theorem q_let (h : DE K te (frz es) d) (k : DS K E u (es.set i (.val d)) P) : DS K E (tSeq (tAsg te (gName i)) u) es P := ds_seq (ds_let h k)
theorem q_new (h : DN K te (frz es) xs) (k : DS K E u (es.set i (.own xs)) P) : DS K E (tSeq (tAsg te (gName i)) u) es P := ds_seq (ds_new h k)
theorem q_drop (h : DE K te (see es) d) (k : DS K E u es P) : DS K E (tSeq (tDrop te) u) es P := ds_seq (ds_drop h k)
/-- if t: x = e, told by the value that x has behind it -/
theorem q_ifset {b : Bool} (h : DT K tc (see es) b) (h1 : b = true → DE K te (see es) d) (hs : scalarD d = true) (h2 : b = false → es.set i (.val d) = es) (k : DS K E u (es.set i (.val d)) P) : DS K E (tSeq (tIfS tc (tAsg te (gName i)) tNext) u) es P :=
  ds_seq (ds_if h (fun hb => ds_set (h1 hb) hs k) (fun hb => ds_next (by
    show DS K E u es P
    have k' := k
    rw [h2 hb] at k'
    exact k')))
/-- if t: return / raise; the rest -/
theorem q_if {b : Bool} (h : DT K tc (see es) b) (h1 : b = true → DS K E t es { P with nx := fun es' => DS K E u es' P }) (h2 : b = false → DS K E u es P) : DS K E (tSeq (tIfS tc t tNext) u) es P :=
  ds_seq (ds_if h h1 fun hb => ds_next (h2 hb))
theorem q_guard (h : DT K tc (see es) false) (k : DS K E u es P) : DS K E (tSeq (tIfS tc t tNext) u) es P := q_if h (fun z => by cases z) fun _ => k
theorem q_app (h : DE K te (see es) d) (hs : scalarD d = true) (hi : es[i]? = some (.own xs)) (hl : xs.length < 100000) (k : DS K E u (es.set i (.own (xs ++ [d]))) P) : DS K E (tSeq (tDrop (tBM K "list" rAppend (tVar i) (tCons te tNil))) u) es P := ds_seq (ds_app h hs hi hl k)
theorem q_appV (h : DE K te (frz es) d) (hi : es[i]? = some (.own xs)) (hl : xs.length < 100000) (k : DS K E u (es.set i (.own (xs ++ [d]))) P) : DS K E (tSeq (tDrop (tBM K "list" rAppend (tVar i) (tCons te tNil))) u) es P := ds_seq (ds_appV h hi hl k)
theorem q_put {n : Int} {k0 : Nat} (h : DE K te (see es) d) (hs : scalarD d = true) (hi : es[i]? = some (.own xs)) (hn : DE K ti (see es) (.int n)) (hk : ixN xs.length n = some k0) (k : DS K E u (es.set i (.own (xs.set k0 d))) P) : DS K E (tSeq (tAsg te (gSub (tVar i) ti rSetL)) u) es P := ds_seq (ds_put h hs hi hn hk k)
theorem q_for {tl : TE} {xs : List PyData} (W : Nat → List Slot → Prop) (h : DE K tl (frz es) (.list xs)) (h0 : W 0 es) (hs : ∀ k x es', xs[k]? = some x → W k es' → DS K E tb (es'.set j (.val x)) { P with nx := W (k + 1), ct := W (k + 1), bk := fun es' => DS K E u es' P }) (hd : ∀ es', W xs.length es' → DS K E u es' P) :
    DS K E (tSeq (tFor (iList K tl) (gName j) tb) u) es P := ds_seq (ds_for W h h0 hs hd)
theorem q_forT {tl : TE} {xs : List PyData} (W : Nat → List Slot → Prop) (h : DE K tl (frz es) (.tuple xs)) (h0 : W 0 es) (hs : ∀ k x es', xs[k]? = some x → W k es' → DS K E tb (es'.set j (.val x)) { P with nx := W (k + 1), ct := W (k + 1), bk := fun es' => DS K E u es' P }) (hd : ∀ es', W xs.length es' → DS K E u es' P) :
    DS K E (tSeq (tFor (iTup K tl) (gName j) tb) u) es P := ds_seq (ds_forT W h h0 hs hd)
theorem q_forR1 {ta : TA} {n : Int} (W : Nat → List Slot → Prop) (h : DA K ta (see es) [.int n]) (hn : -100000 ≤ n ∧ n ≤ 100000) (h0 : W 0 es) (hs : ∀ (k : Nat) es', (k : Int) < n → W k es' → DS K E tb (es'.set j (.val (.int (k : Int)))) { P with nx := W (k + 1), ct := W (k + 1), bk := fun es' => DS K E u es' P }) (hd : ∀ es', W n.toNat es' → DS K E u es' P) :
    DS K E (tSeq (tFor (iRng1 ta) (gName j) tb) u) es P := ds_seq (ds_forR1 W h hn.2 h0 hs hd hn.1)
theorem q_while (W : Nat → List Slot → Prop) (m0 : Nat) (h0 : W m0 es) (hs : ∀ m es', W m es' → ∃ b, DT K tc (see es') b ∧ (b = true → DS K E tb es' { P with nx := fun es2 => ∃ m', m' < m ∧ W m' es2, ct := fun es2 => ∃ m', m' < m ∧ W m' es2, bk := fun es' => DS K E u es' P }) ∧ (b = false → DS K E u es' P)) :
    DS K E (tSeq (tWhile tc tb) u) es P := ds_seq (ds_while W m0 h0 hs)
theorem q_freeze (i : Nat) {xs : List PyData} (hi : es[i]? = some (.own xs)) (h : DS K E t (es.set i (.val (.list xs))) P) : DS K E t es P := ds_freeze hi h
theorem q_last (h : DS K E t es P) : DS K E t es P := h
/-- one answer, whatever the way -/
theorem dt_to {b b' : Bool} {ds : List (Option PyData)} (h : DT K tc ds b) (e : b = b') : DT K tc ds b' := e ▸ h
theorem de_to {d d' : PyData} {ds : List (Option PyData)} (h : DE K te ds d) (e : d = d') : DE K te ds d' := e ▸ h
theorem post_ret {o : Out} {d : PyData} (h : o = .ret d) : o.post.rt d := h
end
/-! ### the wishes -/
structure Wish where
  buy : Bool
  limit : Int
  amount : Int
  deriving DecidableEq
def sideS (b : Bool) : Str := if b then "buy" else "sell"
def wishD (w : Wish) : PyData := .tuple [.str (sideS w.buy), .int w.limit, .int w.amount]
abbrev wsD (ws : List Wish) : PyData := .list (ws.map wishD)
abbrev intsD (ns : List Int) : PyData := .list (ns.map PyData.int)
theorem sideS_buy {b : Bool} : decide (sideS b = "buy") = b := by cases b <;> decide +kernel
theorem sideS_sell {b : Bool} : decide (sideS b = "sell") = !b := by cases b <;> decide +kernel
theorem sideS_eq {a b : Bool} : decide (sideS a = sideS b) = (a == b) := by cases a <;> cases b <;> decide +kernel
theorem map_at {α : Type} {f : α → PyData} {xs : List α} {i : Nat} {d : PyData} (h : (xs.map f)[i]? = some d) : ∃ x, xs[i]? = some x ∧ d = f x := by
  rw [List.getElem?_map] at h
  cases e : xs[i]? with
  | none => rw [e] at h; cases h
  | some x => rw [e] at h; exact ⟨x, rfl, (Option.some.inj h).symm⟩
theorem atI_map {α : Type} {f : α → PyData} {xs : List α} {i : Nat} {x : α} (h : xs[i]? = some x) : atI (xs.map f) (i : Int) = some (f x) := atI_nat (by rw [List.getElem?_map, h]; rfl)
theorem atI_mapI {α : Type} {f : α → PyData} {xs : List α} {i : Int} {n : Nat} {x : α} (e : i = (n : Int)) (h : xs[n]? = some x) : atI (xs.map f) i = some (f x) := by rw [e]; exact atI_map h
theorem d2_fdivC {K : PySem.W.Frag} {i j : Int} (h1 : 0 < j) (h2 : j < 1073741824) : D2 K rDivI (.int i) (.int j) (.int (i / j)) := d2_fdiv ⟨h1, h2⟩
theorem d2_mulL {K : PySem.W.Frag} {i j : Int} (h1 : -(2 ^ 64) < i) (h2 : i < 2 ^ 64) : D2 K rMulI (.int i) (.int j) (.int (i * j)) := d2_mul (.inl ⟨h1, h2⟩)
theorem d2_mulR {K : PySem.W.Frag} {i j : Int} (h1 : -(2 ^ 64) < j) (h2 : j < 2 ^ 64) : D2 K rMulI (.int i) (.int j) (.int (i * j)) := d2_mul (.inr ⟨h1, h2⟩)
section
variable {K : PySem.W.Frag} {ds : List (Option PyData)} {ta tb tc te : TE} {t u : TT} {d x y z : PyData} {r r' : R2}
theorem de_andU {a b : Bool} (h1 : DE K ta ds (.bool a)) (h2 : DE K tb ds (.bool b)) : DE K (tAndV ta tb) ds (.bool (a && b)) := de_andV h1 fun _ => h2
theorem de_orU {a b : Bool} (h1 : DE K ta ds (.bool a)) (h2 : DE K tb ds (.bool b)) : DE K (tOrV ta tb) ds (.bool (a || b)) := de_orV h1 fun _ => h2
theorem dt_andU {a b : Bool} (h1 : DT K t ds a) (h2 : DT K u ds b) : DT K (tAnd t u) ds (a && b) := dt_and h1 fun _ => h2
theorem dt_orU {a b : Bool} (h1 : DT K t ds a) (h2 : DT K u ds b) : DT K (tOr t u) ds (a || b) := dt_or h1 fun _ => h2
theorem de_chainU {a b : Bool} (ha : DE K ta ds x) (hb : DE K tb ds y) (hc : DE K tc ds z) (hr : D2 K r x y (.bool a)) (hr' : D2 K r' y z (.bool b)) : DE K (tChain r r' ta tb tc) ds (.bool (a && b)) := de_chain ha hb hr (fun _ => hc) fun _ => hr'
theorem de_lst {ta : TA} {xs : List PyData} (h : DA K ta ds xs) (hl : xs.length ≤ 100000) : DE K (tLst ta) ds (.list xs) := de_new (dn_lst h hl)
theorem de_slU {tl th : TO} {lo hi : Option Int} {xs : List PyData} (h : DE K te ds (.list xs)) (h1 : DO K tl ds lo) (h2 : DO K th ds hi) : DE K (tSl (rSlL K) te tl th) ds (.list (cut xs lo hi)) := de_new (dn_sl h h1 h2)
theorem dc_new {r : List V → Hp → VK → Prop} {xs zs : List PyData} (h : DCN K r xs zs) : DC K r xs (.list zs) := fun B H vs e rs Q k =>
  h B H vs e rs Q fun p us H' e' hp hl q => k _ H' e' (.lst (by rw [grow_new hp]; exact hl) (q.mono (grow_right del_ex)))
theorem de_isiU {T : String} {b : Bool} (h : DE K te ds d) (hn : notScr d = true) (hk : kitB (tyD d) T = some b) : DE K (tCB (rIsi K) (tCons te (tCons (tC (.ty T)) tNil))) ds (.bool b) := de_isi h hk hn
theorem kit_b_b : kitB "bool" "bool" = some true := by decide +kernel
theorem kit_i_b : kitB "int" "bool" = some false := by decide +kernel
theorem kit_i_i : kitB "int" "int" = some true := by decide +kernel
theorem kit_l_l : kitB "list" "list" = some true := by decide +kernel
theorem kit_t_t : kitB "tuple" "tuple" = some true := by decide +kernel
theorem kit_s_s : kitB "str" "str" = some true := by decide +kernel
end
/-! ### kinds -/
theorem tyD_mem (d : PyData) : tyD d ∈ ["NoneType", "bool", "int", "str", "list", "tuple", "dict"] := by
  cases d with
  | dict kvs => cases kvs <;> simp [tyD]
  | _ => simp [tyD]
theorem kit_int (d : PyData) : kitB (tyD d) "int" = some (tyD d == "int" || tyD d == "bool") := by
  have h := tyD_mem d
  generalize tyD d = s at h
  simp only [List.mem_cons, List.not_mem_nil, or_false] at h
  rcases h with rfl | rfl | rfl | rfl | rfl | rfl | rfl <;> decide +kernel
theorem kit_bool (d : PyData) : kitB (tyD d) "bool" = some (tyD d == "bool") := by
  have h := tyD_mem d
  generalize tyD d = s at h
  simp only [List.mem_cons, List.not_mem_nil, or_false] at h
  rcases h with rfl | rfl | rfl | rfl | rfl | rfl | rfl <;> decide +kernel
def isInt : PyData → Bool
  | .int _ => true
  | _ => false
theorem isInt_ty (d : PyData) : ((tyD d == "int" || tyD d == "bool") && !(tyD d == "bool")) = isInt d := by
  cases d with
  | dict kvs => cases kvs <;> simp [tyD, isInt]
  | _ => simp [tyD, isInt]
theorem kit_tuple (d : PyData) : kitB (tyD d) "tuple" = some (tyD d == "tuple") := by
  have h := tyD_mem d
  generalize tyD d = s at h
  simp only [List.mem_cons, List.not_mem_nil, or_false] at h
  rcases h with rfl | rfl | rfl | rfl | rfl | rfl | rfl <;> decide +kernel
theorem kit_str (d : PyData) : kitB (tyD d) "str" = some (tyD d == "str") := by
  have h := tyD_mem d
  generalize tyD d = s at h
  simp only [List.mem_cons, List.not_mem_nil, or_false] at h
  rcases h with rfl | rfl | rfl | rfl | rfl | rfl | rfl <;> decide +kernel
/-! ### data that may be compared -/
theorem lay_map {α : Type} {f : α → PyData} : ∀ {xs : List α}, (∀ x ∈ xs, (f x).canLay0 = true) → PyData.canLayAll0 (xs.map f) = true
  | [], _ => rfl
  | x :: xs, h => by
    rw [List.map_cons, PyData.canLayAll0, h x List.mem_cons_self, lay_map fun y hy => h y (List.mem_cons_of_mem _ hy)]
    rfl
theorem depth_map {α : Type} {f : α → PyData} {n : Nat} : ∀ {xs : List α}, (∀ x ∈ xs, (f x).depth ≤ n) → PyData.depthAll (xs.map f) ≤ n
  | [], _ => Nat.zero_le _
  | x :: xs, h => by
    rw [List.map_cons, PyData.depthAll]
    exact Nat.max_le.mpr ⟨h x List.mem_cons_self, depth_map fun y hy => h y (List.mem_cons_of_mem _ hy)⟩
theorem sh_map {α : Type} {f : α → PyData} {xs : List α} (h : ∀ x ∈ xs, (f x).canLay0 = true ∧ (f x).depth ≤ 60) : SeqAt.shaped (.list (xs.map f)) = true := by
  unfold SeqAt.shaped
  rw [Bool.and_eq_true, decide_eq_true_eq]
  refine ⟨?_, ?_⟩
  · rw [PyData.canLay0]; exact lay_map fun x hx => (h x hx).1
  · rw [PyData.depth]
    have := depth_map (f := f) (n := 60) fun x hx => (h x hx).2
    omega
theorem lay_side {b : Bool} : (PyData.str (sideS b)).canLay0 = true := by cases b <;> decide +kernel
theorem wish_lay (w : Wish) : (wishD w).canLay0 = true ∧ (wishD w).depth ≤ 60 := by
  have h := lay_side (b := w.buy)
  rw [PyData.canLay0] at h
  unfold wishD
  refine ⟨?_, ?_⟩
  · simp [PyData.canLay0, PyData.canLayAll0, h]
  · simp [PyData.depth, PyData.depthAll]
theorem sh_wish (w : Wish) : SeqAt.shaped (wishD w) = true := by
  unfold SeqAt.shaped
  have h := wish_lay w
  rw [h.1, decide_eq_true (by omega)]
  rfl
theorem sh_ws (ws : List Wish) : SeqAt.shaped (wsD ws) = true := sh_map fun w _ => wish_lay w
theorem sh_ints (ns : List Int) : SeqAt.shaped (intsD ns) = true := sh_map fun w _ => ⟨by simp [PyData.canLay0], by simp [PyData.depth]⟩
theorem eqv_refl {d : PyData} (h : SeqAt.shaped d = true) : PyData.eqv d d = true := SeqAt.eqv_refl d (SeqAt.canLay_of_shaped h)
theorem d2_eqSame {K : PySem.W.Frag} {d : PyData} (h : SeqAt.shaped d = true) : D2 K (rEqD K) d d (.bool true) := by
  have q := d2_eqD (K := K) h h
  rw [eqv_refl h] at q
  exact q
theorem d2_neSame {K : PySem.W.Frag} {d : PyData} (h : SeqAt.shaped d = true) : D2 K (rNeD K) d d (.bool false) := by
  have q := d2_neD (K := K) h h
  rw [eqv_refl h] at q
  exact q
/-- a place of a written list -/
theorem atI_getD {α : Type} {f : α → PyData} {xs : List α} {i : Int} (a : α) (h0 : 0 ≤ i) (h1 : i < (xs.length : Int)) : atI (xs.map f) i = some (f (xs.getD i.toNat a)) := by
  have h2 : i.toNat < xs.length := by omega
  refine atI_mapI (n := i.toNat) (by omega) ?_
  rw [List.getD_eq_getElem?_getD, List.getElem?_eq_getElem h2]
  rfl
theorem getD_mem {α : Type} {xs : List α} {i : Nat} {a : α} (h : i < xs.length) : xs.getD i a ∈ xs := by
  rw [List.getD_eq_getElem?_getD, List.getElem?_eq_getElem h]
  exact List.getElem_mem h
/-- the wishes that the laws build are good -/
def Wish.good (w : Wish) : Prop := 0 ≤ w.limit ∧ w.limit ≤ 1000000000 ∧ 1 ≤ w.amount ∧ w.amount ≤ 1000000
theorem cut_len {α : Type} (xs : List α) (lo hi : Option Int) : (cut xs lo hi).length ≤ xs.length := by
  unfold cut
  rw [List.length_take, List.length_drop]
  omega
theorem law_start {K : PySem.W.Frag} {H : Hp} {a : Addr} {ns : List Int} {R : List PyData → Out → Prop} (hS : SqL K H a (ns.map V.int)) (h : R [scrD ns] (.ret (.bool true))) : spD K R [.ref a] H (fun v _ => v = .bl true) fun _ _ _ => False :=
  ⟨H, _, _, exr, .cons (.scr hS) .nil, h, fun d v H' q e r => by
    cases q
    exact r.bool_eq, fun C H' q => by cases q⟩
def pick (xs : List PyData) (i : Int) : PyData := xs.getD (i % (xs.length : Int)).toNat .none
theorem d2_pickD {K : PySem.W.Frag} {xs : List PyData} {i n : Int} (h : 0 < n) (e : (xs.length : Int) = n) : D2 K (rIxL K) (.list xs) (.int (i % n)) (pick xs i) := by
  unfold pick
  rw [e]
  have h1 := Int.emod_nonneg i (b := n) (by omega)
  have h2 := Int.emod_lt_of_pos i h
  have q := VS.d2_ixL (K := K) (xs := xs.map id) (i := i % n) (atI_getD (f := id) (xs := xs) .none h1 (by omega))
  rw [List.map_id] at q
  exact q
theorem pick_mem {xs : List PyData} {i : Int} (h : 0 < xs.length) : pick xs i ∈ xs := by
  unfold pick
  refine getD_mem ?_
  have h1 := Int.emod_nonneg i (b := (xs.length : Int)) (by omega)
  have h2 := Int.emod_lt_of_pos i (b := (xs.length : Int)) (by omega)
  omega
def wAt (ws : List Wish) (i : Nat) : Wish := ws.getD i ⟨true, 0, 1⟩
theorem wAt_get {ws : List Wish} {i : Nat} (h : i < ws.length) : ws[i]? = some (wAt ws i) := by
  unfold wAt
  rw [List.getD_eq_getElem?_getD, List.getElem?_eq_getElem h]
  rfl
theorem wAt_mem {ws : List Wish} {i : Nat} (h : i < ws.length) : wAt ws i ∈ ws := List.mem_of_getElem? (wAt_get h)
def amtAt (ws : List Wish) (i : Nat) : Int := (wAt ws i).amount
theorem d2_new {K : PySem.W.Frag} {r : R2} {x y : PyData} {zs : List PyData} (h : D2N K r x y zs) : D2 K r x y (.list zs) := fun B H v u e rv ru Q k =>
  h B H v u e rv ru Q fun p us H' e' hp hl q => k _ H' e' (.lst (by rw [grow_new hp]; exact hl) (q.mono (grow_right del_ex)))
theorem d2_cat {K : PySem.W.Frag} {xs ys : List PyData} (hl : xs.length + ys.length ≤ 100000) : D2 K rCat (.list xs) (.list ys) (.list (xs ++ ys)) := d2_new (d2n_cat hl)
theorem cut_take {α : Type} (xs : List α) (k : Nat) : cut xs none (some (k : Int)) = xs.take k := by
  unfold cut
  rw [HT.sIx_none, HT.sIx_nat, Nat.sub_zero, List.drop_zero]
  by_cases h : k ≤ xs.length
  · rw [Nat.min_eq_left h]
  · rw [Nat.min_eq_right (by omega), List.take_of_length_le (Nat.le_refl _), List.take_of_length_le (by omega)]
theorem cut_drop {α : Type} (xs : List α) (k : Nat) : cut xs (some (k : Int)) none = xs.drop k := by
  unfold cut
  rw [HT.sIx_none, HT.sIx_nat]
  by_cases h : k ≤ xs.length
  · rw [Nat.min_eq_left h, List.take_of_length_le]
    rw [List.length_drop]
    exact Nat.le_refl _
  · rw [Nat.min_eq_right (by omega), List.drop_of_length_le (Nat.le_refl _), List.drop_of_length_le (by omega), List.take_nil]
/-! great factors -/
def CMulM (i j : Int) : Prop := ∃ a b : Nat, i.natAbs < 2 ^ a ∧ j.natAbs < 2 ^ b ∧ a + b ≤ 100000000
abbrev rMulM : R2 := rI CMulM fun i j => .int (i * j)
theorem d2_mulM {K : PySem.W.Frag} {i j : Int} (c : CMulM i j) : D2 K rMulM (.int i) (.int j) (.int (i * j)) := d2_I (f := fun i j => .int (i * j)) (fun _ => .int _) c
theorem pow_lift {a b n : Nat} (h : n < 2 ^ a) (hb : a ≤ b) : n < 2 ^ b := Nat.lt_of_lt_of_le h (Nat.pow_le_pow_right (by decide) hb)
theorem abs_sub_lt {i j : Int} {a : Nat} (h1 : i.natAbs < 2 ^ a) (h2 : j.natAbs < 2 ^ a) : (i - j).natAbs < 2 ^ (a + 1) := by
  rw [Nat.pow_succ]
  omega
theorem bits_lt {z : Int} (h : Builtin.Int.intBits z ≤ 1048576) : ∃ a : Nat, a ≤ 1048576 ∧ z.natAbs < 2 ^ a := by
  unfold Builtin.Int.intBits at h
  by_cases q : (z == 0) = true
  · have e : z = 0 := beq_iff_eq.mp q
    exact ⟨0, by omega, by rw [e]; decide⟩
  · rw [if_neg q] at h
    refine ⟨z.natAbs.log2 + 1, h, ?_⟩
    exact Nat.lt_log2_self
end VS
/-- a step's data -/
local macro_rules | `(tactic| walk_at "ev") => `(tactic| (repeat' (first
  | ((with_reducible apply VS.de_var); rfl)
  | with_reducible exact VS.de_int
  | with_reducible exact VS.de_str
  | exact VS.de_str
  | with_reducible exact VS.de_bl
  | with_reducible exact VS.de_non
  | with_reducible exact VS.de_dnew
  | with_reducible exact VS.d2_add
  | with_reducible exact VS.d2_sub
  | with_reducible exact VS.d2_lt
  | with_reducible exact VS.d2_le
  | with_reducible exact VS.d2_gt
  | with_reducible exact VS.d2_ge
  | with_reducible exact VS.d1_neg
  | with_reducible exact VS.d2_eqI
  | with_reducible exact VS.d2_neI
  | with_reducible exact VS.d2_eqS
  | with_reducible exact VS.d2_neS
  | with_reducible exact VS.d2_eqB
  | with_reducible exact VS.d2_mod (by decide)
  | with_reducible exact VS.d2_fdivC (by decide) (by decide)
  | with_reducible exact VS.d2_mulL (by decide) (by decide)
  | with_reducible exact VS.d2_mulR (by decide) (by decide)
  | exact VS.d2_ixT rfl
  | with_reducible exact VS.d2_ixL (VS.atI_map (by assumption))
  | with_reducible exact VS.dc_len
  | with_reducible exact VS.dc_lenT
  | with_reducible exact VS.dc_lenC
  | with_reducible exact VS.dc_min2
  | with_reducible exact VS.dc_max2
  | with_reducible exact VS.dc_abs
  | with_reducible exact VS.dc_sum
  | with_reducible exact VS.dc_intB
  | with_reducible exact VS.da_nil
  | with_reducible exact VS.do_none
  | with_reducible exact VS.dt_yes
  | with_reducible exact VS.dcn_list
  | with_reducible exact VS.dcn_listT
  | with_reducible exact VS.dcn_sortI
  | with_reducible exact VS.dcn_sortP
  | exact Nat.le_of_ble_eq_true rfl
  | with_reducible apply VS.da_cons
  | with_reducible apply VS.de_op
  | with_reducible apply VS.de_un
  | with_reducible apply VS.de_isiU
  | with_reducible apply VS.de_cb
  | with_reducible apply VS.de_tup
  | with_reducible apply VS.de_lst
  | with_reducible apply VS.de_slU
  | with_reducible exact VS.dc_new VS.dcn_list
  | with_reducible exact VS.dc_new VS.dcn_listT
  | with_reducible exact VS.dc_new VS.dcn_sortI
  | with_reducible exact VS.dc_new VS.dcn_sortP
  | with_reducible apply VS.dt_test
  | with_reducible apply VS.dt_B
  | with_reducible apply VS.dt_not
  | with_reducible apply VS.de_notV
  | with_reducible apply VS.do_some
  | with_reducible apply VS.dn_op
  | with_reducible apply VS.dn_cb
  | with_reducible apply VS.dn_lst
  | with_reducible apply VS.dn_sl
  | with_reducible apply VS.dn_slC
  | with_reducible apply VS.de_andU
  | with_reducible apply VS.de_orU
  | with_reducible apply VS.dt_andU
  | with_reducible apply VS.dt_orU
  | with_reducible apply VS.de_chainU
  | with_reducible apply VS.de_chain3
  | exact VS.kit_b_b
  | exact VS.kit_i_b
  | exact VS.kit_i_i
  | exact VS.kit_l_l
  | exact VS.kit_t_t
  | exact VS.kit_s_s
  | ((show VS.notScr _ = true); rfl)
  | with_reducible exact VS.d2_eqSame (VS.sh_ws _)
  | with_reducible exact VS.d2_neSame (VS.sh_ws _)
  | with_reducible exact VS.d2_eqSame (VS.sh_ints _)
  | with_reducible exact VS.d2_neSame (VS.sh_ints _)
  | with_reducible apply VS.de_call
  | exact ⟨_, true, _, rfl, rfl⟩
  | exact ⟨_, false, _, rfl, rfl⟩
  | exact ⟨_, rfl, rfl⟩
  | exact ⟨_, _, rfl, rfl⟩
  | exact ⟨_, _, _, rfl, rfl⟩
  | exact ⟨_, _, _, _, rfl, rfl⟩
  | exact ⟨_, rfl, rfl, by first | assumption | exact rfl | decide | omega⟩
  | exact ⟨_, _, rfl, rfl, by first | assumption | exact rfl | decide | omega⟩
  | exact ⟨_, _, _, rfl, rfl, by first | assumption | exact rfl | decide | omega⟩
  | fail)))

set_option Elab.async false
set_option linter.all false
set_option maxRecDepth 100000
/-! Value semantics: what the rows' side wants: defs that raise, classes. -/
namespace VS
open PySem PySem.Spec PyProof.Rows L2
/-- no class matters -/
def c0 : Cs := ⟨0, 0, 0, 0, 0, 0, 0⟩
theorem passLN {X : Cx} : Passes (L2N.CX X.prog X.w) X E0 := fun _ _ _ _ _ _ _ h => by
  obtain ⟨_, _, _, _, _, _, _, _, _, _, _, _, z⟩ := h
  exact z.elim
theorem takes0N {X : Cx} : L2N.Takes X (fun _ _ _ _ => False) := fun _ _ x => by
  obtain ⟨_, _, _, _, _, _, _, _, _, _, _, _, _, _, _, _, z⟩ := x
  exact z.elim
section
variable {X : Cx} {a b c d : Expr} {ta tb tc td : TE} {pos : Pos}
theorem pt_chain3 {op op' op2 : CmpOp} {r r' r2 : R2} (ho : OpR X (compareOp op) r) (ho' : OpR X (compareOp op') r') (ho2 : OpR X (compareOp op2) r2) (ha : PE X a ta) (hb : PE X b tb) (hc : PE X c tc) (hd : PE X d td)
    (hm : lastMarks [op, op', op2] [b, c, d] = false := by with_unfolding_all rfl) : PT X (.Compare a [op, op', op2] [b, c, d] pos) (tTest (tChain3 r r' r2 ta tb tc td)) := by
  refine ⟨fun pins s σ H Q I h => ?_⟩
  refine isTrue_chain (thn (ha.run pins s σ H _ I h) fun v s1 ⟨x, H1, I1, r1, q1⟩ => test_link (thn (hb.run pins s1 σ H1 _ I1 q1) fun u s2 ⟨y, H2, I2, ry, q2⟩ =>
    thn (ho pins s2 σ H2 x y v u _ I2 r1 ry q2) fun d0 s3 ⟨z, H3, I3, r3, k, e, q3⟩ => ?_)) hm
  subst e
  cases r3
  refine wpAny_truthy_bool ?_
  cases k with
  | false =>
    obtain ⟨k', e', q'⟩ := q3
    cases e'
    exact ite_ff ⟨H3, I3, q'⟩
  | true =>
    refine ite_tt (test_link (thn (hc.run pins s3 σ H3 _ I3 q3) fun w' s4 ⟨z', H4, I4, r4, q4⟩ => thn (ho' pins s4 σ H4 y z' u w' _ I4 ry r4 q4) fun d' s5 ⟨z2, H5, I5, r5, k2, e2, q5⟩ => ?_))
    subst e2
    cases r5
    refine wpAny_truthy_bool ?_
    cases k2 with
    | false =>
      obtain ⟨k', e', q'⟩ := q5
      cases e'
      exact ite_ff ⟨H5, I5, q'⟩
    | true =>
      refine ite_tt (test_last (thn (hd.run pins s5 σ H5 _ I5 q5) fun w2 s6 ⟨z3, H6, I6, r6, q6⟩ => thn (ho2 pins s6 σ H6 z' z3 w' w2 _ I6 r4 r6 q6) fun d2 s7 ⟨z4, H7, I7, r7, k3, e3, q7⟩ => ?_))
      subst e3
      cases r7
      exact wpAny_truthy_bool ⟨H7, I7, q7⟩
end
theorem op_mulM {X : Cx} : OpR X (binaryOp .Mult) rMulM := opI fun i j _ _ _ _ _ hc q => by
  refine mul_int q ?_
  obtain ⟨a, b, ha, hb, hab⟩ := hc
  have bits : ∀ (x : Int) (n : Nat), x.natAbs < 2 ^ n → Builtin.Int.intBits x ≤ n + 1 := fun x n h => by
    unfold Builtin.Int.intBits
    split
    · omega
    · rename_i h0
      have hx : x.natAbs ≠ 0 := fun z => h0 (by
        have : x = 0 := Int.natAbs_eq_zero.mp z
        rw [this]
        rfl)
      have := (Nat.log2_lt hx).mpr h
      omega
  have h1 := bits i a ha
  have h2 := bits j b hb
  unfold IntMulOk
  intro z
  rw [Bool.and_eq_true] at z
  have z2 := z.2
  unfold Builtin.Int.intTooBig at z2
  have z3 := of_decide_eq_true z2
  rw [show bitsLine = 134217728 by decide] at z3
  omega
/-- what the top has written of an own error class -/
structure ClsN (K : PySem.W.Frag) (mg : Str → Option Value) (x : Str) (C : Addr) : Prop where
  gC : mg x = some (.ref C)
  xC : PySem.W.excIn K C [.type "ValueError", .type "Exception", .type "BaseException", .type "object"] "ValueError.__new__" = true
  kC : PySem.W.keepIn K (.ref C) = true
  eC : PySem.W.subIn K (.ref C) (.type "BaseException") = some true
  tC : PySem.W.typeIn K (.ref C) = some (.type "type")
theorem ps_raiseN {X : Cx} {E : XK} {x m : Str} {C : Addr} {j : Nat} {p p2 pos pos2 : Pos} (T : ClsN X.K X.mg x C) (hc : X.calm = true) (tk : L2N.Takes X (fun cls d _ H => E cls d H)) (hg : Gl X x) (hdb : (x == ("__debug__" : Str)) = false := by decide) :
    PS X (.Raise (some (.Call (.Name x p) [.Constant (.str m) j p2] [] pos)) none pos2) (tRse E C) :=
  L2N.ps_raise hc tk (L2N.pmk_own PySem.F.excBase_ValueError T.xC T.gC T.kC (raises_own T.eC T.tC) hg hdb)
section
variable {P : Program} {w : World} {K : PySem.W.Frag} {mg : Str → Option Value} {base : Heap}
/-- as Fun.ok, for a def that may raise -/
theorem _root_.L2.Fun.okN {x qual : Str} {st : Stmt} {f : Addr} {fd : FuncData} {N ps : List Str} {k : Nat} {sp : Sp} (F : Fun K x qual st f fd) (S : FnScope N ps (defScope st)) (len : ∀ vs H Q E, sp vs H Q E → vs.length = ps.length)
    (hbody : ∀ (cdv : Value) (A : Around) (outer : List Env) (s : Shared) (H : Hp) (vs : List V) (Q : VK) (E : XK), Room k (A.deeper (envOfC qual (defScope st) s.heap.objs.size f cdv)) → sp vs H Q E →
      ∃ t, PSs (cxOf (L2N.CX P w) P w K mg base N qual (defScope st) f cdv A outer s H E) (defBody st) t ∧ t { nx := fun _ H' => Q .non H', rt := Q } (L2.start N vs) H) : FnOk P w K mg base (L2N.CX P w) (k + 1) f fd ps sp := by
  obtain ⟨oc, od, kV, doc, pm, an, cdv, ct, osl, rfl, lk, hcd⟩ := F.ex
  exact fn_of lk hcd S len fun A outer s H vs Q E hr hsp => hbody cdv A outer s H vs Q E hr hsp
end
end VS

set_option Elab.async false
set_option linter.all false
set_option maxRecDepth 100000
/-! Value semantics: a def that is asked, within an except suite, of the very error that the suite holds. -/
namespace VS
open PySem PySem.Spec PyProof.Rows L2
open L2H (RoomH Hot1 PinOk HotC cxH inv_startH)
/-- what a def promises of ONE held error p -/
def HotOk (P : Program) (w : World) (K : PySem.W.Frag) (mg : Str → Option Value) (base : Heap) (k : Nat) (f : Addr) (fd : FuncData) (ps : List Str) (p : Addr × Obj) (sp : Sp) : Prop :=
  ∀ (A : Around) (outer : List Env) (s : Shared) (H : Hp) (args : Args) (us : List Value) (vs : List V) (Q : VK), RoomH k A → Hot1 A p → PinOk outer H s p → Env0 P w K mg base A outer s H → BindsTo s fd args (ps.zip us) → Vals vs us → vs.length = ps.length → sp vs H Q E0 →
    codeAny (model P w) A (.call (.ref f) args) (CR CX0 outer P w H s Q E0) s
section
variable {P : Program} {w : World} {K : PySem.W.Frag} {mg : Str → Option Value} {base : Heap}
theorem hot_fun {x qual : Str} {st : Stmt} {f : Addr} {fd : FuncData} {N ps : List Str} {k : Nat} {p : Addr × Obj} {sp : Sp} (F : Fun K x qual st f fd) (S : FnScope N ps (defScope st))
    (hb : ∀ (cdv : Value) (A : Around) (outer : List Env) (s : Shared) (H : Hp) (vs : List V) (Q : VK), RoomH k (A.deeper (envOfC qual (defScope st) s.heap.objs.size f cdv)) → sp vs H Q E0 →
      ∃ t, PSs (cxH CX0 P w K mg base N qual (defScope st) f cdv A outer s H E0 p) (defBody st) t ∧ t { nx := fun _ H' => Q .non H', rt := Q } (L2.start N vs) H) : HotOk P w K mg base (k + 1) f fd ps p sp := by
  obtain ⟨oc, od, kV, doc, pm, an, cdv, ct, osl, rfl, lk, hcd⟩ := F.ex
  intro A outer s H args us vs Q room hot pin env0 bind rel len ask
  have keep : ∀ b o, base.get? b = some o → s.heap.get? b = some o := fun b o e => (env0.bs b o e).1
  have inK := env0.mod.kin.keeps keep
  have sees : ∀ y ∈ ps.zip us, (defScope st).names.lookup y.1 = some .local ∨ ((defScope st).names.lookup y.1 = some .cell ∧ ((PySem.cellsFrom (s.heap.objs.size + 1) (defScope st).names []).lookup y.1).isSome = true) := by
    intro y hy
    have hm : y.1 ∈ ps := (List.of_mem_zip (a := y.1) (b := y.2) hy).1
    exact (S.par y.1 hm).imp id fun q => ⟨q, PySem.W.cellsFrom_some _ _ _ (.inl q)⟩
  refine codeAny_call_function room.depth (inK _ _ lk) rfl S.co S.gen rfl (PySem.W.codeRec_of inK hcd) ?_
  refine bind _ _ _ _ (wpAny_newFunctionEnv_cells S.kind sees ?_)
  rintro _ rfl s1 made
  refine ⟨(env0.mod.nolimit.keeps keep).keeps made.toInCall.keep, codeAny_func ?_⟩
  obtain ⟨t, term, goal⟩ := hb cdv A outer s H vs Q (room.deeper _) ask
  have inv := inv_startH (CX := CX0) (E := E0) (qual := qual) (cd := cdv) (f := f) S pin env0 len rel made
  refine wpAny_mono (term.run [] s1 _ H _ inv goal) ?_ (fun _ _ z => z)
  rintro (_ | _ | _ | u) s2 h2
  · obtain ⟨σ2, H2, J, q⟩ := h2
    exact ⟨.non, H2, J.os, J.bare, J.base, J.hok, rfl, q⟩
  all_goals first
    | (obtain ⟨_, _, _, q⟩ := h2; exact q.elim)
    | (obtain ⟨v, σ2, H2, J, rv, q⟩ := h2; exact ⟨v, H2, J.os, J.bare, J.base, J.hok, rv, q⟩)
end
/-- names(e), e the error at p that the suite holds -/
def tHot (sp : Sp) (i : Nat) : TE := fun σ H Q => ∃ v, σ[i]? = some (some v) ∧ sp [v] H Q E0
theorem pe_hot {X : Cx} {p : Addr × Obj} {k : Nat} {f : Addr} {fd : FuncData} {a x y : Str} {sp : Sp} {q pos py : Pos} {i : Nat} (F : HotOk X.prog X.w X.K X.mg X.base k f fd [a] p sp) (hr : RoomH k X.A) (hot : Hot1 X.A p) (hp : p ∈ X.pn) (hg : Gl X x) (hm : X.mg x = some (.ref f)) (hk : PySem.W.keepIn X.K (.ref f) = true) (hb : Binds X.K fd [a] [])
    (hv : PE X (.Name y py) (tVar i)) (hdb : (x == ("__debug__" : Str)) = false := by decide) (he : starEach (.Name y py :: []) X.env = (false, eval (.Name y py) X.env) :: starEach [] X.env := by rfl) (hpl : (backTo pos (starEach [] X.env)).any (·.1) = false := by rfl) :
    PE X (.Call (.Name x q) [.Name y py] [] pos) (tHot sp i) := by
  refine ⟨fun pins s σ H Q I h => wpAny_Call_Name_kw (ld_glob I hg hm ?_ hdb)⟩
  have arg : tCons (tVar i) tNil σ H fun vs H1 => vs.length = 1 ∧ sp vs H1 Q E0 := by
    obtain ⟨v, e, ask⟩ := h
    exact ⟨v, e, rfl, ask⟩
  refine PySem.W.callWith_K (h₀ := X.base) I.ok.mod.kin hk (thn ((pa_cons hv pa_nil he).run pos pins s σ H _ I arg) ?_) he hpl
  rintro us s1 ⟨vs, H1, J, rel, one, ask⟩
  refine ⟨J.kIn, ?_⟩
  have pinned := J.pin p (List.mem_append_left _ hp)
  have away : p.1 ∉ frs X.stack := fun m => by
    rcases List.mem_cons.mp (J.stkSub p.1 m) with z | z
    · exact pinned.2.2.1 z
    · exact pinned.2.2.2.1 z
  have binds : BindsTo s1 fd ⟨us, []⟩ (([a] : List Str).zip us) := by
    have z := hb s1 us J.kIn (by rw [List.append_nil, ← rel.length]; exact one)
    rw [List.append_nil] at z
    exact z
  refine wpAny_call (codeAny_mono (F X.A X.stack s1 H1 ⟨us, []⟩ us vs Q hr hot ⟨pinned.1, pinned.2.1, away, pinned.2.2.2.2⟩ J.env0 binds rel one ask) ?_)
  rintro (e | _ | _ | _ | u) s2 h2
  all_goals first
    | exact J.after h2
    | exact h2.elim
/-- what is asked of the classes: the error of D, tested against each -/
structure ErrOk (K : PySem.W.Frag) (c : Cs) (D : ErrC) : Prop where
  exc : ExcC K (c.at D)
  isa : ∀ D' : ErrC, PySem.W.kitOne K (.ref (c.at D)) (.ref (c.at D')) = some (decide (D = D'))
  val : PySem.W.kitOne K (.ref (c.at D)) (.type "ValueError") = some true
  exm : PySem.W.exmOne K (.ref (c.at D)) (.ref c.BidError) = some true
theorem kit_yes {K : PySem.W.Frag} {D : Addr} : PySem.W.kitOne K (.ref D) (.ref D) = some true := by
  unfold PySem.W.kitOne
  rw [if_pos (beq_self_eq_true _)]
theorem kit_no {K : PySem.W.Frag} {D C : Addr} (h1 : PySem.W.subIn K (.ref D) (.ref C) = some false) (h2 : PySem.W.subIn K (.ref D) (.ref D) = some true) (hc : PySem.W.isClsIn K C = true) (ht : PySem.W.typeIn K (.ref C) = some (.type "type")) : PySem.W.kitOne K (.ref D) (.ref C) = some false := by
  have ne : ¬ (Value.ref D == Value.ref C) = true := fun z => by
    have q : Value.ref D = Value.ref C := beq_iff_eq.mp z
    rw [← q, h2] at h1
    cases h1
  have hc' : (PySem.W.clsIn K C).isSome = true := hc
  unfold PySem.W.kitOne
  rw [if_neg ne]
  show (if ((PySem.W.clsIn K C).isSome && PySem.W.typeIn K (.ref C) == some (.type "type")) = true then PySem.W.subIn K (.ref D) (.ref C) else none) = some false
  rw [hc', ht, if_pos (by simp), h1]
theorem kit_ve {K : PySem.W.Frag} {D : Addr} (h : PySem.W.subIn K (.ref D) (.type "ValueError") = some true) : PySem.W.kitOne K (.ref D) (.type "ValueError") = some true := by
  unfold PySem.W.kitOne
  rw [if_neg (by simp)]
  show (if PySem.W.kitMeta "ValueError" = true then PySem.W.subIn K (.ref D) (.type "ValueError") else none) = some true
  rw [if_pos (by decide +kernel), h]
theorem call_isP {X : Cx} {a D : Addr} {oe : Obj} (C : ExcC X.K D) (hz : Zc (.ref D) none oe) (hf : ∃ vs, oe.data = .fields vs) (hp : (a, oe) ∈ X.pn) : CallR X (.builtin "isinstance") (rIsE X.K D a) := by
  rintro pins s σ H _ us Q I rel ⟨c, cv, b, rfl, hcv, hk, q⟩
  obtain ⟨u1, u2, rfl, r1, r2⟩ := vals2 rel
  obtain rfl : u1 = Value.ref a := r1
  obtain rfl := hcv _ r2
  have at_ := (I.pin (a, oe) (List.mem_append_left _ hp)).1
  obtain ⟨vs, hv⟩ := hf
  have inst : PySem.W.InstAt s.heap a oe D none := by
    obtain ⟨oc, od, oda, osl⟩ := oe
    obtain ⟨h1, h2⟩ := hz
    dsimp only at h1 h2 hv
    subst h1 h2 hv
    exact ⟨at_, rfl, rfl, trivial⟩
  exact PySem.W.kia_one (PySem.W.handS_kitx_exc C.hg C.hk C.hs C.hd C.ha C.hn C.ht C.hm) I.kIn inst hk (fun z => nomatch z) fun tk => ⟨.bl b, H, I.tok tk, rfl, q⟩
section
variable {K : PySem.W.Frag} {ds : List (Option PyData)} {te : TE} {a D : Addr}
theorem de_isE {C : Addr} {b : Bool} (h : DE K te ds (rawD a)) (hk : PySem.W.kitOne K (.ref D) (.ref C) = some b) : DE K (tCB (rIsE K D a) (tCons te (tCons (tC (.ref C)) tNil))) ds (.bool b) := fun B σ en H e Q k =>
  h B σ en H e _ fun v H1 e1 r => ⟨.ref C, .ref C, b, by rw [r.raw_eq], fun u ru => ru, hk, k _ H1 e1 (.bl b)⟩
theorem de_isT {T : String} {b : Bool} (h : DE K te ds (rawD a)) (hk : PySem.W.kitOne K (.ref D) (.type T) = some b) : DE K (tCB (rIsE K D a) (tCons te (tCons (tC (.ty T)) tNil))) ds (.bool b) := fun B σ en H e Q k =>
  h B σ en H e _ fun v H1 e1 r => ⟨.ty T, .type T, b, by rw [r.raw_eq], fun u ru => ru, hk, k _ H1 e1 (.bl b)⟩
theorem de_hot {R : List PyData → Out → Prop} {i : Nat} {x d : PyData} {sp : Sp} (hP : ∀ vs H Q E, spD K R vs H Q E → sp vs H Q E) (hv : ds[i]? = some (some x)) (hr : R [x] (.ret d)) : DE K (tHot sp i) ds d := fun B σ en H e Q k => by
  obtain ⟨v, h1, h2⟩ := en.2 i x hv
  refine ⟨v, h1, hP _ _ _ _ ⟨B, [x], .ret d, e, .cons h2 .nil, hr, fun d' v' H' q e' r => ?_, fun C H' q => by cases q⟩⟩
  cases q
  exact k v' H' e' r
end
theorem hot_of {A : Around} {a : Addr} {oe : Obj} {cls : Value} {d : Option Addr} (hz : L2N.Zn cls d oe) (hf : ∃ vs, oe.data = .fields vs) : Hot1 (A.mark (some (.ref a))) (a, oe) := by
  obtain ⟨vs, hv⟩ := hf
  exact ⟨rfl, vs, hv, hz.2.2 vs hv⟩
/-- names(e): the text by the class of the error at a -/
def nameS : ErrC → Str
  | .wish => "wish "
  | .price => "price "
  | .pieces => "pieces "
  | .uneven => "uneven "
  | .none => "none "
  | .unread => "unread "
def R_names (a : Addr) (D : ErrC) (ds : List PyData) (o : Out) : Prop := ds = [rawD a] ∧ o = .ret (.str (nameS D))
def spN (K : PySem.W.Frag) (c : Cs) (a : Addr) (cls : Value) (d : Option Addr) : Sp := fun vs H Q E => ∃ D, cls = .ref (c.at D) ∧ d = none ∧ ErrOk K c D ∧ spD K (R_names a D) vs H Q E
theorem de_names {K : PySem.W.Frag} {c : Cs} {a : Addr} {D : ErrC} {ds : List (Option PyData)} {i : Nat} (X : ErrOk K c D) (hv : ds[i]? = some (some (rawD a))) : DE K (tHot (spN K c a (.ref (c.at D)) none) i) ds (.str (nameS D)) :=
  de_hot (R := R_names a D) (fun vs H Q E h => ⟨D, rfl, rfl, X, h⟩) hv ⟨rfl, rfl⟩
/-- the body of names -/
def t_names (K : PySem.W.Frag) (c : Cs) (D a : Addr) : TS :=
  tSeq (tAsg (tC (.str "")) (gName 1))
    (tSeq (tIfS (tB (tCB (rIsE K D a) (tCons (tVar 0) (tCons (tC (.ref c.BadWish)) tNil)))) (tAsg (tOp rAddStr (tVar 1) (tC (.str "wish "))) (gName 1)) tNext)
    (tSeq (tIfS (tB (tCB (rIsE K D a) (tCons (tVar 0) (tCons (tC (.ref c.BadPrice)) tNil)))) (tAsg (tOp rAddStr (tVar 1) (tC (.str "price "))) (gName 1)) tNext)
    (tSeq (tIfS (tB (tCB (rIsE K D a) (tCons (tVar 0) (tCons (tC (.ref c.BadPieces)) tNil)))) (tAsg (tOp rAddStr (tVar 1) (tC (.str "pieces "))) (gName 1)) tNext)
    (tSeq (tIfS (tB (tCB (rIsE K D a) (tCons (tVar 0) (tCons (tC (.ref c.Uneven)) tNil)))) (tAsg (tOp rAddStr (tVar 1) (tC (.str "uneven "))) (gName 1)) tNext)
    (tSeq (tIfS (tB (tCB (rIsE K D a) (tCons (tVar 0) (tCons (tC (.ref c.NoSuch)) tNil)))) (tAsg (tOp rAddStr (tVar 1) (tC (.str "none "))) (gName 1)) tNext)
    (tSeq (tIfS (tB (tCB (rIsE K D a) (tCons (tVar 0) (tCons (tC (.ref c.Unread)) tNil)))) (tAsg (tOp rAddStr (tVar 1) (tC (.str "unread "))) (gName 1)) tNext)
    (tSeq (tIfS (tNot (tB (tCB (rIsE K D a) (tCons (tVar 0) (tCons (tC (.ty "ValueError")) tNil))))) (tAsg (tC (.str "")) (gName 1)) tNext)
    (tRet (tVar 1)))))))))
theorem names_if {K : PySem.W.Frag} {E : XK} {u : TS} {P : Post} {D C a : Addr} {b : Bool} {x y : Str} (hk : PySem.W.kitOne K (.ref D) (.ref C) = some b) (hx : x.length ≤ 1000) (hy : y.length ≤ 1000) (k : DS K E u [.val (rawD a), .val (.str (if b = true then x ++ y else x))] P) :
    DS K E (tSeq (tIfS (tB (tCB (rIsE K D a) (tCons (tVar 0) (tCons (tC (.ref C)) tNil)))) (tAsg (tOp rAddStr (tVar 1) (tC (.str y))) (gName 1)) tNext) u) [.val (rawD a), .val (.str x)] P := by
  refine q_ifset (d := .str (if b = true then x ++ y else x)) (dt_B (de_isE (de_var rfl) hk)) (fun hb => ?_) rfl (fun hb => ?_) k
  · rw [if_pos hb]
    exact de_op (de_var rfl) de_str (d2_addStr (by omega))
  · rw [hb]
    rfl
theorem body_names {K : PySem.W.Frag} {c : Cs} {E : XK} {a : Addr} {D : ErrC} (X : ErrOk K c D) : ∀ ds o, R_names a D ds o → DS K E (t_names K c (c.at D) a) (slots 2 ds) o.post := by
  rintro _ _ ⟨rfl, rfl⟩
  refine q_set de_str rfl ?_
  show DS K E _ [.val (rawD a), .val (.str "")] _
  refine names_if (X.isa .wish) (by decide +kernel) (by decide +kernel) ?_
  refine names_if (X.isa .price) (by cases D <;> decide +kernel) (by decide +kernel) ?_
  refine names_if (X.isa .pieces) (by cases D <;> decide +kernel) (by decide +kernel) ?_
  refine names_if (X.isa .uneven) (by cases D <;> decide +kernel) (by decide +kernel) ?_
  refine names_if (X.isa .none) (by cases D <;> decide +kernel) (by decide +kernel) ?_
  refine names_if (X.isa .unread) (by cases D <;> decide +kernel) (by decide +kernel) ?_
  refine q_guard (dt_to (dt_not (dt_B (de_isT (de_var rfl) X.val))) rfl) ?_
  refine ds_ret (de_var rfl) (post_ret ?_)
  refine congrArg (fun s => Out.ret (.str s)) ?_
  cases D <;> decide +kernel
/-! ### try -/
section
variable {K : PySem.W.Frag} {E : XK} {es : List Slot} {P : Post} {ta : TA} {i : Nat} {xs : List PyData} {R : List PyData → Out → Prop} {CB : Addr} {ts : Addr → Value → Option Addr → TS} {Wout : WX}
/-- what is behind a suite: the error's name is gone -/
def Post.gone (P : Post) (i : Nat) : Post := { nx := fun es' => P.nx (es'.set i .no), rt := P.rt, bk := fun es' => P.bk (es'.set i .no), ct := fun es' => P.ct (es'.set i .no), ex := P.ex }
theorem At.drop {F0 H0 F H : Hp} {σ : L2.St} (A : At K F0 H0 F H σ es) : At K F0 H0 F H (σ.set i none) (es.set i .no) :=
  ⟨A.f00, A.f0, A.h0, A.fh, A.fresh, by rw [List.length_set, List.length_set]; exact A.len, fun j d q => by
    by_cases z : i = j
    · subst z
      cases get_set_at q
    · rw [get_set_ne z] at q ⊢
      exact A.val j d q, fun j ys q => by
    by_cases z : i = j
    · subst z
      cases get_set_at q
    · rw [get_set_ne z] at q ⊢
      exact A.own j ys q, fun j k ys zs a q1 q2 q3 q4 => by
    by_cases z : i = j
    · subst z
      cases get_set_at q1
    · by_cases z2 : i = k
      · subst z2
        cases get_set_at q2
      · rw [get_set_ne z] at q1 q3
        rw [get_set_ne z2] at q2 q4
        exact A.sep j k ys zs a q1 q2 q3 q4⟩
/-- try: BODY except C as e: SUITE (e in slot i) -/
def tTry (K : PySem.W.Frag) (c : Value) (i : Nat) (tb : WX → TS) (ts : Addr → Value → Option Addr → TS) : TS := fun D σ H => tb (wAs K c i ts (fun _ _ _ _ => False) D) D σ H
/-- the call raises: the suite runs -/
theorem try_exc {C : Addr} {g : TE → TS} (ha : DA K ta (see es) xs) (hr : R xs (.exc C)) (hm : PySem.W.exmOne K (.ref C) (.ref CB) = some true)
    (hg : ∀ te D σ H, (∀ Q : VK, te σ H Q) → g te D σ H) (hs : ∀ a : Addr, DS K E (ts a (.ref C) none) (es.set i (.val (rawD a))) (P.gone i)) :
    DS K E (tTry K (.ref CB) i (fun W => g (tCallS (spD K R) (WE W) ta)) ts) es P := fun F0 H0 F H σ D A M => by
  refine hg _ _ _ _ fun Q => ?_
  refine ha _ σ A.envV H A.seen2 _ fun vs H1 e1 rs => ?_
  refine ⟨Grow (Grow F0 H0 H) H H1, xs, .exc C, grow_ex2 A.seen2 e1, rs, hr, (fun d v H' q => by cases q), fun C' H2 q e2 => ?_⟩
  cases q
  refine ⟨true, hm, fun _ a na => ?_, fun z => by cases z⟩
  have A2 : At K F0 H0 F H2 σ es := (A.grow e1).grow e2
  refine hs a F0 H0 F H2 _ _ (A2.set (.raw a)) ⟨fun F' H' σ' es' x A' q => ?_, fun F' H' σ' es' x A' q => ?_, fun F' H' σ' es' x A' q => ?_, M.rt, M.ex⟩
  · exact M.nx F' H' _ _ x A'.drop q
  · exact M.bk F' H' _ _ x A'.drop q
  · exact M.ct F' H' _ _ x A'.drop q
theorem ds_tryX_drop {C : Addr} (ha : DA K ta (see es) xs) (hr : R xs (.exc C)) (hm : PySem.W.exmOne K (.ref C) (.ref CB) = some true) (hs : ∀ a : Addr, DS K E (ts a (.ref C) none) (es.set i (.val (rawD a))) (P.gone i)) :
    DS K E (tTry K (.ref CB) i (fun W => tDrop (tCallS (spD K R) (WE W) ta)) ts) es P := try_exc (g := tDrop) ha hr hm (fun te D σ H h => h _) hs
theorem ds_tryX_asg {C : Addr} {g : TG} (ha : DA K ta (see es) xs) (hr : R xs (.exc C)) (hm : PySem.W.exmOne K (.ref C) (.ref CB) = some true) (hs : ∀ a : Addr, DS K E (ts a (.ref C) none) (es.set i (.val (rawD a))) (P.gone i)) :
    DS K E (tTry K (.ref CB) i (fun W => tAsg (tCallS (spD K R) (WE W) ta) g) ts) es P := try_exc (g := fun te => tAsg te g) ha hr hm (fun te D σ H h => h _) hs
/-- no error comes -/
theorem ds_try_drop {d : PyData} (ha : DA K ta (see es) xs) (hr : R xs (.ret d)) (k : P.nx es) : DS K E (tTry K (.ref CB) i (fun W => tDrop (tCallS (spD K R) (WE W) ta)) ts) es P := fun F0 H0 F H σ D A M => by
  refine ha _ σ A.envV H A.seen2 _ fun vs H1 e1 rs => ?_
  refine ⟨Grow (Grow F0 H0 H) H H1, xs, .ret d, grow_ex2 A.seen2 e1, rs, hr, fun d' v H' q e2 r => ?_, fun C' H2 q => by cases q⟩
  exact M.nx F H' σ es exr ((A.grow e1).grow e2) k
theorem ds_try_let {d : PyData} {j : Nat} (ha : DA K ta (frz es) xs) (hr : R xs (.ret d)) (k : P.nx (es.set j (.val d))) : DS K E (tTry K (.ref CB) i (fun W => tAsg (tCallS (spD K R) (WE W) ta) (gName j)) ts) es P := fun F0 H0 F H σ D A M => by
  refine ha _ σ A.envF H A.fh _ fun vs H1 e1 rs => ?_
  refine ⟨Grow F H H1, xs, .ret d, grow_ex2 A.fh e1, rs, hr, fun d' v H' q e2 r => ?_, fun C' H2 q => by cases q⟩
  cases q
  exact M.nx _ H' _ _ (Evl.Ex.trans (grow_ex1 A.fh) (grow_ex1 (grow_ex2 A.fh e1))) (((A.keep e1).keep e2).set r) k
end
end VS

namespace VS
open PySem L2 VS
open Evl (Ex)
def wholeIn (d : PyData) (lo hi : Int) : Bool := match d with
  | .int i => decide (lo ≤ i) && decide (i ≤ hi)
  | _ => false
theorem wholeIn_int {i lo hi : Int} : wholeIn (.int i) lo hi = (decide (lo ≤ i) && decide (i ≤ hi)) := rfl
theorem wholeIn_no {i lo hi : Int} (h : i < lo ∨ hi < i) : wholeIn (.int i) lo hi = false := by
  rw [wholeIn_int]
  rcases h with h | h
  · rw [decide_eq_false (p := lo ≤ i) (by omega)]
    rfl
  · rw [decide_eq_false (p := i ≤ hi) (by omega), Bool.and_false]
theorem wholeIn_yes {i lo hi : Int} (h : lo ≤ i ∧ i ≤ hi) : wholeIn (.int i) lo hi = true := by
  rw [wholeIn_int, decide_eq_true h.1, decide_eq_true h.2]
  rfl
theorem wholeIn_not {d : PyData} {lo hi : Int} (h : isInt d = false) : wholeIn d lo hi = false := by
  cases d <;> first | rfl | cases h
def R_whole_within (c : Cs) (ds : List PyData) (o : Out) : Prop := ∃ d lo hi, ds = [d, .int lo, .int hi] ∧ o = .ret (.bool (wholeIn d lo hi)) ∧ notScr d = true
-- slots of whole_within: 0 thing 1 low 2 high
def t_whole_within (K : PySem.W.Frag) (c : Cs) (E : XK) : TS :=
  (tRet (tAndV (tCB (rIsi K) (tCons (tVar 0) (tCons (tC (.ty "int")) tNil))) (tAndV (tNotV (tCB (rIsi K) (tCons (tVar 0) (tCons (tC (.ty "bool")) tNil)))) (tChain rLeI rLeI (tVar 1) (tVar 0) (tVar 2)))))
theorem len_whole_within {c : Cs} : ∀ ds o, R_whole_within c ds o → ds.length = 3 := by
  intro ds o h
  grind (ematch := 14) (gen := 20) [R_whole_within]
theorem body_whole_within {K : PySem.W.Frag} {c : Cs} {E : XK} : ∀ ds o, R_whole_within c ds o → DS K E (t_whole_within K c E) (slots 3 ds) o.post := by
  rintro _ _ ⟨d, lo, hi, rfl, rfl, hn⟩
  unfold t_whole_within
  cases hi0 : isInt d with
  | true =>
    cases d with
    | int i =>
      apply VS.ds_ret
      · walk_at "ev"
      · exact VS.post_ret rfl
    | _ => cases hi0
  | false =>
    apply VS.ds_ret (d := .bool ((tyD d == "int" || tyD d == "bool") && (!(tyD d == "bool") && false)))
    · apply VS.de_andV
      · exact VS.de_isiU (VS.de_var rfl) hn (kit_int d)
      · intro h1
        apply VS.de_andV
        · apply VS.de_notV
          exact VS.de_isiU (VS.de_var rfl) hn (kit_bool d)
        · intro h2
          have h := isInt_ty d
          rw [h1, h2, hi0] at h
          cases h
    · refine VS.post_ret ?_
      rw [wholeIn_not hi0, Bool.and_false, Bool.and_false]

def R_checked_price (c : Cs) (ds : List PyData) (o : Out) : Prop := ∃ d, ds = [d] ∧ o = (if wholeIn d 0 1000000000 = true then .ret d else .exc c.BadPrice) ∧ notScr d = true
theorem checked_price_int {c : Cs} {p : Int} (h : 0 ≤ p ∧ p ≤ 1000000000) : R_checked_price c [.int p] (.ret (.int p)) := ⟨_, rfl, by rw [wholeIn_yes h]; rfl, rfl⟩
theorem checked_price_bad {c : Cs} {d : PyData} (h : wholeIn d 0 1000000000 = false) (hn : notScr d = true) : R_checked_price c [d] (.exc c.BadPrice) := ⟨_, rfl, by rw [h]; rfl, hn⟩
-- slots of checked_price: 0 price
def t_checked_price (K : PySem.W.Frag) (c : Cs) (E : XK) : TS :=
  (tSeq (tIfS (tNot (tB (tCall (spD K (R_whole_within c)) [] E0 (tCons (tVar 0) (tCons (tC (.int 0)) (tCons (tC (.int 1000000000)) tNil)))))) (tRse E c.BadPrice) tNext)
    (tRet (tVar 0)))
theorem len_checked_price {c : Cs} : ∀ ds o, R_checked_price c ds o → ds.length = 1 := by
  rintro _ _ ⟨d, rfl, _⟩
  rfl
theorem body_checked_price {K : PySem.W.Frag} {c : Cs} {E : XK} : ∀ ds o, R_checked_price c ds o → DS K E (t_checked_price K c E) (slots 1 ds) o.post := by
  rintro _ o ⟨d, rfl, ho, hn⟩
  unfold t_checked_price
  apply VS.q_if (b := !wholeIn d 0 1000000000)
  · apply VS.dt_not
    apply VS.dt_B
    apply VS.de_call
    · walk_at "ev"
    · exact ⟨d, 0, 1000000000, rfl, rfl, hn⟩
  · intro hb
    have hb : wholeIn d 0 1000000000 = false := by simpa using hb
    rw [hb] at ho
    exact VS.ds_raise ho
  · intro hb
    have hb : wholeIn d 0 1000000000 = true := by simpa using hb
    rw [hb] at ho
    exact VS.ds_ret (VS.de_var rfl) (VS.post_ret ho)

def willing (w : Wish) (p : Int) : Bool := if w.buy then decide (p ≤ w.limit) else decide (w.limit ≤ p)
def R_willing (c : Cs) (ds : List PyData) (o : Out) : Prop := ∃ w p, ds = [wishD w, .int p] ∧ o = .ret (.bool (willing w p))
-- slots of willing: 0 wish 1 price
def t_willing (K : PySem.W.Frag) (c : Cs) (E : XK) : TS :=
  (tSeq (tIfS (tTest (tOp rEq (tOp (rIxT K) (tVar 0) (tC (.int 0))) (tC (.str "buy")))) (tRet (tOp rGeI (tOp (rIxT K) (tVar 0) (tC (.int 1))) (tVar 1))) tNext)
    (tRet (tOp rLeI (tOp (rIxT K) (tVar 0) (tC (.int 1))) (tVar 1))))
theorem len_willing {c : Cs} : ∀ ds o, R_willing c ds o → ds.length = 2 := by
  intro ds o h
  grind (ematch := 14) (gen := 20) [R_willing]
theorem body_willing {K : PySem.W.Frag} {c : Cs} {E : XK} : ∀ ds o, R_willing c ds o → DS K E (t_willing K c E) (slots 2 ds) o.post := by
  rintro _ _ ⟨w, p, rfl, rfl⟩
  unfold t_willing
  apply VS.q_if
  · walk_at "ev"
  · intro hb
    rw [sideS_buy] at hb
    apply VS.ds_ret
    · walk_at "ev"
    · exact VS.post_ret (by unfold willing; rw [if_pos hb])
  · intro hb
    rw [sideS_buy] at hb
    apply VS.ds_ret
    · walk_at "ev"
    · exact VS.post_ret (by unfold willing; rw [hb]; rfl)

def amountOf (ws : List Wish) (b : Bool) (p : Int) : Int := ((ws.filter fun w => w.buy == b && willing w p).map (·.amount)).sum
theorem amountOf_snoc {ws : List Wish} {b : Bool} {p : Int} {k : Nat} {w : Wish} (h : ws[k]? = some w) : amountOf (ws.take (k + 1)) b p = amountOf (ws.take k) b p + (if (w.buy == b && willing w p) = true then w.amount else 0) := by
  unfold amountOf
  rw [List.take_add_one, h, List.filter_append, List.map_append, List.sum_append]
  by_cases q : (w.buy == b && willing w p) = true
  · simp [q]
  · simp [q]
def R_amount_of (c : Cs) (ds : List PyData) (o : Out) : Prop := ∃ ws b p, ds = [wsD ws, .str (sideS b), .int p] ∧ o = .ret (.int (amountOf ws b p))
-- slots of amount_of: 0 wishes 1 side 2 price 3 total 4 wish
def t_amount_of (K : PySem.W.Frag) (c : Cs) (E : XK) : TS :=
  (tSeq (tAsg (tC (.int 0)) (gName 3))
    (tSeq (tFor (iList K (tVar 0)) (gName 4) (tIfS (tAnd (tTest (tOp rEq (tOp (rIxT K) (tVar 4) (tC (.int 0))) (tVar 1))) (tB (tCall (spD K (R_willing c)) [] E0 (tCons (tVar 4) (tCons (tVar 2) tNil))))) (tAsg (tOp rAddI (tVar 3) (tOp (rIxT K) (tVar 4) (tC (.int 2)))) (gName 3)) tNext))
    (tRet (tVar 3))))
theorem len_amount_of {c : Cs} : ∀ ds o, R_amount_of c ds o → ds.length = 3 := by
  intro ds o h
  grind (ematch := 14) (gen := 20) [R_amount_of]
theorem body_amount_of {K : PySem.W.Frag} {c : Cs} {E : XK} : ∀ ds o, R_amount_of c ds o → DS K E (t_amount_of K c E) (slots 5 ds) o.post := by
  rintro _ _ ⟨ws, b, p, rfl, rfl⟩
  unfold t_amount_of
  apply VS.q_set
  · walk_at "ev"
  · rfl
  apply VS.q_for (W := fun k es => ∃ s, es = [.val (wsD ws), .val (.str (sideS b)), .val (.int p), .val (.int (amountOf (ws.take k) b p)), s])
  · walk_at "ev"
  · exact ⟨.no, rfl⟩
  · rintro k x _ hk ⟨s, rfl⟩
    obtain ⟨w, hw, rfl⟩ := map_at hk
    have e := amountOf_snoc (b := b) (p := p) hw
    apply VS.ds_if
    · apply VS.dt_and
      · walk_at "ev"
      · intro _
        walk_at "ev"
    · intro hb
      rw [sideS_eq] at hb
      rw [if_pos hb] at e
      apply VS.ds_set
      · walk_at "ev"
      · rfl
      · exact ⟨_, by rw [e]; rfl⟩
    · intro hb
      rw [sideS_eq] at hb
      rw [if_neg (by rw [hb]; decide)] at e
      refine VS.ds_next ⟨_, by rw [e, Int.add_zero]; rfl⟩
  · rintro _ ⟨s, rfl⟩
    rw [List.length_map, List.take_length]
    apply VS.ds_ret
    · walk_at "ev"
    · exact VS.post_ret rfl
/-! amounts as prices rise -/
theorem amountOf_cons (w : Wish) (ws : List Wish) (b : Bool) (p : Int) : amountOf (w :: ws) b p = (if (w.buy == b && willing w p) = true then w.amount else 0) + amountOf ws b p := by
  unfold amountOf
  rw [List.filter_cons]
  split
  · rw [List.map_cons, List.sum_cons]
  · simp
theorem amountOf_nil (b : Bool) (p : Int) : amountOf [] b p = 0 := rfl
def Good (ws : List Wish) : Prop := ∀ w ∈ ws, w.good
theorem Good.tail {w : Wish} {ws : List Wish} (h : Good (w :: ws)) : Good ws := fun x hx => h x (List.mem_cons_of_mem _ hx)
theorem amountOf_nonneg {ws : List Wish} (b : Bool) (p : Int) (h : Good ws) : 0 ≤ amountOf ws b p := by
  induction ws with
  | nil => exact Int.le_refl 0
  | cons w ws ih =>
    rw [amountOf_cons]
    have := ih h.tail
    have hw := (h w List.mem_cons_self).2.2.1
    split <;> omega
theorem wanted_anti {ws : List Wish} {p q : Int} (h : Good ws) (hq : p ≤ q) : amountOf ws true q ≤ amountOf ws true p := by
  induction ws with
  | nil => exact Int.le_refl 0
  | cons w ws ih =>
    rw [amountOf_cons, amountOf_cons]
    have := ih h.tail
    have hw := (h w List.mem_cons_self).2.2.1
    obtain ⟨b, l, a⟩ := w
    cases b
    · simp; omega
    · simp only [willing, if_pos, Bool.and_eq_true, beq_self_eq_true, true_and, decide_eq_true_eq]
      dsimp only at hw
      split <;> split <;> omega
theorem offered_mono {ws : List Wish} {p q : Int} (h : Good ws) (hq : p ≤ q) : amountOf ws false p ≤ amountOf ws false q := by
  induction ws with
  | nil => exact Int.le_refl 0
  | cons w ws ih =>
    rw [amountOf_cons, amountOf_cons]
    have := ih h.tail
    have hw := (h w List.mem_cons_self).2.2.1
    obtain ⟨b, l, a⟩ := w
    cases b
    · simp only [willing, Bool.false_eq_true, if_false, Bool.and_eq_true, beq_self_eq_true, true_and, decide_eq_true_eq]
      dsimp only at hw
      split <;> split <;> omega
    · simp; omega
theorem wanted_step {ws : List Wish} {p : Int} (h : ∀ w ∈ ws, w.limit ≠ p) : amountOf ws true p = amountOf ws true (p + 1) := by
  induction ws with
  | nil => rfl
  | cons w ws ih =>
    rw [amountOf_cons, amountOf_cons, ih fun x hx => h x (List.mem_cons_of_mem _ hx)]
    have hw := h w List.mem_cons_self
    obtain ⟨b, l, a⟩ := w
    cases b
    · simp
    · simp only [willing, if_pos, Bool.and_eq_true, beq_self_eq_true, true_and, decide_eq_true_eq]
      dsimp only at hw
      split <;> split <;> omega
theorem offered_step {ws : List Wish} {p : Int} (h : ∀ w ∈ ws, w.limit ≠ p) : amountOf ws false (p - 1) = amountOf ws false p := by
  induction ws with
  | nil => rfl
  | cons w ws ih =>
    rw [amountOf_cons, amountOf_cons, ih fun x hx => h x (List.mem_cons_of_mem _ hx)]
    have hw := h w List.mem_cons_self
    obtain ⟨b, l, a⟩ := w
    cases b
    · simp only [willing, Bool.false_eq_true, if_false, Bool.and_eq_true, beq_self_eq_true, true_and, decide_eq_true_eq]
      dsimp only at hw
      split <;> split <;> omega
    · simp
theorem wanted_none {ws : List Wish} {p : Int} (h : ∀ w ∈ ws, w.limit < p) : amountOf ws true p = 0 := by
  induction ws with
  | nil => rfl
  | cons w ws ih =>
    rw [amountOf_cons, ih fun x hx => h x (List.mem_cons_of_mem _ hx)]
    have hw := h w List.mem_cons_self
    obtain ⟨b, l, a⟩ := w
    cases b
    · simp
    · simp only [willing, if_pos, Bool.and_eq_true, beq_self_eq_true, true_and, decide_eq_true_eq]
      dsimp only at hw
      split <;> omega
theorem offered_none {ws : List Wish} {p : Int} (h : ∀ w ∈ ws, p < w.limit) : amountOf ws false p = 0 := by
  induction ws with
  | nil => rfl
  | cons w ws ih =>
    rw [amountOf_cons, ih fun x hx => h x (List.mem_cons_of_mem _ hx)]
    have hw := h w List.mem_cons_self
    obtain ⟨b, l, a⟩ := w
    cases b
    · simp only [willing, Bool.false_eq_true, if_false, Bool.and_eq_true, beq_self_eq_true, true_and, decide_eq_true_eq]
      dsimp only at hw
      split <;> omega
    · simp

abbrev wantedN (ws : List Wish) (p : Int) : Int := amountOf ws true p
def R_wanted (c : Cs) (ds : List PyData) (o : Out) : Prop := ∃ ws p, ds = [wsD ws, .int p] ∧ o = .ret (.int (wantedN ws p))
-- slots of wanted: 0 wishes 1 price
def t_wanted (K : PySem.W.Frag) (c : Cs) (E : XK) : TS :=
  (tRet (tCall (spD K (R_amount_of c)) [] E0 (tCons (tVar 0) (tCons (tC (.str "buy")) (tCons (tVar 1) tNil)))))
theorem len_wanted {c : Cs} : ∀ ds o, R_wanted c ds o → ds.length = 2 := by
  intro ds o h
  grind (ematch := 14) (gen := 20) [R_wanted]
theorem body_wanted {K : PySem.W.Frag} {c : Cs} {E : XK} : ∀ ds o, R_wanted c ds o → DS K E (t_wanted K c E) (slots 2 ds) o.post := by
  rintro _ _ ⟨ws, p, rfl, rfl⟩
  unfold t_wanted
  apply VS.ds_ret
  · apply VS.de_call
    · walk_at "ev"
    · exact ⟨ws, true, p, rfl, rfl⟩
  · exact VS.post_ret rfl

abbrev offeredN (ws : List Wish) (p : Int) : Int := amountOf ws false p
def R_offered (c : Cs) (ds : List PyData) (o : Out) : Prop := ∃ ws p, ds = [wsD ws, .int p] ∧ o = .ret (.int (offeredN ws p))
-- slots of offered: 0 wishes 1 price
def t_offered (K : PySem.W.Frag) (c : Cs) (E : XK) : TS :=
  (tRet (tCall (spD K (R_amount_of c)) [] E0 (tCons (tVar 0) (tCons (tC (.str "sell")) (tCons (tVar 1) tNil)))))
theorem len_offered {c : Cs} : ∀ ds o, R_offered c ds o → ds.length = 2 := by
  intro ds o h
  grind (ematch := 14) (gen := 20) [R_offered]
theorem body_offered {K : PySem.W.Frag} {c : Cs} {E : XK} : ∀ ds o, R_offered c ds o → DS K E (t_offered K c E) (slots 2 ds) o.post := by
  rintro _ _ ⟨ws, p, rfl, rfl⟩
  unfold t_offered
  apply VS.ds_ret
  · apply VS.de_call
    · walk_at "ev"
    · exact ⟨ws, false, p, rfl, rfl⟩
  · exact VS.post_ret rfl

def rankN (b : Bool) (w : Wish) : Int := if b then -w.limit else w.limit
def dealsB (ws : List Wish) (b : Bool) (p : Int) (i : Nat) : Bool := (wAt ws i).buy == b && willing (wAt ws i) p
def rowsTo (ws : List Wish) (b : Bool) (p : Int) (n : Nat) : List (Int × Nat) := ((List.range n).filter (dealsB ws b p)).map fun i => (rankN b (wAt ws i), i)
abbrev embP (r : Int × Nat) : Int × Int := (r.1, (r.2 : Int))
def leN (r s : Int × Nat) : Bool := leP (embP r) (embP s)
def sortedRows (ws : List Wish) (b : Bool) (p : Int) : List (Int × Nat) := (rowsTo ws b p ws.length).mergeSort leN
/-- the numbers, the first to be served first -/
def orderN (ws : List Wish) (b : Bool) (p : Int) : List Nat := (sortedRows ws b p).map (·.2)
theorem rowsTo_yes {ws : List Wish} {b : Bool} {p : Int} {n : Nat} (h : dealsB ws b p n = true) : rowsTo ws b p (n + 1) = rowsTo ws b p n ++ [(rankN b (wAt ws n), n)] := by
  unfold rowsTo
  rw [List.range_succ, List.filter_append, List.map_append]
  simp [h]
theorem rowsTo_no {ws : List Wish} {b : Bool} {p : Int} {n : Nat} (h : dealsB ws b p n = false) : rowsTo ws b p (n + 1) = rowsTo ws b p n := by
  unfold rowsTo
  rw [List.range_succ, List.filter_append, List.map_append]
  simp [h]
theorem rowsTo_len (ws : List Wish) (b : Bool) (p : Int) (n : Nat) : (rowsTo ws b p n).length ≤ n := by
  unfold rowsTo
  rw [List.length_map]
  refine Nat.le_trans (List.length_filter_le _ _) ?_
  rw [List.length_range]
  exact Nat.le_refl n
theorem sortedRows_emb (ws : List Wish) (b : Bool) (p : Int) : ((rowsTo ws b p ws.length).map embP).mergeSort leP = (sortedRows ws b p).map embP := by
  unfold sortedRows
  exact (List.map_mergeSort (f := embP) (r := leN) (s := leP) fun a _ b _ => rfl).symm
def R_order_of (c : Cs) (ds : List PyData) (o : Out) : Prop := ∃ ws b p, ds = [wsD ws, .str (sideS b), .int p] ∧ o = .ret (.list ((orderN ws b p).map fun i : Nat => PyData.int (i : Int))) ∧ ws.length ≤ 10000
-- slots of order_of: 0 wishes 1 side 2 price 3 rows 4 number 5 wish 6 rank 7 row
def t_order_of (K : PySem.W.Frag) (c : Cs) (E : XK) : TS :=
  (tSeq (tAsg (tLst tNil) (gName 3))
    (tSeq (tFor (iRng1 (tCons (tCB (rLenSq K) (tCons (tVar 0) tNil)) tNil)) (gName 4) (tSeq (tAsg (tOp (rIxL K) (tVar 0) (tVar 4)) (gName 5))
    (tIfS (tAnd (tTest (tOp rEq (tOp (rIxT K) (tVar 5) (tC (.int 0))) (tVar 1))) (tB (tCall (spD K (R_willing c)) [] E0 (tCons (tVar 5) (tCons (tVar 2) tNil))))) (tSeq (tAsg (tOp (rIxT K) (tVar 5) (tC (.int 1))) (gName 6))
    (tSeq (tIfS (tTest (tOp rEq (tVar 1) (tC (.str "buy")))) (tAsg (tUn rNegI (tOp (rIxT K) (tVar 5) (tC (.int 1)))) (gName 6)) tNext)
    (tDrop (tBM K "list" rAppend (tVar 3) (tCons (tTup (tCons (tVar 6) (tCons (tVar 4) tNil))) tNil))))) tNext)))
    (tRet (tLc (iList K (tCB (rSortedPO K) (tCons (tVar 3) tNil))) (gName 7) tYes (tOp (rIxT K) (tVar 7) (tC (.int 1))) [7]))))
theorem len_order_of {c : Cs} : ∀ ds o, R_order_of c ds o → ds.length = 3 := by
  intro ds o h
  grind (ematch := 14) (gen := 20) [R_order_of]
theorem body_order_of {K : PySem.W.Frag} {c : Cs} {E : XK} : ∀ ds o, R_order_of c ds o → DS K E (t_order_of K c E) (slots 8 ds) o.post := by
  rintro _ _ ⟨ws, b, p, rfl, rfl, hl⟩
  unfold t_order_of
  apply VS.q_new
  · walk_at "ev"
  apply VS.q_forR1 (n := (ws.length : Int)) (W := fun k es => ∃ s5 s6 s7, es = [.val (wsD ws), .val (.str (sideS b)), .val (.int p), .own (((rowsTo ws b p k).map embP).map pairD), s5, s6, s7, .no])
  · refine VS.da_cons (VS.de_to (VS.de_cb (by walk_at "ev") VS.dc_len) (by rw [List.length_map])) VS.da_nil
  · omega
  · exact ⟨.no, .no, .no, rfl⟩
  · rintro k _ hk ⟨s5, s6, s7, rfl⟩
    have hk' : k < ws.length := by omega
    apply VS.q_let
    · apply VS.de_op
      · exact VS.de_var rfl
      · exact VS.de_var rfl
      · exact VS.d2_ixL (atI_map (wAt_get hk'))
    apply VS.ds_if (b := dealsB ws b p k)
    · refine VS.dt_to (b := decide (sideS (wAt ws k).buy = sideS b) && willing (wAt ws k) p) ?_ (by rw [sideS_eq]; rfl)
      walk_at "ev"
    · intro hb
      apply VS.q_set
      · walk_at "ev"
      · rfl
      apply VS.q_ifset (d := .int (rankN b (wAt ws k)))
      · walk_at "ev"
      · intro hc
        rw [sideS_buy] at hc
        unfold rankN
        rw [if_pos hc]
        walk_at "ev"
      · rfl
      · intro hc
        rw [sideS_buy] at hc
        unfold rankN
        rw [if_neg (by rw [hc]; decide)]
        rfl
      apply VS.ds_appV
      · walk_at "ev"
      · rfl
      · have := rowsTo_len ws b p k
        rw [List.length_map, List.length_map]
        omega
      · refine ⟨.val (.int (k : Int)), .val (wishD (wAt ws k)), .val (.int (rankN b (wAt ws k))), ?_⟩
        rw [rowsTo_yes hb, List.map_append, List.map_append]
        rfl
    · intro hb
      refine VS.ds_next ⟨.val (.int (k : Int)), .val (wishD (wAt ws k)), s7, ?_⟩
      rw [rowsTo_no hb]
      rfl
  · rintro _ ⟨s5, s6, s7, rfl⟩
    rw [Int.toNat_natCast]
    have hlen : (sortedRows ws b p).length ≤ 10000 := by
      unfold sortedRows
      rw [List.length_mergeSort]
      exact Nat.le_trans (rowsTo_len _ _ _ _) hl
    apply VS.ds_ret
    · apply VS.de_new
      have q := VS.dn_lcL (K := K) (ds := see [.val (wsD ws), .val (.str (sideS b)), .val (.int p), .own (((rowsTo ws b p ws.length).map embP).map pairD), s5, s6, s7, .no]) (te := tOp (rIxT K) (tVar 7) (tC (.int 1))) (tl := tCB (rSortedPO K) (tCons (tVar 3) tNil)) (t := tYes) (j := 7) (xs := ((sortedRows ws b p).map embP).map pairD) (fun _ => true) (fun d => match d with | .tuple [_, l] => l | _ => .none) (by
          rw [← sortedRows_emb]
          walk_at "ev") (by rw [List.length_map, List.length_map]; omega) (fun x _ => VS.dt_yes) (fun x hx _ => by
          obtain ⟨r, _, rfl⟩ := List.mem_map.mp hx
          walk_at "ev")
      exact q
    · refine VS.post_ret ?_
      rw [VS.lcOf_all, List.map_map, List.map_map]
      unfold orderN
      rw [List.map_map]
      rfl

/-! who goes ahead -/
/-- j is served ahead of k: the better limit, of equal ones who stands earlier -/
def aheadB (ws : List Wish) (k j : Nat) : Bool := (wAt ws j).buy == (wAt ws k).buy &&
  ((if (wAt ws k).buy then decide ((wAt ws k).limit < (wAt ws j).limit) else decide ((wAt ws j).limit < (wAt ws k).limit)) || (decide ((wAt ws j).limit = (wAt ws k).limit) && decide (j < k)))
def aheadTo (ws : List Wish) (k n : Nat) : Int := (((List.range n).filter (aheadB ws k)).map (amtAt ws)).sum
abbrev aheadN (ws : List Wish) (k : Nat) : Int := aheadTo ws k ws.length
def dealtN (ws : List Wish) (p : Int) : Int := min (amountOf ws true p) (amountOf ws false p)
def piece (ws : List Wish) (p : Int) (k : Nat) : Int := if willing (wAt ws k) p = true then max 0 (min (amtAt ws k) (dealtN ws p - aheadN ws k)) else 0
/-- who gets how much -/
def piecesN (ws : List Wish) (p : Int) : List Int := (List.range ws.length).map (piece ws p)
theorem piecesN_len (ws : List Wish) (p : Int) : (piecesN ws p).length = ws.length := by
  unfold piecesN
  rw [List.length_map, List.length_range]
theorem piecesN_get {ws : List Wish} {p : Int} {k : Nat} (h : k < ws.length) : (piecesN ws p)[k]? = some (piece ws p k) := by
  unfold piecesN
  rw [List.getElem?_map, List.getElem?_range h]
  rfl
/-! the order -/
def ltN (r s : Int × Nat) : Bool := decide (r.1 < s.1) || (decide (r.1 = s.1) && decide (r.2 < s.2))
theorem ltN_iff {r s : Int × Nat} : ltN r s = true ↔ r.1 < s.1 ∨ (r.1 = s.1 ∧ r.2 < s.2) := by
  unfold ltN
  simp
theorem leN_iff {r s : Int × Nat} : leN r s = true ↔ r.1 < s.1 ∨ (r.1 = s.1 ∧ r.2 ≤ s.2) := by
  unfold leN
  rw [leP_iff]
  simp only [embP]
  omega
theorem rowsTo_mem {ws : List Wish} {b : Bool} {p : Int} {n : Nat} {r : Int × Nat} : r ∈ rowsTo ws b p n ↔ r.2 < n ∧ dealsB ws b p r.2 = true ∧ r.1 = rankN b (wAt ws r.2) := by
  unfold rowsTo
  rw [List.mem_map]
  constructor
  · rintro ⟨i, hi, rfl⟩
    rw [List.mem_filter, List.mem_range] at hi
    exact ⟨hi.1, hi.2, rfl⟩
  · rintro ⟨h1, h2, h3⟩
    exact ⟨r.2, by rw [List.mem_filter, List.mem_range]; exact ⟨h1, h2⟩, Prod.ext h3.symm rfl⟩
theorem rowsTo_nodup (ws : List Wish) (b : Bool) (p : Int) (n : Nat) : (rowsTo ws b p n).Pairwise (fun r s => r.2 ≠ s.2) := by
  unfold rowsTo
  rw [List.pairwise_map]
  exact (List.nodup_range.filter _).imp fun h => h
theorem sorted_perm (ws : List Wish) (b : Bool) (p : Int) : (sortedRows ws b p).Perm (rowsTo ws b p ws.length) := List.mergeSort_perm _ _
theorem sorted_lt (ws : List Wish) (b : Bool) (p : Int) : (sortedRows ws b p).Pairwise (fun r s => ltN r s = true) := by
  have h1 : (sortedRows ws b p).Pairwise (fun r s => leN r s = true) := List.pairwise_mergeSort (fun a b c h1 h2 => by rw [leN_iff] at *; omega) (fun a b => by rw [Bool.or_eq_true, leN_iff, leN_iff]; omega) _
  have h2 : (sortedRows ws b p).Pairwise (fun r s => r.2 ≠ s.2) := (sorted_perm ws b p).symm.pairwise (rowsTo_nodup ws b p ws.length) fun {x y} h => fun e => h e.symm
  refine (h1.and h2).imp fun {r s} h => ?_
  rw [ltN_iff]
  have := leN_iff.mp h.1
  have := h.2
  omega
/-- ahead of the t-th of the order stand the t first -/
theorem take_filter {M : List (Int × Nat)} (h : M.Pairwise (fun r s => ltN r s = true)) : ∀ {t : Nat} {r : Int × Nat}, M[t]? = some r → M.filter (fun s => ltN s r) = M.take t := by
  induction M with
  | nil => intro t r h; cases h
  | cons m M ih =>
    intro t r hr
    have hp := List.pairwise_cons.mp h
    cases t with
    | zero =>
      have e : m = r := Option.some.inj hr
      subst e
      rw [List.take_zero, List.filter_eq_nil_iff]
      intro s hs
      rw [ltN_iff]
      rcases List.mem_cons.mp hs with e | e
      · subst e; omega
      · have := ltN_iff.mp (hp.1 s e)
        omega
    | succ t =>
      have hr' : M[t]? = some r := hr
      have hm : ltN m r = true := hp.1 r (List.mem_of_getElem? hr')
      rw [List.filter_cons, if_pos hm, List.take_succ_cons, ih hp.2 hr']
theorem sum_perm {l m : List Int} (h : l.Perm m) : l.sum = m.sum := by
  induction h with
  | nil => rfl
  | cons x _ ih => rw [List.sum_cons, List.sum_cons, ih]
  | swap x y l => rw [List.sum_cons, List.sum_cons, List.sum_cons, List.sum_cons]; omega
  | trans _ _ a b => exact a.trans b
theorem ahead_rows {ws : List Wish} {b : Bool} {p : Int} {k : Nat} (hk : dealsB ws b p k = true) (n : Nat) : (((rowsTo ws b p n).filter fun s => ltN s (rankN b (wAt ws k), k)).map fun s => amtAt ws s.2).sum = aheadTo ws k n := by
  unfold rowsTo aheadTo
  rw [List.filter_map, List.map_map, List.filter_filter]
  have e : ((fun s : Int × Nat => amtAt ws s.2) ∘ fun i => (rankN b (wAt ws i), i)) = amtAt ws := rfl
  rw [e]
  refine congrArg (fun l : List Nat => (l.map (amtAt ws)).sum) (List.filter_congr fun j _ => ?_)
  unfold dealsB at hk ⊢
  unfold aheadB ltN rankN
  rw [Bool.and_eq_true, beq_iff_eq] at hk
  obtain ⟨h1, h2⟩ := hk
  dsimp only [Function.comp]
  rw [h1]
  rw [Bool.eq_iff_iff]
  simp only [Bool.and_eq_true, Bool.or_eq_true, beq_iff_eq, decide_eq_true_eq]
  unfold willing at h2 ⊢
  rw [h1] at h2
  cases b
  · simp only [Bool.false_eq_true, if_false, decide_eq_true_eq] at h2 ⊢
    constructor
    · rintro ⟨h3, h4, h5⟩
      refine ⟨h4, ?_⟩
      rcases h3 with h3 | h3
      · exact .inl h3
      · exact .inr h3
    · rintro ⟨h4, h3⟩
      refine ⟨?_, h4, ?_⟩
      · rcases h3 with h3 | h3
        · exact .inl h3
        · exact .inr h3
      · rw [h4]
        simp only [Bool.false_eq_true, if_false, decide_eq_true_eq]
        omega
  · simp only [if_true, decide_eq_true_eq] at h2 ⊢
    constructor
    · rintro ⟨h3, h4, h5⟩
      refine ⟨h4, ?_⟩
      rcases h3 with h3 | h3
      · exact .inl (by omega)
      · exact .inr ⟨by omega, h3.2⟩
    · rintro ⟨h4, h3⟩
      refine ⟨?_, h4, ?_⟩
      · rcases h3 with h3 | h3
        · exact .inl (by omega)
        · exact .inr ⟨by omega, h3.2⟩
      · rw [h4]
        simp only [if_true, decide_eq_true_eq]
        omega
/-- what those ahead take -/
theorem ahead_take {ws : List Wish} {b : Bool} {p : Int} {t k : Nat} (h : (orderN ws b p)[t]? = some k) : aheadN ws k = (((orderN ws b p).take t).map (amtAt ws)).sum ∧ dealsB ws b p k = true ∧ k < ws.length := by
  unfold orderN at h
  rw [List.getElem?_map] at h
  cases e : (sortedRows ws b p)[t]? with
  | none => rw [e] at h; cases h
  | some r =>
    rw [e] at h
    have hk : r.2 = k := Option.some.inj h
    have hm := rowsTo_mem.mp ((sorted_perm ws b p).mem_iff.mp (List.mem_of_getElem? e))
    have hr : r = (rankN b (wAt ws k), k) := Prod.ext (by rw [hm.2.2, hk]) hk
    rw [hk] at hm
    refine ⟨?_, hm.2.1, hm.1⟩
    have q := take_filter (sorted_lt ws b p) e
    show aheadTo ws k ws.length = _
    rw [← ahead_rows hm.2.1 ws.length]
    unfold orderN
    rw [← List.map_take, List.map_map, ← q, hr]
    exact sum_perm (((sorted_perm ws b p).symm.filter _).map _)
theorem order_nodup (ws : List Wish) (b : Bool) (p : Int) : (orderN ws b p).Nodup := by
  unfold orderN
  refine List.pairwise_map.mpr ?_
  exact (sorted_perm ws b p).symm.pairwise (rowsTo_nodup ws b p ws.length) fun {x y} h => fun e => h e.symm
theorem order_mem {ws : List Wish} {b : Bool} {p : Int} {k : Nat} : k ∈ orderN ws b p ↔ k < ws.length ∧ dealsB ws b p k = true := by
  unfold orderN
  rw [List.mem_map]
  constructor
  · rintro ⟨r, hr, rfl⟩
    have hm := rowsTo_mem.mp ((sorted_perm ws b p).mem_iff.mp hr)
    exact ⟨hm.1, hm.2.1⟩
  · rintro ⟨h1, h2⟩
    exact ⟨(rankN b (wAt ws k), k), (sorted_perm ws b p).mem_iff.mpr (rowsTo_mem.mpr ⟨h1, h2, rfl⟩), rfl⟩
/-! the row of pieces while it is dealt out -/
def foundN (ws : List Wish) (p : Int) (done : Nat → Bool) : List Int := (List.range ws.length).map fun i => if done i = true then piece ws p i else 0
theorem found_set {ws : List Wish} {p : Int} {done done' : Nat → Bool} {k : Nat} (hk : done' k = true) (ho : ∀ i, i ≠ k → done' i = done i) : (foundN ws p done).set k (piece ws p k) = foundN ws p done' := by
  unfold foundN
  refine List.ext_getElem? fun i => ?_
  rw [List.getElem?_set]
  by_cases hi : i < ws.length
  · rw [List.getElem?_map, List.getElem?_map, List.getElem?_range hi, List.length_map, List.length_range]
    by_cases z : k = i
    · subst z
      rw [if_pos rfl, if_pos hi]
      simp [hk]
    · rw [if_neg z]
      simp [ho i fun e => z e.symm]
  · rw [List.getElem?_eq_none (l := List.map _ _) (by rw [List.length_map, List.length_range]; omega), List.getElem?_eq_none (l := List.map _ _) (by rw [List.length_map, List.length_range]; omega)]
    split
    · rw [if_neg (by rw [List.length_map, List.length_range]; omega)]
    · rfl
def leftN (ws : List Wish) (b : Bool) (p : Int) (t : Nat) : Int := max 0 (dealtN ws p - (((orderN ws b p).take t).map (amtAt ws)).sum)
theorem dealt_nonneg {ws : List Wish} (h : Good ws) (p : Int) : 0 ≤ dealtN ws p := by
  unfold dealtN
  have h1 := amountOf_nonneg true p h
  have h2 := amountOf_nonneg false p h
  omega
theorem left_step {ws : List Wish} {b : Bool} {p : Int} {t k : Nat} (h : (orderN ws b p)[t]? = some k) (hg : Good ws) : min (amtAt ws k) (leftN ws b p t) = piece ws p k ∧ leftN ws b p t - piece ws p k = leftN ws b p (t + 1) := by
  obtain ⟨h1, h2, h3⟩ := ahead_take h
  have ha := (hg _ (wAt_mem h3)).2.2.1
  have e : leftN ws b p (t + 1) = max 0 (dealtN ws p - (aheadN ws k + amtAt ws k)) := by
    unfold leftN
    rw [List.take_add_one, h, List.map_append, List.sum_append, ← h1]
    simp
  have hw : willing (wAt ws k) p = true := by
    unfold dealsB at h2
    exact (Bool.and_eq_true_iff.mp h2).2
  have ep : piece ws p k = max 0 (min (amtAt ws k) (dealtN ws p - aheadN ws k)) := by
    unfold piece
    rw [if_pos hw]
  rw [e, ep]
  unfold leftN
  rw [← h1]
  have ha' : 1 ≤ amtAt ws k := ha
  generalize amtAt ws k = a at ha'
  generalize aheadN ws k = s
  generalize dealtN ws p = d
  omega
def R_pieces_at (c : Cs) (ds : List PyData) (o : Out) : Prop := ∃ ws d, ds = [wsD ws, d] ∧ notScr d = true ∧ Good ws ∧ ws.length ≤ 10000 ∧
  ((wholeIn d 0 1000000000 = false ∧ o = .exc c.BadPrice) ∨ ∃ p, d = .int p ∧ 0 ≤ p ∧ p ≤ 1000000000 ∧ o = .ret (intsD (piecesN ws p)))
theorem ixN_at {n k : Nat} (h : k < n) : ixN n (k : Int) = some k := Evl.ixN_nat h
-- slots of pieces_at: 0 wishes 1 price 2 dealt 3 found 4 wish 5 side 6 left 7 number
def t_pieces_at (K : PySem.W.Frag) (c : Cs) (E : XK) : TS :=
  (tSeq (tDrop (tCall (spD K (R_checked_price c)) [] E (tCons (tVar 1) tNil)))
    (tSeq (tAsg (tCB rMin2 (tCons (tCall (spD K (R_wanted c)) [] E0 (tCons (tVar 0) (tCons (tVar 1) tNil))) (tCons (tCall (spD K (R_offered c)) [] E0 (tCons (tVar 0) (tCons (tVar 1) tNil))) tNil))) (gName 2))
    (tSeq (tAsg (tLc (iList K (tVar 0)) (gName 4) tYes (tC (.int 0)) [4]) (gName 3))
    (tSeq (tFor (iTup K (tTup (tCons (tC (.str "buy")) (tCons (tC (.str "sell")) tNil)))) (gName 5) (tSeq (tAsg (tVar 2) (gName 6))
    (tFor (iList K (tCall (spD K (R_order_of c)) [] E0 (tCons (tVar 0) (tCons (tVar 5) (tCons (tVar 1) tNil))))) (gName 7) (tSeq (tAsg (tCB rMin2 (tCons (tOp (rIxT K) (tOp (rIxL K) (tVar 0) (tVar 7)) (tC (.int 2))) (tCons (tVar 6) tNil))) (gSub (tVar 3) (tVar 7) rSetL))
    (tAsg (tOp rSubI (tVar 6) (tOp (rIxL K) (tVar 3) (tVar 7))) (gName 6))))))
    (tRet (tVar 3))))))
theorem len_pieces_at {c : Cs} : ∀ ds o, R_pieces_at c ds o → ds.length = 2 := by
  rintro _ _ ⟨ws, d, rfl, _⟩
  rfl
theorem body_pieces_at {K : PySem.W.Frag} {c : Cs} {E : XK} : ∀ ds o, R_pieces_at c ds o → DS K E (t_pieces_at K c E) (slots 8 ds) o.post := by
  rintro _ o ⟨ws, d, rfl, hn, hg, hl, ho⟩
  unfold t_pieces_at
  rcases ho with ⟨hb, rfl⟩ | ⟨p, rfl, h0, h1, rfl⟩
  · apply VS.ds_seq
    apply VS.ds_dropX
    · apply VS.dx_call
      · walk_at "ev"
      · exact checked_price_bad hb hn
    · rfl
  apply VS.q_drop
  · apply VS.de_call
    · walk_at "ev"
    · exact checked_price_int ⟨h0, h1⟩
  apply VS.q_set (d := .int (dealtN ws p))
  · unfold dealtN
    refine VS.de_cb (VS.da_cons (VS.de_call (by walk_at "ev") ⟨ws, p, rfl, rfl⟩) (VS.da_cons (VS.de_call (by walk_at "ev") ⟨ws, p, rfl, rfl⟩) VS.da_nil)) VS.dc_min2
  · rfl
  apply VS.q_new (xs := (foundN ws p fun _ => false).map PyData.int)
  · have q := VS.dn_lcL (K := K) (ds := frz ((slots 8 [wsD ws, PyData.int p]).set 2 (.val (.int (dealtN ws p))))) (te := tC (.int 0)) (tl := tVar 0) (t := tYes) (j := 4) (xs := ws.map wishD) (fun _ => true) (fun _ => .int 0) (VS.de_var rfl) (by rw [List.length_map]; omega) (fun x _ => VS.dt_yes) (fun x _ _ => VS.de_int)
    rw [VS.lcOf_all, List.map_map] at q
    have e : (foundN ws p fun _ => false).map PyData.int = ws.map ((fun _ => PyData.int 0) ∘ wishD) := by
      unfold foundN
      rw [List.map_map]
      refine List.ext_getElem? fun i => ?_
      rw [List.getElem?_map, List.getElem?_map]
      by_cases hi : i < ws.length
      · rw [List.getElem?_range hi, List.getElem?_eq_getElem hi]
        rfl
      · rw [List.getElem?_eq_none (l := List.range _) (by rw [List.length_range]; omega), List.getElem?_eq_none (l := ws) (by omega)]
        rfl
    rw [e]
    exact q
  apply VS.q_forT (xs := [.str "buy", .str "sell"]) (W := fun k es => ∃ s5 s6 s7, es = [.val (wsD ws), .val (.int p), .val (.int (dealtN ws p)), .own ((foundN ws p fun i => decide (i < ws.length) && (decide (0 < k) && dealsB ws true p i || decide (1 < k) && dealsB ws false p i)).map PyData.int), .no, s5, s6, s7])
  · walk_at "ev"
  · refine ⟨.no, .no, .no, ?_⟩
    have e : (fun i => decide (i < ws.length) && (decide (0 < 0) && dealsB ws true p i || decide (1 < 0) && dealsB ws false p i)) = fun _ => false := by
      funext i
      simp
    rw [e]
    rfl
  · rintro k x _ hx ⟨s5, s6, s7, rfl⟩
    obtain ⟨b, rfl, hbk⟩ : ∃ b, x = .str (sideS b) ∧ ((k = 0 ∧ b = true) ∨ (k = 1 ∧ b = false)) := by
      match k, hx with
      | 0, hx => exact ⟨true, (Option.some.inj hx).symm, .inl ⟨rfl, rfl⟩⟩
      | 1, hx => exact ⟨false, (Option.some.inj hx).symm, .inr ⟨rfl, rfl⟩⟩
      | k + 2, hx => cases hx
    apply VS.q_set
    · walk_at "ev"
    · rfl
    apply VS.ds_for (W := fun t es => ∃ s7, es = [.val (wsD ws), .val (.int p), .val (.int (dealtN ws p)), .own ((foundN ws p fun i => decide (i < ws.length) && (decide (0 < k) && dealsB ws true p i || decide (1 < k) && dealsB ws false p i) || decide (i ∈ (orderN ws b p).take t)).map PyData.int), .no, .val (.str (sideS b)), .val (.int (leftN ws b p t)), s7])
      (xs := (orderN ws b p).map fun i : Nat => PyData.int (i : Int))
    · apply VS.de_call
      · walk_at "ev"
      · exact ⟨ws, b, p, rfl, rfl, hl⟩
    · refine ⟨s7, ?_⟩
      have e1 : leftN ws b p 0 = dealtN ws p := by
        unfold leftN
        have := dealt_nonneg hg p
        simp
        omega
      rw [e1]
      simp
    · rintro t y _ hy ⟨s7, rfl⟩
      obtain ⟨n, hn', rfl⟩ := map_at hy
      obtain ⟨e1, e2⟩ := left_step hn' hg
      obtain ⟨a1, a2, a3⟩ := ahead_take hn'
      apply VS.q_put (d := .int (piece ws p n)) (n := (n : Int)) (k0 := n)
      · rw [← e1]
        refine VS.de_cb (VS.da_cons (VS.de_op (VS.de_op (VS.de_var rfl) (VS.de_var rfl) (VS.d2_ixL (atI_map (wAt_get a3)))) VS.de_int (VS.d2_ixT rfl)) (VS.da_cons (VS.de_var rfl) VS.da_nil)) VS.dc_min2
      · rfl
      · rfl
      · walk_at "ev"
      · refine ixN_at ?_
        rw [List.length_map]
        unfold foundN
        rw [List.length_map, List.length_range]
        exact a3
      apply VS.ds_set (d := .int (leftN ws b p (t + 1)))
      · rw [← e2]
        refine VS.de_op (VS.de_var rfl) (VS.de_op (VS.de_var rfl) (VS.de_var rfl) (VS.d2_ixL ?_)) VS.d2_sub
        rw [show PyData.int (piece ws p n) = PyData.int (piece ws p n) from rfl]
        refine atI_nat ?_
        rw [List.getElem?_set_self]
        rw [List.length_map]
        unfold foundN
        rw [List.length_map, List.length_range]
        exact a3
      · rfl
      · refine ⟨.val (.int (n : Int)), ?_⟩
        have e := found_set (ws := ws) (p := p) (k := n) (done := fun i => decide (i < ws.length) && (decide (0 < k) && dealsB ws true p i || decide (1 < k) && dealsB ws false p i) || decide (i ∈ (orderN ws b p).take t)) (done' := fun i => decide (i < ws.length) && (decide (0 < k) && dealsB ws true p i || decide (1 < k) && dealsB ws false p i) || decide (i ∈ (orderN ws b p).take (t + 1))) (by
          rw [List.take_add_one, hn']
          simp) (fun i hi => by
          rw [List.take_add_one, hn']
          simp [hi])
        rw [← e, List.map_set]
        rfl
    · rintro _ ⟨s7, rfl⟩
      refine ⟨.val (.str (sideS b)), .val (.int (leftN ws b p ((orderN ws b p).map fun i : Nat => PyData.int (i : Int)).length)), s7, ?_⟩
      have e : (fun i => decide (i < ws.length) && (decide (0 < k) && dealsB ws true p i || decide (1 < k) && dealsB ws false p i) || decide (i ∈ (orderN ws b p).take ((orderN ws b p).map fun i : Nat => PyData.int (i : Int)).length)) = fun i => decide (i < ws.length) && (decide (0 < k + 1) && dealsB ws true p i || decide (1 < k + 1) && dealsB ws false p i) := by
        funext i
        rw [List.length_map, List.take_length]
        rw [Bool.eq_iff_iff]
        simp only [Bool.or_eq_true, Bool.and_eq_true, decide_eq_true_eq, order_mem]
        rcases hbk with ⟨rfl, rfl⟩ | ⟨rfl, rfl⟩ <;> simp
        exact and_or_left.symm
      rw [e]
  · rintro _ ⟨s5, s6, s7, rfl⟩
    apply VS.ds_ret
    · exact VS.de_var rfl
    · refine VS.post_ret ?_
      refine congrArg (fun l : List Int => Out.ret (intsD l)) ?_
      unfold foundN piecesN
      refine List.map_congr_left fun i hi => ?_
      have hi := List.mem_range.mp hi
      unfold piece dealsB
      cases hw : willing (wAt ws i) p
      · simp
      · cases hb : (wAt ws i).buy <;> simp [hi, hb, hw]

def gainN (w : Wish) (p n : Int) : Int := if w.buy then (w.limit - p) * n else (p - w.limit) * n
def R_gain (c : Cs) (ds : List PyData) (o : Out) : Prop := ∃ w p n, ds = [wishD w, .int p, .int n] ∧ o = .ret (.int (gainN w p n)) ∧ CMulM (w.limit - p) n
theorem mulM_flip {i j n : Int} (h : CMulM (i - j) n) : CMulM (j - i) n := by
  obtain ⟨a, b, h1, h2, h3⟩ := h
  refine ⟨a, b, ?_, h2, h3⟩
  have e : (j - i).natAbs = (i - j).natAbs := by omega
  rw [e]
  exact h1
theorem mulM_small {i n : Int} (h1 : i.natAbs ≤ 2000000000000) (h2 : n.natAbs ≤ 2000000000000) : CMulM i n :=
  ⟨41, 41, Nat.lt_of_le_of_lt h1 (by decide), Nat.lt_of_le_of_lt h2 (by decide), by decide⟩
-- slots of gain: 0 wish 1 price 2 pieces
def t_gain (K : PySem.W.Frag) (c : Cs) (E : XK) : TS :=
  (tSeq (tIfS (tTest (tOp rEq (tOp (rIxT K) (tVar 0) (tC (.int 0))) (tC (.str "buy")))) (tRet (tOp rMulM (tOp rSubI (tOp (rIxT K) (tVar 0) (tC (.int 1))) (tVar 1)) (tVar 2))) tNext)
    (tRet (tOp rMulM (tOp rSubI (tVar 1) (tOp (rIxT K) (tVar 0) (tC (.int 1)))) (tVar 2))))
theorem len_gain {c : Cs} : ∀ ds o, R_gain c ds o → ds.length = 3 := by
  intro ds o h
  grind (ematch := 14) (gen := 20) [R_gain]
theorem body_gain {K : PySem.W.Frag} {c : Cs} {E : XK} : ∀ ds o, R_gain c ds o → DS K E (t_gain K c E) (slots 3 ds) o.post := by
  rintro _ _ ⟨w, p, n, rfl, rfl, hm⟩
  unfold t_gain
  apply VS.q_if
  · walk_at "ev"
  · intro hb
    rw [sideS_buy] at hb
    apply VS.ds_ret
    · apply VS.de_op
      · walk_at "ev"
      · walk_at "ev"
      · exact VS.d2_mulM hm
    · exact VS.post_ret (by unfold gainN; rw [if_pos hb])
  · intro hb
    rw [sideS_buy] at hb
    apply VS.ds_ret
    · apply VS.de_op
      · walk_at "ev"
      · walk_at "ev"
      · exact VS.d2_mulM (mulM_flip hm)
    · exact VS.post_ret (by unfold gainN; rw [if_neg (by rw [hb]; decide)])

def pAt (ps : List Int) (k : Nat) : Int := ps.getD k 0
theorem pAt_get {ps : List Int} {k : Nat} (h : k < ps.length) : ps[k]? = some (pAt ps k) := by
  unfold pAt
  rw [List.getD_eq_getElem?_getD, List.getElem?_eq_getElem h]
  rfl
/-- as many as wishes, each from nought to its wish's amount -/
structure PiecesOk (ws : List Wish) (ps : List Int) : Prop where
  len : ps.length = ws.length
  ok : ∀ k, k < ws.length → 0 ≤ pAt ps k ∧ pAt ps k ≤ amtAt ws k
def piecesOkB (ws : List Wish) (xs : List PyData) : Bool := decide (xs.length = ws.length) && (List.range ws.length).all fun k => wholeIn (xs.getD k .none) 0 (amtAt ws k)
theorem piecesOkB_yes {ws : List Wish} {ps : List Int} (h : PiecesOk ws ps) : piecesOkB ws (ps.map PyData.int) = true := by
  unfold piecesOkB
  rw [Bool.and_eq_true, decide_eq_true_eq, List.all_eq_true]
  refine ⟨by rw [List.length_map]; exact h.len, fun k hk => ?_⟩
  have hk := List.mem_range.mp hk
  have e : (ps.map PyData.int).getD k .none = .int (pAt ps k) := by
    rw [List.getD_eq_getElem?_getD, List.getElem?_map, pAt_get (by rw [h.len]; exact hk)]
    rfl
  rw [e]
  exact wholeIn_yes (h.ok k hk)
theorem piecesOkB_len {ws : List Wish} {xs : List PyData} (h : xs.length ≠ ws.length) : piecesOkB ws xs = false := by
  unfold piecesOkB
  rw [decide_eq_false h]
  rfl
theorem piecesOkB_at {ws : List Wish} {xs : List PyData} {k : Nat} (hk : k < ws.length) (h : wholeIn (xs.getD k .none) 0 (amtAt ws k) = false) : piecesOkB ws xs = false := by
  unfold piecesOkB
  rw [Bool.and_eq_false_iff]
  right
  rw [List.all_eq_false]
  exact ⟨k, List.mem_range.mpr hk, by rw [h]; decide⟩
/-- a part is put in another's place -/
def putD (ps : List Int) (k : Nat) (d : PyData) : List PyData := ((ps.map PyData.int).take k ++ [d]) ++ (ps.map PyData.int).drop (k + 1)
theorem putD_at {ps : List Int} {k : Nat} {d : PyData} (h : k < ps.length) : (putD ps k d).getD k .none = d := by
  unfold putD
  have hl : ((ps.map PyData.int).take k).length = k := by
    rw [List.length_take, List.length_map]
    omega
  rw [List.append_assoc, List.getD_eq_getElem?_getD, List.getElem?_append_right (by omega), hl, Nat.sub_self]
  rfl
theorem putD_mem {ps : List Int} {k : Nat} {d x : PyData} (h : x ∈ putD ps k d) : x = d ∨ ∃ n, x = .int n := by
  unfold putD at h
  rcases List.mem_append.mp h with h | h
  · rcases List.mem_append.mp h with h | h
    · obtain ⟨n, _, rfl⟩ := List.mem_map.mp (List.mem_of_mem_take h)
      exact .inr ⟨n, rfl⟩
    · exact .inl (List.mem_singleton.mp h)
  · obtain ⟨n, _, rfl⟩ := List.mem_map.mp (List.mem_of_mem_drop h)
    exact .inr ⟨n, rfl⟩
theorem putD_len {ps : List Int} {k : Nat} {d : PyData} (h : k < ps.length) : (putD ps k d).length = ps.length := by
  unfold putD
  rw [List.length_append, List.length_append, List.length_take, List.length_drop, List.length_map, List.length_singleton]
  omega
def PlainL (xs : List PyData) : Prop := ∀ x ∈ xs, notScr x = true
theorem plain_ints (ps : List Int) : PlainL (ps.map PyData.int) := fun x hx => by
  obtain ⟨n, _, rfl⟩ := List.mem_map.mp hx
  rfl
theorem sh_int (i : Int) : SeqAt.shaped (.int i) = true := by
  unfold SeqAt.shaped
  simp [PyData.canLay0, PyData.depth]
theorem sh_pair {ws : List Wish} {ps : List Int} : SeqAt.shaped (.list [wsD ws, intsD ps]) = true := by
  unfold SeqAt.shaped
  have h1 : PyData.canLayAll0 (ws.map wishD) = true := by
    exact lay_map fun w _ => (wish_lay w).1
  have h2 : PyData.canLayAll0 (ps.map PyData.int) = true := by
    exact lay_map fun w _ => by simp [PyData.canLay0]
  have d1 : (wsD ws).depth ≤ 62 := by
    rw [wsD, PyData.depth]
    have := depth_map (f := wishD) (n := 60) (xs := ws) fun x _ => (wish_lay x).2
    omega
  have d2 : (intsD ps).depth ≤ 62 := by
    rw [intsD, PyData.depth]
    have := depth_map (f := PyData.int) (n := 60) (xs := ps) fun x _ => by simp [PyData.depth]
    omega
  rw [Bool.and_eq_true, decide_eq_true_eq]
  refine ⟨by simp [PyData.canLay0, PyData.canLayAll0, h1, h2], ?_⟩
  rw [PyData.depth, PyData.depthAll, PyData.depthAll, PyData.depthAll]
  omega
def R_checked_pieces (c : Cs) (ds : List PyData) (o : Out) : Prop := ∃ ws xs, ds = [wsD ws, .list xs] ∧ o = (if piecesOkB ws xs = true then .ret .none else .exc c.BadPieces) ∧ PlainL xs ∧ ws.length ≤ 10000
theorem cp_good {c : Cs} {ws : List Wish} {ps : List Int} (h : PiecesOk ws ps) (hl : ws.length ≤ 10000) : R_checked_pieces c [wsD ws, intsD ps] (.ret .none) := ⟨ws, _, rfl, by rw [piecesOkB_yes h]; rfl, plain_ints ps, hl⟩
theorem cp_bad {c : Cs} {ws : List Wish} {xs : List PyData} (h : piecesOkB ws xs = false) (hp : PlainL xs) (hl : ws.length ≤ 10000) : R_checked_pieces c [wsD ws, .list xs] (.exc c.BadPieces) := ⟨ws, _, rfl, by rw [h]; rfl, hp, hl⟩
theorem dAt_get {xs : List PyData} {k : Nat} (h : k < xs.length) : xs[k]? = some (xs.getD k .none) := by
  rw [List.getD_eq_getElem?_getD, List.getElem?_eq_getElem h]
  rfl
-- slots of checked_pieces: 0 wishes 1 pieces 2 number
def t_checked_pieces (K : PySem.W.Frag) (c : Cs) (E : XK) : TS :=
  (tSeq (tIfS (tTest (tOp rNe (tCB (rLenSq K) (tCons (tVar 1) tNil)) (tCB (rLenSq K) (tCons (tVar 0) tNil)))) (tRse E c.BadPieces) tNext)
    (tFor (iRng1 (tCons (tCB (rLenSq K) (tCons (tVar 0) tNil)) tNil)) (gName 2) (tIfS (tNot (tB (tCall (spD K (R_whole_within c)) [] E0 (tCons (tOp (rIxL K) (tVar 1) (tVar 2)) (tCons (tC (.int 0)) (tCons (tOp (rIxT K) (tOp (rIxL K) (tVar 0) (tVar 2)) (tC (.int 2))) tNil)))))) (tRse E c.BadPieces) tNext)))
theorem len_checked_pieces {c : Cs} : ∀ ds o, R_checked_pieces c ds o → ds.length = 2 := by
  rintro _ _ ⟨ws, xs, rfl, _⟩
  rfl
theorem body_checked_pieces {K : PySem.W.Frag} {c : Cs} {E : XK} : ∀ ds o, R_checked_pieces c ds o → DS K E (t_checked_pieces K c E) (slots 3 ds) o.post := by
  rintro _ o ⟨ws, xs, rfl, ho, hp, hl⟩
  unfold t_checked_pieces
  apply VS.q_if (b := !decide (((xs.length : Nat) : Int) = (((ws.map wishD).length : Nat) : Int)))
  · walk_at "ev"
  · intro hb
    have hne : xs.length ≠ ws.length := fun e => by
      rw [List.length_map, e] at hb
      simp at hb
    rw [piecesOkB_len hne] at ho
    exact VS.ds_raise ho
  · intro hb
    have hxl : xs.length = ws.length := by
      rw [List.length_map] at hb
      simp at hb
      omega
    apply VS.ds_forR1 (n := (ws.length : Int)) (W := fun k es => (∃ s, es = [.val (wsD ws), .val (.list xs), s]) ∧ ∀ j, j < k → wholeIn (xs.getD j .none) 0 (amtAt ws j) = true)
    · refine VS.da_cons (VS.de_to (VS.de_cb (by walk_at "ev") VS.dc_len) (by rw [List.length_map])) VS.da_nil
    · omega
    · exact ⟨⟨.no, rfl⟩, fun j hj => absurd hj (Nat.not_lt_zero j)⟩
    · rintro k _ hk ⟨⟨s, rfl⟩, hok⟩
      have hk' : k < ws.length := by omega
      have hw := wAt_get hk'
      have hx := dAt_get (xs := xs) (k := k) (by omega)
      apply VS.ds_if (b := !wholeIn (xs.getD k .none) 0 (amtAt ws k))
      · apply VS.dt_not
        apply VS.dt_B
        apply VS.de_call (xs := [xs.getD k .none, .int 0, .int (amtAt ws k)])
        · refine VS.da_cons (VS.de_op (VS.de_var rfl) (VS.de_var rfl) (VS.d2_ixL (atI_nat hx))) (VS.da_cons VS.de_int (VS.da_cons ?_ VS.da_nil))
          show DE K _ _ (.int (wAt ws k).amount)
          walk_at "ev"
        · exact ⟨_, _, _, rfl, rfl, hp _ (List.mem_of_getElem? hx)⟩
      · intro hb
        have hb : wholeIn (xs.getD k .none) 0 (amtAt ws k) = false := by simpa using hb
        rw [piecesOkB_at hk' hb] at ho
        exact VS.ds_raise ho
      · intro hb
        have hb : wholeIn (xs.getD k .none) 0 (amtAt ws k) = true := by simpa using hb
        refine VS.ds_next ⟨⟨_, rfl⟩, fun j hj => ?_⟩
        by_cases z : j = k
        · rw [z]; exact hb
        · exact hok j (by omega)
    · rintro es ⟨_, hok⟩
      have e : piecesOkB ws xs = true := by
        unfold piecesOkB
        rw [Bool.and_eq_true, decide_eq_true_eq, List.all_eq_true]
        exact ⟨hxl, fun k hk => hok k (by have := List.mem_range.mp hk; omega)⟩
      rw [e] at ho
      exact ho
    · omega

def worthTo (ws : List Wish) (ps : List Int) (p : Int) (n : Nat) : Int := ((List.range n).map fun k => gainN (wAt ws k) p (pAt ps k)).sum
theorem worthTo_succ (ws : List Wish) (ps : List Int) (p : Int) (n : Nat) : worthTo ws ps p (n + 1) = worthTo ws ps p n + gainN (wAt ws n) p (pAt ps n) := by
  unfold worthTo
  rw [List.range_succ, List.map_append, List.sum_append]
  simp
abbrev worthN (ws : List Wish) (ps : List Int) : Int := worthTo ws ps 0 ws.length
def R_worth (c : Cs) (ds : List PyData) (o : Out) : Prop := ∃ ws xs, ds = [wsD ws, .list xs] ∧ PlainL xs ∧ (∀ w ∈ ws, w.good) ∧ ws.length ≤ 10000 ∧
  ((piecesOkB ws xs = false ∧ o = .exc c.BadPieces) ∨ ∃ ps, xs = ps.map PyData.int ∧ PiecesOk ws ps ∧ o = .ret (.int (worthN ws ps)))
-- slots of worth: 0 wishes 1 pieces 2 total 3 number
def t_worth (K : PySem.W.Frag) (c : Cs) (E : XK) : TS :=
  (tSeq (tDrop (tCall (spD K (R_checked_pieces c)) [] E (tCons (tVar 0) (tCons (tVar 1) tNil))))
    (tSeq (tAsg (tC (.int 0)) (gName 2))
    (tSeq (tFor (iRng1 (tCons (tCB (rLenSq K) (tCons (tVar 0) tNil)) tNil)) (gName 3) (tAsg (tOp rAddI (tVar 2) (tCall (spD K (R_gain c)) [] E0 (tCons (tOp (rIxL K) (tVar 0) (tVar 3)) (tCons (tC (.int 0)) (tCons (tOp (rIxL K) (tVar 1) (tVar 3)) tNil))))) (gName 2)))
    (tRet (tVar 2)))))
theorem len_worth {c : Cs} : ∀ ds o, R_worth c ds o → ds.length = 2 := by
  rintro _ _ ⟨ws, xs, rfl, _⟩
  rfl
theorem body_worth {K : PySem.W.Frag} {c : Cs} {E : XK} : ∀ ds o, R_worth c ds o → DS K E (t_worth K c E) (slots 4 ds) o.post := by
  rintro _ o ⟨ws, xs, rfl, hp, hg, hl, ho⟩
  unfold t_worth
  rcases ho with ⟨hb, rfl⟩ | ⟨ps, rfl, hps, rfl⟩
  · apply VS.ds_seq
    apply VS.ds_dropX
    · apply VS.dx_call
      · walk_at "ev"
      · exact cp_bad hb hp hl
    · rfl
  apply VS.q_drop
  · apply VS.de_call
    · walk_at "ev"
    · exact cp_good hps hl
  apply VS.q_set
  · walk_at "ev"
  · rfl
  apply VS.q_forR1 (n := (ws.length : Int)) (W := fun k es => ∃ s, es = [.val (wsD ws), .val (intsD ps), .val (.int (worthTo ws ps 0 k)), s])
  · refine VS.da_cons (VS.de_to (VS.de_cb (by walk_at "ev") VS.dc_len) (by rw [List.length_map])) VS.da_nil
  · omega
  · exact ⟨.no, rfl⟩
  · rintro k _ hk ⟨s, rfl⟩
    have hk' : k < ws.length := by omega
    have hw := wAt_get hk'
    have hx := pAt_get (ps := ps) (k := k) (by rw [hps.len]; exact hk')
    have hgk := hg _ (wAt_mem hk')
    have hpk := hps.ok k hk'
    apply VS.ds_set (d := .int (worthTo ws ps 0 (k + 1)))
    · rw [worthTo_succ]
      refine VS.de_op (VS.de_var rfl) (VS.de_call ?_ ⟨wAt ws k, 0, pAt ps k, rfl, rfl, ?_⟩) VS.d2_add
      · walk_at "ev"
      · obtain ⟨g1, g2, g3, g4⟩ := hgk
        have : amtAt ws k = (wAt ws k).amount := rfl
        exact mulM_small (by omega) (by omega)
    · rfl
    · exact ⟨_, rfl⟩
  · rintro _ ⟨s, rfl⟩
    rw [Int.toNat_natCast]
    apply VS.ds_ret
    · walk_at "ev"
    · exact VS.post_ret rfl

def sideOf (ws : List Wish) (ps : List Int) (b : Bool) : Int := (((List.range ws.length).filter fun k => (wAt ws k).buy == b).map (pAt ps)).sum
def R_of_side (c : Cs) (ds : List PyData) (o : Out) : Prop := ∃ ws ps b, ds = [wsD ws, intsD ps, .str (sideS b)] ∧ o = .ret (.int (sideOf ws ps b)) ∧ ps.length = ws.length ∧ ws.length ≤ 10000
-- slots of of_side: 0 wishes 1 pieces 2 side 3 number
def t_of_side (K : PySem.W.Frag) (c : Cs) (E : XK) : TS :=
  (tRet (tCB (rSum K) (tCons (tLc (iRng1 (tCons (tCB (rLenSq K) (tCons (tVar 0) tNil)) tNil)) (gName 3) (tTest (tOp rEq (tOp (rIxT K) (tOp (rIxL K) (tVar 0) (tVar 3)) (tC (.int 0))) (tVar 2))) (tOp (rIxL K) (tVar 1) (tVar 3)) [3]) tNil)))
theorem len_of_side {c : Cs} : ∀ ds o, R_of_side c ds o → ds.length = 3 := by
  intro ds o h
  grind (ematch := 14) (gen := 20) [R_of_side]
theorem body_of_side {K : PySem.W.Frag} {c : Cs} {E : XK} : ∀ ds o, R_of_side c ds o → DS K E (t_of_side K c E) (slots 4 ds) o.post := by
  rintro _ _ ⟨ws, ps, b, rfl, rfl, hl, hn⟩
  unfold t_of_side
  apply VS.ds_ret (d := .int (sideOf ws ps b))
  · refine VS.de_cb (VS.da_cons (x := intsD (((List.range ws.length).filter fun k => (wAt ws k).buy == b).map (pAt ps))) (VS.de_new ?_) VS.da_nil) VS.dc_sum
    have q := VS.dn_lcR (K := K) (j := 3) (n := ws.length) (ds := see (slots 4 [wsD ws, intsD ps, .str (sideS b)])) (te := tOp (rIxL K) (tVar 1) (tVar 3)) (t := tTest (tOp rEq (tOp (rIxT K) (tOp (rIxL K) (tVar 0) (tVar 3)) (tC (.int 0))) (tVar 2))) (tl := tCons (tCB (rLenSq K) (tCons (tVar 0) tNil)) tNil) (fun k => (wAt ws k).buy == b) (fun k => .int (pAt ps k)) (VS.da_cons (VS.de_to (VS.de_cb (by walk_at "ev") VS.dc_len) (by rw [List.length_map])) VS.da_nil) (by omega) ?_ ?_
    · unfold lcOf at q
      rw [intsD, List.map_map]
      exact q
    · intro i hi
      have hw := wAt_get hi
      refine VS.dt_to (b := decide (sideS (wAt ws i).buy = sideS b)) ?_ sideS_eq
      walk_at "ev"
    · intro i hi _
      have hx := pAt_get (ps := ps) (k := i) (by omega)
      walk_at "ev"
  · exact VS.post_ret rfl

def R_even (c : Cs) (ds : List PyData) (o : Out) : Prop := ∃ ws xs, ds = [wsD ws, .list xs] ∧ PlainL xs ∧ ws.length ≤ 10000 ∧
  ((piecesOkB ws xs = false ∧ o = .exc c.BadPieces) ∨ ∃ ps, xs = ps.map PyData.int ∧ PiecesOk ws ps ∧ o = .ret (.bool (decide (sideOf ws ps true = sideOf ws ps false))))
-- slots of even: 0 wishes 1 pieces
def t_even (K : PySem.W.Frag) (c : Cs) (E : XK) : TS :=
  (tSeq (tDrop (tCall (spD K (R_checked_pieces c)) [] E (tCons (tVar 0) (tCons (tVar 1) tNil))))
    (tRet (tOp rEq (tCall (spD K (R_of_side c)) [] E0 (tCons (tVar 0) (tCons (tVar 1) (tCons (tC (.str "buy")) tNil)))) (tCall (spD K (R_of_side c)) [] E0 (tCons (tVar 0) (tCons (tVar 1) (tCons (tC (.str "sell")) tNil)))))))
theorem len_even {c : Cs} : ∀ ds o, R_even c ds o → ds.length = 2 := by
  rintro _ _ ⟨ws, xs, rfl, _⟩
  rfl
theorem body_even {K : PySem.W.Frag} {c : Cs} {E : XK} : ∀ ds o, R_even c ds o → DS K E (t_even K c E) (slots 2 ds) o.post := by
  rintro _ o ⟨ws, xs, rfl, hp, hl, ho⟩
  unfold t_even
  rcases ho with ⟨hb, rfl⟩ | ⟨ps, rfl, hps, rfl⟩
  · apply VS.ds_seq
    apply VS.ds_dropX
    · apply VS.dx_call
      · walk_at "ev"
      · exact cp_bad hb hp hl
    · rfl
  apply VS.q_drop
  · apply VS.de_call
    · walk_at "ev"
    · exact cp_good hps hl
  apply VS.ds_ret
  · refine VS.de_op (VS.de_call (by walk_at "ev") ⟨ws, ps, true, rfl, rfl, hps.len, hl⟩) (VS.de_call (by walk_at "ev") ⟨ws, ps, false, rfl, rfl, hps.len, hl⟩) VS.d2_eqI
  · exact VS.post_ret rfl

/-! sums over the wishes -/
def sumTo (f : Nat → Int) (n : Nat) : Int := ((List.range n).map f).sum
theorem sumTo_succ (f : Nat → Int) (n : Nat) : sumTo f (n + 1) = sumTo f n + f n := by
  unfold sumTo
  rw [List.range_succ, List.map_append, List.sum_append]
  simp
theorem sumTo_filter (P : Nat → Bool) (f : Nat → Int) (n : Nat) : (((List.range n).filter P).map f).sum = sumTo (fun j => if P j = true then f j else 0) n := by
  induction n with
  | zero => rfl
  | succ n ih =>
    rw [sumTo_succ, ← ih, List.range_succ, List.filter_append, List.map_append, List.sum_append]
    by_cases h : P n = true
    · simp [h]
    · simp [h]
theorem sumTo_congr {f g : Nat → Int} {n : Nat} (h : ∀ j, j < n → f j = g j) : sumTo f n = sumTo g n := by
  induction n with
  | zero => rfl
  | succ n ih =>
    rw [sumTo_succ, sumTo_succ, ih fun j hj => h j (by omega), h n (by omega)]
theorem sumTo_le {f g : Nat → Int} {n : Nat} (h : ∀ j, j < n → f j ≤ g j) : sumTo f n ≤ sumTo g n := by
  induction n with
  | zero => exact Int.le_refl 0
  | succ n ih =>
    rw [sumTo_succ, sumTo_succ]
    have := ih fun j hj => h j (by omega)
    have := h n (by omega)
    omega
theorem sumTo_le_at {f g : Nat → Int} {n k : Nat} {a : Int} (hk : k < n) (h : ∀ j, j < n → f j ≤ g j) (ha : f k + a ≤ g k) : sumTo f n + a ≤ sumTo g n := by
  induction n with
  | zero => omega
  | succ n ih =>
    rw [sumTo_succ, sumTo_succ]
    by_cases z : k = n
    · subst z
      have := sumTo_le (f := f) (g := g) (n := k) fun j hj => h j (by omega)
      omega
    · have := ih (by omega) fun j hj => h j (by omega)
      have := h n (by omega)
      omega
theorem sumTo_nonneg {f : Nat → Int} {n : Nat} (h : ∀ j, j < n → 0 ≤ f j) : 0 ≤ sumTo f n := by
  induction n with
  | zero => exact Int.le_refl 0
  | succ n ih =>
    rw [sumTo_succ]
    have := ih fun j hj => h j (by omega)
    have := h n (by omega)
    omega

/-! who deals with whom -/
structure Deal where
  b : Nat
  s : Nat
  m : Int
def dealD (d : Deal) : PyData := .tuple [.int (d.b : Int), .int (d.s : Int), .int d.m]
def subAt (left : List Int) (k : Nat) (m : Int) : List Int := left.set k (pAt left k - m)
def applyD (left : List Int) (d : Deal) : List Int := subAt (subAt left d.b d.m) d.s d.m
theorem subAt_len (left : List Int) (k : Nat) (m : Int) : (subAt left k m).length = left.length := by
  unfold subAt
  rw [List.length_set]
theorem applyD_len (left : List Int) (d : Deal) : (applyD left d).length = left.length := by
  unfold applyD
  rw [subAt_len, subAt_len]
theorem pAt_set {left : List Int} {k : Nat} {v : Int} (h : k < left.length) (j : Nat) : pAt (left.set k v) j = if j = k then v else pAt left j := by
  unfold pAt
  rw [List.getD_eq_getElem?_getD, List.getElem?_set, List.getD_eq_getElem?_getD]
  by_cases z : k = j
  · rw [if_pos z, if_pos h, if_pos z.symm]
    rfl
  · rw [if_neg z, if_neg fun e => z e.symm]
theorem pAt_subAt {left : List Int} {k : Nat} {m : Int} (h : k < left.length) (j : Nat) : pAt (subAt left k m) j = if j = k then pAt left k - m else pAt left j := by
  unfold subAt
  exact pAt_set h j
theorem sumS_filter (P : Nat → Bool) (f : Nat → Int) (n : Nat) : (((List.range n).filter P).map f).sum = sumTo (fun j => if P j = true then f j else 0) n := sumTo_filter P f n
theorem sideOf_sum (ws : List Wish) (ps : List Int) (b : Bool) : sideOf ws ps b = sumTo (fun j => if ((wAt ws j).buy == b) = true then pAt ps j else 0) ws.length := sumTo_filter _ _ _
theorem sumTo_change {f g : Nat → Int} {n k : Nat} (hk : k < n) (h : ∀ j, j ≠ k → f j = g j) : sumTo g n = sumTo f n + (g k - f k) := by
  induction n with
  | zero => omega
  | succ n ih =>
    rw [sumTo_succ, sumTo_succ]
    by_cases z : k = n
    · subst z
      rw [sumTo_congr (f := g) (g := f) (n := k) fun j hj => (h j (by omega)).symm]
      omega
    · rw [ih (by omega), h n fun e => z e.symm]
      omega
theorem sideOf_set {ws : List Wish} {left : List Int} {k : Nat} {v : Int} (b : Bool) (hl : left.length = ws.length) (hk : k < ws.length) : sideOf ws (left.set k v) b = sideOf ws left b + (if ((wAt ws k).buy == b) = true then v - pAt left k else 0) := by
  rw [sideOf_sum, sideOf_sum, sumTo_change hk (f := fun j => if ((wAt ws j).buy == b) = true then pAt left j else 0) (fun j hj => by
    rw [pAt_set (by omega), if_neg hj])]
  rw [pAt_set (by omega), if_pos rfl]
  split <;> omega
theorem sideOf_nonneg {ws : List Wish} {left : List Int} (b : Bool) (h : ∀ k, k < ws.length → 0 ≤ pAt left k) : 0 ≤ sideOf ws left b := by
  rw [sideOf_sum]
  refine sumTo_nonneg fun j hj => ?_
  split
  · exact h j hj
  · exact Int.le_refl 0
theorem sideOf_le {ws : List Wish} {left : List Int} {b : Bool} {k : Nat} (h : ∀ k, k < ws.length → 0 ≤ pAt left k) (hk : k < ws.length) (hb : (wAt ws k).buy = b) : pAt left k ≤ sideOf ws left b := by
  rw [sideOf_sum]
  have q := sumTo_le_at (f := fun _ => 0) (g := fun j => if ((wAt ws j).buy == b) = true then pAt left j else 0) (n := ws.length) (k := k) (a := pAt left k) hk (fun j hj => by
    split
    · exact h j hj
    · exact Int.le_refl 0) (by simp [hb])
  have z : ∀ n, sumTo (fun _ => 0) n = 0 := fun n => by
    induction n with
    | zero => rfl
    | succ n ih => rw [sumTo_succ, ih]; rfl
  rw [z] at q
  omega
theorem sideOf_zero {ws : List Wish} {left : List Int} {b : Bool} (h : ∀ k, k < ws.length → (wAt ws k).buy = b → pAt left k = 0) : sideOf ws left b = 0 := by
  rw [sideOf_sum, sumTo_congr (g := fun _ => 0) (fun j hj => by
    split
    · rename_i q
      exact h j hj (beq_iff_eq.mp q)
    · rfl)]
  generalize ws.length = n
  induction n with
  | zero => rfl
  | succ n ih => rw [sumTo_succ, ih]; rfl
def sellersN (ws : List Wish) (ps : List Int) : List Nat := (List.range ws.length).filter fun k => !(wAt ws k).buy && decide (0 < pAt ps k)
theorem sellers_mem {ws : List Wish} {ps : List Int} {k : Nat} : k ∈ sellersN ws ps ↔ k < ws.length ∧ (wAt ws k).buy = false ∧ 0 < pAt ps k := by
  unfold sellersN
  rw [List.mem_filter, List.mem_range]
  simp
theorem sellers_lt (ws : List Wish) (ps : List Int) : (sellersN ws ps).Pairwise (· < ·) := List.pairwise_lt_range.filter _
theorem sellers_len (ws : List Wish) (ps : List Int) : (sellersN ws ps).length ≤ ws.length := by
  unfold sellersN
  refine Nat.le_trans (List.length_filter_le _ _) ?_
  rw [List.length_range]
  exact Nat.le_refl _
def sellAt (ws : List Wish) (ps : List Int) (t : Nat) : Nat := (sellersN ws ps).getD t 0
theorem sellAt_get {ws : List Wish} {ps : List Int} {t : Nat} (h : t < (sellersN ws ps).length) : (sellersN ws ps)[t]? = some (sellAt ws ps t) := by
  unfold sellAt
  rw [List.getD_eq_getElem?_getD, List.getElem?_eq_getElem h]
  rfl
theorem sellAt_mem {ws : List Wish} {ps : List Int} {t : Nat} (h : t < (sellersN ws ps).length) : sellAt ws ps t < ws.length ∧ (wAt ws (sellAt ws ps t)).buy = false ∧ 0 < pAt ps (sellAt ws ps t) := sellers_mem.mp (List.mem_of_getElem? (sellAt_get h))
theorem sellAt_lt {ws : List Wish} {ps : List Int} {t u : Nat} (h : t < u) (hu : u < (sellersN ws ps).length) : sellAt ws ps t < sellAt ws ps u := by
  have h1 := sellAt_get (ws := ws) (ps := ps) (t := t) (by omega)
  have h2 := sellAt_get hu
  have h3 := List.pairwise_iff_getElem.mp (sellers_lt ws ps) t u (by omega) hu h
  rw [List.getElem?_eq_getElem (by omega)] at h1
  rw [List.getElem?_eq_getElem hu] at h2
  rw [Option.some.inj h1, Option.some.inj h2] at h3
  exact h3
structure PSt where
  left : List Int
  found : List Deal
  at' : Nat
def pairMany (ws : List Wish) (ps : List Int) (i : Nat) (s : PSt) : Int := min (pAt s.left i) (pAt s.left (sellAt ws ps s.at'))
def pairDeal (ws : List Wish) (ps : List Int) (i : Nat) (s : PSt) : Deal := ⟨i, sellAt ws ps s.at', pairMany ws ps i s⟩
def pairStep (ws : List Wish) (ps : List Int) (i : Nat) (s : PSt) : PSt :=
  ⟨applyD s.left (pairDeal ws ps i s), s.found ++ [pairDeal ws ps i s], if pAt (applyD s.left (pairDeal ws ps i s)) (sellAt ws ps s.at') = 0 then s.at' + 1 else s.at'⟩
def pairGo (ws : List Wish) (i : Nat) (s : PSt) : Bool := (wAt ws i).buy && decide (0 < pAt s.left i)
def pairRun (ws : List Wish) (ps : List Int) (i : Nat) : Nat → PSt → PSt
  | 0, s => s
  | f + 1, s => if pairGo ws i s = true then pairRun ws ps i f (pairStep ws ps i s) else s
theorem pairRun_stop {ws : List Wish} {ps : List Int} {i : Nat} {s : PSt} (h : pairGo ws i s = false) : ∀ f, pairRun ws ps i f s = s
  | 0 => rfl
  | f + 1 => by rw [pairRun, if_neg (by rw [h]; decide)]
abbrev fuelN (ws : List Wish) : Nat := ws.length + 2
def pairTo (ws : List Wish) (ps : List Int) : Nat → PSt
  | 0 => ⟨ps, [], 0⟩
  | i + 1 => pairRun ws ps i (fuelN ws) (pairTo ws ps i)
def pairsN (ws : List Wish) (ps : List Int) : List Deal := (pairTo ws ps ws.length).found
/-- the deal stands between a buyer and a seller of the pieces -/
structure DealOk (ws : List Wish) (ps : List Int) (d : Deal) : Prop where
  bl : d.b < ws.length
  sl : d.s < ws.length
  many : 1 ≤ d.m
  buy : (wAt ws d.b).buy = true
  sell : (wAt ws d.s).buy = false
  bp : d.m ≤ pAt ps d.b
  sp : d.m ≤ pAt ps d.s
structure PInv (ws : List Wish) (ps : List Int) (i : Nat) (s : PSt) : Prop where
  len : s.left.length = ws.length
  nn : ∀ k, k < ws.length → 0 ≤ pAt s.left k
  le : ∀ k, k < ws.length → pAt s.left k ≤ pAt ps k
  bal : sideOf ws s.left true = sideOf ws s.left false
  done : ∀ k, k < i → k < ws.length → (wAt ws k).buy = true → pAt s.left k = 0
  gone : ∀ t, t < s.at' → t < (sellersN ws ps).length → pAt s.left (sellAt ws ps t) = 0
  here : ∀ t, s.at' ≤ t → t < (sellersN ws ps).length → 0 < pAt s.left (sellAt ws ps t)
  ok : ∀ d ∈ s.found, DealOk ws ps d
  fold : s.left = s.found.foldl applyD ps
  chain : s.found.Pairwise fun d e => d.b ≤ e.b ∧ d.s ≤ e.s ∧ (d.b < e.b ∨ d.s < e.s)
  last : ∀ d ∈ s.found, d.b ≤ i ∧ ∀ t, s.at' ≤ t → t < (sellersN ws ps).length → d.s ≤ sellAt ws ps t ∧ (d.b < i ∨ d.s < sellAt ws ps t ∨ pAt s.left i = 0)
  atl : s.at' ≤ (sellersN ws ps).length
  few : s.found.length ≤ i + s.at' + (if pAt s.left i = 0 then 1 else 0)
def pairMeas (ws : List Wish) (ps : List Int) (i : Nat) (s : PSt) : Nat := (sellersN ws ps).length - s.at' + (if pairGo ws i s = true then 1 else 0)
theorem pair_first {ws : List Wish} {ps : List Int} (h : PiecesOk ws ps) (hb : sideOf ws ps true = sideOf ws ps false) : PInv ws ps 0 ⟨ps, [], 0⟩ :=
  ⟨h.len, fun k hk => (h.ok k hk).1, fun k _ => Int.le_refl _, hb, fun k hk => absurd hk (Nat.not_lt_zero k), fun t ht => absurd ht (Nat.not_lt_zero t), fun t _ ht => (sellAt_mem ht).2.2, (fun d hd => by cases hd), rfl, List.Pairwise.nil, (fun d hd => by cases hd), Nat.zero_le _, Nat.zero_le _⟩
theorem pair_at {ws : List Wish} {ps : List Int} {i : Nat} {s : PSt} (I : PInv ws ps i s) (hi : i < ws.length) (hg : pairGo ws i s = true) : s.at' < (sellersN ws ps).length := by
  unfold pairGo at hg
  rw [Bool.and_eq_true, decide_eq_true_eq] at hg
  have h1 := sideOf_le I.nn hi hg.1
  have h2 := I.bal
  refine Nat.lt_of_not_le fun hle => ?_
  have h3 : sideOf ws s.left false = 0 := sideOf_zero fun k hk hb => by
    by_cases z : 0 < pAt ps k
    · obtain ⟨t, ht, e⟩ := List.mem_iff_getElem.mp (sellers_mem.mpr ⟨hk, hb, z⟩)
      have g := I.gone t (by omega) ht
      have e' := sellAt_get ht
      rw [List.getElem?_eq_getElem ht, e] at e'
      rw [← Option.some.inj e'] at g
      exact g
    · have := I.nn k hk
      have := I.le k hk
      omega
  omega
theorem pAt_apply {left : List Int} {d : Deal} (hb : d.b < left.length) (hs : d.s < left.length) (hn : d.b ≠ d.s) (j : Nat) : pAt (applyD left d) j = if j = d.s then pAt left d.s - d.m else if j = d.b then pAt left d.b - d.m else pAt left j := by
  unfold applyD
  rw [pAt_subAt (by rw [subAt_len]; exact hs), pAt_subAt hb, pAt_subAt hb, if_neg (show ¬ d.s = d.b from fun e => hn e.symm)]
theorem sideOf_subAt {ws : List Wish} {left : List Int} {k : Nat} {m : Int} (b : Bool) (hl : left.length = ws.length) (hk : k < ws.length) : sideOf ws (subAt left k m) b = sideOf ws left b - (if ((wAt ws k).buy == b) = true then m else 0) := by
  unfold subAt
  rw [sideOf_set b hl hk]
  split <;> omega
theorem pair_next {ws : List Wish} {ps : List Int} {i : Nat} {s : PSt} (I : PInv ws ps i s) (hi : i < ws.length) (hg : pairGo ws i s = true) : PInv ws ps i (pairStep ws ps i s) ∧ pairMeas ws ps i (pairStep ws ps i s) < pairMeas ws ps i s := by
  have hat := pair_at I hi hg
  obtain ⟨s1, s2, s3⟩ := sellAt_mem hat
  have hgo := hg
  unfold pairGo at hgo
  rw [Bool.and_eq_true, decide_eq_true_eq] at hgo
  obtain ⟨hbuy, hpos⟩ := hgo
  have hhere := I.here s.at' (Nat.le_refl _) hat
  have hlen := I.len
  have hne : i ≠ sellAt ws ps s.at' := fun e => by
    rw [← e, hbuy] at s2
    cases s2
  have hP : ∀ j, pAt (pairStep ws ps i s).left j = if j = sellAt ws ps s.at' then pAt s.left (sellAt ws ps s.at') - pairMany ws ps i s else if j = i then pAt s.left i - pairMany ws ps i s else pAt s.left j := fun j =>
    pAt_apply (d := pairDeal ws ps i s) (by show i < _; omega) (by show sellAt ws ps s.at' < _; omega) hne j
  have hm1 : pairMany ws ps i s = min (pAt s.left i) (pAt s.left (sellAt ws ps s.at')) := rfl
  have hat' : (pairStep ws ps i s).at' = if pAt (pairStep ws ps i s).left (sellAt ws ps s.at') = 0 then s.at' + 1 else s.at' := rfl
  have hPi : pAt (pairStep ws ps i s).left i = pAt s.left i - pairMany ws ps i s := by rw [hP, if_neg hne, if_pos rfl]
  have hPs : pAt (pairStep ws ps i s).left (sellAt ws ps s.at') = pAt s.left (sellAt ws ps s.at') - pairMany ws ps i s := by rw [hP, if_pos rfl]
  have hf : (pairStep ws ps i s).found = s.found ++ [pairDeal ws ps i s] := rfl
  have hcase : ((pairStep ws ps i s).at' = s.at' + 1 ∧ pAt (pairStep ws ps i s).left (sellAt ws ps s.at') = 0) ∨ ((pairStep ws ps i s).at' = s.at' ∧ pAt (pairStep ws ps i s).left i = 0 ∧ 0 < pAt (pairStep ws ps i s).left (sellAt ws ps s.at')) := by
    by_cases z : pAt (pairStep ws ps i s).left (sellAt ws ps s.at') = 0
    · exact .inl ⟨by rw [hat', if_pos z], z⟩
    · exact .inr ⟨by rw [hat', if_neg z], by omega, by omega⟩
  have hll : (pairStep ws ps i s).left = applyD s.left (pairDeal ws ps i s) := rfl
  have hlt : ∀ t, s.at' < t → t < (sellersN ws ps).length → sellAt ws ps s.at' < sellAt ws ps t := fun t h1 h2 => sellAt_lt h1 h2
  have hot : ∀ t, t ≠ s.at' → t < (sellersN ws ps).length → pAt (pairStep ws ps i s).left (sellAt ws ps t) = pAt s.left (sellAt ws ps t) := fun t h1 h2 => by
    have h3 := (sellAt_mem h2).2.1
    rw [hP, if_neg, if_neg]
    · intro e
      rw [e, hbuy] at h3
      cases h3
    · intro e
      rcases Nat.lt_or_gt_of_ne h1 with z | z
      · have := sellAt_lt z hat
        omega
      · have := sellAt_lt z h2
        omega
  refine ⟨⟨?_, ?_, ?_, ?_, ?_, ?_, ?_, ?_, ?_, ?_, ?_, ?_, ?_⟩, ?_⟩
  · rw [hll, applyD_len]
    exact hlen
  · intro k hk
    have := I.nn k hk
    have := I.nn i hi
    rw [hP]
    split
    · omega
    · split <;> omega
  · intro k hk
    have := I.le k hk
    rw [hP]
    split
    · rename_i e
      rw [e] at this
      rw [e]
      omega
    · split
      · rename_i e
        rw [e] at this
        rw [e]
        omega
      · omega
  · have hb := I.bal
    rw [show (pairStep ws ps i s).left = subAt (subAt s.left i (pairMany ws ps i s)) (sellAt ws ps s.at') (pairMany ws ps i s) from rfl]
    rw [sideOf_subAt true (by rw [subAt_len]; exact hlen) s1, sideOf_subAt true hlen hi, sideOf_subAt false (by rw [subAt_len]; exact hlen) s1, sideOf_subAt false hlen hi]
    rw [hbuy, s2, hb]
    simp
  · intro k hk hkn hkb
    have := I.done k hk hkn hkb
    rw [hP, if_neg, if_neg (by omega)]
    · exact this
    · intro e
      rw [← e, hkb] at s2
      cases s2
  · intro t ht htl
    by_cases z : t = s.at'
    · rcases hcase with ⟨h1, h2⟩ | ⟨h1, h2, h3⟩
      · rw [z]
        exact h2
      · omega
    · rw [hot t z htl]
      refine I.gone t ?_ htl
      rcases hcase with ⟨h1, h2⟩ | ⟨h1, h2, h3⟩ <;> omega
  · intro t ht htl
    by_cases z : t = s.at'
    · rcases hcase with ⟨h1, h2⟩ | ⟨h1, h2, h3⟩
      · omega
      · rw [z]
        exact h3
    · rw [hot t z htl]
      refine I.here t ?_ htl
      rcases hcase with ⟨h1, h2⟩ | ⟨h1, h2, h3⟩ <;> omega
  · intro d hd
    rw [hf] at hd
    rcases List.mem_append.mp hd with h | h
    · exact I.ok d h
    · rw [List.mem_singleton.mp h]
      have h1 := I.le i hi
      have h2 := I.le _ s1
      refine ⟨hi, s1, ?_, hbuy, s2, ?_, ?_⟩
      · show 1 ≤ pairMany ws ps i s
        omega
      · show pairMany ws ps i s ≤ pAt ps i
        omega
      · show pairMany ws ps i s ≤ pAt ps (sellAt ws ps s.at')
        omega
  · rw [hf, List.foldl_append, ← I.fold]
    rfl
  · rw [hf]
    refine List.pairwise_append.mpr ⟨I.chain, List.pairwise_singleton _ _, fun d hd e he => ?_⟩
    rw [List.mem_singleton.mp he]
    have h1 := I.last d hd
    have h2 := h1.2 s.at' (Nat.le_refl _) hat
    refine ⟨h1.1, h2.1, ?_⟩
    show d.b < i ∨ d.s < sellAt ws ps s.at'
    omega
  · intro d hd
    rw [hf] at hd
    rcases List.mem_append.mp hd with h | h
    · have h1 := I.last d h
      refine ⟨h1.1, fun t ht htl => ?_⟩
      have h2 := h1.2 t (by rcases hcase with ⟨h1, h2⟩ | ⟨h1, h2, h3⟩ <;> omega) htl
      refine ⟨h2.1, ?_⟩
      omega
    · rw [List.mem_singleton.mp h]
      refine ⟨Nat.le_refl i, fun t ht htl => ?_⟩
      show sellAt ws ps s.at' ≤ sellAt ws ps t ∧ (i < i ∨ sellAt ws ps s.at' < sellAt ws ps t ∨ _)
      rcases hcase with ⟨h1, h2⟩ | ⟨h1, h2, h3⟩
      · have := hlt t (by omega) htl
        omega
      · by_cases z : t = s.at'
        · rw [z]
          exact ⟨Nat.le_refl _, .inr (.inr h2)⟩
        · have := hlt t (by omega) htl
          omega
  · rcases hcase with ⟨h1, h2⟩ | ⟨h1, h2, h3⟩ <;> omega
  · have h1 := I.few
    rw [if_neg (by omega)] at h1
    rw [hf, List.length_append, List.length_singleton]
    rcases hcase with ⟨h1, h2⟩ | ⟨h1, h2, h3⟩
    · omega
    · rw [if_pos h2]
      omega
  · unfold pairMeas
    rw [if_pos hg]
    rcases hcase with ⟨h1, h2⟩ | ⟨h1, h2, h3⟩
    · split <;> omega
    · rw [if_neg]
      · omega
      · unfold pairGo
        rw [h2]
        simp
theorem pair_move {ws : List Wish} {ps : List Int} {i : Nat} {s : PSt} (I : PInv ws ps i s) (hg : pairGo ws i s = false) : PInv ws ps (i + 1) s := by
  refine ⟨I.len, I.nn, I.le, I.bal, fun k hk hkn hkb => ?_, I.gone, I.here, I.ok, I.fold, I.chain, fun d hd => ?_, I.atl, ?_⟩
  · by_cases z : k = i
    · subst z
      have := I.nn k hkn
      unfold pairGo at hg
      rw [hkb, Bool.true_and, decide_eq_false_iff_not] at hg
      omega
    · exact I.done k (by omega) hkn hkb
  · have h1 := I.last d hd
    exact ⟨by omega, fun t ht htl => ⟨(h1.2 t ht htl).1, .inl (by omega)⟩⟩
  · have := I.few
    split at this <;> split <;> omega
theorem pairRun_inv {ws : List Wish} {ps : List Int} {i : Nat} (hi : i < ws.length) : ∀ f s, PInv ws ps i s → pairMeas ws ps i s ≤ f → PInv ws ps i (pairRun ws ps i f s) ∧ pairGo ws i (pairRun ws ps i f s) = false
  | 0, s, I, hm => by
    refine ⟨I, ?_⟩
    show pairGo ws i s = false
    unfold pairMeas at hm
    cases z : pairGo ws i s with
    | false => rfl
    | true => rw [if_pos z] at hm; omega
  | f + 1, s, I, hm => by
    rw [pairRun]
    by_cases z : pairGo ws i s = true
    · rw [if_pos z]
      have h := pair_next I hi z
      exact pairRun_inv hi f _ h.1 (by omega)
    · rw [if_neg z]
      exact ⟨I, by simpa using z⟩
theorem pairMeas_le (ws : List Wish) (ps : List Int) (i : Nat) (s : PSt) : pairMeas ws ps i s ≤ fuelN ws := by
  unfold pairMeas fuelN
  have := sellers_len ws ps
  split <;> omega
theorem pairTo_inv {ws : List Wish} {ps : List Int} (h : PiecesOk ws ps) (hb : sideOf ws ps true = sideOf ws ps false) : ∀ i, i ≤ ws.length → PInv ws ps i (pairTo ws ps i)
  | 0, _ => pair_first h hb
  | i + 1, hi => by
    have I := pairTo_inv h hb i (by omega)
    have q := pairRun_inv (i := i) (by omega) (fuelN ws) _ I (pairMeas_le ws ps i _)
    exact pair_move q.1 q.2
/-- what the deals do -/
structure PairsOk (ws : List Wish) (ps : List Int) (D : List Deal) : Prop where
  ok : ∀ d ∈ D, DealOk ws ps d
  chain : D.Pairwise fun d e => d.b ≤ e.b ∧ d.s ≤ e.s ∧ (d.b < e.b ∨ d.s < e.s)
  zero : D.foldl applyD ps = List.replicate ws.length 0
  few : D.length ≤ 2 * ws.length + 1
theorem pairsN_ok {ws : List Wish} {ps : List Int} (h : PiecesOk ws ps) (hb : sideOf ws ps true = sideOf ws ps false) : PairsOk ws ps (pairsN ws ps) := by
  have I := pairTo_inv h hb ws.length (Nat.le_refl _)
  unfold pairsN
  refine ⟨I.ok, I.chain, ?_, ?_⟩
  · rw [← I.fold]
    have ht : sideOf ws (pairTo ws ps ws.length).left true = 0 := sideOf_zero fun k hk hb => I.done k hk hk hb
    have hbal := I.bal
    refine List.ext_getElem? fun k => ?_
    by_cases hk : k < ws.length
    · rw [pAt_get (by rw [I.len]; exact hk), List.getElem?_replicate, if_pos hk]
      refine congrArg some ?_
      cases hw : (wAt ws k).buy with
      | true => exact I.done k hk hk hw
      | false =>
        have h1 := sideOf_le I.nn hk hw
        have h2 := I.nn k hk
        omega
    · rw [List.getElem?_eq_none (by rw [I.len]; omega), List.getElem?_eq_none (by rw [List.length_replicate]; omega)]
  · have h1 := I.few
    have h2 := I.atl
    have h3 := sellers_len ws ps
    split at h1 <;> omega

theorem ds_ifNX {K : PySem.W.Frag} {E : XK} {te : TE} {t u : TS} {es : List Slot} {P : Post} {C : Addr} (h : DX K te (see es) E C) (k : P.ex C) : DS K E (tIfS (tNot (tB te)) t u) es P := fun F0 H0 F H σ D A M =>
  h _ σ A.envV H A.seen2 _ fun H' e => M.ex C H' (A.h0.trans e) k
abbrev dealsD (D : List Deal) : PyData := .list (D.map dealD)
abbrev natsD (ns : List Nat) : PyData := .list (ns.map fun k : Nat => PyData.int (k : Int))
def R_pairs (c : Cs) (ds : List PyData) (o : Out) : Prop := ∃ ws xs, ds = [wsD ws, .list xs] ∧ PlainL xs ∧ ws.length ≤ 10000 ∧
  ((piecesOkB ws xs = false ∧ o = .exc c.BadPieces) ∨ ∃ ps, xs = ps.map PyData.int ∧ PiecesOk ws ps ∧ ((sideOf ws ps true ≠ sideOf ws ps false ∧ o = .exc c.Uneven) ∨ (sideOf ws ps true = sideOf ws ps false ∧ o = .ret (dealsD (pairsN ws ps)))))
-- slots of pairs: 0 wishes 1 pieces 2 sellers 3 number 4 left 5 found 6 at 7 buyer 8 seller 9 many
def t_pairs (K : PySem.W.Frag) (c : Cs) (E : XK) : TS :=
  (tSeq (tIfS (tNot (tB (tCall (spD K (R_even c)) [] E (tCons (tVar 0) (tCons (tVar 1) tNil))))) (tRse E c.Uneven) tNext)
    (tSeq (tAsg (tLc (iRng1 (tCons (tCB (rLenSq K) (tCons (tVar 0) tNil)) tNil)) (gName 3) (tAnd (tTest (tOp rEq (tOp (rIxT K) (tOp (rIxL K) (tVar 0) (tVar 3)) (tC (.int 0))) (tC (.str "sell")))) (tTest (tOp rGtI (tOp (rIxL K) (tVar 1) (tVar 3)) (tC (.int 0))))) (tVar 3) [3]) (gName 2))
    (tSeq (tAsg (tCB (rListOf K) (tCons (tVar 1) tNil)) (gName 4))
    (tSeq (tAsg (tLst tNil) (gName 5))
    (tSeq (tAsg (tC (.int 0)) (gName 6))
    (tSeq (tFor (iRng1 (tCons (tCB (rLenSq K) (tCons (tVar 0) tNil)) tNil)) (gName 7) (tWhile (tAnd (tTest (tOp rEq (tOp (rIxT K) (tOp (rIxL K) (tVar 0) (tVar 7)) (tC (.int 0))) (tC (.str "buy")))) (tTest (tOp rGtI (tOp (rIxL K) (tVar 4) (tVar 7)) (tC (.int 0))))) (tSeq (tAsg (tOp (rIxL K) (tVar 2) (tVar 6)) (gName 8))
    (tSeq (tAsg (tCB rMin2 (tCons (tOp (rIxL K) (tVar 4) (tVar 7)) (tCons (tOp (rIxL K) (tVar 4) (tVar 8)) tNil))) (gName 9))
    (tSeq (tDrop (tBM K "list" rAppend (tVar 5) (tCons (tTup (tCons (tVar 7) (tCons (tVar 8) (tCons (tVar 9) tNil)))) tNil)))
    (tSeq (tAsg (tOp rSubI (tOp (rIxL K) (tVar 4) (tVar 7)) (tVar 9)) (gSub (tVar 4) (tVar 7) rSetL))
    (tSeq (tAsg (tOp rSubI (tOp (rIxL K) (tVar 4) (tVar 8)) (tVar 9)) (gSub (tVar 4) (tVar 8) rSetL))
    (tIfS (tTest (tOp rEq (tOp (rIxL K) (tVar 4) (tVar 8)) (tC (.int 0)))) (tAsg (tOp rAddI (tVar 6) (tC (.int 1))) (gName 6)) tNext))))))))
    (tRet (tVar 5))))))))
theorem len_pairs {c : Cs} : ∀ ds o, R_pairs c ds o → ds.length = 2 := by
  rintro _ _ ⟨ws, xs, rfl, _⟩
  rfl
theorem body_pairs {K : PySem.W.Frag} {c : Cs} {E : XK} : ∀ ds o, R_pairs c ds o → DS K E (t_pairs K c E) (slots 10 ds) o.post := by
  rintro _ o ⟨ws, xs, rfl, hp, hl, ho⟩
  unfold t_pairs
  rcases ho with ⟨hb, rfl⟩ | ⟨ps, rfl, hps, ⟨hu, rfl⟩ | ⟨hu, rfl⟩⟩
  · apply VS.ds_seq
    apply ds_ifNX (C := c.BadPieces)
    · apply VS.dx_call
      · walk_at "ev"
      · exact ⟨ws, xs, rfl, hp, hl, .inl ⟨hb, rfl⟩⟩
    · rfl
  · apply VS.q_if (b := true)
    · refine VS.dt_to (b := !decide (sideOf ws ps true = sideOf ws ps false)) (VS.dt_not (VS.dt_B (VS.de_call ?_ ⟨ws, _, rfl, hp, hl, .inr ⟨ps, rfl, hps, rfl⟩⟩))) (by rw [decide_eq_false hu]; rfl)
      walk_at "ev"
    · intro _
      exact VS.ds_raise rfl
    · intro z
      cases z
  apply VS.q_guard
  · refine VS.dt_to (b := !decide (sideOf ws ps true = sideOf ws ps false)) (VS.dt_not (VS.dt_B (VS.de_call ?_ ⟨ws, _, rfl, hp, hl, .inr ⟨ps, rfl, hps, rfl⟩⟩))) (by rw [decide_eq_true hu]; rfl)
    walk_at "ev"
  have hn := hps.len
  apply VS.q_let (d := natsD (sellersN ws ps))
  · apply VS.de_new
    have q := VS.dn_lcR (K := K) (j := 3) (n := ws.length) (ds := frz (slots 10 [wsD ws, intsD ps])) (te := tVar 3) (t := tAnd (tTest (tOp rEq (tOp (rIxT K) (tOp (rIxL K) (tVar 0) (tVar 3)) (tC (.int 0))) (tC (.str "sell")))) (tTest (tOp rGtI (tOp (rIxL K) (tVar 1) (tVar 3)) (tC (.int 0))))) (tl := tCons (tCB (rLenSq K) (tCons (tVar 0) tNil)) tNil) (fun k => !(wAt ws k).buy && decide (0 < pAt ps k)) (fun k => .int ((k : Nat) : Int)) (VS.da_cons (VS.de_to (VS.de_cb (by walk_at "ev") VS.dc_len) (by rw [List.length_map])) VS.da_nil) (by omega) ?_ ?_
    · exact q
    · intro i hi
      have hw := wAt_get hi
      have hx := pAt_get (ps := ps) (k := i) (by omega)
      refine VS.dt_to (b := decide (sideS (wAt ws i).buy = "sell") && decide (0 < pAt ps i)) ?_ (by rw [sideS_sell])
      walk_at "ev"
    · intro i hi _
      exact VS.de_var rfl
  apply VS.q_new (xs := ps.map PyData.int)
  · walk_at "ev"
  apply VS.q_new
  · walk_at "ev"
  apply VS.q_set
  · walk_at "ev"
  · rfl
  apply VS.q_forR1 (n := (ws.length : Int)) (W := fun k es => ∃ s7 s8 s9, es = [.val (wsD ws), .val (intsD ps), .val (natsD (sellersN ws ps)), .no, .own ((pairTo ws ps k).left.map PyData.int), .own ((pairTo ws ps k).found.map dealD), .val (.int ((pairTo ws ps k).at' : Int)), s7, s8, s9])
  · refine VS.da_cons (VS.de_to (VS.de_cb (by walk_at "ev") VS.dc_len) (by rw [List.length_map])) VS.da_nil
  · omega
  · exact ⟨.no, .no, .no, rfl⟩
  · rintro i _ hi ⟨s7, s8, s9, rfl⟩
    have hi' : i < ws.length := by omega
    have hw := wAt_get hi'
    apply VS.ds_while (m0 := fuelN ws) (W := fun m es => ∃ st s8 s9, es = [.val (wsD ws), .val (intsD ps), .val (natsD (sellersN ws ps)), .no, .own (st.left.map PyData.int), .own (st.found.map dealD), .val (.int (st.at' : Int)), .val (.int (i : Int)), s8, s9] ∧ PInv ws ps i st ∧ pairMeas ws ps i st ≤ m ∧ pairRun ws ps i m st = pairTo ws ps (i + 1))
    · exact ⟨pairTo ws ps i, s8, s9, rfl, pairTo_inv hps hu i (by omega), pairMeas_le ws ps i _, rfl⟩
    · rintro m _ ⟨st, s8, s9, rfl, I, hm, hr⟩
      have hli := pAt_get (ps := st.left) (k := i) (by rw [I.len]; exact hi')
      refine ⟨pairGo ws i st, ?_, fun hg => ?_, fun hg => ?_⟩
      · unfold pairGo
        refine VS.dt_to (b := decide (sideS (wAt ws i).buy = "buy") && decide (0 < pAt st.left i)) ?_ (by rw [sideS_buy])
        walk_at "ev"
      · have hat := pair_at I hi' hg
        have hsg := sellAt_get hat
        obtain ⟨s1, s2, s3⟩ := sellAt_mem hat
        have hls := pAt_get (ps := st.left) (k := sellAt ws ps st.at') (by rw [I.len]; exact s1)
        have nx := pair_next I hi' hg
        have hfew := I.few
        have hatl := I.atl
        have hsl := sellers_len ws ps
        obtain ⟨m', rfl⟩ : ∃ m', m = m' + 1 := ⟨m - 1, by omega⟩
        have hr' : pairRun ws ps i m' (pairStep ws ps i st) = pairTo ws ps (i + 1) := by
          rw [← hr, pairRun, if_pos hg]
        have hps' : pairStep ws ps i st = ⟨applyD st.left (pairDeal ws ps i st), st.found ++ [pairDeal ws ps i st], if pAt (applyD st.left (pairDeal ws ps i st)) (sellAt ws ps st.at') = 0 then st.at' + 1 else st.at'⟩ := rfl
        generalize hsd : sellAt ws ps st.at' = sl at *
        have hmd : pairMany ws ps i st = min (pAt st.left i) (pAt st.left sl) := by
          unfold pairMany
          rw [hsd]
        have hdd : pairDeal ws ps i st = ⟨i, sl, pairMany ws ps i st⟩ := by
          unfold pairDeal
          rw [hsd]
        generalize pairMany ws ps i st = many at hmd hdd
        apply VS.q_set (d := .int (sl : Int))
        · walk_at "ev"
        · rfl
        apply VS.q_set (d := .int many)
        · rw [hmd]
          walk_at "ev"
        · rfl
        apply VS.q_appV (i := 5) (d := dealD ⟨i, sl, many⟩)
        · unfold dealD
          walk_at "ev"
        · rfl
        · rw [List.length_map]
          split at hfew <;> omega
        apply VS.q_put (i := 4) (xs := st.left.map PyData.int) (d := .int (pAt st.left i - many)) (n := (i : Int)) (k0 := i)
        · walk_at "ev"
        · rfl
        · rfl
        · walk_at "ev"
        · exact Evl.ixN_nat (by rw [List.length_map, I.len]; exact hi')
        rw [← List.map_set]
        have hl2 : (subAt st.left i many)[sl]? = some (pAt (subAt st.left i many) sl) := pAt_get (by rw [subAt_len, I.len]; exact s1)
        apply VS.q_put (i := 4) (xs := (subAt st.left i many).map PyData.int) (d := .int (pAt (subAt st.left i many) sl - many)) (n := (sl : Int)) (k0 := sl)
        · show DE K _ (see [.val (wsD ws), .val (intsD ps), .val (natsD (sellersN ws ps)), .no, .own ((subAt st.left i many).map PyData.int), .own (st.found.map dealD ++ [dealD ⟨i, sl, many⟩]), .val (.int (st.at' : Int)), .val (.int (i : Int)), .val (.int (sl : Int)), .val (.int many)]) _
          walk_at "ev"
        · rfl
        · rfl
        · walk_at "ev"
        · exact Evl.ixN_nat (by rw [List.length_map, subAt_len, I.len]; exact s1)
        rw [← List.map_set]
        show DS K E _ [.val (wsD ws), .val (intsD ps), .val (natsD (sellersN ws ps)), .no, .own ((applyD st.left ⟨i, sl, many⟩).map PyData.int), .own (st.found.map dealD ++ [dealD ⟨i, sl, many⟩]), .val (.int (st.at' : Int)), .val (.int (i : Int)), .val (.int (sl : Int)), .val (.int many)] _
        rw [← hdd] at *
        have hl3 := pAt_get (ps := applyD st.left (pairDeal ws ps i st)) (k := sl) (by rw [applyD_len, I.len]; exact s1)
        have hfd : st.found.map dealD ++ [dealD (pairDeal ws ps i st)] = (st.found ++ [pairDeal ws ps i st]).map dealD := by
          rw [List.map_append]
          rfl
        rw [hfd]
        rw [hps'] at nx hr'
        apply VS.ds_if (b := decide (pAt (applyD st.left (pairDeal ws ps i st)) sl = 0))
        · walk_at "ev"
        · intro hz
          rw [if_pos (of_decide_eq_true hz)] at nx hr'
          apply VS.ds_set (d := .int ((st.at' + 1 : Nat) : Int))
          · show DE K _ _ (.int ((st.at' : Int) + 1))
            walk_at "ev"
          · rfl
          · exact ⟨m', by omega, _, _, _, rfl, nx.1, by omega, hr'⟩
        · intro hz
          rw [if_neg (of_decide_eq_false hz)] at nx hr'
          exact VS.ds_next ⟨m', by omega, _, _, _, rfl, nx.1, by omega, hr'⟩
      · rw [pairRun_stop hg] at hr
        exact ⟨_, _, _, by rw [← hr]⟩
  · rintro _ ⟨s7, s8, s9, rfl⟩
    rw [Int.toNat_natCast]
    apply VS.ds_ret
    · exact VS.de_var rfl
    · exact VS.post_ret rfl

def coveredB (ws : List Wish) (p : Int) : Bool := decide (wantedN ws (p + 1) ≤ offeredN ws p)
def R_covered (c : Cs) (ds : List PyData) (o : Out) : Prop := ∃ ws p, ds = [wsD ws, .int p] ∧ o = .ret (.bool (coveredB ws p))
-- slots of covered: 0 wishes 1 price
def t_covered (K : PySem.W.Frag) (c : Cs) (E : XK) : TS :=
  (tRet (tOp rLeI (tCall (spD K (R_wanted c)) [] E0 (tCons (tVar 0) (tCons (tOp rAddI (tVar 1) (tC (.int 1))) tNil))) (tCall (spD K (R_offered c)) [] E0 (tCons (tVar 0) (tCons (tVar 1) tNil)))))
theorem len_covered {c : Cs} : ∀ ds o, R_covered c ds o → ds.length = 2 := by
  intro ds o h
  grind (ematch := 14) (gen := 20) [R_covered]
theorem body_covered {K : PySem.W.Frag} {c : Cs} {E : XK} : ∀ ds o, R_covered c ds o → DS K E (t_covered K c E) (slots 2 ds) o.post := by
  rintro _ _ ⟨ws, p, rfl, rfl⟩
  unfold t_covered
  apply VS.ds_ret
  · walk_at "ev"
  · exact VS.post_ret rfl

def takenB (ws : List Wish) (p : Int) : Bool := decide (offeredN ws (p - 1) ≤ wantedN ws p)
def R_taken_up (c : Cs) (ds : List PyData) (o : Out) : Prop := ∃ ws p, ds = [wsD ws, .int p] ∧ o = .ret (.bool (takenB ws p))
-- slots of taken_up: 0 wishes 1 price
def t_taken_up (K : PySem.W.Frag) (c : Cs) (E : XK) : TS :=
  (tRet (tOp rLeI (tCall (spD K (R_offered c)) [] E0 (tCons (tVar 0) (tCons (tOp rSubI (tVar 1) (tC (.int 1))) tNil))) (tCall (spD K (R_wanted c)) [] E0 (tCons (tVar 0) (tCons (tVar 1) tNil)))))
theorem len_taken_up {c : Cs} : ∀ ds o, R_taken_up c ds o → ds.length = 2 := by
  intro ds o h
  grind (ematch := 14) (gen := 20) [R_taken_up]
theorem body_taken_up {K : PySem.W.Frag} {c : Cs} {E : XK} : ∀ ds o, R_taken_up c ds o → DS K E (t_taken_up K c E) (slots 2 ds) o.post := by
  rintro _ _ ⟨ws, p, rfl, rfl⟩
  unfold t_taken_up
  apply VS.ds_ret
  · walk_at "ev"
  · exact VS.post_ret rfl

theorem covered_up {ws : List Wish} {p q : Int} (h : Good ws) (hq : p ≤ q) (hp : coveredB ws p = true) : coveredB ws q = true := by
  have hp := of_decide_eq_true hp
  refine decide_eq_true ?_
  have h1 := wanted_anti h (show p + 1 ≤ q + 1 by omega)
  have h2 := offered_mono h hq
  show amountOf ws true (q + 1) ≤ amountOf ws false q
  have hp : amountOf ws true (p + 1) ≤ amountOf ws false p := hp
  omega
theorem taken_down {ws : List Wish} {p q : Int} (h : Good ws) (hq : p ≤ q) (hp : takenB ws q = true) : takenB ws p = true := by
  have hp : amountOf ws false (q - 1) ≤ amountOf ws true q := of_decide_eq_true hp
  refine decide_eq_true ?_
  have h1 := wanted_anti h hq
  have h2 := offered_mono h (show p - 1 ≤ q - 1 by omega)
  show amountOf ws false (p - 1) ≤ amountOf ws true p
  omega
/-- the least price that is covered -/
structure IsLow (ws : List Wish) (p : Int) : Prop where
  lo : 0 ≤ p
  hi : p ≤ 1000000000
  cov : coveredB ws p = true
  least : ∀ q, 0 ≤ q → coveredB ws q = true → p ≤ q
theorem IsLow.one {ws : List Wish} {p q : Int} (a : IsLow ws p) (b : IsLow ws q) : p = q := Int.le_antisymm (a.least q b.lo b.cov) (b.least p a.lo a.cov)
theorem cov_top {ws : List Wish} (h : Good ws) {p : Int} (hp : ∀ w ∈ ws, w.limit ≤ p) : coveredB ws p = true := by
  refine decide_eq_true ?_
  have h1 : amountOf ws true (p + 1) = 0 := wanted_none fun w hw => by have := hp w hw; omega
  have h2 := amountOf_nonneg false p h
  show amountOf ws true (p + 1) ≤ amountOf ws false p
  omega
theorem least_nat {P : Nat → Bool} : ∀ n : Nat, P n = true → ∃ m, m ≤ n ∧ P m = true ∧ ∀ k, k < m → P k = false
  | 0, h => ⟨0, Nat.le_refl 0, h, fun k hk => absurd hk (Nat.not_lt_zero k)⟩
  | n + 1, h => by
    by_cases q : ∃ k, k ≤ n ∧ P k = true
    · obtain ⟨k, hk, hp⟩ := q
      clear h
      induction k using Nat.strongRecOn with
      | _ k ih =>
        by_cases z : ∃ j, j < k ∧ P j = true
        · obtain ⟨j, hj, hpj⟩ := z
          exact ih j hj (by omega) hpj
        · refine ⟨k, by omega, hp, fun j hj => ?_⟩
          cases e : P j with
          | false => rfl
          | true => exact absurd ⟨j, hj, e⟩ z
    · refine ⟨n + 1, Nat.le_refl _, h, fun k hk => ?_⟩
      cases e : P k with
      | false => rfl
      | true => exact absurd ⟨k, by omega, e⟩ q
theorem low_ex {ws : List Wish} (h : Good ws) : ∃ p, IsLow ws p := by
  have ht : coveredB ws 1000000000 = true := cov_top h fun w hw => (h w hw).2.1
  obtain ⟨m, h1, h2, h3⟩ := least_nat (P := fun n => coveredB ws (n : Int)) 1000000000 ht
  refine ⟨(m : Int), by omega, by omega, h2, fun q hq hc => ?_⟩
  by_cases z : (m : Int) ≤ q
  · exact z
  · have h4 := h3 q.toNat (by omega)
    rw [Int.toNat_of_nonneg hq] at h4
    rw [h4] at hc
    cases hc
theorem low_mem {ws : List Wish} {p : Int} (a : IsLow ws p) : p ∈ (0 :: ws.map (·.limit)) := by
  by_cases z : p = 0
  · rw [z]; exact List.mem_cons_self
  · refine List.mem_cons_of_mem _ ?_
    by_cases y : ∃ w ∈ ws, w.limit = p
    · obtain ⟨w, hw, e⟩ := y
      rw [← e]
      exact List.mem_map_of_mem hw
    · have hn : ∀ w ∈ ws, w.limit ≠ p := fun w hw e => y ⟨w, hw, e⟩
      have h1 := wanted_step hn
      have h2 := offered_step hn
      have h3 : amountOf ws true (p + 1) ≤ amountOf ws false p := of_decide_eq_true a.cov
      have h0 := a.lo
      have h4 := a.least (p - 1) (by omega) (decide_eq_true (by
        show amountOf ws true (p - 1 + 1) ≤ amountOf ws false (p - 1)
        rw [Int.sub_add_cancel, h1, h2]
        exact h3))
      omega
/-- a sorted list's place -/
theorem sorted_le {L : List Int} (h : L.Pairwise (· ≤ ·)) {i j : Nat} {x y : Int} (hi : L[i]? = some x) (hj : L[j]? = some y) (hij : i ≤ j) : x ≤ y := by
  obtain ⟨h1, e1⟩ := List.getElem?_eq_some_iff.mp hi
  obtain ⟨h2, e2⟩ := List.getElem?_eq_some_iff.mp hj
  rw [← e1, ← e2]
  by_cases z : i = j
  · subst z; exact Int.le_refl _
  · exact List.pairwise_iff_getElem.mp h i j h1 h2 (by omega)
def sortI (L : List Int) : List Int := L.mergeSort (fun a b => decide (a ≤ b))
theorem sortI_sorted (L : List Int) : (sortI L).Pairwise (· ≤ ·) :=
  (List.pairwise_mergeSort (fun a b c h1 h2 => by simp at *; omega) (fun a b => by simp; omega) L).imp fun h => of_decide_eq_true h
theorem sortI_mem {L : List Int} {x : Int} : x ∈ sortI L ↔ x ∈ L := List.mem_mergeSort
theorem sortI_len (L : List Int) : (sortI L).length = L.length := List.length_mergeSort L
theorem low_search {ws : List Wish} {p : Int} (a : IsLow ws p) (h : Good ws) {lo : Nat} {x : Int} (hx : (sortI (0 :: ws.map (·.limit)))[lo]? = some x) (hc : coveredB ws x = true) (hn : ∀ i y, i < lo → (sortI (0 :: ws.map (·.limit)))[i]? = some y → coveredB ws y = false) : x = p := by
  have hs := sortI_sorted (0 :: ws.map (·.limit))
  have hm : p ∈ sortI (0 :: ws.map (·.limit)) := sortI_mem.mpr (low_mem a)
  obtain ⟨i, hi⟩ := List.mem_iff_getElem?.mp hm
  have hge : lo ≤ i := by
    by_cases z : lo ≤ i
    · exact z
    · have := hn i p (by omega) hi
      rw [a.cov] at this
      cases this
  have h1 := sorted_le hs hx hi hge
  have h0 : 0 ≤ x := by
    have hxm : x ∈ (0 :: ws.map (·.limit)) := sortI_mem.mp (List.mem_of_getElem? hx)
    rcases List.mem_cons.mp hxm with e | e
    · omega
    · obtain ⟨w, hw, rfl⟩ := List.mem_map.mp e
      exact (h w hw).1
  exact Int.le_antisymm h1 (a.least x h0 hc)
def R_lowest (c : Cs) (ds : List PyData) (o : Out) : Prop := ∃ ws p, ds = [wsD ws] ∧ o = .ret (.int p) ∧ Good ws ∧ ws.length ≤ 10000 ∧ IsLow ws p
theorem dn_limits {K : PySem.W.Frag} {ws : List Wish} {ds : List (Option PyData)} {j : Nat} {te : TE} (hl : ws.length ≤ 10000) (h : DE K (tVar 0) ds (wsD ws)) (he : ∀ w : Wish, DE K te (ds.set j (some (wishD w))) (.int w.limit)) : DN K (tLc (iList K (tVar 0)) (gName j) tYes te [j]) ds ((ws.map (·.limit)).map PyData.int) := by
  have q := VS.dn_lcL (K := K) (ds := ds) (te := te) (t := tYes) (j := j) (xs := ws.map wishD) (fun _ => true) (fun d => match d with | .tuple [_, l, _] => l | _ => .none) h (by rw [List.length_map]; omega) (fun x _ => VS.dt_yes) (fun x hx _ => by
    obtain ⟨w, _, rfl⟩ := List.mem_map.mp hx
    exact he w)
  rw [VS.lcOf_all, List.map_map] at q
  rw [List.map_map]
  exact q
-- slots of lowest: 0 wishes 1 limits 2 wish 3 low 4 high 5 middle
def t_lowest (K : PySem.W.Frag) (c : Cs) (E : XK) : TS :=
  (tSeq (tAsg (tCB (rSortedI K) (tCons (tOp rCat (tLst (tCons (tC (.int 0)) tNil)) (tLc (iList K (tVar 0)) (gName 2) tYes (tOp (rIxT K) (tVar 2) (tC (.int 1))) [2])) tNil)) (gName 1))
    (tSeq (tAsg (tC (.int 0)) (gName 3))
    (tSeq (tAsg (tOp rSubI (tCB (rLenSq K) (tCons (tVar 1) tNil)) (tC (.int 1))) (gName 4))
    (tSeq (tWhile (tTest (tOp rLtI (tVar 3) (tVar 4))) (tSeq (tAsg (tOp rDivI (tOp rAddI (tVar 3) (tVar 4)) (tC (.int 2))) (gName 5))
    (tIfS (tB (tCall (spD K (R_covered c)) [] E0 (tCons (tVar 0) (tCons (tOp (rIxL K) (tVar 1) (tVar 5)) tNil)))) (tAsg (tVar 5) (gName 4)) (tAsg (tOp rAddI (tVar 5) (tC (.int 1))) (gName 3)))))
    (tRet (tOp (rIxL K) (tVar 1) (tVar 3)))))))
theorem len_lowest {c : Cs} : ∀ ds o, R_lowest c ds o → ds.length = 1 := by
  intro ds o h
  grind (ematch := 14) (gen := 20) [R_lowest]
theorem body_lowest {K : PySem.W.Frag} {c : Cs} {E : XK} : ∀ ds o, R_lowest c ds o → DS K E (t_lowest K c E) (slots 6 ds) o.post := by
  rintro _ _ ⟨ws, p, rfl, rfl, hg, hl, a⟩
  unfold t_lowest
  apply VS.q_let (d := intsD (sortI (0 :: ws.map (·.limit))))
  · apply VS.de_new
    apply VS.dn_cb
    · apply VS.da_cons
      · apply VS.de_new
        apply VS.dn_op
        · walk_at "ev"
        · apply VS.de_new
          refine dn_limits hl (VS.de_var rfl) fun w => ?_
          walk_at "ev"
        · exact VS.d2n_cat (xs := [.int 0]) (by simp; omega)
      · exact VS.da_nil
    · exact VS.dcn_sortI (ns := 0 :: ws.map (·.limit))
  generalize hL : sortI (0 :: ws.map (·.limit)) = L
  have hLl : L.length = ws.length + 1 := by
    rw [← hL, sortI_len]
    simp
  apply VS.q_set
  · walk_at "ev"
  · rfl
  apply VS.q_set
  · walk_at "ev"
  · rfl
  apply VS.q_while (W := fun m es => ∃ (lo hi : Nat) (s s2 : Slot), es = [.val (wsD ws), .val (intsD L), s2, .val (.int (lo : Int)), .val (.int (hi : Int)), s] ∧ m = hi - lo ∧ lo ≤ hi ∧ hi < L.length ∧ (∀ x, L[hi]? = some x → coveredB ws x = true) ∧ ∀ (i : Nat) y, i < lo → L[i]? = some y → coveredB ws y = false) (m0 := L.length - 1)
  · refine ⟨0, L.length - 1, .no, .no, ?_, rfl, Nat.zero_le _, by omega, fun x hx => ?_, fun i y hi => absurd hi (Nat.not_lt_zero i)⟩
    · rw [List.length_map, show ((L.length : Nat) : Int) - 1 = ((L.length - 1 : Nat) : Int) by omega]
      rfl
    · refine cov_top hg fun w hw => ?_
      have hm : w.limit ∈ L := by
        rw [← hL]
        exact sortI_mem.mpr (List.mem_cons_of_mem _ (List.mem_map_of_mem hw))
      obtain ⟨i, hi⟩ := List.mem_iff_getElem?.mp hm
      have hil := (List.getElem?_eq_some_iff.mp hi).1
      exact sorted_le (by rw [← hL]; exact sortI_sorted _) hi hx (by omega)
  · rintro m _ ⟨lo, hi, s, s2, rfl, rfl, h1, h2, h3, h4⟩
    refine ⟨decide ((lo : Int) < (hi : Int)), by walk_at "ev", fun hb => ?_, fun hb => ?_⟩
    · have hb := of_decide_eq_true hb
      have hmid : (((lo : Int) + (hi : Int)) / 2) = (((lo + hi) / 2 : Nat) : Int) := by omega
      have hml : (lo + hi) / 2 < L.length := by omega
      apply VS.q_set (d := .int (((lo + hi) / 2 : Nat) : Int))
      · rw [← hmid]
        walk_at "ev"
      · rfl
      generalize hmm : (lo + hi) / 2 = mid at hml
      have hx : L[mid]? = some L[mid] := List.getElem?_eq_getElem hml
      apply VS.ds_if (b := coveredB ws L[mid])
      · apply VS.dt_B
        apply VS.de_call
        · apply VS.da_cons
          · walk_at "ev"
          · apply VS.da_cons
            · apply VS.de_op
              · walk_at "ev"
              · walk_at "ev"
              · exact VS.d2_ixL (atI_map hx)
            · walk_at "ev"
        · walk_at "ev"
      · intro hc
        apply VS.ds_set
        · walk_at "ev"
        · rfl
        · exact ⟨mid - lo, by omega, lo, mid, _, _, rfl, rfl, by omega, hml, fun x h => by rw [hx] at h; cases h; exact hc, h4⟩
      · intro hc
        apply VS.ds_set
        · walk_at "ev"
        · rfl
        · refine ⟨hi - (mid + 1), by omega, mid + 1, hi, _, _, rfl, rfl, by omega, h2, h3, fun i y hi' hy => ?_⟩
          cases e : coveredB ws y with
          | false => rfl
          | true =>
            have hle : y ≤ L[mid] := sorted_le (by rw [← hL]; exact sortI_sorted _) hy hx (by omega)
            rw [covered_up hg hle e] at hc
            cases hc
    · have hb := of_decide_eq_false hb
      have e : lo = hi := by omega
      subst e
      have hx : L[lo]? = some L[lo] := List.getElem?_eq_getElem h2
      apply VS.ds_ret
      · apply VS.de_op
        · walk_at "ev"
        · walk_at "ev"
        · exact VS.d2_ixL (atI_map hx)
      · refine VS.post_ret ?_
        rw [low_search a hg (lo := lo) (x := L[lo]) (by rw [hL]; exact hx) (h3 _ hx) (by rw [hL]; exact h4)]

/-- the greatest price at which what is offered is taken up -/
structure IsHigh (ws : List Wish) (p : Int) : Prop where
  lo : 0 ≤ p
  hi : p ≤ 1000000000
  tak : takenB ws p = true
  most : ∀ q, q ≤ 1000000000 → takenB ws q = true → q ≤ p
theorem IsHigh.one {ws : List Wish} {p q : Int} (a : IsHigh ws p) (b : IsHigh ws q) : p = q := Int.le_antisymm (b.most p a.hi a.tak) (a.most q b.hi b.tak)
theorem tak_low {ws : List Wish} (h : Good ws) {p : Int} (hp : ∀ w ∈ ws, p ≤ w.limit) : takenB ws p = true := by
  refine decide_eq_true ?_
  have h1 : amountOf ws false (p - 1) = 0 := offered_none fun w hw => by have := hp w hw; omega
  have h2 := amountOf_nonneg true p h
  show amountOf ws false (p - 1) ≤ amountOf ws true p
  omega
theorem high_ex {ws : List Wish} (h : Good ws) : ∃ p, IsHigh ws p := by
  have ht : takenB ws 0 = true := tak_low h fun w hw => (h w hw).1
  have h0 : takenB ws (1000000000 - ((1000000000 : Nat) : Int)) = true := by
    rw [show (1000000000 : Int) - ((1000000000 : Nat) : Int) = 0 by omega]
    exact ht
  obtain ⟨m, h1, h2, h3⟩ := least_nat (P := fun n : Nat => takenB ws (1000000000 - (n : Int))) 1000000000 h0
  refine ⟨1000000000 - (m : Int), by omega, by omega, h2, fun q hq hc => ?_⟩
  by_cases z : q ≤ 1000000000 - (m : Int)
  · exact z
  · have h4 := h3 (1000000000 - q).toNat (by omega)
    rw [show (1000000000 : Int) - (((1000000000 - q).toNat : Nat) : Int) = q by omega] at h4
    rw [h4] at hc
    cases hc
theorem high_mem {ws : List Wish} {p : Int} (a : IsHigh ws p) : p ∈ (ws.map (·.limit) ++ [1000000000]) := by
  by_cases z : p = 1000000000
  · rw [z]; exact List.mem_append_right _ List.mem_cons_self
  · refine List.mem_append_left _ ?_
    by_cases y : ∃ w ∈ ws, w.limit = p
    · obtain ⟨w, hw, e⟩ := y
      rw [← e]
      exact List.mem_map_of_mem hw
    · have hn : ∀ w ∈ ws, w.limit ≠ p := fun w hw e => y ⟨w, hw, e⟩
      have h1 := wanted_step hn
      have h2 := offered_step hn
      have h3 : amountOf ws false (p - 1) ≤ amountOf ws true p := of_decide_eq_true a.tak
      have h0 := a.hi
      have h4 := a.most (p + 1) (by omega) (decide_eq_true (by
        show amountOf ws false (p + 1 - 1) ≤ amountOf ws true (p + 1)
        rw [Int.add_sub_cancel, ← h1, ← h2]
        exact h3))
      omega
theorem high_search {ws : List Wish} {p : Int} (a : IsHigh ws p) (h : Good ws) {lo : Nat} {x : Int} (hx : (sortI (ws.map (·.limit) ++ [1000000000]))[lo]? = some x) (hc : takenB ws x = true) (hn : ∀ i y, lo < i → (sortI (ws.map (·.limit) ++ [1000000000]))[i]? = some y → takenB ws y = false) : x = p := by
  have hs := sortI_sorted (ws.map (·.limit) ++ [1000000000])
  have hm : p ∈ sortI (ws.map (·.limit) ++ [1000000000]) := sortI_mem.mpr (high_mem a)
  obtain ⟨i, hi⟩ := List.mem_iff_getElem?.mp hm
  have hge : i ≤ lo := by
    by_cases z : i ≤ lo
    · exact z
    · have := hn i p (by omega) hi
      rw [a.tak] at this
      cases this
  have h1 := sorted_le hs hi hx hge
  have h0 : x ≤ 1000000000 := by
    have hxm : x ∈ (ws.map (·.limit) ++ [1000000000]) := sortI_mem.mp (List.mem_of_getElem? hx)
    rcases List.mem_append.mp hxm with e | e
    · obtain ⟨w, hw, rfl⟩ := List.mem_map.mp e
      exact (h w hw).2.1
    · rw [List.mem_singleton.mp e]
      omega
  exact Int.le_antisymm (a.most x h0 hc) h1
theorem low_high {ws : List Wish} {lo hi : Int} (h : Good ws) (a : IsLow ws lo) (b : IsHigh ws hi) : takenB ws lo = true ∧ coveredB ws hi = true ∧ lo ≤ hi := by
  have h1 : takenB ws lo = true := by
    by_cases z : lo = 0
    · rw [z]
      exact tak_low h fun w hw => (h w hw).1
    · have h0 := a.lo
      have hn : ¬ coveredB ws (lo - 1) = true := fun e => by
        have := a.least (lo - 1) (by omega) e
        omega
      refine decide_eq_true ?_
      show amountOf ws false (lo - 1) ≤ amountOf ws true lo
      by_cases y : amountOf ws false (lo - 1) ≤ amountOf ws true lo
      · exact y
      · exact absurd (decide_eq_true (by
          show amountOf ws true (lo - 1 + 1) ≤ amountOf ws false (lo - 1)
          rw [Int.sub_add_cancel]
          omega)) hn
  have h2 : coveredB ws hi = true := by
    by_cases z : hi = 1000000000
    · rw [z]
      exact cov_top h fun w hw => (h w hw).2.1
    · have h0 := b.hi
      have hn : ¬ takenB ws (hi + 1) = true := fun e => by
        have := b.most (hi + 1) (by omega) e
        omega
      refine decide_eq_true ?_
      show amountOf ws true (hi + 1) ≤ amountOf ws false hi
      by_cases y : amountOf ws true (hi + 1) ≤ amountOf ws false hi
      · exact y
      · exact absurd (decide_eq_true (by
          show amountOf ws false (hi + 1 - 1) ≤ amountOf ws true (hi + 1)
          rw [Int.add_sub_cancel]
          omega)) hn
  exact ⟨h1, h2, b.most lo a.hi h1⟩
/-- a price clears where it lies between both -/
theorem clears_iff {ws : List Wish} {lo hi p : Int} (h : Good ws) (a : IsLow ws lo) (b : IsHigh ws hi) (h0 : 0 ≤ p) (h1 : p ≤ 1000000000) : (coveredB ws p && takenB ws p) = true ↔ lo ≤ p ∧ p ≤ hi := by
  rw [Bool.and_eq_true]
  exact ⟨fun q => ⟨a.least p h0 q.1, b.most p h1 q.2⟩, fun q => ⟨covered_up h q.1 a.cov, taken_down h q.2 b.tak⟩⟩
def R_highest (c : Cs) (ds : List PyData) (o : Out) : Prop := ∃ ws p, ds = [wsD ws] ∧ o = .ret (.int p) ∧ Good ws ∧ ws.length ≤ 10000 ∧ IsHigh ws p
-- slots of highest: 0 wishes 1 limits 2 wish 3 low 4 high 5 middle
def t_highest (K : PySem.W.Frag) (c : Cs) (E : XK) : TS :=
  (tSeq (tAsg (tCB (rSortedI K) (tCons (tOp rCat (tLc (iList K (tVar 0)) (gName 2) tYes (tOp (rIxT K) (tVar 2) (tC (.int 1))) [2]) (tLst (tCons (tC (.int 1000000000)) tNil))) tNil)) (gName 1))
    (tSeq (tAsg (tC (.int 0)) (gName 3))
    (tSeq (tAsg (tOp rSubI (tCB (rLenSq K) (tCons (tVar 1) tNil)) (tC (.int 1))) (gName 4))
    (tSeq (tWhile (tTest (tOp rLtI (tVar 3) (tVar 4))) (tSeq (tAsg (tOp rDivI (tOp rAddI (tOp rAddI (tVar 3) (tVar 4)) (tC (.int 1))) (tC (.int 2))) (gName 5))
    (tIfS (tB (tCall (spD K (R_taken_up c)) [] E0 (tCons (tVar 0) (tCons (tOp (rIxL K) (tVar 1) (tVar 5)) tNil)))) (tAsg (tVar 5) (gName 3)) (tAsg (tOp rSubI (tVar 5) (tC (.int 1))) (gName 4)))))
    (tRet (tOp (rIxL K) (tVar 1) (tVar 3)))))))
theorem len_highest {c : Cs} : ∀ ds o, R_highest c ds o → ds.length = 1 := by
  intro ds o h
  grind (ematch := 14) (gen := 20) [R_highest]
theorem body_highest {K : PySem.W.Frag} {c : Cs} {E : XK} : ∀ ds o, R_highest c ds o → DS K E (t_highest K c E) (slots 6 ds) o.post := by
  rintro _ _ ⟨ws, p, rfl, rfl, hg, hl, a⟩
  unfold t_highest
  apply VS.q_let (d := intsD (sortI (ws.map (·.limit) ++ [1000000000])))
  · apply VS.de_new
    apply VS.dn_cb
    · apply VS.da_cons
      · apply VS.de_to
        · apply VS.de_new
          apply VS.dn_op
          · apply VS.de_new
            refine dn_limits hl (VS.de_var rfl) fun w => ?_
            walk_at "ev"
          · walk_at "ev"
          · exact VS.d2n_cat (ys := [.int 1000000000]) (by simp; omega)
        · show PyData.list _ = intsD (ws.map (·.limit) ++ [1000000000])
          simp
      · exact VS.da_nil
    · exact VS.dcn_sortI (ns := ws.map (·.limit) ++ [1000000000])
  generalize hL : sortI (ws.map (·.limit) ++ [1000000000]) = L
  have hLl : L.length = ws.length + 1 := by
    rw [← hL, sortI_len]
    simp
  apply VS.q_set
  · walk_at "ev"
  · rfl
  apply VS.q_set
  · walk_at "ev"
  · rfl
  apply VS.q_while (W := fun m es => ∃ (lo hi : Nat) (s s2 : Slot), es = [.val (wsD ws), .val (intsD L), s2, .val (.int (lo : Int)), .val (.int (hi : Int)), s] ∧ m = hi - lo ∧ lo ≤ hi ∧ hi < L.length ∧ (∀ x, L[lo]? = some x → takenB ws x = true) ∧ ∀ (i : Nat) y, hi < i → L[i]? = some y → takenB ws y = false) (m0 := L.length - 1)
  · refine ⟨0, L.length - 1, .no, .no, ?_, rfl, Nat.zero_le _, by omega, fun x hx => ?_, fun i y hi hy => ?_⟩
    · rw [List.length_map, show ((L.length : Nat) : Int) - 1 = ((L.length - 1 : Nat) : Int) by omega]
      rfl
    · refine tak_low hg fun w hw => ?_
      have hm : w.limit ∈ L := by
        rw [← hL]
        exact sortI_mem.mpr (List.mem_append_left _ (List.mem_map_of_mem hw))
      obtain ⟨i, hi⟩ := List.mem_iff_getElem?.mp hm
      exact sorted_le (by rw [← hL]; exact sortI_sorted _) hx hi (Nat.zero_le _)
    · have := (List.getElem?_eq_some_iff.mp hy).1
      omega
  · rintro m _ ⟨lo, hi, s, s2, rfl, rfl, h1, h2, h3, h4⟩
    refine ⟨decide ((lo : Int) < (hi : Int)), by walk_at "ev", fun hb => ?_, fun hb => ?_⟩
    · have hb := of_decide_eq_true hb
      have hmid : (((lo : Int) + (hi : Int) + 1) / 2) = (((lo + hi + 1) / 2 : Nat) : Int) := by omega
      have hml : (lo + hi + 1) / 2 < L.length := by omega
      apply VS.q_set (d := .int (((lo + hi + 1) / 2 : Nat) : Int))
      · rw [← hmid]
        walk_at "ev"
      · rfl
      generalize hmm : (lo + hi + 1) / 2 = mid at hml
      have hx : L[mid]? = some L[mid] := List.getElem?_eq_getElem hml
      apply VS.ds_if (b := takenB ws L[mid])
      · apply VS.dt_B
        apply VS.de_call
        · apply VS.da_cons
          · walk_at "ev"
          · apply VS.da_cons
            · apply VS.de_op
              · walk_at "ev"
              · walk_at "ev"
              · exact VS.d2_ixL (atI_map hx)
            · walk_at "ev"
        · walk_at "ev"
      · intro hc
        apply VS.ds_set
        · walk_at "ev"
        · rfl
        · exact ⟨hi - mid, by omega, mid, hi, _, _, rfl, rfl, by omega, h2, fun x h => by rw [hx] at h; cases h; exact hc, h4⟩
      · intro hc
        apply VS.ds_set (d := .int ((mid - 1 : Nat) : Int))
        · rw [show ((mid - 1 : Nat) : Int) = (mid : Int) - 1 by omega]
          walk_at "ev"
        · rfl
        · refine ⟨mid - 1 - lo, by omega, lo, mid - 1, _, _, rfl, rfl, by omega, by omega, h3, fun i y hi' hy => ?_⟩
          cases e : takenB ws y with
          | false => rfl
          | true =>
            have hle : L[mid] ≤ y := sorted_le (by rw [← hL]; exact sortI_sorted _) hx hy (by omega)
            rw [taken_down hg hle e] at hc
            cases hc
    · have hb := of_decide_eq_false hb
      have e : lo = hi := by omega
      subst e
      have hx : L[lo]? = some L[lo] := List.getElem?_eq_getElem h2
      apply VS.ds_ret
      · apply VS.de_op
        · walk_at "ev"
        · walk_at "ev"
        · exact VS.d2_ixL (atI_map hx)
      · refine VS.post_ret ?_
        rw [high_search a hg (lo := lo) (x := L[lo]) (by rw [hL]; exact hx) (h3 _ hx) (by rw [hL]; exact h4)]

def R_price_by (c : Cs) (ds : List PyData) (o : Out) : Prop := ∃ ws d, ds = [wsD ws, d] ∧ notScr d = true ∧ Good ws ∧ ws.length ≤ 10000 ∧
  ((wholeIn d 0 1000000000 = false ∧ o = .exc c.BadPrice) ∨ ∃ old lo hi, d = .int old ∧ 0 ≤ old ∧ old ≤ 1000000000 ∧ IsLow ws lo ∧ IsHigh ws hi ∧ o = .ret (.int (max lo (min old hi))))
-- slots of price_by: 0 wishes 1 old
def t_price_by (K : PySem.W.Frag) (c : Cs) (E : XK) : TS :=
  (tSeq (tDrop (tCall (spD K (R_checked_price c)) [] E (tCons (tVar 1) tNil)))
    (tRet (tCB rMax2 (tCons (tCall (spD K (R_lowest c)) [] E0 (tCons (tVar 0) tNil)) (tCons (tCB rMin2 (tCons (tVar 1) (tCons (tCall (spD K (R_highest c)) [] E0 (tCons (tVar 0) tNil)) tNil))) tNil)))))
theorem len_price_by {c : Cs} : ∀ ds o, R_price_by c ds o → ds.length = 2 := by
  rintro _ _ ⟨ws, d, rfl, _⟩
  rfl
theorem body_price_by {K : PySem.W.Frag} {c : Cs} {E : XK} : ∀ ds o, R_price_by c ds o → DS K E (t_price_by K c E) (slots 2 ds) o.post := by
  rintro _ o ⟨ws, d, rfl, hn, hg, hl, ho⟩
  unfold t_price_by
  rcases ho with ⟨hb, rfl⟩ | ⟨old, lo, hi, rfl, h0, h1, a, b, rfl⟩
  · apply VS.ds_seq
    apply VS.ds_dropX
    · apply VS.dx_call
      · walk_at "ev"
      · exact checked_price_bad hb hn
    · rfl
  · apply VS.q_drop
    · apply VS.de_call
      · walk_at "ev"
      · exact checked_price_int ⟨h0, h1⟩
    apply VS.ds_ret
    · apply VS.de_cb
      · apply VS.da_cons
        · apply VS.de_call
          · walk_at "ev"
          · exact ⟨ws, lo, rfl, rfl, hg, hl, a⟩
        · apply VS.da_cons
          · apply VS.de_cb
            · apply VS.da_cons
              · walk_at "ev"
              · apply VS.da_cons
                · apply VS.de_call
                  · walk_at "ev"
                  · exact ⟨ws, hi, rfl, rfl, hg, hl, b⟩
                · exact VS.da_nil
            · exact VS.dc_min2
          · exact VS.da_nil
      · exact VS.dc_max2
    · exact VS.post_ret rfl

def cellAt (ns : List Int) (k : Int) : Int := ns.getD k.toNat 0
def R__law_cell_at (c : Cs) (ds : List PyData) (o : Out) : Prop := ∃ ns k, ds = [scrD ns, .int k] ∧ o = .ret (.int (cellAt ns k)) ∧ 0 ≤ k
-- slots of _law_cell_at: 0 _law_script 1 _law_k
def t__law_cell_at (K : PySem.W.Frag) (c : Cs) (E : XK) : TS :=
  (tSeq (tIfS (tTest (tOp rLtI (tVar 1) (tCB (rLenSq K) (tCons (tVar 0) tNil)))) (tRet (tOp (rIxL K) (tVar 0) (tVar 1))) tNext)
    (tRet (tC (.int 0))))
theorem len__law_cell_at {c : Cs} : ∀ ds o, R__law_cell_at c ds o → ds.length = 2 := by
  intro ds o h
  grind (ematch := 14) (gen := 20) [R__law_cell_at]
theorem body__law_cell_at {K : PySem.W.Frag} {c : Cs} {E : XK} : ∀ ds o, R__law_cell_at c ds o → DS K E (t__law_cell_at K c E) (slots 2 ds) o.post := by
  rintro _ _ ⟨ns, k, rfl, rfl, h0⟩
  unfold t__law_cell_at
  apply VS.q_if
  · walk_at "ev"
  · intro hb
    have hk : k.toNat < ns.length := by
      have h := of_decide_eq_true hb
      omega
    apply VS.ds_ret
    · apply VS.de_op
      · walk_at "ev"
      · walk_at "ev"
      · exact VS.d2_ixC (Eq.trans (congrArg (atI ns) (Int.toNat_of_nonneg h0).symm) (atI_nat (List.getElem?_eq_getElem hk)))
    · exact VS.post_ret (by unfold cellAt; rw [List.getD_eq_getElem?_getD, List.getElem?_eq_getElem hk]; rfl)
  · intro hb
    have hk : ns.length ≤ k.toNat := by
      have h := of_decide_eq_false hb
      omega
    apply VS.ds_ret
    · walk_at "ev"
    · exact VS.post_ret (by unfold cellAt; rw [List.getD_eq_getElem?_getD, List.getElem?_eq_none hk]; rfl)

def R__law_whole (c : Cs) (ds : List PyData) (o : Out) : Prop := ∃ d, ds = [d] ∧ o = .ret (.bool (isInt d)) ∧ notScr d = true
-- slots of _law_whole: 0 _law_thing
def t__law_whole (K : PySem.W.Frag) (c : Cs) (E : XK) : TS :=
  (tRet (tAndV (tCB (rIsi K) (tCons (tVar 0) (tCons (tC (.ty "int")) tNil))) (tNotV (tCB (rIsi K) (tCons (tVar 0) (tCons (tC (.ty "bool")) tNil))))))
theorem len__law_whole {c : Cs} : ∀ ds o, R__law_whole c ds o → ds.length = 1 := by
  intro ds o h
  grind (ematch := 14) (gen := 20) [R__law_whole]
theorem body__law_whole {K : PySem.W.Frag} {c : Cs} {E : XK} : ∀ ds o, R__law_whole c ds o → DS K E (t__law_whole K c E) (slots 1 ds) o.post := by
  rintro _ _ ⟨d, rfl, rfl, hn⟩
  unfold t__law_whole
  apply VS.ds_ret
  · apply VS.de_andV
    · exact VS.de_isiU (VS.de_var rfl) hn (kit_int d)
    · intro _
      apply VS.de_notV
      exact VS.de_isiU (VS.de_var rfl) hn (kit_bool d)
  · exact VS.post_ret (by rw [isInt_ty])

def wbFar (cell : Int) : Int := cell * 48271 % 2147483647
def wbL0 (far : Int) : Int := 20 + far / 7 % 9
def wbL1 (cell far : Int) : Int := if far % 7 = 1 then cell * 69621 % 2147483629 % 1000000001 else wbL0 far
def wbL2 (cell far : Int) : Int := if far % 7 = 2 then [0, 1, 999999999, 1000000000].getD (far / 7 % 4).toNat 0 else wbL1 cell far
def wbA0 (far : Int) : Int := 1 + far / 63 % 6
def wbA1 (cell far : Int) : Int := if far / 63 % 5 = 1 then 1 + cell * 40692 % 2147483399 % 1000000 else wbA0 far
def wbA2 (cell far : Int) : Int := if far / 63 % 10 = 2 then 1000000 else wbA1 cell far
def wishBy (cell : Int) : Wish := ⟨!decide (cell % 2 = 1), wbL2 cell (wbFar cell), wbA2 cell (wbFar cell)⟩
theorem wishBy_good (cell : Int) : (wishBy cell).good := by
  unfold wishBy Wish.good
  generalize wbFar cell = far
  have h1 : 0 ≤ wbL2 cell far ∧ wbL2 cell far ≤ 1000000000 := by
    unfold wbL2 wbL1 wbL0
    split
    · have h : (far / 7 % 4).toNat < 4 := by omega
      generalize (far / 7 % 4).toNat = n at h
      match n, h with
      | 0, _ => decide
      | 1, _ => decide
      | 2, _ => decide
      | 3, _ => decide
    · split <;> omega
  have h2 : 1 ≤ wbA2 cell far ∧ wbA2 cell far ≤ 1000000 := by
    unfold wbA2 wbA1 wbA0
    split
    · decide
    · split <;> omega
  exact ⟨h1.1, h1.2, h2.1, h2.2⟩
def R__law_wish_by (c : Cs) (ds : List PyData) (o : Out) : Prop := ∃ cell, ds = [.int cell] ∧ o = .ret (wishD (wishBy cell))
-- slots of _law_wish_by: 0 _law_cell 1 _law_side_here 2 _law_far 3 _law_limit 4 _law_amount
def t__law_wish_by (K : PySem.W.Frag) (c : Cs) (E : XK) : TS :=
  (tSeq (tAsg (tC (.str "buy")) (gName 1))
    (tSeq (tIfS (tTest (tOp rEq (tOp rModI (tVar 0) (tC (.int 2))) (tC (.int 1)))) (tAsg (tC (.str "sell")) (gName 1)) tNext)
    (tSeq (tAsg (tOp rModI (tOp rMulI (tVar 0) (tC (.int 48271))) (tC (.int 2147483647))) (gName 2))
    (tSeq (tAsg (tOp rAddI (tC (.int 20)) (tOp rModI (tOp rDivI (tVar 2) (tC (.int 7))) (tC (.int 9)))) (gName 3))
    (tSeq (tIfS (tTest (tOp rEq (tOp rModI (tVar 2) (tC (.int 7))) (tC (.int 1)))) (tAsg (tOp rModI (tOp rModI (tOp rMulI (tVar 0) (tC (.int 69621))) (tC (.int 2147483629))) (tC (.int 1000000001))) (gName 3)) tNext)
    (tSeq (tIfS (tTest (tOp rEq (tOp rModI (tVar 2) (tC (.int 7))) (tC (.int 2)))) (tAsg (tOp (rIxL K) (tLst (tCons (tC (.int 0)) (tCons (tC (.int 1)) (tCons (tC (.int 999999999)) (tCons (tC (.int 1000000000)) tNil))))) (tOp rModI (tOp rDivI (tVar 2) (tC (.int 7))) (tC (.int 4)))) (gName 3)) tNext)
    (tSeq (tAsg (tOp rAddI (tC (.int 1)) (tOp rModI (tOp rDivI (tVar 2) (tC (.int 63))) (tC (.int 6)))) (gName 4))
    (tSeq (tIfS (tTest (tOp rEq (tOp rModI (tOp rDivI (tVar 2) (tC (.int 63))) (tC (.int 5))) (tC (.int 1)))) (tAsg (tOp rAddI (tC (.int 1)) (tOp rModI (tOp rModI (tOp rMulI (tVar 0) (tC (.int 40692))) (tC (.int 2147483399))) (tC (.int 1000000)))) (gName 4)) tNext)
    (tSeq (tIfS (tTest (tOp rEq (tOp rModI (tOp rDivI (tVar 2) (tC (.int 63))) (tC (.int 10))) (tC (.int 2)))) (tAsg (tC (.int 1000000)) (gName 4)) tNext)
    (tRet (tTup (tCons (tVar 1) (tCons (tVar 3) (tCons (tVar 4) tNil))))))))))))))
theorem len__law_wish_by {c : Cs} : ∀ ds o, R__law_wish_by c ds o → ds.length = 1 := by
  intro ds o h
  grind (ematch := 14) (gen := 20) [R__law_wish_by]
theorem body__law_wish_by {K : PySem.W.Frag} {c : Cs} {E : XK} : ∀ ds o, R__law_wish_by c ds o → DS K E (t__law_wish_by K c E) (slots 5 ds) o.post := by
  rintro _ _ ⟨cell, rfl, rfl⟩
  unfold t__law_wish_by
  apply VS.q_set
  · walk_at "ev"
  · rfl
  apply VS.q_ifset (d := .str (sideS (!decide (cell % 2 = 1))))
  · walk_at "ev"
  · intro hb
    rw [hb]
    exact VS.de_str
  · rfl
  · intro hb
    rw [hb]
    rfl
  apply VS.q_set (d := .int (wbFar cell))
  · unfold wbFar
    walk_at "ev"
  · rfl
  generalize hfar : wbFar cell = far
  apply VS.q_set (d := .int (wbL0 far))
  · unfold wbL0
    walk_at "ev"
  · rfl
  apply VS.q_ifset (d := .int (wbL1 cell far))
  · walk_at "ev"
  · intro hb
    unfold wbL1
    rw [if_pos (of_decide_eq_true hb)]
    walk_at "ev"
  · rfl
  · intro hb
    unfold wbL1
    rw [if_neg (of_decide_eq_false hb)]
    rfl
  apply VS.q_ifset (d := .int (wbL2 cell far))
  · walk_at "ev"
  · intro hb
    unfold wbL2
    rw [if_pos (of_decide_eq_true hb)]
    apply VS.de_op
    · apply VS.de_new
      walk_at "ev"
    · walk_at "ev"
    · exact VS.d2_ixL (atI_getD (f := PyData.int) (xs := [0, 1, 999999999, 1000000000]) 0 (by omega) (by show _ < (4 : Int); omega))
  · rfl
  · intro hb
    unfold wbL2
    rw [if_neg (of_decide_eq_false hb)]
    rfl
  apply VS.q_set (d := .int (wbA0 far))
  · unfold wbA0
    walk_at "ev"
  · rfl
  apply VS.q_ifset (d := .int (wbA1 cell far))
  · walk_at "ev"
  · intro hb
    unfold wbA1
    rw [if_pos (of_decide_eq_true hb)]
    walk_at "ev"
  · rfl
  · intro hb
    unfold wbA1
    rw [if_neg (of_decide_eq_false hb)]
    rfl
  apply VS.q_ifset (d := .int (wbA2 cell far))
  · walk_at "ev"
  · intro hb
    unfold wbA2
    rw [if_pos (of_decide_eq_true hb)]
    walk_at "ev"
  · rfl
  · intro hb
    unfold wbA2
    rw [if_neg (of_decide_eq_false hb)]
    rfl
  apply VS.ds_ret
  · walk_at "ev"
  · exact VS.post_ret (by unfold wishBy wishD; rw [hfar])

def wishesTail (ns : List Int) (n : Nat) : List Wish := (List.range n).map fun k : Nat => wishBy (cellAt ns 1 + 8191 * ((k : Nat) : Int))
def wishesBy (ns : List Int) (first few : Int) : List Wish := (cut ns (some first) (some (first + few))).map wishBy ++ (if cellAt ns 0 % 8 = 5 then wishesTail ns (20 + cellAt ns 1 % 30).toNat else [])
theorem wishesBy_good (ns : List Int) (first few : Int) : ∀ w ∈ wishesBy ns first few, w.good := by
  intro w hw
  unfold wishesBy at hw
  rcases List.mem_append.mp hw with h | h
  · obtain ⟨x, _, rfl⟩ := List.mem_map.mp h
    exact wishBy_good x
  · split at h
    · obtain ⟨x, _, rfl⟩ := List.mem_map.mp h
      exact wishBy_good _
    · cases h
theorem wishesBy_len (ns : List Int) (first few : Int) (h : ns.length ≤ 63) : (wishesBy ns first few).length ≤ 112 := by
  unfold wishesBy
  rw [List.length_append, List.length_map]
  have h1 := cut_len ns (some first) (some (first + few))
  split
  · unfold wishesTail
    rw [List.length_map, List.length_range]
    omega
  · rw [List.length_nil]
    omega
def R__law_wishes_by (c : Cs) (ds : List PyData) (o : Out) : Prop := ∃ ns first few, ds = [scrD ns, .int first, .int few] ∧ o = .ret (wsD (wishesBy ns first few)) ∧ ns.length ≤ 63
-- slots of _law_wishes_by: 0 _law_script 1 _law_first 2 _law_few 3 _law_many 4 _law_wishes 5 _law_cell 6 _law_k
def t__law_wishes_by (K : PySem.W.Frag) (c : Cs) (E : XK) : TS :=
  (tSeq (tAsg (tVar 2) (gName 3))
    (tSeq (tIfS (tTest (tOp rGtI (tCB (rLenSq K) (tCons (tVar 0) tNil)) (tC (.int 63)))) (tAsg (tC (.int 150)) (gName 3)) tNext)
    (tSeq (tAsg (tLc (iList K (tSl (rSlL K) (tVar 0) (tPart (tVar 1)) (tPart (tOp rAddI (tVar 1) (tVar 3))))) (gName 5) tYes (tCall (spD K (R__law_wish_by c)) [] E0 (tCons (tVar 5) tNil)) [5]) (gName 4))
    (tSeq (tIfS (tTest (tOp rEq (tOp rModI (tCall (spD K (R__law_cell_at c)) [] E0 (tCons (tVar 0) (tCons (tC (.int 0)) tNil))) (tC (.int 8))) (tC (.int 5)))) (tFor (iRng1 (tCons (tOp rAddI (tC (.int 20)) (tOp rModI (tCall (spD K (R__law_cell_at c)) [] E0 (tCons (tVar 0) (tCons (tC (.int 1)) tNil))) (tC (.int 30)))) tNil)) (gName 6) (tDrop (tBM K "list" rAppend (tVar 4) (tCons (tCall (spD K (R__law_wish_by c)) [] E0 (tCons (tOp rAddI (tCall (spD K (R__law_cell_at c)) [] E0 (tCons (tVar 0) (tCons (tC (.int 1)) tNil))) (tOp rMulI (tC (.int 8191)) (tVar 6))) tNil)) tNil)))) tNext)
    (tRet (tVar 4))))))
theorem len__law_wishes_by {c : Cs} : ∀ ds o, R__law_wishes_by c ds o → ds.length = 3 := by
  intro ds o h
  grind (ematch := 14) (gen := 20) [R__law_wishes_by]
theorem body__law_wishes_by {K : PySem.W.Frag} {c : Cs} {E : XK} : ∀ ds o, R__law_wishes_by c ds o → DS K E (t__law_wishes_by K c E) (slots 7 ds) o.post := by
  rintro _ _ ⟨ns, first, few, rfl, rfl, hlen⟩
  unfold t__law_wishes_by
  apply VS.q_set
  · walk_at "ev"
  · rfl
  apply VS.q_guard
  · refine VS.dt_to (b := decide ((63 : Int) < ((ns.length : Nat) : Int))) ?_ (decide_eq_false (by omega))
    walk_at "ev"
  apply VS.q_new (xs := ((cut ns (some first) (some (first + few))).map wishBy).map wishD)
  · have h := VS.dn_lcL (K := K) (ds := frz ((slots 7 [scrD ns, PyData.int first, PyData.int few]).set 3 (.val (.int few)))) (te := tCall (spD K (R__law_wish_by c)) [] E0 (tCons (tVar 5) tNil)) (tl := tSl (rSlL K) (tVar 0) (tPart (tVar 1)) (tPart (tOp rAddI (tVar 1) (tVar 3)))) (t := tYes) (j := 5) (xs := (cut ns (some first) (some (first + few))).map PyData.int) (fun _ => true)
      (fun d => match d with | .int i => wishD (wishBy i) | _ => .none) (by
        apply VS.de_new
        walk_at "ev") (by
        rw [List.length_map]
        have := cut_len ns (some first) (some (first + few))
        omega) (fun x _ => VS.dt_yes) (fun x hx _ => by
        obtain ⟨i, _, rfl⟩ := List.mem_map.mp hx
        apply VS.de_call
        · apply VS.da_cons
          · exact VS.de_var rfl
          · exact VS.da_nil
        · exact ⟨i, rfl, rfl⟩)
    rw [VS.lcOf_all, List.map_map] at h
    rw [List.map_map]
    exact h
  generalize hb0 : (cut ns (some first) (some (first + few))).map wishBy = base
  have hbl : base.length ≤ 63 := by
    rw [← hb0, List.length_map]
    exact Nat.le_trans (cut_len _ _ _) hlen
  apply VS.ds_seq
  apply VS.ds_if
  · walk_at "ev"
  · intro hb
    apply VS.ds_forR1 (n := 20 + cellAt ns 1 % 30) (W := fun k es => ∃ s, es = [.val (scrD ns), .val (.int first), .val (.int few), .val (.int few), .own ((base ++ wishesTail ns k).map wishD), .no, s])
    · walk_at "ev"
    · omega
    · exact ⟨.no, by rw [show wishesTail ns 0 = [] from rfl, List.append_nil]; rfl⟩
    · rintro k _ hk ⟨s, rfl⟩
      apply VS.ds_appV
      · walk_at "ev"
      · rfl
      · rw [List.length_map, List.length_append]
        unfold wishesTail
        rw [List.length_map, List.length_range]
        omega
      · refine ⟨.val (.int (k : Int)), ?_⟩
        have e : wishesTail ns (k + 1) = wishesTail ns k ++ [wishBy (cellAt ns 1 + 8191 * (k : Int))] := by
          unfold wishesTail
          rw [List.range_succ, List.map_append]
          rfl
        rw [e]
        simp
    · rintro _ ⟨s, rfl⟩
      show DS K E _ _ _
      apply VS.ds_ret
      · walk_at "ev"
      · refine VS.post_ret ?_
        unfold wishesBy
        rw [if_pos (of_decide_eq_true hb), hb0]
    · omega
  · intro hb
    apply VS.ds_next
    show DS K E _ _ _
    apply VS.ds_ret
    · walk_at "ev"
    · refine VS.post_ret ?_
      unfold wishesBy
      rw [if_neg (of_decide_eq_false hb), hb0, List.append_nil]

def pickAt (ws : List Wish) (i : Int) : Wish := ws.getD (i % (ws.length : Int)).toNat ⟨true, 0, 1⟩
theorem d2_pick {K : PySem.W.Frag} {ws : List Wish} {i : Int} (h : 0 < ws.length) : D2 K (rIxL K) (wsD ws) (.int (i % (ws.length : Int))) (wishD (pickAt ws i)) := by
  refine VS.d2_ixL (atI_getD (f := wishD) (xs := ws) ⟨true, 0, 1⟩ ?_ ?_)
  · exact Int.emod_nonneg _ (by omega)
  · exact Int.emod_lt_of_pos _ (by omega)
def pbP0 (other : Int) : Int := 18 + other % 13
def pbP1 (cell other : Int) : Int := if cell % 5 = 1 then other * 16807 % 2147483647 % 1000000001 else pbP0 other
def pbP2 (cell other : Int) : Int := if cell % 5 = 2 then [0, 1, 999999999, 1000000000].getD (other % 4).toNat 0 else pbP1 cell other
def pbP3 (ws : List Wish) (cell other : Int) : Int := if (decide (3 ≤ cell % 5) && decide ((0 : Int) < (ws.length : Int))) = true then (pickAt ws other).limit + cell / 5 % 3 - 1 else pbP2 cell other
def priceArg (ws : List Wish) (cell other : Int) : Int := max 0 (min 1000000000 (pbP3 ws cell other))
theorem priceArg_ok (ws : List Wish) (cell other : Int) : 0 ≤ priceArg ws cell other ∧ priceArg ws cell other ≤ 1000000000 := by
  unfold priceArg
  omega
def R__law_price_by (c : Cs) (ds : List PyData) (o : Out) : Prop := ∃ ws cell other, ds = [wsD ws, .int cell, .int other] ∧ o = .ret (.int (priceArg ws cell other))
-- slots of _law_price_by: 0 _law_wishes 1 _law_cell 2 _law_other 3 _law_price
def t__law_price_by (K : PySem.W.Frag) (c : Cs) (E : XK) : TS :=
  (tSeq (tAsg (tOp rAddI (tC (.int 18)) (tOp rModI (tVar 2) (tC (.int 13)))) (gName 3))
    (tSeq (tIfS (tTest (tOp rEq (tOp rModI (tVar 1) (tC (.int 5))) (tC (.int 1)))) (tAsg (tOp rModI (tOp rModI (tOp rMulI (tVar 2) (tC (.int 16807))) (tC (.int 2147483647))) (tC (.int 1000000001))) (gName 3)) tNext)
    (tSeq (tIfS (tTest (tOp rEq (tOp rModI (tVar 1) (tC (.int 5))) (tC (.int 2)))) (tAsg (tOp (rIxL K) (tLst (tCons (tC (.int 0)) (tCons (tC (.int 1)) (tCons (tC (.int 999999999)) (tCons (tC (.int 1000000000)) tNil))))) (tOp rModI (tVar 2) (tC (.int 4)))) (gName 3)) tNext)
    (tSeq (tIfS (tAnd (tTest (tOp rGeI (tOp rModI (tVar 1) (tC (.int 5))) (tC (.int 3)))) (tTest (tOp rGtI (tCB (rLenSq K) (tCons (tVar 0) tNil)) (tC (.int 0))))) (tAsg (tOp rSubI (tOp rAddI (tOp (rIxT K) (tOp (rIxL K) (tVar 0) (tOp rModI (tVar 2) (tCB (rLenSq K) (tCons (tVar 0) tNil)))) (tC (.int 1))) (tOp rModI (tOp rDivI (tVar 1) (tC (.int 5))) (tC (.int 3)))) (tC (.int 1))) (gName 3)) tNext)
    (tRet (tCB rMax2 (tCons (tC (.int 0)) (tCons (tCB rMin2 (tCons (tC (.int 1000000000)) (tCons (tVar 3) tNil))) tNil))))))))
theorem len__law_price_by {c : Cs} : ∀ ds o, R__law_price_by c ds o → ds.length = 3 := by
  intro ds o h
  grind (ematch := 14) (gen := 20) [R__law_price_by]
theorem body__law_price_by {K : PySem.W.Frag} {c : Cs} {E : XK} : ∀ ds o, R__law_price_by c ds o → DS K E (t__law_price_by K c E) (slots 4 ds) o.post := by
  rintro _ _ ⟨ws, cell, other, rfl, rfl⟩
  unfold t__law_price_by
  apply VS.q_set (d := .int (pbP0 other))
  · unfold pbP0
    walk_at "ev"
  · rfl
  apply VS.q_ifset (d := .int (pbP1 cell other))
  · walk_at "ev"
  · intro hb
    unfold pbP1
    rw [if_pos (of_decide_eq_true hb)]
    walk_at "ev"
  · rfl
  · intro hb
    unfold pbP1
    rw [if_neg (of_decide_eq_false hb)]
    rfl
  apply VS.q_ifset (d := .int (pbP2 cell other))
  · walk_at "ev"
  · intro hb
    unfold pbP2
    rw [if_pos (of_decide_eq_true hb)]
    apply VS.de_op
    · apply VS.de_new
      walk_at "ev"
    · walk_at "ev"
    · exact VS.d2_ixL (atI_getD (f := PyData.int) (xs := [0, 1, 999999999, 1000000000]) 0 (by omega) (by show _ < (4 : Int); omega))
  · rfl
  · intro hb
    unfold pbP2
    rw [if_neg (of_decide_eq_false hb)]
    rfl
  apply VS.q_ifset (d := .int (pbP3 ws cell other))
  · walk_at "ev"
  · intro hb
    rw [List.length_map] at hb
    unfold pbP3
    rw [if_pos hb]
    have hl : 0 < ws.length := by
      have h := (Bool.and_eq_true_iff.mp hb).2
      have h := of_decide_eq_true h
      omega
    have hm : D2 K rModI (.int other) (.int (((ws.map wishD).length : Nat) : Int)) (.int (other % (ws.length : Int))) := by
      rw [List.length_map]
      exact VS.d2_mod (by omega)
    apply VS.de_op
    · apply VS.de_op
      · apply VS.de_op
        · apply VS.de_op
          · walk_at "ev"
          · apply VS.de_op
            · walk_at "ev"
            · walk_at "ev"
            · exact hm
          · exact d2_pick hl
        · walk_at "ev"
        · exact VS.d2_ixT rfl
      · walk_at "ev"
      · exact VS.d2_add
    · walk_at "ev"
    · exact VS.d2_sub
  · rfl
  · intro hb
    rw [List.length_map] at hb
    unfold pbP3
    rw [if_neg (by rw [hb]; decide)]
    rfl
  apply VS.ds_ret
  · walk_at "ev"
  · exact VS.post_ret rfl

def pbFar (cell : Int) (k : Nat) : Int := (cell + 7919 * (k : Int)) * 48271 % 2147483647
def pb0 (far a : Int) : Int := far / 7 % (a + 1)
def pb1 (far a : Int) : Int := if far % 7 < 2 then 0 else pb0 far a
def pb2 (far a : Int) : Int := if (decide (far % 7 = 2) || decide (far % 7 = 3)) = true then a else pb1 far a
def pieceBy (ws : List Wish) (cell : Int) (k : Nat) : Int := pb2 (pbFar cell k) (amtAt ws k)
def piecesBy (ws : List Wish) (cell : Int) : List Int := (List.range ws.length).map (pieceBy ws cell)
theorem piecesBy_ok {ws : List Wish} (hg : ∀ w ∈ ws, w.good) (cell : Int) : PiecesOk ws (piecesBy ws cell) := by
  refine ⟨by unfold piecesBy; rw [List.length_map, List.length_range], fun k hk => ?_⟩
  have e : pAt (piecesBy ws cell) k = pieceBy ws cell k := by
    unfold pAt piecesBy
    rw [List.getD_eq_getElem?_getD, List.getElem?_map, List.getElem?_range hk]
    rfl
  rw [e]
  have ha : 1 ≤ amtAt ws k := (hg _ (wAt_mem hk)).2.2.1
  unfold pieceBy pb2 pb1 pb0
  generalize pbFar cell k = far
  generalize amtAt ws k = a at ha
  split
  · omega
  · split
    · omega
    · have h1 := Int.emod_nonneg (far / 7) (b := a + 1) (by omega)
      have h2 := Int.emod_lt_of_pos (far / 7) (b := a + 1) (by omega)
      omega
def R__law_pieces_by (c : Cs) (ds : List PyData) (o : Out) : Prop := ∃ ws cell, ds = [wsD ws, .int cell] ∧ o = .ret (intsD (piecesBy ws cell)) ∧ (∀ w ∈ ws, w.good) ∧ ws.length ≤ 10000
-- slots of _law_pieces_by: 0 _law_wishes 1 _law_cell 2 _law_pieces 3 _law_k 4 _law_far 5 _law_many
def t__law_pieces_by (K : PySem.W.Frag) (c : Cs) (E : XK) : TS :=
  (tSeq (tAsg (tLst tNil) (gName 2))
    (tSeq (tFor (iRng1 (tCons (tCB (rLenSq K) (tCons (tVar 0) tNil)) tNil)) (gName 3) (tSeq (tAsg (tOp rModI (tOp rMulI (tOp rAddI (tVar 1) (tOp rMulI (tC (.int 7919)) (tVar 3))) (tC (.int 48271))) (tC (.int 2147483647))) (gName 4))
    (tSeq (tAsg (tOp rModI (tOp rDivI (tVar 4) (tC (.int 7))) (tOp rAddI (tOp (rIxT K) (tOp (rIxL K) (tVar 0) (tVar 3)) (tC (.int 2))) (tC (.int 1)))) (gName 5))
    (tSeq (tIfS (tTest (tOp rLtI (tOp rModI (tVar 4) (tC (.int 7))) (tC (.int 2)))) (tAsg (tC (.int 0)) (gName 5)) tNext)
    (tSeq (tIfS (tOr (tTest (tOp rEq (tOp rModI (tVar 4) (tC (.int 7))) (tC (.int 2)))) (tTest (tOp rEq (tOp rModI (tVar 4) (tC (.int 7))) (tC (.int 3))))) (tAsg (tOp (rIxT K) (tOp (rIxL K) (tVar 0) (tVar 3)) (tC (.int 2))) (gName 5)) tNext)
    (tDrop (tBM K "list" rAppend (tVar 2) (tCons (tVar 5) tNil))))))))
    (tRet (tVar 2))))
theorem len__law_pieces_by {c : Cs} : ∀ ds o, R__law_pieces_by c ds o → ds.length = 2 := by
  intro ds o h
  grind (ematch := 14) (gen := 20) [R__law_pieces_by]
theorem body__law_pieces_by {K : PySem.W.Frag} {c : Cs} {E : XK} : ∀ ds o, R__law_pieces_by c ds o → DS K E (t__law_pieces_by K c E) (slots 6 ds) o.post := by
  rintro _ _ ⟨ws, cell, rfl, rfl, hg, hl⟩
  unfold t__law_pieces_by
  apply VS.q_new
  · walk_at "ev"
  apply VS.q_forR1 (n := (ws.length : Int)) (W := fun k es => ∃ s3 s4 s5, es = [.val (wsD ws), .val (.int cell), .own (((List.range k).map (pieceBy ws cell)).map PyData.int), s3, s4, s5])
  · refine VS.da_cons (VS.de_to (VS.de_cb (by walk_at "ev") VS.dc_len) (by rw [List.length_map])) VS.da_nil
  · omega
  · exact ⟨.no, .no, .no, rfl⟩
  · rintro k _ hk ⟨s3, s4, s5, rfl⟩
    have hk' : k < ws.length := by omega
    have hw := wAt_get hk'
    have ha : 1 ≤ amtAt ws k := (hg _ (wAt_mem hk')).2.2.1
    have hamt : amtAt ws k = (wAt ws k).amount := rfl
    apply VS.q_set (d := .int (pbFar cell k))
    · unfold pbFar
      walk_at "ev"
    · rfl
    generalize hfar : pbFar cell k = far
    apply VS.q_set (d := .int (pb0 far (amtAt ws k)))
    · unfold pb0
      refine VS.de_op (by walk_at "ev") (VS.de_op ?_ VS.de_int VS.d2_add) (VS.d2_mod (by omega))
      rw [hamt]
      walk_at "ev"
    · rfl
    apply VS.q_ifset (d := .int (pb1 far (amtAt ws k)))
    · walk_at "ev"
    · intro hb
      unfold pb1
      rw [if_pos (of_decide_eq_true hb)]
      walk_at "ev"
    · rfl
    · intro hb
      unfold pb1
      rw [if_neg (of_decide_eq_false hb)]
      rfl
    apply VS.q_ifset (d := .int (pb2 far (amtAt ws k)))
    · walk_at "ev"
    · intro hb
      unfold pb2
      rw [if_pos hb, hamt]
      walk_at "ev"
    · rfl
    · intro hb
      unfold pb2
      rw [if_neg (by rw [hb]; decide)]
      rfl
    apply VS.ds_app
    · walk_at "ev"
    · rfl
    · rfl
    · rw [List.length_map, List.length_map, List.length_range]
      omega
    · refine ⟨.val (.int (k : Int)), .val (.int far), .val (.int (pb2 far (amtAt ws k))), ?_⟩
      rw [List.range_succ, List.map_append, List.map_append, ← hfar]
      rfl
  · rintro _ ⟨s3, s4, s5, rfl⟩
    rw [Int.toNat_natCast]
    apply VS.ds_ret
    · walk_at "ev"
    · exact VS.post_ret rfl

def R__law_side (c : Cs) (ds : List PyData) (o : Out) : Prop := ∃ ws ps b, ds = [wsD ws, intsD ps, .str (sideS b)] ∧ o = .ret (.int (sideOf ws ps b)) ∧ ps.length = ws.length ∧ ws.length ≤ 10000
-- slots of _law_side: 0 _law_wishes 1 _law_pieces 2 _law_side_here 3 _law_k
def t__law_side (K : PySem.W.Frag) (c : Cs) (E : XK) : TS :=
  (tRet (tCB (rSum K) (tCons (tLc (iRng1 (tCons (tCB (rLenSq K) (tCons (tVar 0) tNil)) tNil)) (gName 3) (tTest (tOp rEq (tOp (rIxT K) (tOp (rIxL K) (tVar 0) (tVar 3)) (tC (.int 0))) (tVar 2))) (tOp (rIxL K) (tVar 1) (tVar 3)) [3]) tNil)))
theorem len__law_side {c : Cs} : ∀ ds o, R__law_side c ds o → ds.length = 3 := by
  intro ds o h
  grind (ematch := 14) (gen := 20) [R__law_side]
theorem body__law_side {K : PySem.W.Frag} {c : Cs} {E : XK} : ∀ ds o, R__law_side c ds o → DS K E (t__law_side K c E) (slots 4 ds) o.post := by
  rintro _ _ ⟨ws, ps, b, rfl, rfl, hl, hn⟩
  unfold t__law_side
  apply VS.ds_ret (d := .int (sideOf ws ps b))
  · refine VS.de_cb (VS.da_cons (x := intsD (((List.range ws.length).filter fun k => (wAt ws k).buy == b).map (pAt ps))) (VS.de_new ?_) VS.da_nil) VS.dc_sum
    have q := VS.dn_lcR (K := K) (j := 3) (n := ws.length) (ds := see (slots 4 [wsD ws, intsD ps, .str (sideS b)])) (te := tOp (rIxL K) (tVar 1) (tVar 3)) (t := tTest (tOp rEq (tOp (rIxT K) (tOp (rIxL K) (tVar 0) (tVar 3)) (tC (.int 0))) (tVar 2))) (tl := tCons (tCB (rLenSq K) (tCons (tVar 0) tNil)) tNil) (fun k => (wAt ws k).buy == b) (fun k => .int (pAt ps k)) (VS.da_cons (VS.de_to (VS.de_cb (by walk_at "ev") VS.dc_len) (by rw [List.length_map])) VS.da_nil) (by omega) ?_ ?_
    · unfold lcOf at q
      rw [intsD, List.map_map]
      exact q
    · intro i hi
      have hw := wAt_get hi
      refine VS.dt_to (b := decide (sideS (wAt ws i).buy = sideS b)) ?_ sideS_eq
      walk_at "ev"
    · intro i hi _
      have hx := pAt_get (ps := ps) (k := i) (by omega)
      walk_at "ev"
  · exact VS.post_ret rfl

def evLess (ws : List Wish) (ps : List Int) (over : Int) (k : Nat) : Int := if (wAt ws k).buy = true ∧ 0 < over then min (pAt ps k) over else if (wAt ws k).buy = false ∧ over < 0 then min (pAt ps k) (-over) else 0
def evOver (ws : List Wish) (ps : List Int) : Nat → Int
  | 0 => sideOf ws ps true - sideOf ws ps false
  | k + 1 => if (wAt ws k).buy = true then evOver ws ps k - evLess ws ps (evOver ws ps k) k else evOver ws ps k + evLess ws ps (evOver ws ps k) k
def evened (ws : List Wish) (ps : List Int) : List Int := (List.range ws.length).map fun k => pAt ps k - evLess ws ps (evOver ws ps k) k
theorem evened_ok {ws : List Wish} {ps : List Int} (h : PiecesOk ws ps) : PiecesOk ws (evened ws ps) := by
  refine ⟨by unfold evened; rw [List.length_map, List.length_range], fun k hk => ?_⟩
  have e : pAt (evened ws ps) k = pAt ps k - evLess ws ps (evOver ws ps k) k := by
    unfold evened
    conv => lhs; unfold pAt
    rw [List.getD_eq_getElem?_getD, List.getElem?_map, List.getElem?_range hk]
    rfl
  rw [e]
  have := h.ok k hk
  unfold evLess
  split
  · omega
  · split <;> omega
def R__law_evened (c : Cs) (ds : List PyData) (o : Out) : Prop := ∃ ws ps, ds = [wsD ws, intsD ps] ∧ o = .ret (intsD (evened ws ps)) ∧ ps.length = ws.length ∧ ws.length ≤ 10000
-- slots of _law_evened: 0 _law_wishes 1 _law_pieces 2 _law_over 3 _law_found 4 _law_k 5 _law_less
def t__law_evened (K : PySem.W.Frag) (c : Cs) (E : XK) : TS :=
  (tSeq (tAsg (tOp rSubI (tCall (spD K (R__law_side c)) [] E0 (tCons (tVar 0) (tCons (tVar 1) (tCons (tC (.str "buy")) tNil)))) (tCall (spD K (R__law_side c)) [] E0 (tCons (tVar 0) (tCons (tVar 1) (tCons (tC (.str "sell")) tNil))))) (gName 2))
    (tSeq (tAsg (tLst tNil) (gName 3))
    (tSeq (tFor (iRng1 (tCons (tCB (rLenSq K) (tCons (tVar 0) tNil)) tNil)) (gName 4) (tSeq (tAsg (tC (.int 0)) (gName 5))
    (tSeq (tIfS (tAnd (tTest (tOp rEq (tOp (rIxT K) (tOp (rIxL K) (tVar 0) (tVar 4)) (tC (.int 0))) (tC (.str "buy")))) (tTest (tOp rGtI (tVar 2) (tC (.int 0))))) (tSeq (tAsg (tCB rMin2 (tCons (tOp (rIxL K) (tVar 1) (tVar 4)) (tCons (tVar 2) tNil))) (gName 5))
    (tAsg (tOp rSubI (tVar 2) (tVar 5)) (gName 2))) (tIfS (tAnd (tTest (tOp rEq (tOp (rIxT K) (tOp (rIxL K) (tVar 0) (tVar 4)) (tC (.int 0))) (tC (.str "sell")))) (tTest (tOp rLtI (tVar 2) (tC (.int 0))))) (tSeq (tAsg (tCB rMin2 (tCons (tOp (rIxL K) (tVar 1) (tVar 4)) (tCons (tUn rNegI (tVar 2)) tNil))) (gName 5))
    (tAsg (tOp rAddI (tVar 2) (tVar 5)) (gName 2))) tNext))
    (tDrop (tBM K "list" rAppend (tVar 3) (tCons (tOp rSubI (tOp (rIxL K) (tVar 1) (tVar 4)) (tVar 5)) tNil))))))
    (tRet (tVar 3)))))
theorem len__law_evened {c : Cs} : ∀ ds o, R__law_evened c ds o → ds.length = 2 := by
  intro ds o h
  grind (ematch := 14) (gen := 20) [R__law_evened]
theorem body__law_evened {K : PySem.W.Frag} {c : Cs} {E : XK} : ∀ ds o, R__law_evened c ds o → DS K E (t__law_evened K c E) (slots 6 ds) o.post := by
  rintro _ _ ⟨ws, ps, rfl, rfl, hl, hn⟩
  unfold t__law_evened
  apply VS.q_set (d := .int (evOver ws ps 0))
  · exact VS.de_op (VS.de_call (by walk_at "ev") ⟨ws, ps, true, rfl, rfl, hl, hn⟩) (VS.de_call (by walk_at "ev") ⟨ws, ps, false, rfl, rfl, hl, hn⟩) VS.d2_sub
  · rfl
  apply VS.q_new
  · walk_at "ev"
  apply VS.q_forR1 (n := (ws.length : Int)) (W := fun k es => ∃ s4 s5, es = [.val (wsD ws), .val (intsD ps), .val (.int (evOver ws ps k)), .own (((List.range k).map fun k => pAt ps k - evLess ws ps (evOver ws ps k) k).map PyData.int), s4, s5])
  · refine VS.da_cons (VS.de_to (VS.de_cb (by walk_at "ev") VS.dc_len) (by rw [List.length_map])) VS.da_nil
  · omega
  · exact ⟨.no, .no, rfl⟩
  · rintro k _ hk ⟨s4, s5, rfl⟩
    have hk' : k < ws.length := by omega
    have hw := wAt_get hk'
    have hx := pAt_get (ps := ps) (k := k) (by omega)
    apply VS.q_set
    · walk_at "ev"
    · rfl
    have key : ∀ less over', less = evLess ws ps (evOver ws ps k) k → over' = evOver ws ps (k + 1) → DS K E (tDrop (tBM K "list" rAppend (tVar 3) (tCons (tOp rSubI (tOp (rIxL K) (tVar 1) (tVar 4)) (tVar 5)) tNil))) [.val (wsD ws), .val (intsD ps), .val (.int over'), .own (((List.range k).map fun k => pAt ps k - evLess ws ps (evOver ws ps k) k).map PyData.int), .val (.int (k : Int)), .val (.int less)]
        { Out.post (.ret (intsD (evened ws ps))) with nx := (fun es => ∃ s4 s5, es = [.val (wsD ws), .val (intsD ps), .val (.int (evOver ws ps (k + 1))), .own (((List.range (k + 1)).map fun k => pAt ps k - evLess ws ps (evOver ws ps k) k).map PyData.int), s4, s5]), ct := (fun es => ∃ s4 s5, es = [.val (wsD ws), .val (intsD ps), .val (.int (evOver ws ps (k + 1))), .own (((List.range (k + 1)).map fun k => pAt ps k - evLess ws ps (evOver ws ps k) k).map PyData.int), s4, s5]), bk := (fun es' => DS K E (tRet (tVar 3)) es' (Out.post (.ret (intsD (evened ws ps))))) } := by
      rintro _ _ rfl rfl
      apply VS.ds_app
      · walk_at "ev"
      · rfl
      · rfl
      · rw [List.length_map, List.length_map, List.length_range]
        omega
      · refine ⟨.val (.int (k : Int)), .val (.int (evLess ws ps (evOver ws ps k) k)), ?_⟩
        rw [List.range_succ, List.map_append, List.map_append]
        rfl
    apply VS.ds_seq
    apply VS.ds_if (b := (wAt ws k).buy && decide (0 < evOver ws ps k))
    · refine VS.dt_to (b := decide (sideS (wAt ws k).buy = "buy") && decide (0 < evOver ws ps k)) ?_ (by rw [sideS_buy])
      walk_at "ev"
    · intro hb
      have hb := Bool.and_eq_true_iff.mp hb
      have hb2 := of_decide_eq_true hb.2
      have el : evLess ws ps (evOver ws ps k) k = min (pAt ps k) (evOver ws ps k) := by
        unfold evLess
        rw [if_pos ⟨hb.1, hb2⟩]
      apply VS.q_set (d := .int (evLess ws ps (evOver ws ps k) k))
      · rw [el]
        walk_at "ev"
      · rfl
      apply VS.ds_set
      · walk_at "ev"
      · rfl
      · refine key _ _ rfl ?_
        rw [evOver, if_pos hb.1]
    · intro hb
      apply VS.ds_if (b := !(wAt ws k).buy && decide (evOver ws ps k < 0))
      · refine VS.dt_to (b := decide (sideS (wAt ws k).buy = "sell") && decide (evOver ws ps k < 0)) ?_ (by rw [sideS_sell])
        walk_at "ev"
      · intro hc
        have hc := Bool.and_eq_true_iff.mp hc
        have hc2 := of_decide_eq_true hc.2
        have hc1 : (wAt ws k).buy = false := by simpa using hc.1
        have el : evLess ws ps (evOver ws ps k) k = min (pAt ps k) (-evOver ws ps k) := by
          unfold evLess
          rw [if_neg (by rw [hc1]; simp), if_pos ⟨hc1, hc2⟩]
        apply VS.q_set (d := .int (evLess ws ps (evOver ws ps k) k))
        · rw [el]
          walk_at "ev"
        · rfl
        apply VS.ds_set
        · walk_at "ev"
        · rfl
        · refine key _ _ rfl ?_
          rw [evOver, if_neg (by rw [hc1]; decide)]
      · intro hc
        have el : evLess ws ps (evOver ws ps k) k = 0 := by
          unfold evLess
          rw [if_neg, if_neg]
          · rintro ⟨q1, q2⟩
            rw [q1, decide_eq_true q2] at hc
            cases hc
          · rintro ⟨q1, q2⟩
            rw [q1, decide_eq_true q2] at hb
            cases hb
        refine VS.ds_next (key _ _ el.symm ?_)
        rw [evOver, el]
        split <;> omega
  · rintro _ ⟨s4, s5, rfl⟩
    rw [Int.toNat_natCast]
    apply VS.ds_ret
    · walk_at "ev"
    · exact VS.post_ret rfl

def R__law_numbers (c : Cs) (ds : List PyData) (o : Out) : Prop := ∃ ns n, ds = [intsD ns, .int n] ∧ o = .ret (.bool (decide (((ns.length : Nat) : Int) = n)))
-- slots of _law_numbers: 0 _law_found 1 _law_many 2 _law_one
def t__law_numbers (K : PySem.W.Frag) (c : Cs) (E : XK) : TS :=
  (tSeq (tIfS (tOr (tNot (tB (tCB (rIsi K) (tCons (tVar 0) (tCons (tC (.ty "list")) tNil))))) (tTest (tOp rNe (tCB (rLenSq K) (tCons (tVar 0) tNil)) (tVar 1)))) (tRet (tC (.bl false))) tNext)
    (tSeq (tFor (iList K (tVar 0)) (gName 2) (tIfS (tNot (tB (tCall (spD K (R__law_whole c)) [] E0 (tCons (tVar 2) tNil)))) (tRet (tC (.bl false))) tNext))
    (tRet (tC (.bl true)))))
theorem len__law_numbers {c : Cs} : ∀ ds o, R__law_numbers c ds o → ds.length = 2 := by
  intro ds o h
  grind (ematch := 14) (gen := 20) [R__law_numbers]
theorem body__law_numbers {K : PySem.W.Frag} {c : Cs} {E : XK} : ∀ ds o, R__law_numbers c ds o → DS K E (t__law_numbers K c E) (slots 3 ds) o.post := by
  rintro _ _ ⟨ns, n, rfl, rfl⟩
  unfold t__law_numbers
  have ht : DT K (tOr (tNot (tB (tCB (rIsi K) (tCons (tVar 0) (tCons (tC (.ty "list")) tNil))))) (tTest (tOp rNe (tCB (rLenSq K) (tCons (tVar 0) tNil)) (tVar 1)))) (see (slots 3 [intsD ns, PyData.int n])) (!decide (((ns.length : Nat) : Int) = n)) := by
    refine VS.dt_to (b := !true || !decide ((((ns.map PyData.int).length : Nat) : Int) = n)) ?_ (by rw [List.length_map]; rfl)
    walk_at "ev"
  apply VS.q_if
  · exact ht
  · intro hb
    apply VS.ds_ret
    · walk_at "ev"
    · refine VS.post_ret ?_
      have : decide (((ns.length : Nat) : Int) = n) = false := by simpa using hb
      rw [this]
  · intro hb
    have hb' : decide (((ns.length : Nat) : Int) = n) = true := by simpa using hb
    apply VS.q_for (W := fun k es => ∃ s, es = [.val (intsD ns), .val (.int n), s])
    · walk_at "ev"
    · exact ⟨.no, rfl⟩
    · rintro k x _ hx ⟨s, rfl⟩
      obtain ⟨m, _, rfl⟩ := map_at hx
      refine VS.ds_if (b := !true) ?_ (fun z => by cases z) fun _ => VS.ds_next ⟨_, rfl⟩
      walk_at "ev"
    · rintro _ ⟨s, rfl⟩
      apply VS.ds_ret
      · walk_at "ev"
      · exact VS.post_ret (by rw [hb'])

/-! what the pieces come to -/
theorem ws_range (ws : List Wish) : (List.range ws.length).map (wAt ws) = ws := by
  refine List.ext_getElem? fun i => ?_
  rw [List.getElem?_map]
  by_cases hi : i < ws.length
  · rw [List.getElem?_range hi, wAt_get hi]
    rfl
  · rw [List.getElem?_eq_none (l := List.range _) (by rw [List.length_range]; omega), List.getElem?_eq_none (l := ws) (by omega)]
    rfl
theorem amountOf_sum (ws : List Wish) (b : Bool) (p : Int) : amountOf ws b p = sumTo (fun j => if dealsB ws b p j = true then amtAt ws j else 0) ws.length := by
  rw [← sumTo_filter]
  unfold amountOf
  conv => lhs; rw [← ws_range ws]
  rw [List.filter_map, List.map_map]
  rfl
theorem order_perm (ws : List Wish) (b : Bool) (p : Int) : (orderN ws b p).Perm ((List.range ws.length).filter (dealsB ws b p)) := by
  have h := (sorted_perm ws b p).map (·.2)
  unfold rowsTo at h
  rw [List.map_map] at h
  have e : ((fun x : Int × Nat => x.2) ∘ fun i => (rankN b (wAt ws i), i)) = id := rfl
  rw [e, List.map_id] at h
  exact h
theorem order_amounts (ws : List Wish) (b : Bool) (p : Int) : ((orderN ws b p).map (amtAt ws)).sum = amountOf ws b p := by
  rw [amountOf_sum, ← sumTo_filter]
  exact sum_perm ((order_perm ws b p).map _)
theorem order_dealt {ws : List Wish} (hg : Good ws) (b : Bool) (p : Int) : ∀ t, t ≤ (orderN ws b p).length → (((orderN ws b p).take t).map (piece ws p)).sum = dealtN ws p - leftN ws b p t
  | 0, _ => by
    unfold leftN
    have := dealt_nonneg hg p
    simp
    omega
  | t + 1, h => by
    have hk : (orderN ws b p)[t]? = some ((orderN ws b p)[t]'(by omega)) := List.getElem?_eq_getElem (by omega)
    generalize (orderN ws b p)[t]'(by omega) = k at hk
    have h1 := (left_step hk hg).2
    rw [List.take_add_one, hk, List.map_append, List.sum_append, order_dealt hg b p t (by omega), ← h1]
    simp
    omega
theorem side_pieces {ws : List Wish} (hg : Good ws) (b : Bool) (p : Int) : sideOf ws (piecesN ws p) b = dealtN ws p := by
  have h := order_dealt hg b p (orderN ws b p).length (Nat.le_refl _)
  rw [List.take_length] at h
  have hl : leftN ws b p (orderN ws b p).length = 0 := by
    unfold leftN
    rw [List.take_length, order_amounts]
    unfold dealtN
    cases b <;> omega
  rw [hl, Int.sub_zero] at h
  rw [← h, sum_perm ((order_perm ws b p).map (piece ws p)), sumTo_filter]
  unfold sideOf
  rw [sumTo_filter]
  refine sumTo_congr fun j hj => ?_
  have e : pAt (piecesN ws p) j = piece ws p j := by
    unfold pAt
    rw [List.getD_eq_getElem?_getD, piecesN_get hj]
    rfl
  rw [e]
  unfold dealsB
  by_cases q : ((wAt ws j).buy == b) = true
  · by_cases z : willing (wAt ws j) p = true
    · simp [q, z]
    · have : piece ws p j = 0 := by
        unfold piece
        rw [if_neg z]
      simp [q, z, this]
  · simp [q]
theorem pAt_piecesN {ws : List Wish} {p : Int} {k : Nat} (h : k < ws.length) : pAt (piecesN ws p) k = piece ws p k := by
  unfold pAt
  rw [List.getD_eq_getElem?_getD, piecesN_get h]
  rfl
theorem piecesN_ok {ws : List Wish} (hg : Good ws) (p : Int) : PiecesOk ws (piecesN ws p) := by
  refine ⟨piecesN_len ws p, fun k hk => ?_⟩
  rw [pAt_piecesN hk]
  have ha : 1 ≤ amtAt ws k := (hg _ (wAt_mem hk)).2.2.1
  unfold piece
  split <;> omega
def betterN (w : Wish) (p : Int) : Int := if w.buy = true then w.limit - p else p - w.limit
theorem gainN_better (w : Wish) (p n : Int) : gainN w p n = betterN w p * n := by
  unfold gainN betterN
  split <;> rfl
theorem piece_worse {ws : List Wish} {p : Int} {k : Nat} (h : betterN (wAt ws k) p < 0) : piece ws p k = 0 := by
  unfold piece
  rw [if_neg]
  unfold betterN at h
  unfold willing
  split at h <;> rename_i q <;> simp [q] <;> omega
theorem piece_better {ws : List Wish} {p : Int} {k : Nat} (hg : Good ws) (hk : k < ws.length) (hc : coveredB ws p = true) (ht : takenB ws p = true) (h : 0 < betterN (wAt ws k) p) : piece ws p k = amtAt ws k := by
  have ha : 1 ≤ amtAt ws k := (hg _ (wAt_mem hk)).2.2.1
  have hc : amountOf ws true (p + 1) ≤ amountOf ws false p := of_decide_eq_true hc
  have ht : amountOf ws false (p - 1) ≤ amountOf ws true p := of_decide_eq_true ht
  have hw : willing (wAt ws k) p = true := by
    unfold betterN at h
    unfold willing
    split at h <;> rename_i q <;> simp [q] <;> omega
  have key : aheadN ws k + amtAt ws k ≤ dealtN ws p := by
    have hnn : ∀ j, j < ws.length → 0 ≤ amtAt ws j := fun j hj => by
      have : 1 ≤ amtAt ws j := (hg _ (wAt_mem hj)).2.2.1
      omega
    have main : ∀ q, (∀ j, aheadB ws k j = true → dealsB ws (wAt ws k).buy q j = true) → dealsB ws (wAt ws k).buy q k = true → aheadN ws k + amtAt ws k ≤ amountOf ws (wAt ws k).buy q := fun q h1 h2 => by
      rw [amountOf_sum]
      show aheadTo ws k ws.length + _ ≤ _
      unfold aheadTo
      rw [sumTo_filter]
      refine sumTo_le_at hk (fun j hj => ?_) ?_
      · have := hnn j hj
        by_cases z : aheadB ws k j = true
        · rw [if_pos z, if_pos (h1 j z)]
          exact Int.le_refl _
        · rw [if_neg z]
          split <;> omega
      · rw [if_pos h2, if_neg]
        · omega
        · unfold aheadB
          simp
    unfold betterN at h
    cases hb : (wAt ws k).buy with
    | true =>
      rw [hb] at main h
      rw [if_pos rfl] at h
      have m := main (p + 1) (fun j hj => by
        unfold aheadB at hj
        unfold dealsB willing
        rw [hb] at hj
        simp at hj ⊢
        obtain ⟨h1, h2⟩ := hj
        refine ⟨h1, ?_⟩
        rw [h1, if_pos rfl]
        omega) (by
        unfold dealsB willing
        simp [hb]
        omega)
      have h1 := wanted_anti hg (p := p) (q := p + 1) (by omega)
      unfold dealtN
      omega
    | false =>
      rw [hb] at main h
      rw [if_neg (by decide)] at h
      have m := main (p - 1) (fun j hj => by
        unfold aheadB at hj
        unfold dealsB willing
        rw [hb] at hj
        simp at hj ⊢
        obtain ⟨h1, h2⟩ := hj
        refine ⟨h1, ?_⟩
        rw [h1]
        simp
        omega) (by
        unfold dealsB willing
        simp [hb]
        omega)
      have h1 := offered_mono hg (p := p - 1) (q := p) (by omega)
      unfold dealtN
      omega
  unfold piece
  rw [if_pos hw]
  omega
theorem dealt_most {ws : List Wish} {p : Int} (hg : Good ws) (hc : coveredB ws p = true) (ht : takenB ws p = true) (q : Int) : dealtN ws q ≤ dealtN ws p := by
  have hc : amountOf ws true (p + 1) ≤ amountOf ws false p := of_decide_eq_true hc
  have ht : amountOf ws false (p - 1) ≤ amountOf ws true p := of_decide_eq_true ht
  have h1 := wanted_anti hg (p := p) (q := p + 1) (by omega)
  have h2 := offered_mono hg (p := p - 1) (q := p) (by omega)
  unfold dealtN
  rcases Int.lt_trichotomy q p with z | z | z
  · have := offered_mono hg (p := q) (q := p - 1) (by omega)
    omega
  · rw [z]
    exact Int.le_refl _
  · have := wanted_anti hg (p := p + 1) (q := q) (by omega)
    omega

/-! evened pieces -/
theorem pAt_evened {ws : List Wish} {ps : List Int} {k : Nat} (hk : k < ws.length) : pAt (evened ws ps) k = pAt ps k - evLess ws ps (evOver ws ps k) k := by
  unfold evened
  conv => lhs; unfold pAt
  rw [List.getD_eq_getElem?_getD, List.getElem?_map, List.getElem?_range hk]
  rfl
def sideTo (ws : List Wish) (ps : List Int) (b : Bool) (n : Nat) : Int := sumTo (fun j => if ((wAt ws j).buy == b) = true then pAt ps j else 0) n
theorem sideTo_nonneg {ws : List Wish} {ps : List Int} (h : PiecesOk ws ps) (b : Bool) {n : Nat} (hn : n ≤ ws.length) : 0 ≤ sideTo ws ps b n := by
  unfold sideTo
  refine sumTo_nonneg fun j hj => ?_
  split
  · exact (h.ok j (by omega)).1
  · exact Int.le_refl 0
theorem evened_even {ws : List Wish} {ps : List Int} (h : PiecesOk ws ps) : sideOf ws (evened ws ps) true = sideOf ws (evened ws ps) false := by
  have key : ∀ n, n ≤ ws.length →
      sideTo ws (evened ws ps) true n - sideTo ws (evened ws ps) false n
        = sideTo ws ps true n - sideTo ws ps false n + (evOver ws ps n - evOver ws ps 0)
      ∧ (0 ≤ evOver ws ps 0 → evOver ws ps n = max 0 (evOver ws ps 0 - sideTo ws ps true n))
      ∧ (evOver ws ps 0 < 0 → evOver ws ps n = min 0 (evOver ws ps 0 + sideTo ws ps false n)) := by
    intro n
    induction n with
    | zero =>
      intro _
      refine ⟨?_, fun h0 => ?_, fun h0 => ?_⟩
      · show (0 : Int) - 0 = 0 - 0 + _
        omega
      · show _ = max 0 (_ - 0)
        omega
      · show _ = min 0 (_ + 0)
        omega
    | succ n ih =>
      intro hn
      obtain ⟨i1, i2, i3⟩ := ih (by omega)
      have hp := (h.ok n (by omega)).1
      have ht := sideTo_nonneg h true (n := n) (by omega)
      have hf := sideTo_nonneg h false (n := n) (by omega)
      have e1 : sideTo ws ps true (n + 1) = sideTo ws ps true n + (if ((wAt ws n).buy == true) = true then pAt ps n else 0) := sumTo_succ _ _
      have e2 : sideTo ws ps false (n + 1) = sideTo ws ps false n + (if ((wAt ws n).buy == false) = true then pAt ps n else 0) := sumTo_succ _ _
      have e5 : sideTo ws (evened ws ps) true (n + 1) = sideTo ws (evened ws ps) true n + (if ((wAt ws n).buy == true) = true then pAt (evened ws ps) n else 0) := sumTo_succ _ _
      have e6 : sideTo ws (evened ws ps) false (n + 1) = sideTo ws (evened ws ps) false n + (if ((wAt ws n).buy == false) = true then pAt (evened ws ps) n else 0) := sumTo_succ _ _
      rw [e5, e6, e1, e2, pAt_evened (by omega)]
      have e3 : evOver ws ps (n + 1) = if (wAt ws n).buy = true then evOver ws ps n - evLess ws ps (evOver ws ps n) n else evOver ws ps n + evLess ws ps (evOver ws ps n) n := rfl
      have e4 : evLess ws ps (evOver ws ps n) n = if (wAt ws n).buy = true ∧ 0 < evOver ws ps n then min (pAt ps n) (evOver ws ps n) else if (wAt ws n).buy = false ∧ evOver ws ps n < 0 then min (pAt ps n) (-evOver ws ps n) else 0 := rfl
      generalize evLess ws ps (evOver ws ps n) n = less at *
      generalize evOver ws ps (n + 1) = ov' at *
      generalize evOver ws ps n = ov at *
      generalize evOver ws ps 0 = o0 at *
      generalize sideTo ws (evened ws ps) true n = T' at *
      generalize sideTo ws (evened ws ps) false n = F' at *
      generalize sideTo ws ps true n = T at *
      generalize sideTo ws ps false n = F at *
      cases hb : (wAt ws n).buy with
      | true =>
        rw [hb] at e3 e4
        simp at e3 e4 ⊢
        by_cases z : 0 < ov
        · rw [if_pos z] at e4
          refine ⟨by omega, fun q => ?_, fun q => ?_⟩
          · have := i2 q
            omega
          · have := i3 q
            omega
        · rw [if_neg z] at e4
          refine ⟨by omega, fun q => ?_, fun q => ?_⟩
          · have := i2 q
            omega
          · have := i3 q
            omega
      | false =>
        rw [hb] at e3 e4
        simp at e3 e4 ⊢
        by_cases z : ov < 0
        · rw [if_pos z] at e4
          refine ⟨by omega, fun q => ?_, fun q => ?_⟩
          · have := i2 q
            omega
          · have := i3 q
            omega
        · rw [if_neg z] at e4
          refine ⟨by omega, fun q => ?_, fun q => ?_⟩
          · have := i2 q
            omega
          · have := i3 q
            omega
  obtain ⟨k1, k2, k3⟩ := key ws.length (Nat.le_refl _)
  have et' : sideTo ws (evened ws ps) true ws.length = sideOf ws (evened ws ps) true := (sideOf_sum ws (evened ws ps) true).symm
  have ef' : sideTo ws (evened ws ps) false ws.length = sideOf ws (evened ws ps) false := (sideOf_sum ws (evened ws ps) false).symm
  have et : sideTo ws ps true ws.length = sideOf ws ps true := (sideOf_sum ws ps true).symm
  have ef : sideTo ws ps false ws.length = sideOf ws ps false := (sideOf_sum ws ps false).symm
  have e0 : evOver ws ps 0 = sideOf ws ps true - sideOf ws ps false := rfl
  have n1 := sideTo_nonneg h true (n := ws.length) (Nat.le_refl _)
  have n2 := sideTo_nonneg h false (n := ws.length) (Nat.le_refl _)
  by_cases z : 0 ≤ evOver ws ps 0
  · have := k2 z
    omega
  · have := k3 (by omega)
    omega

/-! the deals, one after the other -/
theorem deals_at {D : List Deal} {k : Nat} (h : k < D.length) : D[k]? = some (D[k]'h) := List.getElem?_eq_getElem h
theorem foldl_snoc {D : List Deal} {k : Nat} {d : Deal} {ps : List Int} (h : D[k]? = some d) : (D.take (k + 1)).foldl applyD ps = applyD ((D.take k).foldl applyD ps) d := by
  rw [List.take_add_one, h, List.foldl_append]
  rfl
theorem foldl_len (D : List Deal) : ∀ ps : List Int, (D.foldl applyD ps).length = ps.length := by
  induction D with
  | nil => intro ps; rfl
  | cons d D ih =>
    intro ps
    rw [List.foldl_cons, ih, applyD_len]

theorem worthTo_sum (ws : List Wish) (ps : List Int) (p : Int) (n : Nat) : worthTo ws ps p n = sumTo (fun k => gainN (wAt ws k) p (pAt ps k)) n := rfl
theorem worth_base (ws : List Wish) (ps : List Int) (p : Int) (n : Nat) : worthTo ws ps 0 n - worthTo ws ps p n = p * (sideTo ws ps true n - sideTo ws ps false n) := by
  induction n with
  | zero =>
    show (0 : Int) - 0 = p * (0 - 0)
    simp
  | succ n ih =>
    have e1 : sideTo ws ps true (n + 1) = sideTo ws ps true n + (if ((wAt ws n).buy == true) = true then pAt ps n else 0) := sumTo_succ _ _
    have e2 : sideTo ws ps false (n + 1) = sideTo ws ps false n + (if ((wAt ws n).buy == false) = true then pAt ps n else 0) := sumTo_succ _ _
    rw [worthTo_succ, worthTo_succ, e1, e2, Int.mul_sub, Int.mul_add, Int.mul_add]
    rw [Int.mul_sub] at ih
    have e3 : gainN (wAt ws n) 0 (pAt ps n) - gainN (wAt ws n) p (pAt ps n) = p * (if ((wAt ws n).buy == true) = true then pAt ps n else 0) - p * (if ((wAt ws n).buy == false) = true then pAt ps n else 0) := by
      unfold gainN
      cases (wAt ws n).buy
      · rw [if_neg (by decide), if_neg (by decide), if_neg (by decide), if_pos (by decide), Int.sub_mul, Int.sub_mul]
        simp
        omega
      · rw [if_pos (by decide), if_pos (by decide), if_pos (by decide), if_neg (by decide), Int.sub_mul, Int.sub_mul]
        simp
        omega
    omega
theorem worth_even {ws : List Wish} {ps : List Int} (h : sideOf ws ps true = sideOf ws ps false) (p : Int) : worthTo ws ps 0 ws.length = worthTo ws ps p ws.length := by
  have h1 := worth_base ws ps p ws.length
  have et : sideTo ws ps true ws.length = sideOf ws ps true := (sideOf_sum ws ps true).symm
  have ef : sideTo ws ps false ws.length = sideOf ws ps false := (sideOf_sum ws ps false).symm
  rw [et, ef, h, Int.sub_self, Int.mul_zero] at h1
  omega
theorem worth_most {ws : List Wish} {qs : List Int} {p : Int} (hg : Good ws) (hc : coveredB ws p = true) (ht : takenB ws p = true) (hq : PiecesOk ws qs) : worthTo ws qs p ws.length ≤ worthTo ws (piecesN ws p) p ws.length := by
  rw [worthTo_sum, worthTo_sum]
  refine sumTo_le fun k hk => ?_
  have h1 := hq.ok k hk
  rw [gainN_better, gainN_better, pAt_piecesN hk]
  rcases Int.lt_trichotomy (betterN (wAt ws k) p) 0 with z | z | z
  · rw [piece_worse z, Int.mul_zero]
    exact Int.mul_nonpos_of_nonpos_of_nonneg (by omega) h1.1
  · rw [z, Int.zero_mul, Int.zero_mul]
    exact Int.le_refl 0
  · rw [piece_better hg hk hc ht z]
    exact Int.mul_le_mul_of_nonneg_left h1.2 (by omega)
def R__law_gained (c : Cs) (ds : List PyData) (o : Out) : Prop := ∃ ws ps p, ds = [wsD ws, intsD ps, .int p] ∧ o = .ret (.int (worthTo ws ps p ws.length)) ∧ ps.length = ws.length ∧ (∀ w ∈ ws, w.good) ∧ 0 ≤ p ∧ p ≤ 1000000000 ∧ ws.length ≤ 10000
-- slots of _law_gained: 0 _law_wishes 1 _law_pieces 2 _law_price 3 _law_total 4 _law_k
def t__law_gained (K : PySem.W.Frag) (c : Cs) (E : XK) : TS :=
  (tSeq (tAsg (tC (.int 0)) (gName 3))
    (tSeq (tFor (iRng1 (tCons (tCB (rLenSq K) (tCons (tVar 0) tNil)) tNil)) (gName 4) (tIfS (tTest (tOp rEq (tOp (rIxT K) (tOp (rIxL K) (tVar 0) (tVar 4)) (tC (.int 0))) (tC (.str "buy")))) (tAsg (tOp rAddI (tVar 3) (tOp rMulI (tOp rSubI (tOp (rIxT K) (tOp (rIxL K) (tVar 0) (tVar 4)) (tC (.int 1))) (tVar 2)) (tOp (rIxL K) (tVar 1) (tVar 4)))) (gName 3)) (tAsg (tOp rAddI (tVar 3) (tOp rMulI (tOp rSubI (tVar 2) (tOp (rIxT K) (tOp (rIxL K) (tVar 0) (tVar 4)) (tC (.int 1)))) (tOp (rIxL K) (tVar 1) (tVar 4)))) (gName 3))))
    (tRet (tVar 3))))
theorem len__law_gained {c : Cs} : ∀ ds o, R__law_gained c ds o → ds.length = 3 := by
  intro ds o h
  grind (ematch := 14) (gen := 20) [R__law_gained]
theorem body__law_gained {K : PySem.W.Frag} {c : Cs} {E : XK} : ∀ ds o, R__law_gained c ds o → DS K E (t__law_gained K c E) (slots 5 ds) o.post := by
  rintro _ _ ⟨ws, ps, p, rfl, rfl, hn, hg, h0, h1, hl⟩
  unfold t__law_gained
  apply VS.q_set
  · walk_at "ev"
  · rfl
  apply VS.q_forR1 (n := (ws.length : Int)) (W := fun k es => ∃ s, es = [.val (wsD ws), .val (intsD ps), .val (.int p), .val (.int (worthTo ws ps p k)), s])
  · refine VS.da_cons (VS.de_to (VS.de_cb (by walk_at "ev") VS.dc_len) (by rw [List.length_map])) VS.da_nil
  · omega
  · exact ⟨.no, rfl⟩
  · rintro k _ hk ⟨s, rfl⟩
    have hk' : k < ws.length := by omega
    have hw := wAt_get hk'
    have hx := pAt_get (ps := ps) (k := k) (by omega)
    obtain ⟨g1, g2, g3, g4⟩ := hg _ (wAt_mem hk')
    have e := worthTo_succ ws ps p k
    apply VS.ds_if (b := (wAt ws k).buy)
    · refine VS.dt_to (b := decide (sideS (wAt ws k).buy = "buy")) ?_ sideS_buy
      walk_at "ev"
    · intro hb
      unfold gainN at e
      rw [if_pos hb] at e
      apply VS.ds_set (d := .int (worthTo ws ps p (k + 1)))
      · rw [e]
        refine VS.de_op (VS.de_var rfl) (VS.de_op ?_ ?_ (VS.d2_mulL (by omega) (by omega))) VS.d2_add
        · walk_at "ev"
        · walk_at "ev"
      · rfl
      · exact ⟨_, rfl⟩
    · intro hb
      unfold gainN at e
      rw [if_neg (by rw [hb]; decide)] at e
      apply VS.ds_set (d := .int (worthTo ws ps p (k + 1)))
      · rw [e]
        refine VS.de_op (VS.de_var rfl) (VS.de_op ?_ ?_ (VS.d2_mulL (by omega) (by omega))) VS.d2_add
        · walk_at "ev"
        · walk_at "ev"
      · rfl
      · exact ⟨_, rfl⟩
  · rintro _ ⟨s, rfl⟩
    rw [Int.toNat_natCast]
    apply VS.ds_ret
    · walk_at "ev"
    · exact VS.post_ret rfl

def overB (ws : List Wish) (b : Bool) (k j : Nat) : Bool := if b = true then decide ((wAt ws j).limit < (wAt ws k).limit) else decide ((wAt ws k).limit < (wAt ws j).limit)
def roomB (ws : List Wish) (ps : List Int) (b : Bool) (k : Nat) : Bool := ((wAt ws k).buy == b) && decide (pAt ps k < amtAt ws k)
def freeB (ws : List Wish) (b : Bool) (k : Nat) : Option Nat → Bool
  | none => true
  | some j => overB ws b k j
def bestTo (ws : List Wish) (ps : List Int) (b : Bool) : Nat → Option Nat
  | 0 => none
  | n + 1 => if roomB ws ps b n = true ∧ freeB ws b n (bestTo ws ps b n) = true then some n else bestTo ws ps b n
def optI : Option Nat → Int
  | none => -1
  | some k => (k : Int)
theorem best_room {ws : List Wish} {ps : List Int} {b : Bool} : ∀ {n k : Nat}, bestTo ws ps b n = some k → k < n ∧ roomB ws ps b k = true
  | 0, k, h => by cases h
  | n + 1, k, h => by
    rw [bestTo] at h
    split at h
    · rename_i q
      have := Option.some.inj h
      subst this
      exact ⟨Nat.lt_succ_self _, q.1⟩
    · have := best_room h
      exact ⟨by omega, this.2⟩
def R__law_best_with_room (c : Cs) (ds : List PyData) (o : Out) : Prop := ∃ ws ps b, ds = [wsD ws, intsD ps, .str (sideS b)] ∧ o = .ret (.int (optI (bestTo ws ps b ws.length))) ∧ ps.length = ws.length ∧ ws.length ≤ 10000
-- slots of _law_best_with_room: 0 _law_wishes 1 _law_pieces 2 _law_side_here 3 _law_found 4 _law_k 5 _law_better
def t__law_best_with_room (K : PySem.W.Frag) (c : Cs) (E : XK) : TS :=
  (tSeq (tAsg (tUn rNegI (tC (.int 1))) (gName 3))
    (tSeq (tFor (iRng1 (tCons (tCB (rLenSq K) (tCons (tVar 0) tNil)) tNil)) (gName 4) (tIfS (tAnd (tTest (tOp rEq (tOp (rIxT K) (tOp (rIxL K) (tVar 0) (tVar 4)) (tC (.int 0))) (tVar 2))) (tTest (tOp rLtI (tOp (rIxL K) (tVar 1) (tVar 4)) (tOp (rIxT K) (tOp (rIxL K) (tVar 0) (tVar 4)) (tC (.int 2)))))) (tSeq (tAsg (tOrV (tOp rLtI (tVar 3) (tC (.int 0))) (tOp rGtI (tOp (rIxT K) (tOp (rIxL K) (tVar 0) (tVar 4)) (tC (.int 1))) (tOp (rIxT K) (tOp (rIxL K) (tVar 0) (tVar 3)) (tC (.int 1))))) (gName 5))
    (tSeq (tIfS (tTest (tOp rEq (tVar 2) (tC (.str "sell")))) (tAsg (tOrV (tOp rLtI (tVar 3) (tC (.int 0))) (tOp rLtI (tOp (rIxT K) (tOp (rIxL K) (tVar 0) (tVar 4)) (tC (.int 1))) (tOp (rIxT K) (tOp (rIxL K) (tVar 0) (tVar 3)) (tC (.int 1))))) (gName 5)) tNext)
    (tIfS (tB (tVar 5)) (tAsg (tVar 4) (gName 3)) tNext))) tNext))
    (tRet (tVar 3))))
theorem len__law_best_with_room {c : Cs} : ∀ ds o, R__law_best_with_room c ds o → ds.length = 3 := by
  intro ds o h
  grind (ematch := 14) (gen := 20) [R__law_best_with_room]
theorem body__law_best_with_room {K : PySem.W.Frag} {c : Cs} {E : XK} : ∀ ds o, R__law_best_with_room c ds o → DS K E (t__law_best_with_room K c E) (slots 6 ds) o.post := by
  rintro _ _ ⟨ws, ps, b, rfl, rfl, hn, hl⟩
  unfold t__law_best_with_room
  apply VS.q_set
  · walk_at "ev"
  · rfl
  apply VS.q_forR1 (n := (ws.length : Int)) (W := fun k es => ∃ s4 s5, es = [.val (wsD ws), .val (intsD ps), .val (.str (sideS b)), .val (.int (optI (bestTo ws ps b k))), s4, s5])
  · refine VS.da_cons (VS.de_to (VS.de_cb (by walk_at "ev") VS.dc_len) (by rw [List.length_map])) VS.da_nil
  · omega
  · exact ⟨.no, .no, rfl⟩
  · rintro k _ hk ⟨s4, s5, rfl⟩
    have hk' : k < ws.length := by omega
    have hw := wAt_get hk'
    have hx := pAt_get (ps := ps) (k := k) (by omega)
    have e : bestTo ws ps b (k + 1) = if roomB ws ps b k = true ∧ freeB ws b k (bestTo ws ps b k) = true then some k else bestTo ws ps b k := rfl
    have hroom : ∀ j, bestTo ws ps b k = some j → j < k := fun j hj => (best_room hj).1
    generalize bestTo ws ps b (k + 1) = B' at e
    generalize bestTo ws ps b k = B at e hroom
    apply VS.ds_if (b := roomB ws ps b k)
    · unfold roomB
      refine VS.dt_to (b := decide (sideS (wAt ws k).buy = sideS b) && decide (pAt ps k < (wAt ws k).amount)) ?_ (by rw [sideS_eq]; rfl)
      walk_at "ev"
    · intro hr
      have hmid : ∀ (s5 : Slot) (f : Bool) (tail : R2), (∀ x y : Int, D2 K tail (.int x) (.int y) (.bool (if f = true then decide (y < x) else decide (x < y)))) → DE K (tOrV (tOp rLtI (tVar 3) (tC (.int 0))) (tOp tail (tOp (rIxT K) (tOp (rIxL K) (tVar 0) (tVar 4)) (tC (.int 1))) (tOp (rIxT K) (tOp (rIxL K) (tVar 0) (tVar 3)) (tC (.int 1))))) (see [.val (wsD ws), .val (intsD ps), .val (.str (sideS b)), .val (.int (optI B)), .val (.int (k : Int)), s5]) (.bool (freeB ws f k B)) := by
        intro s5 f tail ht
        cases hB : B with
        | none =>
          refine VS.de_to (d := .bool (decide (optI none < 0) || true)) ?_ (by rfl)
          refine VS.de_orV ?_ fun z => ?_
          · walk_at "ev"
          · cases z
        | some j =>
          have hj := hroom j hB
          have hwj := wAt_get (ws := ws) (i := j) (by omega)
          refine VS.de_to (d := .bool (decide (((j : Nat) : Int) < 0) || overB ws f k j)) ?_ (by rw [decide_eq_false (by omega)]; rfl)
          refine VS.de_orV ?_ fun _ => ?_
          · exact VS.de_op (VS.de_var rfl) VS.de_int VS.d2_lt
          · refine VS.de_op (x := .int (wAt ws k).limit) (y := .int (wAt ws j).limit) ?_ ?_ (ht _ _)
            · walk_at "ev"
            · exact VS.de_op (VS.de_op (VS.de_var rfl) (VS.de_var rfl) (VS.d2_ixL (VS.atI_map hwj))) VS.de_int (VS.d2_ixT rfl)
      apply VS.q_set (d := .bool (freeB ws true k B))
      · refine hmid _ true rGtI fun x y => ?_
        rw [if_pos rfl]
        exact VS.d2_gt
      · rfl
      apply VS.q_ifset (d := .bool (freeB ws b k B)) (b := !b)
      · refine VS.dt_to (b := decide (sideS b = "sell")) ?_ sideS_sell
        walk_at "ev"
      · intro hb
        have hb : b = false := by simpa using hb
        have q := hmid (.val (.bool (freeB ws true k B))) false rLtI fun x y => by
          rw [if_neg (by decide)]
          exact VS.d2_lt
        rw [hb]
        rw [hb] at q
        exact q
      · rfl
      · intro hb
        have hb : b = true := by simpa using hb
        rw [hb]
        rfl
      generalize (freeB ws b k B) = bt at e
      apply VS.ds_if (b := bt)
      · walk_at "ev"
      · intro hb
        rw [if_pos ⟨hr, hb⟩] at e
        apply VS.ds_set
        · walk_at "ev"
        · rfl
        · rw [e]
          exact ⟨_, _, rfl⟩
      · intro hb
        rw [if_neg (by rw [hb]; simp)] at e
        rw [e]
        exact VS.ds_next ⟨_, _, rfl⟩
    · intro hr
      rw [if_neg (by rw [hr]; simp)] at e
      rw [e]
      exact VS.ds_next ⟨_, _, rfl⟩
  · rintro _ ⟨s4, s5, rfl⟩
    rw [Int.toNat_natCast]
    apply VS.ds_ret
    · walk_at "ev"
    · exact VS.post_ret rfl

def addAt (ps : List Int) (k : Nat) (m : Int) : List Int := ps.set k (pAt ps k + m)
theorem addAt_len (ps : List Int) (k : Nat) (m : Int) : (addAt ps k m).length = ps.length := by
  unfold addAt
  rw [List.length_set]
theorem pAt_addAt {ps : List Int} {k : Nat} {m : Int} (h : k < ps.length) (j : Nat) : pAt (addAt ps k m) j = if j = k then pAt ps k + m else pAt ps j := by
  unfold addAt
  exact pAt_set h j
theorem sideOf_addAt {ws : List Wish} {ps : List Int} {k : Nat} {m : Int} (b : Bool) (hl : ps.length = ws.length) (hk : k < ws.length) : sideOf ws (addAt ps k m) b = sideOf ws ps b + (if ((wAt ws k).buy == b) = true then m else 0) := by
  unfold addAt
  rw [sideOf_set b hl hk]
  split <;> omega
def moreN (ws : List Wish) (ps : List Int) (b s : Option Nat) : List Int := match b, s with
  | some i, some j => addAt (addAt ps i 1) j 1
  | _, _ => ps
def oneMore (ws : List Wish) (ps : List Int) : List Int := moreN ws ps (bestTo ws ps true ws.length) (bestTo ws ps false ws.length)
theorem oneMore_ok {ws : List Wish} {ps : List Int} (h : PiecesOk ws ps) (hb : sideOf ws ps true = sideOf ws ps false) : PiecesOk ws (oneMore ws ps) ∧ sideOf ws (oneMore ws ps) true = sideOf ws (oneMore ws ps) false := by
  unfold oneMore
  have h1 : ∀ i, bestTo ws ps true ws.length = some i → i < ws.length ∧ roomB ws ps true i = true := fun i => best_room
  have h2 : ∀ i, bestTo ws ps false ws.length = some i → i < ws.length ∧ roomB ws ps false i = true := fun i => best_room
  generalize bestTo ws ps true ws.length = x at h1
  generalize bestTo ws ps false ws.length = y at h2
  cases x with
  | none => exact ⟨h, hb⟩
  | some i =>
    cases y with
    | none => exact ⟨h, hb⟩
    | some j =>
      obtain ⟨i1, i2⟩ := h1 i rfl
      obtain ⟨j1, j2⟩ := h2 j rfl
      unfold roomB at i2 j2
      rw [Bool.and_eq_true, beq_iff_eq, decide_eq_true_eq] at i2 j2
      have hn := h.len
      have hij : i ≠ j := fun e => by
        rw [e, j2.1] at i2
        cases i2.1
      show PiecesOk ws (addAt (addAt ps i 1) j 1) ∧ sideOf ws (addAt (addAt ps i 1) j 1) true = sideOf ws (addAt (addAt ps i 1) j 1) false
      refine ⟨⟨by rw [addAt_len, addAt_len]; exact hn, fun k hk => ?_⟩, ?_⟩
      · have := h.ok k hk
        have := h.ok i i1
        have := h.ok j j1
        rw [pAt_addAt (by rw [addAt_len]; omega), pAt_addAt (by omega), pAt_addAt (by omega), if_neg (show ¬ j = i from fun e => hij e.symm)]
        split
        · rename_i e
          rw [e]
          omega
        · split
          · rename_i e
            rw [e]
            omega
          · omega
      · rw [sideOf_addAt true (by rw [addAt_len]; exact hn) j1, sideOf_addAt true hn i1, sideOf_addAt false (by rw [addAt_len]; exact hn) j1, sideOf_addAt false hn i1, hb, i2.1, j2.1]
        simp
def R__law_one_more (c : Cs) (ds : List PyData) (o : Out) : Prop := ∃ ws ps, ds = [wsD ws, intsD ps] ∧ o = .ret (intsD (oneMore ws ps)) ∧ ps.length = ws.length ∧ ws.length ≤ 10000
-- slots of _law_one_more: 0 _law_wishes 1 _law_pieces 2 _law_buyer 3 _law_seller 4 _law_found
def t__law_one_more (K : PySem.W.Frag) (c : Cs) (E : XK) : TS :=
  (tSeq (tAsg (tCall (spD K (R__law_best_with_room c)) [] E0 (tCons (tVar 0) (tCons (tVar 1) (tCons (tC (.str "buy")) tNil)))) (gName 2))
    (tSeq (tAsg (tCall (spD K (R__law_best_with_room c)) [] E0 (tCons (tVar 0) (tCons (tVar 1) (tCons (tC (.str "sell")) tNil)))) (gName 3))
    (tSeq (tAsg (tCB (rListOf K) (tCons (tVar 1) tNil)) (gName 4))
    (tSeq (tIfS (tAnd (tTest (tOp rGeI (tVar 2) (tC (.int 0)))) (tTest (tOp rGeI (tVar 3) (tC (.int 0))))) (tSeq (tAsg (tOp rAddI (tOp (rIxL K) (tVar 4) (tVar 2)) (tC (.int 1))) (gSub (tVar 4) (tVar 2) rSetL))
    (tAsg (tOp rAddI (tOp (rIxL K) (tVar 4) (tVar 3)) (tC (.int 1))) (gSub (tVar 4) (tVar 3) rSetL))) tNext)
    (tRet (tVar 4))))))
theorem len__law_one_more {c : Cs} : ∀ ds o, R__law_one_more c ds o → ds.length = 2 := by
  intro ds o h
  grind (ematch := 14) (gen := 20) [R__law_one_more]
theorem body__law_one_more {K : PySem.W.Frag} {c : Cs} {E : XK} : ∀ ds o, R__law_one_more c ds o → DS K E (t__law_one_more K c E) (slots 5 ds) o.post := by
  rintro _ _ ⟨ws, ps, rfl, rfl, hn, hl⟩
  unfold t__law_one_more
  apply VS.q_set (d := .int (optI (bestTo ws ps true ws.length)))
  · refine VS.de_call ?_ ⟨ws, ps, true, rfl, rfl, hn, hl⟩
    walk_at "ev"
  · rfl
  apply VS.q_set (d := .int (optI (bestTo ws ps false ws.length)))
  · refine VS.de_call ?_ ⟨ws, ps, false, rfl, rfl, hn, hl⟩
    walk_at "ev"
  · rfl
  apply VS.q_new (xs := ps.map PyData.int)
  · walk_at "ev"
  unfold oneMore
  have h1 : ∀ i, bestTo ws ps true ws.length = some i → i < ws.length := fun i h => (best_room h).1
  have h2 : ∀ i, bestTo ws ps false ws.length = some i → i < ws.length := fun i h => (best_room h).1
  generalize bestTo ws ps true ws.length = x at h1
  generalize bestTo ws ps false ws.length = y at h2
  have hno : ∀ (xs : List Int), xs = ps → DS K E (tRet (tVar 4)) [.val (wsD ws), .val (intsD ps), .val (.int (optI x)), .val (.int (optI y)), .own (ps.map PyData.int)] (Out.post (.ret (intsD xs))) := by
    rintro _ rfl
    apply VS.ds_ret
    · exact VS.de_var rfl
    · exact VS.post_ret rfl
  apply VS.ds_seq
  apply VS.ds_if (b := decide (0 ≤ optI x) && decide (0 ≤ optI y))
  · walk_at "ev"
  · intro hb
    rw [Bool.and_eq_true, decide_eq_true_eq, decide_eq_true_eq] at hb
    cases x with
    | none => exact absurd hb.1 (by decide)
    | some i =>
      cases y with
      | none => exact absurd hb.2 (by decide)
      | some j =>
        have i1 := h1 i rfl
        have j1 := h2 j rfl
        have hx := pAt_get (ps := ps) (k := i) (by omega)
        have hy : (addAt ps i 1)[j]? = some (pAt (addAt ps i 1) j) := pAt_get (by rw [addAt_len]; omega)
        show DS K E _ [.val (wsD ws), .val (intsD ps), .val (.int (i : Int)), .val (.int (j : Int)), .own (ps.map PyData.int)] _
        apply VS.q_put (i := 4) (xs := ps.map PyData.int) (d := .int (pAt ps i + 1)) (n := (i : Int)) (k0 := i)
        · walk_at "ev"
        · rfl
        · rfl
        · walk_at "ev"
        · exact Evl.ixN_nat (by rw [List.length_map]; omega)
        rw [← List.map_set]
        apply VS.ds_put (i := 4) (xs := (addAt ps i 1).map PyData.int) (d := .int (pAt (addAt ps i 1) j + 1)) (n := (j : Int)) (k0 := j)
        · show DE K _ (see [.val (wsD ws), .val (intsD ps), .val (.int (i : Int)), .val (.int (j : Int)), .own ((addAt ps i 1).map PyData.int)]) _
          walk_at "ev"
        · rfl
        · rfl
        · walk_at "ev"
        · exact Evl.ixN_nat (by rw [List.length_map, addAt_len]; omega)
        · rw [← List.map_set]
          show DS K E (tRet (tVar 4)) _ _
          apply VS.ds_ret
          · exact VS.de_var rfl
          · exact VS.post_ret rfl
  · intro hb
    apply VS.ds_next
    refine hno _ ?_
    cases x with
    | none => rfl
    | some i =>
      cases y with
      | none => rfl
      | some j =>
        exfalso
        rw [decide_eq_true (show 0 ≤ optI (some i) from Int.natCast_nonneg i), decide_eq_true (show 0 ≤ optI (some j) from Int.natCast_nonneg j)] at hb
        cases hb

def shiftMany (ws : List Wish) (ps : List Int) (i j : Nat) : Int := min (pAt ps i) (amtAt ws j - pAt ps j)
def shiftTake (ws : List Wish) (ps : List Int) (i j : Nat) (cell : Int) : Int := 1 + cell / 7 % shiftMany ws ps i j
def shiftStop (ws : List Wish) (ps : List Int) (i j : Nat) (cell : Int) : Bool := decide (cell % 2 = 1) || (decide (pAt ps i = amtAt ws i) || decide (pAt ps j = amtAt ws j))
def shiftStep (ws : List Wish) (ps : List Int) (i j : Nat) (cell : Int) : Int := if shiftStop ws ps i j cell = true then -1 else 1
def shiftN (ws : List Wish) (ps : List Int) (i j : Nat) (cell : Int) : List Int :=
  if (wAt ws i).buy = (wAt ws j).buy then (if (!decide (i = j) && decide (0 < shiftMany ws ps i j)) = true then addAt (subAt ps i (shiftTake ws ps i j cell)) j (shiftTake ws ps i j cell) else ps)
  else if (decide (shiftStep ws ps i j cell = 1) || (decide (0 < pAt ps i) && decide (0 < pAt ps j))) = true then addAt (addAt ps i (shiftStep ws ps i j cell)) j (shiftStep ws ps i j cell) else ps
def spotOf (ws : List Wish) (cell : Int) : Nat := (cell % (ws.length : Int)).toNat
def shifted (ws : List Wish) (ps : List Int) (cell : Int) : List Int := if ws.length = 0 then ps else shiftN ws ps (spotOf ws cell) (spotOf ws (cell / 211)) cell
theorem spot_lt {ws : List Wish} (h : 0 < ws.length) (cell : Int) : spotOf ws cell < ws.length ∧ cell % (ws.length : Int) = (spotOf ws cell : Int) := by
  unfold spotOf
  have h1 := Int.emod_nonneg cell (b := (ws.length : Int)) (by omega)
  have h2 := Int.emod_lt_of_pos cell (b := (ws.length : Int)) (by omega)
  omega
theorem shiftN_ok {ws : List Wish} {ps : List Int} {i j : Nat} (cell : Int) (h : PiecesOk ws ps) (hb : sideOf ws ps true = sideOf ws ps false) (hi : i < ws.length) (hj : j < ws.length) : PiecesOk ws (shiftN ws ps i j cell) ∧ sideOf ws (shiftN ws ps i j cell) true = sideOf ws (shiftN ws ps i j cell) false := by
  have hn := h.len
  have hpi := h.ok i hi
  have hpj := h.ok j hj
  unfold shiftN
  split
  · rename_i hs
    split
    · rename_i hc
      rw [Bool.and_eq_true, decide_eq_true_eq, Bool.not_eq_true', decide_eq_false_iff_not] at hc
      obtain ⟨hij, hm⟩ := hc
      have m1 := Int.emod_nonneg (cell / 7) (b := shiftMany ws ps i j) (by omega)
      have m2 := Int.emod_lt_of_pos (cell / 7) hm
      have m3 : 1 ≤ shiftTake ws ps i j cell ∧ shiftTake ws ps i j cell ≤ shiftMany ws ps i j := by
        unfold shiftTake
        omega
      have m4 : shiftMany ws ps i j = min (pAt ps i) (amtAt ws j - pAt ps j) := rfl
      generalize shiftTake ws ps i j cell = t at m3
      refine ⟨⟨by rw [addAt_len, subAt_len]; exact hn, fun k hk => ?_⟩, ?_⟩
      · have := h.ok k hk
        rw [pAt_addAt (by rw [subAt_len]; omega), pAt_subAt (by omega), pAt_subAt (by omega), if_neg (show ¬ j = i from fun e => hij e.symm)]
        split
        · rename_i e
          rw [e]
          omega
        · split
          · rename_i e
            rw [e]
            omega
          · omega
      · rw [sideOf_addAt true (by rw [subAt_len]; exact hn) hj, sideOf_subAt true hn hi, sideOf_addAt false (by rw [subAt_len]; exact hn) hj, sideOf_subAt false hn hi, hb, hs]
        split <;> split <;> omega
    · exact ⟨h, hb⟩
  · rename_i hs
    split
    · rename_i hc
      have hij : i ≠ j := fun e => hs (by rw [e])
      have st : shiftStep ws ps i j cell = if shiftStop ws ps i j cell = true then -1 else 1 := rfl
      have st1 : 0 ≤ pAt ps i + shiftStep ws ps i j cell ∧ pAt ps i + shiftStep ws ps i j cell ≤ amtAt ws i ∧ 0 ≤ pAt ps j + shiftStep ws ps i j cell ∧ pAt ps j + shiftStep ws ps i j cell ≤ amtAt ws j := by
        rw [Bool.or_eq_true, Bool.and_eq_true, decide_eq_true_eq, decide_eq_true_eq, decide_eq_true_eq] at hc
        by_cases q : shiftStop ws ps i j cell = true
        · rw [if_pos q] at st
          omega
        · rw [if_neg q] at st
          unfold shiftStop at q
          simp only [Bool.or_eq_true, decide_eq_true_eq, not_or] at q
          omega
      generalize shiftStep ws ps i j cell = t at st1
      refine ⟨⟨by rw [addAt_len, addAt_len]; exact hn, fun k hk => ?_⟩, ?_⟩
      · have := h.ok k hk
        rw [pAt_addAt (by rw [addAt_len]; omega), pAt_addAt (by omega), pAt_addAt (by omega), if_neg (show ¬ j = i from fun e => hij e.symm)]
        split
        · rename_i e
          rw [e]
          omega
        · split
          · rename_i e
            rw [e]
            omega
          · omega
      · rw [sideOf_addAt true (by rw [addAt_len]; exact hn) hj, sideOf_addAt true hn hi, sideOf_addAt false (by rw [addAt_len]; exact hn) hj, sideOf_addAt false hn hi, hb]
        cases hx : (wAt ws i).buy <;> cases hy : (wAt ws j).buy <;> rw [hx, hy] at hs <;> simp at hs ⊢
    · exact ⟨h, hb⟩
theorem shifted_ok {ws : List Wish} {ps : List Int} (cell : Int) (h : PiecesOk ws ps) (hb : sideOf ws ps true = sideOf ws ps false) : PiecesOk ws (shifted ws ps cell) ∧ sideOf ws (shifted ws ps cell) true = sideOf ws (shifted ws ps cell) false := by
  unfold shifted
  split
  · exact ⟨h, hb⟩
  · exact shiftN_ok cell h hb (spot_lt (by omega) cell).1 (spot_lt (by omega) (cell / 211)).1
def R__law_shifted (c : Cs) (ds : List PyData) (o : Out) : Prop := ∃ ws ps cell, ds = [wsD ws, intsD ps, .int cell] ∧ o = .ret (intsD (shifted ws ps cell)) ∧ ps.length = ws.length ∧ ws.length ≤ 10000
-- slots of _law_shifted: 0 _law_wishes 1 _law_pieces 2 _law_cell 3 _law_found 4 _law_one 5 _law_other 6 _law_many 7 _law_step
def t__law_shifted (K : PySem.W.Frag) (c : Cs) (E : XK) : TS :=
  (tSeq (tAsg (tCB (rListOf K) (tCons (tVar 1) tNil)) (gName 3))
    (tSeq (tIfS (tTest (tOp rEq (tCB (rLenSq K) (tCons (tVar 0) tNil)) (tC (.int 0)))) (tRet (tVar 3)) tNext)
    (tSeq (tAsg (tOp rModI (tVar 2) (tCB (rLenSq K) (tCons (tVar 0) tNil))) (gName 4))
    (tSeq (tAsg (tOp rModI (tOp rDivI (tVar 2) (tC (.int 211))) (tCB (rLenSq K) (tCons (tVar 0) tNil))) (gName 5))
    (tSeq (tIfS (tTest (tOp rEq (tOp (rIxT K) (tOp (rIxL K) (tVar 0) (tVar 4)) (tC (.int 0))) (tOp (rIxT K) (tOp (rIxL K) (tVar 0) (tVar 5)) (tC (.int 0))))) (tSeq (tAsg (tCB rMin2 (tCons (tOp (rIxL K) (tVar 3) (tVar 4)) (tCons (tOp rSubI (tOp (rIxT K) (tOp (rIxL K) (tVar 0) (tVar 5)) (tC (.int 2))) (tOp (rIxL K) (tVar 3) (tVar 5))) tNil))) (gName 6))
    (tSeq (tIfS (tAnd (tTest (tOp rNe (tVar 4) (tVar 5))) (tTest (tOp rGtI (tVar 6) (tC (.int 0))))) (tSeq (tAsg (tOp rAddI (tC (.int 1)) (tOp rModI (tOp rDivI (tVar 2) (tC (.int 7))) (tVar 6))) (gName 6))
    (tSeq (tAsg (tOp rSubI (tOp (rIxL K) (tVar 3) (tVar 4)) (tVar 6)) (gSub (tVar 3) (tVar 4) rSetL))
    (tAsg (tOp rAddI (tOp (rIxL K) (tVar 3) (tVar 5)) (tVar 6)) (gSub (tVar 3) (tVar 5) rSetL)))) tNext)
    (tRet (tVar 3)))) tNext)
    (tSeq (tAsg (tC (.int 1)) (gName 7))
    (tSeq (tIfS (tOr (tTest (tOp rEq (tOp rModI (tVar 2) (tC (.int 2))) (tC (.int 1)))) (tOr (tTest (tOp rEq (tOp (rIxL K) (tVar 3) (tVar 4)) (tOp (rIxT K) (tOp (rIxL K) (tVar 0) (tVar 4)) (tC (.int 2))))) (tTest (tOp rEq (tOp (rIxL K) (tVar 3) (tVar 5)) (tOp (rIxT K) (tOp (rIxL K) (tVar 0) (tVar 5)) (tC (.int 2))))))) (tAsg (tUn rNegI (tC (.int 1))) (gName 7)) tNext)
    (tSeq (tIfS (tOr (tTest (tOp rEq (tVar 7) (tC (.int 1)))) (tAnd (tTest (tOp rGtI (tOp (rIxL K) (tVar 3) (tVar 4)) (tC (.int 0)))) (tTest (tOp rGtI (tOp (rIxL K) (tVar 3) (tVar 5)) (tC (.int 0)))))) (tSeq (tAsg (tOp rAddI (tOp (rIxL K) (tVar 3) (tVar 4)) (tVar 7)) (gSub (tVar 3) (tVar 4) rSetL))
    (tAsg (tOp rAddI (tOp (rIxL K) (tVar 3) (tVar 5)) (tVar 7)) (gSub (tVar 3) (tVar 5) rSetL))) tNext)
    (tRet (tVar 3))))))))))
theorem len__law_shifted {c : Cs} : ∀ ds o, R__law_shifted c ds o → ds.length = 3 := by
  intro ds o h
  grind (ematch := 14) (gen := 20) [R__law_shifted]
theorem two_puts {K : PySem.W.Frag} {E : XK} {ws : List Wish} {ps : List Int} {i j q : Nat} {cell x y : Int} {s6 s7 : Slot} {t1 t2 : R2} (hn : ps.length = ws.length) (hi : i < ws.length) (hj : j < ws.length) (P : Post) (h1 : ∀ a : Int, D2 K t1 (.int a) (.int x) (.int (a + y))) (h2 : ∀ a : Int, D2 K t2 (.int a) (.int x) (.int (a + x))) (hq : [Slot.val (wsD ws), .val (intsD ps), .val (.int cell), .own (ps.map PyData.int), .val (.int (i : Int)), .val (.int (j : Int)), s6, s7][q]? = some (.val (.int x))) (hq3 : q ≠ 3)
    (k : P.nx [.val (wsD ws), .val (intsD ps), .val (.int cell), .own ((addAt (addAt ps i y) j x).map PyData.int), .val (.int (i : Int)), .val (.int (j : Int)), s6, s7]) :
    DS K E (tSeq (tAsg (tOp t1 (tOp (rIxL K) (tVar 3) (tVar 4)) (tVar q)) (gSub (tVar 3) (tVar 4) rSetL)) (tAsg (tOp t2 (tOp (rIxL K) (tVar 3) (tVar 5)) (tVar q)) (gSub (tVar 3) (tVar 5) rSetL))) [.val (wsD ws), .val (intsD ps), .val (.int cell), .own (ps.map PyData.int), .val (.int (i : Int)), .val (.int (j : Int)), s6, s7] P := by
  have hx := pAt_get (ps := ps) (k := i) (by omega)
  have hy : (addAt ps i y)[j]? = some (pAt (addAt ps i y) j) := pAt_get (by rw [addAt_len]; omega)
  have hv : ∀ xs : List PyData, (see [Slot.val (wsD ws), .val (intsD ps), .val (.int cell), .own xs, .val (.int (i : Int)), .val (.int (j : Int)), s6, s7])[q]? = some (some (.int x)) := by
    intro xs
    unfold see
    rw [List.getElem?_map]
    match q, hq, hq3 with
    | 0, hq, _ => rw [show [Slot.val (wsD ws), .val (intsD ps), .val (.int cell), .own xs, .val (.int (i : Int)), .val (.int (j : Int)), s6, s7][0]? = some (.val (.int x)) from hq]; rfl
    | 1, hq, _ => rw [show [Slot.val (wsD ws), .val (intsD ps), .val (.int cell), .own xs, .val (.int (i : Int)), .val (.int (j : Int)), s6, s7][1]? = some (.val (.int x)) from hq]; rfl
    | 2, hq, _ => rw [show [Slot.val (wsD ws), .val (intsD ps), .val (.int cell), .own xs, .val (.int (i : Int)), .val (.int (j : Int)), s6, s7][2]? = some (.val (.int x)) from hq]; rfl
    | 3, _, h => exact absurd rfl h
    | 4, hq, _ => rw [show [Slot.val (wsD ws), .val (intsD ps), .val (.int cell), .own xs, .val (.int (i : Int)), .val (.int (j : Int)), s6, s7][4]? = some (.val (.int x)) from hq]; rfl
    | 5, hq, _ => rw [show [Slot.val (wsD ws), .val (intsD ps), .val (.int cell), .own xs, .val (.int (i : Int)), .val (.int (j : Int)), s6, s7][5]? = some (.val (.int x)) from hq]; rfl
    | 6, hq, _ => rw [show [Slot.val (wsD ws), .val (intsD ps), .val (.int cell), .own xs, .val (.int (i : Int)), .val (.int (j : Int)), s6, s7][6]? = some (.val (.int x)) from hq]; rfl
    | 7, hq, _ => rw [show [Slot.val (wsD ws), .val (intsD ps), .val (.int cell), .own xs, .val (.int (i : Int)), .val (.int (j : Int)), s6, s7][7]? = some (.val (.int x)) from hq]; rfl
    | n + 8, hq, _ => cases hq
  apply VS.q_put (i := 3) (xs := ps.map PyData.int) (d := .int (pAt ps i + y)) (n := (i : Int)) (k0 := i)
  · exact VS.de_op (VS.de_op (VS.de_var rfl) (VS.de_var rfl) (VS.d2_ixL (VS.atI_map hx))) (VS.de_var (hv _)) (h1 _)
  · rfl
  · rfl
  · walk_at "ev"
  · exact Evl.ixN_nat (by rw [List.length_map]; omega)
  rw [← List.map_set]
  apply VS.ds_put (i := 3) (xs := (addAt ps i y).map PyData.int) (d := .int (pAt (addAt ps i y) j + x)) (n := (j : Int)) (k0 := j)
  · exact VS.de_op (VS.de_op (VS.de_var rfl) (VS.de_var rfl) (VS.d2_ixL (VS.atI_map hy))) (VS.de_var (hv _)) (h2 _)
  · rfl
  · rfl
  · walk_at "ev"
  · exact Evl.ixN_nat (by rw [List.length_map, addAt_len]; omega)
  · rw [← List.map_set]
    exact k
theorem subAt_add (ps : List Int) (k : Nat) (m : Int) : subAt ps k m = addAt ps k (-m) := by
  unfold subAt addAt
  rw [Int.sub_eq_add_neg]
theorem body__law_shifted {K : PySem.W.Frag} {c : Cs} {E : XK} : ∀ ds o, R__law_shifted c ds o → DS K E (t__law_shifted K c E) (slots 8 ds) o.post := by
  rintro _ _ ⟨ws, ps, cell, rfl, rfl, hn, hl⟩
  unfold t__law_shifted
  apply VS.q_new (xs := ps.map PyData.int)
  · walk_at "ev"
  unfold shifted
  apply VS.q_if (b := decide (((ws.length : Nat) : Int) = 0))
  · refine VS.dt_to (b := decide ((((ws.map wishD).length : Nat) : Int) = 0)) ?_ (by rw [List.length_map])
    walk_at "ev"
  · intro hb
    have hb := of_decide_eq_true hb
    rw [if_pos (by omega)]
    apply VS.ds_ret
    · exact VS.de_var rfl
    · exact VS.post_ret rfl
  intro hb
  have hb := of_decide_eq_false hb
  rw [if_neg (by omega)]
  obtain ⟨i1, i2⟩ := spot_lt (ws := ws) (by omega) cell
  obtain ⟨j1, j2⟩ := spot_lt (ws := ws) (by omega) (cell / 211)
  generalize spotOf ws cell = i at i1 i2
  generalize spotOf ws (cell / 211) = j at j1 j2
  have hwi := wAt_get i1
  have hwj := wAt_get j1
  have hxi := pAt_get (ps := ps) (k := i) (by omega)
  have hxj := pAt_get (ps := ps) (k := j) (by omega)
  have hai : amtAt ws i = (wAt ws i).amount := rfl
  have haj : amtAt ws j = (wAt ws j).amount := rfl
  apply VS.q_set (d := .int (i : Int))
  · rw [← i2]
    refine VS.de_op (x := .int cell) (VS.de_var rfl) (VS.de_to (VS.de_cb (VS.da_cons (VS.de_var rfl) VS.da_nil) VS.dc_len) (by rw [List.length_map])) (VS.d2_mod (by omega))
  · rfl
  apply VS.q_set (d := .int (j : Int))
  · rw [← j2]
    refine VS.de_op (x := .int (cell / 211)) (by walk_at "ev") (VS.de_to (VS.de_cb (VS.da_cons (VS.de_var rfl) VS.da_nil) VS.dc_len) (by rw [List.length_map])) (VS.d2_mod (by omega))
  · rfl
  unfold shiftN
  apply VS.q_if (b := (wAt ws i).buy == (wAt ws j).buy)
  · refine VS.dt_to (b := decide (sideS (wAt ws i).buy = sideS (wAt ws j).buy)) ?_ sideS_eq
    walk_at "ev"
  · intro hs
    rw [if_pos (beq_iff_eq.mp hs)]
    apply VS.q_set (d := .int (shiftMany ws ps i j))
    · unfold shiftMany
      rw [haj]
      walk_at "ev"
    · rfl
    have e : shiftTake ws ps i j cell = 1 + cell / 7 % shiftMany ws ps i j := rfl
    generalize shiftTake ws ps i j cell = t at e
    generalize shiftMany ws ps i j = m at e
    apply VS.ds_seq
    apply VS.ds_if (b := !decide (i = j) && decide (0 < m))
    · refine VS.dt_to (b := !decide ((i : Int) = (j : Int)) && decide (0 < m)) ?_ (by rw [show decide ((i : Int) = (j : Int)) = decide (i = j) from decide_eq_decide.mpr Int.ofNat_inj])
      walk_at "ev"
    · intro hc
      rw [if_pos hc]
      have hc2 := of_decide_eq_true (Bool.and_eq_true_iff.mp hc).2
      apply VS.q_set (d := .int t)
      · rw [e]
        refine VS.de_op VS.de_int (VS.de_op (x := .int (cell / 7)) (by walk_at "ev") (VS.de_var rfl) (VS.d2_mod hc2)) VS.d2_add
      · rfl
      refine two_puts (q := 6) (x := t) (y := -t) hn i1 j1 _ (fun a => ?_) (fun a => VS.d2_add) rfl (by decide) ?_
      · rw [← Int.sub_eq_add_neg]
        exact VS.d2_sub
      · show DS K E (tRet (tVar 3)) _ _
        apply VS.ds_ret
        · exact VS.de_var rfl
        · exact VS.post_ret (by rw [subAt_add])
    · intro hc
      rw [if_neg (by rw [hc]; decide)]
      apply VS.ds_next
      show DS K E (tRet (tVar 3)) _ _
      apply VS.ds_ret
      · exact VS.de_var rfl
      · exact VS.post_ret rfl
  · intro hs
    rw [if_neg (by simpa using hs)]
    apply VS.q_set
    · walk_at "ev"
    · rfl
    apply VS.q_ifset (b := shiftStop ws ps i j cell) (d := .int (shiftStep ws ps i j cell))
    · unfold shiftStop
      rw [hai, haj]
      walk_at "ev"
    · intro hc
      unfold shiftStep
      rw [if_pos hc]
      walk_at "ev"
    · rfl
    · intro hc
      unfold shiftStep
      rw [if_neg (by rw [hc]; decide)]
      rfl
    generalize shiftStep ws ps i j cell = t
    apply VS.ds_seq
    apply VS.ds_if (b := decide (t = 1) || (decide (0 < pAt ps i) && decide (0 < pAt ps j)))
    · walk_at "ev"
    · intro hc
      rw [if_pos hc]
      refine two_puts (q := 7) (x := t) (y := t) hn i1 j1 _ (fun a => VS.d2_add) (fun a => VS.d2_add) rfl (by decide) ?_
      show DS K E (tRet (tVar 3)) _ _
      apply VS.ds_ret
      · exact VS.de_var rfl
      · exact VS.post_ret rfl
    · intro hc
      rw [if_neg (by rw [hc]; decide)]
      apply VS.ds_next
      show DS K E (tRet (tVar 3)) _ _
      apply VS.ds_ret
      · exact VS.de_var rfl
      · exact VS.post_ret rfl

def R__law_pairs_good (c : Cs) (ds : List PyData) (o : Out) : Prop := ∃ ws ps D p, ds = [dealsD D, wsD ws, intsD ps, .int p] ∧ o = .ret (.bool true) ∧ PairsOk ws ps D ∧ ps.length = ws.length ∧ ws.length ≤ 10000 ∧ ∀ d ∈ D, (wAt ws d.s).limit ≤ p ∧ p ≤ (wAt ws d.b).limit
-- slots of _law_pairs_good: 0 _law_found 1 _law_wishes 2 _law_pieces 3 _law_price 4 _law_left 5 _law_deal 6 _law_buyer 7 _law_seller 8 _law_wish
def t__law_pairs_good (K : PySem.W.Frag) (c : Cs) (E : XK) : TS :=
  (tSeq (tIfS (tNot (tB (tCB (rIsi K) (tCons (tVar 0) (tCons (tC (.ty "list")) tNil))))) (tRet (tC (.bl false))) tNext)
    (tSeq (tAsg (tCB (rListOf K) (tCons (tVar 2) tNil)) (gName 4))
    (tSeq (tFor (iList K (tVar 0)) (gName 5) (tSeq (tIfS (tOr (tNot (tB (tCB (rIsi K) (tCons (tVar 5) (tCons (tC (.ty "tuple")) tNil))))) (tOr (tNot (tB (tCall (spD K (R__law_numbers c)) [] E0 (tCons (tCB (rListOf K) (tCons (tVar 5) tNil)) (tCons (tC (.int 3)) tNil))))) (tTest (tOp rLtI (tOp (rIxT K) (tVar 5) (tC (.int 2))) (tC (.int 1)))))) (tRet (tC (.bl false))) tNext)
    (tSeq (tIfS (tOr (tNot (tTest (tChain rLeI rLtI (tC (.int 0)) (tOp (rIxT K) (tVar 5) (tC (.int 0))) (tCB (rLenSq K) (tCons (tVar 1) tNil))))) (tNot (tTest (tChain rLeI rLtI (tC (.int 0)) (tOp (rIxT K) (tVar 5) (tC (.int 1))) (tCB (rLenSq K) (tCons (tVar 1) tNil)))))) (tRet (tC (.bl false))) tNext)
    (tSeq (tAsg (tOp (rIxL K) (tVar 1) (tOp (rIxT K) (tVar 5) (tC (.int 0)))) (gName 6))
    (tSeq (tAsg (tOp (rIxL K) (tVar 1) (tOp (rIxT K) (tVar 5) (tC (.int 1)))) (gName 7))
    (tSeq (tIfS (tOr (tTest (tOp rNe (tOp (rIxT K) (tVar 6) (tC (.int 0))) (tC (.str "buy")))) (tOr (tTest (tOp rNe (tOp (rIxT K) (tVar 7) (tC (.int 0))) (tC (.str "sell")))) (tNot (tTest (tChain rLeI rLeI (tOp (rIxT K) (tVar 7) (tC (.int 1))) (tVar 3) (tOp (rIxT K) (tVar 6) (tC (.int 1)))))))) (tRet (tC (.bl false))) tNext)
    (tSeq (tAsg (tOp rSubI (tOp (rIxL K) (tVar 4) (tOp (rIxT K) (tVar 5) (tC (.int 0)))) (tOp (rIxT K) (tVar 5) (tC (.int 2)))) (gSub (tVar 4) (tOp (rIxT K) (tVar 5) (tC (.int 0))) rSetL))
    (tAsg (tOp rSubI (tOp (rIxL K) (tVar 4) (tOp (rIxT K) (tVar 5) (tC (.int 1)))) (tOp (rIxT K) (tVar 5) (tC (.int 2)))) (gSub (tVar 4) (tOp (rIxT K) (tVar 5) (tC (.int 1))) rSetL)))))))))
    (tRet (tOp (rEqD K) (tVar 4) (tLc (iList K (tVar 1)) (gName 8) tYes (tC (.int 0)) [8]))))))
theorem len__law_pairs_good {c : Cs} : ∀ ds o, R__law_pairs_good c ds o → ds.length = 4 := by
  intro ds o h
  grind (ematch := 14) (gen := 20) [R__law_pairs_good]
theorem body__law_pairs_good {K : PySem.W.Frag} {c : Cs} {E : XK} : ∀ ds o, R__law_pairs_good c ds o → DS K E (t__law_pairs_good K c E) (slots 9 ds) o.post := by
  rintro _ _ ⟨ws, ps, D, p, rfl, rfl, hD, hn, hl, hp⟩
  unfold t__law_pairs_good
  have hfew := hD.few
  apply VS.q_guard
  · refine VS.dt_to (b := !true) ?_ rfl
    walk_at "ev"
  apply VS.q_new (xs := ps.map PyData.int)
  · walk_at "ev"
  apply VS.q_for (xs := D.map dealD) (W := fun k es => ∃ s5 s6 s7, es = [.val (dealsD D), .val (wsD ws), .val (intsD ps), .val (.int p), .own (((D.take k).foldl applyD ps).map PyData.int), s5, s6, s7, .no])
  · exact VS.de_var rfl
  · exact ⟨.no, .no, .no, rfl⟩
  · rintro k x _ hk ⟨s5, s6, s7, rfl⟩
    obtain ⟨d, hd, rfl⟩ := map_at hk
    have hmem := List.mem_of_getElem? hd
    have hok := hD.ok _ hmem
    have hpd := hp _ hmem
    have hfs := foldl_snoc (ps := ps) hd
    have hfl : ((D.take k).foldl applyD ps).length = ws.length := by rw [foldl_len]; exact hn
    rw [hfs]
    generalize (D.take k).foldl applyD ps = left at hfl
    obtain ⟨b, s, m⟩ := d
    have hb : b < ws.length := hok.bl
    have hs : s < ws.length := hok.sl
    have hm : 1 ≤ m := hok.many
    have hbuy : (wAt ws b).buy = true := hok.buy
    have hsell : (wAt ws s).buy = false := hok.sell
    have hp1 : (wAt ws s).limit ≤ p := hpd.1
    have hp2 : p ≤ (wAt ws b).limit := hpd.2
    have hwb := wAt_get hb
    have hws := wAt_get hs
    show DS K E _ [.val (dealsD D), .val (wsD ws), .val (intsD ps), .val (.int p), .own (left.map PyData.int), .val (.tuple [.int (b : Int), .int (s : Int), .int m]), s6, s7, .no] _
    apply VS.q_guard
    · refine VS.dt_to (b := !true || (!decide ((([(b : Int), (s : Int), m].length : Nat) : Int) = 3) || decide (m < 1))) ?_ ?_
      · refine VS.dt_orU ?_ (VS.dt_orU (VS.dt_not (VS.dt_B (VS.de_call (xs := [.list [.int (b : Int), .int (s : Int), .int m], .int 3]) ?_ ⟨[(b : Int), (s : Int), m], 3, rfl, rfl⟩))) ?_)
        · walk_at "ev"
        · walk_at "ev"
        · walk_at "ev"
      · rw [decide_eq_false (show ¬ m < 1 by omega)]
        rfl
    apply VS.q_guard
    · refine VS.dt_to (b := !(decide ((0 : Int) ≤ (b : Int)) && decide ((b : Int) < (((ws.map wishD).length : Nat) : Int))) || !(decide ((0 : Int) ≤ (s : Int)) && decide ((s : Int) < (((ws.map wishD).length : Nat) : Int)))) ?_ ?_
      · walk_at "ev"
      · rw [List.length_map, decide_eq_true (by omega), decide_eq_true (by omega), decide_eq_true (by omega), decide_eq_true (by omega)]
        rfl
    apply VS.q_let (d := wishD (wAt ws b))
    · walk_at "ev"
    apply VS.q_let (d := wishD (wAt ws s))
    · walk_at "ev"
    apply VS.q_guard
    · refine VS.dt_to (b := !decide (sideS (wAt ws b).buy = "buy") || (!decide (sideS (wAt ws s).buy = "sell") || !(decide ((wAt ws s).limit ≤ p) && decide (p ≤ (wAt ws b).limit)))) ?_ ?_
      · walk_at "ev"
      · rw [sideS_buy, sideS_sell, hbuy, hsell, decide_eq_true hp1, decide_eq_true hp2]
        rfl
    have h1 := pAt_get (ps := left) (k := b) (by omega)
    have h2 : (subAt left b m)[s]? = some (pAt (subAt left b m) s) := pAt_get (by rw [subAt_len]; omega)
    apply VS.q_put (i := 4) (xs := left.map PyData.int) (d := .int (pAt left b - m)) (n := (b : Int)) (k0 := b)
    · walk_at "ev"
    · rfl
    · rfl
    · walk_at "ev"
    · exact Evl.ixN_nat (by rw [List.length_map]; omega)
    rw [← List.map_set]
    apply VS.ds_put (i := 4) (xs := (subAt left b m).map PyData.int) (d := .int (pAt (subAt left b m) s - m)) (n := (s : Int)) (k0 := s)
    · show DE K _ (see [.val (dealsD D), .val (wsD ws), .val (intsD ps), .val (.int p), .own ((subAt left b m).map PyData.int), .val (.tuple [.int (b : Int), .int (s : Int), .int m]), .val (wishD (wAt ws b)), .val (wishD (wAt ws s)), .no]) _
      walk_at "ev"
    · rfl
    · rfl
    · walk_at "ev"
    · exact Evl.ixN_nat (by rw [List.length_map, subAt_len]; omega)
    · rw [← List.map_set]
      exact ⟨_, _, _, rfl⟩
  · rintro _ ⟨s5, s6, s7, rfl⟩
    rw [List.length_map, List.take_length, hD.zero]
    apply VS.ds_ret
    · refine VS.de_op (VS.de_var rfl) (y := .list ((List.replicate ws.length 0).map PyData.int)) ?_ (VS.d2_eqSame (sh_ints _))
      apply VS.de_new
      have q := VS.dn_lcL (K := K) (ds := see [.val (dealsD D), .val (wsD ws), .val (intsD ps), .val (.int p), .own ((List.replicate ws.length 0).map PyData.int), s5, s6, s7, .no]) (te := tC (.int 0)) (tl := tVar 1) (t := tYes) (j := 8) (xs := ws.map wishD) (fun _ => true) (fun _ => .int 0) (VS.de_var rfl) (by rw [List.length_map]; omega) (fun x _ => VS.dt_yes) (fun x _ _ => VS.de_int)
      rw [VS.lcOf_all, List.map_map] at q
      have e : List.map ((fun _ => PyData.int 0) ∘ wishD) ws = (List.replicate ws.length (0 : Int)).map PyData.int := by
        rw [List.map_replicate]
        exact List.map_const' ..
      rw [e] at q
      exact q
    · exact VS.post_ret rfl

def R_law (c : Cs) (ds : List PyData) (o : Out) : Prop := ∃ ns : List Int, ds = [scrD ns] ∧ o = .ret (.bool true) ∧ ns.length ≤ 63 ∧ ∀ z ∈ ns, Builtin.Int.intBits z ≤ 1048576
theorem R_law_mk {c : Cs} {ns : List Int} (hl : ns.length ≤ 63) (hb : ∀ z ∈ ns, Builtin.Int.intBits z ≤ 1048576) : R_law c [scrD ns] (.ret (.bool true)) := ⟨ns, rfl, rfl, hl, hb⟩
theorem lay_ws {ws : List Wish} : (wsD ws).canLay0 = true ∧ (wsD ws).depth ≤ 62 := by
  constructor
  · simp only [wsD, PyData.canLay0]
    exact lay_map fun w _ => (wish_lay w).1
  · simp only [wsD, PyData.depth]
    have := depth_map (f := wishD) (n := 60) (xs := ws) fun x _ => (wish_lay x).2
    omega
theorem lay_ints {ps : List Int} : (intsD ps).canLay0 = true ∧ (intsD ps).depth ≤ 62 := by
  constructor
  · simp only [intsD, PyData.canLay0]
    exact lay_map fun w _ => by simp [PyData.canLay0]
  · simp only [intsD, PyData.depth]
    have := depth_map (f := PyData.int) (n := 60) (xs := ps) fun x _ => by simp [PyData.depth]
    omega
theorem sh_three {ws : List Wish} {ps qs : List Int} : SeqAt.shaped (.list [wsD ws, intsD ps, intsD qs]) = true := by
  unfold SeqAt.shaped
  have h1 := lay_ws (ws := ws)
  have h2 := lay_ints (ps := ps)
  have h3 := lay_ints (ps := qs)
  generalize wsD ws = a at h1
  generalize intsD ps = b at h2
  generalize intsD qs = d at h3
  rw [Bool.and_eq_true, decide_eq_true_eq]
  refine ⟨by simp [PyData.canLay0, PyData.canLayAll0, h1.1, h2.1, h3.1], ?_⟩
  rw [PyData.depth, PyData.depthAll, PyData.depthAll, PyData.depthAll, PyData.depthAll]
  omega
theorem ds_seqQ {K : PySem.W.Frag} {E : XK} {t u : TS} {es : List Slot} {P : Post} (Q : List Slot → Prop) (h : DS K E t es { P with nx := Q }) (k : ∀ es', Q es' → DS K E u es' P) : DS K E (tSeq t u) es P :=
  VS.ds_seq fun F0 H0 F H σ D A M => h F0 H0 F H σ D A ⟨fun F' H' σ' es' e A' q => M.nx F' H' σ' es' e A' (k es' q), M.bk, M.ct, M.rt, M.ex⟩
theorem piece_willing {ws : List Wish} {p : Int} {k : Nat} (h : 1 ≤ piece ws p k) : willing (wAt ws k) p = true := by
  by_cases q : willing (wAt ws k) p = true
  · exact q
  · unfold piece at h
    rw [if_neg q] at h
    omega
-- slots of law: 0 _law_script 1 _law_wishes 2 _law_old 3 _law_others 4 _law_price 5 _law_found 6 _law_k 7 _law_handed 8 _law_best 9 _law_due 10 _law_made
def t_law (K : PySem.W.Frag) (c : Cs) (E : XK) : TS :=
  (tSeq (tAsg (tCall (spD K (R__law_wishes_by c)) [] E0 (tCons (tVar 0) (tCons (tC (.int 5)) (tCons (tC (.int 30)) tNil)))) (gName 1))
    (tSeq (tAsg (tCall (spD K (R__law_price_by c)) [] E0 (tCons (tVar 1) (tCons (tCall (spD K (R__law_cell_at c)) [] E0 (tCons (tVar 0) (tCons (tC (.int 2)) tNil))) (tCons (tCall (spD K (R__law_cell_at c)) [] E0 (tCons (tVar 0) (tCons (tC (.int 3)) tNil))) tNil)))) (gName 2))
    (tSeq (tAsg (tCall (spD K (R__law_evened c)) [] E0 (tCons (tVar 1) (tCons (tCall (spD K (R__law_pieces_by c)) [] E0 (tCons (tVar 1) (tCons (tCall (spD K (R__law_cell_at c)) [] E0 (tCons (tVar 0) (tCons (tC (.int 4)) tNil))) tNil))) tNil))) (gName 3))
    (tSeq (tAsg (tCall (spD K (R_price_by c)) [] E0 (tCons (tCB (rListOf K) (tCons (tVar 1) tNil)) (tCons (tVar 2) tNil))) (gName 4))
    (tSeq (tIfS (tNot (tB (tCall (spD K (R__law_whole c)) [] E0 (tCons (tVar 4) tNil)))) (tRet (tC (.bl false))) tNext)
    (tSeq (tAsg (tCall (spD K (R_pieces_at c)) [] E0 (tCons (tCB (rListOf K) (tCons (tVar 1) tNil)) (tCons (tVar 4) tNil))) (gName 5))
    (tSeq (tIfS (tNot (tB (tCall (spD K (R__law_numbers c)) [] E0 (tCons (tVar 5) (tCons (tCB (rLenSq K) (tCons (tVar 1) tNil)) tNil))))) (tRet (tC (.bl false))) tNext)
    (tSeq (tFor (iRng1 (tCons (tCB (rLenSq K) (tCons (tVar 1) tNil)) tNil)) (gName 6) (tIfS (tNot (tTest (tChain rLeI rLeI (tC (.int 0)) (tOp (rIxL K) (tVar 5) (tVar 6)) (tOp (rIxT K) (tOp (rIxL K) (tVar 1) (tVar 6)) (tC (.int 2)))))) (tRet (tC (.bl false))) tNext))
    (tSeq (tIfS (tTest (tOp rNe (tCall (spD K (R__law_side c)) [] E0 (tCons (tVar 1) (tCons (tVar 5) (tCons (tC (.str "buy")) tNil)))) (tCall (spD K (R__law_side c)) [] E0 (tCons (tVar 1) (tCons (tVar 5) (tCons (tC (.str "sell")) tNil)))))) (tRet (tC (.bl false))) tNext)
    (tSeq (tIfS (tTest (tOp rEq (tOp rModI (tOp rDivI (tCall (spD K (R__law_cell_at c)) [] E0 (tCons (tVar 0) (tCons (tC (.int 4)) tNil))) (tC (.int 2))) (tC (.int 2))) (tC (.int 1)))) (tSeq (tAsg (tCall (spD K (R__law_one_more c)) [] E0 (tCons (tVar 1) (tCons (tVar 5) tNil))) (gName 3))
    (tIfS (tTest (tOp rGtI (tOp rModI (tOp rDivI (tCall (spD K (R__law_cell_at c)) [] E0 (tCons (tVar 0) (tCons (tC (.int 4)) tNil))) (tC (.int 4))) (tC (.int 3))) (tC (.int 0)))) (tAsg (tCall (spD K (R__law_shifted c)) [] E0 (tCons (tVar 1) (tCons (tVar 5) (tCons (tOp rDivI (tCall (spD K (R__law_cell_at c)) [] E0 (tCons (tVar 0) (tCons (tC (.int 4)) tNil))) (tC (.int 12))) tNil)))) (gName 3)) tNext)) tNext)
    (tSeq (tAsg (tLst (tCons (tCB (rListOf K) (tCons (tVar 1) tNil)) (tCons (tCB (rListOf K) (tCons (tVar 5) tNil)) (tCons (tCB (rListOf K) (tCons (tVar 3) tNil)) tNil)))) (gName 7))
    (tSeq (tAsg (tCall (spD K (R__law_gained c)) [] E0 (tCons (tVar 1) (tCons (tVar 5) (tCons (tC (.int 0)) tNil)))) (gName 8))
    (tSeq (tAsg (tLst (tCons (tVar 8) (tCons (tCall (spD K (R__law_gained c)) [] E0 (tCons (tVar 1) (tCons (tVar 3) (tCons (tC (.int 0)) tNil)))) tNil))) (gName 9))
    (tSeq (tIfS (tOr (tTest (tOp (rNeD K) (tLst (tCons (tCall (spD K (R_worth c)) [] E0 (tCons (tOp (rIxL K) (tVar 7) (tC (.int 0))) (tCons (tOp (rIxL K) (tVar 7) (tC (.int 1))) tNil))) (tCons (tCall (spD K (R_worth c)) [] E0 (tCons (tOp (rIxL K) (tVar 7) (tC (.int 0))) (tCons (tOp (rIxL K) (tVar 7) (tC (.int 2))) tNil))) tNil))) (tVar 9))) (tTest (tOp rGtI (tOp (rIxL K) (tVar 9) (tC (.int 1))) (tVar 8)))) (tRet (tC (.bl false))) tNext)
    (tSeq (tIfS (tTest (tOp rGtI (tCall (spD K (R__law_gained c)) [] E0 (tCons (tVar 1) (tCons (tVar 3) (tCons (tVar 4) tNil)))) (tCall (spD K (R__law_gained c)) [] E0 (tCons (tVar 1) (tCons (tVar 5) (tCons (tVar 4) tNil)))))) (tRet (tC (.bl false))) tNext)
    (tSeq (tAsg (tCall (spD K (R_pairs c)) [] E0 (tCons (tOp (rIxL K) (tVar 7) (tC (.int 0))) (tCons (tOp (rIxL K) (tVar 7) (tC (.int 1))) tNil))) (gName 10))
    (tRet (tAndV (tOp (rEqD K) (tVar 7) (tLst (tCons (tVar 1) (tCons (tVar 5) (tCons (tVar 3) tNil))))) (tCall (spD K (R__law_pairs_good c)) [] E0 (tCons (tVar 10) (tCons (tVar 1) (tCons (tVar 5) (tCons (tVar 4) tNil)))))))))))))))))))))))
theorem len_law {c : Cs} : ∀ ds o, R_law c ds o → ds.length = 1 := by
  intro ds o h
  grind (ematch := 14) (gen := 20) [R_law]
theorem body_law {K : PySem.W.Frag} {c : Cs} {E : XK} : ∀ ds o, R_law c ds o → DS K E (t_law K c E) (slots 11 ds) o.post := by
  rintro _ _ ⟨ns, rfl, rfl, hl, -⟩
  unfold t_law
  apply VS.q_let
  · walk_at "ev"
  have hg : Good (wishesBy ns 5 30) := wishesBy_good ns 5 30
  have hwl : (wishesBy ns 5 30).length ≤ 10000 := Nat.le_trans (wishesBy_len ns 5 30 hl) (by decide)
  generalize wishesBy ns 5 30 = ws at hg hwl
  apply VS.q_set
  · walk_at "ev"
  · rfl
  have hp := priceArg_ok ws (cellAt ns 2) (cellAt ns 3)
  generalize priceArg ws (cellAt ns 2) (cellAt ns 3) = old at hp
  have hps0 := piecesBy_ok hg (cellAt ns 4)
  apply VS.q_let (d := intsD (evened ws (piecesBy ws (cellAt ns 4))))
  · refine VS.de_call (VS.da_cons (VS.de_var rfl) (VS.da_cons (VS.de_call ?_ ⟨ws, cellAt ns 4, rfl, rfl, hg, hwl⟩) VS.da_nil)) ⟨ws, _, rfl, rfl, hps0.len, hwl⟩
    walk_at "ev"
  have hqs := evened_ok hps0
  have hqe := evened_even hps0
  generalize evened ws (piecesBy ws (cellAt ns 4)) = qs at hqs hqe
  obtain ⟨lo, a⟩ := low_ex hg
  obtain ⟨hi, b⟩ := high_ex hg
  obtain ⟨h1, h2, h3⟩ := low_high hg a b
  have l0 := a.lo
  have l1 := a.hi
  have m0 := b.lo
  have m1 := b.hi
  apply VS.q_set
  · apply VS.de_call
    · walk_at "ev"
    · exact ⟨ws, .int old, rfl, rfl, hg, hwl, .inr ⟨old, lo, hi, rfl, hp.1, hp.2, a, b, rfl⟩⟩
  · rfl
  generalize hpe : max lo (min old hi) = p
  have hp0 : 0 ≤ p ∧ p ≤ 1000000000 ∧ lo ≤ p ∧ p ≤ hi := by omega
  have cp := Bool.and_eq_true_iff.mp ((clears_iff hg a b hp0.1 hp0.2.1).mpr hp0.2.2)
  apply VS.q_guard
  · refine VS.dt_to (b := !true) ?_ rfl
    walk_at "ev"
  have hok := piecesN_ok hg p
  have hbal : sideOf ws (piecesN ws p) true = sideOf ws (piecesN ws p) false := by rw [side_pieces hg true p, side_pieces hg false p]
  have hmost : ∀ rs, PiecesOk ws rs → worthTo ws rs p ws.length ≤ worthTo ws (piecesN ws p) p ws.length := fun rs hr => worth_most hg cp.1 cp.2 hr
  have hwill : ∀ k, k < ws.length → 1 ≤ pAt (piecesN ws p) k → willing (wAt ws k) p = true := fun k hk h => by
    rw [pAt_piecesN hk] at h
    exact piece_willing h
  apply VS.q_let (d := intsD (piecesN ws p))
  · refine VS.de_call ?_ ⟨ws, .int p, rfl, rfl, hg, hwl, .inr ⟨p, rfl, hp0.1, hp0.2.1, rfl⟩⟩
    walk_at "ev"
  generalize piecesN ws p = ps at hok hbal hmost hwill
  have hn := hok.len
  apply VS.q_guard
  · refine VS.dt_to (b := !decide (((ps.length : Nat) : Int) = (((ws.map wishD).length : Nat) : Int))) (VS.dt_not (VS.dt_B (VS.de_call ?_ ⟨ps, _, rfl, rfl⟩))) (by rw [hn, List.length_map, decide_eq_true rfl]; rfl)
    walk_at "ev"
  apply VS.q_forR1 (n := (ws.length : Int)) (W := fun n es => ∃ s6, es = [.val (scrD ns), .val (wsD ws), .val (.int old), .val (intsD qs), .val (.int p), .val (intsD ps), s6, .no, .no, .no, .no])
  · refine VS.da_cons (VS.de_to (VS.de_cb (by walk_at "ev") VS.dc_len) (by rw [List.length_map])) VS.da_nil
  · omega
  · exact ⟨.no, rfl⟩
  · rintro k _ hk ⟨s6, rfl⟩
    have hk' : k < ws.length := by omega
    have hw := wAt_get hk'
    have hx := pAt_get (ps := ps) (k := k) (by omega)
    have hkk := hok.ok k hk'
    have hak : amtAt ws k = (wAt ws k).amount := rfl
    rw [hak] at hkk
    refine VS.ds_if (b := !(decide (0 ≤ pAt ps k) && decide (pAt ps k ≤ (wAt ws k).amount))) ?_ (fun z => ?_) fun _ => VS.ds_next ⟨_, rfl⟩
    · walk_at "ev"
    · rw [decide_eq_true hkk.1, decide_eq_true hkk.2] at z
      cases z
  rintro _ ⟨s6, rfl⟩
  apply VS.q_guard
  · refine VS.dt_to (b := !decide (sideOf ws ps true = sideOf ws ps false)) (VS.dt_test (VS.de_op (VS.de_call ?_ ⟨ws, ps, true, rfl, rfl, hn, hwl⟩) (VS.de_call ?_ ⟨ws, ps, false, rfl, rfl, hn, hwl⟩) VS.d2_neI)) (by rw [hbal, decide_eq_true rfl]; rfl)
    · walk_at "ev"
    · walk_at "ev"
  refine ds_seqQ (fun es => ∃ rs, PiecesOk ws rs ∧ sideOf ws rs true = sideOf ws rs false ∧ es = [.val (scrD ns), .val (wsD ws), .val (.int old), .val (intsD rs), .val (.int p), .val (intsD ps), s6, .no, .no, .no, .no]) ?_ ?_
  · have hone := oneMore_ok hok hbal
    have hsh := shifted_ok (cellAt ns 4 / 12) hok hbal
    apply VS.ds_if (b := decide (cellAt ns 4 / 2 % 2 = 1))
    · walk_at "ev"
    · intro hc
      apply VS.q_let (d := intsD (oneMore ws ps))
      · refine VS.de_call ?_ ⟨ws, ps, rfl, rfl, hn, hwl⟩
        walk_at "ev"
      apply VS.ds_if (b := decide (0 < cellAt ns 4 / 4 % 3))
      · walk_at "ev"
      · intro hd
        apply VS.ds_let (d := intsD (shifted ws ps (cellAt ns 4 / 12)))
        · refine VS.de_call ?_ ⟨ws, ps, cellAt ns 4 / 12, rfl, rfl, hn, hwl⟩
          walk_at "ev"
        · exact ⟨_, hsh.1, hsh.2, rfl⟩
      · intro hd
        exact VS.ds_next ⟨_, hone.1, hone.2, rfl⟩
    · intro hc
      exact VS.ds_next ⟨_, hqs, hqe, rfl⟩
  · rintro _ ⟨rs, hr, hre, rfl⟩
    have e1 := worth_even hbal p
    have e2 := worth_even hre p
    have e3 := hmost rs hr
    have hD := pairsN_ok hok hbal
    apply VS.q_let (d := .list [wsD ws, intsD ps, intsD rs])
    · walk_at "ev"
    apply VS.q_set (d := .int (worthTo ws ps 0 ws.length))
    · refine VS.de_call ?_ ⟨ws, ps, 0, rfl, rfl, hn, hg, by decide, by decide, hwl⟩
      walk_at "ev"
    · rfl
    apply VS.q_let (d := intsD [worthTo ws ps 0 ws.length, worthTo ws rs 0 ws.length])
    · refine VS.de_lst (VS.da_cons (VS.de_var rfl) (VS.da_cons (VS.de_call ?_ ⟨ws, rs, 0, rfl, rfl, hr.len, hg, by decide, by decide, hwl⟩) VS.da_nil)) (Nat.le_of_ble_eq_true rfl)
      walk_at "ev"
    apply VS.q_guard
    · refine VS.dt_to (b := false || decide (worthTo ws ps 0 ws.length < worthTo ws rs 0 ws.length)) ?_ (by rw [decide_eq_false (by omega)]; rfl)
      refine VS.dt_orU (VS.dt_test (VS.de_op (x := intsD [worthTo ws ps 0 ws.length, worthTo ws rs 0 ws.length]) ?_ (VS.de_var rfl) (VS.d2_neSame (sh_ints _)))) ?_
      · refine VS.de_lst (VS.da_cons (VS.de_call (xs := [wsD ws, intsD ps]) ?_ ⟨ws, _, rfl, plain_ints ps, hg, hwl, .inr ⟨ps, rfl, hok, rfl⟩⟩) (VS.da_cons (VS.de_call (xs := [wsD ws, intsD rs]) ?_ ⟨ws, _, rfl, plain_ints rs, hg, hwl, .inr ⟨rs, rfl, hr, rfl⟩⟩) VS.da_nil)) (Nat.le_of_ble_eq_true rfl)
        · exact VS.da_cons (VS.de_op (VS.de_var rfl) VS.de_int (VS.d2_ixL rfl)) (VS.da_cons (VS.de_op (VS.de_var rfl) VS.de_int (VS.d2_ixL rfl)) VS.da_nil)
        · exact VS.da_cons (VS.de_op (VS.de_var rfl) VS.de_int (VS.d2_ixL rfl)) (VS.da_cons (VS.de_op (VS.de_var rfl) VS.de_int (VS.d2_ixL rfl)) VS.da_nil)
      · exact VS.dt_test (VS.de_op (VS.de_op (VS.de_var rfl) VS.de_int (VS.d2_ixL rfl)) (VS.de_var rfl) VS.d2_gt)
    apply VS.q_guard
    · refine VS.dt_to (b := decide (worthTo ws ps p ws.length < worthTo ws rs p ws.length)) (VS.dt_test (VS.de_op (VS.de_call ?_ ⟨ws, rs, p, rfl, rfl, hr.len, hg, hp0.1, hp0.2.1, hwl⟩) (VS.de_call ?_ ⟨ws, ps, p, rfl, rfl, hn, hg, hp0.1, hp0.2.1, hwl⟩) VS.d2_gt)) (decide_eq_false (by omega))
      · walk_at "ev"
      · walk_at "ev"
    apply VS.q_let (d := dealsD (pairsN ws ps))
    · refine VS.de_call (xs := [wsD ws, intsD ps]) ?_ ⟨ws, _, rfl, plain_ints ps, hwl, .inr ⟨ps, rfl, hok, .inr ⟨hbal, rfl⟩⟩⟩
      exact VS.da_cons (VS.de_op (VS.de_var rfl) VS.de_int (VS.d2_ixL rfl)) (VS.da_cons (VS.de_op (VS.de_var rfl) VS.de_int (VS.d2_ixL rfl)) VS.da_nil)
    have hlim : ∀ d ∈ pairsN ws ps, (wAt ws d.s).limit ≤ p ∧ p ≤ (wAt ws d.b).limit := fun d hd => by
      have q := hD.ok d hd
      have m := q.many
      have w1 := hwill d.b q.bl (by have := q.bp; omega)
      have w2 := hwill d.s q.sl (by have := q.sp; omega)
      unfold willing at w1 w2
      rw [q.buy, if_pos rfl, decide_eq_true_eq] at w1
      rw [q.sell, if_neg (by decide), decide_eq_true_eq] at w2
      exact ⟨w2, w1⟩
    generalize pairsN ws ps = D at hD hlim
    apply VS.ds_ret
    · refine VS.de_andU (a := true) (b := true) ?_ ?_
      · refine VS.de_op (VS.de_var rfl) ?_ (VS.d2_eqSame sh_three)
        walk_at "ev"
      · refine VS.de_call ?_ ⟨ws, ps, D, p, rfl, rfl, hD, hn, hwl, hlim⟩
        walk_at "ev"
    · exact VS.post_ret rfl

theorem R_law_eq (c c' : Cs) : R_law c = R_law c' := rfl

end VS
namespace PW
open PySem PySem.Spec PyProof.Rows L2 VS
open Evl (Ex)
def topS (i : Nat) : Stmt := PySem.Challenge.pw_bidclear_k13_whole_no_other_set.main.body.getD i (.Pass ⟨0, 0, 0, 0⟩)
abbrev s_whole_within : Stmt := topS 7
theorem sc_whole_within : FnScope ["thing", "low", "high"] ["thing", "low", "high"] (defScope s_whole_within) := ⟨rfl, rfl, rfl, by decide +kernel, rfl, by decide +kernel, by decide +kernel⟩
abbrev s_checked_price : Stmt := topS 8
theorem sc_checked_price : FnScope ["price"] ["price"] (defScope s_checked_price) := ⟨rfl, rfl, rfl, by decide +kernel, rfl, by decide +kernel, by decide +kernel⟩
abbrev s_willing : Stmt := topS 9
theorem sc_willing : FnScope ["wish", "price"] ["wish", "price"] (defScope s_willing) := ⟨rfl, rfl, rfl, by decide +kernel, rfl, by decide +kernel, by decide +kernel⟩
abbrev s_amount_of : Stmt := topS 10
theorem sc_amount_of : FnScope ["wishes", "side", "price", "total", "wish"] ["wishes", "side", "price"] (defScope s_amount_of) := ⟨rfl, rfl, rfl, by decide +kernel, rfl, by decide +kernel, by decide +kernel⟩
abbrev s_wanted : Stmt := topS 11
theorem sc_wanted : FnScope ["wishes", "price"] ["wishes", "price"] (defScope s_wanted) := ⟨rfl, rfl, rfl, by decide +kernel, rfl, by decide +kernel, by decide +kernel⟩
abbrev s_offered : Stmt := topS 12
theorem sc_offered : FnScope ["wishes", "price"] ["wishes", "price"] (defScope s_offered) := ⟨rfl, rfl, rfl, by decide +kernel, rfl, by decide +kernel, by decide +kernel⟩
abbrev s_order_of : Stmt := topS 14
theorem sc_order_of : FnScope ["wishes", "side", "price", "rows", "number", "wish", "rank", "row"] ["wishes", "side", "price"] (defScope s_order_of) := ⟨rfl, rfl, rfl, by decide +kernel, rfl, by decide +kernel, by decide +kernel⟩
abbrev s_pieces_at : Stmt := topS 15
theorem sc_pieces_at : FnScope ["wishes", "price", "dealt", "found", "wish", "side", "left", "number"] ["wishes", "price"] (defScope s_pieces_at) := ⟨rfl, rfl, rfl, by decide +kernel, rfl, by decide +kernel, by decide +kernel⟩
abbrev s_gain : Stmt := topS 16
theorem sc_gain : FnScope ["wish", "price", "pieces"] ["wish", "price", "pieces"] (defScope s_gain) := ⟨rfl, rfl, rfl, by decide +kernel, rfl, by decide +kernel, by decide +kernel⟩
abbrev s_checked_pieces : Stmt := topS 17
theorem sc_checked_pieces : FnScope ["wishes", "pieces", "number"] ["wishes", "pieces"] (defScope s_checked_pieces) := ⟨rfl, rfl, rfl, by decide +kernel, rfl, by decide +kernel, by decide +kernel⟩
abbrev s_worth : Stmt := topS 18
theorem sc_worth : FnScope ["wishes", "pieces", "total", "number"] ["wishes", "pieces"] (defScope s_worth) := ⟨rfl, rfl, rfl, by decide +kernel, rfl, by decide +kernel, by decide +kernel⟩
abbrev s_of_side : Stmt := topS 19
theorem sc_of_side : FnScope ["wishes", "pieces", "side", "number"] ["wishes", "pieces", "side"] (defScope s_of_side) := ⟨rfl, rfl, rfl, by decide +kernel, rfl, by decide +kernel, by decide +kernel⟩
abbrev s_even : Stmt := topS 20
theorem sc_even : FnScope ["wishes", "pieces"] ["wishes", "pieces"] (defScope s_even) := ⟨rfl, rfl, rfl, by decide +kernel, rfl, by decide +kernel, by decide +kernel⟩
abbrev s_pairs : Stmt := topS 21
theorem sc_pairs : FnScope ["wishes", "pieces", "sellers", "number", "left", "found", "at", "buyer", "seller", "many"] ["wishes", "pieces"] (defScope s_pairs) := ⟨rfl, rfl, rfl, by decide +kernel, rfl, by decide +kernel, by decide +kernel⟩
abbrev s_covered : Stmt := topS 23
theorem sc_covered : FnScope ["wishes", "price"] ["wishes", "price"] (defScope s_covered) := ⟨rfl, rfl, rfl, by decide +kernel, rfl, by decide +kernel, by decide +kernel⟩
abbrev s_taken_up : Stmt := topS 24
theorem sc_taken_up : FnScope ["wishes", "price"] ["wishes", "price"] (defScope s_taken_up) := ⟨rfl, rfl, rfl, by decide +kernel, rfl, by decide +kernel, by decide +kernel⟩
abbrev s_lowest : Stmt := topS 25
theorem sc_lowest : FnScope ["wishes", "limits", "wish", "low", "high", "middle"] ["wishes"] (defScope s_lowest) := ⟨rfl, rfl, rfl, by decide +kernel, rfl, by decide +kernel, by decide +kernel⟩
abbrev s_highest : Stmt := topS 26
theorem sc_highest : FnScope ["wishes", "limits", "wish", "low", "high", "middle"] ["wishes"] (defScope s_highest) := ⟨rfl, rfl, rfl, by decide +kernel, rfl, by decide +kernel, by decide +kernel⟩
abbrev s_price_by : Stmt := topS 27
theorem sc_price_by : FnScope ["wishes", "old"] ["wishes", "old"] (defScope s_price_by) := ⟨rfl, rfl, rfl, by decide +kernel, rfl, by decide +kernel, by decide +kernel⟩
abbrev s__law_cell_at : Stmt := topS 29
theorem sc__law_cell_at : FnScope ["_law_script", "_law_k"] ["_law_script", "_law_k"] (defScope s__law_cell_at) := ⟨rfl, rfl, rfl, by decide +kernel, rfl, by decide +kernel, by decide +kernel⟩
abbrev s__law_whole : Stmt := topS 30
theorem sc__law_whole : FnScope ["_law_thing"] ["_law_thing"] (defScope s__law_whole) := ⟨rfl, rfl, rfl, by decide +kernel, rfl, by decide +kernel, by decide +kernel⟩
abbrev s__law_wish_by : Stmt := topS 31
theorem sc__law_wish_by : FnScope ["_law_cell", "_law_side_here", "_law_far", "_law_limit", "_law_amount"] ["_law_cell"] (defScope s__law_wish_by) := ⟨rfl, rfl, rfl, by decide +kernel, rfl, by decide +kernel, by decide +kernel⟩
abbrev s__law_wishes_by : Stmt := topS 32
theorem sc__law_wishes_by : FnScope ["_law_script", "_law_first", "_law_few", "_law_many", "_law_wishes", "_law_cell", "_law_k"] ["_law_script", "_law_first", "_law_few"] (defScope s__law_wishes_by) := ⟨rfl, rfl, rfl, by decide +kernel, rfl, by decide +kernel, by decide +kernel⟩
abbrev s__law_price_by : Stmt := topS 33
theorem sc__law_price_by : FnScope ["_law_wishes", "_law_cell", "_law_other", "_law_price"] ["_law_wishes", "_law_cell", "_law_other"] (defScope s__law_price_by) := ⟨rfl, rfl, rfl, by decide +kernel, rfl, by decide +kernel, by decide +kernel⟩
abbrev s__law_pieces_by : Stmt := topS 34
theorem sc__law_pieces_by : FnScope ["_law_wishes", "_law_cell", "_law_pieces", "_law_k", "_law_far", "_law_many"] ["_law_wishes", "_law_cell"] (defScope s__law_pieces_by) := ⟨rfl, rfl, rfl, by decide +kernel, rfl, by decide +kernel, by decide +kernel⟩
abbrev s__law_side : Stmt := topS 35
theorem sc__law_side : FnScope ["_law_wishes", "_law_pieces", "_law_side_here", "_law_k"] ["_law_wishes", "_law_pieces", "_law_side_here"] (defScope s__law_side) := ⟨rfl, rfl, rfl, by decide +kernel, rfl, by decide +kernel, by decide +kernel⟩
abbrev s__law_evened : Stmt := topS 36
theorem sc__law_evened : FnScope ["_law_wishes", "_law_pieces", "_law_over", "_law_found", "_law_k", "_law_less"] ["_law_wishes", "_law_pieces"] (defScope s__law_evened) := ⟨rfl, rfl, rfl, by decide +kernel, rfl, by decide +kernel, by decide +kernel⟩
abbrev s__law_numbers : Stmt := topS 37
theorem sc__law_numbers : FnScope ["_law_found", "_law_many", "_law_one"] ["_law_found", "_law_many"] (defScope s__law_numbers) := ⟨rfl, rfl, rfl, by decide +kernel, rfl, by decide +kernel, by decide +kernel⟩
abbrev s__law_gained : Stmt := topS 38
theorem sc__law_gained : FnScope ["_law_wishes", "_law_pieces", "_law_price", "_law_total", "_law_k"] ["_law_wishes", "_law_pieces", "_law_price"] (defScope s__law_gained) := ⟨rfl, rfl, rfl, by decide +kernel, rfl, by decide +kernel, by decide +kernel⟩
abbrev s__law_best_with_room : Stmt := topS 39
theorem sc__law_best_with_room : FnScope ["_law_wishes", "_law_pieces", "_law_side_here", "_law_found", "_law_k", "_law_better"] ["_law_wishes", "_law_pieces", "_law_side_here"] (defScope s__law_best_with_room) := ⟨rfl, rfl, rfl, by decide +kernel, rfl, by decide +kernel, by decide +kernel⟩
abbrev s__law_one_more : Stmt := topS 40
theorem sc__law_one_more : FnScope ["_law_wishes", "_law_pieces", "_law_buyer", "_law_seller", "_law_found"] ["_law_wishes", "_law_pieces"] (defScope s__law_one_more) := ⟨rfl, rfl, rfl, by decide +kernel, rfl, by decide +kernel, by decide +kernel⟩
abbrev s__law_shifted : Stmt := topS 41
theorem sc__law_shifted : FnScope ["_law_wishes", "_law_pieces", "_law_cell", "_law_found", "_law_one", "_law_other", "_law_many", "_law_step"] ["_law_wishes", "_law_pieces", "_law_cell"] (defScope s__law_shifted) := ⟨rfl, rfl, rfl, by decide +kernel, rfl, by decide +kernel, by decide +kernel⟩
abbrev s__law_pairs_good : Stmt := topS 42
theorem sc__law_pairs_good : FnScope ["_law_found", "_law_wishes", "_law_pieces", "_law_price", "_law_left", "_law_deal", "_law_buyer", "_law_seller", "_law_wish"] ["_law_found", "_law_wishes", "_law_pieces", "_law_price"] (defScope s__law_pairs_good) := ⟨rfl, rfl, rfl, by decide +kernel, rfl, by decide +kernel, by decide +kernel⟩
abbrev s_law : Stmt := topS 43
theorem sc_law : FnScope ["_law_script", "_law_wishes", "_law_old", "_law_others", "_law_price", "_law_found", "_law_k", "_law_handed", "_law_best", "_law_due", "_law_made"] ["_law_script"] (defScope s_law) := ⟨rfl, rfl, rfl, by decide +kernel, rfl, by decide +kernel, by decide +kernel⟩
structure Fs where
  f_whole_within : Addr
  d_whole_within : FuncData
  f_checked_price : Addr
  d_checked_price : FuncData
  f_willing : Addr
  d_willing : FuncData
  f_amount_of : Addr
  d_amount_of : FuncData
  f_wanted : Addr
  d_wanted : FuncData
  f_offered : Addr
  d_offered : FuncData
  f_order_of : Addr
  d_order_of : FuncData
  f_pieces_at : Addr
  d_pieces_at : FuncData
  f_gain : Addr
  d_gain : FuncData
  f_checked_pieces : Addr
  d_checked_pieces : FuncData
  f_worth : Addr
  d_worth : FuncData
  f_of_side : Addr
  d_of_side : FuncData
  f_even : Addr
  d_even : FuncData
  f_pairs : Addr
  d_pairs : FuncData
  f_covered : Addr
  d_covered : FuncData
  f_taken_up : Addr
  d_taken_up : FuncData
  f_lowest : Addr
  d_lowest : FuncData
  f_highest : Addr
  d_highest : FuncData
  f_price_by : Addr
  d_price_by : FuncData
  f__law_cell_at : Addr
  d__law_cell_at : FuncData
  f__law_whole : Addr
  d__law_whole : FuncData
  f__law_wish_by : Addr
  d__law_wish_by : FuncData
  f__law_wishes_by : Addr
  d__law_wishes_by : FuncData
  f__law_price_by : Addr
  d__law_price_by : FuncData
  f__law_pieces_by : Addr
  d__law_pieces_by : FuncData
  f__law_side : Addr
  d__law_side : FuncData
  f__law_evened : Addr
  d__law_evened : FuncData
  f__law_numbers : Addr
  d__law_numbers : FuncData
  f__law_gained : Addr
  d__law_gained : FuncData
  f__law_best_with_room : Addr
  d__law_best_with_room : FuncData
  f__law_one_more : Addr
  d__law_one_more : FuncData
  f__law_shifted : Addr
  d__law_shifted : FuncData
  f__law_pairs_good : Addr
  d__law_pairs_good : FuncData
  dummy : Unit := ()
structure Txt (K : PySem.W.Frag) (mg : Str → Option Value) (c : Cs) (q : Fs) : Prop where
  F_whole_within : Fun K "whole_within" "whole_within" s_whole_within q.f_whole_within q.d_whole_within
  g_whole_within : mg "whole_within" = some (.ref q.f_whole_within)
  b_whole_within : Binds K q.d_whole_within ["thing", "low", "high"] []
  F_checked_price : Fun K "checked_price" "checked_price" s_checked_price q.f_checked_price q.d_checked_price
  g_checked_price : mg "checked_price" = some (.ref q.f_checked_price)
  b_checked_price : Binds K q.d_checked_price ["price"] []
  F_willing : Fun K "willing" "willing" s_willing q.f_willing q.d_willing
  g_willing : mg "willing" = some (.ref q.f_willing)
  b_willing : Binds K q.d_willing ["wish", "price"] []
  F_amount_of : Fun K "amount_of" "amount_of" s_amount_of q.f_amount_of q.d_amount_of
  g_amount_of : mg "amount_of" = some (.ref q.f_amount_of)
  b_amount_of : Binds K q.d_amount_of ["wishes", "side", "price"] []
  F_wanted : Fun K "wanted" "wanted" s_wanted q.f_wanted q.d_wanted
  g_wanted : mg "wanted" = some (.ref q.f_wanted)
  b_wanted : Binds K q.d_wanted ["wishes", "price"] []
  F_offered : Fun K "offered" "offered" s_offered q.f_offered q.d_offered
  g_offered : mg "offered" = some (.ref q.f_offered)
  b_offered : Binds K q.d_offered ["wishes", "price"] []
  F_order_of : Fun K "order_of" "order_of" s_order_of q.f_order_of q.d_order_of
  g_order_of : mg "order_of" = some (.ref q.f_order_of)
  b_order_of : Binds K q.d_order_of ["wishes", "side", "price"] []
  F_pieces_at : Fun K "pieces_at" "pieces_at" s_pieces_at q.f_pieces_at q.d_pieces_at
  g_pieces_at : mg "pieces_at" = some (.ref q.f_pieces_at)
  b_pieces_at : Binds K q.d_pieces_at ["wishes", "price"] []
  F_gain : Fun K "gain" "gain" s_gain q.f_gain q.d_gain
  g_gain : mg "gain" = some (.ref q.f_gain)
  b_gain : Binds K q.d_gain ["wish", "price", "pieces"] []
  F_checked_pieces : Fun K "checked_pieces" "checked_pieces" s_checked_pieces q.f_checked_pieces q.d_checked_pieces
  g_checked_pieces : mg "checked_pieces" = some (.ref q.f_checked_pieces)
  b_checked_pieces : Binds K q.d_checked_pieces ["wishes", "pieces"] []
  F_worth : Fun K "worth" "worth" s_worth q.f_worth q.d_worth
  g_worth : mg "worth" = some (.ref q.f_worth)
  b_worth : Binds K q.d_worth ["wishes", "pieces"] []
  F_of_side : Fun K "of_side" "of_side" s_of_side q.f_of_side q.d_of_side
  g_of_side : mg "of_side" = some (.ref q.f_of_side)
  b_of_side : Binds K q.d_of_side ["wishes", "pieces", "side"] []
  F_even : Fun K "even" "even" s_even q.f_even q.d_even
  g_even : mg "even" = some (.ref q.f_even)
  b_even : Binds K q.d_even ["wishes", "pieces"] []
  F_pairs : Fun K "pairs" "pairs" s_pairs q.f_pairs q.d_pairs
  g_pairs : mg "pairs" = some (.ref q.f_pairs)
  b_pairs : Binds K q.d_pairs ["wishes", "pieces"] []
  F_covered : Fun K "covered" "covered" s_covered q.f_covered q.d_covered
  g_covered : mg "covered" = some (.ref q.f_covered)
  b_covered : Binds K q.d_covered ["wishes", "price"] []
  F_taken_up : Fun K "taken_up" "taken_up" s_taken_up q.f_taken_up q.d_taken_up
  g_taken_up : mg "taken_up" = some (.ref q.f_taken_up)
  b_taken_up : Binds K q.d_taken_up ["wishes", "price"] []
  F_lowest : Fun K "lowest" "lowest" s_lowest q.f_lowest q.d_lowest
  g_lowest : mg "lowest" = some (.ref q.f_lowest)
  b_lowest : Binds K q.d_lowest ["wishes"] []
  F_highest : Fun K "highest" "highest" s_highest q.f_highest q.d_highest
  g_highest : mg "highest" = some (.ref q.f_highest)
  b_highest : Binds K q.d_highest ["wishes"] []
  F_price_by : Fun K "price_by" "price_by" s_price_by q.f_price_by q.d_price_by
  g_price_by : mg "price_by" = some (.ref q.f_price_by)
  b_price_by : Binds K q.d_price_by ["wishes", "old"] []
  F__law_cell_at : Fun K "_law_cell_at" "_law_cell_at" s__law_cell_at q.f__law_cell_at q.d__law_cell_at
  g__law_cell_at : mg "_law_cell_at" = some (.ref q.f__law_cell_at)
  b__law_cell_at : Binds K q.d__law_cell_at ["_law_script", "_law_k"] []
  F__law_whole : Fun K "_law_whole" "_law_whole" s__law_whole q.f__law_whole q.d__law_whole
  g__law_whole : mg "_law_whole" = some (.ref q.f__law_whole)
  b__law_whole : Binds K q.d__law_whole ["_law_thing"] []
  F__law_wish_by : Fun K "_law_wish_by" "_law_wish_by" s__law_wish_by q.f__law_wish_by q.d__law_wish_by
  g__law_wish_by : mg "_law_wish_by" = some (.ref q.f__law_wish_by)
  b__law_wish_by : Binds K q.d__law_wish_by ["_law_cell"] []
  F__law_wishes_by : Fun K "_law_wishes_by" "_law_wishes_by" s__law_wishes_by q.f__law_wishes_by q.d__law_wishes_by
  g__law_wishes_by : mg "_law_wishes_by" = some (.ref q.f__law_wishes_by)
  b__law_wishes_by : Binds K q.d__law_wishes_by ["_law_script", "_law_first", "_law_few"] []
  F__law_price_by : Fun K "_law_price_by" "_law_price_by" s__law_price_by q.f__law_price_by q.d__law_price_by
  g__law_price_by : mg "_law_price_by" = some (.ref q.f__law_price_by)
  b__law_price_by : Binds K q.d__law_price_by ["_law_wishes", "_law_cell", "_law_other"] []
  F__law_pieces_by : Fun K "_law_pieces_by" "_law_pieces_by" s__law_pieces_by q.f__law_pieces_by q.d__law_pieces_by
  g__law_pieces_by : mg "_law_pieces_by" = some (.ref q.f__law_pieces_by)
  b__law_pieces_by : Binds K q.d__law_pieces_by ["_law_wishes", "_law_cell"] []
  F__law_side : Fun K "_law_side" "_law_side" s__law_side q.f__law_side q.d__law_side
  g__law_side : mg "_law_side" = some (.ref q.f__law_side)
  b__law_side : Binds K q.d__law_side ["_law_wishes", "_law_pieces", "_law_side_here"] []
  F__law_evened : Fun K "_law_evened" "_law_evened" s__law_evened q.f__law_evened q.d__law_evened
  g__law_evened : mg "_law_evened" = some (.ref q.f__law_evened)
  b__law_evened : Binds K q.d__law_evened ["_law_wishes", "_law_pieces"] []
  F__law_numbers : Fun K "_law_numbers" "_law_numbers" s__law_numbers q.f__law_numbers q.d__law_numbers
  g__law_numbers : mg "_law_numbers" = some (.ref q.f__law_numbers)
  b__law_numbers : Binds K q.d__law_numbers ["_law_found", "_law_many"] []
  F__law_gained : Fun K "_law_gained" "_law_gained" s__law_gained q.f__law_gained q.d__law_gained
  g__law_gained : mg "_law_gained" = some (.ref q.f__law_gained)
  b__law_gained : Binds K q.d__law_gained ["_law_wishes", "_law_pieces", "_law_price"] []
  F__law_best_with_room : Fun K "_law_best_with_room" "_law_best_with_room" s__law_best_with_room q.f__law_best_with_room q.d__law_best_with_room
  g__law_best_with_room : mg "_law_best_with_room" = some (.ref q.f__law_best_with_room)
  b__law_best_with_room : Binds K q.d__law_best_with_room ["_law_wishes", "_law_pieces", "_law_side_here"] []
  F__law_one_more : Fun K "_law_one_more" "_law_one_more" s__law_one_more q.f__law_one_more q.d__law_one_more
  g__law_one_more : mg "_law_one_more" = some (.ref q.f__law_one_more)
  b__law_one_more : Binds K q.d__law_one_more ["_law_wishes", "_law_pieces"] []
  F__law_shifted : Fun K "_law_shifted" "_law_shifted" s__law_shifted q.f__law_shifted q.d__law_shifted
  g__law_shifted : mg "_law_shifted" = some (.ref q.f__law_shifted)
  b__law_shifted : Binds K q.d__law_shifted ["_law_wishes", "_law_pieces", "_law_cell"] []
  F__law_pairs_good : Fun K "_law_pairs_good" "_law_pairs_good" s__law_pairs_good q.f__law_pairs_good q.d__law_pairs_good
  g__law_pairs_good : mg "_law_pairs_good" = some (.ref q.f__law_pairs_good)
  b__law_pairs_good : Binds K q.d__law_pairs_good ["_law_found", "_law_wishes", "_law_pieces", "_law_price"] []
  z_bool : mg "bool" = none
  z_int : mg "int" = none
  z_isinstance : mg "isinstance" = none
  z_len : mg "len" = none
  z_list : mg "list" = none
  z_max : mg "max" = none
  z_min : mg "min" = none
  z_range : mg "range" = none
  z_sorted : mg "sorted" = none
  z_sum : mg "sum" = none
  z_tuple : mg "tuple" = none
  m_TOP : ∃ t, mg "TOP" = some (.int 1000000000 t)
  cc_BidError : ClsN K mg "BidError" c.BidError
  cc_BadPrice : ClsN K mg "BadPrice" c.BadPrice
  cc_BadPieces : ClsN K mg "BadPieces" c.BadPieces
  cc_Uneven : ClsN K mg "Uneven" c.Uneven
  dummy : True := trivial
section
variable {P : Program} {w : World} {K : PySem.W.Frag} {mg : Str → Option Value} {base : Heap} {c : Cs} {q : Fs}
theorem ok_whole_within (T : Txt K mg c q) : FnOk P w K mg base CX0 1 q.f_whole_within q.d_whole_within ["thing", "low", "high"] (spD K (R_whole_within c)) := by
  refine T.F_whole_within.ok sc_whole_within (sp_len (len_whole_within (c := c))) (fun cdv A outer s H vs Q E hr h => ?_)
  refine ⟨t_whole_within K c E0, ?_, run_body h (body_whole_within)⟩
  exact (pss_one (ps_ret (pe_and (pe_callB call_isi (by rfl) T.z_isinstance (by decide +kernel) (pa_cons (pv 0) (pa_cons (pe_bltn (v := .ty "int") (by rfl) T.z_int (by decide +kernel) rfl) pa_nil))) (pe_and (pe_not (pe_callB call_isi (by rfl) T.z_isinstance (by decide +kernel) (pa_cons (pv 0) (pa_cons (pe_bltn (v := .ty "bool") (by rfl) T.z_bool (by decide +kernel) rfl) pa_nil)))) (pe_one (pe_chain op_le op_le (pv 1) (pv 0) (pv 2)))))))
theorem ok_checked_price (T : Txt K mg c q) : FnOk P w K mg base (L2N.CX P w) 2 q.f_checked_price q.d_checked_price ["price"] (spD K (R_checked_price c)) := by
  refine T.F_checked_price.okN sc_checked_price (sp_len (len_checked_price (c := c))) (fun cdv A outer s H vs Q E hr h => ?_)
  obtain ⟨_, hm_TOP⟩ := T.m_TOP
  refine ⟨t_checked_price K c E, ?_, run_body h (body_checked_price)⟩
  exact (pss_cons (ps_if (pt_not (pt_val (pe_call (ok_whole_within T) (hr.mono (by decide)) (by rfl) T.g_whole_within T.F_whole_within.kp T.b_whole_within .nil pass0 (pa_cons (pv 0) (pa_cons pe_int (pa_cons (pe_glob rfl hm_TOP ⟨_, rfl⟩) pa_nil)))))) (pss_one (ps_raiseN T.cc_BadPrice rfl (L2N.takes_of rfl rfl rfl rfl) (by rfl))) pss_nil)
      (pss_one (ps_ret (pv 0))))
theorem ok_willing (T : Txt K mg c q) : FnOk P w K mg base CX0 1 q.f_willing q.d_willing ["wish", "price"] (spD K (R_willing c)) := by
  refine T.F_willing.ok sc_willing (sp_len (len_willing (c := c))) (fun cdv A outer s H vs Q E hr h => ?_)
  refine ⟨t_willing K c E0, ?_, run_body h (body_willing)⟩
  exact (pss_cons (ps_if (pt_cmpR op_eq (pe_ix ix_tup (pv 0) pe_int (fun _ _ => rfl)) pe_str (nomark _)) (pss_one (ps_ret (pe_cmpR op_ge (pe_ix ix_tup (pv 0) pe_int (fun _ _ => rfl)) (pv 1) (nomark _)))) pss_nil)
      (pss_one (ps_ret (pe_cmpR op_le (pe_ix ix_tup (pv 0) pe_int (fun _ _ => rfl)) (pv 1) (nomark _)))))
theorem ok_amount_of (T : Txt K mg c q) : FnOk P w K mg base CX0 2 q.f_amount_of q.d_amount_of ["wishes", "side", "price"] (spD K (R_amount_of c)) := by
  refine T.F_amount_of.ok sc_amount_of (sp_len (len_amount_of (c := c))) (fun cdv A outer s H vs Q E hr h => ?_)
  refine ⟨t_amount_of K c E0, ?_, run_body h (body_amount_of)⟩
  exact (pss_cons (ps_set (i := 3) sc_amount_of.nd rfl (by first | exact Or.inl rfl | exact Or.inr rfl) pe_int)
      (pss_cons (ps_for PassesOwn.never rfl (pi_list (pv 0)) (pg_name (i := 4) sc_amount_of.nd rfl (by first | exact Or.inl rfl | exact Or.inr rfl)) (pss_one (ps_if (PW.pt (pw_and (pt_cmpR op_eq (pe_ix ix_tup (pv 4) pe_int (fun _ _ => rfl)) (pv 1) (nomark _)) (pw_and1 (pt_val (pe_call (ok_willing T) (hr.mono (by decide)) (by rfl) T.g_willing T.F_willing.kp T.b_willing .nil pass0 (pa_cons (pv 4) (pa_cons (pv 2) pa_nil))))))) (pss_one (ps_set (i := 3) sc_amount_of.nd rfl (by first | exact Or.inl rfl | exact Or.inr rfl) (pe_op op_add (pv 3) (pe_ix ix_tup (pv 4) pe_int (fun _ _ => rfl))))) pss_nil)))
      (pss_one (ps_ret (pv 3)))))
theorem ok_wanted (T : Txt K mg c q) : FnOk P w K mg base CX0 3 q.f_wanted q.d_wanted ["wishes", "price"] (spD K (R_wanted c)) := by
  refine T.F_wanted.ok sc_wanted (sp_len (len_wanted (c := c))) (fun cdv A outer s H vs Q E hr h => ?_)
  refine ⟨t_wanted K c E0, ?_, run_body h (body_wanted)⟩
  exact (pss_one (ps_ret (pe_call (ok_amount_of T) (hr.mono (by decide)) (by rfl) T.g_amount_of T.F_amount_of.kp T.b_amount_of .nil pass0 (pa_cons (pv 0) (pa_cons pe_str (pa_cons (pv 1) pa_nil))))))
theorem ok_offered (T : Txt K mg c q) : FnOk P w K mg base CX0 3 q.f_offered q.d_offered ["wishes", "price"] (spD K (R_offered c)) := by
  refine T.F_offered.ok sc_offered (sp_len (len_offered (c := c))) (fun cdv A outer s H vs Q E hr h => ?_)
  refine ⟨t_offered K c E0, ?_, run_body h (body_offered)⟩
  exact (pss_one (ps_ret (pe_call (ok_amount_of T) (hr.mono (by decide)) (by rfl) T.g_amount_of T.F_amount_of.kp T.b_amount_of .nil pass0 (pa_cons (pv 0) (pa_cons pe_str (pa_cons (pv 1) pa_nil))))))
theorem ok_order_of (T : Txt K mg c q) : FnOk P w K mg base CX0 2 q.f_order_of q.d_order_of ["wishes", "side", "price"] (spD K (R_order_of c)) := by
  refine T.F_order_of.ok sc_order_of (sp_len (len_order_of (c := c))) (fun cdv A outer s H vs Q E hr h => ?_)
  refine ⟨t_order_of K c E0, ?_, run_body h (body_order_of)⟩
  exact (pss_cons (ps_set (i := 3) sc_order_of.nd rfl (by first | exact Or.inl rfl | exact Or.inr rfl) (pe_lst pa_nil))
      (pss_cons (ps_for PassesOwn.never rfl (pi_range1 (by rfl) T.z_range (pa_cons (pe_callB call_len_seq (by rfl) T.z_len (by decide +kernel) (pa_cons (pv 0) pa_nil)) pa_nil)) (pg_name (i := 4) sc_order_of.nd rfl (by first | exact Or.inl rfl | exact Or.inr rfl)) (pss_cons (ps_set (i := 5) sc_order_of.nd rfl (by first | exact Or.inl rfl | exact Or.inr rfl) (pe_ix ix_list (pv 0) (pv 4) (fun _ _ => rfl)))
      (pss_one (ps_if (PW.pt (pw_and (pt_cmpR op_eq (pe_ix ix_tup (pv 5) pe_int (fun _ _ => rfl)) (pv 1) (nomark _)) (pw_and1 (pt_val (pe_call (ok_willing T) (hr.mono (by decide)) (by rfl) T.g_willing T.F_willing.kp T.b_willing .nil pass0 (pa_cons (pv 5) (pa_cons (pv 2) pa_nil))))))) (pss_cons (ps_set (i := 6) sc_order_of.nd rfl (by first | exact Or.inl rfl | exact Or.inr rfl) (pe_ix ix_tup (pv 5) pe_int (fun _ _ => rfl)))
      (pss_cons (ps_if (pt_cmpR op_eq (pv 1) pe_str (nomark _)) (pss_one (ps_set (i := 6) sc_order_of.nd rfl (by first | exact Or.inl rfl | exact Or.inr rfl) (pe_un un_neg (pe_ix ix_tup (pv 5) pe_int (fun _ _ => rfl))))) pss_nil)
      (pss_one (ps_expr (pe_bm PySem.F.plainAttrs_list PySem.F.slot_list_append PySem.F.type_list_append mt_append (pv 3) (pa_cons (pe_tup (pa_cons (pv 6) (pa_cons (pv 4) pa_nil))) pa_nil)))))) pss_nil))))
      (pss_one (ps_ret (pe_lc (own := [("row", 7)]) (g := gName 7) (tt := tYes) rfl sc_order_of.nd (pi_list (pe_callB cr_sortedPO (by rfl) T.z_sorted (by decide +kernel) (pa_cons (pv 3) pa_nil))) (blkOk_by (N := ["wishes", "side", "price", "rows", "number", "wish", "rank", "row"]) (sc := defScope s_order_of) (by decide +kernel)) (fun _ _ _ _ _ => pg_name (i := 7) sc_order_of.nd rfl (Or.inl rfl)) (fun _ _ _ _ _ => pts_nil) (fun _ _ _ _ _ => (pe_ix ix_tup (pv 7) pe_int (fun _ _ => rfl))))))))
theorem ok_pieces_at (T : Txt K mg c q) : FnOk P w K mg base (L2N.CX P w) 4 q.f_pieces_at q.d_pieces_at ["wishes", "price"] (spD K (R_pieces_at c)) := by
  refine T.F_pieces_at.okN sc_pieces_at (sp_len (len_pieces_at (c := c))) (fun cdv A outer s H vs Q E hr h => ?_)
  refine ⟨t_pieces_at K c E, ?_, run_body h (body_pieces_at)⟩
  exact (pss_cons (ps_expr (pe_call (ok_checked_price T) (hr.mono (by decide)) (by rfl) T.g_checked_price T.F_checked_price.kp T.b_checked_price .nil (L2N.passes_call (L2N.takes_of rfl rfl rfl rfl) (fun _ _ _ _ h => h)) (pa_cons (pv 1) pa_nil)))
      (pss_cons (ps_set (i := 2) sc_pieces_at.nd rfl (by first | exact Or.inl rfl | exact Or.inr rfl) (pe_callB (call_min2 rfl) (by rfl) T.z_min (by decide +kernel) (pa_cons (pe_call (ok_wanted T) (hr.mono (by decide)) (by rfl) T.g_wanted T.F_wanted.kp T.b_wanted .nil pass0 (pa_cons (pv 0) (pa_cons (pv 1) pa_nil))) (pa_cons (pe_call (ok_offered T) (hr.mono (by decide)) (by rfl) T.g_offered T.F_offered.kp T.b_offered .nil pass0 (pa_cons (pv 0) (pa_cons (pv 1) pa_nil))) pa_nil))))
      (pss_cons (ps_setLc (i := 3) (own := [("wish", 4)]) (g := gName 4) (tt := tYes) rfl sc_pieces_at.nd rfl rfl (sw_true rfl rfl rfl (by decide +kernel)) (pi_list (pv 0)) (blkOk_by (N := ["wishes", "price", "dealt", "found", "wish", "side", "left", "number"]) (sc := defScope s_pieces_at) (by decide +kernel)) (fun _ _ _ _ _ => pg_name (i := 4) sc_pieces_at.nd rfl (Or.inl rfl)) (fun _ _ _ _ _ => pts_nil) (fun _ _ _ _ _ => pe_int))
      (pss_cons (ps_for (L2.passes_of rfl) rfl (pi_tup (pe_tup (pa_cons pe_str (pa_cons pe_str pa_nil)))) (pg_name (i := 5) sc_pieces_at.nd rfl (by first | exact Or.inl rfl | exact Or.inr rfl)) (pss_cons (ps_set (i := 6) sc_pieces_at.nd rfl (by first | exact Or.inl rfl | exact Or.inr rfl) (pv 2))
      (pss_one (ps_for (L2.passes_of rfl) rfl (pi_list (pe_call (ok_order_of T) (hr.mono (by decide)) (by rfl) T.g_order_of T.F_order_of.kp T.b_order_of .nil pass0 (pa_cons (pv 0) (pa_cons (pv 5) (pa_cons (pv 1) pa_nil))))) (pg_name (i := 7) sc_pieces_at.nd rfl (by first | exact Or.inl rfl | exact Or.inr rfl)) (pss_cons (ps_asg (pe_callB (call_min2 rfl) (by rfl) T.z_min (by decide +kernel) (pa_cons (pe_ix ix_tup (pe_ix ix_list (pv 0) (pv 7) (fun _ _ => rfl)) pe_int (fun _ _ => rfl)) (pa_cons (pv 6) pa_nil))) (pg_sub (pv 3) (pv 7) set_list))
      (pss_one (ps_set (i := 6) sc_pieces_at.nd rfl (by first | exact Or.inl rfl | exact Or.inr rfl) (pe_op op_sub (pv 6) (pe_ix ix_list (pv 3) (pv 7) (fun _ _ => rfl))))))))))
      (pss_one (ps_ret (pv 3)))))))
theorem ok_gain (T : Txt K mg c q) : FnOk P w K mg base CX0 1 q.f_gain q.d_gain ["wish", "price", "pieces"] (spD K (R_gain c)) := by
  refine T.F_gain.ok sc_gain (sp_len (len_gain (c := c))) (fun cdv A outer s H vs Q E hr h => ?_)
  refine ⟨t_gain K c E0, ?_, run_body h (body_gain)⟩
  exact (pss_cons (ps_if (pt_cmpR op_eq (pe_ix ix_tup (pv 0) pe_int (fun _ _ => rfl)) pe_str (nomark _)) (pss_one (ps_ret (pe_op op_mulM (pe_op op_sub (pe_ix ix_tup (pv 0) pe_int (fun _ _ => rfl)) (pv 1)) (pv 2)))) pss_nil)
      (pss_one (ps_ret (pe_op op_mulM (pe_op op_sub (pv 1) (pe_ix ix_tup (pv 0) pe_int (fun _ _ => rfl))) (pv 2)))))
theorem ok_checked_pieces (T : Txt K mg c q) : FnOk P w K mg base (L2N.CX P w) 2 q.f_checked_pieces q.d_checked_pieces ["wishes", "pieces"] (spD K (R_checked_pieces c)) := by
  refine T.F_checked_pieces.okN sc_checked_pieces (sp_len (len_checked_pieces (c := c))) (fun cdv A outer s H vs Q E hr h => ?_)
  refine ⟨t_checked_pieces K c E, ?_, run_body h (body_checked_pieces)⟩
  exact (pss_cons (ps_if (pt_cmpR op_ne (pe_callB call_len_seq (by rfl) T.z_len (by decide +kernel) (pa_cons (pv 1) pa_nil)) (pe_callB call_len_seq (by rfl) T.z_len (by decide +kernel) (pa_cons (pv 0) pa_nil)) (nomark _)) (pss_one (ps_raiseN T.cc_BadPieces rfl (L2N.takes_of rfl rfl rfl rfl) (by rfl))) pss_nil)
      (pss_one (ps_for (L2.passes_of rfl) rfl (pi_range1 (by rfl) T.z_range (pa_cons (pe_callB call_len_seq (by rfl) T.z_len (by decide +kernel) (pa_cons (pv 0) pa_nil)) pa_nil)) (pg_name (i := 2) sc_checked_pieces.nd rfl (by first | exact Or.inl rfl | exact Or.inr rfl)) (pss_one (ps_if (pt_not (pt_val (pe_call (ok_whole_within T) (hr.mono (by decide)) (by rfl) T.g_whole_within T.F_whole_within.kp T.b_whole_within .nil pass0 (pa_cons (pe_ix ix_list (pv 1) (pv 2) (fun _ _ => rfl)) (pa_cons pe_int (pa_cons (pe_ix ix_tup (pe_ix ix_list (pv 0) (pv 2) (fun _ _ => rfl)) pe_int (fun _ _ => rfl)) pa_nil)))))) (pss_one (ps_raiseN T.cc_BadPieces rfl (L2N.takes_of rfl rfl rfl rfl) (by rfl))) pss_nil)))))
theorem ok_worth (T : Txt K mg c q) : FnOk P w K mg base (L2N.CX P w) 3 q.f_worth q.d_worth ["wishes", "pieces"] (spD K (R_worth c)) := by
  refine T.F_worth.okN sc_worth (sp_len (len_worth (c := c))) (fun cdv A outer s H vs Q E hr h => ?_)
  refine ⟨t_worth K c E, ?_, run_body h (body_worth)⟩
  exact (pss_cons (ps_expr (pe_call (ok_checked_pieces T) (hr.mono (by decide)) (by rfl) T.g_checked_pieces T.F_checked_pieces.kp T.b_checked_pieces .nil (L2N.passes_call (L2N.takes_of rfl rfl rfl rfl) (fun _ _ _ _ h => h)) (pa_cons (pv 0) (pa_cons (pv 1) pa_nil))))
      (pss_cons (ps_set (i := 2) sc_worth.nd rfl (by first | exact Or.inl rfl | exact Or.inr rfl) pe_int)
      (pss_cons (ps_for (L2.passes_of rfl) rfl (pi_range1 (by rfl) T.z_range (pa_cons (pe_callB call_len_seq (by rfl) T.z_len (by decide +kernel) (pa_cons (pv 0) pa_nil)) pa_nil)) (pg_name (i := 3) sc_worth.nd rfl (by first | exact Or.inl rfl | exact Or.inr rfl)) (pss_one (ps_set (i := 2) sc_worth.nd rfl (by first | exact Or.inl rfl | exact Or.inr rfl) (pe_op op_add (pv 2) (pe_call (ok_gain T) (hr.mono (by decide)) (by rfl) T.g_gain T.F_gain.kp T.b_gain .nil pass0 (pa_cons (pe_ix ix_list (pv 0) (pv 3) (fun _ _ => rfl)) (pa_cons pe_int (pa_cons (pe_ix ix_list (pv 1) (pv 3) (fun _ _ => rfl)) pa_nil))))))))
      (pss_one (ps_ret (pv 2))))))
theorem ok_of_side (T : Txt K mg c q) : FnOk P w K mg base CX0 1 q.f_of_side q.d_of_side ["wishes", "pieces", "side"] (spD K (R_of_side c)) := by
  refine T.F_of_side.ok sc_of_side (sp_len (len_of_side (c := c))) (fun cdv A outer s H vs Q E hr h => ?_)
  refine ⟨t_of_side K c E0, ?_, run_body h (body_of_side)⟩
  exact (pss_one (ps_ret (pe_callB (cr_sum rfl) (by rfl) T.z_sum (by decide +kernel) (pa_cons (pe_lc (own := [("number", 3)]) (g := gName 3) (tt := (tTest (tOp rEq (tOp (rIxT K) (tOp (rIxL K) (tVar 0) (tVar 3)) (tC (.int 0))) (tVar 2)))) rfl sc_of_side.nd (pi_range1 (by rfl) T.z_range (pa_cons (pe_callB call_len_seq (by rfl) T.z_len (by decide +kernel) (pa_cons (pv 0) pa_nil)) pa_nil)) (blkOk_by (N := ["wishes", "pieces", "side", "number"]) (sc := defScope s_of_side) (by decide +kernel)) (fun _ _ _ _ _ => pg_name (i := 3) sc_of_side.nd rfl (Or.inl rfl)) (fun _ _ _ _ _ => (pts_one (pt_cmpR op_eq (pe_ix ix_tup (pe_ix ix_list (pv 0) (pv 3) (fun _ _ => rfl)) pe_int (fun _ _ => rfl)) (pv 2) (nomark _)))) (fun _ _ _ _ _ => (pe_ix ix_list (pv 1) (pv 3) (fun _ _ => rfl)))) pa_nil))))
theorem ok_even (T : Txt K mg c q) : FnOk P w K mg base (L2N.CX P w) 3 q.f_even q.d_even ["wishes", "pieces"] (spD K (R_even c)) := by
  refine T.F_even.okN sc_even (sp_len (len_even (c := c))) (fun cdv A outer s H vs Q E hr h => ?_)
  refine ⟨t_even K c E, ?_, run_body h (body_even)⟩
  exact (pss_cons (ps_expr (pe_call (ok_checked_pieces T) (hr.mono (by decide)) (by rfl) T.g_checked_pieces T.F_checked_pieces.kp T.b_checked_pieces .nil (L2N.passes_call (L2N.takes_of rfl rfl rfl rfl) (fun _ _ _ _ h => h)) (pa_cons (pv 0) (pa_cons (pv 1) pa_nil))))
      (pss_one (ps_ret (pe_cmpR op_eq (pe_call (ok_of_side T) (hr.mono (by decide)) (by rfl) T.g_of_side T.F_of_side.kp T.b_of_side .nil pass0 (pa_cons (pv 0) (pa_cons (pv 1) (pa_cons pe_str pa_nil)))) (pe_call (ok_of_side T) (hr.mono (by decide)) (by rfl) T.g_of_side T.F_of_side.kp T.b_of_side .nil pass0 (pa_cons (pv 0) (pa_cons (pv 1) (pa_cons pe_str pa_nil)))) (nomark _)))))
theorem ok_pairs (T : Txt K mg c q) : FnOk P w K mg base (L2N.CX P w) 4 q.f_pairs q.d_pairs ["wishes", "pieces"] (spD K (R_pairs c)) := by
  refine T.F_pairs.okN sc_pairs (sp_len (len_pairs (c := c))) (fun cdv A outer s H vs Q E hr h => ?_)
  refine ⟨t_pairs K c E, ?_, run_body h (body_pairs)⟩
  exact (pss_cons (ps_if (pt_not (pt_val (pe_call (ok_even T) (hr.mono (by decide)) (by rfl) T.g_even T.F_even.kp T.b_even .nil (L2N.passes_call (L2N.takes_of rfl rfl rfl rfl) (fun _ _ _ _ h => h)) (pa_cons (pv 0) (pa_cons (pv 1) pa_nil))))) (pss_one (ps_raiseN T.cc_Uneven rfl (L2N.takes_of rfl rfl rfl rfl) (by rfl))) pss_nil)
      (pss_cons (ps_setLc (i := 2) (own := [("number", 3)]) (g := gName 3) (tt := (tAnd (tTest (tOp rEq (tOp (rIxT K) (tOp (rIxL K) (tVar 0) (tVar 3)) (tC (.int 0))) (tC (.str "sell")))) (tTest (tOp (rI0 fun i j => .bl (decide (j < i))) (tOp (rIxL K) (tVar 1) (tVar 3)) (tC (.int 0)))))) rfl sc_pairs.nd rfl rfl (sw_true rfl rfl rfl (by decide +kernel)) (pi_range1 (by rfl) T.z_range (pa_cons (pe_callB call_len_seq (by rfl) T.z_len (by decide +kernel) (pa_cons (pv 0) pa_nil)) pa_nil)) (blkOk_by (N := ["wishes", "pieces", "sellers", "number", "left", "found", "at", "buyer", "seller", "many"]) (sc := defScope s_pairs) (by decide +kernel)) (fun _ _ _ _ _ => pg_name (i := 3) sc_pairs.nd rfl (Or.inl rfl)) (fun _ _ _ _ _ => (pts_one (PW.pt (pw_and (pt_cmpR op_eq (pe_ix ix_tup (pe_ix ix_list (pv 0) (pv 3) (fun _ _ => rfl)) pe_int (fun _ _ => rfl)) pe_str (nomark _)) (pw_and1 (pt_cmpR op_gt (pe_ix ix_list (pv 1) (pv 3) (fun _ _ => rfl)) pe_int (nomark _))))))) (fun _ _ _ _ _ => (pv 3)))
      (pss_cons (ps_set (i := 4) sc_pairs.nd rfl (by first | exact Or.inl rfl | exact Or.inr rfl) (pe_callTy call_list_of (by rfl) T.z_list (by decide +kernel) (pa_cons (pv 1) pa_nil)))
      (pss_cons (ps_set (i := 5) sc_pairs.nd rfl (by first | exact Or.inl rfl | exact Or.inr rfl) (pe_lst pa_nil))
      (pss_cons (ps_set (i := 6) sc_pairs.nd rfl (by first | exact Or.inl rfl | exact Or.inr rfl) pe_int)
      (pss_cons (ps_for (L2.passes_of rfl) rfl (pi_range1 (by rfl) T.z_range (pa_cons (pe_callB call_len_seq (by rfl) T.z_len (by decide +kernel) (pa_cons (pv 0) pa_nil)) pa_nil)) (pg_name (i := 7) sc_pairs.nd rfl (by first | exact Or.inl rfl | exact Or.inr rfl)) (pss_one (ps_while (L2.passes_of rfl) (PW.pt (pw_and (pt_cmpR op_eq (pe_ix ix_tup (pe_ix ix_list (pv 0) (pv 7) (fun _ _ => rfl)) pe_int (fun _ _ => rfl)) pe_str (nomark _)) (pw_and1 (pt_cmpR op_gt (pe_ix ix_list (pv 4) (pv 7) (fun _ _ => rfl)) pe_int (nomark _))))) (pss_cons (ps_set (i := 8) sc_pairs.nd rfl (by first | exact Or.inl rfl | exact Or.inr rfl) (pe_ix ix_list (pv 2) (pv 6) (fun _ _ => rfl)))
      (pss_cons (ps_set (i := 9) sc_pairs.nd rfl (by first | exact Or.inl rfl | exact Or.inr rfl) (pe_callB (call_min2 rfl) (by rfl) T.z_min (by decide +kernel) (pa_cons (pe_ix ix_list (pv 4) (pv 7) (fun _ _ => rfl)) (pa_cons (pe_ix ix_list (pv 4) (pv 8) (fun _ _ => rfl)) pa_nil))))
      (pss_cons (ps_expr (pe_bm PySem.F.plainAttrs_list PySem.F.slot_list_append PySem.F.type_list_append mt_append (pv 5) (pa_cons (pe_tup (pa_cons (pv 7) (pa_cons (pv 8) (pa_cons (pv 9) pa_nil)))) pa_nil)))
      (pss_cons (ps_asg (pe_op op_sub (pe_ix ix_list (pv 4) (pv 7) (fun _ _ => rfl)) (pv 9)) (pg_sub (pv 4) (pv 7) set_list))
      (pss_cons (ps_asg (pe_op op_sub (pe_ix ix_list (pv 4) (pv 8) (fun _ _ => rfl)) (pv 9)) (pg_sub (pv 4) (pv 8) set_list))
      (pss_one (ps_if (pt_cmpR op_eq (pe_ix ix_list (pv 4) (pv 8) (fun _ _ => rfl)) pe_int (nomark _)) (pss_one (ps_set (i := 6) sc_pairs.nd rfl (by first | exact Or.inl rfl | exact Or.inr rfl) (pe_op op_add (pv 6) pe_int))) pss_nil))))))))))
      (pss_one (ps_ret (pv 5)))))))))
theorem ok_covered (T : Txt K mg c q) : FnOk P w K mg base CX0 4 q.f_covered q.d_covered ["wishes", "price"] (spD K (R_covered c)) := by
  refine T.F_covered.ok sc_covered (sp_len (len_covered (c := c))) (fun cdv A outer s H vs Q E hr h => ?_)
  refine ⟨t_covered K c E0, ?_, run_body h (body_covered)⟩
  exact (pss_one (ps_ret (pe_cmpR op_le (pe_call (ok_wanted T) (hr.mono (by decide)) (by rfl) T.g_wanted T.F_wanted.kp T.b_wanted .nil pass0 (pa_cons (pv 0) (pa_cons (pe_op op_add (pv 1) pe_int) pa_nil))) (pe_call (ok_offered T) (hr.mono (by decide)) (by rfl) T.g_offered T.F_offered.kp T.b_offered .nil pass0 (pa_cons (pv 0) (pa_cons (pv 1) pa_nil))) (nomark _))))
theorem ok_taken_up (T : Txt K mg c q) : FnOk P w K mg base CX0 4 q.f_taken_up q.d_taken_up ["wishes", "price"] (spD K (R_taken_up c)) := by
  refine T.F_taken_up.ok sc_taken_up (sp_len (len_taken_up (c := c))) (fun cdv A outer s H vs Q E hr h => ?_)
  refine ⟨t_taken_up K c E0, ?_, run_body h (body_taken_up)⟩
  exact (pss_one (ps_ret (pe_cmpR op_le (pe_call (ok_offered T) (hr.mono (by decide)) (by rfl) T.g_offered T.F_offered.kp T.b_offered .nil pass0 (pa_cons (pv 0) (pa_cons (pe_op op_sub (pv 1) pe_int) pa_nil))) (pe_call (ok_wanted T) (hr.mono (by decide)) (by rfl) T.g_wanted T.F_wanted.kp T.b_wanted .nil pass0 (pa_cons (pv 0) (pa_cons (pv 1) pa_nil))) (nomark _))))
theorem ok_lowest (T : Txt K mg c q) : FnOk P w K mg base CX0 5 q.f_lowest q.d_lowest ["wishes"] (spD K (R_lowest c)) := by
  refine T.F_lowest.ok sc_lowest (sp_len (len_lowest (c := c))) (fun cdv A outer s H vs Q E hr h => ?_)
  refine ⟨t_lowest K c E0, ?_, run_body h (body_lowest)⟩
  exact (pss_cons (ps_set (i := 1) sc_lowest.nd rfl (by first | exact Or.inl rfl | exact Or.inr rfl) (pe_callB cr_sortedI (by rfl) T.z_sorted (by decide +kernel) (pa_cons (pe_op op_cat (pe_lst (pa_cons pe_int pa_nil)) (pe_lc (own := [("wish", 2)]) (g := gName 2) (tt := tYes) rfl sc_lowest.nd (pi_list (pv 0)) (blkOk_by (N := ["wishes", "limits", "wish", "low", "high", "middle"]) (sc := defScope s_lowest) (by decide +kernel)) (fun _ _ _ _ _ => pg_name (i := 2) sc_lowest.nd rfl (Or.inl rfl)) (fun _ _ _ _ _ => pts_nil) (fun _ _ _ _ _ => (pe_ix ix_tup (pv 2) pe_int (fun _ _ => rfl))))) pa_nil)))
      (pss_cons (ps_set (i := 3) sc_lowest.nd rfl (by first | exact Or.inl rfl | exact Or.inr rfl) pe_int)
      (pss_cons (ps_set (i := 4) sc_lowest.nd rfl (by first | exact Or.inl rfl | exact Or.inr rfl) (pe_op op_sub (pe_callB call_len_seq (by rfl) T.z_len (by decide +kernel) (pa_cons (pv 1) pa_nil)) pe_int))
      (pss_cons (ps_while PassesOwn.never (pt_cmpR op_lt (pv 3) (pv 4) (nomark _)) (pss_cons (ps_set (i := 5) sc_lowest.nd rfl (by first | exact Or.inl rfl | exact Or.inr rfl) (pe_op op_fdiv (pe_op op_add (pv 3) (pv 4)) pe_int))
      (pss_one (ps_if (pt_val (pe_call (ok_covered T) (hr.mono (by decide)) (by rfl) T.g_covered T.F_covered.kp T.b_covered .nil pass0 (pa_cons (pv 0) (pa_cons (pe_ix ix_list (pv 1) (pv 5) (fun _ _ => rfl)) pa_nil)))) (pss_one (ps_set (i := 4) sc_lowest.nd rfl (by first | exact Or.inl rfl | exact Or.inr rfl) (pv 5))) (pss_one (ps_set (i := 3) sc_lowest.nd rfl (by first | exact Or.inl rfl | exact Or.inr rfl) (pe_op op_add (pv 5) pe_int)))))))
      (pss_one (ps_ret (pe_ix ix_list (pv 1) (pv 3) (fun _ _ => rfl))))))))
theorem ok_highest (T : Txt K mg c q) : FnOk P w K mg base CX0 5 q.f_highest q.d_highest ["wishes"] (spD K (R_highest c)) := by
  refine T.F_highest.ok sc_highest (sp_len (len_highest (c := c))) (fun cdv A outer s H vs Q E hr h => ?_)
  obtain ⟨_, hm_TOP⟩ := T.m_TOP
  refine ⟨t_highest K c E0, ?_, run_body h (body_highest)⟩
  exact (pss_cons (ps_set (i := 1) sc_highest.nd rfl (by first | exact Or.inl rfl | exact Or.inr rfl) (pe_callB cr_sortedI (by rfl) T.z_sorted (by decide +kernel) (pa_cons (pe_op op_cat (pe_lc (own := [("wish", 2)]) (g := gName 2) (tt := tYes) rfl sc_highest.nd (pi_list (pv 0)) (blkOk_by (N := ["wishes", "limits", "wish", "low", "high", "middle"]) (sc := defScope s_highest) (by decide +kernel)) (fun _ _ _ _ _ => pg_name (i := 2) sc_highest.nd rfl (Or.inl rfl)) (fun _ _ _ _ _ => pts_nil) (fun _ _ _ _ _ => (pe_ix ix_tup (pv 2) pe_int (fun _ _ => rfl)))) (pe_lst (pa_cons (pe_glob rfl hm_TOP ⟨_, rfl⟩) pa_nil))) pa_nil)))
      (pss_cons (ps_set (i := 3) sc_highest.nd rfl (by first | exact Or.inl rfl | exact Or.inr rfl) pe_int)
      (pss_cons (ps_set (i := 4) sc_highest.nd rfl (by first | exact Or.inl rfl | exact Or.inr rfl) (pe_op op_sub (pe_callB call_len_seq (by rfl) T.z_len (by decide +kernel) (pa_cons (pv 1) pa_nil)) pe_int))
      (pss_cons (ps_while PassesOwn.never (pt_cmpR op_lt (pv 3) (pv 4) (nomark _)) (pss_cons (ps_set (i := 5) sc_highest.nd rfl (by first | exact Or.inl rfl | exact Or.inr rfl) (pe_op op_fdiv (pe_op op_add (pe_op op_add (pv 3) (pv 4)) pe_int) pe_int))
      (pss_one (ps_if (pt_val (pe_call (ok_taken_up T) (hr.mono (by decide)) (by rfl) T.g_taken_up T.F_taken_up.kp T.b_taken_up .nil pass0 (pa_cons (pv 0) (pa_cons (pe_ix ix_list (pv 1) (pv 5) (fun _ _ => rfl)) pa_nil)))) (pss_one (ps_set (i := 3) sc_highest.nd rfl (by first | exact Or.inl rfl | exact Or.inr rfl) (pv 5))) (pss_one (ps_set (i := 4) sc_highest.nd rfl (by first | exact Or.inl rfl | exact Or.inr rfl) (pe_op op_sub (pv 5) pe_int)))))))
      (pss_one (ps_ret (pe_ix ix_list (pv 1) (pv 3) (fun _ _ => rfl))))))))
theorem ok_price_by (T : Txt K mg c q) : FnOk P w K mg base (L2N.CX P w) 6 q.f_price_by q.d_price_by ["wishes", "old"] (spD K (R_price_by c)) := by
  refine T.F_price_by.okN sc_price_by (sp_len (len_price_by (c := c))) (fun cdv A outer s H vs Q E hr h => ?_)
  refine ⟨t_price_by K c E, ?_, run_body h (body_price_by)⟩
  exact (pss_cons (ps_expr (pe_call (ok_checked_price T) (hr.mono (by decide)) (by rfl) T.g_checked_price T.F_checked_price.kp T.b_checked_price .nil (L2N.passes_call (L2N.takes_of rfl rfl rfl rfl) (fun _ _ _ _ h => h)) (pa_cons (pv 1) pa_nil)))
      (pss_one (ps_ret (pe_callB (call_max2 rfl) (by rfl) T.z_max (by decide +kernel) (pa_cons (pe_call (ok_lowest T) (hr.mono (by decide)) (by rfl) T.g_lowest T.F_lowest.kp T.b_lowest .nil pass0 (pa_cons (pv 0) pa_nil)) (pa_cons (pe_callB (call_min2 rfl) (by rfl) T.z_min (by decide +kernel) (pa_cons (pv 1) (pa_cons (pe_call (ok_highest T) (hr.mono (by decide)) (by rfl) T.g_highest T.F_highest.kp T.b_highest .nil pass0 (pa_cons (pv 0) pa_nil)) pa_nil))) pa_nil))))))
theorem ok__law_cell_at (T : Txt K mg c q) : FnOk P w K mg base CX0 1 q.f__law_cell_at q.d__law_cell_at ["_law_script", "_law_k"] (spD K (R__law_cell_at c)) := by
  refine T.F__law_cell_at.ok sc__law_cell_at (sp_len (len__law_cell_at (c := c))) (fun cdv A outer s H vs Q E hr h => ?_)
  refine ⟨t__law_cell_at K c E0, ?_, run_body h (body__law_cell_at)⟩
  exact (pss_cons (ps_if (pt_cmpR op_lt (pv 1) (pe_callB call_len_seq (by rfl) T.z_len (by decide +kernel) (pa_cons (pv 0) pa_nil)) (nomark _)) (pss_one (ps_ret (pe_ix ix_list (pv 0) (pv 1) (fun _ _ => rfl)))) pss_nil)
      (pss_one (ps_ret pe_int)))
theorem ok__law_whole (T : Txt K mg c q) : FnOk P w K mg base CX0 1 q.f__law_whole q.d__law_whole ["_law_thing"] (spD K (R__law_whole c)) := by
  refine T.F__law_whole.ok sc__law_whole (sp_len (len__law_whole (c := c))) (fun cdv A outer s H vs Q E hr h => ?_)
  refine ⟨t__law_whole K c E0, ?_, run_body h (body__law_whole)⟩
  exact (pss_one (ps_ret (pe_and (pe_callB call_isi (by rfl) T.z_isinstance (by decide +kernel) (pa_cons (pv 0) (pa_cons (pe_bltn (v := .ty "int") (by rfl) T.z_int (by decide +kernel) rfl) pa_nil))) (pe_one (pe_not (pe_callB call_isi (by rfl) T.z_isinstance (by decide +kernel) (pa_cons (pv 0) (pa_cons (pe_bltn (v := .ty "bool") (by rfl) T.z_bool (by decide +kernel) rfl) pa_nil))))))))
theorem ok__law_wish_by (T : Txt K mg c q) : FnOk P w K mg base CX0 1 q.f__law_wish_by q.d__law_wish_by ["_law_cell"] (spD K (R__law_wish_by c)) := by
  refine T.F__law_wish_by.ok sc__law_wish_by (sp_len (len__law_wish_by (c := c))) (fun cdv A outer s H vs Q E hr h => ?_)
  refine ⟨t__law_wish_by K c E0, ?_, run_body h (body__law_wish_by)⟩
  exact (pss_cons (ps_set (i := 1) sc__law_wish_by.nd rfl (by first | exact Or.inl rfl | exact Or.inr rfl) pe_str)
      (pss_cons (ps_if (pt_cmpR op_eq (pe_op op_mod (pv 0) pe_int) pe_int (nomark _)) (pss_one (ps_set (i := 1) sc__law_wish_by.nd rfl (by first | exact Or.inl rfl | exact Or.inr rfl) pe_str)) pss_nil)
      (pss_cons (ps_set (i := 2) sc__law_wish_by.nd rfl (by first | exact Or.inl rfl | exact Or.inr rfl) (pe_op op_mod (pe_op op_mul (pv 0) pe_int) pe_int))
      (pss_cons (ps_set (i := 3) sc__law_wish_by.nd rfl (by first | exact Or.inl rfl | exact Or.inr rfl) (pe_op op_add pe_int (pe_op op_mod (pe_op op_fdiv (pv 2) pe_int) pe_int)))
      (pss_cons (ps_if (pt_cmpR op_eq (pe_op op_mod (pv 2) pe_int) pe_int (nomark _)) (pss_one (ps_set (i := 3) sc__law_wish_by.nd rfl (by first | exact Or.inl rfl | exact Or.inr rfl) (pe_op op_mod (pe_op op_mod (pe_op op_mul (pv 0) pe_int) pe_int) pe_int))) pss_nil)
      (pss_cons (ps_if (pt_cmpR op_eq (pe_op op_mod (pv 2) pe_int) pe_int (nomark _)) (pss_one (ps_set (i := 3) sc__law_wish_by.nd rfl (by first | exact Or.inl rfl | exact Or.inr rfl) (pe_ix ix_list (pe_lst (pa_cons pe_int (pa_cons pe_int (pa_cons pe_int (pa_cons pe_int pa_nil))))) (pe_op op_mod (pe_op op_fdiv (pv 2) pe_int) pe_int) (fun _ _ => rfl)))) pss_nil)
      (pss_cons (ps_set (i := 4) sc__law_wish_by.nd rfl (by first | exact Or.inl rfl | exact Or.inr rfl) (pe_op op_add pe_int (pe_op op_mod (pe_op op_fdiv (pv 2) pe_int) pe_int)))
      (pss_cons (ps_if (pt_cmpR op_eq (pe_op op_mod (pe_op op_fdiv (pv 2) pe_int) pe_int) pe_int (nomark _)) (pss_one (ps_set (i := 4) sc__law_wish_by.nd rfl (by first | exact Or.inl rfl | exact Or.inr rfl) (pe_op op_add pe_int (pe_op op_mod (pe_op op_mod (pe_op op_mul (pv 0) pe_int) pe_int) pe_int)))) pss_nil)
      (pss_cons (ps_if (pt_cmpR op_eq (pe_op op_mod (pe_op op_fdiv (pv 2) pe_int) pe_int) pe_int (nomark _)) (pss_one (ps_set (i := 4) sc__law_wish_by.nd rfl (by first | exact Or.inl rfl | exact Or.inr rfl) pe_int)) pss_nil)
      (pss_one (ps_ret (pe_tup (pa_cons (pv 1) (pa_cons (pv 3) (pa_cons (pv 4) pa_nil)))))))))))))))
theorem ok__law_wishes_by (T : Txt K mg c q) : FnOk P w K mg base CX0 2 q.f__law_wishes_by q.d__law_wishes_by ["_law_script", "_law_first", "_law_few"] (spD K (R__law_wishes_by c)) := by
  refine T.F__law_wishes_by.ok sc__law_wishes_by (sp_len (len__law_wishes_by (c := c))) (fun cdv A outer s H vs Q E hr h => ?_)
  refine ⟨t__law_wishes_by K c E0, ?_, run_body h (body__law_wishes_by)⟩
  exact (pss_cons (ps_set (i := 3) sc__law_wishes_by.nd rfl (by first | exact Or.inl rfl | exact Or.inr rfl) (pv 2))
      (pss_cons (ps_if (pt_cmpR op_gt (pe_callB call_len_seq (by rfl) T.z_len (by decide +kernel) (pa_cons (pv 0) pa_nil)) pe_int (nomark _)) (pss_one (ps_set (i := 3) sc__law_wishes_by.nd rfl (by first | exact Or.inl rfl | exact Or.inr rfl) pe_int)) pss_nil)
      (pss_cons (ps_setLc (i := 4) (own := [("_law_cell", 5)]) (g := gName 5) (tt := tYes) rfl sc__law_wishes_by.nd rfl rfl (sw_true rfl rfl rfl (by decide +kernel)) (pi_list (pe_slice sl_list (pv 0) (po_some (pv 1)) (po_some (pe_op op_add (pv 1) (pv 3))))) (blkOk_by (N := ["_law_script", "_law_first", "_law_few", "_law_many", "_law_wishes", "_law_cell", "_law_k"]) (sc := defScope s__law_wishes_by) (by decide +kernel)) (fun _ _ _ _ _ => pg_name (i := 5) sc__law_wishes_by.nd rfl (Or.inl rfl)) (fun _ _ _ _ _ => pts_nil) (fun _ _ _ _ _ => (pe_call (ok__law_wish_by T) (hr.mono (by decide)) (by rfl) T.g__law_wish_by T.F__law_wish_by.kp T.b__law_wish_by .nil pass0 (pa_cons (pv 5) pa_nil))))
      (pss_cons (ps_if (pt_cmpR op_eq (pe_op op_mod (pe_call (ok__law_cell_at T) (hr.mono (by decide)) (by rfl) T.g__law_cell_at T.F__law_cell_at.kp T.b__law_cell_at .nil pass0 (pa_cons (pv 0) (pa_cons pe_int pa_nil))) pe_int) pe_int (nomark _)) (pss_one (ps_for PassesOwn.never rfl (pi_range1 (by rfl) T.z_range (pa_cons (pe_op op_add pe_int (pe_op op_mod (pe_call (ok__law_cell_at T) (hr.mono (by decide)) (by rfl) T.g__law_cell_at T.F__law_cell_at.kp T.b__law_cell_at .nil pass0 (pa_cons (pv 0) (pa_cons pe_int pa_nil))) pe_int)) pa_nil)) (pg_name (i := 6) sc__law_wishes_by.nd rfl (by first | exact Or.inl rfl | exact Or.inr rfl)) (pss_one (ps_expr (pe_bm PySem.F.plainAttrs_list PySem.F.slot_list_append PySem.F.type_list_append mt_append (pv 4) (pa_cons (pe_call (ok__law_wish_by T) (hr.mono (by decide)) (by rfl) T.g__law_wish_by T.F__law_wish_by.kp T.b__law_wish_by .nil pass0 (pa_cons (pe_op op_add (pe_call (ok__law_cell_at T) (hr.mono (by decide)) (by rfl) T.g__law_cell_at T.F__law_cell_at.kp T.b__law_cell_at .nil pass0 (pa_cons (pv 0) (pa_cons pe_int pa_nil))) (pe_op op_mul pe_int (pv 6))) pa_nil)) pa_nil)))))) pss_nil)
      (pss_one (ps_ret (pv 4)))))))
theorem ok__law_price_by (T : Txt K mg c q) : FnOk P w K mg base CX0 1 q.f__law_price_by q.d__law_price_by ["_law_wishes", "_law_cell", "_law_other"] (spD K (R__law_price_by c)) := by
  refine T.F__law_price_by.ok sc__law_price_by (sp_len (len__law_price_by (c := c))) (fun cdv A outer s H vs Q E hr h => ?_)
  refine ⟨t__law_price_by K c E0, ?_, run_body h (body__law_price_by)⟩
  exact (pss_cons (ps_set (i := 3) sc__law_price_by.nd rfl (by first | exact Or.inl rfl | exact Or.inr rfl) (pe_op op_add pe_int (pe_op op_mod (pv 2) pe_int)))
      (pss_cons (ps_if (pt_cmpR op_eq (pe_op op_mod (pv 1) pe_int) pe_int (nomark _)) (pss_one (ps_set (i := 3) sc__law_price_by.nd rfl (by first | exact Or.inl rfl | exact Or.inr rfl) (pe_op op_mod (pe_op op_mod (pe_op op_mul (pv 2) pe_int) pe_int) pe_int))) pss_nil)
      (pss_cons (ps_if (pt_cmpR op_eq (pe_op op_mod (pv 1) pe_int) pe_int (nomark _)) (pss_one (ps_set (i := 3) sc__law_price_by.nd rfl (by first | exact Or.inl rfl | exact Or.inr rfl) (pe_ix ix_list (pe_lst (pa_cons pe_int (pa_cons pe_int (pa_cons pe_int (pa_cons pe_int pa_nil))))) (pe_op op_mod (pv 2) pe_int) (fun _ _ => rfl)))) pss_nil)
      (pss_cons (ps_if (PW.pt (pw_and (pt_cmpR op_ge (pe_op op_mod (pv 1) pe_int) pe_int (nomark _)) (pw_and1 (pt_cmpR op_gt (pe_callB call_len_seq (by rfl) T.z_len (by decide +kernel) (pa_cons (pv 0) pa_nil)) pe_int (nomark _))))) (pss_one (ps_set (i := 3) sc__law_price_by.nd rfl (by first | exact Or.inl rfl | exact Or.inr rfl) (pe_op op_sub (pe_op op_add (pe_ix ix_tup (pe_ix ix_list (pv 0) (pe_op op_mod (pv 2) (pe_callB call_len_seq (by rfl) T.z_len (by decide +kernel) (pa_cons (pv 0) pa_nil))) (fun _ _ => rfl)) pe_int (fun _ _ => rfl)) (pe_op op_mod (pe_op op_fdiv (pv 1) pe_int) pe_int)) pe_int))) pss_nil)
      (pss_one (ps_ret (pe_callB (call_max2 rfl) (by rfl) T.z_max (by decide +kernel) (pa_cons pe_int (pa_cons (pe_callB (call_min2 rfl) (by rfl) T.z_min (by decide +kernel) (pa_cons pe_int (pa_cons (pv 3) pa_nil))) pa_nil)))))))))
theorem ok__law_pieces_by (T : Txt K mg c q) : FnOk P w K mg base CX0 1 q.f__law_pieces_by q.d__law_pieces_by ["_law_wishes", "_law_cell"] (spD K (R__law_pieces_by c)) := by
  refine T.F__law_pieces_by.ok sc__law_pieces_by (sp_len (len__law_pieces_by (c := c))) (fun cdv A outer s H vs Q E hr h => ?_)
  refine ⟨t__law_pieces_by K c E0, ?_, run_body h (body__law_pieces_by)⟩
  exact (pss_cons (ps_set (i := 2) sc__law_pieces_by.nd rfl (by first | exact Or.inl rfl | exact Or.inr rfl) (pe_lst pa_nil))
      (pss_cons (ps_for PassesOwn.never rfl (pi_range1 (by rfl) T.z_range (pa_cons (pe_callB call_len_seq (by rfl) T.z_len (by decide +kernel) (pa_cons (pv 0) pa_nil)) pa_nil)) (pg_name (i := 3) sc__law_pieces_by.nd rfl (by first | exact Or.inl rfl | exact Or.inr rfl)) (pss_cons (ps_set (i := 4) sc__law_pieces_by.nd rfl (by first | exact Or.inl rfl | exact Or.inr rfl) (pe_op op_mod (pe_op op_mul (pe_op op_add (pv 1) (pe_op op_mul pe_int (pv 3))) pe_int) pe_int))
      (pss_cons (ps_set (i := 5) sc__law_pieces_by.nd rfl (by first | exact Or.inl rfl | exact Or.inr rfl) (pe_op op_mod (pe_op op_fdiv (pv 4) pe_int) (pe_op op_add (pe_ix ix_tup (pe_ix ix_list (pv 0) (pv 3) (fun _ _ => rfl)) pe_int (fun _ _ => rfl)) pe_int)))
      (pss_cons (ps_if (pt_cmpR op_lt (pe_op op_mod (pv 4) pe_int) pe_int (nomark _)) (pss_one (ps_set (i := 5) sc__law_pieces_by.nd rfl (by first | exact Or.inl rfl | exact Or.inr rfl) pe_int)) pss_nil)
      (pss_cons (ps_if (PW.pt (pw_or (pt_cmpR op_eq (pe_op op_mod (pv 4) pe_int) pe_int (nomark _)) (pw_or1 (pt_cmpR op_eq (pe_op op_mod (pv 4) pe_int) pe_int (nomark _))))) (pss_one (ps_set (i := 5) sc__law_pieces_by.nd rfl (by first | exact Or.inl rfl | exact Or.inr rfl) (pe_ix ix_tup (pe_ix ix_list (pv 0) (pv 3) (fun _ _ => rfl)) pe_int (fun _ _ => rfl)))) pss_nil)
      (pss_one (ps_expr (pe_bm PySem.F.plainAttrs_list PySem.F.slot_list_append PySem.F.type_list_append mt_append (pv 2) (pa_cons (pv 5) pa_nil)))))))))
      (pss_one (ps_ret (pv 2)))))
theorem ok__law_side (T : Txt K mg c q) : FnOk P w K mg base CX0 1 q.f__law_side q.d__law_side ["_law_wishes", "_law_pieces", "_law_side_here"] (spD K (R__law_side c)) := by
  refine T.F__law_side.ok sc__law_side (sp_len (len__law_side (c := c))) (fun cdv A outer s H vs Q E hr h => ?_)
  refine ⟨t__law_side K c E0, ?_, run_body h (body__law_side)⟩
  exact (pss_one (ps_ret (pe_callB (cr_sum rfl) (by rfl) T.z_sum (by decide +kernel) (pa_cons (pe_lc (own := [("_law_k", 3)]) (g := gName 3) (tt := (tTest (tOp rEq (tOp (rIxT K) (tOp (rIxL K) (tVar 0) (tVar 3)) (tC (.int 0))) (tVar 2)))) rfl sc__law_side.nd (pi_range1 (by rfl) T.z_range (pa_cons (pe_callB call_len_seq (by rfl) T.z_len (by decide +kernel) (pa_cons (pv 0) pa_nil)) pa_nil)) (blkOk_by (N := ["_law_wishes", "_law_pieces", "_law_side_here", "_law_k"]) (sc := defScope s__law_side) (by decide +kernel)) (fun _ _ _ _ _ => pg_name (i := 3) sc__law_side.nd rfl (Or.inl rfl)) (fun _ _ _ _ _ => (pts_one (pt_cmpR op_eq (pe_ix ix_tup (pe_ix ix_list (pv 0) (pv 3) (fun _ _ => rfl)) pe_int (fun _ _ => rfl)) (pv 2) (nomark _)))) (fun _ _ _ _ _ => (pe_ix ix_list (pv 1) (pv 3) (fun _ _ => rfl)))) pa_nil))))
theorem ok__law_evened (T : Txt K mg c q) : FnOk P w K mg base CX0 2 q.f__law_evened q.d__law_evened ["_law_wishes", "_law_pieces"] (spD K (R__law_evened c)) := by
  refine T.F__law_evened.ok sc__law_evened (sp_len (len__law_evened (c := c))) (fun cdv A outer s H vs Q E hr h => ?_)
  refine ⟨t__law_evened K c E0, ?_, run_body h (body__law_evened)⟩
  exact (pss_cons (ps_set (i := 2) sc__law_evened.nd rfl (by first | exact Or.inl rfl | exact Or.inr rfl) (pe_op op_sub (pe_call (ok__law_side T) (hr.mono (by decide)) (by rfl) T.g__law_side T.F__law_side.kp T.b__law_side .nil pass0 (pa_cons (pv 0) (pa_cons (pv 1) (pa_cons pe_str pa_nil)))) (pe_call (ok__law_side T) (hr.mono (by decide)) (by rfl) T.g__law_side T.F__law_side.kp T.b__law_side .nil pass0 (pa_cons (pv 0) (pa_cons (pv 1) (pa_cons pe_str pa_nil))))))
      (pss_cons (ps_set (i := 3) sc__law_evened.nd rfl (by first | exact Or.inl rfl | exact Or.inr rfl) (pe_lst pa_nil))
      (pss_cons (ps_for PassesOwn.never rfl (pi_range1 (by rfl) T.z_range (pa_cons (pe_callB call_len_seq (by rfl) T.z_len (by decide +kernel) (pa_cons (pv 0) pa_nil)) pa_nil)) (pg_name (i := 4) sc__law_evened.nd rfl (by first | exact Or.inl rfl | exact Or.inr rfl)) (pss_cons (ps_set (i := 5) sc__law_evened.nd rfl (by first | exact Or.inl rfl | exact Or.inr rfl) pe_int)
      (pss_cons (ps_if (PW.pt (pw_and (pt_cmpR op_eq (pe_ix ix_tup (pe_ix ix_list (pv 0) (pv 4) (fun _ _ => rfl)) pe_int (fun _ _ => rfl)) pe_str (nomark _)) (pw_and1 (pt_cmpR op_gt (pv 2) pe_int (nomark _))))) (pss_cons (ps_set (i := 5) sc__law_evened.nd rfl (by first | exact Or.inl rfl | exact Or.inr rfl) (pe_callB (call_min2 rfl) (by rfl) T.z_min (by decide +kernel) (pa_cons (pe_ix ix_list (pv 1) (pv 4) (fun _ _ => rfl)) (pa_cons (pv 2) pa_nil))))
      (pss_one (ps_set (i := 2) sc__law_evened.nd rfl (by first | exact Or.inl rfl | exact Or.inr rfl) (pe_op op_sub (pv 2) (pv 5))))) (pss_one (ps_if (PW.pt (pw_and (pt_cmpR op_eq (pe_ix ix_tup (pe_ix ix_list (pv 0) (pv 4) (fun _ _ => rfl)) pe_int (fun _ _ => rfl)) pe_str (nomark _)) (pw_and1 (pt_cmpR op_lt (pv 2) pe_int (nomark _))))) (pss_cons (ps_set (i := 5) sc__law_evened.nd rfl (by first | exact Or.inl rfl | exact Or.inr rfl) (pe_callB (call_min2 rfl) (by rfl) T.z_min (by decide +kernel) (pa_cons (pe_ix ix_list (pv 1) (pv 4) (fun _ _ => rfl)) (pa_cons (pe_un un_neg (pv 2)) pa_nil))))
      (pss_one (ps_set (i := 2) sc__law_evened.nd rfl (by first | exact Or.inl rfl | exact Or.inr rfl) (pe_op op_add (pv 2) (pv 5))))) pss_nil)))
      (pss_one (ps_expr (pe_bm PySem.F.plainAttrs_list PySem.F.slot_list_append PySem.F.type_list_append mt_append (pv 3) (pa_cons (pe_op op_sub (pe_ix ix_list (pv 1) (pv 4) (fun _ _ => rfl)) (pv 5)) pa_nil)))))))
      (pss_one (ps_ret (pv 3))))))
theorem ok__law_numbers (T : Txt K mg c q) : FnOk P w K mg base CX0 2 q.f__law_numbers q.d__law_numbers ["_law_found", "_law_many"] (spD K (R__law_numbers c)) := by
  refine T.F__law_numbers.ok sc__law_numbers (sp_len (len__law_numbers (c := c))) (fun cdv A outer s H vs Q E hr h => ?_)
  refine ⟨t__law_numbers K c E0, ?_, run_body h (body__law_numbers)⟩
  exact (pss_cons (ps_if (PW.pt (pw_or (pt_not (pt_val (pe_callB call_isi (by rfl) T.z_isinstance (by decide +kernel) (pa_cons (pv 0) (pa_cons (pe_bltn (v := .ty "list") (by rfl) T.z_list (by decide +kernel) rfl) pa_nil))))) (pw_or1 (pt_cmpR op_ne (pe_callB call_len_seq (by rfl) T.z_len (by decide +kernel) (pa_cons (pv 0) pa_nil)) (pv 1) (nomark _))))) (pss_one (ps_ret pe_bl)) pss_nil)
      (pss_cons (ps_for PassesOwn.never rfl (pi_list (pv 0)) (pg_name (i := 2) sc__law_numbers.nd rfl (by first | exact Or.inl rfl | exact Or.inr rfl)) (pss_one (ps_if (pt_not (pt_val (pe_call (ok__law_whole T) (hr.mono (by decide)) (by rfl) T.g__law_whole T.F__law_whole.kp T.b__law_whole .nil pass0 (pa_cons (pv 2) pa_nil)))) (pss_one (ps_ret pe_bl)) pss_nil)))
      (pss_one (ps_ret pe_bl))))
theorem ok__law_gained (T : Txt K mg c q) : FnOk P w K mg base CX0 1 q.f__law_gained q.d__law_gained ["_law_wishes", "_law_pieces", "_law_price"] (spD K (R__law_gained c)) := by
  refine T.F__law_gained.ok sc__law_gained (sp_len (len__law_gained (c := c))) (fun cdv A outer s H vs Q E hr h => ?_)
  refine ⟨t__law_gained K c E0, ?_, run_body h (body__law_gained)⟩
  exact (pss_cons (ps_set (i := 3) sc__law_gained.nd rfl (by first | exact Or.inl rfl | exact Or.inr rfl) pe_int)
      (pss_cons (ps_for PassesOwn.never rfl (pi_range1 (by rfl) T.z_range (pa_cons (pe_callB call_len_seq (by rfl) T.z_len (by decide +kernel) (pa_cons (pv 0) pa_nil)) pa_nil)) (pg_name (i := 4) sc__law_gained.nd rfl (by first | exact Or.inl rfl | exact Or.inr rfl)) (pss_one (ps_if (pt_cmpR op_eq (pe_ix ix_tup (pe_ix ix_list (pv 0) (pv 4) (fun _ _ => rfl)) pe_int (fun _ _ => rfl)) pe_str (nomark _)) (pss_one (ps_set (i := 3) sc__law_gained.nd rfl (by first | exact Or.inl rfl | exact Or.inr rfl) (pe_op op_add (pv 3) (pe_op op_mul (pe_op op_sub (pe_ix ix_tup (pe_ix ix_list (pv 0) (pv 4) (fun _ _ => rfl)) pe_int (fun _ _ => rfl)) (pv 2)) (pe_ix ix_list (pv 1) (pv 4) (fun _ _ => rfl)))))) (pss_one (ps_set (i := 3) sc__law_gained.nd rfl (by first | exact Or.inl rfl | exact Or.inr rfl) (pe_op op_add (pv 3) (pe_op op_mul (pe_op op_sub (pv 2) (pe_ix ix_tup (pe_ix ix_list (pv 0) (pv 4) (fun _ _ => rfl)) pe_int (fun _ _ => rfl))) (pe_ix ix_list (pv 1) (pv 4) (fun _ _ => rfl)))))))))
      (pss_one (ps_ret (pv 3)))))
theorem ok__law_best_with_room (T : Txt K mg c q) : FnOk P w K mg base CX0 1 q.f__law_best_with_room q.d__law_best_with_room ["_law_wishes", "_law_pieces", "_law_side_here"] (spD K (R__law_best_with_room c)) := by
  refine T.F__law_best_with_room.ok sc__law_best_with_room (sp_len (len__law_best_with_room (c := c))) (fun cdv A outer s H vs Q E hr h => ?_)
  refine ⟨t__law_best_with_room K c E0, ?_, run_body h (body__law_best_with_room)⟩
  exact (pss_cons (ps_set (i := 3) sc__law_best_with_room.nd rfl (by first | exact Or.inl rfl | exact Or.inr rfl) (pe_un un_neg pe_int))
      (pss_cons (ps_for PassesOwn.never rfl (pi_range1 (by rfl) T.z_range (pa_cons (pe_callB call_len_seq (by rfl) T.z_len (by decide +kernel) (pa_cons (pv 0) pa_nil)) pa_nil)) (pg_name (i := 4) sc__law_best_with_room.nd rfl (by first | exact Or.inl rfl | exact Or.inr rfl)) (pss_one (ps_if (PW.pt (pw_and (pt_cmpR op_eq (pe_ix ix_tup (pe_ix ix_list (pv 0) (pv 4) (fun _ _ => rfl)) pe_int (fun _ _ => rfl)) (pv 2) (nomark _)) (pw_and1 (pt_cmpR op_lt (pe_ix ix_list (pv 1) (pv 4) (fun _ _ => rfl)) (pe_ix ix_tup (pe_ix ix_list (pv 0) (pv 4) (fun _ _ => rfl)) pe_int (fun _ _ => rfl)) (nomark _))))) (pss_cons (ps_set (i := 5) sc__law_best_with_room.nd rfl (by first | exact Or.inl rfl | exact Or.inr rfl) (pe_or (pe_cmpR op_lt (pv 3) pe_int (nomark _)) (pe_one (pe_cmpR op_gt (pe_ix ix_tup (pe_ix ix_list (pv 0) (pv 4) (fun _ _ => rfl)) pe_int (fun _ _ => rfl)) (pe_ix ix_tup (pe_ix ix_list (pv 0) (pv 3) (fun _ _ => rfl)) pe_int (fun _ _ => rfl)) (nomark _)))))
      (pss_cons (ps_if (pt_cmpR op_eq (pv 2) pe_str (nomark _)) (pss_one (ps_set (i := 5) sc__law_best_with_room.nd rfl (by first | exact Or.inl rfl | exact Or.inr rfl) (pe_or (pe_cmpR op_lt (pv 3) pe_int (nomark _)) (pe_one (pe_cmpR op_lt (pe_ix ix_tup (pe_ix ix_list (pv 0) (pv 4) (fun _ _ => rfl)) pe_int (fun _ _ => rfl)) (pe_ix ix_tup (pe_ix ix_list (pv 0) (pv 3) (fun _ _ => rfl)) pe_int (fun _ _ => rfl)) (nomark _)))))) pss_nil)
      (pss_one (ps_if (pt_val (pv 5)) (pss_one (ps_set (i := 3) sc__law_best_with_room.nd rfl (by first | exact Or.inl rfl | exact Or.inr rfl) (pv 4))) pss_nil)))) pss_nil)))
      (pss_one (ps_ret (pv 3)))))
theorem ok__law_one_more (T : Txt K mg c q) : FnOk P w K mg base CX0 2 q.f__law_one_more q.d__law_one_more ["_law_wishes", "_law_pieces"] (spD K (R__law_one_more c)) := by
  refine T.F__law_one_more.ok sc__law_one_more (sp_len (len__law_one_more (c := c))) (fun cdv A outer s H vs Q E hr h => ?_)
  refine ⟨t__law_one_more K c E0, ?_, run_body h (body__law_one_more)⟩
  exact (pss_cons (ps_set (i := 2) sc__law_one_more.nd rfl (by first | exact Or.inl rfl | exact Or.inr rfl) (pe_call (ok__law_best_with_room T) (hr.mono (by decide)) (by rfl) T.g__law_best_with_room T.F__law_best_with_room.kp T.b__law_best_with_room .nil pass0 (pa_cons (pv 0) (pa_cons (pv 1) (pa_cons pe_str pa_nil)))))
      (pss_cons (ps_set (i := 3) sc__law_one_more.nd rfl (by first | exact Or.inl rfl | exact Or.inr rfl) (pe_call (ok__law_best_with_room T) (hr.mono (by decide)) (by rfl) T.g__law_best_with_room T.F__law_best_with_room.kp T.b__law_best_with_room .nil pass0 (pa_cons (pv 0) (pa_cons (pv 1) (pa_cons pe_str pa_nil)))))
      (pss_cons (ps_set (i := 4) sc__law_one_more.nd rfl (by first | exact Or.inl rfl | exact Or.inr rfl) (pe_callTy call_list_of (by rfl) T.z_list (by decide +kernel) (pa_cons (pv 1) pa_nil)))
      (pss_cons (ps_if (PW.pt (pw_and (pt_cmpR op_ge (pv 2) pe_int (nomark _)) (pw_and1 (pt_cmpR op_ge (pv 3) pe_int (nomark _))))) (pss_cons (ps_asg (pe_op op_add (pe_ix ix_list (pv 4) (pv 2) (fun _ _ => rfl)) pe_int) (pg_sub (pv 4) (pv 2) set_list))
      (pss_one (ps_asg (pe_op op_add (pe_ix ix_list (pv 4) (pv 3) (fun _ _ => rfl)) pe_int) (pg_sub (pv 4) (pv 3) set_list)))) pss_nil)
      (pss_one (ps_ret (pv 4)))))))
theorem ok__law_shifted (T : Txt K mg c q) : FnOk P w K mg base CX0 1 q.f__law_shifted q.d__law_shifted ["_law_wishes", "_law_pieces", "_law_cell"] (spD K (R__law_shifted c)) := by
  refine T.F__law_shifted.ok sc__law_shifted (sp_len (len__law_shifted (c := c))) (fun cdv A outer s H vs Q E hr h => ?_)
  refine ⟨t__law_shifted K c E0, ?_, run_body h (body__law_shifted)⟩
  exact (pss_cons (ps_set (i := 3) sc__law_shifted.nd rfl (by first | exact Or.inl rfl | exact Or.inr rfl) (pe_callTy call_list_of (by rfl) T.z_list (by decide +kernel) (pa_cons (pv 1) pa_nil)))
      (pss_cons (ps_if (pt_cmpR op_eq (pe_callB call_len_seq (by rfl) T.z_len (by decide +kernel) (pa_cons (pv 0) pa_nil)) pe_int (nomark _)) (pss_one (ps_ret (pv 3))) pss_nil)
      (pss_cons (ps_set (i := 4) sc__law_shifted.nd rfl (by first | exact Or.inl rfl | exact Or.inr rfl) (pe_op op_mod (pv 2) (pe_callB call_len_seq (by rfl) T.z_len (by decide +kernel) (pa_cons (pv 0) pa_nil))))
      (pss_cons (ps_set (i := 5) sc__law_shifted.nd rfl (by first | exact Or.inl rfl | exact Or.inr rfl) (pe_op op_mod (pe_op op_fdiv (pv 2) pe_int) (pe_callB call_len_seq (by rfl) T.z_len (by decide +kernel) (pa_cons (pv 0) pa_nil))))
      (pss_cons (ps_if (pt_cmpR op_eq (pe_ix ix_tup (pe_ix ix_list (pv 0) (pv 4) (fun _ _ => rfl)) pe_int (fun _ _ => rfl)) (pe_ix ix_tup (pe_ix ix_list (pv 0) (pv 5) (fun _ _ => rfl)) pe_int (fun _ _ => rfl)) (nomark _)) (pss_cons (ps_set (i := 6) sc__law_shifted.nd rfl (by first | exact Or.inl rfl | exact Or.inr rfl) (pe_callB (call_min2 rfl) (by rfl) T.z_min (by decide +kernel) (pa_cons (pe_ix ix_list (pv 3) (pv 4) (fun _ _ => rfl)) (pa_cons (pe_op op_sub (pe_ix ix_tup (pe_ix ix_list (pv 0) (pv 5) (fun _ _ => rfl)) pe_int (fun _ _ => rfl)) (pe_ix ix_list (pv 3) (pv 5) (fun _ _ => rfl))) pa_nil))))
      (pss_cons (ps_if (PW.pt (pw_and (pt_cmpR op_ne (pv 4) (pv 5) (nomark _)) (pw_and1 (pt_cmpR op_gt (pv 6) pe_int (nomark _))))) (pss_cons (ps_set (i := 6) sc__law_shifted.nd rfl (by first | exact Or.inl rfl | exact Or.inr rfl) (pe_op op_add pe_int (pe_op op_mod (pe_op op_fdiv (pv 2) pe_int) (pv 6))))
      (pss_cons (ps_asg (pe_op op_sub (pe_ix ix_list (pv 3) (pv 4) (fun _ _ => rfl)) (pv 6)) (pg_sub (pv 3) (pv 4) set_list))
      (pss_one (ps_asg (pe_op op_add (pe_ix ix_list (pv 3) (pv 5) (fun _ _ => rfl)) (pv 6)) (pg_sub (pv 3) (pv 5) set_list))))) pss_nil)
      (pss_one (ps_ret (pv 3))))) pss_nil)
      (pss_cons (ps_set (i := 7) sc__law_shifted.nd rfl (by first | exact Or.inl rfl | exact Or.inr rfl) pe_int)
      (pss_cons (ps_if (PW.pt (pw_or (pt_cmpR op_eq (pe_op op_mod (pv 2) pe_int) pe_int (nomark _)) (pw_or (pt_cmpR op_eq (pe_ix ix_list (pv 3) (pv 4) (fun _ _ => rfl)) (pe_ix ix_tup (pe_ix ix_list (pv 0) (pv 4) (fun _ _ => rfl)) pe_int (fun _ _ => rfl)) (nomark _)) (pw_or1 (pt_cmpR op_eq (pe_ix ix_list (pv 3) (pv 5) (fun _ _ => rfl)) (pe_ix ix_tup (pe_ix ix_list (pv 0) (pv 5) (fun _ _ => rfl)) pe_int (fun _ _ => rfl)) (nomark _)))))) (pss_one (ps_set (i := 7) sc__law_shifted.nd rfl (by first | exact Or.inl rfl | exact Or.inr rfl) (pe_un un_neg pe_int))) pss_nil)
      (pss_cons (ps_if (PW.pt (pw_or (pt_cmpR op_eq (pv 7) pe_int (nomark _)) (pw_or1 (PW.pt (pw_and (pt_cmpR op_gt (pe_ix ix_list (pv 3) (pv 4) (fun _ _ => rfl)) pe_int (nomark _)) (pw_and1 (pt_cmpR op_gt (pe_ix ix_list (pv 3) (pv 5) (fun _ _ => rfl)) pe_int (nomark _)))))))) (pss_cons (ps_asg (pe_op op_add (pe_ix ix_list (pv 3) (pv 4) (fun _ _ => rfl)) (pv 7)) (pg_sub (pv 3) (pv 4) set_list))
      (pss_one (ps_asg (pe_op op_add (pe_ix ix_list (pv 3) (pv 5) (fun _ _ => rfl)) (pv 7)) (pg_sub (pv 3) (pv 5) set_list)))) pss_nil)
      (pss_one (ps_ret (pv 3)))))))))))
theorem ok__law_pairs_good (T : Txt K mg c q) : FnOk P w K mg base CX0 3 q.f__law_pairs_good q.d__law_pairs_good ["_law_found", "_law_wishes", "_law_pieces", "_law_price"] (spD K (R__law_pairs_good c)) := by
  refine T.F__law_pairs_good.ok sc__law_pairs_good (sp_len (len__law_pairs_good (c := c))) (fun cdv A outer s H vs Q E hr h => ?_)
  refine ⟨t__law_pairs_good K c E0, ?_, run_body h (body__law_pairs_good)⟩
  exact (pss_cons (ps_if (pt_not (pt_val (pe_callB call_isi (by rfl) T.z_isinstance (by decide +kernel) (pa_cons (pv 0) (pa_cons (pe_bltn (v := .ty "list") (by rfl) T.z_list (by decide +kernel) rfl) pa_nil))))) (pss_one (ps_ret pe_bl)) pss_nil)
      (pss_cons (ps_set (i := 4) sc__law_pairs_good.nd rfl (by first | exact Or.inl rfl | exact Or.inr rfl) (pe_callTy call_list_of (by rfl) T.z_list (by decide +kernel) (pa_cons (pv 2) pa_nil)))
      (pss_cons (ps_for PassesOwn.never rfl (pi_list (pv 0)) (pg_name (i := 5) sc__law_pairs_good.nd rfl (by first | exact Or.inl rfl | exact Or.inr rfl)) (pss_cons (ps_if (PW.pt (pw_or (pt_not (pt_val (pe_callB call_isi (by rfl) T.z_isinstance (by decide +kernel) (pa_cons (pv 5) (pa_cons (pe_bltn (v := .ty "tuple") (by rfl) T.z_tuple (by decide +kernel) rfl) pa_nil))))) (pw_or (pt_not (pt_val (pe_call (ok__law_numbers T) (hr.mono (by decide)) (by rfl) T.g__law_numbers T.F__law_numbers.kp T.b__law_numbers .nil pass0 (pa_cons (pe_callTy call_list_of (by rfl) T.z_list (by decide +kernel) (pa_cons (pv 5) pa_nil)) (pa_cons pe_int pa_nil))))) (pw_or1 (pt_cmpR op_lt (pe_ix ix_tup (pv 5) pe_int (fun _ _ => rfl)) pe_int (nomark _)))))) (pss_one (ps_ret pe_bl)) pss_nil)
      (pss_cons (ps_if (PW.pt (pw_or (pt_not (pt_chain op_le op_lt pe_int (pe_ix ix_tup (pv 5) pe_int (fun _ _ => rfl)) (pe_callB call_len_seq (by rfl) T.z_len (by decide +kernel) (pa_cons (pv 1) pa_nil)))) (pw_or1 (pt_not (pt_chain op_le op_lt pe_int (pe_ix ix_tup (pv 5) pe_int (fun _ _ => rfl)) (pe_callB call_len_seq (by rfl) T.z_len (by decide +kernel) (pa_cons (pv 1) pa_nil))))))) (pss_one (ps_ret pe_bl)) pss_nil)
      (pss_cons (ps_set (i := 6) sc__law_pairs_good.nd rfl (by first | exact Or.inl rfl | exact Or.inr rfl) (pe_ix ix_list (pv 1) (pe_ix ix_tup (pv 5) pe_int (fun _ _ => rfl)) (fun _ _ => rfl)))
      (pss_cons (ps_set (i := 7) sc__law_pairs_good.nd rfl (by first | exact Or.inl rfl | exact Or.inr rfl) (pe_ix ix_list (pv 1) (pe_ix ix_tup (pv 5) pe_int (fun _ _ => rfl)) (fun _ _ => rfl)))
      (pss_cons (ps_if (PW.pt (pw_or (pt_cmpR op_ne (pe_ix ix_tup (pv 6) pe_int (fun _ _ => rfl)) pe_str (nomark _)) (pw_or (pt_cmpR op_ne (pe_ix ix_tup (pv 7) pe_int (fun _ _ => rfl)) pe_str (nomark _)) (pw_or1 (pt_not (pt_chain op_le op_le (pe_ix ix_tup (pv 7) pe_int (fun _ _ => rfl)) (pv 3) (pe_ix ix_tup (pv 6) pe_int (fun _ _ => rfl)))))))) (pss_one (ps_ret pe_bl)) pss_nil)
      (pss_cons (ps_asg (pe_op op_sub (pe_ix ix_list (pv 4) (pe_ix ix_tup (pv 5) pe_int (fun _ _ => rfl)) (fun _ _ => rfl)) (pe_ix ix_tup (pv 5) pe_int (fun _ _ => rfl))) (pg_sub (pv 4) (pe_ix ix_tup (pv 5) pe_int (fun _ _ => rfl)) set_list))
      (pss_one (ps_asg (pe_op op_sub (pe_ix ix_list (pv 4) (pe_ix ix_tup (pv 5) pe_int (fun _ _ => rfl)) (fun _ _ => rfl)) (pe_ix ix_tup (pv 5) pe_int (fun _ _ => rfl))) (pg_sub (pv 4) (pe_ix ix_tup (pv 5) pe_int (fun _ _ => rfl)) set_list))))))))))
      (pss_one (ps_ret (pe_cmpR (op_eqD hr.units) (pv 4) (pe_lc (own := [("_law_wish", 8)]) (g := gName 8) (tt := tYes) rfl sc__law_pairs_good.nd (pi_list (pv 1)) (blkOk_by (N := ["_law_found", "_law_wishes", "_law_pieces", "_law_price", "_law_left", "_law_deal", "_law_buyer", "_law_seller", "_law_wish"]) (sc := defScope s__law_pairs_good) (by decide +kernel)) (fun _ _ _ _ _ => pg_name (i := 8) sc__law_pairs_good.nd rfl (Or.inl rfl)) (fun _ _ _ _ _ => pts_nil) (fun _ _ _ _ _ => pe_int)) (nomark _)))))))
theorem ok_law {f : Addr} {fd : FuncData} (F : Fun K "law" "law" s_law f fd) (T : Txt K mg c q) : FnOk P w K mg base CX0 7 f fd ["_law_script"] (spD K (R_law c)) := by
  refine F.ok sc_law (sp_len (len_law (c := c))) (fun cdv A outer s H vs Q E hr h => ?_)
  refine ⟨t_law K c E0, ?_, run_body h (body_law)⟩
  exact (pss_cons (ps_set (i := 1) sc_law.nd rfl (by first | exact Or.inl rfl | exact Or.inr rfl) (pe_call (ok__law_wishes_by T) (hr.mono (by decide)) (by rfl) T.g__law_wishes_by T.F__law_wishes_by.kp T.b__law_wishes_by .nil pass0 (pa_cons (pv 0) (pa_cons pe_int (pa_cons pe_int pa_nil)))))
      (pss_cons (ps_set (i := 2) sc_law.nd rfl (by first | exact Or.inl rfl | exact Or.inr rfl) (pe_call (ok__law_price_by T) (hr.mono (by decide)) (by rfl) T.g__law_price_by T.F__law_price_by.kp T.b__law_price_by .nil pass0 (pa_cons (pv 1) (pa_cons (pe_call (ok__law_cell_at T) (hr.mono (by decide)) (by rfl) T.g__law_cell_at T.F__law_cell_at.kp T.b__law_cell_at .nil pass0 (pa_cons (pv 0) (pa_cons pe_int pa_nil))) (pa_cons (pe_call (ok__law_cell_at T) (hr.mono (by decide)) (by rfl) T.g__law_cell_at T.F__law_cell_at.kp T.b__law_cell_at .nil pass0 (pa_cons (pv 0) (pa_cons pe_int pa_nil))) pa_nil)))))
      (pss_cons (ps_set (i := 3) sc_law.nd rfl (by first | exact Or.inl rfl | exact Or.inr rfl) (pe_call (ok__law_evened T) (hr.mono (by decide)) (by rfl) T.g__law_evened T.F__law_evened.kp T.b__law_evened .nil pass0 (pa_cons (pv 1) (pa_cons (pe_call (ok__law_pieces_by T) (hr.mono (by decide)) (by rfl) T.g__law_pieces_by T.F__law_pieces_by.kp T.b__law_pieces_by .nil pass0 (pa_cons (pv 1) (pa_cons (pe_call (ok__law_cell_at T) (hr.mono (by decide)) (by rfl) T.g__law_cell_at T.F__law_cell_at.kp T.b__law_cell_at .nil pass0 (pa_cons (pv 0) (pa_cons pe_int pa_nil))) pa_nil))) pa_nil))))
      (pss_cons (ps_set (i := 4) sc_law.nd rfl (by first | exact Or.inl rfl | exact Or.inr rfl) (pe_call (ok_price_by T) (hr.mono (by decide)) (by rfl) T.g_price_by T.F_price_by.kp T.b_price_by .nil passLN (pa_cons (pe_callTy call_list_of (by rfl) T.z_list (by decide +kernel) (pa_cons (pv 1) pa_nil)) (pa_cons (pv 2) pa_nil))))
      (pss_cons (ps_if (pt_not (pt_val (pe_call (ok__law_whole T) (hr.mono (by decide)) (by rfl) T.g__law_whole T.F__law_whole.kp T.b__law_whole .nil pass0 (pa_cons (pv 4) pa_nil)))) (pss_one (ps_ret pe_bl)) pss_nil)
      (pss_cons (ps_set (i := 5) sc_law.nd rfl (by first | exact Or.inl rfl | exact Or.inr rfl) (pe_call (ok_pieces_at T) (hr.mono (by decide)) (by rfl) T.g_pieces_at T.F_pieces_at.kp T.b_pieces_at .nil passLN (pa_cons (pe_callTy call_list_of (by rfl) T.z_list (by decide +kernel) (pa_cons (pv 1) pa_nil)) (pa_cons (pv 4) pa_nil))))
      (pss_cons (ps_if (pt_not (pt_val (pe_call (ok__law_numbers T) (hr.mono (by decide)) (by rfl) T.g__law_numbers T.F__law_numbers.kp T.b__law_numbers .nil pass0 (pa_cons (pv 5) (pa_cons (pe_callB call_len_seq (by rfl) T.z_len (by decide +kernel) (pa_cons (pv 1) pa_nil)) pa_nil))))) (pss_one (ps_ret pe_bl)) pss_nil)
      (pss_cons (ps_for PassesOwn.never rfl (pi_range1 (by rfl) T.z_range (pa_cons (pe_callB call_len_seq (by rfl) T.z_len (by decide +kernel) (pa_cons (pv 1) pa_nil)) pa_nil)) (pg_name (i := 6) sc_law.nd rfl (by first | exact Or.inl rfl | exact Or.inr rfl)) (pss_one (ps_if (pt_not (pt_chain op_le op_le pe_int (pe_ix ix_list (pv 5) (pv 6) (fun _ _ => rfl)) (pe_ix ix_tup (pe_ix ix_list (pv 1) (pv 6) (fun _ _ => rfl)) pe_int (fun _ _ => rfl)))) (pss_one (ps_ret pe_bl)) pss_nil)))
      (pss_cons (ps_if (pt_cmpR op_ne (pe_call (ok__law_side T) (hr.mono (by decide)) (by rfl) T.g__law_side T.F__law_side.kp T.b__law_side .nil pass0 (pa_cons (pv 1) (pa_cons (pv 5) (pa_cons pe_str pa_nil)))) (pe_call (ok__law_side T) (hr.mono (by decide)) (by rfl) T.g__law_side T.F__law_side.kp T.b__law_side .nil pass0 (pa_cons (pv 1) (pa_cons (pv 5) (pa_cons pe_str pa_nil)))) (nomark _)) (pss_one (ps_ret pe_bl)) pss_nil)
      (pss_cons (ps_if (pt_cmpR op_eq (pe_op op_mod (pe_op op_fdiv (pe_call (ok__law_cell_at T) (hr.mono (by decide)) (by rfl) T.g__law_cell_at T.F__law_cell_at.kp T.b__law_cell_at .nil pass0 (pa_cons (pv 0) (pa_cons pe_int pa_nil))) pe_int) pe_int) pe_int (nomark _)) (pss_cons (ps_set (i := 3) sc_law.nd rfl (by first | exact Or.inl rfl | exact Or.inr rfl) (pe_call (ok__law_one_more T) (hr.mono (by decide)) (by rfl) T.g__law_one_more T.F__law_one_more.kp T.b__law_one_more .nil pass0 (pa_cons (pv 1) (pa_cons (pv 5) pa_nil))))
      (pss_one (ps_if (pt_cmpR op_gt (pe_op op_mod (pe_op op_fdiv (pe_call (ok__law_cell_at T) (hr.mono (by decide)) (by rfl) T.g__law_cell_at T.F__law_cell_at.kp T.b__law_cell_at .nil pass0 (pa_cons (pv 0) (pa_cons pe_int pa_nil))) pe_int) pe_int) pe_int (nomark _)) (pss_one (ps_set (i := 3) sc_law.nd rfl (by first | exact Or.inl rfl | exact Or.inr rfl) (pe_call (ok__law_shifted T) (hr.mono (by decide)) (by rfl) T.g__law_shifted T.F__law_shifted.kp T.b__law_shifted .nil pass0 (pa_cons (pv 1) (pa_cons (pv 5) (pa_cons (pe_op op_fdiv (pe_call (ok__law_cell_at T) (hr.mono (by decide)) (by rfl) T.g__law_cell_at T.F__law_cell_at.kp T.b__law_cell_at .nil pass0 (pa_cons (pv 0) (pa_cons pe_int pa_nil))) pe_int) pa_nil)))))) pss_nil))) pss_nil)
      (pss_cons (ps_set (i := 7) sc_law.nd rfl (by first | exact Or.inl rfl | exact Or.inr rfl) (pe_lst (pa_cons (pe_callTy call_list_of (by rfl) T.z_list (by decide +kernel) (pa_cons (pv 1) pa_nil)) (pa_cons (pe_callTy call_list_of (by rfl) T.z_list (by decide +kernel) (pa_cons (pv 5) pa_nil)) (pa_cons (pe_callTy call_list_of (by rfl) T.z_list (by decide +kernel) (pa_cons (pv 3) pa_nil)) pa_nil)))))
      (pss_cons (ps_set (i := 8) sc_law.nd rfl (by first | exact Or.inl rfl | exact Or.inr rfl) (pe_call (ok__law_gained T) (hr.mono (by decide)) (by rfl) T.g__law_gained T.F__law_gained.kp T.b__law_gained .nil pass0 (pa_cons (pv 1) (pa_cons (pv 5) (pa_cons pe_int pa_nil)))))
      (pss_cons (ps_set (i := 9) sc_law.nd rfl (by first | exact Or.inl rfl | exact Or.inr rfl) (pe_lst (pa_cons (pv 8) (pa_cons (pe_call (ok__law_gained T) (hr.mono (by decide)) (by rfl) T.g__law_gained T.F__law_gained.kp T.b__law_gained .nil pass0 (pa_cons (pv 1) (pa_cons (pv 3) (pa_cons pe_int pa_nil)))) pa_nil))))
      (pss_cons (ps_if (PW.pt (pw_or (pt_cmpR (op_neD hr.units) (pe_lst (pa_cons (pe_call (ok_worth T) (hr.mono (by decide)) (by rfl) T.g_worth T.F_worth.kp T.b_worth .nil passLN (pa_cons (pe_ix ix_list (pv 7) pe_int (fun _ _ => rfl)) (pa_cons (pe_ix ix_list (pv 7) pe_int (fun _ _ => rfl)) pa_nil))) (pa_cons (pe_call (ok_worth T) (hr.mono (by decide)) (by rfl) T.g_worth T.F_worth.kp T.b_worth .nil passLN (pa_cons (pe_ix ix_list (pv 7) pe_int (fun _ _ => rfl)) (pa_cons (pe_ix ix_list (pv 7) pe_int (fun _ _ => rfl)) pa_nil))) pa_nil))) (pv 9) (nomark _)) (pw_or1 (pt_cmpR op_gt (pe_ix ix_list (pv 9) pe_int (fun _ _ => rfl)) (pv 8) (nomark _))))) (pss_one (ps_ret pe_bl)) pss_nil)
      (pss_cons (ps_if (pt_cmpR op_gt (pe_call (ok__law_gained T) (hr.mono (by decide)) (by rfl) T.g__law_gained T.F__law_gained.kp T.b__law_gained .nil pass0 (pa_cons (pv 1) (pa_cons (pv 3) (pa_cons (pv 4) pa_nil)))) (pe_call (ok__law_gained T) (hr.mono (by decide)) (by rfl) T.g__law_gained T.F__law_gained.kp T.b__law_gained .nil pass0 (pa_cons (pv 1) (pa_cons (pv 5) (pa_cons (pv 4) pa_nil)))) (nomark _)) (pss_one (ps_ret pe_bl)) pss_nil)
      (pss_cons (ps_set (i := 10) sc_law.nd rfl (by first | exact Or.inl rfl | exact Or.inr rfl) (pe_call (ok_pairs T) (hr.mono (by decide)) (by rfl) T.g_pairs T.F_pairs.kp T.b_pairs .nil passLN (pa_cons (pe_ix ix_list (pv 7) pe_int (fun _ _ => rfl)) (pa_cons (pe_ix ix_list (pv 7) pe_int (fun _ _ => rfl)) pa_nil))))
      (pss_one (ps_ret (pe_and (pe_cmpR (op_eqD hr.units) (pv 7) (pe_lst (pa_cons (pv 1) (pa_cons (pv 5) (pa_cons (pv 3) pa_nil)))) (nomark _)) (pe_one (pe_call (ok__law_pairs_good T) (hr.mono (by decide)) (by rfl) T.g__law_pairs_good T.F__law_pairs_good.kp T.b__law_pairs_good .nil pass0 (pa_cons (pv 10) (pa_cons (pv 1) (pa_cons (pv 5) (pa_cons (pv 4) pa_nil)))))))))))))))))))))))))
end
theorem all_mk {l : PySem.W.OpenLaw} {w : World} {K : PySem.W.Frag} {h : Heap} {mg : Str → Option Value} {fa : Addr} {f0 f1 f2 f3 f4 f5 f6 f7 f8 f9 f10 f11 f12 f13 f14 f15 f16 f17 f18 f19 f20 f21 f22 f23 f24 f25 f26 f27 f28 f29 f30 f31 f32 f33 : Addr} (X : K.In h) (G : h.Ns mainGlobals mg) (hfa : mg "law" = some (.ref fa))
    {od0 an0 od1 an1 od2 an2 od3 an3 od4 an4 od5 an5 od6 an6 od7 an7 od8 an8 od9 an9 od10 an10 od11 an11 od12 an12 od13 an13 od14 an14 od15 an15 od16 an16 od17 an17 od18 an18 od19 an19 od20 an20 od21 an21 od22 an22 od23 an23 od24 an24 od25 an25 od26 an26 od27 an27 od28 an28 od29 an29 od30 an30 od31 an31 od32 an32 od33 an33 : Option Addr} {sl0 sl1 sl2 sl3 sl4 sl5 sl6 sl7 sl8 sl9 sl10 sl11 sl12 sl13 sl14 sl15 sl16 sl17 sl18 sl19 sl20 sl21 sl22 sl23 sl24 sl25 sl26 sl27 sl28 sl29 sl30 sl31 sl32 sl33 : Array (Option Value)} {oc0 kV0 dc0 pm0 cd0 ct0 oc1 kV1 dc1 pm1 cd1 ct1 oc2 kV2 dc2 pm2 cd2 ct2 oc3 kV3 dc3 pm3 cd3 ct3 oc4 kV4 dc4 pm4 cd4 ct4 oc5 kV5 dc5 pm5 cd5 ct5 oc6 kV6 dc6 pm6 cd6 ct6 oc7 kV7 dc7 pm7 cd7 ct7 oc8 kV8 dc8 pm8 cd8 ct8 oc9 kV9 dc9 pm9 cd9 ct9 oc10 kV10 dc10 pm10 cd10 ct10 oc11 kV11 dc11 pm11 cd11 ct11 oc12 kV12 dc12 pm12 cd12 ct12 oc13 kV13 dc13 pm13 cd13 ct13 oc14 kV14 dc14 pm14 cd14 ct14 oc15 kV15 dc15 pm15 cd15 ct15 oc16 kV16 dc16 pm16 cd16 ct16 oc17 kV17 dc17 pm17 cd17 ct17 oc18 kV18 dc18 pm18 cd18 ct18 oc19 kV19 dc19 pm19 cd19 ct19 oc20 kV20 dc20 pm20 cd20 ct20 oc21 kV21 dc21 pm21 cd21 ct21 oc22 kV22 dc22 pm22 cd22 ct22 oc23 kV23 dc23 pm23 cd23 ct23 oc24 kV24 dc24 pm24 cd24 ct24 oc25 kV25 dc25 pm25 cd25 ct25 oc26 kV26 dc26 pm26 cd26 ct26 oc27 kV27 dc27 pm27 cd27 ct27 oc28 kV28 dc28 pm28 cd28 ct28 oc29 kV29 dc29 pm29 cd29 ct29 oc30 kV30 dc30 pm30 cd30 ct30 oc31 kV31 dc31 pm31 cd31 ct31 oc32 kV32 dc32 pm32 cd32 ct32 oc33 kV33 dc33 pm33 cd33 ct33 : Value}
    (a0 : PySem.W.nsIn K mainGlobals "whole_within" = some (some (.ref f0))) (l0 : K.lookup f0 = some ⟨oc0, od0, .func (PySem.W.fnOf "whole_within" "whole_within" (defArgs s_whole_within) (defBody s_whole_within) (defScope s_whole_within) .none kV0 dc0 pm0 an0 cd0 ct0), sl0⟩) (c0 : PySem.W.codeIn K cd0 "whole_within" = true) (k0 : PySem.W.keepIn K (.ref f0) = true)
    (a1 : PySem.W.nsIn K mainGlobals "checked_price" = some (some (.ref f1))) (l1 : K.lookup f1 = some ⟨oc1, od1, .func (PySem.W.fnOf "checked_price" "checked_price" (defArgs s_checked_price) (defBody s_checked_price) (defScope s_checked_price) .none kV1 dc1 pm1 an1 cd1 ct1), sl1⟩) (c1 : PySem.W.codeIn K cd1 "checked_price" = true) (k1 : PySem.W.keepIn K (.ref f1) = true)
    (a2 : PySem.W.nsIn K mainGlobals "willing" = some (some (.ref f2))) (l2 : K.lookup f2 = some ⟨oc2, od2, .func (PySem.W.fnOf "willing" "willing" (defArgs s_willing) (defBody s_willing) (defScope s_willing) .none kV2 dc2 pm2 an2 cd2 ct2), sl2⟩) (c2 : PySem.W.codeIn K cd2 "willing" = true) (k2 : PySem.W.keepIn K (.ref f2) = true)
    (a3 : PySem.W.nsIn K mainGlobals "amount_of" = some (some (.ref f3))) (l3 : K.lookup f3 = some ⟨oc3, od3, .func (PySem.W.fnOf "amount_of" "amount_of" (defArgs s_amount_of) (defBody s_amount_of) (defScope s_amount_of) .none kV3 dc3 pm3 an3 cd3 ct3), sl3⟩) (c3 : PySem.W.codeIn K cd3 "amount_of" = true) (k3 : PySem.W.keepIn K (.ref f3) = true)
    (a4 : PySem.W.nsIn K mainGlobals "wanted" = some (some (.ref f4))) (l4 : K.lookup f4 = some ⟨oc4, od4, .func (PySem.W.fnOf "wanted" "wanted" (defArgs s_wanted) (defBody s_wanted) (defScope s_wanted) .none kV4 dc4 pm4 an4 cd4 ct4), sl4⟩) (c4 : PySem.W.codeIn K cd4 "wanted" = true) (k4 : PySem.W.keepIn K (.ref f4) = true)
    (a5 : PySem.W.nsIn K mainGlobals "offered" = some (some (.ref f5))) (l5 : K.lookup f5 = some ⟨oc5, od5, .func (PySem.W.fnOf "offered" "offered" (defArgs s_offered) (defBody s_offered) (defScope s_offered) .none kV5 dc5 pm5 an5 cd5 ct5), sl5⟩) (c5 : PySem.W.codeIn K cd5 "offered" = true) (k5 : PySem.W.keepIn K (.ref f5) = true)
    (a6 : PySem.W.nsIn K mainGlobals "order_of" = some (some (.ref f6))) (l6 : K.lookup f6 = some ⟨oc6, od6, .func (PySem.W.fnOf "order_of" "order_of" (defArgs s_order_of) (defBody s_order_of) (defScope s_order_of) .none kV6 dc6 pm6 an6 cd6 ct6), sl6⟩) (c6 : PySem.W.codeIn K cd6 "order_of" = true) (k6 : PySem.W.keepIn K (.ref f6) = true)
    (a7 : PySem.W.nsIn K mainGlobals "pieces_at" = some (some (.ref f7))) (l7 : K.lookup f7 = some ⟨oc7, od7, .func (PySem.W.fnOf "pieces_at" "pieces_at" (defArgs s_pieces_at) (defBody s_pieces_at) (defScope s_pieces_at) .none kV7 dc7 pm7 an7 cd7 ct7), sl7⟩) (c7 : PySem.W.codeIn K cd7 "pieces_at" = true) (k7 : PySem.W.keepIn K (.ref f7) = true)
    (a8 : PySem.W.nsIn K mainGlobals "gain" = some (some (.ref f8))) (l8 : K.lookup f8 = some ⟨oc8, od8, .func (PySem.W.fnOf "gain" "gain" (defArgs s_gain) (defBody s_gain) (defScope s_gain) .none kV8 dc8 pm8 an8 cd8 ct8), sl8⟩) (c8 : PySem.W.codeIn K cd8 "gain" = true) (k8 : PySem.W.keepIn K (.ref f8) = true)
    (a9 : PySem.W.nsIn K mainGlobals "checked_pieces" = some (some (.ref f9))) (l9 : K.lookup f9 = some ⟨oc9, od9, .func (PySem.W.fnOf "checked_pieces" "checked_pieces" (defArgs s_checked_pieces) (defBody s_checked_pieces) (defScope s_checked_pieces) .none kV9 dc9 pm9 an9 cd9 ct9), sl9⟩) (c9 : PySem.W.codeIn K cd9 "checked_pieces" = true) (k9 : PySem.W.keepIn K (.ref f9) = true)
    (a10 : PySem.W.nsIn K mainGlobals "worth" = some (some (.ref f10))) (l10 : K.lookup f10 = some ⟨oc10, od10, .func (PySem.W.fnOf "worth" "worth" (defArgs s_worth) (defBody s_worth) (defScope s_worth) .none kV10 dc10 pm10 an10 cd10 ct10), sl10⟩) (c10 : PySem.W.codeIn K cd10 "worth" = true) (k10 : PySem.W.keepIn K (.ref f10) = true)
    (a11 : PySem.W.nsIn K mainGlobals "of_side" = some (some (.ref f11))) (l11 : K.lookup f11 = some ⟨oc11, od11, .func (PySem.W.fnOf "of_side" "of_side" (defArgs s_of_side) (defBody s_of_side) (defScope s_of_side) .none kV11 dc11 pm11 an11 cd11 ct11), sl11⟩) (c11 : PySem.W.codeIn K cd11 "of_side" = true) (k11 : PySem.W.keepIn K (.ref f11) = true)
    (a12 : PySem.W.nsIn K mainGlobals "even" = some (some (.ref f12))) (l12 : K.lookup f12 = some ⟨oc12, od12, .func (PySem.W.fnOf "even" "even" (defArgs s_even) (defBody s_even) (defScope s_even) .none kV12 dc12 pm12 an12 cd12 ct12), sl12⟩) (c12 : PySem.W.codeIn K cd12 "even" = true) (k12 : PySem.W.keepIn K (.ref f12) = true)
    (a13 : PySem.W.nsIn K mainGlobals "pairs" = some (some (.ref f13))) (l13 : K.lookup f13 = some ⟨oc13, od13, .func (PySem.W.fnOf "pairs" "pairs" (defArgs s_pairs) (defBody s_pairs) (defScope s_pairs) .none kV13 dc13 pm13 an13 cd13 ct13), sl13⟩) (c13 : PySem.W.codeIn K cd13 "pairs" = true) (k13 : PySem.W.keepIn K (.ref f13) = true)
    (a14 : PySem.W.nsIn K mainGlobals "covered" = some (some (.ref f14))) (l14 : K.lookup f14 = some ⟨oc14, od14, .func (PySem.W.fnOf "covered" "covered" (defArgs s_covered) (defBody s_covered) (defScope s_covered) .none kV14 dc14 pm14 an14 cd14 ct14), sl14⟩) (c14 : PySem.W.codeIn K cd14 "covered" = true) (k14 : PySem.W.keepIn K (.ref f14) = true)
    (a15 : PySem.W.nsIn K mainGlobals "taken_up" = some (some (.ref f15))) (l15 : K.lookup f15 = some ⟨oc15, od15, .func (PySem.W.fnOf "taken_up" "taken_up" (defArgs s_taken_up) (defBody s_taken_up) (defScope s_taken_up) .none kV15 dc15 pm15 an15 cd15 ct15), sl15⟩) (c15 : PySem.W.codeIn K cd15 "taken_up" = true) (k15 : PySem.W.keepIn K (.ref f15) = true)
    (a16 : PySem.W.nsIn K mainGlobals "lowest" = some (some (.ref f16))) (l16 : K.lookup f16 = some ⟨oc16, od16, .func (PySem.W.fnOf "lowest" "lowest" (defArgs s_lowest) (defBody s_lowest) (defScope s_lowest) .none kV16 dc16 pm16 an16 cd16 ct16), sl16⟩) (c16 : PySem.W.codeIn K cd16 "lowest" = true) (k16 : PySem.W.keepIn K (.ref f16) = true)
    (a17 : PySem.W.nsIn K mainGlobals "highest" = some (some (.ref f17))) (l17 : K.lookup f17 = some ⟨oc17, od17, .func (PySem.W.fnOf "highest" "highest" (defArgs s_highest) (defBody s_highest) (defScope s_highest) .none kV17 dc17 pm17 an17 cd17 ct17), sl17⟩) (c17 : PySem.W.codeIn K cd17 "highest" = true) (k17 : PySem.W.keepIn K (.ref f17) = true)
    (a18 : PySem.W.nsIn K mainGlobals "price_by" = some (some (.ref f18))) (l18 : K.lookup f18 = some ⟨oc18, od18, .func (PySem.W.fnOf "price_by" "price_by" (defArgs s_price_by) (defBody s_price_by) (defScope s_price_by) .none kV18 dc18 pm18 an18 cd18 ct18), sl18⟩) (c18 : PySem.W.codeIn K cd18 "price_by" = true) (k18 : PySem.W.keepIn K (.ref f18) = true)
    (a19 : PySem.W.nsIn K mainGlobals "_law_cell_at" = some (some (.ref f19))) (l19 : K.lookup f19 = some ⟨oc19, od19, .func (PySem.W.fnOf "_law_cell_at" "_law_cell_at" (defArgs s__law_cell_at) (defBody s__law_cell_at) (defScope s__law_cell_at) .none kV19 dc19 pm19 an19 cd19 ct19), sl19⟩) (c19 : PySem.W.codeIn K cd19 "_law_cell_at" = true) (k19 : PySem.W.keepIn K (.ref f19) = true)
    (a20 : PySem.W.nsIn K mainGlobals "_law_whole" = some (some (.ref f20))) (l20 : K.lookup f20 = some ⟨oc20, od20, .func (PySem.W.fnOf "_law_whole" "_law_whole" (defArgs s__law_whole) (defBody s__law_whole) (defScope s__law_whole) .none kV20 dc20 pm20 an20 cd20 ct20), sl20⟩) (c20 : PySem.W.codeIn K cd20 "_law_whole" = true) (k20 : PySem.W.keepIn K (.ref f20) = true)
    (a21 : PySem.W.nsIn K mainGlobals "_law_wish_by" = some (some (.ref f21))) (l21 : K.lookup f21 = some ⟨oc21, od21, .func (PySem.W.fnOf "_law_wish_by" "_law_wish_by" (defArgs s__law_wish_by) (defBody s__law_wish_by) (defScope s__law_wish_by) .none kV21 dc21 pm21 an21 cd21 ct21), sl21⟩) (c21 : PySem.W.codeIn K cd21 "_law_wish_by" = true) (k21 : PySem.W.keepIn K (.ref f21) = true)
    (a22 : PySem.W.nsIn K mainGlobals "_law_wishes_by" = some (some (.ref f22))) (l22 : K.lookup f22 = some ⟨oc22, od22, .func (PySem.W.fnOf "_law_wishes_by" "_law_wishes_by" (defArgs s__law_wishes_by) (defBody s__law_wishes_by) (defScope s__law_wishes_by) .none kV22 dc22 pm22 an22 cd22 ct22), sl22⟩) (c22 : PySem.W.codeIn K cd22 "_law_wishes_by" = true) (k22 : PySem.W.keepIn K (.ref f22) = true)
    (a23 : PySem.W.nsIn K mainGlobals "_law_price_by" = some (some (.ref f23))) (l23 : K.lookup f23 = some ⟨oc23, od23, .func (PySem.W.fnOf "_law_price_by" "_law_price_by" (defArgs s__law_price_by) (defBody s__law_price_by) (defScope s__law_price_by) .none kV23 dc23 pm23 an23 cd23 ct23), sl23⟩) (c23 : PySem.W.codeIn K cd23 "_law_price_by" = true) (k23 : PySem.W.keepIn K (.ref f23) = true)
    (a24 : PySem.W.nsIn K mainGlobals "_law_pieces_by" = some (some (.ref f24))) (l24 : K.lookup f24 = some ⟨oc24, od24, .func (PySem.W.fnOf "_law_pieces_by" "_law_pieces_by" (defArgs s__law_pieces_by) (defBody s__law_pieces_by) (defScope s__law_pieces_by) .none kV24 dc24 pm24 an24 cd24 ct24), sl24⟩) (c24 : PySem.W.codeIn K cd24 "_law_pieces_by" = true) (k24 : PySem.W.keepIn K (.ref f24) = true)
    (a25 : PySem.W.nsIn K mainGlobals "_law_side" = some (some (.ref f25))) (l25 : K.lookup f25 = some ⟨oc25, od25, .func (PySem.W.fnOf "_law_side" "_law_side" (defArgs s__law_side) (defBody s__law_side) (defScope s__law_side) .none kV25 dc25 pm25 an25 cd25 ct25), sl25⟩) (c25 : PySem.W.codeIn K cd25 "_law_side" = true) (k25 : PySem.W.keepIn K (.ref f25) = true)
    (a26 : PySem.W.nsIn K mainGlobals "_law_evened" = some (some (.ref f26))) (l26 : K.lookup f26 = some ⟨oc26, od26, .func (PySem.W.fnOf "_law_evened" "_law_evened" (defArgs s__law_evened) (defBody s__law_evened) (defScope s__law_evened) .none kV26 dc26 pm26 an26 cd26 ct26), sl26⟩) (c26 : PySem.W.codeIn K cd26 "_law_evened" = true) (k26 : PySem.W.keepIn K (.ref f26) = true)
    (a27 : PySem.W.nsIn K mainGlobals "_law_numbers" = some (some (.ref f27))) (l27 : K.lookup f27 = some ⟨oc27, od27, .func (PySem.W.fnOf "_law_numbers" "_law_numbers" (defArgs s__law_numbers) (defBody s__law_numbers) (defScope s__law_numbers) .none kV27 dc27 pm27 an27 cd27 ct27), sl27⟩) (c27 : PySem.W.codeIn K cd27 "_law_numbers" = true) (k27 : PySem.W.keepIn K (.ref f27) = true)
    (a28 : PySem.W.nsIn K mainGlobals "_law_gained" = some (some (.ref f28))) (l28 : K.lookup f28 = some ⟨oc28, od28, .func (PySem.W.fnOf "_law_gained" "_law_gained" (defArgs s__law_gained) (defBody s__law_gained) (defScope s__law_gained) .none kV28 dc28 pm28 an28 cd28 ct28), sl28⟩) (c28 : PySem.W.codeIn K cd28 "_law_gained" = true) (k28 : PySem.W.keepIn K (.ref f28) = true)
    (a29 : PySem.W.nsIn K mainGlobals "_law_best_with_room" = some (some (.ref f29))) (l29 : K.lookup f29 = some ⟨oc29, od29, .func (PySem.W.fnOf "_law_best_with_room" "_law_best_with_room" (defArgs s__law_best_with_room) (defBody s__law_best_with_room) (defScope s__law_best_with_room) .none kV29 dc29 pm29 an29 cd29 ct29), sl29⟩) (c29 : PySem.W.codeIn K cd29 "_law_best_with_room" = true) (k29 : PySem.W.keepIn K (.ref f29) = true)
    (a30 : PySem.W.nsIn K mainGlobals "_law_one_more" = some (some (.ref f30))) (l30 : K.lookup f30 = some ⟨oc30, od30, .func (PySem.W.fnOf "_law_one_more" "_law_one_more" (defArgs s__law_one_more) (defBody s__law_one_more) (defScope s__law_one_more) .none kV30 dc30 pm30 an30 cd30 ct30), sl30⟩) (c30 : PySem.W.codeIn K cd30 "_law_one_more" = true) (k30 : PySem.W.keepIn K (.ref f30) = true)
    (a31 : PySem.W.nsIn K mainGlobals "_law_shifted" = some (some (.ref f31))) (l31 : K.lookup f31 = some ⟨oc31, od31, .func (PySem.W.fnOf "_law_shifted" "_law_shifted" (defArgs s__law_shifted) (defBody s__law_shifted) (defScope s__law_shifted) .none kV31 dc31 pm31 an31 cd31 ct31), sl31⟩) (c31 : PySem.W.codeIn K cd31 "_law_shifted" = true) (k31 : PySem.W.keepIn K (.ref f31) = true)
    (a32 : PySem.W.nsIn K mainGlobals "_law_pairs_good" = some (some (.ref f32))) (l32 : K.lookup f32 = some ⟨oc32, od32, .func (PySem.W.fnOf "_law_pairs_good" "_law_pairs_good" (defArgs s__law_pairs_good) (defBody s__law_pairs_good) (defScope s__law_pairs_good) .none kV32 dc32 pm32 an32 cd32 ct32), sl32⟩) (c32 : PySem.W.codeIn K cd32 "_law_pairs_good" = true) (k32 : PySem.W.keepIn K (.ref f32) = true)
    (a33 : PySem.W.nsIn K mainGlobals "law" = some (some (.ref f33))) (l33 : K.lookup f33 = some ⟨oc33, od33, .func (PySem.W.fnOf "law" "law" (defArgs s_law) (defBody s_law) (defScope s_law) .none kV33 dc33 pm33 an33 cd33 ct33), sl33⟩) (c33 : PySem.W.codeIn K cd33 "law" = true) (k33 : PySem.W.keepIn K (.ref f33) = true)
    (zbool : PySem.W.nsIn K mainGlobals "bool" = some none)
    (zint : PySem.W.nsIn K mainGlobals "int" = some none)
    (zisinstance : PySem.W.nsIn K mainGlobals "isinstance" = some none)
    (zlen : PySem.W.nsIn K mainGlobals "len" = some none)
    (zlist : PySem.W.nsIn K mainGlobals "list" = some none)
    (zmax : PySem.W.nsIn K mainGlobals "max" = some none)
    (zmin : PySem.W.nsIn K mainGlobals "min" = some none)
    (zrange : PySem.W.nsIn K mainGlobals "range" = some none)
    (zsorted : PySem.W.nsIn K mainGlobals "sorted" = some none)
    (zsum : PySem.W.nsIn K mainGlobals "sum" = some none)
    (ztuple : PySem.W.nsIn K mainGlobals "tuple" = some none)
    {tkTOP : Tok} (mTOP : PySem.W.nsIn K mainGlobals "TOP" = some (some (.int 1000000000 tkTOP)))
    {CBidError : Addr} (gBidError : PySem.W.nsIn K mainGlobals "BidError" = some (some (.ref CBidError))) (xBidError : PySem.W.excIn K CBidError [.type "ValueError", .type "Exception", .type "BaseException", .type "object"] "ValueError.__new__" = true) (pBidError : PySem.W.keepIn K (.ref CBidError) = true) (eBidError : PySem.W.subIn K (.ref CBidError) (.type "BaseException") = some true) (tBidError : PySem.W.typeIn K (.ref CBidError) = some (.type "type"))
    {CBadPrice : Addr} (gBadPrice : PySem.W.nsIn K mainGlobals "BadPrice" = some (some (.ref CBadPrice))) (xBadPrice : PySem.W.excIn K CBadPrice [.type "ValueError", .type "Exception", .type "BaseException", .type "object"] "ValueError.__new__" = true) (pBadPrice : PySem.W.keepIn K (.ref CBadPrice) = true) (eBadPrice : PySem.W.subIn K (.ref CBadPrice) (.type "BaseException") = some true) (tBadPrice : PySem.W.typeIn K (.ref CBadPrice) = some (.type "type"))
    {CBadPieces : Addr} (gBadPieces : PySem.W.nsIn K mainGlobals "BadPieces" = some (some (.ref CBadPieces))) (xBadPieces : PySem.W.excIn K CBadPieces [.type "ValueError", .type "Exception", .type "BaseException", .type "object"] "ValueError.__new__" = true) (pBadPieces : PySem.W.keepIn K (.ref CBadPieces) = true) (eBadPieces : PySem.W.subIn K (.ref CBadPieces) (.type "BaseException") = some true) (tBadPieces : PySem.W.typeIn K (.ref CBadPieces) = some (.type "type"))
    {CUneven : Addr} (gUneven : PySem.W.nsIn K mainGlobals "Uneven" = some (some (.ref CUneven))) (xUneven : PySem.W.excIn K CUneven [.type "ValueError", .type "Exception", .type "BaseException", .type "object"] "ValueError.__new__" = true) (pUneven : PySem.W.keepIn K (.ref CUneven) = true) (eUneven : PySem.W.subIn K (.ref CUneven) (.type "BaseException") = some true) (tUneven : PySem.W.typeIn K (.ref CUneven) = some (.type "type"))
    : ∃ fd : FuncData, (∀ (s : Shared) (v : Value), BindsTo s fd ⟨[v], []⟩ [("_law_script", v)]) ∧ ∀ base : Heap, K.In base → base.Ns mainGlobals mg → FnOk l.prog w K mg base CX0 7 fa fd ["_law_script"] (spD K (R_law VS.c0)) := by
  have e := hfa.symm.trans (PySem.W.mg_of X G a33)
  cases e
  have F0 := fun_mk (st := s_whole_within) l0 c0 k0
  have F1 := fun_mk (st := s_checked_price) l1 c1 k1
  have F2 := fun_mk (st := s_willing) l2 c2 k2
  have F3 := fun_mk (st := s_amount_of) l3 c3 k3
  have F4 := fun_mk (st := s_wanted) l4 c4 k4
  have F5 := fun_mk (st := s_offered) l5 c5 k5
  have F6 := fun_mk (st := s_order_of) l6 c6 k6
  have F7 := fun_mk (st := s_pieces_at) l7 c7 k7
  have F8 := fun_mk (st := s_gain) l8 c8 k8
  have F9 := fun_mk (st := s_checked_pieces) l9 c9 k9
  have F10 := fun_mk (st := s_worth) l10 c10 k10
  have F11 := fun_mk (st := s_of_side) l11 c11 k11
  have F12 := fun_mk (st := s_even) l12 c12 k12
  have F13 := fun_mk (st := s_pairs) l13 c13 k13
  have F14 := fun_mk (st := s_covered) l14 c14 k14
  have F15 := fun_mk (st := s_taken_up) l15 c15 k15
  have F16 := fun_mk (st := s_lowest) l16 c16 k16
  have F17 := fun_mk (st := s_highest) l17 c17 k17
  have F18 := fun_mk (st := s_price_by) l18 c18 k18
  have F19 := fun_mk (st := s__law_cell_at) l19 c19 k19
  have F20 := fun_mk (st := s__law_whole) l20 c20 k20
  have F21 := fun_mk (st := s__law_wish_by) l21 c21 k21
  have F22 := fun_mk (st := s__law_wishes_by) l22 c22 k22
  have F23 := fun_mk (st := s__law_price_by) l23 c23 k23
  have F24 := fun_mk (st := s__law_pieces_by) l24 c24 k24
  have F25 := fun_mk (st := s__law_side) l25 c25 k25
  have F26 := fun_mk (st := s__law_evened) l26 c26 k26
  have F27 := fun_mk (st := s__law_numbers) l27 c27 k27
  have F28 := fun_mk (st := s__law_gained) l28 c28 k28
  have F29 := fun_mk (st := s__law_best_with_room) l29 c29 k29
  have F30 := fun_mk (st := s__law_one_more) l30 c30 k30
  have F31 := fun_mk (st := s__law_shifted) l31 c31 k31
  have F32 := fun_mk (st := s__law_pairs_good) l32 c32 k32
  have F33 := fun_mk (st := s_law) l33 c33 k33
  have T : Txt K mg ⟨CBidError, 0, CBadPrice, CBadPieces, CUneven, 0, 0⟩ ⟨f0, PySem.W.fnOf "whole_within" "whole_within" (defArgs s_whole_within) (defBody s_whole_within) (defScope s_whole_within) .none kV0 dc0 pm0 an0 cd0 ct0, f1, PySem.W.fnOf "checked_price" "checked_price" (defArgs s_checked_price) (defBody s_checked_price) (defScope s_checked_price) .none kV1 dc1 pm1 an1 cd1 ct1, f2, PySem.W.fnOf "willing" "willing" (defArgs s_willing) (defBody s_willing) (defScope s_willing) .none kV2 dc2 pm2 an2 cd2 ct2, f3, PySem.W.fnOf "amount_of" "amount_of" (defArgs s_amount_of) (defBody s_amount_of) (defScope s_amount_of) .none kV3 dc3 pm3 an3 cd3 ct3, f4, PySem.W.fnOf "wanted" "wanted" (defArgs s_wanted) (defBody s_wanted) (defScope s_wanted) .none kV4 dc4 pm4 an4 cd4 ct4, f5, PySem.W.fnOf "offered" "offered" (defArgs s_offered) (defBody s_offered) (defScope s_offered) .none kV5 dc5 pm5 an5 cd5 ct5, f6, PySem.W.fnOf "order_of" "order_of" (defArgs s_order_of) (defBody s_order_of) (defScope s_order_of) .none kV6 dc6 pm6 an6 cd6 ct6, f7, PySem.W.fnOf "pieces_at" "pieces_at" (defArgs s_pieces_at) (defBody s_pieces_at) (defScope s_pieces_at) .none kV7 dc7 pm7 an7 cd7 ct7, f8, PySem.W.fnOf "gain" "gain" (defArgs s_gain) (defBody s_gain) (defScope s_gain) .none kV8 dc8 pm8 an8 cd8 ct8, f9, PySem.W.fnOf "checked_pieces" "checked_pieces" (defArgs s_checked_pieces) (defBody s_checked_pieces) (defScope s_checked_pieces) .none kV9 dc9 pm9 an9 cd9 ct9, f10, PySem.W.fnOf "worth" "worth" (defArgs s_worth) (defBody s_worth) (defScope s_worth) .none kV10 dc10 pm10 an10 cd10 ct10, f11, PySem.W.fnOf "of_side" "of_side" (defArgs s_of_side) (defBody s_of_side) (defScope s_of_side) .none kV11 dc11 pm11 an11 cd11 ct11, f12, PySem.W.fnOf "even" "even" (defArgs s_even) (defBody s_even) (defScope s_even) .none kV12 dc12 pm12 an12 cd12 ct12, f13, PySem.W.fnOf "pairs" "pairs" (defArgs s_pairs) (defBody s_pairs) (defScope s_pairs) .none kV13 dc13 pm13 an13 cd13 ct13, f14, PySem.W.fnOf "covered" "covered" (defArgs s_covered) (defBody s_covered) (defScope s_covered) .none kV14 dc14 pm14 an14 cd14 ct14, f15, PySem.W.fnOf "taken_up" "taken_up" (defArgs s_taken_up) (defBody s_taken_up) (defScope s_taken_up) .none kV15 dc15 pm15 an15 cd15 ct15, f16, PySem.W.fnOf "lowest" "lowest" (defArgs s_lowest) (defBody s_lowest) (defScope s_lowest) .none kV16 dc16 pm16 an16 cd16 ct16, f17, PySem.W.fnOf "highest" "highest" (defArgs s_highest) (defBody s_highest) (defScope s_highest) .none kV17 dc17 pm17 an17 cd17 ct17, f18, PySem.W.fnOf "price_by" "price_by" (defArgs s_price_by) (defBody s_price_by) (defScope s_price_by) .none kV18 dc18 pm18 an18 cd18 ct18, f19, PySem.W.fnOf "_law_cell_at" "_law_cell_at" (defArgs s__law_cell_at) (defBody s__law_cell_at) (defScope s__law_cell_at) .none kV19 dc19 pm19 an19 cd19 ct19, f20, PySem.W.fnOf "_law_whole" "_law_whole" (defArgs s__law_whole) (defBody s__law_whole) (defScope s__law_whole) .none kV20 dc20 pm20 an20 cd20 ct20, f21, PySem.W.fnOf "_law_wish_by" "_law_wish_by" (defArgs s__law_wish_by) (defBody s__law_wish_by) (defScope s__law_wish_by) .none kV21 dc21 pm21 an21 cd21 ct21, f22, PySem.W.fnOf "_law_wishes_by" "_law_wishes_by" (defArgs s__law_wishes_by) (defBody s__law_wishes_by) (defScope s__law_wishes_by) .none kV22 dc22 pm22 an22 cd22 ct22, f23, PySem.W.fnOf "_law_price_by" "_law_price_by" (defArgs s__law_price_by) (defBody s__law_price_by) (defScope s__law_price_by) .none kV23 dc23 pm23 an23 cd23 ct23, f24, PySem.W.fnOf "_law_pieces_by" "_law_pieces_by" (defArgs s__law_pieces_by) (defBody s__law_pieces_by) (defScope s__law_pieces_by) .none kV24 dc24 pm24 an24 cd24 ct24, f25, PySem.W.fnOf "_law_side" "_law_side" (defArgs s__law_side) (defBody s__law_side) (defScope s__law_side) .none kV25 dc25 pm25 an25 cd25 ct25, f26, PySem.W.fnOf "_law_evened" "_law_evened" (defArgs s__law_evened) (defBody s__law_evened) (defScope s__law_evened) .none kV26 dc26 pm26 an26 cd26 ct26, f27, PySem.W.fnOf "_law_numbers" "_law_numbers" (defArgs s__law_numbers) (defBody s__law_numbers) (defScope s__law_numbers) .none kV27 dc27 pm27 an27 cd27 ct27, f28, PySem.W.fnOf "_law_gained" "_law_gained" (defArgs s__law_gained) (defBody s__law_gained) (defScope s__law_gained) .none kV28 dc28 pm28 an28 cd28 ct28, f29, PySem.W.fnOf "_law_best_with_room" "_law_best_with_room" (defArgs s__law_best_with_room) (defBody s__law_best_with_room) (defScope s__law_best_with_room) .none kV29 dc29 pm29 an29 cd29 ct29, f30, PySem.W.fnOf "_law_one_more" "_law_one_more" (defArgs s__law_one_more) (defBody s__law_one_more) (defScope s__law_one_more) .none kV30 dc30 pm30 an30 cd30 ct30, f31, PySem.W.fnOf "_law_shifted" "_law_shifted" (defArgs s__law_shifted) (defBody s__law_shifted) (defScope s__law_shifted) .none kV31 dc31 pm31 an31 cd31 ct31, f32, PySem.W.fnOf "_law_pairs_good" "_law_pairs_good" (defArgs s__law_pairs_good) (defBody s__law_pairs_good) (defScope s__law_pairs_good) .none kV32 dc32 pm32 an32 cd32 ct32, ()⟩ := { F_whole_within := F0, g_whole_within := PySem.W.mg_of X G a0, b_whole_within := F0.binds (ps := ["thing", "low", "high"]) fun _ _ _ _ _ _ us hl => match us, hl with | [_, _, _], _ => rfl, F_checked_price := F1, g_checked_price := PySem.W.mg_of X G a1, b_checked_price := F1.binds (ps := ["price"]) fun _ _ _ _ _ _ us hl => match us, hl with | [_], _ => rfl, F_willing := F2, g_willing := PySem.W.mg_of X G a2, b_willing := F2.binds (ps := ["wish", "price"]) fun _ _ _ _ _ _ us hl => match us, hl with | [_, _], _ => rfl, F_amount_of := F3, g_amount_of := PySem.W.mg_of X G a3, b_amount_of := F3.binds (ps := ["wishes", "side", "price"]) fun _ _ _ _ _ _ us hl => match us, hl with | [_, _, _], _ => rfl, F_wanted := F4, g_wanted := PySem.W.mg_of X G a4, b_wanted := F4.binds (ps := ["wishes", "price"]) fun _ _ _ _ _ _ us hl => match us, hl with | [_, _], _ => rfl, F_offered := F5, g_offered := PySem.W.mg_of X G a5, b_offered := F5.binds (ps := ["wishes", "price"]) fun _ _ _ _ _ _ us hl => match us, hl with | [_, _], _ => rfl, F_order_of := F6, g_order_of := PySem.W.mg_of X G a6, b_order_of := F6.binds (ps := ["wishes", "side", "price"]) fun _ _ _ _ _ _ us hl => match us, hl with | [_, _, _], _ => rfl, F_pieces_at := F7, g_pieces_at := PySem.W.mg_of X G a7, b_pieces_at := F7.binds (ps := ["wishes", "price"]) fun _ _ _ _ _ _ us hl => match us, hl with | [_, _], _ => rfl, F_gain := F8, g_gain := PySem.W.mg_of X G a8, b_gain := F8.binds (ps := ["wish", "price", "pieces"]) fun _ _ _ _ _ _ us hl => match us, hl with | [_, _, _], _ => rfl, F_checked_pieces := F9, g_checked_pieces := PySem.W.mg_of X G a9, b_checked_pieces := F9.binds (ps := ["wishes", "pieces"]) fun _ _ _ _ _ _ us hl => match us, hl with | [_, _], _ => rfl, F_worth := F10, g_worth := PySem.W.mg_of X G a10, b_worth := F10.binds (ps := ["wishes", "pieces"]) fun _ _ _ _ _ _ us hl => match us, hl with | [_, _], _ => rfl, F_of_side := F11, g_of_side := PySem.W.mg_of X G a11, b_of_side := F11.binds (ps := ["wishes", "pieces", "side"]) fun _ _ _ _ _ _ us hl => match us, hl with | [_, _, _], _ => rfl, F_even := F12, g_even := PySem.W.mg_of X G a12, b_even := F12.binds (ps := ["wishes", "pieces"]) fun _ _ _ _ _ _ us hl => match us, hl with | [_, _], _ => rfl, F_pairs := F13, g_pairs := PySem.W.mg_of X G a13, b_pairs := F13.binds (ps := ["wishes", "pieces"]) fun _ _ _ _ _ _ us hl => match us, hl with | [_, _], _ => rfl, F_covered := F14, g_covered := PySem.W.mg_of X G a14, b_covered := F14.binds (ps := ["wishes", "price"]) fun _ _ _ _ _ _ us hl => match us, hl with | [_, _], _ => rfl, F_taken_up := F15, g_taken_up := PySem.W.mg_of X G a15, b_taken_up := F15.binds (ps := ["wishes", "price"]) fun _ _ _ _ _ _ us hl => match us, hl with | [_, _], _ => rfl, F_lowest := F16, g_lowest := PySem.W.mg_of X G a16, b_lowest := F16.binds (ps := ["wishes"]) fun _ _ _ _ _ _ us hl => match us, hl with | [_], _ => rfl, F_highest := F17, g_highest := PySem.W.mg_of X G a17, b_highest := F17.binds (ps := ["wishes"]) fun _ _ _ _ _ _ us hl => match us, hl with | [_], _ => rfl, F_price_by := F18, g_price_by := PySem.W.mg_of X G a18, b_price_by := F18.binds (ps := ["wishes", "old"]) fun _ _ _ _ _ _ us hl => match us, hl with | [_, _], _ => rfl, F__law_cell_at := F19, g__law_cell_at := PySem.W.mg_of X G a19, b__law_cell_at := F19.binds (ps := ["_law_script", "_law_k"]) fun _ _ _ _ _ _ us hl => match us, hl with | [_, _], _ => rfl, F__law_whole := F20, g__law_whole := PySem.W.mg_of X G a20, b__law_whole := F20.binds (ps := ["_law_thing"]) fun _ _ _ _ _ _ us hl => match us, hl with | [_], _ => rfl, F__law_wish_by := F21, g__law_wish_by := PySem.W.mg_of X G a21, b__law_wish_by := F21.binds (ps := ["_law_cell"]) fun _ _ _ _ _ _ us hl => match us, hl with | [_], _ => rfl, F__law_wishes_by := F22, g__law_wishes_by := PySem.W.mg_of X G a22, b__law_wishes_by := F22.binds (ps := ["_law_script", "_law_first", "_law_few"]) fun _ _ _ _ _ _ us hl => match us, hl with | [_, _, _], _ => rfl, F__law_price_by := F23, g__law_price_by := PySem.W.mg_of X G a23, b__law_price_by := F23.binds (ps := ["_law_wishes", "_law_cell", "_law_other"]) fun _ _ _ _ _ _ us hl => match us, hl with | [_, _, _], _ => rfl, F__law_pieces_by := F24, g__law_pieces_by := PySem.W.mg_of X G a24, b__law_pieces_by := F24.binds (ps := ["_law_wishes", "_law_cell"]) fun _ _ _ _ _ _ us hl => match us, hl with | [_, _], _ => rfl, F__law_side := F25, g__law_side := PySem.W.mg_of X G a25, b__law_side := F25.binds (ps := ["_law_wishes", "_law_pieces", "_law_side_here"]) fun _ _ _ _ _ _ us hl => match us, hl with | [_, _, _], _ => rfl, F__law_evened := F26, g__law_evened := PySem.W.mg_of X G a26, b__law_evened := F26.binds (ps := ["_law_wishes", "_law_pieces"]) fun _ _ _ _ _ _ us hl => match us, hl with | [_, _], _ => rfl, F__law_numbers := F27, g__law_numbers := PySem.W.mg_of X G a27, b__law_numbers := F27.binds (ps := ["_law_found", "_law_many"]) fun _ _ _ _ _ _ us hl => match us, hl with | [_, _], _ => rfl, F__law_gained := F28, g__law_gained := PySem.W.mg_of X G a28, b__law_gained := F28.binds (ps := ["_law_wishes", "_law_pieces", "_law_price"]) fun _ _ _ _ _ _ us hl => match us, hl with | [_, _, _], _ => rfl, F__law_best_with_room := F29, g__law_best_with_room := PySem.W.mg_of X G a29, b__law_best_with_room := F29.binds (ps := ["_law_wishes", "_law_pieces", "_law_side_here"]) fun _ _ _ _ _ _ us hl => match us, hl with | [_, _, _], _ => rfl, F__law_one_more := F30, g__law_one_more := PySem.W.mg_of X G a30, b__law_one_more := F30.binds (ps := ["_law_wishes", "_law_pieces"]) fun _ _ _ _ _ _ us hl => match us, hl with | [_, _], _ => rfl, F__law_shifted := F31, g__law_shifted := PySem.W.mg_of X G a31, b__law_shifted := F31.binds (ps := ["_law_wishes", "_law_pieces", "_law_cell"]) fun _ _ _ _ _ _ us hl => match us, hl with | [_, _, _], _ => rfl, F__law_pairs_good := F32, g__law_pairs_good := PySem.W.mg_of X G a32, b__law_pairs_good := F32.binds (ps := ["_law_found", "_law_wishes", "_law_pieces", "_law_price"]) fun _ _ _ _ _ _ us hl => match us, hl with | [_, _, _, _], _ => rfl, z_bool := PySem.W.mg_none_of X G zbool, z_int := PySem.W.mg_none_of X G zint, z_isinstance := PySem.W.mg_none_of X G zisinstance, z_len := PySem.W.mg_none_of X G zlen, z_list := PySem.W.mg_none_of X G zlist, z_max := PySem.W.mg_none_of X G zmax, z_min := PySem.W.mg_none_of X G zmin, z_range := PySem.W.mg_none_of X G zrange, z_sorted := PySem.W.mg_none_of X G zsorted, z_sum := PySem.W.mg_none_of X G zsum, z_tuple := PySem.W.mg_none_of X G ztuple, m_TOP := ⟨_, PySem.W.mg_of X G mTOP⟩, cc_BidError := ⟨PySem.W.mg_of X G gBidError, xBidError, pBidError, eBidError, tBidError⟩, cc_BadPrice := ⟨PySem.W.mg_of X G gBadPrice, xBadPrice, pBadPrice, eBadPrice, tBadPrice⟩, cc_BadPieces := ⟨PySem.W.mg_of X G gBadPieces, xBadPieces, pBadPieces, eBadPieces, tBadPieces⟩, cc_Uneven := ⟨PySem.W.mg_of X G gUneven, xUneven, pUneven, eUneven, tUneven⟩ }
  exact ⟨PySem.W.fnOf "law" "law" (defArgs s_law) (defBody s_law) (defScope s_law) .none kV33 dc33 pm33 an33 cd33 ct33, fun s v => .of_eq rfl, fun base _ _ => by
    have z := ok_law (P := l.prog) (w := w) (base := base) F33 T
    rw [R_law_eq _ VS.c0] at z
    exact z⟩
end PW
open PySem PySem.W PyProof.Rows in
set_option maxRecDepth 100000 in
set_option maxHeartbeats 0 in
theorem PySem.Challenge.cw_bidclear_k13_whole_no_other_set_holds : PySem.Challenge.rw_bidclear_k13_whole_no_other_set.Holds := by
  w_on; o_law; k_head; (case hw => w_witness2)
  k_fill
  refine L2.walk_ofB (l := PySem.Challenge.rw_bidclear_k13_whole_no_other_set) (n := 63) (k := 7) (x := "_law_script") (CX := fun _ => L2.CX0) (sp := fun w => VS.spD _ (VS.R_law VS.c0)) rfl (by decide) rfl ⟨rfl, by decide, by decide⟩ (fun w h Y => PySem.W.kIn_of Y) ?F (fun w H a ns hl hb _ hS => VS.law_start hS (VS.R_law_mk hl hb)) (fun _ _ _ _ _ h => h)
  case F =>
    intro w mg fa h KX G hmg
    refine' PW.all_mk KX G hmg ?a0 ?l0 ?c0 ?k0 ?a1 ?l1 ?c1 ?k1 ?a2 ?l2 ?c2 ?k2 ?a3 ?l3 ?c3 ?k3 ?a4 ?l4 ?c4 ?k4 ?a5 ?l5 ?c5 ?k5 ?a6 ?l6 ?c6 ?k6 ?a7 ?l7 ?c7 ?k7 ?a8 ?l8 ?c8 ?k8 ?a9 ?l9 ?c9 ?k9 ?a10 ?l10 ?c10 ?k10 ?a11 ?l11 ?c11 ?k11 ?a12 ?l12 ?c12 ?k12 ?a13 ?l13 ?c13 ?k13 ?a14 ?l14 ?c14 ?k14 ?a15 ?l15 ?c15 ?k15 ?a16 ?l16 ?c16 ?k16 ?a17 ?l17 ?c17 ?k17 ?a18 ?l18 ?c18 ?k18 ?a19 ?l19 ?c19 ?k19 ?a20 ?l20 ?c20 ?k20 ?a21 ?l21 ?c21 ?k21 ?a22 ?l22 ?c22 ?k22 ?a23 ?l23 ?c23 ?k23 ?a24 ?l24 ?c24 ?k24 ?a25 ?l25 ?c25 ?k25 ?a26 ?l26 ?c26 ?k26 ?a27 ?l27 ?c27 ?k27 ?a28 ?l28 ?c28 ?k28 ?a29 ?l29 ?c29 ?k29 ?a30 ?l30 ?c30 ?k30 ?a31 ?l31 ?c31 ?k31 ?a32 ?l32 ?c32 ?k32 ?a33 ?l33 ?c33 ?k33 ?zbool ?zint ?zisinstance ?zlen ?zlist ?zmax ?zmin ?zrange ?zsorted ?zsum ?ztuple ?mTOP ?gBidError ?xBidError ?pBidError ?eBidError ?tBidError ?gBadPrice ?xBadPrice ?pBadPrice ?eBadPrice ?tBadPrice ?gBadPieces ?xBadPieces ?pBadPieces ?eBadPieces ?tBadPieces ?gUneven ?xUneven ?pUneven ?eUneven ?tUneven
    (case a0 => k_is)
    (case l0 => k_is)
    (case c0 => k_is)
    (case k0 => k_is)
    (case a1 => k_is)
    (case l1 => k_is)
    (case c1 => k_is)
    (case k1 => k_is)
    (case a2 => k_is)
    (case l2 => k_is)
    (case c2 => k_is)
    (case k2 => k_is)
    (case a3 => k_is)
    (case l3 => k_is)
    (case c3 => k_is)
    (case k3 => k_is)
    (case a4 => k_is)
    (case l4 => k_is)
    (case c4 => k_is)
    (case k4 => k_is)
    (case a5 => k_is)
    (case l5 => k_is)
    (case c5 => k_is)
    (case k5 => k_is)
    (case a6 => k_is)
    (case l6 => k_is)
    (case c6 => k_is)
    (case k6 => k_is)
    (case a7 => k_is)
    (case l7 => k_is)
    (case c7 => k_is)
    (case k7 => k_is)
    (case a8 => k_is)
    (case l8 => k_is)
    (case c8 => k_is)
    (case k8 => k_is)
    (case a9 => k_is)
    (case l9 => k_is)
    (case c9 => k_is)
    (case k9 => k_is)
    (case a10 => k_is)
    (case l10 => k_is)
    (case c10 => k_is)
    (case k10 => k_is)
    (case a11 => k_is)
    (case l11 => k_is)
    (case c11 => k_is)
    (case k11 => k_is)
    (case a12 => k_is)
    (case l12 => k_is)
    (case c12 => k_is)
    (case k12 => k_is)
    (case a13 => k_is)
    (case l13 => k_is)
    (case c13 => k_is)
    (case k13 => k_is)
    (case a14 => k_is)
    (case l14 => k_is)
    (case c14 => k_is)
    (case k14 => k_is)
    (case a15 => k_is)
    (case l15 => k_is)
    (case c15 => k_is)
    (case k15 => k_is)
    (case a16 => k_is)
    (case l16 => k_is)
    (case c16 => k_is)
    (case k16 => k_is)
    (case a17 => k_is)
    (case l17 => k_is)
    (case c17 => k_is)
    (case k17 => k_is)
    (case a18 => k_is)
    (case l18 => k_is)
    (case c18 => k_is)
    (case k18 => k_is)
    (case a19 => k_is)
    (case l19 => k_is)
    (case c19 => k_is)
    (case k19 => k_is)
    (case a20 => k_is)
    (case l20 => k_is)
    (case c20 => k_is)
    (case k20 => k_is)
    (case a21 => k_is)
    (case l21 => k_is)
    (case c21 => k_is)
    (case k21 => k_is)
    (case a22 => k_is)
    (case l22 => k_is)
    (case c22 => k_is)
    (case k22 => k_is)
    (case a23 => k_is)
    (case l23 => k_is)
    (case c23 => k_is)
    (case k23 => k_is)
    (case a24 => k_is)
    (case l24 => k_is)
    (case c24 => k_is)
    (case k24 => k_is)
    (case a25 => k_is)
    (case l25 => k_is)
    (case c25 => k_is)
    (case k25 => k_is)
    (case a26 => k_is)
    (case l26 => k_is)
    (case c26 => k_is)
    (case k26 => k_is)
    (case a27 => k_is)
    (case l27 => k_is)
    (case c27 => k_is)
    (case k27 => k_is)
    (case a28 => k_is)
    (case l28 => k_is)
    (case c28 => k_is)
    (case k28 => k_is)
    (case a29 => k_is)
    (case l29 => k_is)
    (case c29 => k_is)
    (case k29 => k_is)
    (case a30 => k_is)
    (case l30 => k_is)
    (case c30 => k_is)
    (case k30 => k_is)
    (case a31 => k_is)
    (case l31 => k_is)
    (case c31 => k_is)
    (case k31 => k_is)
    (case a32 => k_is)
    (case l32 => k_is)
    (case c32 => k_is)
    (case k32 => k_is)
    (case a33 => k_is)
    (case l33 => k_is)
    (case c33 => k_is)
    (case k33 => k_is)
    (case zbool => k_is)
    (case zint => k_is)
    (case zisinstance => k_is)
    (case zlen => k_is)
    (case zlist => k_is)
    (case zmax => k_is)
    (case zmin => k_is)
    (case zrange => k_is)
    (case zsorted => k_is)
    (case zsum => k_is)
    (case ztuple => k_is)
    (case mTOP => k_is)
    (case gBidError => k_is)
    (case xBidError => k_exc)
    (case pBidError => k_is)
    (case eBidError => k_is)
    (case tBidError => k_is)
    (case gBadPrice => k_is)
    (case xBadPrice => k_exc)
    (case pBadPrice => k_is)
    (case eBadPrice => k_is)
    (case tBadPrice => k_is)
    (case gBadPieces => k_is)
    (case xBadPieces => k_exc)
    (case pBadPieces => k_is)
    (case eBadPieces => k_is)
    (case tBadPieces => k_is)
    (case gUneven => k_is)
    (case xUneven => k_exc)
    (case pUneven => k_is)
    (case eUneven => k_is)
    (case tUneven => k_is)
#print axioms PySem.Challenge.cw_bidclear_k13_whole_no_other_set_holds
