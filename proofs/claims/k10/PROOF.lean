import PyProof.Rows.All
import Wide.All
import OpenK.AllK
import Wide.FinOn
import PySem.Challenge.RW_bidclear_k10_written_and_read
import HandS.ForMost
import HandS.Evl
import HandS.IsInst
import HandS.SortInts
import HandS.SortRule
import HandS.ExcCtx
import HandS.EndBits
import HandS.HotCalls
import HandS.ExcIs
import HandS.WordsExc
set_option Elab.async false
set_option linter.all false
set_option maxRecDepth 100000
set_option maxHeartbeats 2000000
set_option Elab.async false
set_option linter.all false
set_option maxRecDepth 100000
/-! Value semantics over the hand layer: names hold data, fresh lists are owned by one name. -/
namespace VS
open PySem L2
open Evl (Ex ex_rd ex_l ex_t)

/-! ### heaps -/
theorem Ex.ne {H H' : Hp} (e : Ex H H') {a : Addr} (h : H' a = none) : H a = none := Evl.fresh_back e h
/-- what was frozen, and all that is new since H -/
def Grow (B H H' : Hp) : Hp := fun a => match H a with
  | none => H' a
  | some _ => B a
theorem grow_new {B H H' : Hp} {a : Addr} (h : H a = none) : Grow B H H' a = H' a := by unfold Grow; rw [h]
theorem grow_old {B H H' : Hp} {a : Addr} (h : H a ≠ none) : Grow B H H' a = B a := by
  unfold Grow
  cases e : H a with
  | none => exact absurd e h
  | some o => rfl
theorem ne_some {H : Hp} {a : Addr} {o : HO} (h : H a = some o) : H a ≠ none := fun z => by rw [h] at z; cases z
theorem grow_ex1 {B H H' : Hp} (e : Ex B H) : Ex B (Grow B H H') := fun a o h => by
  rw [grow_old (ne_some (e a o h))]
  exact h
theorem grow_ex2 {B H H' : Hp} (e : Ex B H) (e' : Ex H H') : Ex (Grow B H H') H' := fun a o h => by
  cases q : H a with
  | none => rw [grow_new q] at h; exact h
  | some u => rw [grow_old (ne_some q)] at h; exact e' a o (e a o h)
theorem grow_mono {B B1 H H' : Hp} (e : Ex B B1) : Ex (Grow B H H') (Grow B1 H H') := fun a o h => by
  cases q : H a with
  | none => rw [grow_new q] at h ⊢; exact h
  | some u => rw [grow_old (ne_some q)] at h ⊢; exact e a o h
theorem grow_right {B H H1 H2 : Hp} (e : Ex H1 H2) : Ex (Grow B H H1) (Grow B H H2) := fun a o h => by
  cases q : H a with
  | none => rw [grow_new q] at h ⊢; exact e a o h
  | some u => rw [grow_old (ne_some q)] at h ⊢; exact h
theorem grow_trans {B H H1 H2 : Hp} (e1 : Ex H H1) (e2 : Ex H1 H2) : Ex (Grow (Grow B H H1) H1 H2) (Grow B H H2) := fun a o h => by
  cases q : H1 a with
  | none =>
    rw [grow_new q] at h
    rw [grow_new (Ex.ne e1 q)]
    exact h
  | some u =>
    rw [grow_old (ne_some q)] at h
    cases q0 : H a with
    | none =>
      rw [grow_new q0] at h ⊢
      exact e2 a o h
    | some u0 =>
      rw [grow_old (ne_some q0)] at h ⊢
      exact h
def del (H : Hp) (p : Addr) : Hp := fun a => if a = p then none else H a
theorem del_same {H : Hp} {p : Addr} : del H p p = none := by unfold del; rw [if_pos rfl]
theorem del_ne {H : Hp} {p a : Addr} (h : a ≠ p) : del H p a = H a := by unfold del; rw [if_neg h]
theorem del_ex {H : Hp} {p : Addr} : Ex (del H p) H := fun a o h => by
  by_cases q : a = p
  · rw [q, del_same] at h; cases h
  · rw [del_ne q] at h; exact h
/-- what stood before p was made -/
theorem ex_del {H H' : Hp} {p : Addr} (e : Ex H H') (h : H p = none) : Ex H (del H' p) := fun a o q => by
  rw [del_ne (ne_of_none q h)]
  exact e a o q

/-! ### data -/
mutual
/-- the value v stands for the data d -/
inductive Rep (K : PySem.W.Frag) (H : Hp) : V → PyData → Prop
  | non : Rep K H .non .none
  | bl (b : Bool) : Rep K H (.bl b) (.bool b)
  | int (i : Int) : Rep K H (.int i) (.int i)
  | str (x : Str) : Rep K H (.str x) (.str x)
  | lst {a : Addr} {xs : List V} {ds : List PyData} : H a = some (.lst xs) → RepAll K H xs ds → Rep K H (.ref a) (.list ds)
  | tup {a : Addr} {xs : List V} {ds : List PyData} : H a = some (.tup xs) → RepAll K H xs ds → Rep K H (.ref a) (.tuple ds)
  | scr {a : Addr} {ns : List Int} : SqL K H a (ns.map V.int) → Rep K H (.ref a) (.dict [(.none, .list (ns.map PyData.int))])
  | edict {a : Addr} : H a = some (.dK []) → Rep K H (.ref a) (.dict [])
  | raw (a : Addr) : Rep K H (.ref a) (.dict [(.bool true, .int ((a : Nat) : Int))])
inductive RepAll (K : PySem.W.Frag) (H : Hp) : List V → List PyData → Prop
  | nil : RepAll K H [] []
  | cons {v : V} {vs : List V} {d : PyData} {ds : List PyData} : Rep K H v d → RepAll K H vs ds → RepAll K H (v :: vs) (d :: ds)
end
/-- a reference, no more -/
abbrev rawD (a : Addr) : PyData := .dict [(.bool true, .int ((a : Nat) : Int))]
/-- the script, a list that is read -/
abbrev scrD (ns : List Int) : PyData := .dict [(.none, .list (ns.map PyData.int))]
mutual
theorem Rep.mono {K : PySem.W.Frag} {H H' : Hp} (e : Ex H H') : ∀ {v : V} {d : PyData}, Rep K H v d → Rep K H' v d
  | _, _, .non => .non
  | _, _, .bl b => .bl b
  | _, _, .int i => .int i
  | _, _, .str x => .str x
  | _, _, .lst h r => .lst (e _ _ h) (RepAll.mono e r)
  | _, _, .tup h r => .tup (e _ _ h) (RepAll.mono e r)
  | _, _, .scr h => .scr (ex_l e h)
  | _, _, .edict h => .edict (e _ _ h)
  | _, _, .raw a => .raw a
theorem RepAll.mono {K : PySem.W.Frag} {H H' : Hp} (e : Ex H H') : ∀ {vs : List V} {ds : List PyData}, RepAll K H vs ds → RepAll K H' vs ds
  | _, _, .nil => .nil
  | _, _, .cons a r => .cons (Rep.mono e a) (RepAll.mono e r)
end
section
variable {K : PySem.W.Frag} {H H' : Hp}
theorem RepAll.length : ∀ {vs : List V} {ds : List PyData}, RepAll K H vs ds → vs.length = ds.length
  | _, _, .nil => rfl
  | _, _, .cons _ r => congrArg (· + 1) (RepAll.length r)
theorem RepAll.get : ∀ {vs : List V} {ds : List PyData} {i : Nat} {d : PyData}, RepAll K H vs ds → ds[i]? = some d → ∃ v, vs[i]? = some v ∧ Rep K H v d
  | _, _, i, d, .nil, h => by simp at h
  | _, _, 0, d, .cons a _, h => by
    simp at h
    subst h
    exact ⟨_, rfl, a⟩
  | _, _, i + 1, d, .cons _ r, h => by
    obtain ⟨v, h1, h2⟩ := RepAll.get (i := i) r (by simpa using h)
    exact ⟨v, by simpa using h1, h2⟩
theorem RepAll.get' : ∀ {vs : List V} {ds : List PyData} {i : Nat} {v : V}, RepAll K H vs ds → vs[i]? = some v → ∃ d, ds[i]? = some d ∧ Rep K H v d
  | _, _, i, d, .nil, h => by simp at h
  | _, _, 0, d, .cons a _, h => by
    simp at h
    subst h
    exact ⟨_, rfl, a⟩
  | _, _, i + 1, d, .cons _ r, h => by
    obtain ⟨v, h1, h2⟩ := RepAll.get' (i := i) r (by simpa using h)
    exact ⟨v, by simpa using h1, h2⟩
theorem RepAll.append : ∀ {vs us : List V} {ds es : List PyData}, RepAll K H vs ds → RepAll K H us es → RepAll K H (vs ++ us) (ds ++ es)
  | _, _, _, _, .nil, q => q
  | _, _, _, _, .cons a r, q => .cons a (RepAll.append r q)
theorem RepAll.set {v : V} {d : PyData} (h : Rep K H v d) : ∀ {vs : List V} {ds : List PyData} {j : Nat}, RepAll K H vs ds → RepAll K H (vs.set j v) (ds.set j d)
  | _, _, _, .nil => .nil
  | _, _, 0, .cons _ r => .cons h r
  | _, _, _ + 1, .cons a r => .cons a (RepAll.set h r)
theorem RepAll.drop : ∀ (n : Nat) {vs : List V} {ds : List PyData}, RepAll K H vs ds → RepAll K H (vs.drop n) (ds.drop n)
  | 0, _, _, r => r
  | _ + 1, _, _, .nil => .nil
  | n + 1, _, _, .cons _ r => RepAll.drop n r
theorem RepAll.take : ∀ (n : Nat) {vs : List V} {ds : List PyData}, RepAll K H vs ds → RepAll K H (vs.take n) (ds.take n)
  | 0, _, _, _ => .nil
  | _ + 1, _, _, .nil => .nil
  | n + 1, _, _, .cons a r => .cons a (RepAll.take n r)
theorem RepAll.ints : ∀ (ns : List Int), RepAll K H (ns.map V.int) (ns.map PyData.int)
  | [] => .nil
  | n :: ns => .cons (.int n) (RepAll.ints ns)
theorem RepAll.of_ints : ∀ {ns : List Int} {vs : List V}, RepAll K H vs (ns.map PyData.int) → vs = ns.map V.int
  | [], vs, h => by cases h; rfl
  | n :: ns, vs, h => by
    cases h with
    | cons a r =>
      cases a
      rw [RepAll.of_ints r]
      rfl
/-- scalars stand by themselves -/
def scalarD : PyData → Bool
  | .none => true
  | .bool _ => true
  | .int _ => true
  | .str _ => true
  | _ => false
theorem Rep.scalar {v : V} {d : PyData} (h : Rep K H v d) (s : scalarD d = true) : Rep K H' v d := by
  cases h with
  | non => exact .non
  | bl b => exact .bl b
  | int i => exact .int i
  | str x => exact .str x
  | lst _ _ => cases s
  | tup _ _ => cases s
  | scr _ => cases s
  | edict _ => cases s
  | raw _ => cases s
theorem Rep.int_eq {v : V} {i : Int} (h : Rep K H v (.int i)) : v = .int i := by cases h; rfl
theorem Rep.str_eq {v : V} {i : Str} (h : Rep K H v (.str i)) : v = .str i := by cases h; rfl
theorem Rep.bool_eq {v : V} {i : Bool} (h : Rep K H v (.bool i)) : v = .bl i := by cases h; rfl
theorem Rep.none_eq {v : V} (h : Rep K H v .none) : v = .non := by cases h; rfl
theorem Rep.list_eq {v : V} {ds : List PyData} (h : Rep K H v (.list ds)) : ∃ a xs, v = .ref a ∧ H a = some (.lst xs) ∧ RepAll K H xs ds := by
  cases h with
  | lst h r => exact ⟨_, _, rfl, h, r⟩
theorem Rep.tup_eq {v : V} {ds : List PyData} (h : Rep K H v (.tuple ds)) : ∃ a xs, v = .ref a ∧ H a = some (.tup xs) ∧ RepAll K H xs ds := by
  cases h with
  | tup h r => exact ⟨_, _, rfl, h, r⟩
theorem Rep.raw_eq {v : V} {a : Addr} (h : Rep K H v (rawD a)) : v = .ref a := by
  generalize e : rawD a = d at h
  cases h with
  | raw b =>
    unfold rawD at e
    injection e with e
    injection e with e _
    injection e with _ e
    injection e with e
    have q : a = b := Int.ofNat.inj e
    rw [q]
  | scr _ => cases e
  | non => cases e
  | bl b => cases e
  | int i => cases e
  | str x => cases e
  | lst _ _ => cases e
  | tup _ _ => cases e
  | edict _ => cases e
theorem map_int_inj : ∀ {ns ms : List Int}, ns.map PyData.int = ms.map PyData.int → ns = ms
  | [], [], _ => rfl
  | [], _ :: _, h => by simp at h
  | _ :: _, [], h => by simp at h
  | n :: ns, m :: ms, h => by
    rw [List.map_cons, List.map_cons] at h
    injection h with h1 h2
    injection h1 with h1
    rw [h1, map_int_inj h2]
theorem Rep.scr_eq {v : V} {ns : List Int} (h : Rep K H v (scrD ns)) : ∃ a, v = .ref a ∧ SqL K H a (ns.map V.int) := by
  generalize e : scrD ns = d at h
  cases h with
  | @scr a ms h =>
    unfold scrD at e
    injection e with e
    injection e with e _
    injection e with _ e
    injection e with e
    rw [map_int_inj e]
    exact ⟨_, rfl, h⟩
  | non => cases e
  | bl b => cases e
  | int i => cases e
  | str x => cases e
  | lst _ _ => cases e
  | tup _ _ => cases e
  | edict _ => cases e
  | raw _ => cases e
end

/-! ### what evaluates to which data -/
/-- B: what may be looked at and stays -/
def EnvR (K : PySem.W.Frag) (B : Hp) (σ : L2.St) (ds : List (Option PyData)) : Prop := σ.length = ds.length ∧ ∀ (i : Nat) (d : PyData), ds[i]? = some (some d) → ∃ v, σ[i]? = some (some v) ∧ Rep K B v d
theorem EnvR.mono {K : PySem.W.Frag} {B B' : Hp} {σ : L2.St} {ds : List (Option PyData)} (e : Ex B B') (h : EnvR K B σ ds) : EnvR K B' σ ds := ⟨h.1, fun i d q => by
  obtain ⟨v, h1, h2⟩ := h.2 i d q
  exact ⟨v, h1, h2.mono e⟩⟩
def DE (K : PySem.W.Frag) (te : TE) (ds : List (Option PyData)) (d : PyData) : Prop :=
  ∀ (B : Hp) (σ : L2.St), EnvR K B σ ds → ∀ H, Ex B H → ∀ Q : VK, (∀ v H', Ex H H' → Rep K (Grow B H H') v d → Q v H') → te σ H Q
def DT (K : PySem.W.Frag) (tt : TT) (ds : List (Option PyData)) (b : Bool) : Prop :=
  ∀ (B : Hp) (σ : L2.St), EnvR K B σ ds → ∀ H, Ex B H → ∀ Q : Bool → Hp → Prop, (∀ H', Ex H H' → Q b H') → tt σ H Q
def DA (K : PySem.W.Frag) (ta : TA) (ds : List (Option PyData)) (es : List PyData) : Prop :=
  ∀ (B : Hp) (σ : L2.St), EnvR K B σ ds → ∀ H, Ex B H → ∀ Q : List V → Hp → Prop, (∀ vs H', Ex H H' → RepAll K (Grow B H H') vs es → Q vs H') → ta σ H Q
/-- a NEW list -/
def DN (K : PySem.W.Frag) (te : TE) (ds : List (Option PyData)) (xs : List PyData) : Prop :=
  ∀ (B : Hp) (σ : L2.St), EnvR K B σ ds → ∀ H, Ex B H → ∀ Q : VK, (∀ p vs H', Ex H H' → H p = none → H' p = some (.lst vs) → RepAll K (Grow B H (del H' p)) vs xs → Q (.ref p) H') → te σ H Q
def DO (K : PySem.W.Frag) (to : TO) (ds : List (Option PyData)) (o : Option Int) : Prop :=
  ∀ (B : Hp) (σ : L2.St), EnvR K B σ ds → ∀ H, Ex B H → ∀ Q : Option Int → Hp → Prop, (∀ H', Ex H H' → Q o H') → to σ H Q
/-- it raises the class at C -/
def DX (K : PySem.W.Frag) (te : TE) (ds : List (Option PyData)) (E : XK) (C : Addr) : Prop :=
  ∀ (B : Hp) (σ : L2.St), EnvR K B σ ds → ∀ H, Ex B H → ∀ Q : VK, (∀ H', Ex H H' → E (.ref C) none H') → te σ H Q
def DAX (K : PySem.W.Frag) (ta : TA) (ds : List (Option PyData)) (E : XK) (C : Addr) : Prop :=
  ∀ (B : Hp) (σ : L2.St), EnvR K B σ ds → ∀ H, Ex B H → ∀ Q : List V → Hp → Prop, (∀ H', Ex H H' → E (.ref C) none H') → ta σ H Q
/-- operations on values -/
def D2 (K : PySem.W.Frag) (r : R2) (x y z : PyData) : Prop := ∀ (B H : Hp) (v u : V), Ex B H → Rep K B v x → Rep K B u y → ∀ Q : VK, (∀ w H', Ex H H' → Rep K (Grow B H H') w z → Q w H') → r v u H Q
def D2N (K : PySem.W.Frag) (r : R2) (x y : PyData) (zs : List PyData) : Prop := ∀ (B H : Hp) (v u : V), Ex B H → Rep K B v x → Rep K B u y → ∀ Q : VK, (∀ p vs H', Ex H H' → H p = none → H' p = some (.lst vs) → RepAll K (Grow B H (del H' p)) vs zs → Q (.ref p) H') → r v u H Q
def D1 (K : PySem.W.Frag) (r : V → Hp → VK → Prop) (x z : PyData) : Prop := ∀ (B H : Hp) (v : V), Ex B H → Rep K B v x → ∀ Q : VK, (∀ w H', Ex H H' → Rep K (Grow B H H') w z → Q w H') → r v H Q
def DC (K : PySem.W.Frag) (r : List V → Hp → VK → Prop) (xs : List PyData) (z : PyData) : Prop := ∀ (B H : Hp) (vs : List V), Ex B H → RepAll K B vs xs → ∀ Q : VK, (∀ w H', Ex H H' → Rep K (Grow B H H') w z → Q w H') → r vs H Q
def DCN (K : PySem.W.Frag) (r : List V → Hp → VK → Prop) (xs : List PyData) (zs : List PyData) : Prop := ∀ (B H : Hp) (vs : List V), Ex B H → RepAll K B vs xs → ∀ Q : VK, (∀ p us H', Ex H H' → H p = none → H' p = some (.lst us) → RepAll K (Grow B H (del H' p)) us zs → Q (.ref p) H') → r vs H Q

section
variable {K : PySem.W.Frag} {ds : List (Option PyData)} {ta tb te tc : TE} {t u : TT} {x y z d : PyData} {r r' : R2} {E : XK} {C : Addr} {xs ys zs es : List PyData}

/-- what evaluates at a base does so at a greater one -/
theorem DE.up {B B' : Hp} {σ : L2.St} {H : Hp} {Q : VK} (h : DE K te ds d) (en : EnvR K B σ ds) (e : Ex B B') (e' : Ex B' H) (k : ∀ v H', Ex H H' → Rep K (Grow B' H H') v d → Q v H') : te σ H Q :=
  h B' σ (en.mono e) H e' Q k
theorem grow_same {B H H' : Hp} (e : Ex B H) {v : V} (h : Rep K B v d) : Rep K (Grow B H H') v d := h.mono (grow_ex1 e)

theorem de_var {i : Nat} (h : ds[i]? = some (some d)) : DE K (tVar i) ds d := fun B σ en H e Q k => by
  obtain ⟨v, h1, h2⟩ := en.2 i d h
  exact ⟨v, h1, k v H (Evl.Ex.refl H) (grow_same e h2)⟩
theorem de_int {i : Int} : DE K (tC (.int i)) ds (.int i) := fun B σ en H e Q k => k _ H (Evl.Ex.refl H) (.int i)
theorem de_str {i : Str} : DE K (tC (.str i)) ds (.str i) := fun B σ en H e Q k => k _ H (Evl.Ex.refl H) (.str i)
theorem de_bl {i : Bool} : DE K (tC (.bl i)) ds (.bool i) := fun B σ en H e Q k => k _ H (Evl.Ex.refl H) (.bl i)
theorem de_non : DE K (tC .non) ds .none := fun B σ en H e Q k => k _ H (Evl.Ex.refl H) .non

theorem de_op (ha : DE K ta ds x) (hb : DE K tb ds y) (hr : D2 K r x y z) : DE K (tOp r ta tb) ds z := fun B σ en H e Q k =>
  ha B σ en H e _ fun v H1 e1 rv => hb.up en (grow_ex1 (H' := H1) e) (grow_ex2 e e1) fun u H2 e2 ru => by
    refine hr (Grow (Grow B H H1) H1 H2) H2 v u (grow_ex2 (grow_ex2 e e1) e2) (rv.mono (grow_ex1 (grow_ex2 e e1))) ru Q fun w H3 e3 rw => ?_
    refine k w H3 (e1.trans (e2.trans e3)) (rw.mono ?_)
    exact Evl.Ex.trans (grow_mono (grow_trans e1 e2)) (grow_trans (e1.trans e2) e3)
theorem dn_op (ha : DE K ta ds x) (hb : DE K tb ds y) (hr : D2N K r x y zs) : DN K (tOp r ta tb) ds zs := fun B σ en H e Q k =>
  ha B σ en H e _ fun v H1 e1 rv => hb.up en (grow_ex1 (H' := H1) e) (grow_ex2 e e1) fun u H2 e2 ru => by
    refine hr (Grow (Grow B H H1) H1 H2) H2 v u (grow_ex2 (grow_ex2 e e1) e2) (rv.mono (grow_ex1 (grow_ex2 e e1))) ru Q fun p vs H3 e3 hp h3 rw => ?_
    refine k p vs H3 (e1.trans (e2.trans e3)) (Ex.ne (e1.trans e2) hp) h3 (rw.mono ?_)
    exact Evl.Ex.trans (grow_mono (grow_trans e1 e2)) (grow_trans (e1.trans e2) (ex_del e3 hp))
theorem de_un {r : V → Hp → VK → Prop} (ha : DE K ta ds x) (hr : D1 K r x z) : DE K (tUn r ta) ds z := fun B σ en H e Q k =>
  ha B σ en H e _ fun v H1 e1 rv => hr (Grow B H H1) H1 v (grow_ex2 e e1) rv Q fun w H2 e2 rw => k w H2 (e1.trans e2) (rw.mono (grow_trans e1 e2))
theorem da_nil : DA K tNil ds [] := fun B σ en H e Q k => k [] H (Evl.Ex.refl H) .nil
theorem da_cons {tr : TA} (ha : DE K ta ds x) (hr : DA K tr ds xs) : DA K (tCons ta tr) ds (x :: xs) := fun B σ en H e Q k =>
  ha B σ en H e _ fun v H1 e1 rv => hr (Grow B H H1) σ (en.mono (grow_ex1 e)) H1 (grow_ex2 e e1) _ fun vs H2 e2 rs =>
    k (v :: vs) H2 (e1.trans e2) (.cons (rv.mono (Evl.Ex.trans (grow_ex1 (grow_ex2 e e1)) (grow_trans e1 e2))) (rs.mono (grow_trans e1 e2)))
theorem de_cb {r : List V → Hp → VK → Prop} {ta : TA} (ha : DA K ta ds xs) (hr : DC K r xs z) : DE K (tCB r ta) ds z := fun B σ en H e Q k =>
  ha B σ en H e _ fun vs H1 e1 rs => hr (Grow B H H1) H1 vs (grow_ex2 e e1) rs Q fun w H2 e2 rw => k w H2 (e1.trans e2) (rw.mono (grow_trans e1 e2))
theorem dn_cb {r : List V → Hp → VK → Prop} {ta : TA} (ha : DA K ta ds xs) (hr : DCN K r xs zs) : DN K (tCB r ta) ds zs := fun B σ en H e Q k =>
  ha B σ en H e _ fun vs H1 e1 rs => hr (Grow B H H1) H1 vs (grow_ex2 e e1) rs Q fun p us H2 e2 hp h2 rw => k p us H2 (e1.trans e2) (Ex.ne e1 hp) h2 (rw.mono (grow_trans e1 (ex_del e2 hp)))
/-- a new list is a list -/
theorem de_new (h : DN K te ds xs) : DE K te ds (.list xs) := fun B σ en H e Q k =>
  h B σ en H e Q fun p vs H' e' hp hl r => k _ H' e' (.lst (by rw [grow_new hp]; exact hl) (r.mono (grow_right del_ex)))
theorem de_is {d' : PyData} (h : DE K te ds d) (e : d = d') : DE K te ds d' := e ▸ h
theorem dt_is {b b' : Bool} (h : DT K t ds b) (e : b = b') : DT K t ds b' := e ▸ h

/-! displays -/
theorem upd_ex {H : Hp} {p : Addr} {o : HO} (h : H p = none) : Ex H (upd H p o) := Evl.Ex.new h
theorem del_upd {H : Hp} {p : Addr} {o : HO} (h : H p = none) : Ex H (del (upd H p o) p) := ex_del (upd_ex h) h
theorem len_ok {n : Nat} (h : n ≤ 100000) : n ≤ sizeLine := Evl.sz_of h
theorem de_tup {ta : TA} (h : DA K ta ds xs) (hl : xs.length ≤ 100000) : DE K (tTup ta) ds (.tuple xs) := fun B σ en H e Q k =>
  h B σ en H e _ fun vs H1 e1 rs => ⟨len_ok (by rw [rs.length]; exact hl), fun p hp => k _ _ (e1.trans (upd_ex hp)) (.tup (by rw [grow_new (Ex.ne e1 hp), upd_same]) (rs.mono (grow_right (upd_ex hp))))⟩
theorem dn_lst {ta : TA} (h : DA K ta ds xs) (hl : xs.length ≤ 100000) : DN K (tLst ta) ds xs := fun B σ en H e Q k =>
  h B σ en H e _ fun vs H1 e1 rs => ⟨len_ok (by rw [rs.length]; exact hl), fun p hp => k p vs _ (e1.trans (upd_ex hp)) (Ex.ne e1 hp) upd_same (rs.mono (grow_right (del_upd hp)))⟩

/-! tests -/
theorem dt_test {b : Bool} (h : DE K te ds (.bool b)) : DT K (tTest te) ds b := fun B σ en H e Q k =>
  h B σ en H e _ fun v H1 e1 rv => ⟨b, rv.bool_eq, k H1 e1⟩
theorem dt_B {b : Bool} (h : DE K te ds (.bool b)) : DT K (tB te) ds b := fun B σ en H e Q k =>
  h B σ en H e _ fun v H1 e1 rv => ⟨b, rv.bool_eq, k H1 e1⟩
theorem DT.up {B : Hp} {σ : L2.St} {H H1 : Hp} {Q : Bool → Hp → Prop} {b : Bool} (h : DT K t ds b) (en : EnvR K B σ ds) (e : Ex B H) (e1 : Ex H H1) (k : ∀ H', Ex H1 H' → Q b H') : t σ H1 Q := h B σ en H1 (e.trans e1) Q k
theorem dt_and {a b : Bool} (h1 : DT K t ds a) (h2 : a = true → DT K u ds b) : DT K (tAnd t u) ds (a && b) := fun B σ en H e Q k => h1 B σ en H e _ fun H1 e1 => by
  cases a with
  | true =>
    show u σ H1 Q
    exact (h2 rfl).up en e e1 fun H2 e2 => k H2 (e1.trans e2)
  | false =>
    show Q false H1
    exact k H1 e1
theorem dt_or {a b : Bool} (h1 : DT K t ds a) (h2 : a = false → DT K u ds b) : DT K (tOr t u) ds (a || b) := fun B σ en H e Q k => h1 B σ en H e _ fun H1 e1 => by
  cases a with
  | true =>
    show Q true H1
    exact k H1 e1
  | false =>
    show u σ H1 Q
    exact (h2 rfl).up en e e1 fun H2 e2 => k H2 (e1.trans e2)
theorem dt_not {a : Bool} (h1 : DT K t ds a) : DT K (tNot t) ds (!a) := fun B σ en H e Q k => h1 B σ en H e _ fun H1 e1 => k H1 e1
/-- values by and, or, not -/
theorem de_up2 {B : Hp} {σ : L2.St} {H H1 : Hp} {Q : VK} (h : DE K te ds d) (en : EnvR K B σ ds) (e : Ex B H) (e1 : Ex H H1) (k : ∀ v H', Ex H H' → Rep K (Grow B H H') v d → Q v H') : te σ H1 Q :=
  h.up en (grow_ex1 (H' := H1) e) (grow_ex2 e e1) fun v H2 e2 rv => k v H2 (e1.trans e2) (rv.mono (grow_trans e1 e2))
theorem de_andV {a b : Bool} (h1 : DE K ta ds (.bool a)) (h2 : a = true → DE K tb ds (.bool b)) : DE K (tAndV ta tb) ds (.bool (a && b)) := fun B σ en H e Q k => h1 B σ en H e _ fun v H1 e1 rv => ⟨a, rv.bool_eq, by
  cases a with
  | true =>
    show tb σ H1 Q
    exact de_up2 (h2 rfl) en e e1 k
  | false =>
    show Q (.bl false) H1
    exact k _ H1 e1 (.bl false)⟩
theorem de_orV {a b : Bool} (h1 : DE K ta ds (.bool a)) (h2 : a = false → DE K tb ds (.bool b)) : DE K (tOrV ta tb) ds (.bool (a || b)) := fun B σ en H e Q k => h1 B σ en H e _ fun v H1 e1 rv => ⟨a, rv.bool_eq, by
  cases a with
  | true =>
    show Q (.bl true) H1
    exact k _ H1 e1 (.bl true)
  | false =>
    show tb σ H1 Q
    exact de_up2 (h2 rfl) en e e1 k⟩
theorem de_notV {a : Bool} (h1 : DE K ta ds (.bool a)) : DE K (tNotV ta) ds (.bool (!a)) := fun B σ en H e Q k => h1 B σ en H e _ fun v H1 e1 rv => ⟨a, rv.bool_eq, k _ H1 e1 (.bl _)⟩
theorem de_chain {a b : Bool} (ha : DE K ta ds x) (hb : DE K tb ds y) (hr : D2 K r x y (.bool a)) (hc : a = true → DE K tc ds z) (hr' : a = true → D2 K r' y z (.bool b)) : DE K (tChain r r' ta tb tc) ds (.bool (a && b)) := fun B σ en H e Q k =>
  ha B σ en H e _ fun v H1 e1 rv => hb.up en (grow_ex1 (H' := H1) e) (grow_ex2 e e1) fun u H2 e2 ru => by
    have e12 : Ex (Grow B H H1) (Grow (Grow B H H1) H1 H2) := grow_ex1 (grow_ex2 e e1)
    have eb2 : Ex (Grow (Grow B H H1) H1 H2) H2 := grow_ex2 (grow_ex2 e e1) e2
    refine hr (Grow (Grow B H H1) H1 H2) H2 v u eb2 (rv.mono e12) ru _ fun w H3 e3 rw => ⟨a, rw.bool_eq, ?_⟩
    cases a with
    | false =>
      show Q (.bl false) H3
      exact k _ H3 (e1.trans (e2.trans e3)) (.bl false)
    | true =>
      show tc σ H3 fun w' H4 => r' u w' H4 Q
      have eb3 : Ex (Grow (Grow (Grow B H H1) H1 H2) H2 H3) H3 := grow_ex2 eb2 e3
      have bb : Ex B (Grow (Grow (Grow B H H1) H1 H2) H2 H3) := Evl.Ex.trans (grow_ex1 e) (Evl.Ex.trans e12 (grow_ex1 eb2))
      refine (hc rfl) _ σ (en.mono bb) H3 eb3 _ fun w' H4 e4 rw' => ?_
      refine hr' rfl (Grow (Grow (Grow (Grow B H H1) H1 H2) H2 H3) H3 H4) H4 u w' (grow_ex2 eb3 e4) ((ru.mono (grow_ex1 eb2)).mono (grow_ex1 eb3)) rw' Q fun o H5 e5 ro => ?_
      exact k o H5 (e1.trans (e2.trans (e3.trans (e4.trans e5)))) (by
        have q := ro.bool_eq
        rw [q]
        exact .bl _)

/-! arithmetic -/
theorem d2_I0 {g : Int → Int → V} {f : Int → Int → PyData} {i j : Int} (h : ∀ B, Rep K B (g i j) (f i j)) : D2 K (rI0 g) (.int i) (.int j) (f i j) := fun B H v u e rv ru Q k =>
  ⟨i, j, rv.int_eq, ru.int_eq, k _ H (Evl.Ex.refl H) (h _)⟩
theorem d2_I {P : Int → Int → Prop} {g : Int → Int → V} {f : Int → Int → PyData} {i j : Int} (h : ∀ B, Rep K B (g i j) (f i j)) (c : P i j) : D2 K (rI P g) (.int i) (.int j) (f i j) := fun B H v u e rv ru Q k =>
  ⟨i, j, rv.int_eq, ru.int_eq, c, k _ H (Evl.Ex.refl H) (h _)⟩
theorem d2_add {i j : Int} : D2 K (rI0 fun i j => .int (i + j)) (.int i) (.int j) (.int (i + j)) := d2_I0 (f := fun i j => .int (i + j)) fun _ => .int _
theorem d2_sub {i j : Int} : D2 K (rI0 fun i j => .int (i - j)) (.int i) (.int j) (.int (i - j)) := d2_I0 (f := fun i j => .int (i - j)) fun _ => .int _
theorem d2_mul {i j : Int} (c : CMul i j) : D2 K (rI CMul fun i j => .int (i * j)) (.int i) (.int j) (.int (i * j)) := d2_I (f := fun i j => .int (i * j)) (fun _ => .int _) c
theorem d2_fdiv {i j : Int} (c : CDiv i j) : D2 K (rI CDiv fun i j => .int (i / j)) (.int i) (.int j) (.int (i / j)) := d2_I (f := fun i j => .int (i / j)) (fun _ => .int _) c
theorem d2_mod {i j : Int} (c : 0 < j) : D2 K (rI (fun _ j => 0 < j) fun i j => .int (i % j)) (.int i) (.int j) (.int (i % j)) := d2_I (f := fun i j => .int (i % j)) (fun _ => .int _) c
theorem d2_lt {i j : Int} : D2 K (rI0 fun i j => .bl (decide (i < j))) (.int i) (.int j) (.bool (decide (i < j))) := d2_I0 (f := fun i j => .bool (decide (i < j))) fun _ => .bl _
theorem d2_le {i j : Int} : D2 K (rI0 fun i j => .bl (decide (i ≤ j))) (.int i) (.int j) (.bool (decide (i ≤ j))) := d2_I0 (f := fun i j => .bool (decide (i ≤ j))) fun _ => .bl _
theorem d2_gt {i j : Int} : D2 K (rI0 fun i j => .bl (decide (j < i))) (.int i) (.int j) (.bool (decide (j < i))) := d2_I0 (f := fun i j => .bool (decide (j < i))) fun _ => .bl _
theorem d2_ge {i j : Int} : D2 K (rI0 fun i j => .bl (decide (j ≤ i))) (.int i) (.int j) (.bool (decide (j ≤ i))) := d2_I0 (f := fun i j => .bool (decide (j ≤ i))) fun _ => .bl _
theorem d1_neg {i : Int} : D1 K (rU fun i => .int (-i)) (.int i) (.int (-i)) := fun B H v e rv Q k => ⟨i, rv.int_eq, k _ H (Evl.Ex.refl H) (.int _)⟩
/-- == of scalars -/
theorem d2_eqI {i j : Int} : D2 K rEq (.int i) (.int j) (.bool (decide (i = j))) := fun B H v u e rv ru Q k => by
  rw [rv.int_eq, ru.int_eq]
  refine ⟨rfl, ?_⟩
  have q : decide (V.int i = V.int j) = decide (i = j) := decide_eq_decide.mpr ⟨fun h => V.int.inj h, fun h => h ▸ rfl⟩
  rw [q]
  exact k _ H (Evl.Ex.refl H) (.bl _)
theorem d2_eqS {i j : Str} : D2 K rEq (.str i) (.str j) (.bool (decide (i = j))) := fun B H v u e rv ru Q k => by
  rw [rv.str_eq, ru.str_eq]
  refine ⟨rfl, ?_⟩
  have q : decide (V.str i = V.str j) = decide (i = j) := decide_eq_decide.mpr ⟨fun h => V.str.inj h, fun h => h ▸ rfl⟩
  rw [q]
  exact k _ H (Evl.Ex.refl H) (.bl _)
theorem d2_eqB {i j : Bool} : D2 K rEq (.bool i) (.bool j) (.bool (decide (i = j))) := fun B H v u e rv ru Q k => by
  rw [rv.bool_eq, ru.bool_eq]
  refine ⟨rfl, ?_⟩
  have q : decide (V.bl i = V.bl j) = decide (i = j) := decide_eq_decide.mpr ⟨fun h => V.bl.inj h, fun h => h ▸ rfl⟩
  rw [q]
  exact k _ H (Evl.Ex.refl H) (.bl _)
theorem d2_neI {i j : Int} : D2 K rNe (.int i) (.int j) (.bool (!decide (i = j))) := fun B H v u e rv ru Q k => by
  rw [rv.int_eq, ru.int_eq]
  refine ⟨rfl, ?_⟩
  have q : decide (V.int i = V.int j) = decide (i = j) := decide_eq_decide.mpr ⟨fun h => V.int.inj h, fun h => h ▸ rfl⟩
  rw [q]
  exact k _ H (Evl.Ex.refl H) (.bl _)
theorem d2_neS {i j : Str} : D2 K rNe (.str i) (.str j) (.bool (!decide (i = j))) := fun B H v u e rv ru Q k => by
  rw [rv.str_eq, ru.str_eq]
  refine ⟨rfl, ?_⟩
  have q : decide (V.str i = V.str j) = decide (i = j) := decide_eq_decide.mpr ⟨fun h => V.str.inj h, fun h => h ▸ rfl⟩
  rw [q]
  exact k _ H (Evl.Ex.refl H) (.bl _)
mutual
theorem Rep.dp {H : Hp} : ∀ {v : V} {d : PyData}, Rep K H v d → d.canLay0 = true → Dp K H v d
  | _, _, .non, _ => .non
  | _, _, .bl b, _ => .bl b
  | _, _, .int i, _ => .int i
  | _, _, .str x, _ => .str x
  | _, _, .lst h r, c => .lst (SqL.of h) (RepAll.dp r (by simpa [PyData.canLay0] using c))
  | _, _, .tup h r, c => .tup (SqT.of h) (RepAll.dp r (by simpa [PyData.canLay0] using c))
  | _, _, .scr _, c => by simp [PyData.canLay0] at c
  | _, _, .edict _, c => by simp [PyData.canLay0] at c
  | _, _, .raw _, c => by simp [PyData.canLay0] at c
theorem RepAll.dp {H : Hp} : ∀ {vs : List V} {ds : List PyData}, RepAll K H vs ds → PyData.canLayAll0 ds = true → DpAll K H vs ds
  | _, _, .nil, _ => .nil
  | _, _, .cons a r, c => .cons (Rep.dp a (by simp [PyData.canLayAll0] at c; exact c.1)) (RepAll.dp r (by simp [PyData.canLayAll0] at c; exact c.2))
end
end
end VS

set_option Elab.async false
set_option linter.all false
set_option maxRecDepth 100000
/-! Value semantics: statements, promises. -/
namespace VS
open PySem L2
open Evl (Ex ex_rd ex_l ex_t)
abbrev exr {H : Hp} : Ex H H := Evl.Ex.refl H

/-! ### names -/
inductive Slot where
  | no
  | val (d : PyData)
  | own (xs : List PyData)
/-- what may be looked at -/
def Slot.see : Slot → Option PyData
  | .no => none
  | .val d => some d
  | .own xs => some (.list xs)
/-- what stays -/
def Slot.frz : Slot → Option PyData
  | .val d => some d
  | _ => none
abbrev see (es : List Slot) : List (Option PyData) := es.map Slot.see
abbrev frz (es : List Slot) : List (Option PyData) := es.map Slot.frz

/-- F0, H0: at the entry; F: what stays; H: the heap -/
structure At (K : PySem.W.Frag) (F0 H0 F H : Hp) (σ : L2.St) (es : List Slot) : Prop where
  f00 : Ex F0 H0
  f0 : Ex F0 F
  h0 : Ex H0 H
  fh : Ex F H
  fresh : ∀ a o, F a = some o → F0 a = some o ∨ H0 a = none
  len : σ.length = es.length
  val : ∀ (i : Nat) d, es[i]? = some (.val d) → ∃ v, σ[i]? = some (some v) ∧ Rep K F v d
  own : ∀ (i : Nat) xs, es[i]? = some (.own xs) → ∃ a vs, σ[i]? = some (some (.ref a)) ∧ H0 a = none ∧ F a = none ∧ H a = some (.lst vs) ∧ RepAll K F vs xs
  sep : ∀ (i j : Nat) xs ys a, es[i]? = some (.own xs) → es[j]? = some (.own ys) → σ[i]? = some (some (.ref a)) → σ[j]? = some (some (.ref a)) → i = j

section
variable {K : PySem.W.Frag} {F0 H0 F H H' : Hp} {σ : L2.St} {es : List Slot}
theorem map_get {es : List Slot} {f : Slot → Option PyData} {i : Nat} {d : PyData} (h : (es.map f)[i]? = some (some d)) : ∃ s, es[i]? = some s ∧ f s = some d := by
  rw [List.getElem?_map] at h
  cases e : es[i]? with
  | none => rw [e] at h; cases h
  | some s => rw [e] at h; exact ⟨s, rfl, Option.some.inj h⟩
theorem At.envF (A : At K F0 H0 F H σ es) : EnvR K F σ (frz es) := ⟨A.len.trans (by rw [List.length_map]), fun i d h => by
  obtain ⟨s, e, q⟩ := map_get h
  cases s with
  | no => cases q
  | val d' => cases q; exact A.val i _ e
  | own xs => cases q⟩
theorem At.seen (A : At K F0 H0 F H σ es) : Ex F (Grow F0 H0 H) := fun a o h => by
  rcases A.fresh a o h with q | q
  · rw [grow_old (ne_some (A.f00 a o q))]; exact q
  · rw [grow_new q]; exact A.fh a o h
theorem At.seen2 (A : At K F0 H0 F H σ es) : Ex (Grow F0 H0 H) H := grow_ex2 A.f00 A.h0
theorem At.envV (A : At K F0 H0 F H σ es) : EnvR K (Grow F0 H0 H) σ (see es) := ⟨A.len.trans (by rw [List.length_map]), fun i d h => by
  obtain ⟨s, e, q⟩ := map_get h
  cases s with
  | no => cases q
  | val d' =>
    cases q
    obtain ⟨v, h1, h2⟩ := A.val i _ e
    exact ⟨v, h1, h2.mono A.seen⟩
  | own xs =>
    cases q
    obtain ⟨a, vs, h1, h2, _, h4, h5⟩ := A.own i _ e
    exact ⟨_, h1, .lst (by rw [grow_new h2]; exact h4) (h5.mono A.seen)⟩⟩
theorem get_set_ne {α : Type} {l : List α} {i j : Nat} {x : α} (h : i ≠ j) : (l.set i x)[j]? = l[j]? := List.getElem?_set_ne h
theorem get_set_at {α : Type} {l : List α} {i : Nat} {x y : α} (h : (l.set i x)[i]? = some y) : y = x := by
  by_cases q : i < l.length
  · rw [List.getElem?_set_self q] at h; exact (Option.some.inj h).symm
  · rw [List.getElem?_eq_none (by rw [List.length_set]; omega)] at h; cases h
theorem get_set_is {α : Type} {l : List α} {i : Nat} {x y : α} (h : (l.set i x)[i]? = some y) : i < l.length := by
  by_cases q : i < l.length
  · exact q
  · rw [List.getElem?_eq_none (by rw [List.length_set]; omega)] at h; cases h
/-- the heap grew -/
theorem At.grow (A : At K F0 H0 F H σ es) (e : Ex H H') : At K F0 H0 F H' σ es :=
  ⟨A.f00, A.f0, A.h0.trans e, A.fh.trans e, A.fresh, A.len, A.val, fun i xs q => by
    obtain ⟨a, vs, h1, h2, h3, h4, h5⟩ := A.own i xs q
    exact ⟨a, vs, h1, h2, h3, e a _ h4, h5⟩, A.sep⟩
/-- what is new stays -/
theorem At.keep (A : At K F0 H0 F H σ es) (e : Ex H H') : At K F0 H0 (Grow F H H') H' σ es :=
  ⟨A.f00, Evl.Ex.trans A.f0 (grow_ex1 A.fh), A.h0.trans e, grow_ex2 A.fh e, fun a o q => by
    cases z : H a with
    | none => exact .inr (Ex.ne A.h0 z)
    | some u => rw [grow_old (ne_some z)] at q; exact A.fresh a o q, A.len, fun i d q => by
    obtain ⟨v, h1, h2⟩ := A.val i d q
    exact ⟨v, h1, h2.mono (grow_ex1 A.fh)⟩, fun i xs q => by
    obtain ⟨a, vs, h1, h2, h3, h4, h5⟩ := A.own i xs q
    exact ⟨a, vs, h1, h2, by rw [grow_old (ne_some h4)]; exact h3, e a _ h4, h5.mono (grow_ex1 A.fh)⟩, A.sep⟩
theorem At.set (A : At K F0 H0 F H σ es) {i : Nat} {v : V} {d : PyData} (r : Rep K F v d) : At K F0 H0 F H (σ.set i (some v)) (es.set i (.val d)) :=
  ⟨A.f00, A.f0, A.h0, A.fh, A.fresh, by rw [List.length_set, List.length_set]; exact A.len, fun j d' q => by
    by_cases z : i = j
    · subst z
      have hi := get_set_is q
      cases get_set_at q
      exact ⟨v, List.getElem?_set_self (by rw [A.len]; exact hi), r⟩
    · rw [get_set_ne z] at q ⊢
      exact A.val j d' q, fun j xs q => by
    by_cases z : i = j
    · subst z
      cases get_set_at q
    · rw [get_set_ne z] at q ⊢
      exact A.own j xs q, fun j k xs ys a q1 q2 q3 q4 => by
    by_cases z : i = j
    · subst z
      cases get_set_at q1
    · by_cases z2 : i = k
      · subst z2
        cases get_set_at q2
      · rw [get_set_ne z] at q1 q3
        rw [get_set_ne z2] at q2 q4
        exact A.sep j k xs ys a q1 q2 q3 q4⟩
/-- a new list gets a name -/
theorem At.mint (A : At K F0 H0 F H σ es) (e : Ex H H') {i : Nat} {p : Addr} {vs : List V} {xs : List PyData} (hp : H p = none) (hl : H' p = some (.lst vs)) (r : RepAll K (Grow F H (del H' p)) vs xs) :
    At K F0 H0 (Grow F H (del H' p)) H' (σ.set i (some (.ref p))) (es.set i (.own xs)) := by
  have ed : Ex H (del H' p) := ex_del e hp
  have B := A.keep ed
  refine ⟨B.f00, B.f0, A.h0.trans e, Evl.Ex.trans B.fh del_ex, B.fresh, by rw [List.length_set, List.length_set]; exact A.len, fun j d' q => ?_, fun j ys q => ?_, fun j k ys zs a q1 q2 q3 q4 => ?_⟩
  · by_cases z : i = j
    · subst z
      cases get_set_at q
    · rw [get_set_ne z] at q ⊢
      exact B.val j d' q
  · by_cases z : i = j
    · subst z
      have hi := get_set_is q
      cases get_set_at q
      exact ⟨p, vs, List.getElem?_set_self (by rw [A.len]; exact hi), Ex.ne A.h0 hp, by rw [grow_new hp, del_same], hl, r⟩
    · rw [get_set_ne z] at q ⊢
      obtain ⟨a, us, h1, h2, h3, h4, h5⟩ := A.own j ys q
      exact ⟨a, us, h1, h2, by rw [grow_old (ne_some h4)]; exact h3, e a _ h4, h5.mono (grow_ex1 A.fh)⟩
  · by_cases z : i = j
    · subst z
      by_cases z2 : i = k
      · exact z2
      · rw [get_set_ne z2] at q2 q4
        have hi := get_set_is q1
        rw [List.getElem?_set_self (by rw [A.len]; exact hi)] at q3
        have q3' := Option.some.inj (Option.some.inj q3)
        injection q3' with q3'
        obtain ⟨b, us, h1, _, _, h4, _⟩ := A.own k _ q2
        rw [q4] at h1
        have h1' := Option.some.inj (Option.some.inj h1)
        injection h1' with h1'
        rw [← h1', ← q3', hp] at h4
        cases h4
    · by_cases z2 : i = k
      · subst z2
        rw [get_set_ne z] at q1 q3
        have hi := get_set_is q2
        rw [List.getElem?_set_self (by rw [A.len]; exact hi)] at q4
        have q4' := Option.some.inj (Option.some.inj q4)
        injection q4' with q4'
        obtain ⟨b, us, h1, _, _, h4, _⟩ := A.own j _ q1
        rw [q3] at h1
        have h1' := Option.some.inj (Option.some.inj h1)
        injection h1' with h1'
        rw [← h1', ← q4', hp] at h4
        cases h4
      · rw [get_set_ne z] at q1 q3
        rw [get_set_ne z2] at q2 q4
        exact A.sep j k ys zs a q1 q2 q3 q4
/-- an owned list changes -/
theorem At.change (A : At K F0 H0 F H σ es) {i : Nat} {a : Addr} {xs ys : List PyData} {us : List V} (hi : es[i]? = some (.own xs)) (hs : σ[i]? = some (some (.ref a))) (r : RepAll K F us ys) :
    At K F0 H0 F (upd H a (.lst us)) σ (es.set i (.own ys)) := by
  obtain ⟨b, vs, h1, h2, h3, h4, h5⟩ := A.own i xs hi
  rw [hs] at h1
  have h1' := Option.some.inj (Option.some.inj h1)
  injection h1' with h1'
  subst h1'
  have hn : ∀ j zs c, i ≠ j → es[j]? = some (.own zs) → σ[j]? = some (some (.ref c)) → c ≠ a := fun j zs c z q1 q2 q3 => by
    subst q3
    exact z (A.sep i j xs zs _ hi q1 hs q2)
  refine ⟨A.f00, A.f0, Evl.Ex.mut A.h0 h2, Evl.Ex.mut A.fh h3, A.fresh, by rw [List.length_set]; exact A.len, fun j d q => ?_, fun j zs q => ?_, fun j k zs ws c q1 q2 q3 q4 => ?_⟩
  · by_cases z : i = j
    · subst z
      cases get_set_at q
    · rw [get_set_ne z] at q
      exact A.val j d q
  · by_cases z : i = j
    · subst z
      cases get_set_at q
      exact ⟨a, us, hs, h2, h3, upd_same, r⟩
    · rw [get_set_ne z] at q
      obtain ⟨c, ws, g1, g2, g3, g4, g5⟩ := A.own j zs q
      exact ⟨c, ws, g1, g2, g3, by rw [upd_ne (hn j zs c z q g1)]; exact g4, g5⟩
  · have f : ∀ {j : Nat} {zs : List PyData}, (es.set i (.own ys))[j]? = some (.own zs) → ∃ ws, es[j]? = some (.own ws) := fun {j zs} q => by
      by_cases z : i = j
      · subst z; exact ⟨xs, hi⟩
      · rw [get_set_ne z] at q; exact ⟨zs, q⟩
    obtain ⟨_, f1⟩ := f q1
    obtain ⟨_, f2⟩ := f q2
    exact A.sep j k _ _ c f1 f2 q3 q4
/-- an owned list is from now on looked at only -/
theorem At.freeze (A : At K F0 H0 F H σ es) {i : Nat} {xs : List PyData} (hi : es[i]? = some (.own xs)) : ∃ F', Ex F F' ∧ At K F0 H0 F' H σ (es.set i (.val (.list xs))) := by
  obtain ⟨a, vs, h1, h2, h3, h4, h5⟩ := A.own i xs hi
  have ef : Ex F (upd F a (.lst vs)) := Evl.Ex.new h3
  refine ⟨upd F a (.lst vs), ef, A.f00, Evl.Ex.trans A.f0 ef, A.h0, fun b o q => ?_, fun b o q => ?_, by rw [List.length_set]; exact A.len, fun j d q => ?_, fun j zs q => ?_, fun j k zs ws c q1 q2 q3 q4 => ?_⟩
  · by_cases z : b = a
    · subst z; rw [upd_same] at q; cases q; exact h4
    · rw [upd_ne z] at q; exact A.fh b o q
  · by_cases z : b = a
    · subst z; exact .inr h2
    · rw [upd_ne z] at q; exact A.fresh b o q
  · by_cases z : i = j
    · subst z
      cases get_set_at q
      exact ⟨_, h1, .lst upd_same (h5.mono ef)⟩
    · rw [get_set_ne z] at q
      obtain ⟨v, g1, g2⟩ := A.val j d q
      exact ⟨v, g1, g2.mono ef⟩
  · by_cases z : i = j
    · subst z
      cases get_set_at q
    · rw [get_set_ne z] at q
      obtain ⟨c, ws, g1, g2, g3, g4, g5⟩ := A.own j zs q
      refine ⟨c, ws, g1, g2, ?_, g4, g5.mono ef⟩
      rw [upd_ne]
      · exact g3
      · intro y
        subst y
        exact z (A.sep i j xs zs c hi q h1 g1)
  · by_cases z : i = j
    · subst z
      cases get_set_at q1
    · by_cases z2 : i = k
      · subst z2
        cases get_set_at q2
      · rw [get_set_ne z] at q1
        rw [get_set_ne z2] at q2
        exact A.sep j k zs ws c q1 q2 q3 q4
/-- a name is forgotten -/
theorem At.forget (A : At K F0 H0 F H σ es) {es' : List Slot} (hl : es'.length = es.length) (h : ∀ (i : Nat) s, es'[i]? = some s → s = .no ∨ es[i]? = some s) : At K F0 H0 F H σ es' :=
  ⟨A.f00, A.f0, A.h0, A.fh, A.fresh, A.len.trans hl.symm, fun i d q => by
    rcases h i _ q with z | z
    · cases z
    · exact A.val i d z, fun i xs q => by
    rcases h i _ q with z | z
    · cases z
    · exact A.own i xs z, fun i j xs ys a q1 q2 q3 q4 => by
    rcases h i _ q1 with z | z
    · cases z
    · rcases h j _ q2 with y | y
      · cases y
      · exact A.sep i j xs ys a z y q3 q4⟩
end

/-! ### statements -/
structure Post where
  nx : List Slot → Prop := fun _ => False
  rt : PyData → Prop := fun _ => False
  bk : List Slot → Prop := fun _ => False
  ct : List Slot → Prop := fun _ => False
  ex : Addr → Prop := fun _ => False
structure Meets (K : PySem.W.Frag) (E : XK) (F0 H0 F : Hp) (P : Post) (D : Ends) : Prop where
  nx : ∀ F' H σ es, Ex F F' → At K F0 H0 F' H σ es → P.nx es → D.nx σ H
  bk : ∀ F' H σ es, Ex F F' → At K F0 H0 F' H σ es → P.bk es → D.bk σ H
  ct : ∀ F' H σ es, Ex F F' → At K F0 H0 F' H σ es → P.ct es → D.ct σ H
  rt : ∀ v H d, Ex H0 H → Rep K (Grow F0 H0 H) v d → P.rt d → D.rt v H
  ex : ∀ C H, Ex H0 H → P.ex C → E (.ref C) none H
theorem Meets.up {K : PySem.W.Frag} {E : XK} {F0 H0 F F' : Hp} {P : Post} {D : Ends} (M : Meets K E F0 H0 F P D) (e : Ex F F') : Meets K E F0 H0 F' P D :=
  ⟨fun F' H σ es x => M.nx F' H σ es (e.trans x), fun F' H σ es x => M.bk F' H σ es (e.trans x), fun F' H σ es x => M.ct F' H σ es (e.trans x), M.rt, M.ex⟩
def DS (K : PySem.W.Frag) (E : XK) (t : TS) (es : List Slot) (P : Post) : Prop :=
  ∀ F0 H0 F H σ D, At K F0 H0 F H σ es → Meets K E F0 H0 F P D → t D σ H

section
variable {K : PySem.W.Frag} {E : XK} {es : List Slot} {P : Post} {te ta ti : TE} {tc : TT} {t u tb : TS} {d : PyData} {i j : Nat} {xs : List PyData}
/-- what follows, said by its own word -/
theorem ds_seq (h : DS K E t es { P with nx := fun es' => DS K E u es' P }) : DS K E (tSeq t u) es P := fun F0 H0 F H σ D A M =>
  h F0 H0 F H σ { D with nx := u D } A ⟨fun F' H σ es' x A' q => q F0 H0 F' H σ D A' (M.up x), M.bk, M.ct, M.rt, M.ex⟩
theorem ds_next (h : P.nx es) : DS K E tNext es P := fun F0 H0 F H σ D A M => M.nx F H σ es exr A h
theorem ds_brk (h : P.bk es) : DS K E tBreak es P := fun F0 H0 F H σ D A M => M.bk F H σ es exr A h
theorem ds_cont (h : P.ct es) : DS K E tCont es P := fun F0 H0 F H σ D A M => M.ct F H σ es exr A h
/-- x = e, a scalar -/
theorem ds_set (h : DE K te (see es) d) (hs : scalarD d = true) (k : P.nx (es.set i (.val d))) : DS K E (tAsg te (gName i)) es P := fun F0 H0 F H σ D A M =>
  h _ σ A.envV H A.seen2 _ fun v H' e r => M.nx F H' _ _ exr ((A.grow e).set (r.scalar hs)) k
/-- x = e, anything that stays -/
theorem ds_let (h : DE K te (frz es) d) (k : P.nx (es.set i (.val d))) : DS K E (tAsg te (gName i)) es P := fun F0 H0 F H σ D A M =>
  h _ σ A.envF H A.fh _ fun v H' e r => M.nx _ H' _ _ (grow_ex1 A.fh) ((A.keep e).set r) k
/-- x = e, a new list -/
theorem ds_new (h : DN K te (frz es) xs) (k : P.nx (es.set i (.own xs))) : DS K E (tAsg te (gName i)) es P := fun F0 H0 F H σ D A M =>
  h _ σ A.envF H A.fh _ fun p vs H' e hp hl r => M.nx _ H' _ _ (grow_ex1 A.fh) (A.mint e hp hl r) k
theorem ds_ret (h : DE K te (see es) d) (k : P.rt d) : DS K E (tRet te) es P := fun F0 H0 F H σ D A M =>
  h _ σ A.envV H A.seen2 _ fun v H' e r => M.rt v H' d (A.h0.trans e) (r.mono (grow_trans A.h0 e)) k
theorem ds_retN (k : P.rt .none) : DS K E tRetN es P := fun F0 H0 F H σ D A M => M.rt .non H .none A.h0 .non k
theorem ds_drop (h : DE K te (see es) d) (k : P.nx es) : DS K E (tDrop te) es P := fun F0 H0 F H σ D A M =>
  h _ σ A.envV H A.seen2 _ fun v H' e r => M.nx F H' σ es exr (A.grow e) k
theorem ds_if {b : Bool} (h : DT K tc (see es) b) (h1 : b = true → DS K E t es P) (h2 : b = false → DS K E u es P) : DS K E (tIfS tc t u) es P := fun F0 H0 F H σ D A M =>
  h _ σ A.envV H A.seen2 _ fun H' e => by
    cases b with
    | true =>
      show t D σ H'
      exact h1 rfl F0 H0 F H' σ D (A.grow e) M
    | false =>
      show u D σ H'
      exact h2 rfl F0 H0 F H' σ D (A.grow e) M
/-- raising -/
theorem ds_setX {C : Addr} {g : TG} (h : DX K te (see es) E C) (k : P.ex C) : DS K E (tAsg te g) es P := fun F0 H0 F H σ D A M =>
  h _ σ A.envV H A.seen2 _ fun H' e => M.ex C H' (A.h0.trans e) k
theorem ds_dropX {C : Addr} (h : DX K te (see es) E C) (k : P.ex C) : DS K E (tDrop te) es P := fun F0 H0 F H σ D A M =>
  h _ σ A.envV H A.seen2 _ fun H' e => M.ex C H' (A.h0.trans e) k
theorem ds_retX {C : Addr} (h : DX K te (see es) E C) (k : P.ex C) : DS K E (tRet te) es P := fun F0 H0 F H σ D A M =>
  h _ σ A.envV H A.seen2 _ fun H' e => M.ex C H' (A.h0.trans e) k
/-- raise X(..) -/
def tRse (E : XK) (C : Addr) : TS := fun _ _ H => E (.ref C) none H
theorem ds_raise {C : Addr} (k : P.ex C) : DS K E (tRse E C) es P := fun F0 H0 F H σ D A M => M.ex C H A.h0 k
/-- xs.append(e) -/
theorem ds_app (h : DE K te (see es) d) (hs : scalarD d = true) (hi : es[i]? = some (.own xs)) (hl : xs.length < 100000) (k : P.nx (es.set i (.own (xs ++ [d])))) : DS K E (tDrop (tBM K "list" rAppend (tVar i) (tCons te tNil))) es P := fun F0 H0 F H σ D A M => by
  obtain ⟨a, vs, h1, h2, h3, h4, h5⟩ := A.own i xs hi
  refine ⟨.ref a, h1, .inl ⟨rfl, vs, SqL.of h4⟩, h _ σ A.envV H A.seen2 _ fun v H' e r => ⟨a, vs, v, rfl, rfl, e a _ h4, ?_, ?_⟩⟩
  · exact Evl.sz_lt (by rw [h5.length]; exact hl)
  · exact M.nx F _ σ _ exr ((A.grow e).change hi h1 (h5.append (.cons (r.scalar hs) .nil))) k
theorem ds_appV (h : DE K te (frz es) d) (hi : es[i]? = some (.own xs)) (hl : xs.length < 100000) (k : P.nx (es.set i (.own (xs ++ [d])))) : DS K E (tDrop (tBM K "list" rAppend (tVar i) (tCons te tNil))) es P := fun F0 H0 F H σ D A M => by
  obtain ⟨a, vs, h1, h2, h3, h4, h5⟩ := A.own i xs hi
  refine ⟨.ref a, h1, .inl ⟨rfl, vs, SqL.of h4⟩, h _ σ A.envF H A.fh _ fun v H' e r => ⟨a, vs, v, rfl, rfl, e a _ h4, ?_, ?_⟩⟩
  · exact Evl.sz_lt (by rw [h5.length]; exact hl)
  · exact M.nx _ _ σ _ (grow_ex1 A.fh) ((A.keep e).change hi h1 ((h5.mono (grow_ex1 A.fh)).append (.cons r .nil))) k
/-- xs[i] = e -/
theorem ds_put {n : Int} {k0 : Nat} (h : DE K te (see es) d) (hs : scalarD d = true) (hi : es[i]? = some (.own xs)) (hn : DE K ti (see es) (.int n)) (hk : ixN xs.length n = some k0) (k : P.nx (es.set i (.own (xs.set k0 d)))) : DS K E (tAsg te (gSub (tVar i) ti rSetL)) es P := fun F0 H0 F H σ D A M => by
  obtain ⟨a, vs, h1, h2, h3, h4, h5⟩ := A.own i xs hi
  refine h _ σ A.envV H A.seen2 _ fun v H1 e1 r => ⟨.ref a, h1, ?_⟩
  refine hn _ σ (A.grow e1).envV H1 (A.grow e1).seen2 _ fun w H2 e2 rw => ⟨a, vs, n, k0, rfl, rw.int_eq, e2 a _ (e1 a _ h4), ?_, ?_⟩
  · rw [h5.length]; exact hk
  · exact M.nx F _ σ _ exr (((A.grow e1).grow e2).change hi h1 (h5.set (r.scalar hs))) k
/-- freeze, forget -/
theorem ds_freeze (hi : es[i]? = some (.own xs)) (h : DS K E t (es.set i (.val (.list xs))) P) : DS K E t es P := fun F0 H0 F H σ D A M => by
  obtain ⟨F', x, A'⟩ := A.freeze hi
  exact h F0 H0 F' H σ D A' (M.up x)
theorem ds_forget {es' : List Slot} (hl : es'.length = es.length) (hh : ∀ (i : Nat) s, es'[i]? = some s → s = .no ∨ es[i]? = some s) (h : DS K E t es' P) : DS K E t es P := fun F0 H0 F H σ D A M => h F0 H0 F H σ D (A.forget hl hh) M

/-! loops -/
/-- W: what holds of the names at the turn -/
theorem ds_for {tl : TE} {xs : List PyData} (W : Nat → List Slot → Prop) (h : DE K tl (frz es) (.list xs)) (h0 : W 0 es) (hs : ∀ k x es', xs[k]? = some x → W k es' → DS K E tb (es'.set j (.val x)) { P with nx := W (k + 1), ct := W (k + 1), bk := P.nx }) (hd : ∀ es', W xs.length es' → P.nx es') :
    DS K E (tFor (iList K tl) (gName j) tb) es P := fun F0 H0 F H σ D A M => by
  refine h _ σ A.envF H A.fh _ fun v H1 e1 r => ?_
  obtain ⟨a, vs, rfl, ha, rs⟩ := r.list_eq
  refine ⟨a, rfl, ⟨vs, SqL.of (grow_ex2 A.fh e1 a _ ha)⟩, ?_⟩
  refine for_list (K := K) (a := a) (xs := vs) (fun k σ' H' => ∃ F' es', Ex (Grow F H H1) F' ∧ At K F0 H0 F' H' σ' es' ∧ W k es') ⟨_, es, exr, A.keep e1, h0⟩ (fun k σ' H' _ ⟨F', es', e', A', _⟩ => SqL.of (A'.fh a _ (e' a _ ha))) ?_ ?_
  · rintro k x σ' H' hk ⟨F', es', e', A', w⟩
    obtain ⟨d, hd', rd⟩ := rs.get' hk
    have mf : Ex F F' := Evl.Ex.trans (grow_ex1 A.fh) e'
    exact hs k d es' hd' w F0 H0 F' H' _ _ (A'.set (rd.mono e')) ⟨fun F2 H2 σ2 es2 x A2 q => ⟨F2, es2, e'.trans x, A2, q⟩, fun F2 H2 σ2 es2 x A2 q => M.nx F2 H2 σ2 es2 (mf.trans x) A2 q, fun F2 H2 σ2 es2 x A2 q => ⟨F2, es2, e'.trans x, A2, q⟩, M.rt, M.ex⟩
  · rintro σ' H' ⟨F', es', e', A', w⟩
    rw [rs.length] at w
    exact M.nx F' H' σ' es' (Evl.Ex.trans (grow_ex1 A.fh) e') A' (hd es' w)
/-- over a tuple -/
theorem ds_forT {tl : TE} {xs : List PyData} (W : Nat → List Slot → Prop) (h : DE K tl (frz es) (.tuple xs)) (h0 : W 0 es) (hs : ∀ k x es', xs[k]? = some x → W k es' → DS K E tb (es'.set j (.val x)) { P with nx := W (k + 1), ct := W (k + 1), bk := P.nx }) (hd : ∀ es', W xs.length es' → P.nx es') :
    DS K E (tFor (iTup K tl) (gName j) tb) es P := fun F0 H0 F H σ D A M => by
  refine h _ σ A.envF H A.fh _ fun v H1 e1 r => ?_
  obtain ⟨a, vs, rfl, ha, rs⟩ := r.tup_eq
  refine ⟨a, rfl, ⟨vs, SqT.of (grow_ex2 A.fh e1 a _ ha)⟩, ?_⟩
  refine for_tup (K := K) (a := a) (xs := vs) (fun k σ' H' => ∃ F' es', Ex (Grow F H H1) F' ∧ At K F0 H0 F' H' σ' es' ∧ W k es') ⟨_, es, exr, A.keep e1, h0⟩ (fun k σ' H' _ ⟨F', es', e', A', _⟩ => SqT.of (A'.fh a _ (e' a _ ha))) ?_ ?_
  · rintro k x σ' H' hk ⟨F', es', e', A', w⟩
    obtain ⟨d, hd', rd⟩ := rs.get' hk
    have mf : Ex F F' := Evl.Ex.trans (grow_ex1 A.fh) e'
    exact hs k d es' hd' w F0 H0 F' H' _ _ (A'.set (rd.mono e')) ⟨fun F2 H2 σ2 es2 x A2 q => ⟨F2, es2, e'.trans x, A2, q⟩, fun F2 H2 σ2 es2 x A2 q => M.nx F2 H2 σ2 es2 (mf.trans x) A2 q, fun F2 H2 σ2 es2 x A2 q => ⟨F2, es2, e'.trans x, A2, q⟩, M.rt, M.ex⟩
  · rintro σ' H' ⟨F', es', e', A', w⟩
    rw [rs.length] at w
    exact M.nx F' H' σ' es' (Evl.Ex.trans (grow_ex1 A.fh) e') A' (hd es' w)
/-- over range(n) -/
theorem ds_forR1 {ta : TA} {n : Int} (W : Nat → List Slot → Prop) (h : DA K ta (see es) [.int n]) (hn : n ≤ 100000) (h0 : W 0 es) (hs : ∀ (k : Nat) es', (k : Int) < n → W k es' → DS K E tb (es'.set j (.val (.int (k : Int)))) { P with nx := W (k + 1), ct := W (k + 1), bk := P.nx }) (hd : ∀ es', W n.toNat es' → P.nx es') (hlo : -100000 ≤ n) :
    DS K E (tFor (iRng1 ta) (gName j) tb) es P := fun F0 H0 F H σ D A M => by
  refine h _ σ A.envV H A.seen2 _ fun vs H1 e1 r => ?_
  have ev : vs = [.int n] := by
    cases r with
    | cons a r => cases r; rw [a.int_eq]
  refine ⟨n, ev, by omega, by omega, ?_⟩
  refine for_range (lo := 0) (n := n.toNat) (fun k σ' H' => ∃ F' es', Ex F F' ∧ At K F0 H0 F' H' σ' es' ∧ W k es') ⟨_, es, exr, A.grow e1, h0⟩ ?_ ?_
  · rintro k σ' H' hk ⟨F', es', e', A', w⟩
    have e0 : (0 : Int) + (k : Int) = (k : Int) := Int.zero_add _
    rw [e0]
    exact hs k es' (by omega) w F0 H0 F' H' _ _ (A'.set (.int _)) ⟨fun F2 H2 σ2 es2 x A2 q => ⟨F2, es2, e'.trans x, A2, q⟩, fun F2 H2 σ2 es2 x A2 q => M.nx F2 H2 σ2 es2 (e'.trans x) A2 q, fun F2 H2 σ2 es2 x A2 q => ⟨F2, es2, e'.trans x, A2, q⟩, M.rt, M.ex⟩
  · rintro σ' H' ⟨F', es', e', A', w⟩
    exact M.nx F' H' σ' es' e' A' (hd es' w)
/-- over range(lo, n) -/
theorem ds_forR2 {ta : TA} {lo n : Int} (W : Nat → List Slot → Prop) (h : DA K ta (see es) [.int lo, .int n]) (hb : -100000 ≤ lo ∧ lo ≤ 100000 ∧ -100000 ≤ n ∧ n ≤ 100000) (h0 : W 0 es) (hs : ∀ (k : Nat) es', lo + (k : Int) < n → W k es' → DS K E tb (es'.set j (.val (.int (lo + (k : Int))))) { P with nx := W (k + 1), ct := W (k + 1), bk := P.nx }) (hd : ∀ es', W (n - lo).toNat es' → P.nx es') :
    DS K E (tFor (iRng2 ta) (gName j) tb) es P := fun F0 H0 F H σ D A M => by
  refine h _ σ A.envV H A.seen2 _ fun vs H1 e1 r => ?_
  have ev : vs = [.int lo, .int n] := by
    cases r with
    | cons a r =>
      cases r with
      | cons b r => cases r; rw [a.int_eq, b.int_eq]
  refine ⟨lo, n, ev, ⟨by omega, by omega, by omega, by omega⟩, ?_⟩
  refine for_range (lo := lo) (n := (n - lo).toNat) (fun k σ' H' => ∃ F' es', Ex F F' ∧ At K F0 H0 F' H' σ' es' ∧ W k es') ⟨_, es, exr, A.grow e1, h0⟩ ?_ ?_
  · rintro k σ' H' hk ⟨F', es', e', A', w⟩
    exact hs k es' (by omega) w F0 H0 F' H' _ _ (A'.set (.int _)) ⟨fun F2 H2 σ2 es2 x A2 q => ⟨F2, es2, e'.trans x, A2, q⟩, fun F2 H2 σ2 es2 x A2 q => M.nx F2 H2 σ2 es2 (e'.trans x) A2 q, fun F2 H2 σ2 es2 x A2 q => ⟨F2, es2, e'.trans x, A2, q⟩, M.rt, M.ex⟩
  · rintro σ' H' ⟨F', es', e', A', w⟩
    exact M.nx F' H' σ' es' e' A' (hd es' w)
/-- while, by a word and a number that falls -/
theorem ds_while (W : Nat → List Slot → Prop) (m0 : Nat) (h0 : W m0 es) (hs : ∀ m es', W m es' → ∃ b, DT K tc (see es') b ∧ (b = true → DS K E tb es' { P with nx := fun es2 => ∃ m', m' < m ∧ W m' es2, ct := fun es2 => ∃ m', m' < m ∧ W m' es2, bk := P.nx }) ∧ (b = false → P.nx es')) :
    DS K E (tWhile tc tb) es P := fun F0 H0 F H σ D A M => by
  refine ⟨fun m σ' H' => ∃ F' es', Ex F F' ∧ At K F0 H0 F' H' σ' es' ∧ W m es', ⟨m0, F, es, exr, A, h0⟩, ?_⟩
  rintro m σ' H' ⟨F', es', e', A', w⟩
  obtain ⟨b, hb, h1, h2⟩ := hs m es' w
  refine hb _ σ' A'.envV H' A'.seen2 _ fun H1 e1 => ?_
  cases b with
  | true =>
    rw [if_pos rfl]
    refine ⟨fun σ2 H2 => ∃ m', m' < m ∧ ∃ F' es', Ex F F' ∧ At K F0 H0 F' H2 σ2 es' ∧ W m' es', fun σ2 H2 q => q, ?_⟩
    exact h1 rfl F0 H0 F' H1 σ' _ (A'.grow e1) ⟨fun F2 H2 σ2 es2 x A2 ⟨m', l, q⟩ => ⟨m', l, F2, es2, e'.trans x, A2, q⟩, fun F2 H2 σ2 es2 x A2 q => M.nx F2 H2 σ2 es2 (e'.trans x) A2 q, fun F2 H2 σ2 es2 x A2 ⟨m', l, q⟩ => ⟨m', l, F2, es2, e'.trans x, A2, q⟩, M.rt, M.ex⟩
  | false =>
    rw [if_neg Bool.false_ne_true]
    exact M.nx F' H1 σ' es' e' (A'.grow e1) (h2 rfl)
theorem ds_post {P' : Post} (h : DS K E t es P') (n : ∀ es, P'.nx es → P.nx es) (b : ∀ es, P'.bk es → P.bk es) (c : ∀ es, P'.ct es → P.ct es) (r : ∀ d, P'.rt d → P.rt d) (x : ∀ C, P'.ex C → P.ex C) : DS K E t es P := fun F0 H0 F H σ D A M =>
  h F0 H0 F H σ D A ⟨fun F' H σ es e A q => M.nx F' H σ es e A (n es q), fun F' H σ es e A q => M.bk F' H σ es e A (b es q), fun F' H σ es e A q => M.ct F' H σ es e A (c es q), fun v H d e R q => M.rt v H d e R (r d q), fun C H e q => M.ex C H e (x C q)⟩
end

/-! ### promises -/
inductive Out where
  | ret (d : PyData)
  | exc (C : Addr)
/-- called with these data it ends so -/
def spD (K : PySem.W.Frag) (R : List PyData → Out → Prop) : Sp := fun vs H Q E => ∃ F ds o, Ex F H ∧ RepAll K F vs ds ∧ R ds o ∧
  (∀ d v H', o = .ret d → Ex H H' → Rep K (Grow F H H') v d → Q v H') ∧ (∀ C H', o = .exc C → Ex H H' → E (.ref C) none H')
section
variable {K : PySem.W.Frag} {E E' : XK} {ds : List (Option PyData)} {ta : TA} {xs : List PyData} {d : PyData} {R : List PyData → Out → Prop} {C : Addr}
theorem de_call (ha : DA K ta ds xs) (hr : R xs (.ret d)) : DE K (tCall (spD K R) [] E ta) ds d := fun B σ en H e Q k =>
  ha B σ en H e _ fun vs H1 e1 rs => ⟨Grow B H H1, xs, .ret d, grow_ex2 e e1, by rw [List.append_nil]; exact rs, hr, fun d' v H' q e2 r => by
    cases q
    exact k v H' (e1.trans e2) (r.mono (grow_trans e1 e2)), fun C H' q => by cases q⟩
theorem dx_call (ha : DA K ta ds xs) (hr : R xs (.exc C)) : DX K (tCall (spD K R) [] E ta) ds E C := fun B σ en H e Q k =>
  ha B σ en H e _ fun vs H1 e1 rs => ⟨Grow B H H1, xs, .exc C, grow_ex2 e e1, by rw [List.append_nil]; exact rs, hr, (fun d' v H' q => by cases q), (fun C' H' q e2 => by
    cases q
    exact k H' (e1.trans e2))⟩
theorem dax_1 {te : TE} {tr : TA} (h : DX K te ds E C) : DAX K (tCons te tr) ds E C := fun B σ en H e Q k => h B σ en H e _ k
theorem dax_2 {te : TE} {tr : TA} (h : DE K te ds d) (hr : DAX K tr ds E C) : DAX K (tCons te tr) ds E C := fun B σ en H e Q k =>
  h B σ en H e _ fun v H1 e1 _ => hr B σ en H1 (e.trans e1) _ fun H' e2 => k H' (e1.trans e2)
theorem dx_tup (h : DAX K ta ds E C) : DX K (tTup ta) ds E C := fun B σ en H e Q k => h B σ en H e _ k
theorem dx_args {sp : Sp} (h : DAX K ta ds E C) : DX K (tCall sp [] E' ta) ds E C := fun B σ en H e Q k => h B σ en H e _ k
end
/-- the names at the entry -/
def slots (n : Nat) (ds : List PyData) : List Slot := ds.map Slot.val ++ List.replicate (n - ds.length) .no
theorem start_at {K : PySem.W.Frag} {F H : Hp} {N : List Str} {vs : List V} {ds : List PyData} (e : Ex F H) (r : RepAll K F vs ds) : At K F H F H (L2.start N vs) (slots N.length ds) := by
  have hl := r.length
  have own : ∀ (i : Nat) xs, (slots N.length ds)[i]? ≠ some (.own xs) := fun i xs h => by
    unfold slots at h
    by_cases q : i < ds.length
    · rw [List.getElem?_append_left (by rw [List.length_map]; exact q), List.getElem?_map, List.getElem?_eq_getElem q] at h
      simp at h
    · rw [List.getElem?_append_right (by rw [List.length_map]; omega), List.getElem?_replicate] at h
      split at h <;> simp at h
  refine ⟨e, exr, exr, e, fun a o q => .inl q, ?_, fun i d h => ?_, fun i xs h => absurd h (own i xs), fun i j xs ys a h => absurd h (own i xs)⟩
  · unfold L2.start slots
    simp [hl]
  · unfold slots at h
    by_cases q : i < ds.length
    · rw [List.getElem?_append_left (by rw [List.length_map]; exact q), List.getElem?_map] at h
      cases z : ds[i]? with
      | none => rw [z] at h; cases h
      | some d' =>
        rw [z] at h
        have h' := Option.some.inj h
        injection h' with h'
        subst h'
        obtain ⟨v, h1, h2⟩ := r.get z
        refine ⟨v, ?_, h2⟩
        unfold L2.start
        rw [List.getElem?_append_left (by rw [List.length_map, hl]; exact q), List.getElem?_map, h1]
        rfl
    · rw [List.getElem?_append_right (by rw [List.length_map]; omega), List.getElem?_replicate] at h
      split at h <;> simp at h
def Out.post (o : Out) : Post := { nx := fun _ => o = .ret .none, rt := fun d => o = .ret d, ex := fun C => o = .exc C }
/-- a def's body by its data -/
theorem run_body {K : PySem.W.Frag} {N : List Str} {t : TS} {R : List PyData → Out → Prop} {vs : List V} {H : Hp} {Q : VK} {E : XK} (h : spD K R vs H Q E) (hb : ∀ ds o, R ds o → DS K E t (slots N.length ds) o.post) :
    t { nx := fun _ H' => Q .non H', rt := Q } (L2.start N vs) H := by
  obtain ⟨F, ds, o, e, r, hr, k1, k2⟩ := h
  have A := start_at (N := N) e r
  refine hb ds o hr F H F H _ _ A ⟨fun F' H' σ es x A' q => ?_, fun F' H' σ es x A' q => False.elim q, fun F' H' σ es x A' q => False.elim q, fun v H' d e' r' q => k1 d v H' q e' r', fun C H' e' q => k2 C H' q e'⟩
  exact k1 .none .non H' q A'.h0 .non
theorem sp_len {K : PySem.W.Frag} {R : List PyData → Out → Prop} {n : Nat} (hR : ∀ ds o, R ds o → ds.length = n) : ∀ vs H Q E, spD K R vs H Q E → vs.length = n := fun vs H Q E ⟨F, ds, o, e, r, hr, _⟩ => by
  rw [r.length]
  exact hR ds o hr
/-- the same word for all ways to ask -/
theorem spD_mono {K : PySem.W.Frag} {R R' : List PyData → Out → Prop} (h : ∀ ds o, R ds o → R' ds o) {vs H Q E} (x : spD K R vs H Q E) : spD K R' vs H Q E := by
  obtain ⟨F, ds, o, e, r, hr, k⟩ := x
  exact ⟨F, ds, o, e, r, h ds o hr, k⟩
end VS

set_option Elab.async false
set_option linter.all false
set_option maxRecDepth 100000
/-! Value semantics: items, slices, built-ins, comprehensions. -/
namespace VS
open PySem L2
open Evl (Ex ex_rd ex_l ex_t)
section
variable {K : PySem.W.Frag} {ds : List (Option PyData)} {ta tb te : TE} {x y z d : PyData} {xs ys zs es : List PyData} {i : Int}
/-! ### items -/
theorem RepAll.at {H : Hp} {vs : List V} (r : RepAll K H vs xs) (h : atI xs i = some d) : ∃ v, atI vs i = some v ∧ Rep K H v d := by
  unfold atI at h ⊢
  rw [r.length]
  cases q : ixN xs.length i with
  | none => rw [q] at h; cases h
  | some j =>
    rw [q] at h
    obtain ⟨v, h1, h2⟩ := r.get (i := j) h
    exact ⟨v, h1, h2⟩
theorem d2_ixL (h : atI xs i = some d) : D2 K (rIxL K) (.list xs) (.int i) d := fun B H v u e rv ru Q k => by
  obtain ⟨a, vs, rfl, ha, rs⟩ := rv.list_eq
  obtain ⟨w, h1, h2⟩ := rs.at h
  exact ⟨a, vs, i, w, rfl, ru.int_eq, SqL.of (e a _ ha), h1, k w H exr (grow_same e h2)⟩
theorem d2_ixT (h : atI xs i = some d) : D2 K (rIxT K) (.tuple xs) (.int i) d := fun B H v u e rv ru Q k => by
  obtain ⟨a, vs, rfl, ha, rs⟩ := rv.tup_eq
  obtain ⟨w, h1, h2⟩ := rs.at h
  exact ⟨a, vs, i, w, rfl, ru.int_eq, SqT.of (e a _ ha), h1, k w H exr (grow_same e h2)⟩
theorem d2_ixC {ns : List Int} {n : Int} (h : atI ns i = some n) : D2 K (rIxL K) (scrD ns) (.int i) (.int n) := fun B H v u e rv ru Q k => by
  obtain ⟨a, rfl, ha⟩ := rv.scr_eq
  refine ⟨a, ns.map V.int, i, .int n, rfl, ru.int_eq, ex_l e ha, ?_, k _ H exr (.int n)⟩
  unfold atI at h ⊢
  rw [List.length_map]
  cases q : ixN ns.length i with
  | none => rw [q] at h; cases h
  | some j =>
    rw [q] at h
    show (ns.map V.int)[j]? = some (V.int n)
    rw [List.getElem?_map, show ns[j]? = some n from h]
    rfl
theorem d2_ixS {s : Str} {c : Nat} (hl : s.length ≤ 100000) (h : atI s.cps.toList i = some c) : D2 K rIxS (.str s) (.int i) (.str ⟨#[c]⟩) := fun B H v u e rv ru Q k =>
  ⟨s, i, c, rv.str_eq, ru.int_eq, len_ok hl, h, k _ H exr (.str _)⟩
/-! ### slices -/
def cut {α : Type} (xs : List α) (lo hi : Option Int) : List α := (xs.drop (HT.sIx xs.length 0 lo)).take (HT.sIx xs.length xs.length hi - HT.sIx xs.length 0 lo)
theorem RepAll.cut {H : Hp} {vs : List V} (r : RepAll K H vs xs) (lo hi : Option Int) : RepAll K H (cutV vs lo hi) (VS.cut xs lo hi) := by
  unfold cutV VS.cut
  rw [r.length]
  exact (r.drop _).take _
theorem do_none : DO K tNoPart ds none := fun B σ en H e Q k => k H exr
theorem do_some (h : DE K te ds (.int i)) : DO K (tPart te) ds (some i) := fun B σ en H e Q k => h B σ en H e _ fun v H1 e1 r => ⟨i, r.int_eq, k H1 e1⟩
theorem dn_sl {tl th : TO} {lo hi : Option Int} (h : DE K te ds (.list xs)) (h1 : DO K tl ds lo) (h2 : DO K th ds hi) : DN K (tSl (rSlL K) te tl th) ds (cut xs lo hi) := fun B σ en H e Q k =>
  h B σ en H e _ fun v H1 e1 r => h1 B σ en H1 (e.trans e1) _ fun H2 e2 => h2 B σ en H2 ((e.trans e1).trans e2) _ fun H3 e3 => by
    obtain ⟨a, vs, rfl, ha, rs⟩ := r.list_eq
    refine ⟨a, vs, rfl, SqL.of (e3 a _ (e2 a _ (grow_ex2 e e1 a _ ha))), fun p hp => ?_⟩
    have e13 : Ex H1 H3 := e2.trans e3
    have hp0 := Ex.ne (e1.trans e13) hp
    refine k p _ _ (e1.trans (e13.trans (upd_ex hp))) hp0 upd_same ((rs.cut lo hi).mono ?_)
    exact grow_right (e13.trans (del_upd hp))
theorem dn_slC {tl th : TO} {lo hi : Option Int} {ns : List Int} (h : DE K te ds (scrD ns)) (h1 : DO K tl ds lo) (h2 : DO K th ds hi) : DN K (tSl (rSlL K) te tl th) ds ((cut ns lo hi).map PyData.int) := fun B σ en H e Q k =>
  h B σ en H e _ fun v H1 e1 r => h1 B σ en H1 (e.trans e1) _ fun H2 e2 => h2 B σ en H2 ((e.trans e1).trans e2) _ fun H3 e3 => by
    obtain ⟨a, rfl, ha⟩ := r.scr_eq
    have e13 : Ex H1 H3 := e2.trans e3
    refine ⟨a, ns.map V.int, rfl, ex_l (Evl.Ex.trans (grow_ex2 e e1) e13) ha, fun p hp => ?_⟩
    have hp0 := Ex.ne (e1.trans e13) hp
    refine k p _ _ (e1.trans (e13.trans (upd_ex hp))) hp0 upd_same ?_
    have q : cutV (ns.map V.int) lo hi = (cut ns lo hi).map V.int := by
      unfold cutV VS.cut
      rw [List.length_map, List.map_take, List.map_drop]
    rw [q]
    exact .ints _
/-! ### built-ins -/
theorem dc_len : DC K (fun xs H Q => ∃ p ys, xs = [V.ref p] ∧ (SqL K H p ys ∨ SqT K H p ys) ∧ Q (.int ys.length) H) [.list xs] (.int (xs.length : Int)) := fun B H vs e r Q k => by
  cases r with
  | cons a r =>
    cases r
    obtain ⟨p, ys, rfl, ha, rs⟩ := a.list_eq
    exact ⟨p, ys, rfl, .inl (SqL.of (e p _ ha)), by rw [rs.length]; exact k _ H exr (.int _)⟩
theorem dc_lenT : DC K (fun xs H Q => ∃ p ys, xs = [V.ref p] ∧ (SqL K H p ys ∨ SqT K H p ys) ∧ Q (.int ys.length) H) [.tuple xs] (.int (xs.length : Int)) := fun B H vs e r Q k => by
  cases r with
  | cons a r =>
    cases r
    obtain ⟨p, ys, rfl, ha, rs⟩ := a.tup_eq
    exact ⟨p, ys, rfl, .inr (SqT.of (e p _ ha)), by rw [rs.length]; exact k _ H exr (.int _)⟩
theorem dc_lenC {ns : List Int} : DC K (fun xs H Q => ∃ p ys, xs = [V.ref p] ∧ (SqL K H p ys ∨ SqT K H p ys) ∧ Q (.int ys.length) H) [scrD ns] (.int (ns.length : Int)) := fun B H vs e r Q k => by
  cases r with
  | cons a r =>
    cases r
    obtain ⟨p, rfl, ha⟩ := a.scr_eq
    exact ⟨p, ns.map V.int, rfl, .inl (ex_l e ha), by rw [List.length_map]; exact k _ H exr (.int _)⟩
theorem dc_lenS {s : Str} (h : s.length ≤ 100000) : DC K (fun xs H Q => ∃ z, xs = [V.str z] ∧ z.length ≤ sizeLine ∧ Q (.int z.length) H) [.str s] (.int (s.length : Int)) := fun B H vs e r Q k => by
  cases r with
  | cons a r =>
    cases r
    rw [a.str_eq]
    exact ⟨s, rfl, len_ok h, k _ H exr (.int _)⟩
theorem dcn_list : DCN K (fun xs H Q => ∃ p ys, xs = [V.ref p] ∧ (SqL K H p ys ∨ SqT K H p ys) ∧ ∀ l, H l = none → Q (.ref l) (upd H l (.lst ys))) [.list xs] xs := fun B H vs e r Q k => by
  cases r with
  | cons a r =>
    cases r
    obtain ⟨p, ys, rfl, ha, rs⟩ := a.list_eq
    exact ⟨p, ys, rfl, .inl (SqL.of (e p _ ha)), fun l hl => k l ys _ (upd_ex hl) hl upd_same (rs.mono (grow_ex1 e))⟩
theorem dcn_listT : DCN K (fun xs H Q => ∃ p ys, xs = [V.ref p] ∧ (SqL K H p ys ∨ SqT K H p ys) ∧ ∀ l, H l = none → Q (.ref l) (upd H l (.lst ys))) [.tuple xs] xs := fun B H vs e r Q k => by
  cases r with
  | cons a r =>
    cases r
    obtain ⟨p, ys, rfl, ha, rs⟩ := a.tup_eq
    exact ⟨p, ys, rfl, .inr (SqT.of (e p _ ha)), fun l hl => k l ys _ (upd_ex hl) hl upd_same (rs.mono (grow_ex1 e))⟩
theorem dc_min2 {i j : Int} : DC K (fun xs H Q => ∃ i j, xs = [V.int i, V.int j] ∧ Q (.int (if j < i then j else i)) H) [.int i, .int j] (.int (min i j)) := fun B H vs e r Q k => by
  cases r with
  | cons a r =>
    cases r with
    | cons b r =>
      cases r
      rw [a.int_eq, b.int_eq]
      have q : (if j < i then j else i) = min i j := by
        rw [Int.min_def]
        split <;> split <;> omega
      exact ⟨i, j, rfl, by rw [q]; exact k _ H exr (.int _)⟩
theorem dc_max2 {i j : Int} : DC K (fun xs H Q => ∃ i j, xs = [V.int i, V.int j] ∧ Q (.int (if j > i then j else i)) H) [.int i, .int j] (.int (max i j)) := fun B H vs e r Q k => by
  cases r with
  | cons a r =>
    cases r with
    | cons b r =>
      cases r
      rw [a.int_eq, b.int_eq]
      have q : (if j > i then j else i) = max i j := by
        rw [Int.max_def]
        split <;> split <;> omega
      exact ⟨i, j, rfl, by rw [q]; exact k _ H exr (.int _)⟩
theorem dc_abs {i : Int} : DC K (fun xs H Q => ∃ i, xs = [V.int i] ∧ Q (.int (if i < 0 then -i else i)) H) [.int i] (.int (if i < 0 then -i else i)) := fun B H vs e r Q k => by
  cases r with
  | cons a r =>
    cases r
    rw [a.int_eq]
    exact ⟨i, rfl, k _ H exr (.int _)⟩
theorem dc_intB {b : Bool} : DC K (fun xs H Q => (∃ i, xs = [V.int i] ∧ Q (.int i) H) ∨ ∃ k, xs = [V.bl k] ∧ Q (.int (if k then 1 else 0)) H) [.bool b] (.int (if b then 1 else 0)) := fun B H vs e r Q k => by
  cases r with
  | cons a r =>
    cases r
    rw [a.bool_eq]
    exact .inr ⟨b, rfl, k _ H exr (.int _)⟩
theorem dc_sum {ns : List Int} : DC K (rSum K) [.list (ns.map PyData.int)] (.int ns.sum) := fun B H vs e r Q k => by
  cases r with
  | cons a r =>
    cases r
    obtain ⟨p, ys, rfl, ha, rs⟩ := a.list_eq
    have q := rs.of_ints
    subst q
    exact ⟨p, ns, rfl, SqL.of (e p _ ha), k _ H exr (.int _)⟩
theorem dc_maxL {ns : List Int} {m : Int} (h0 : 0 < ns.length) (h1 : m ∈ ns) (h2 : ∀ y ∈ ns, y ≤ m) : DC K (rMax K) [.list (ns.map PyData.int)] (.int m) := fun B H vs e r Q k => by
  cases r with
  | cons a r =>
    cases r
    obtain ⟨p, ys, rfl, ha, rs⟩ := a.list_eq
    have q := rs.of_ints
    subst q
    refine ⟨p, ns, rfl, SqL.of (e p _ ha), h0, fun m' g1 g2 => ?_⟩
    have q : m' = m := Int.le_antisymm (h2 m' g1) (g2 m h1)
    rw [q]
    exact k _ H exr (.int _)
theorem dc_minL {ns : List Int} {m : Int} (h0 : 0 < ns.length) (h1 : m ∈ ns) (h2 : ∀ y ∈ ns, m ≤ y) : DC K (rMin K) [.list (ns.map PyData.int)] (.int m) := fun B H vs e r Q k => by
  cases r with
  | cons a r =>
    cases r
    obtain ⟨p, ys, rfl, ha, rs⟩ := a.list_eq
    have q := rs.of_ints
    subst q
    refine ⟨p, ns, rfl, SqL.of (e p _ ha), h0, fun m' g1 g2 => ?_⟩
    have q : m' = m := Int.le_antisymm (g2 m h1) (h2 m' g1)
    rw [q]
    exact k _ H exr (.int _)
/-- sorted of ints -/
theorem sort_ints {ns ms : List Int} (p : ms.Perm ns) (s : ms.Pairwise (· ≤ ·)) : ms = ns.mergeSort (fun a b => decide (a ≤ b)) := by
  have h : (ns.mergeSort (fun a b => decide (a ≤ b))).Pairwise (fun a b => decide (a ≤ b) = true) := List.pairwise_mergeSort (fun a b c h1 h2 => by simp at *; omega) (fun a b => by simp; omega) ns
  refine List.Perm.eq_of_pairwise (le := fun a b : Int => a ≤ b) (fun a b _ _ h1 h2 => Int.le_antisymm h1 h2) s (h.imp fun h => of_decide_eq_true h) (p.trans (List.mergeSort_perm _ _).symm)
theorem dcn_sortI {ns : List Int} : DCN K (rSortedI K) [.list (ns.map PyData.int)] ((ns.mergeSort (fun a b => decide (a ≤ b))).map PyData.int) := fun B H vs e r Q k => by
  cases r with
  | cons a r =>
    cases r
    obtain ⟨p, ys, rfl, ha, rs⟩ := a.list_eq
    have q := rs.of_ints
    subst q
    refine ⟨p, ns, rfl, SqL.of (e p _ ha), fun ms l hp hs hl => ?_⟩
    rw [sort_ints hp hs]
    exact k l _ _ (upd_ex hl) hl upd_same (.ints _)
/-- sorted of pairs of ints -/
def pairD (p : Int × Int) : PyData := .tuple [.int p.1, .int p.2]
def leP (p q : Int × Int) : Bool := decide (p.1 < q.1) || (decide (p.1 = q.1) && decide (p.2 ≤ q.2))
theorem leP_iff {p q : Int × Int} : leP p q = true ↔ p.1 < q.1 ∨ (p.1 = q.1 ∧ p.2 ≤ q.2) := by
  unfold leP
  simp
theorem sort_pairs {ps qs : List (Int × Int)} (p : qs.Perm ps) (s : qs.Pairwise fun a b => leP a b = true) : qs = ps.mergeSort leP := by
  have h : (ps.mergeSort leP).Pairwise (fun a b => leP a b = true) := List.pairwise_mergeSort (fun a b c h1 h2 => by rw [leP_iff] at *; omega) (fun a b => by rw [Bool.or_eq_true, leP_iff, leP_iff]; omega) ps
  exact List.Perm.eq_of_pairwise (le := fun a b => leP a b = true) (fun a b _ _ h1 h2 => by
    rw [leP_iff] at h1 h2
    exact Prod.ext (by omega) (by omega)) s h (p.trans (List.mergeSort_perm _ _).symm)
def keyP (H : Hp) : V → Int × Int
  | .ref t => match H t with
    | some (.tup [.int i, .int j]) => (i, j)
    | _ => (0, 0)
  | _ => (0, 0)
theorem keyP_eq {H : Hp} {t : Addr} {i j : Int} (h : H t = some (.tup [.int i, .int j])) : keyP H (.ref t) = (i, j) := by
  show (match H t with
    | some (.tup [.int i, .int j]) => (i, j)
    | _ => (0, 0)) = (i, j)
  rw [h]
theorem reps_pairs {B H : Hp} (e : Ex B H) : ∀ {vs : List V} {ps : List (Int × Int)}, RepAll K B vs (ps.map pairD) → (∀ v ∈ vs, ∃ t, v = V.ref t ∧ B t = some (.tup [.int (keyP H v).1, .int (keyP H v).2])) ∧ vs.map (keyP H) = ps
  | [], ps, h => by
    cases ps with
    | nil => exact ⟨fun v hv => by simp at hv, rfl⟩
    | cons p ps => cases h
  | v :: vs, ps, h => by
    cases ps with
    | nil => cases h
    | cons p ps =>
      cases h with
      | cons a r =>
        obtain ⟨h1, h2⟩ := reps_pairs e r
        obtain ⟨t, ws, rfl, ht, rs⟩ := a.tup_eq
        cases rs with
        | cons a1 rs =>
          cases rs with
          | cons a2 rs =>
            cases rs
            rw [a1.int_eq, a2.int_eq] at ht
            have kq : keyP H (.ref t) = p := keyP_eq (e t _ ht)
            refine ⟨fun w hw => ?_, ?_⟩
            · rcases List.mem_cons.mp hw with rfl | hw
              · exact ⟨t, rfl, by rw [kq]; exact ht⟩
              · exact h1 w hw
            · rw [List.map_cons, kq, h2]
theorem reps_back {B H : Hp} : ∀ {vs : List V}, (∀ v ∈ vs, ∃ t, v = V.ref t ∧ B t = some (.tup [.int (keyP H v).1, .int (keyP H v).2])) → RepAll K B vs ((vs.map (keyP H)).map pairD)
  | [], _ => .nil
  | v :: vs, h => by
    obtain ⟨t, e, ht⟩ := h v List.mem_cons_self
    refine .cons ?_ (reps_back fun w hw => h w (List.mem_cons_of_mem _ hw))
    rw [e] at ht ⊢
    exact .tup ht (.cons (.int _) (.cons (.int _) .nil))
theorem dcn_sortP {ps : List (Int × Int)} : DCN K (rSortedPO K) [.list (ps.map pairD)] ((ps.mergeSort leP).map pairD) := fun B H vs e r Q k => by
  cases r with
  | cons a r =>
    cases r
    obtain ⟨p, ys, rfl, ha, rs⟩ := a.list_eq
    obtain ⟨h1, h2⟩ := reps_pairs e rs
    refine ⟨p, ys, keyP H, rfl, SqL.of (e p _ ha), fun v hv => ?_, fun zs l hs hb hl => ?_⟩
    · obtain ⟨t, q, ht⟩ := h1 v hv
      exact ⟨t, q, e t _ ht⟩
    · have hz : zs.map (keyP H) = ps.mergeSort leP := by
        refine sort_pairs ?_ ?_
        · rw [← h2]
          exact hb.perm.map _
        · refine List.pairwise_map.mpr (hs.imp fun {x y} q => ?_)
          have q' := SrtO.lexB_no.mp q
          rw [leP_iff]
          omega
      refine k l zs _ (upd_ex hl) hl upd_same ?_
      rw [← hz]
      refine (reps_back (B := B) fun v hv => h1 v (hb.perm.mem_iff.mp hv)).mono (grow_ex1 e)
/-- xs + ys -/
theorem d2n_cat (hl : xs.length + ys.length ≤ 100000) : D2N K rCat (.list xs) (.list ys) (xs ++ ys) := fun B H v u e rv ru Q k => by
  obtain ⟨a, vs, rfl, ha, rs⟩ := rv.list_eq
  obtain ⟨b, us, rfl, hb, ru⟩ := ru.list_eq
  refine ⟨a, b, vs, us, rfl, rfl, e a _ ha, e b _ hb, len_ok (by rw [rs.length, ru.length]; exact hl), fun p hp => ?_⟩
  exact k p _ _ (upd_ex hp) hp upd_same ((rs.append ru).mono (grow_ex1 e))
/-- == of data -/
theorem d2_eqD (hx : SeqAt.shaped x = true) (hy : SeqAt.shaped y = true) : D2 K (rEqD K) x y (.bool (PyData.eqv x y)) := fun B H v u e rv ru Q k =>
  ⟨x, y, (rv.mono e).dp (SeqAt.canLay_of_shaped hx), (ru.mono e).dp (SeqAt.canLay_of_shaped hy), hx, hy, k _ H exr (.bl _)⟩
theorem d2_neD (hx : SeqAt.shaped x = true) (hy : SeqAt.shaped y = true) : D2 K (rNeD K) x y (.bool (!PyData.eqv x y)) := fun B H v u e rv ru Q k =>
  ⟨x, y, (rv.mono e).dp (SeqAt.canLay_of_shaped hx), (ru.mono e).dp (SeqAt.canLay_of_shaped hy), hx, hy, k _ H exr (.bl _)⟩
/-- x in (a, b): texts -/
theorem all_strs {B : Hp} {ss : List Str} : ∀ {vs : List V}, RepAll K B vs (ss.map PyData.str) → vs = ss.map V.str := by
  induction ss with
  | nil => intro vs h; cases h; rfl
  | cons s ss ih =>
    intro vs h
    cases h with
    | cons a r => rw [a.str_eq, ih r]; rfl
theorem inV_strs {s : Str} : ∀ {ss : List Str}, inV (.str s) (ss.map V.str) = decide (s ∈ ss)
  | [] => rfl
  | t :: ss => by
    have ih := inV_strs (s := s) (ss := ss)
    unfold inV at ih ⊢
    rw [List.map_cons, List.any_cons, ih]
    show (t == s || decide (s ∈ ss)) = decide (s ∈ t :: ss)
    rw [Bool.eq_iff_iff]
    simp only [Bool.or_eq_true, beq_iff_eq, decide_eq_true_eq, List.mem_cons]
    exact ⟨fun h => h.imp Eq.symm id, fun h => h.imp Eq.symm id⟩
theorem d2_inT {s : Str} {ss : List Str} {neg : Bool} : D2 K (rIn K neg) (.str s) (.tuple (ss.map PyData.str)) (.bool (if neg then !decide (s ∈ ss) else decide (s ∈ ss))) := fun B H v u e rv ru Q k => by
  obtain ⟨a, vs, rfl, ha, rs⟩ := ru.tup_eq
  rw [rv.str_eq]
  have q := all_strs rs
  subst q
  refine ⟨a, _, rfl, .inr (SqT.of (e a _ ha)), rfl, by simp [flatV], ?_⟩
  rw [inV_strs]
  exact k _ H exr (.bl _)
/-- neither the script nor a bare reference -/
def notScr : PyData → Bool
  | .dict (_ :: _) => false
  | _ => true
/-- isinstance -/
def tyD : PyData → String
  | .none => "NoneType"
  | .bool _ => "bool"
  | .int _ => "int"
  | .str _ => "str"
  | .list _ => "list"
  | .tuple _ => "tuple"
  | .dict [] => "dict"
  | .dict _ => "list"
theorem Rep.ty {H : Hp} {v : V} (h : Rep K H v d) (hn : notScr d = true) : TyX K H v (.type (tyD d)) := by
  cases h with
  | non => exact .base .non
  | bl b => exact .base (.bl b)
  | int i => exact .base (.int i)
  | str x => exact .base (.str x)
  | lst h _ => exact .base (.lst h)
  | tup h _ => exact .base (.tup h)
  | @scr a ns _ => cases hn
  | raw a => cases hn
  | edict h => exact .base (.dK h)
theorem dc_isi {T : String} {b : Bool} (hk : kitB (tyD d) T = some b) (hn : notScr d = true) {v : V} {B H : Hp} (e : Ex B H) (r : Rep K B v d) {Q : VK} (k : Q (.bl b) H) : rIsi K [v, .ty T] H Q :=
  ⟨v, .ty T, .type (tyD d), .type T, b, rfl, .ty T, (r.mono e).ty hn, kit_ty hk, k⟩
theorem de_isi {T : String} {b : Bool} (h : DE K te ds d) (hk : kitB (tyD d) T = some b) (hn : notScr d = true) : DE K (tCB (rIsi K) (tCons te (tCons (tC (.ty T)) tNil))) ds (.bool b) := fun B σ en H e Q k =>
  h B σ en H e _ fun v H1 e1 r => dc_isi hk hn (grow_ex2 e e1) r (k _ H1 e1 (.bl b))
/-! ### comprehensions -/
theorem wipe_len {σ : L2.St} : ∀ {vs : List Nat}, (wipe σ vs).length = σ.length
  | [] => rfl
  | v :: vs => by
    show ((wipe σ vs).set v none).length = σ.length
    rw [List.length_set, wipe_len]
def wipeD (ds : List (Option PyData)) : List Nat → List (Option PyData)
  | [] => ds
  | v :: vs => (wipeD ds vs).set v none
theorem wipeD_len : ∀ {vs : List Nat}, (wipeD ds vs).length = ds.length
  | [] => rfl
  | v :: vs => by
    show ((wipeD ds vs).set v none).length = ds.length
    rw [List.length_set, wipeD_len]
theorem EnvR.set {B : Hp} {σ : L2.St} (h : EnvR K B σ ds) {j : Nat} {v : V} (r : Rep K B v d) : EnvR K B (σ.set j (some v)) (ds.set j (some d)) := ⟨by rw [List.length_set, List.length_set]; exact h.1, fun i d' q => by
  by_cases z : j = i
  · subst z
    have hi := get_set_is q
    cases get_set_at q
    exact ⟨v, List.getElem?_set_self (by rw [h.1]; exact hi), r⟩
  · rw [get_set_ne z] at q ⊢
    exact h.2 i d' q⟩
/-- a comprehension's own name is set, from the empty place -/
theorem EnvR.own {B : Hp} {σ : L2.St} (h : EnvR K B σ ds) {j : Nat} {v : V} (r : Rep K B v d) : EnvR K B ((L2.wipe σ [j]).set j (some v)) (ds.set j (some d)) := by
  have q : (L2.wipe σ [j]).set j (some v) = σ.set j (some v) := by
    show (σ.set j none).set j (some v) = σ.set j (some v)
    rw [List.set_set]
  rw [q]
  exact h.set r
theorem wipe_set1 {σ : L2.St} {j : Nat} {o : Option V} : wipe ((wipe σ [j]).set j o) [j] = wipe σ [j] := by
  show ((σ.set j none).set j o).set j none = σ.set j none
  rw [List.set_set, List.set_set]
/-- the items of a comprehension -/
def lcOf {α : Type} (f : α → Bool) (g : α → PyData) (xs : List α) : List PyData := (xs.filter f).map g
theorem lcOf_snoc_yes {α : Type} {f : α → Bool} {g : α → PyData} {xs : List α} {i : Nat} {x : α} (hi : xs[i]? = some x) (h : f x = true) : lcOf f g (xs.take (i + 1)) = lcOf f g (xs.take i) ++ [g x] := by
  unfold lcOf
  rw [List.take_add_one, hi, List.filter_append, List.map_append]
  simp [h]
theorem lcOf_snoc_no {α : Type} {f : α → Bool} {g : α → PyData} {xs : List α} {i : Nat} {x : α} (hi : xs[i]? = some x) (h : f x = false) : lcOf f g (xs.take (i + 1)) = lcOf f g (xs.take i) := by
  unfold lcOf
  rw [List.take_add_one, hi, List.filter_append, List.map_append]
  simp [h]
theorem lcOf_len {α : Type} (f : α → Bool) (g : α → PyData) (xs : List α) (i : Nat) : (lcOf f g (xs.take i)).length ≤ xs.length := by
  unfold lcOf
  rw [List.length_map]
  exact Nat.le_trans (List.length_filter_le _ _) (by rw [List.length_take]; omega)
/-- what holds of the heap within: D bears what is made so far -/
structure Lw (K : PySem.W.Frag) (B H0 : Hp) (D : Addr) (acc : List PyData) (H : Hp) : Prop where
  new : H0 D = none
  up : Ex H0 H
  here : ∃ vs, H D = some (.lst vs) ∧ RepAll K (Grow B H0 (del H D)) vs acc
theorem lw_turn {α : Type} {B H0 H : Hp} {D : Addr} {f : α → Bool} {g : α → PyData} {xs : List α} {i : Nat} {x : α} {t : TT} {te : TE} {σ2 : L2.St} {ds2 : List (Option PyData)} (e0 : Ex B H0) (w : Lw K B H0 D (lcOf f g (xs.take i)) H) (hx : xs[i]? = some x) (hz : xs.length ≤ 50000)
    (en : EnvR K (Grow B H0 (del H D)) σ2 ds2) (ht : DT K t ds2 (f x)) (he : f x = true → DE K te ds2 (g x)) :
    t σ2 H fun b H3 => if b = true then te σ2 H3 fun y H4 => ∃ acc, H4 D = some (.lst acc) ∧ acc.length < sizeLine ∧ Lw K B H0 D (lcOf f g (xs.take (i + 1))) (upd H4 D (.lst (acc ++ [y]))) else Lw K B H0 D (lcOf f g (xs.take (i + 1))) H3 := by
  obtain ⟨hn, hu, vs, hD, hr⟩ := w
  have eF : Ex (Grow B H0 (del H D)) H := fun a o q => by
    cases z : H0 a with
    | none => rw [grow_new z] at q; exact del_ex a o q
    | some u => rw [grow_old (ne_some z)] at q; exact hu a o (e0 a o q)
  have FD : Grow B H0 (del H D) D = none := by rw [grow_new hn, del_same]
  refine ht _ σ2 en H eF _ fun H3 e3 => ?_
  have eF3 := Evl.Ex.trans eF e3
  cases hf : f x with
  | false =>
    show Lw K B H0 D (lcOf f g (xs.take (i + 1))) H3
    rw [lcOf_snoc_no hx hf]
    refine ⟨hn, hu.trans e3, vs, e3 D _ hD, hr.mono ?_⟩
    refine grow_right fun a o q => ?_
    by_cases z : a = D
    · rw [z, del_same] at q; cases q
    · rw [del_ne z] at q ⊢; exact e3 a o q
  | true =>
    show te σ2 H3 _
    refine he hf _ σ2 en H3 eF3 _ fun y H4 e4 ry => ?_
    refine ⟨vs, e4 D _ (e3 D _ hD), ?_, hn, Evl.Ex.mut (hu.trans (e3.trans e4)) hn, vs ++ [y], upd_same, ?_⟩
    · have q := hr.length
      have q2 := lcOf_len f g xs i
      exact Evl.sz_lt (by omega)
    · rw [lcOf_snoc_yes hx hf]
      have ek : ∀ a o, Grow B H0 (del H D) a = some o → Grow B H0 (del (upd H4 D (.lst (vs ++ [y]))) D) a = some o := fun a o q => by
        cases z0 : H0 a with
        | none =>
          rw [grow_new z0] at q ⊢
          by_cases z : a = D
          · rw [z, del_same] at q; cases q
          · rw [del_ne z] at q ⊢
            rw [upd_ne z]
            exact e4 a o (e3 a o q)
        | some u => rw [grow_old (ne_some z0)] at q ⊢; exact q
      refine (hr.mono ek).append (.cons (ry.mono fun a o q => ?_) .nil)
      cases z3 : H3 a with
      | none =>
        rw [grow_new z3] at q
        have z : a ≠ D := fun z => by rw [z, e3 D _ hD] at z3; cases z3
        rw [grow_new (Ex.ne (hu.trans e3) z3), del_ne z, upd_ne z]
        exact q
      | some u =>
        rw [grow_old (ne_some z3)] at q
        exact ek a o q
/-- over a list -/
theorem dn_lcL {tl : TE} {t : TT} {j : Nat} {xs : List PyData} (f : PyData → Bool) (g : PyData → PyData) (h : DE K tl ds (.list xs)) (hz : xs.length ≤ 50000)
    (ht : ∀ x ∈ xs, DT K t (ds.set j (some x)) (f x)) (he : ∀ x ∈ xs, f x = true → DE K te (ds.set j (some x)) (g x)) :
    DN K (tLc (iList K tl) (gName j) t te [j]) ds (lcOf f g xs) := fun B σ en H e Q k => by
  refine h B σ en H e _ fun v H1 e1 r => ?_
  obtain ⟨a, vs, rfl, ha, rs⟩ := r.list_eq
  refine ⟨a, rfl, ⟨vs, SqL.of (grow_ex2 e e1 a _ ha)⟩, fun D hD => ?_⟩
  have e01 : Ex (Grow B H H1) H1 := grow_ex2 e e1
  refine lc_list (xs := vs) (fun i H' => Lw K (Grow B H H1) H1 D (lcOf f g (xs.take i)) H') ?_ (fun i H' _ w => SqL.of (w.up a _ (e01 a _ ha))) ?_ ?_
  · exact ⟨hD, upd_ex hD, [], upd_same, .nil⟩
  · intro i x H' hi w
    obtain ⟨d, hd, rd⟩ := rs.get' hi
    have hm : d ∈ xs := List.mem_of_getElem? hd
    have eF : Ex (Grow B H H1) (Grow (Grow B H H1) H1 (del H' D)) := grow_ex1 e01
    have eb : Ex B (Grow (Grow B H H1) H1 (del H' D)) := Evl.Ex.trans (grow_ex1 e) eF
    have en2 := (en.mono eb).own (j := j) (rd.mono eF)
    exact ⟨wipe_set1, lw_turn e01 w hd hz en2 (ht d hm) (fun hf => he d hm hf)⟩
  · rintro H' ⟨hn, hu, us, hl, hr⟩
    rw [rs.length, List.take_length] at hr
    exact k D us H' (e1.trans hu) (Ex.ne e1 hn) hl (hr.mono (grow_trans e1 (ex_del hu hn)))
/-- over range(n) -/
theorem dn_lcR {tl : TA} {t : TT} {j : Nat} {n : Nat} (f : Nat → Bool) (g : Nat → PyData) (h : DA K tl ds [.int (n : Int)]) (hz : n ≤ 50000)
    (ht : ∀ i : Nat, i < n → DT K t (ds.set j (some (.int (i : Int)))) (f i)) (he : ∀ i : Nat, i < n → f i = true → DE K te (ds.set j (some (.int (i : Int)))) (g i)) :
    DN K (tLc (iRng1 tl) (gName j) t te [j]) ds (lcOf f g (List.range n)) := fun B σ en H e Q k => by
  refine h B σ en H e _ fun vs H1 e1 r => ?_
  have ev : vs = [.int (n : Int)] := by
    cases r with
    | cons a r => cases r; rw [a.int_eq]
  refine ⟨(n : Int), ev, by omega, by omega, fun D hD => ?_⟩
  have e01 : Ex (Grow B H H1) H1 := grow_ex2 e e1
  refine lc_range (lo := 0) (n := ((n : Int)).toNat) (fun i H' => Lw K (Grow B H H1) H1 D (lcOf f g ((List.range n).take i)) H') ?_ ?_ ?_
  · exact ⟨hD, upd_ex hD, [], upd_same, .nil⟩
  · intro i H' hi w
    have hi' : i < n := by omega
    have e0 : (0 : Int) + (i : Int) = (i : Int) := Int.zero_add _
    rw [e0]
    have eb : Ex B (Grow (Grow B H H1) H1 (del H' D)) := Evl.Ex.trans (grow_ex1 e) (grow_ex1 e01)
    have en2 := (en.mono eb).own (j := j) (v := .int (i : Int)) (d := .int (i : Int)) (.int _)
    refine ⟨wipe_set1, lw_turn (f := f) (g := g) (xs := List.range n) (x := i) e01 w ?_ (by rw [List.length_range]; exact hz) en2 (ht i hi') (fun hf => he i hi' hf)⟩
    rw [List.getElem?_range hi']
  · rintro H' ⟨hn, hu, us, hl, hr⟩
    have q : ((n : Int)).toNat = n := by omega
    rw [q, List.take_of_length_le (by rw [List.length_range]; exact Nat.le_refl _)] at hr
    exact k D us H' (e1.trans hu) (Ex.ne e1 hn) hl (hr.mono (grow_trans e1 (ex_del hu hn)))
theorem dt_yes : DT K tYes ds true := fun B σ en H e Q k => k H exr
theorem lcOf_all {α : Type} (g : α → PyData) (xs : List α) : lcOf (fun _ => true) g xs = xs.map g := by
  unfold lcOf
  rw [List.filter_eq_self.mpr fun _ _ => rfl]
end
end VS

set_option Elab.async false
set_option linter.all false
set_option maxRecDepth 100000
/-! Value semantics: short names of readings, the steps. -/
namespace VS
open PySem L2
open Evl (Ex ex_rd ex_l ex_t)
abbrev rAddI : R2 := rI0 fun i j => .int (i + j)
abbrev rSubI : R2 := rI0 fun i j => .int (i - j)
abbrev rMulI : R2 := rI CMul fun i j => .int (i * j)
abbrev rDivI : R2 := rI CDiv fun i j => .int (i / j)
abbrev rModI : R2 := rI (fun _ j => 0 < j) fun i j => .int (i % j)
abbrev rLtI : R2 := rI0 fun i j => .bl (decide (i < j))
abbrev rLeI : R2 := rI0 fun i j => .bl (decide (i ≤ j))
abbrev rGtI : R2 := rI0 fun i j => .bl (decide (j < i))
abbrev rGeI : R2 := rI0 fun i j => .bl (decide (j ≤ i))
abbrev rNegI : V → Hp → VK → Prop := rU fun i => .int (-i)
abbrev rLenSq (K : PySem.W.Frag) : List V → Hp → VK → Prop := fun xs H Q => ∃ p ys, xs = [V.ref p] ∧ (SqL K H p ys ∨ SqT K H p ys) ∧ Q (.int ys.length) H
abbrev rLenStr : List V → Hp → VK → Prop := fun xs H Q => ∃ z, xs = [V.str z] ∧ z.length ≤ sizeLine ∧ Q (.int z.length) H
abbrev rListOf (K : PySem.W.Frag) : List V → Hp → VK → Prop := fun xs H Q => ∃ p ys, xs = [V.ref p] ∧ (SqL K H p ys ∨ SqT K H p ys) ∧ ∀ l, H l = none → Q (.ref l) (upd H l (.lst ys))
abbrev rMin2 : List V → Hp → VK → Prop := fun xs H Q => ∃ i j, xs = [V.int i, V.int j] ∧ Q (.int (if j < i then j else i)) H
abbrev rMax2 : List V → Hp → VK → Prop := fun xs H Q => ∃ i j, xs = [V.int i, V.int j] ∧ Q (.int (if j > i then j else i)) H
abbrev rAbs : List V → Hp → VK → Prop := fun xs H Q => ∃ i, xs = [V.int i] ∧ Q (.int (if i < 0 then -i else i)) H
abbrev rInt1 : List V → Hp → VK → Prop := fun xs H Q => (∃ i, xs = [V.int i] ∧ Q (.int i) H) ∨ ∃ k, xs = [V.bl k] ∧ Q (.int (if k then 1 else 0)) H
/-- a < b < c < d -/
def tChain3 (r r' r2 : R2) (ta tb tc td : TE) : TE := fun σ H Q => ta σ H fun x H1 => tb σ H1 fun y H2 => r x y H2 fun z H3 => ∃ k, z = .bl k ∧
  (if k = true then tc σ H3 fun w H4 => r' y w H4 fun z2 H5 => ∃ k2, z2 = .bl k2 ∧ (if k2 = true then td σ H5 fun v H6 => r2 w v H6 Q else Q (.bl false) H5) else Q (.bl false) H3)
theorem de_chain3 {K : PySem.W.Frag} {ds : List (Option PyData)} {ta tb tc td : TE} {i j k l : Int} {r r' r2 : R2} {a b e : Bool} (ha : DE K ta ds (.int i)) (hb : DE K tb ds (.int j)) (hc : DE K tc ds (.int k)) (hd : DE K td ds (.int l))
    (h1 : D2 K r (.int i) (.int j) (.bool a)) (h2 : D2 K r' (.int j) (.int k) (.bool b)) (h3 : D2 K r2 (.int k) (.int l) (.bool e)) : DE K (tChain3 r r' r2 ta tb tc td) ds (.bool (a && (b && e))) := fun B σ en H e0 Q q =>
  ha B σ en H e0 _ fun v H1 e1 rv => by
    rw [rv.int_eq]
    refine hb B σ en H1 (e0.trans e1) _ fun u H2 e2 ru => ?_
    rw [ru.int_eq]
    refine h1 B H2 _ _ (e0.trans (e1.trans e2)) (.int i) (.int j) _ fun w H3 e3 rw => ⟨a, rw.bool_eq, ?_⟩
    have x3 : Ex H H3 := e1.trans (e2.trans e3)
    cases a with
    | false =>
      show Q (.bl false) H3
      exact q _ H3 x3 (.bl _)
    | true =>
      show tc σ H3 _
      refine hc B σ en H3 (e0.trans x3) _ fun w4 H4 e4 r4 => ?_
      rw [r4.int_eq]
      refine h2 B H4 _ _ (e0.trans (x3.trans e4)) (.int j) (.int k) _ fun w5 H5 e5 r5 => ⟨b, r5.bool_eq, ?_⟩
      have x5 : Ex H H5 := x3.trans (e4.trans e5)
      cases b with
      | false =>
        show Q (.bl false) H5
        exact q _ H5 x5 (.bl _)
      | true =>
        show td σ H5 _
        refine hd B σ en H5 (e0.trans x5) _ fun w6 H6 e6 r6 => ?_
        rw [r6.int_eq]
        refine h3 B H6 _ _ (e0.trans (x5.trans e6)) (.int k) (.int l) Q fun w7 H7 e7 r7 => ?_
        rw [r7.bool_eq]
        exact q _ H7 (x5.trans (e6.trans e7)) (.bl _)
theorem rawD_eq (a : Addr) : rawD a = rawD a := rfl
/-- the errors by their names -/
inductive ErrC where
  | wish | price | pieces | uneven | none | unread
  deriving DecidableEq
/-- {} -/
def tDnew : TE := fun _ H Q => ∀ d, H d = none → Q (.ref d) (upd H d (.dK []))
theorem de_dnew {K : PySem.W.Frag} {ds : List (Option PyData)} : DE K tDnew ds (.dict []) := fun B σ en H e Q k d hd => k _ _ (upd_ex hd) (.edict (by rw [grow_new hd, upd_same]))
/-- the classes -/
structure Cs where
  BidError : Addr
  BadWish : Addr
  BadPrice : Addr
  BadPieces : Addr
  Uneven : Addr
  NoSuch : Addr
  Unread : Addr
def Cs.at (c : Cs) : ErrC → Addr
  | .wish => c.BadWish
  | .price => c.BadPrice
  | .pieces => c.BadPieces
  | .uneven => c.Uneven
  | .none => c.NoSuch
  | .unread => c.Unread
abbrev rAddStr : R2 := fun x y H Q => ∃ i j, x = .str i ∧ y = .str j ∧ i.length + j.length ≤ sizeLine ∧ Q (.str (i ++ j)) H
theorem d2_addStr {K : PySem.W.Frag} {i j : Str} (h : i.length + j.length ≤ 100000) : D2 K rAddStr (.str i) (.str j) (.str (i ++ j)) := fun B H v u e rv ru Q k =>
  ⟨i, j, rv.str_eq, ru.str_eq, len_ok h, k _ H exr (.str _)⟩
section
variable {K : PySem.W.Frag} {E : XK} {es : List Slot} {P : Post} {te ta ti : TE} {tc : TT} {t u tb : TS} {d : PyData} {i j : Nat} {xs : List PyData}
/-- ..; the rest -/
theorem q_set (h : DE K te (see es) d) (hs : scalarD d = true) (k : DS K E u (es.set i (.val d)) P) : DS K E (tSeq (tAsg te (gName i)) u) es P := ds_seq (ds_set h hs k)
theorem q_let (h : DE K te (frz es) d) (k : DS K E u (es.set i (.val d)) P) : DS K E (tSeq (tAsg te (gName i)) u) es P := ds_seq (ds_let h k)
theorem q_new (h : DN K te (frz es) xs) (k : DS K E u (es.set i (.own xs)) P) : DS K E (tSeq (tAsg te (gName i)) u) es P := ds_seq (ds_new h k)
theorem q_drop (h : DE K te (see es) d) (k : DS K E u es P) : DS K E (tSeq (tDrop te) u) es P := ds_seq (ds_drop h k)
/-- if t: x = e, told by the value that x has behind it -/
theorem q_ifset {b : Bool} (h : DT K tc (see es) b) (h1 : b = true → DE K te (see es) d) (hs : scalarD d = true) (h2 : b = false → es.set i (.val d) = es) (k : DS K E u (es.set i (.val d)) P) : DS K E (tSeq (tIfS tc (tAsg te (gName i)) tNext) u) es P :=
  ds_seq (ds_if h (fun hb => ds_set (h1 hb) hs k) (fun hb => ds_next (by
    show DS K E u es P
    have k' := k
    rw [h2 hb] at k'
    exact k')))
/-- if t: return / raise; the rest -/
theorem q_if {b : Bool} (h : DT K tc (see es) b) (h1 : b = true → DS K E t es { P with nx := fun es' => DS K E u es' P }) (h2 : b = false → DS K E u es P) : DS K E (tSeq (tIfS tc t tNext) u) es P :=
  ds_seq (ds_if h h1 fun hb => ds_next (h2 hb))
theorem q_guard (h : DT K tc (see es) false) (k : DS K E u es P) : DS K E (tSeq (tIfS tc t tNext) u) es P := q_if h (fun z => by cases z) fun _ => k
theorem q_app (h : DE K te (see es) d) (hs : scalarD d = true) (hi : es[i]? = some (.own xs)) (hl : xs.length < 100000) (k : DS K E u (es.set i (.own (xs ++ [d]))) P) : DS K E (tSeq (tDrop (tBM K "list" rAppend (tVar i) (tCons te tNil))) u) es P := ds_seq (ds_app h hs hi hl k)
theorem q_appV (h : DE K te (frz es) d) (hi : es[i]? = some (.own xs)) (hl : xs.length < 100000) (k : DS K E u (es.set i (.own (xs ++ [d]))) P) : DS K E (tSeq (tDrop (tBM K "list" rAppend (tVar i) (tCons te tNil))) u) es P := ds_seq (ds_appV h hi hl k)
theorem q_put {n : Int} {k0 : Nat} (h : DE K te (see es) d) (hs : scalarD d = true) (hi : es[i]? = some (.own xs)) (hn : DE K ti (see es) (.int n)) (hk : ixN xs.length n = some k0) (k : DS K E u (es.set i (.own (xs.set k0 d))) P) : DS K E (tSeq (tAsg te (gSub (tVar i) ti rSetL)) u) es P := ds_seq (ds_put h hs hi hn hk k)
theorem q_for {tl : TE} {xs : List PyData} (W : Nat → List Slot → Prop) (h : DE K tl (frz es) (.list xs)) (h0 : W 0 es) (hs : ∀ k x es', xs[k]? = some x → W k es' → DS K E tb (es'.set j (.val x)) { P with nx := W (k + 1), ct := W (k + 1), bk := fun es' => DS K E u es' P }) (hd : ∀ es', W xs.length es' → DS K E u es' P) :
    DS K E (tSeq (tFor (iList K tl) (gName j) tb) u) es P := ds_seq (ds_for W h h0 hs hd)
theorem q_forT {tl : TE} {xs : List PyData} (W : Nat → List Slot → Prop) (h : DE K tl (frz es) (.tuple xs)) (h0 : W 0 es) (hs : ∀ k x es', xs[k]? = some x → W k es' → DS K E tb (es'.set j (.val x)) { P with nx := W (k + 1), ct := W (k + 1), bk := fun es' => DS K E u es' P }) (hd : ∀ es', W xs.length es' → DS K E u es' P) :
    DS K E (tSeq (tFor (iTup K tl) (gName j) tb) u) es P := ds_seq (ds_forT W h h0 hs hd)
theorem q_forR1 {ta : TA} {n : Int} (W : Nat → List Slot → Prop) (h : DA K ta (see es) [.int n]) (hn : -100000 ≤ n ∧ n ≤ 100000) (h0 : W 0 es) (hs : ∀ (k : Nat) es', (k : Int) < n → W k es' → DS K E tb (es'.set j (.val (.int (k : Int)))) { P with nx := W (k + 1), ct := W (k + 1), bk := fun es' => DS K E u es' P }) (hd : ∀ es', W n.toNat es' → DS K E u es' P) :
    DS K E (tSeq (tFor (iRng1 ta) (gName j) tb) u) es P := ds_seq (ds_forR1 W h hn.2 h0 hs hd hn.1)
theorem q_while (W : Nat → List Slot → Prop) (m0 : Nat) (h0 : W m0 es) (hs : ∀ m es', W m es' → ∃ b, DT K tc (see es') b ∧ (b = true → DS K E tb es' { P with nx := fun es2 => ∃ m', m' < m ∧ W m' es2, ct := fun es2 => ∃ m', m' < m ∧ W m' es2, bk := fun es' => DS K E u es' P }) ∧ (b = false → DS K E u es' P)) :
    DS K E (tSeq (tWhile tc tb) u) es P := ds_seq (ds_while W m0 h0 hs)
theorem q_freeze (i : Nat) {xs : List PyData} (hi : es[i]? = some (.own xs)) (h : DS K E t (es.set i (.val (.list xs))) P) : DS K E t es P := ds_freeze hi h
theorem q_last (h : DS K E t es P) : DS K E t es P := h
/-- one answer, whatever the way -/
theorem dt_to {b b' : Bool} {ds : List (Option PyData)} (h : DT K tc ds b) (e : b = b') : DT K tc ds b' := e ▸ h
theorem de_to {d d' : PyData} {ds : List (Option PyData)} (h : DE K te ds d) (e : d = d') : DE K te ds d' := e ▸ h
theorem post_ret {o : Out} {d : PyData} (h : o = .ret d) : o.post.rt d := h
end
/-! ### the wishes -/
structure Wish where
  buy : Bool
  limit : Int
  amount : Int
  deriving DecidableEq
def sideS (b : Bool) : Str := if b then "buy" else "sell"
def wishD (w : Wish) : PyData := .tuple [.str (sideS w.buy), .int w.limit, .int w.amount]
abbrev wsD (ws : List Wish) : PyData := .list (ws.map wishD)
abbrev intsD (ns : List Int) : PyData := .list (ns.map PyData.int)
theorem sideS_buy {b : Bool} : decide (sideS b = "buy") = b := by cases b <;> decide +kernel
theorem sideS_sell {b : Bool} : decide (sideS b = "sell") = !b := by cases b <;> decide +kernel
theorem sideS_eq {a b : Bool} : decide (sideS a = sideS b) = (a == b) := by cases a <;> cases b <;> decide +kernel
theorem map_at {α : Type} {f : α → PyData} {xs : List α} {i : Nat} {d : PyData} (h : (xs.map f)[i]? = some d) : ∃ x, xs[i]? = some x ∧ d = f x := by
  rw [List.getElem?_map] at h
  cases e : xs[i]? with
  | none => rw [e] at h; cases h
  | some x => rw [e] at h; exact ⟨x, rfl, (Option.some.inj h).symm⟩
theorem atI_map {α : Type} {f : α → PyData} {xs : List α} {i : Nat} {x : α} (h : xs[i]? = some x) : atI (xs.map f) (i : Int) = some (f x) := atI_nat (by rw [List.getElem?_map, h]; rfl)
theorem atI_mapI {α : Type} {f : α → PyData} {xs : List α} {i : Int} {n : Nat} {x : α} (e : i = (n : Int)) (h : xs[n]? = some x) : atI (xs.map f) i = some (f x) := by rw [e]; exact atI_map h
theorem d2_fdivC {K : PySem.W.Frag} {i j : Int} (h1 : 0 < j) (h2 : j < 1073741824) : D2 K rDivI (.int i) (.int j) (.int (i / j)) := d2_fdiv ⟨h1, h2⟩
theorem d2_mulL {K : PySem.W.Frag} {i j : Int} (h1 : -(2 ^ 64) < i) (h2 : i < 2 ^ 64) : D2 K rMulI (.int i) (.int j) (.int (i * j)) := d2_mul (.inl ⟨h1, h2⟩)
theorem d2_mulR {K : PySem.W.Frag} {i j : Int} (h1 : -(2 ^ 64) < j) (h2 : j < 2 ^ 64) : D2 K rMulI (.int i) (.int j) (.int (i * j)) := d2_mul (.inr ⟨h1, h2⟩)
section
variable {K : PySem.W.Frag} {ds : List (Option PyData)} {ta tb tc te : TE} {t u : TT} {d x y z : PyData} {r r' : R2}
theorem de_andU {a b : Bool} (h1 : DE K ta ds (.bool a)) (h2 : DE K tb ds (.bool b)) : DE K (tAndV ta tb) ds (.bool (a && b)) := de_andV h1 fun _ => h2
theorem de_orU {a b : Bool} (h1 : DE K ta ds (.bool a)) (h2 : DE K tb ds (.bool b)) : DE K (tOrV ta tb) ds (.bool (a || b)) := de_orV h1 fun _ => h2
theorem dt_andU {a b : Bool} (h1 : DT K t ds a) (h2 : DT K u ds b) : DT K (tAnd t u) ds (a && b) := dt_and h1 fun _ => h2
theorem dt_orU {a b : Bool} (h1 : DT K t ds a) (h2 : DT K u ds b) : DT K (tOr t u) ds (a || b) := dt_or h1 fun _ => h2
theorem de_chainU {a b : Bool} (ha : DE K ta ds x) (hb : DE K tb ds y) (hc : DE K tc ds z) (hr : D2 K r x y (.bool a)) (hr' : D2 K r' y z (.bool b)) : DE K (tChain r r' ta tb tc) ds (.bool (a && b)) := de_chain ha hb hr (fun _ => hc) fun _ => hr'
theorem de_lst {ta : TA} {xs : List PyData} (h : DA K ta ds xs) (hl : xs.length ≤ 100000) : DE K (tLst ta) ds (.list xs) := de_new (dn_lst h hl)
theorem de_slU {tl th : TO} {lo hi : Option Int} {xs : List PyData} (h : DE K te ds (.list xs)) (h1 : DO K tl ds lo) (h2 : DO K th ds hi) : DE K (tSl (rSlL K) te tl th) ds (.list (cut xs lo hi)) := de_new (dn_sl h h1 h2)
theorem dc_new {r : List V → Hp → VK → Prop} {xs zs : List PyData} (h : DCN K r xs zs) : DC K r xs (.list zs) := fun B H vs e rs Q k =>
  h B H vs e rs Q fun p us H' e' hp hl q => k _ H' e' (.lst (by rw [grow_new hp]; exact hl) (q.mono (grow_right del_ex)))
theorem de_isiU {T : String} {b : Bool} (h : DE K te ds d) (hn : notScr d = true) (hk : kitB (tyD d) T = some b) : DE K (tCB (rIsi K) (tCons te (tCons (tC (.ty T)) tNil))) ds (.bool b) := de_isi h hk hn
theorem kit_b_b : kitB "bool" "bool" = some true := by decide +kernel
theorem kit_i_b : kitB "int" "bool" = some false := by decide +kernel
theorem kit_i_i : kitB "int" "int" = some true := by decide +kernel
theorem kit_l_l : kitB "list" "list" = some true := by decide +kernel
theorem kit_t_t : kitB "tuple" "tuple" = some true := by decide +kernel
theorem kit_s_s : kitB "str" "str" = some true := by decide +kernel
end
/-! ### kinds -/
theorem tyD_mem (d : PyData) : tyD d ∈ ["NoneType", "bool", "int", "str", "list", "tuple", "dict"] := by
  cases d with
  | dict kvs => cases kvs <;> simp [tyD]
  | _ => simp [tyD]
theorem kit_int (d : PyData) : kitB (tyD d) "int" = some (tyD d == "int" || tyD d == "bool") := by
  have h := tyD_mem d
  generalize tyD d = s at h
  simp only [List.mem_cons, List.not_mem_nil, or_false] at h
  rcases h with rfl | rfl | rfl | rfl | rfl | rfl | rfl <;> decide +kernel
theorem kit_bool (d : PyData) : kitB (tyD d) "bool" = some (tyD d == "bool") := by
  have h := tyD_mem d
  generalize tyD d = s at h
  simp only [List.mem_cons, List.not_mem_nil, or_false] at h
  rcases h with rfl | rfl | rfl | rfl | rfl | rfl | rfl <;> decide +kernel
def isInt : PyData → Bool
  | .int _ => true
  | _ => false
theorem isInt_ty (d : PyData) : ((tyD d == "int" || tyD d == "bool") && !(tyD d == "bool")) = isInt d := by
  cases d with
  | dict kvs => cases kvs <;> simp [tyD, isInt]
  | _ => simp [tyD, isInt]
theorem kit_tuple (d : PyData) : kitB (tyD d) "tuple" = some (tyD d == "tuple") := by
  have h := tyD_mem d
  generalize tyD d = s at h
  simp only [List.mem_cons, List.not_mem_nil, or_false] at h
  rcases h with rfl | rfl | rfl | rfl | rfl | rfl | rfl <;> decide +kernel
theorem kit_str (d : PyData) : kitB (tyD d) "str" = some (tyD d == "str") := by
  have h := tyD_mem d
  generalize tyD d = s at h
  simp only [List.mem_cons, List.not_mem_nil, or_false] at h
  rcases h with rfl | rfl | rfl | rfl | rfl | rfl | rfl <;> decide +kernel
/-! ### data that may be compared -/
theorem lay_map {α : Type} {f : α → PyData} : ∀ {xs : List α}, (∀ x ∈ xs, (f x).canLay0 = true) → PyData.canLayAll0 (xs.map f) = true
  | [], _ => rfl
  | x :: xs, h => by
    rw [List.map_cons, PyData.canLayAll0, h x List.mem_cons_self, lay_map fun y hy => h y (List.mem_cons_of_mem _ hy)]
    rfl
theorem depth_map {α : Type} {f : α → PyData} {n : Nat} : ∀ {xs : List α}, (∀ x ∈ xs, (f x).depth ≤ n) → PyData.depthAll (xs.map f) ≤ n
  | [], _ => Nat.zero_le _
  | x :: xs, h => by
    rw [List.map_cons, PyData.depthAll]
    exact Nat.max_le.mpr ⟨h x List.mem_cons_self, depth_map fun y hy => h y (List.mem_cons_of_mem _ hy)⟩
theorem sh_map {α : Type} {f : α → PyData} {xs : List α} (h : ∀ x ∈ xs, (f x).canLay0 = true ∧ (f x).depth ≤ 60) : SeqAt.shaped (.list (xs.map f)) = true := by
  unfold SeqAt.shaped
  rw [Bool.and_eq_true, decide_eq_true_eq]
  refine ⟨?_, ?_⟩
  · rw [PyData.canLay0]; exact lay_map fun x hx => (h x hx).1
  · rw [PyData.depth]
    have := depth_map (f := f) (n := 60) fun x hx => (h x hx).2
    omega
theorem lay_side {b : Bool} : (PyData.str (sideS b)).canLay0 = true := by cases b <;> decide +kernel
theorem wish_lay (w : Wish) : (wishD w).canLay0 = true ∧ (wishD w).depth ≤ 60 := by
  have h := lay_side (b := w.buy)
  rw [PyData.canLay0] at h
  unfold wishD
  refine ⟨?_, ?_⟩
  · simp [PyData.canLay0, PyData.canLayAll0, h]
  · simp [PyData.depth, PyData.depthAll]
theorem sh_wish (w : Wish) : SeqAt.shaped (wishD w) = true := by
  unfold SeqAt.shaped
  have h := wish_lay w
  rw [h.1, decide_eq_true (by omega)]
  rfl
theorem sh_ws (ws : List Wish) : SeqAt.shaped (wsD ws) = true := sh_map fun w _ => wish_lay w
theorem sh_ints (ns : List Int) : SeqAt.shaped (intsD ns) = true := sh_map fun w _ => ⟨by simp [PyData.canLay0], by simp [PyData.depth]⟩
theorem eqv_refl {d : PyData} (h : SeqAt.shaped d = true) : PyData.eqv d d = true := SeqAt.eqv_refl d (SeqAt.canLay_of_shaped h)
theorem d2_eqSame {K : PySem.W.Frag} {d : PyData} (h : SeqAt.shaped d = true) : D2 K (rEqD K) d d (.bool true) := by
  have q := d2_eqD (K := K) h h
  rw [eqv_refl h] at q
  exact q
theorem d2_neSame {K : PySem.W.Frag} {d : PyData} (h : SeqAt.shaped d = true) : D2 K (rNeD K) d d (.bool false) := by
  have q := d2_neD (K := K) h h
  rw [eqv_refl h] at q
  exact q
/-- a place of a written list -/
theorem atI_getD {α : Type} {f : α → PyData} {xs : List α} {i : Int} (a : α) (h0 : 0 ≤ i) (h1 : i < (xs.length : Int)) : atI (xs.map f) i = some (f (xs.getD i.toNat a)) := by
  have h2 : i.toNat < xs.length := by omega
  refine atI_mapI (n := i.toNat) (by omega) ?_
  rw [List.getD_eq_getElem?_getD, List.getElem?_eq_getElem h2]
  rfl
theorem getD_mem {α : Type} {xs : List α} {i : Nat} {a : α} (h : i < xs.length) : xs.getD i a ∈ xs := by
  rw [List.getD_eq_getElem?_getD, List.getElem?_eq_getElem h]
  exact List.getElem_mem h
/-- the wishes that the laws build are good -/
def Wish.good (w : Wish) : Prop := 0 ≤ w.limit ∧ w.limit ≤ 1000000000 ∧ 1 ≤ w.amount ∧ w.amount ≤ 1000000
theorem cut_len {α : Type} (xs : List α) (lo hi : Option Int) : (cut xs lo hi).length ≤ xs.length := by
  unfold cut
  rw [List.length_take, List.length_drop]
  omega
theorem law_start {K : PySem.W.Frag} {H : Hp} {a : Addr} {ns : List Int} {R : List PyData → Out → Prop} (hS : SqL K H a (ns.map V.int)) (h : R [scrD ns] (.ret (.bool true))) : spD K R [.ref a] H (fun v _ => v = .bl true) fun _ _ _ => False :=
  ⟨H, _, _, exr, .cons (.scr hS) .nil, h, fun d v H' q e r => by
    cases q
    exact r.bool_eq, fun C H' q => by cases q⟩
def pick (xs : List PyData) (i : Int) : PyData := xs.getD (i % (xs.length : Int)).toNat .none
theorem d2_pickD {K : PySem.W.Frag} {xs : List PyData} {i n : Int} (h : 0 < n) (e : (xs.length : Int) = n) : D2 K (rIxL K) (.list xs) (.int (i % n)) (pick xs i) := by
  unfold pick
  rw [e]
  have h1 := Int.emod_nonneg i (b := n) (by omega)
  have h2 := Int.emod_lt_of_pos i h
  have q := VS.d2_ixL (K := K) (xs := xs.map id) (i := i % n) (atI_getD (f := id) (xs := xs) .none h1 (by omega))
  rw [List.map_id] at q
  exact q
theorem pick_mem {xs : List PyData} {i : Int} (h : 0 < xs.length) : pick xs i ∈ xs := by
  unfold pick
  refine getD_mem ?_
  have h1 := Int.emod_nonneg i (b := (xs.length : Int)) (by omega)
  have h2 := Int.emod_lt_of_pos i (b := (xs.length : Int)) (by omega)
  omega
def wAt (ws : List Wish) (i : Nat) : Wish := ws.getD i ⟨true, 0, 1⟩
theorem wAt_get {ws : List Wish} {i : Nat} (h : i < ws.length) : ws[i]? = some (wAt ws i) := by
  unfold wAt
  rw [List.getD_eq_getElem?_getD, List.getElem?_eq_getElem h]
  rfl
theorem wAt_mem {ws : List Wish} {i : Nat} (h : i < ws.length) : wAt ws i ∈ ws := List.mem_of_getElem? (wAt_get h)
def amtAt (ws : List Wish) (i : Nat) : Int := (wAt ws i).amount
theorem d2_new {K : PySem.W.Frag} {r : R2} {x y : PyData} {zs : List PyData} (h : D2N K r x y zs) : D2 K r x y (.list zs) := fun B H v u e rv ru Q k =>
  h B H v u e rv ru Q fun p us H' e' hp hl q => k _ H' e' (.lst (by rw [grow_new hp]; exact hl) (q.mono (grow_right del_ex)))
theorem d2_cat {K : PySem.W.Frag} {xs ys : List PyData} (hl : xs.length + ys.length ≤ 100000) : D2 K rCat (.list xs) (.list ys) (.list (xs ++ ys)) := d2_new (d2n_cat hl)
theorem cut_take {α : Type} (xs : List α) (k : Nat) : cut xs none (some (k : Int)) = xs.take k := by
  unfold cut
  rw [HT.sIx_none, HT.sIx_nat, Nat.sub_zero, List.drop_zero]
  by_cases h : k ≤ xs.length
  · rw [Nat.min_eq_left h]
  · rw [Nat.min_eq_right (by omega), List.take_of_length_le (Nat.le_refl _), List.take_of_length_le (by omega)]
theorem cut_drop {α : Type} (xs : List α) (k : Nat) : cut xs (some (k : Int)) none = xs.drop k := by
  unfold cut
  rw [HT.sIx_none, HT.sIx_nat]
  by_cases h : k ≤ xs.length
  · rw [Nat.min_eq_left h, List.take_of_length_le]
    rw [List.length_drop]
    exact Nat.le_refl _
  · rw [Nat.min_eq_right (by omega), List.drop_of_length_le (Nat.le_refl _), List.drop_of_length_le (by omega), List.take_nil]
/-! great factors -/
def CMulM (i j : Int) : Prop := ∃ a b : Nat, i.natAbs < 2 ^ a ∧ j.natAbs < 2 ^ b ∧ a + b ≤ 100000000
abbrev rMulM : R2 := rI CMulM fun i j => .int (i * j)
theorem d2_mulM {K : PySem.W.Frag} {i j : Int} (c : CMulM i j) : D2 K rMulM (.int i) (.int j) (.int (i * j)) := d2_I (f := fun i j => .int (i * j)) (fun _ => .int _) c
theorem pow_lift {a b n : Nat} (h : n < 2 ^ a) (hb : a ≤ b) : n < 2 ^ b := Nat.lt_of_lt_of_le h (Nat.pow_le_pow_right (by decide) hb)
theorem abs_sub_lt {i j : Int} {a : Nat} (h1 : i.natAbs < 2 ^ a) (h2 : j.natAbs < 2 ^ a) : (i - j).natAbs < 2 ^ (a + 1) := by
  rw [Nat.pow_succ]
  omega
theorem bits_lt {z : Int} (h : Builtin.Int.intBits z ≤ 1048576) : ∃ a : Nat, a ≤ 1048576 ∧ z.natAbs < 2 ^ a := by
  unfold Builtin.Int.intBits at h
  by_cases q : (z == 0) = true
  · have e : z = 0 := beq_iff_eq.mp q
    exact ⟨0, by omega, by rw [e]; decide⟩
  · rw [if_neg q] at h
    refine ⟨z.natAbs.log2 + 1, h, ?_⟩
    exact Nat.lt_log2_self
end VS
/-- a step's data -/
local macro_rules | `(tactic| walk_at "ev") => `(tactic| (repeat' (first
  | ((with_reducible apply VS.de_var); rfl)
  | with_reducible exact VS.de_int
  | with_reducible exact VS.de_str
  | exact VS.de_str
  | with_reducible exact VS.de_bl
  | with_reducible exact VS.de_non
  | with_reducible exact VS.de_dnew
  | with_reducible exact VS.d2_add
  | with_reducible exact VS.d2_sub
  | with_reducible exact VS.d2_lt
  | with_reducible exact VS.d2_le
  | with_reducible exact VS.d2_gt
  | with_reducible exact VS.d2_ge
  | with_reducible exact VS.d1_neg
  | with_reducible exact VS.d2_eqI
  | with_reducible exact VS.d2_neI
  | with_reducible exact VS.d2_eqS
  | with_reducible exact VS.d2_neS
  | with_reducible exact VS.d2_eqB
  | with_reducible exact VS.d2_mod (by decide)
  | with_reducible exact VS.d2_fdivC (by decide) (by decide)
  | with_reducible exact VS.d2_mulL (by decide) (by decide)
  | with_reducible exact VS.d2_mulR (by decide) (by decide)
  | exact VS.d2_ixT rfl
  | with_reducible exact VS.d2_ixL (VS.atI_map (by assumption))
  | with_reducible exact VS.dc_len
  | with_reducible exact VS.dc_lenT
  | with_reducible exact VS.dc_lenC
  | with_reducible exact VS.dc_min2
  | with_reducible exact VS.dc_max2
  | with_reducible exact VS.dc_abs
  | with_reducible exact VS.dc_sum
  | with_reducible exact VS.dc_intB
  | with_reducible exact VS.da_nil
  | with_reducible exact VS.do_none
  | with_reducible exact VS.dt_yes
  | with_reducible exact VS.dcn_list
  | with_reducible exact VS.dcn_listT
  | with_reducible exact VS.dcn_sortI
  | with_reducible exact VS.dcn_sortP
  | exact Nat.le_of_ble_eq_true rfl
  | with_reducible apply VS.da_cons
  | with_reducible apply VS.de_op
  | with_reducible apply VS.de_un
  | with_reducible apply VS.de_isiU
  | with_reducible apply VS.de_cb
  | with_reducible apply VS.de_tup
  | with_reducible apply VS.de_lst
  | with_reducible apply VS.de_slU
  | with_reducible exact VS.dc_new VS.dcn_list
  | with_reducible exact VS.dc_new VS.dcn_listT
  | with_reducible exact VS.dc_new VS.dcn_sortI
  | with_reducible exact VS.dc_new VS.dcn_sortP
  | with_reducible apply VS.dt_test
  | with_reducible apply VS.dt_B
  | with_reducible apply VS.dt_not
  | with_reducible apply VS.de_notV
  | with_reducible apply VS.do_some
  | with_reducible apply VS.dn_op
  | with_reducible apply VS.dn_cb
  | with_reducible apply VS.dn_lst
  | with_reducible apply VS.dn_sl
  | with_reducible apply VS.dn_slC
  | with_reducible apply VS.de_andU
  | with_reducible apply VS.de_orU
  | with_reducible apply VS.dt_andU
  | with_reducible apply VS.dt_orU
  | with_reducible apply VS.de_chainU
  | with_reducible apply VS.de_chain3
  | exact VS.kit_b_b
  | exact VS.kit_i_b
  | exact VS.kit_i_i
  | exact VS.kit_l_l
  | exact VS.kit_t_t
  | exact VS.kit_s_s
  | ((show VS.notScr _ = true); rfl)
  | with_reducible exact VS.d2_eqSame (VS.sh_ws _)
  | with_reducible exact VS.d2_neSame (VS.sh_ws _)
  | with_reducible exact VS.d2_eqSame (VS.sh_ints _)
  | with_reducible exact VS.d2_neSame (VS.sh_ints _)
  | with_reducible apply VS.de_call
  | exact ⟨_, true, _, rfl, rfl⟩
  | exact ⟨_, false, _, rfl, rfl⟩
  | exact ⟨_, rfl, rfl⟩
  | exact ⟨_, _, rfl, rfl⟩
  | exact ⟨_, _, _, rfl, rfl⟩
  | exact ⟨_, _, _, _, rfl, rfl⟩
  | exact ⟨_, rfl, rfl, by first | assumption | exact rfl | decide | omega⟩
  | exact ⟨_, _, rfl, rfl, by first | assumption | exact rfl | decide | omega⟩
  | exact ⟨_, _, _, rfl, rfl, by first | assumption | exact rfl | decide | omega⟩
  | fail)))

set_option Elab.async false
set_option linter.all false
set_option maxRecDepth 100000
/-! Value semantics: what the rows' side wants: defs that raise, classes. -/
namespace VS
open PySem PySem.Spec PyProof.Rows L2
/-- no class matters -/
def c0 : Cs := ⟨0, 0, 0, 0, 0, 0, 0⟩
theorem passLN {X : Cx} : Passes (L2N.CX X.prog X.w) X E0 := fun _ _ _ _ _ _ _ h => by
  obtain ⟨_, _, _, _, _, _, _, _, _, _, _, _, z⟩ := h
  exact z.elim
theorem takes0N {X : Cx} : L2N.Takes X (fun _ _ _ _ => False) := fun _ _ x => by
  obtain ⟨_, _, _, _, _, _, _, _, _, _, _, _, _, _, _, _, z⟩ := x
  exact z.elim
section
variable {X : Cx} {a b c d : Expr} {ta tb tc td : TE} {pos : Pos}
theorem pt_chain3 {op op' op2 : CmpOp} {r r' r2 : R2} (ho : OpR X (compareOp op) r) (ho' : OpR X (compareOp op') r') (ho2 : OpR X (compareOp op2) r2) (ha : PE X a ta) (hb : PE X b tb) (hc : PE X c tc) (hd : PE X d td)
    (hm : lastMarks [op, op', op2] [b, c, d] = false := by with_unfolding_all rfl) : PT X (.Compare a [op, op', op2] [b, c, d] pos) (tTest (tChain3 r r' r2 ta tb tc td)) := by
  refine ⟨fun pins s σ H Q I h => ?_⟩
  refine isTrue_chain (thn (ha.run pins s σ H _ I h) fun v s1 ⟨x, H1, I1, r1, q1⟩ => test_link (thn (hb.run pins s1 σ H1 _ I1 q1) fun u s2 ⟨y, H2, I2, ry, q2⟩ =>
    thn (ho pins s2 σ H2 x y v u _ I2 r1 ry q2) fun d0 s3 ⟨z, H3, I3, r3, k, e, q3⟩ => ?_)) hm
  subst e
  cases r3
  refine wpAny_truthy_bool ?_
  cases k with
  | false =>
    obtain ⟨k', e', q'⟩ := q3
    cases e'
    exact ite_ff ⟨H3, I3, q'⟩
  | true =>
    refine ite_tt (test_link (thn (hc.run pins s3 σ H3 _ I3 q3) fun w' s4 ⟨z', H4, I4, r4, q4⟩ => thn (ho' pins s4 σ H4 y z' u w' _ I4 ry r4 q4) fun d' s5 ⟨z2, H5, I5, r5, k2, e2, q5⟩ => ?_))
    subst e2
    cases r5
    refine wpAny_truthy_bool ?_
    cases k2 with
    | false =>
      obtain ⟨k', e', q'⟩ := q5
      cases e'
      exact ite_ff ⟨H5, I5, q'⟩
    | true =>
      refine ite_tt (test_last (thn (hd.run pins s5 σ H5 _ I5 q5) fun w2 s6 ⟨z3, H6, I6, r6, q6⟩ => thn (ho2 pins s6 σ H6 z' z3 w' w2 _ I6 r4 r6 q6) fun d2 s7 ⟨z4, H7, I7, r7, k3, e3, q7⟩ => ?_))
      subst e3
      cases r7
      exact wpAny_truthy_bool ⟨H7, I7, q7⟩
end
theorem op_mulM {X : Cx} : OpR X (binaryOp .Mult) rMulM := opI fun i j _ _ _ _ _ hc q => by
  refine mul_int q ?_
  obtain ⟨a, b, ha, hb, hab⟩ := hc
  have bits : ∀ (x : Int) (n : Nat), x.natAbs < 2 ^ n → Builtin.Int.intBits x ≤ n + 1 := fun x n h => by
    unfold Builtin.Int.intBits
    split
    · omega
    · rename_i h0
      have hx : x.natAbs ≠ 0 := fun z => h0 (by
        have : x = 0 := Int.natAbs_eq_zero.mp z
        rw [this]
        rfl)
      have := (Nat.log2_lt hx).mpr h
      omega
  have h1 := bits i a ha
  have h2 := bits j b hb
  unfold IntMulOk
  intro z
  rw [Bool.and_eq_true] at z
  have z2 := z.2
  unfold Builtin.Int.intTooBig at z2
  have z3 := of_decide_eq_true z2
  rw [show bitsLine = 134217728 by decide] at z3
  omega
/-- what the top has written of an own error class -/
structure ClsN (K : PySem.W.Frag) (mg : Str → Option Value) (x : Str) (C : Addr) : Prop where
  gC : mg x = some (.ref C)
  xC : PySem.W.excIn K C [.type "ValueError", .type "Exception", .type "BaseException", .type "object"] "ValueError.__new__" = true
  kC : PySem.W.keepIn K (.ref C) = true
  eC : PySem.W.subIn K (.ref C) (.type "BaseException") = some true
  tC : PySem.W.typeIn K (.ref C) = some (.type "type")
theorem ps_raiseN {X : Cx} {E : XK} {x m : Str} {C : Addr} {j : Nat} {p p2 pos pos2 : Pos} (T : ClsN X.K X.mg x C) (hc : X.calm = true) (tk : L2N.Takes X (fun cls d _ H => E cls d H)) (hg : Gl X x) (hdb : (x == ("__debug__" : Str)) = false := by decide) :
    PS X (.Raise (some (.Call (.Name x p) [.Constant (.str m) j p2] [] pos)) none pos2) (tRse E C) :=
  L2N.ps_raise hc tk (L2N.pmk_own PySem.F.excBase_ValueError T.xC T.gC T.kC (raises_own T.eC T.tC) hg hdb)
section
variable {P : Program} {w : World} {K : PySem.W.Frag} {mg : Str → Option Value} {base : Heap}
/-- as Fun.ok, for a def that may raise -/
theorem _root_.L2.Fun.okN {x qual : Str} {st : Stmt} {f : Addr} {fd : FuncData} {N ps : List Str} {k : Nat} {sp : Sp} (F : Fun K x qual st f fd) (S : FnScope N ps (defScope st)) (len : ∀ vs H Q E, sp vs H Q E → vs.length = ps.length)
    (hbody : ∀ (cdv : Value) (A : Around) (outer : List Env) (s : Shared) (H : Hp) (vs : List V) (Q : VK) (E : XK), Room k (A.deeper (envOfC qual (defScope st) s.heap.objs.size f cdv)) → sp vs H Q E →
      ∃ t, PSs (cxOf (L2N.CX P w) P w K mg base N qual (defScope st) f cdv A outer s H E) (defBody st) t ∧ t { nx := fun _ H' => Q .non H', rt := Q } (L2.start N vs) H) : FnOk P w K mg base (L2N.CX P w) (k + 1) f fd ps sp := by
  obtain ⟨oc, od, kV, doc, pm, an, cdv, ct, osl, rfl, lk, hcd⟩ := F.ex
  exact fn_of lk hcd S len fun A outer s H vs Q E hr hsp => hbody cdv A outer s H vs Q E hr hsp
end
end VS

set_option Elab.async false
set_option linter.all false
set_option maxRecDepth 100000
/-! Value semantics: a def that is asked, within an except suite, of the very error that the suite holds. -/
namespace VS
open PySem PySem.Spec PyProof.Rows L2
open L2H (RoomH Hot1 PinOk HotC cxH inv_startH)
/-- what a def promises of ONE held error p -/
def HotOk (P : Program) (w : World) (K : PySem.W.Frag) (mg : Str → Option Value) (base : Heap) (k : Nat) (f : Addr) (fd : FuncData) (ps : List Str) (p : Addr × Obj) (sp : Sp) : Prop :=
  ∀ (A : Around) (outer : List Env) (s : Shared) (H : Hp) (args : Args) (us : List Value) (vs : List V) (Q : VK), RoomH k A → Hot1 A p → PinOk outer H s p → Env0 P w K mg base A outer s H → BindsTo s fd args (ps.zip us) → Vals vs us → vs.length = ps.length → sp vs H Q E0 →
    codeAny (model P w) A (.call (.ref f) args) (CR CX0 outer P w H s Q E0) s
section
variable {P : Program} {w : World} {K : PySem.W.Frag} {mg : Str → Option Value} {base : Heap}
theorem hot_fun {x qual : Str} {st : Stmt} {f : Addr} {fd : FuncData} {N ps : List Str} {k : Nat} {p : Addr × Obj} {sp : Sp} (F : Fun K x qual st f fd) (S : FnScope N ps (defScope st))
    (hb : ∀ (cdv : Value) (A : Around) (outer : List Env) (s : Shared) (H : Hp) (vs : List V) (Q : VK), RoomH k (A.deeper (envOfC qual (defScope st) s.heap.objs.size f cdv)) → sp vs H Q E0 →
      ∃ t, PSs (cxH CX0 P w K mg base N qual (defScope st) f cdv A outer s H E0 p) (defBody st) t ∧ t { nx := fun _ H' => Q .non H', rt := Q } (L2.start N vs) H) : HotOk P w K mg base (k + 1) f fd ps p sp := by
  obtain ⟨oc, od, kV, doc, pm, an, cdv, ct, osl, rfl, lk, hcd⟩ := F.ex
  intro A outer s H args us vs Q room hot pin env0 bind rel len ask
  have keep : ∀ b o, base.get? b = some o → s.heap.get? b = some o := fun b o e => (env0.bs b o e).1
  have inK := env0.mod.kin.keeps keep
  have sees : ∀ y ∈ ps.zip us, (defScope st).names.lookup y.1 = some .local ∨ ((defScope st).names.lookup y.1 = some .cell ∧ ((PySem.cellsFrom (s.heap.objs.size + 1) (defScope st).names []).lookup y.1).isSome = true) := by
    intro y hy
    have hm : y.1 ∈ ps := (List.of_mem_zip (a := y.1) (b := y.2) hy).1
    exact (S.par y.1 hm).imp id fun q => ⟨q, PySem.W.cellsFrom_some _ _ _ (.inl q)⟩
  refine codeAny_call_function room.depth (inK _ _ lk) rfl S.co S.gen rfl (PySem.W.codeRec_of inK hcd) ?_
  refine bind _ _ _ _ (wpAny_newFunctionEnv_cells S.kind sees ?_)
  rintro _ rfl s1 made
  refine ⟨(env0.mod.nolimit.keeps keep).keeps made.toInCall.keep, codeAny_func ?_⟩
  obtain ⟨t, term, goal⟩ := hb cdv A outer s H vs Q (room.deeper _) ask
  have inv := inv_startH (CX := CX0) (E := E0) (qual := qual) (cd := cdv) (f := f) S pin env0 len rel made
  refine wpAny_mono (term.run [] s1 _ H _ inv goal) ?_ (fun _ _ z => z)
  rintro (_ | _ | _ | u) s2 h2
  · obtain ⟨σ2, H2, J, q⟩ := h2
    exact ⟨.non, H2, J.os, J.bare, J.base, J.hok, rfl, q⟩
  all_goals first
    | (obtain ⟨_, _, _, q⟩ := h2; exact q.elim)
    | (obtain ⟨v, σ2, H2, J, rv, q⟩ := h2; exact ⟨v, H2, J.os, J.bare, J.base, J.hok, rv, q⟩)
end
/-- names(e), e the error at p that the suite holds -/
def tHot (sp : Sp) (i : Nat) : TE := fun σ H Q => ∃ v, σ[i]? = some (some v) ∧ sp [v] H Q E0
theorem pe_hot {X : Cx} {p : Addr × Obj} {k : Nat} {f : Addr} {fd : FuncData} {a x y : Str} {sp : Sp} {q pos py : Pos} {i : Nat} (F : HotOk X.prog X.w X.K X.mg X.base k f fd [a] p sp) (hr : RoomH k X.A) (hot : Hot1 X.A p) (hp : p ∈ X.pn) (hg : Gl X x) (hm : X.mg x = some (.ref f)) (hk : PySem.W.keepIn X.K (.ref f) = true) (hb : Binds X.K fd [a] [])
    (hv : PE X (.Name y py) (tVar i)) (hdb : (x == ("__debug__" : Str)) = false := by decide) (he : starEach (.Name y py :: []) X.env = (false, eval (.Name y py) X.env) :: starEach [] X.env := by rfl) (hpl : (backTo pos (starEach [] X.env)).any (·.1) = false := by rfl) :
    PE X (.Call (.Name x q) [.Name y py] [] pos) (tHot sp i) := by
  refine ⟨fun pins s σ H Q I h => wpAny_Call_Name_kw (ld_glob I hg hm ?_ hdb)⟩
  have arg : tCons (tVar i) tNil σ H fun vs H1 => vs.length = 1 ∧ sp vs H1 Q E0 := by
    obtain ⟨v, e, ask⟩ := h
    exact ⟨v, e, rfl, ask⟩
  refine PySem.W.callWith_K (h₀ := X.base) I.ok.mod.kin hk (thn ((pa_cons hv pa_nil he).run pos pins s σ H _ I arg) ?_) he hpl
  rintro us s1 ⟨vs, H1, J, rel, one, ask⟩
  refine ⟨J.kIn, ?_⟩
  have pinned := J.pin p (List.mem_append_left _ hp)
  have away : p.1 ∉ frs X.stack := fun m => by
    rcases List.mem_cons.mp (J.stkSub p.1 m) with z | z
    · exact pinned.2.2.1 z
    · exact pinned.2.2.2.1 z
  have binds : BindsTo s1 fd ⟨us, []⟩ (([a] : List Str).zip us) := by
    have z := hb s1 us J.kIn (by rw [List.append_nil, ← rel.length]; exact one)
    rw [List.append_nil] at z
    exact z
  refine wpAny_call (codeAny_mono (F X.A X.stack s1 H1 ⟨us, []⟩ us vs Q hr hot ⟨pinned.1, pinned.2.1, away, pinned.2.2.2.2⟩ J.env0 binds rel one ask) ?_)
  rintro (e | _ | _ | _ | u) s2 h2
  all_goals first
    | exact J.after h2
    | exact h2.elim
/-- what is asked of the classes: the error of D, tested against each -/
structure ErrOk (K : PySem.W.Frag) (c : Cs) (D : ErrC) : Prop where
  exc : ExcC K (c.at D)
  isa : ∀ D' : ErrC, PySem.W.kitOne K (.ref (c.at D)) (.ref (c.at D')) = some (decide (D = D'))
  val : PySem.W.kitOne K (.ref (c.at D)) (.type "ValueError") = some true
  exm : PySem.W.exmOne K (.ref (c.at D)) (.ref c.BidError) = some true
theorem kit_yes {K : PySem.W.Frag} {D : Addr} : PySem.W.kitOne K (.ref D) (.ref D) = some true := by
  unfold PySem.W.kitOne
  rw [if_pos (beq_self_eq_true _)]
theorem kit_no {K : PySem.W.Frag} {D C : Addr} (h1 : PySem.W.subIn K (.ref D) (.ref C) = some false) (h2 : PySem.W.subIn K (.ref D) (.ref D) = some true) (hc : PySem.W.isClsIn K C = true) (ht : PySem.W.typeIn K (.ref C) = some (.type "type")) : PySem.W.kitOne K (.ref D) (.ref C) = some false := by
  have ne : ¬ (Value.ref D == Value.ref C) = true := fun z => by
    have q : Value.ref D = Value.ref C := beq_iff_eq.mp z
    rw [← q, h2] at h1
    cases h1
  have hc' : (PySem.W.clsIn K C).isSome = true := hc
  unfold PySem.W.kitOne
  rw [if_neg ne]
  show (if ((PySem.W.clsIn K C).isSome && PySem.W.typeIn K (.ref C) == some (.type "type")) = true then PySem.W.subIn K (.ref D) (.ref C) else none) = some false
  rw [hc', ht, if_pos (by simp), h1]
theorem kit_ve {K : PySem.W.Frag} {D : Addr} (h : PySem.W.subIn K (.ref D) (.type "ValueError") = some true) : PySem.W.kitOne K (.ref D) (.type "ValueError") = some true := by
  unfold PySem.W.kitOne
  rw [if_neg (by simp)]
  show (if PySem.W.kitMeta "ValueError" = true then PySem.W.subIn K (.ref D) (.type "ValueError") else none) = some true
  rw [if_pos (by decide +kernel), h]
theorem call_isP {X : Cx} {a D : Addr} {oe : Obj} (C : ExcC X.K D) (hz : Zc (.ref D) none oe) (hf : ∃ vs, oe.data = .fields vs) (hp : (a, oe) ∈ X.pn) : CallR X (.builtin "isinstance") (rIsE X.K D a) := by
  rintro pins s σ H _ us Q I rel ⟨c, cv, b, rfl, hcv, hk, q⟩
  obtain ⟨u1, u2, rfl, r1, r2⟩ := vals2 rel
  obtain rfl : u1 = Value.ref a := r1
  obtain rfl := hcv _ r2
  have at_ := (I.pin (a, oe) (List.mem_append_left _ hp)).1
  obtain ⟨vs, hv⟩ := hf
  have inst : PySem.W.InstAt s.heap a oe D none := by
    obtain ⟨oc, od, oda, osl⟩ := oe
    obtain ⟨h1, h2⟩ := hz
    dsimp only at h1 h2 hv
    subst h1 h2 hv
    exact ⟨at_, rfl, rfl, trivial⟩
  exact PySem.W.kia_one (PySem.W.handS_kitx_exc C.hg C.hk C.hs C.hd C.ha C.hn C.ht C.hm) I.kIn inst hk (fun z => nomatch z) fun tk => ⟨.bl b, H, I.tok tk, rfl, q⟩
section
variable {K : PySem.W.Frag} {ds : List (Option PyData)} {te : TE} {a D : Addr}
theorem de_isE {C : Addr} {b : Bool} (h : DE K te ds (rawD a)) (hk : PySem.W.kitOne K (.ref D) (.ref C) = some b) : DE K (tCB (rIsE K D a) (tCons te (tCons (tC (.ref C)) tNil))) ds (.bool b) := fun B σ en H e Q k =>
  h B σ en H e _ fun v H1 e1 r => ⟨.ref C, .ref C, b, by rw [r.raw_eq], fun u ru => ru, hk, k _ H1 e1 (.bl b)⟩
theorem de_isT {T : String} {b : Bool} (h : DE K te ds (rawD a)) (hk : PySem.W.kitOne K (.ref D) (.type T) = some b) : DE K (tCB (rIsE K D a) (tCons te (tCons (tC (.ty T)) tNil))) ds (.bool b) := fun B σ en H e Q k =>
  h B σ en H e _ fun v H1 e1 r => ⟨.ty T, .type T, b, by rw [r.raw_eq], fun u ru => ru, hk, k _ H1 e1 (.bl b)⟩
theorem de_hot {R : List PyData → Out → Prop} {i : Nat} {x d : PyData} {sp : Sp} (hP : ∀ vs H Q E, spD K R vs H Q E → sp vs H Q E) (hv : ds[i]? = some (some x)) (hr : R [x] (.ret d)) : DE K (tHot sp i) ds d := fun B σ en H e Q k => by
  obtain ⟨v, h1, h2⟩ := en.2 i x hv
  refine ⟨v, h1, hP _ _ _ _ ⟨B, [x], .ret d, e, .cons h2 .nil, hr, fun d' v' H' q e' r => ?_, fun C H' q => by cases q⟩⟩
  cases q
  exact k v' H' e' r
end
theorem hot_of {A : Around} {a : Addr} {oe : Obj} {cls : Value} {d : Option Addr} (hz : L2N.Zn cls d oe) (hf : ∃ vs, oe.data = .fields vs) : Hot1 (A.mark (some (.ref a))) (a, oe) := by
  obtain ⟨vs, hv⟩ := hf
  exact ⟨rfl, vs, hv, hz.2.2 vs hv⟩
/-- names(e): the text by the class of the error at a -/
def nameS : ErrC → Str
  | .wish => "wish "
  | .price => "price "
  | .pieces => "pieces "
  | .uneven => "uneven "
  | .none => "none "
  | .unread => "unread "
def R_names (a : Addr) (D : ErrC) (ds : List PyData) (o : Out) : Prop := ds = [rawD a] ∧ o = .ret (.str (nameS D))
def spN (K : PySem.W.Frag) (c : Cs) (a : Addr) (cls : Value) (d : Option Addr) : Sp := fun vs H Q E => ∃ D, cls = .ref (c.at D) ∧ d = none ∧ ErrOk K c D ∧ spD K (R_names a D) vs H Q E
theorem de_names {K : PySem.W.Frag} {c : Cs} {a : Addr} {D : ErrC} {ds : List (Option PyData)} {i : Nat} (X : ErrOk K c D) (hv : ds[i]? = some (some (rawD a))) : DE K (tHot (spN K c a (.ref (c.at D)) none) i) ds (.str (nameS D)) :=
  de_hot (R := R_names a D) (fun vs H Q E h => ⟨D, rfl, rfl, X, h⟩) hv ⟨rfl, rfl⟩
/-- the body of names -/
def t_names (K : PySem.W.Frag) (c : Cs) (D a : Addr) : TS :=
  tSeq (tAsg (tC (.str "")) (gName 1))
    (tSeq (tIfS (tB (tCB (rIsE K D a) (tCons (tVar 0) (tCons (tC (.ref c.BadWish)) tNil)))) (tAsg (tOp rAddStr (tVar 1) (tC (.str "wish "))) (gName 1)) tNext)
    (tSeq (tIfS (tB (tCB (rIsE K D a) (tCons (tVar 0) (tCons (tC (.ref c.BadPrice)) tNil)))) (tAsg (tOp rAddStr (tVar 1) (tC (.str "price "))) (gName 1)) tNext)
    (tSeq (tIfS (tB (tCB (rIsE K D a) (tCons (tVar 0) (tCons (tC (.ref c.BadPieces)) tNil)))) (tAsg (tOp rAddStr (tVar 1) (tC (.str "pieces "))) (gName 1)) tNext)
    (tSeq (tIfS (tB (tCB (rIsE K D a) (tCons (tVar 0) (tCons (tC (.ref c.Uneven)) tNil)))) (tAsg (tOp rAddStr (tVar 1) (tC (.str "uneven "))) (gName 1)) tNext)
    (tSeq (tIfS (tB (tCB (rIsE K D a) (tCons (tVar 0) (tCons (tC (.ref c.NoSuch)) tNil)))) (tAsg (tOp rAddStr (tVar 1) (tC (.str "none "))) (gName 1)) tNext)
    (tSeq (tIfS (tB (tCB (rIsE K D a) (tCons (tVar 0) (tCons (tC (.ref c.Unread)) tNil)))) (tAsg (tOp rAddStr (tVar 1) (tC (.str "unread "))) (gName 1)) tNext)
    (tSeq (tIfS (tNot (tB (tCB (rIsE K D a) (tCons (tVar 0) (tCons (tC (.ty "ValueError")) tNil))))) (tAsg (tC (.str "")) (gName 1)) tNext)
    (tRet (tVar 1)))))))))
theorem names_if {K : PySem.W.Frag} {E : XK} {u : TS} {P : Post} {D C a : Addr} {b : Bool} {x y : Str} (hk : PySem.W.kitOne K (.ref D) (.ref C) = some b) (hx : x.length ≤ 1000) (hy : y.length ≤ 1000) (k : DS K E u [.val (rawD a), .val (.str (if b = true then x ++ y else x))] P) :
    DS K E (tSeq (tIfS (tB (tCB (rIsE K D a) (tCons (tVar 0) (tCons (tC (.ref C)) tNil)))) (tAsg (tOp rAddStr (tVar 1) (tC (.str y))) (gName 1)) tNext) u) [.val (rawD a), .val (.str x)] P := by
  refine q_ifset (d := .str (if b = true then x ++ y else x)) (dt_B (de_isE (de_var rfl) hk)) (fun hb => ?_) rfl (fun hb => ?_) k
  · rw [if_pos hb]
    exact de_op (de_var rfl) de_str (d2_addStr (by omega))
  · rw [hb]
    rfl
theorem body_names {K : PySem.W.Frag} {c : Cs} {E : XK} {a : Addr} {D : ErrC} (X : ErrOk K c D) : ∀ ds o, R_names a D ds o → DS K E (t_names K c (c.at D) a) (slots 2 ds) o.post := by
  rintro _ _ ⟨rfl, rfl⟩
  refine q_set de_str rfl ?_
  show DS K E _ [.val (rawD a), .val (.str "")] _
  refine names_if (X.isa .wish) (by decide +kernel) (by decide +kernel) ?_
  refine names_if (X.isa .price) (by cases D <;> decide +kernel) (by decide +kernel) ?_
  refine names_if (X.isa .pieces) (by cases D <;> decide +kernel) (by decide +kernel) ?_
  refine names_if (X.isa .uneven) (by cases D <;> decide +kernel) (by decide +kernel) ?_
  refine names_if (X.isa .none) (by cases D <;> decide +kernel) (by decide +kernel) ?_
  refine names_if (X.isa .unread) (by cases D <;> decide +kernel) (by decide +kernel) ?_
  refine q_guard (dt_to (dt_not (dt_B (de_isT (de_var rfl) X.val))) rfl) ?_
  refine ds_ret (de_var rfl) (post_ret ?_)
  refine congrArg (fun s => Out.ret (.str s)) ?_
  cases D <;> decide +kernel
/-! ### try -/
section
variable {K : PySem.W.Frag} {E : XK} {es : List Slot} {P : Post} {ta : TA} {i : Nat} {xs : List PyData} {R : List PyData → Out → Prop} {CB : Addr} {ts : Addr → Value → Option Addr → TS} {Wout : WX}
/-- what is behind a suite: the error's name is gone -/
def Post.gone (P : Post) (i : Nat) : Post := { nx := fun es' => P.nx (es'.set i .no), rt := P.rt, bk := fun es' => P.bk (es'.set i .no), ct := fun es' => P.ct (es'.set i .no), ex := P.ex }
theorem At.drop {F0 H0 F H : Hp} {σ : L2.St} (A : At K F0 H0 F H σ es) : At K F0 H0 F H (σ.set i none) (es.set i .no) :=
  ⟨A.f00, A.f0, A.h0, A.fh, A.fresh, by rw [List.length_set, List.length_set]; exact A.len, fun j d q => by
    by_cases z : i = j
    · subst z
      cases get_set_at q
    · rw [get_set_ne z] at q ⊢
      exact A.val j d q, fun j ys q => by
    by_cases z : i = j
    · subst z
      cases get_set_at q
    · rw [get_set_ne z] at q ⊢
      exact A.own j ys q, fun j k ys zs a q1 q2 q3 q4 => by
    by_cases z : i = j
    · subst z
      cases get_set_at q1
    · by_cases z2 : i = k
      · subst z2
        cases get_set_at q2
      · rw [get_set_ne z] at q1 q3
        rw [get_set_ne z2] at q2 q4
        exact A.sep j k ys zs a q1 q2 q3 q4⟩
/-- try: BODY except C as e: SUITE (e in slot i) -/
def tTry (K : PySem.W.Frag) (c : Value) (i : Nat) (tb : WX → TS) (ts : Addr → Value → Option Addr → TS) : TS := fun D σ H => tb (wAs K c i ts (fun _ _ _ _ => False) D) D σ H
/-- the call raises: the suite runs -/
theorem try_exc {C : Addr} {g : TE → TS} (ha : DA K ta (see es) xs) (hr : R xs (.exc C)) (hm : PySem.W.exmOne K (.ref C) (.ref CB) = some true)
    (hg : ∀ te D σ H, (∀ Q : VK, te σ H Q) → g te D σ H) (hs : ∀ a : Addr, DS K E (ts a (.ref C) none) (es.set i (.val (rawD a))) (P.gone i)) :
    DS K E (tTry K (.ref CB) i (fun W => g (tCallS (spD K R) (WE W) ta)) ts) es P := fun F0 H0 F H σ D A M => by
  refine hg _ _ _ _ fun Q => ?_
  refine ha _ σ A.envV H A.seen2 _ fun vs H1 e1 rs => ?_
  refine ⟨Grow (Grow F0 H0 H) H H1, xs, .exc C, grow_ex2 A.seen2 e1, rs, hr, (fun d v H' q => by cases q), fun C' H2 q e2 => ?_⟩
  cases q
  refine ⟨true, hm, fun _ a na => ?_, fun z => by cases z⟩
  have A2 : At K F0 H0 F H2 σ es := (A.grow e1).grow e2
  refine hs a F0 H0 F H2 _ _ (A2.set (.raw a)) ⟨fun F' H' σ' es' x A' q => ?_, fun F' H' σ' es' x A' q => ?_, fun F' H' σ' es' x A' q => ?_, M.rt, M.ex⟩
  · exact M.nx F' H' _ _ x A'.drop q
  · exact M.bk F' H' _ _ x A'.drop q
  · exact M.ct F' H' _ _ x A'.drop q
theorem ds_tryX_drop {C : Addr} (ha : DA K ta (see es) xs) (hr : R xs (.exc C)) (hm : PySem.W.exmOne K (.ref C) (.ref CB) = some true) (hs : ∀ a : Addr, DS K E (ts a (.ref C) none) (es.set i (.val (rawD a))) (P.gone i)) :
    DS K E (tTry K (.ref CB) i (fun W => tDrop (tCallS (spD K R) (WE W) ta)) ts) es P := try_exc (g := tDrop) ha hr hm (fun te D σ H h => h _) hs
theorem ds_tryX_asg {C : Addr} {g : TG} (ha : DA K ta (see es) xs) (hr : R xs (.exc C)) (hm : PySem.W.exmOne K (.ref C) (.ref CB) = some true) (hs : ∀ a : Addr, DS K E (ts a (.ref C) none) (es.set i (.val (rawD a))) (P.gone i)) :
    DS K E (tTry K (.ref CB) i (fun W => tAsg (tCallS (spD K R) (WE W) ta) g) ts) es P := try_exc (g := fun te => tAsg te g) ha hr hm (fun te D σ H h => h _) hs
/-- no error comes -/
theorem ds_try_drop {d : PyData} (ha : DA K ta (see es) xs) (hr : R xs (.ret d)) (k : P.nx es) : DS K E (tTry K (.ref CB) i (fun W => tDrop (tCallS (spD K R) (WE W) ta)) ts) es P := fun F0 H0 F H σ D A M => by
  refine ha _ σ A.envV H A.seen2 _ fun vs H1 e1 rs => ?_
  refine ⟨Grow (Grow F0 H0 H) H H1, xs, .ret d, grow_ex2 A.seen2 e1, rs, hr, fun d' v H' q e2 r => ?_, fun C' H2 q => by cases q⟩
  exact M.nx F H' σ es exr ((A.grow e1).grow e2) k
theorem ds_try_let {d : PyData} {j : Nat} (ha : DA K ta (frz es) xs) (hr : R xs (.ret d)) (k : P.nx (es.set j (.val d))) : DS K E (tTry K (.ref CB) i (fun W => tAsg (tCallS (spD K R) (WE W) ta) (gName j)) ts) es P := fun F0 H0 F H σ D A M => by
  refine ha _ σ A.envF H A.fh _ fun vs H1 e1 rs => ?_
  refine ⟨Grow F H H1, xs, .ret d, grow_ex2 A.fh e1, rs, hr, fun d' v H' q e2 r => ?_, fun C' H2 q => by cases q⟩
  cases q
  exact M.nx _ H' _ _ (Evl.Ex.trans (grow_ex1 A.fh) (grow_ex1 (grow_ex2 A.fh e1))) (((A.keep e1).keep e2).set r) k
end
end VS

namespace VS
open PySem L2 VS
open Evl (Ex)
def wholeIn (d : PyData) (lo hi : Int) : Bool := match d with
  | .int i => decide (lo ≤ i) && decide (i ≤ hi)
  | _ => false
theorem wholeIn_int {i lo hi : Int} : wholeIn (.int i) lo hi = (decide (lo ≤ i) && decide (i ≤ hi)) := rfl
theorem wholeIn_no {i lo hi : Int} (h : i < lo ∨ hi < i) : wholeIn (.int i) lo hi = false := by
  rw [wholeIn_int]
  rcases h with h | h
  · rw [decide_eq_false (p := lo ≤ i) (by omega)]
    rfl
  · rw [decide_eq_false (p := i ≤ hi) (by omega), Bool.and_false]
theorem wholeIn_yes {i lo hi : Int} (h : lo ≤ i ∧ i ≤ hi) : wholeIn (.int i) lo hi = true := by
  rw [wholeIn_int, decide_eq_true h.1, decide_eq_true h.2]
  rfl
theorem wholeIn_not {d : PyData} {lo hi : Int} (h : isInt d = false) : wholeIn d lo hi = false := by
  cases d <;> first | rfl | cases h
def R_whole_within (c : Cs) (ds : List PyData) (o : Out) : Prop := ∃ d lo hi, ds = [d, .int lo, .int hi] ∧ o = .ret (.bool (wholeIn d lo hi)) ∧ notScr d = true
-- slots of whole_within: 0 thing 1 low 2 high
def t_whole_within (K : PySem.W.Frag) (c : Cs) (E : XK) : TS :=
  (tRet (tAndV (tCB (rIsi K) (tCons (tVar 0) (tCons (tC (.ty "int")) tNil))) (tAndV (tNotV (tCB (rIsi K) (tCons (tVar 0) (tCons (tC (.ty "bool")) tNil)))) (tChain rLeI rLeI (tVar 1) (tVar 0) (tVar 2)))))
theorem len_whole_within {c : Cs} : ∀ ds o, R_whole_within c ds o → ds.length = 3 := by
  intro ds o h
  grind (ematch := 14) (gen := 20) [R_whole_within]
theorem body_whole_within {K : PySem.W.Frag} {c : Cs} {E : XK} : ∀ ds o, R_whole_within c ds o → DS K E (t_whole_within K c E) (slots 3 ds) o.post := by
  rintro _ _ ⟨d, lo, hi, rfl, rfl, hn⟩
  unfold t_whole_within
  cases hi0 : isInt d with
  | true =>
    cases d with
    | int i =>
      apply VS.ds_ret
      · walk_at "ev"
      · exact VS.post_ret rfl
    | _ => cases hi0
  | false =>
    apply VS.ds_ret (d := .bool ((tyD d == "int" || tyD d == "bool") && (!(tyD d == "bool") && false)))
    · apply VS.de_andV
      · exact VS.de_isiU (VS.de_var rfl) hn (kit_int d)
      · intro h1
        apply VS.de_andV
        · apply VS.de_notV
          exact VS.de_isiU (VS.de_var rfl) hn (kit_bool d)
        · intro h2
          have h := isInt_ty d
          rw [h1, h2, hi0] at h
          cases h
    · refine VS.post_ret ?_
      rw [wholeIn_not hi0, Bool.and_false, Bool.and_false]

def sideOk : PyData → Bool
  | .str s => decide (s ∈ [("buy" : Str), "sell"])
  | _ => false
/-- a wish -/
def goodD : PyData → Bool
  | .tuple [s, l, a] => sideOk s && (wholeIn l 0 1000000000 && wholeIn a 1 1000000)
  | _ => false
theorem goodD_3 {s l a : PyData} : goodD (.tuple [s, l, a]) = (sideOk s && (wholeIn l 0 1000000000 && wholeIn a 1 1000000)) := rfl
theorem sideOk_str {s : Str} : sideOk (.str s) = decide (s ∈ [("buy" : Str), "sell"]) := rfl
def plainT : PyData → Bool
  | .tuple xs => xs.all notScr
  | d => notScr d
def R_checked (c : Cs) (ds : List PyData) (o : Out) : Prop := ∃ d, ds = [d] ∧ o = (if goodD d = true then .ret d else .exc c.BadWish) ∧ plainT d = true
theorem tuple_ty {d : PyData} (h : (tyD d == "tuple") = true) : ∃ xs, d = .tuple xs := by
  cases d with
  | tuple xs => exact ⟨xs, rfl⟩
  | dict kvs => cases kvs <;> simp [tyD] at h
  | _ => simp [tyD] at h
theorem str_ty {d : PyData} (h : (tyD d == "str") = true) : ∃ s, d = .str s := by
  cases d with
  | str xs => exact ⟨xs, rfl⟩
  | dict kvs => cases kvs <;> simp [tyD] at h
  | _ => simp [tyD] at h
theorem plain_not {d : PyData} (h : plainT d = true) : notScr d = true := by
  cases d with
  | tuple xs => rfl
  | _ => exact h
-- slots of checked: 0 thing
def t_checked (K : PySem.W.Frag) (c : Cs) (E : XK) : TS :=
  (tSeq (tIfS (tOr (tNot (tB (tCB (rIsi K) (tCons (tVar 0) (tCons (tC (.ty "tuple")) tNil))))) (tTest (tOp rNe (tCB (rLenSq K) (tCons (tVar 0) tNil)) (tC (.int 3))))) (tRse E c.BadWish) tNext)
    (tSeq (tIfS (tOr (tNot (tB (tCB (rIsi K) (tCons (tOp (rIxT K) (tVar 0) (tC (.int 0))) (tCons (tC (.ty "str")) tNil))))) (tTest (tOp (rIn K true) (tOp (rIxT K) (tVar 0) (tC (.int 0))) (tTup (tCons (tC (.str "buy")) (tCons (tC (.str "sell")) tNil)))))) (tRse E c.BadWish) tNext)
    (tSeq (tIfS (tOr (tNot (tB (tCall (spD K (R_whole_within c)) [] E0 (tCons (tOp (rIxT K) (tVar 0) (tC (.int 1))) (tCons (tC (.int 0)) (tCons (tC (.int 1000000000)) tNil)))))) (tNot (tB (tCall (spD K (R_whole_within c)) [] E0 (tCons (tOp (rIxT K) (tVar 0) (tC (.int 2))) (tCons (tC (.int 1)) (tCons (tC (.int 1000000)) tNil))))))) (tRse E c.BadWish) tNext)
    (tRet (tVar 0)))))
theorem len_checked {c : Cs} : ∀ ds o, R_checked c ds o → ds.length = 1 := by
  rintro _ _ ⟨d, rfl, _⟩
  rfl
theorem body_checked {K : PySem.W.Frag} {c : Cs} {E : XK} : ∀ ds o, R_checked c ds o → DS K E (t_checked K c E) (slots 1 ds) o.post := by
  rintro _ o ⟨d, rfl, ho, hp⟩
  unfold t_checked
  by_cases hg : ∃ s l a, d = .tuple [s, l, a]
  · obtain ⟨s, l, a, rfl⟩ := hg
    have hp' : notScr s = true ∧ notScr l = true ∧ notScr a = true := by
      simpa [plainT] using hp
    apply VS.q_guard
    · refine VS.dt_to (b := !true || false) ?_ rfl
      apply VS.dt_or
      · apply VS.dt_not
        apply VS.dt_B
        exact VS.de_isiU (VS.de_var rfl) rfl VS.kit_t_t
      · intro _
        refine VS.dt_to (b := !decide (((([s, l, a] : List PyData).length : Nat) : Int) = 3)) ?_ (by simp)
        walk_at "ev"
    by_cases hs : (tyD s == "str") = true
    · obtain ⟨s, rfl⟩ := str_ty hs
      have hin : DT K (tTest (tOp (rIn K true) (tOp (rIxT K) (tVar 0) (tC (.int 0))) (tTup (tCons (tC (.str "buy")) (tCons (tC (.str "sell")) tNil))))) (see (slots 1 [.tuple [.str s, l, a]])) (!decide (s ∈ [("buy" : Str), "sell"])) := by
        apply VS.dt_test
        apply VS.de_op
        · walk_at "ev"
        · walk_at "ev"
        · exact VS.d2_inT (ss := ["buy", "sell"]) (neg := true)
      by_cases hm : s ∈ [("buy" : Str), "sell"]
      · apply VS.q_guard
        · refine VS.dt_to (b := !true || !decide (s ∈ [("buy" : Str), "sell"])) ?_ (by rw [decide_eq_true hm]; rfl)
          apply VS.dt_or
          · walk_at "ev"
          · intro _
            exact hin
        apply VS.q_if (b := !wholeIn l 0 1000000000 || !wholeIn a 1 1000000)
        · apply VS.dt_orU
          · apply VS.dt_not
            apply VS.dt_B
            apply VS.de_call
            · walk_at "ev"
            · exact ⟨l, 0, 1000000000, rfl, rfl, hp'.2.1⟩
          · apply VS.dt_not
            apply VS.dt_B
            apply VS.de_call
            · walk_at "ev"
            · exact ⟨a, 1, 1000000, rfl, rfl, hp'.2.2⟩
        · intro hb
          refine VS.ds_raise ?_
          have e : goodD (.tuple [.str s, l, a]) = false := by
            rw [goodD_3, sideOk_str]
            cases h1 : wholeIn l 0 1000000000 <;> cases h2 : wholeIn a 1 1000000 <;> simp [h1, h2] at hb ⊢
          rw [e] at ho
          exact ho
        · intro hb
          apply VS.ds_ret
          · walk_at "ev"
          · have e : goodD (.tuple [.str s, l, a]) = true := by
              rw [goodD_3, sideOk_str, decide_eq_true hm]
              cases h1 : wholeIn l 0 1000000000 <;> cases h2 : wholeIn a 1 1000000 <;> simp [h1, h2] at hb ⊢
            rw [e] at ho
            exact VS.post_ret ho
      · refine VS.q_if (b := true) ?_ (fun _ => VS.ds_raise ?_) fun z => by cases z
        · refine VS.dt_to (b := !true || !decide (s ∈ [("buy" : Str), "sell"])) ?_ (by rw [decide_eq_false hm]; rfl)
          apply VS.dt_or
          · walk_at "ev"
          · intro _
            exact hin
        · have e : goodD (.tuple [.str s, l, a]) = false := by
            rw [goodD_3, sideOk_str, decide_eq_false hm]
            rfl
          rw [e] at ho
          exact ho
    · have hs' : (tyD s == "str") = false := by simpa using hs
      refine VS.q_if (b := true) ?_ (fun _ => VS.ds_raise ?_) fun z => by cases z
      · refine VS.dt_to (b := !(tyD s == "str") || false) ?_ (by rw [hs']; rfl)
        apply VS.dt_or
        · apply VS.dt_not
          apply VS.dt_B
          refine VS.de_isiU ?_ hp'.1 (kit_str s)
          walk_at "ev"
        · intro z
          rw [hs'] at z
          cases z
      · have e : goodD (.tuple [s, l, a]) = false := by
          rw [goodD_3]
          have : sideOk s = false := by
            cases s with
            | str s => simp [tyD] at hs'
            | _ => rfl
          rw [this]
          rfl
        rw [e] at ho
        exact ho
  · have e : goodD d = false := by
      unfold goodD
      split
      · exact absurd ⟨_, _, _, rfl⟩ hg
      · rfl
    rw [e] at ho
    refine VS.q_if (b := true) ?_ (fun _ => VS.ds_raise ho) fun z => by cases z
    by_cases ht : (tyD d == "tuple") = true
    · obtain ⟨xs, rfl⟩ := tuple_ty ht
      have hl : ¬ ((xs.length : Nat) : Int) = 3 := fun q => by
        match xs, q with
        | [s, l, a], _ => exact hg ⟨s, l, a, rfl⟩
        | [], q => simp at q
        | [_], q => simp at q
        | [_, _], q => simp at q
        | _ :: _ :: _ :: _ :: r, q => simp at q; omega
      refine VS.dt_to (b := !true || !decide (((xs.length : Nat) : Int) = 3)) ?_ (by rw [decide_eq_false hl]; rfl)
      apply VS.dt_or
      · apply VS.dt_not
        apply VS.dt_B
        exact VS.de_isiU (VS.de_var rfl) rfl VS.kit_t_t
      · intro _
        walk_at "ev"
    · have ht' : (tyD d == "tuple") = false := by simpa using ht
      refine VS.dt_to (b := !(tyD d == "tuple") || false) ?_ (by rw [ht']; rfl)
      apply VS.dt_or
      · apply VS.dt_not
        apply VS.dt_B
        exact VS.de_isiU (VS.de_var rfl) (plain_not hp) (kit_tuple d)
      · intro z
        rw [ht'] at z
        cases z

/-! texts -/
abbrev rIntStr : List V → Hp → VK → Prop := fun xs H Q => ∃ a n, xs = [.str a] ∧ PySem.intText? a = some n ∧ a.length ≤ 640 ∧ Q (.int n) H
abbrev rStrInt : List V → Hp → VK → Prop := fun xs H Q => ∃ i, xs = [.int i] ∧ i.natAbs.log2 < 1920 ∧ Q (.str (toString i)) H
abbrev rNotInSign : R2 := fun x y H Q => ∃ (c : Nat) (z : Str), x = .str ⟨#[c]⟩ ∧ y = .str z ∧ Q (.bl (!decide (c ∈ z.cps.toList))) H
abbrev rSplit : V → List V → Hp → VK → Prop := fun x xs H Q => ∃ a b, x = .str a ∧ xs = [.str b] ∧ (b.length == 0) = false ∧ a.length + 2 ≤ sizeLine ∧ rNewStrs (Txt.split a b) H Q
theorem dc_intStr {K : PySem.W.Frag} {a : Str} {n : Int} (h : PySem.intText? a = some n) (hl : a.length ≤ 640) : DC K rIntStr [.str a] (.int n) := fun B H vs e r Q k => by
  cases r with
  | cons x r =>
    cases r
    rw [x.str_eq]
    exact ⟨a, n, rfl, h, hl, k _ H exr (.int _)⟩
theorem dc_strInt {K : PySem.W.Frag} {i : Int} (h : i.natAbs.log2 < 1920) : DC K rStrInt [.int i] (.str (toString i)) := fun B H vs e r Q k => by
  cases r with
  | cons x r =>
    cases r
    rw [x.int_eq]
    exact ⟨i, rfl, h, k _ H exr (.str _)⟩
theorem d2_notInSign {K : PySem.W.Frag} {c : Nat} {z : Str} : D2 K rNotInSign (.str ⟨#[c]⟩) (.str z) (.bool (!decide (c ∈ z.cps.toList))) := fun B H v u e rv ru Q k =>
  ⟨c, z, rv.str_eq, ru.str_eq, k _ H exr (.bl _)⟩
theorem rep_strs {K : PySem.W.Frag} {H : Hp} : ∀ ys : List Str, RepAll K H (ys.map V.str) (ys.map PyData.str)
  | [] => .nil
  | y :: ys => .cons (.str y) (rep_strs ys)
theorem dn_split {K : PySem.W.Frag} {ds : List (Option PyData)} {ta tb : TE} {a b : Str} (ha : DE K ta ds (.str a)) (hb : DE K tb ds (.str b)) (h0 : (b.length == 0) = false) (hl : a.length + 2 ≤ 100000) : DN K (tM1 rSplit ta tb) ds ((Txt.split a b).map PyData.str) := fun B σ en H e Q k =>
  ha B σ en H e _ fun v H1 e1 r => ⟨⟨a, r.str_eq⟩, hb B σ en H1 (e.trans e1) _ fun w H2 e2 r2 => ⟨a, b, r.str_eq, by rw [r2.str_eq], h0, len_ok hl, fun p hp => by
    have e12 : Ex H H2 := e1.trans e2
    have hp0 := Ex.ne e12 hp
    exact k p _ _ (e12.trans (upd_ex hp)) hp0 upd_same (rep_strs _)⟩⟩
/-- the signs of a text, one after the other -/
theorem for_str {x : Str} {g : TG} {tb : TS} {D : Ends} {σ : L2.St} {H : Hp} (Pv : Nat → L2.St → Hp → Prop) (h0 : Pv 0 σ H)
    (hs : ∀ i c σ H, x.cps[i]? = some c → Pv i σ H → g (.str ⟨#[c]⟩) σ H fun σ2 H2 => tb { D with nx := Pv (i + 1), ct := Pv (i + 1), bk := D.nx } σ2 H2) (hd : ∀ σ H, Pv x.cps.size σ H → D.nx σ H) :
    ∃ W : Nat → Nat → L2.St → Hp → Prop, (∃ m, W 0 m σ H) ∧ ∀ i m σ H, W i m σ H →
      ((Its x).stop i H ∧ D.nx σ H) ∨ ((Its x).go i H ∧ ∃ N : L2.St → Hp → Prop, (∀ σ' H', N σ' H' → ∃ m', m' < m ∧ W (i + 1) m' σ' H') ∧ ∀ v H', (Its x).yld i H v H' → g v σ H' fun σ2 H2 => tb { D with nx := N, ct := N, bk := D.nx } σ2 H2) := by
  refine ⟨fun i m σ H => m = x.cps.size - i ∧ i ≤ x.cps.size ∧ Pv i σ H, ⟨x.cps.size, by simp, Nat.zero_le _, h0⟩, ?_⟩
  rintro i m σ H ⟨rfl, hi, p⟩
  by_cases hlt : i < x.cps.size
  · refine .inr ⟨hlt, Pv (i + 1), fun σ' H' p' => ⟨x.cps.size - (i + 1), by omega, rfl, hlt, p'⟩, fun v H' y => ?_⟩
    obtain ⟨e, c, hc, ev⟩ := y
    subst e
    subst ev
    exact hs i c σ _ hc p
  · have e : i = x.cps.size := by omega
    subst e
    exact .inl ⟨Nat.le_refl _, hd σ H p⟩
theorem ds_forS {K : PySem.W.Frag} {E : XK} {es : List Slot} {P : Post} {tl : TE} {tb : TS} {j : Nat} {x : Str} (W : Nat → List Slot → Prop) (h : DE K tl (frz es) (.str x)) (h0 : W 0 es) (hs : ∀ k c es', x.cps.toList[k]? = some c → W k es' → DS K E tb (es'.set j (.val (.str ⟨#[c]⟩))) { P with nx := W (k + 1), ct := W (k + 1), bk := P.nx }) (hd : ∀ es', W x.cps.toList.length es' → P.nx es') :
    DS K E (tFor (iStr tl) (gName j) tb) es P := fun F0 H0 F H σ D A M => by
  refine h _ σ A.envF H A.fh _ fun v H1 e1 r => ⟨x, r.str_eq, ?_⟩
  refine for_str (x := x) (fun k σ' H' => ∃ F' es', Ex (Grow F H H1) F' ∧ At K F0 H0 F' H' σ' es' ∧ W k es') ⟨_, es, exr, A.keep e1, h0⟩ ?_ ?_
  · rintro k c σ' H' hk ⟨F', es', e', A', w⟩
    have mf : Ex F F' := Evl.Ex.trans (grow_ex1 A.fh) e'
    exact hs k c es' (by rw [Array.getElem?_toList]; exact hk) w F0 H0 F' H' _ _ (A'.set (.str _)) ⟨fun F2 H2 σ2 es2 x A2 q => ⟨F2, es2, e'.trans x, A2, q⟩, fun F2 H2 σ2 es2 x A2 q => M.nx F2 H2 σ2 es2 (mf.trans x) A2 q, fun F2 H2 σ2 es2 x A2 q => ⟨F2, es2, e'.trans x, A2, q⟩, M.rt, M.ex⟩
  · rintro σ' H' ⟨F', es', e', A', w⟩
    exact M.nx F' H' σ' es' (Evl.Ex.trans (grow_ex1 A.fh) e') A' (hd es' (by rw [Array.length_toList]; exact w))
/-- a part of a text -/
theorem de_slS {K : PySem.W.Frag} {ds : List (Option PyData)} {te : TE} {tl th : TO} {lo hi : Option Int} {z : Str} (h : DE K te ds (.str z)) (h1 : DO K tl ds lo) (h2 : DO K th ds hi) (hz : z.length ≤ 100000) : DE K (tSl rSlS te tl th) ds (.str (cutS z lo hi)) := fun B σ en H e Q k =>
  h B σ en H e _ fun v H1 e1 r => h1 B σ en H1 (e.trans e1) _ fun H2 e2 => h2 B σ en H2 ((e.trans e1).trans e2) _ fun H3 e3 =>
    ⟨z, r.str_eq, len_ok hz, k _ H3 (e1.trans (e2.trans e3)) (.str _)⟩
/-- a text, so many times -/
def repS (z : Str) (n : Nat) : Str := if n = 0 then Str.empty else if n = 1 then z else ⟨(List.replicate n z.cps).foldl (· ++ ·) #[]⟩
def rRepStr : R2 := fun x y H Q => ∃ z, ∃ n : Nat, x = .str z ∧ y = .int (n : Int) ∧ n ≤ 1000 ∧ 1 ≤ z.length ∧ z.length ≤ 10 ∧ Q (.str (repS z n)) H
theorem fold_size (a : Array Nat) : ∀ (n : Nat) (acc : Array Nat), ((List.replicate n a).foldl (· ++ ·) acc).size = acc.size + n * a.size
  | 0, acc => by simp
  | n + 1, acc => by
    rw [List.replicate_succ, List.foldl_cons, fold_size a n, Array.size_append, Nat.succ_mul]
    omega
theorem rep_len (z : Str) (n : Nat) : (repS z n).length ≤ n * z.length := by
  unfold repS
  split
  · exact Nat.zero_le _
  · split
    · rename_i h
      rw [h, Nat.one_mul]
      exact Nat.le_refl _
    · show Array.size _ ≤ n * z.cps.size
      rw [fold_size]
      simp
theorem op_rep_str {X : Cx} : OpR X (binaryOp .Mult) rRepStr := by
  intro pins s σ H x y v u Q I rx ry h
  obtain ⟨z, n, rfl, rfl, h1, h2, h3, q⟩ := h
  obtain ⟨t, rfl⟩ := rx
  obtain ⟨t', rfl⟩ := ry
  have hm : z.length * n ≤ 10 * 1000 := Nat.mul_le_mul h3 h1
  have hok : z.length * n ≤ sizeLine := len_ok (by omega)
  have hz : (z.length == 0) = false := by
    rw [beq_eq_false_iff_ne]
    omega
  refine PySem.P.mul_str ?_ (fun g1 g2 => ?_) (fun g1 g2 => ?_) ?_
  · rw [decide_eq_false (by omega), decide_eq_false (by omega)]
    rfl
  · have q1 : (2 : Int) ^ 63 - 1 = 9223372036854775807 := by decide
    rw [q1]
    have q2 : (1000 : Int) * (n : Int) ≤ 9223372036854775807 := by omega
    have q3 : (1000 : Int) ≤ 9223372036854775807 / (n : Int) := (Int.le_ediv_iff_mul_le (by omega)).mpr q2
    omega
  · show decide (z.length * ((n : Int)).toNat > sizeLine) = false
    rw [Int.toNat_natCast, decide_eq_false (by omega)]
  · unfold repS at q
    rw [hz, Bool.or_false]
    by_cases e0 : n = 0
    · rw [if_pos e0] at q
      rw [if_pos (by omega)]
      exact ⟨by decide, ⟨.str Str.empty, H, I.tok _, ⟨_, rfl⟩, q⟩⟩
    · rw [if_neg e0] at q
      rw [if_neg (by omega)]
      by_cases e1 : n = 1
      · rw [if_pos e1] at q
        rw [if_pos (by rw [e1]; rfl)]
        exact ⟨.str z, H, I, ⟨_, rfl⟩, q⟩
      · rw [if_neg e1] at q
        rw [if_neg (by simp; omega)]
        have en : ((n : Int)).toNat = n := Int.toNat_natCast n
        rw [en]
        refine ⟨?_, ⟨.str ⟨(List.replicate n z.cps).foldl (· ++ ·) #[]⟩, H, I.tok _, ⟨_, rfl⟩, q⟩⟩
        show Array.size _ ≤ sizeLine
        rw [fold_size]
        have : n * z.cps.size = z.length * n := Nat.mul_comm _ _
        simp
        omega
theorem d2_repStr {K : PySem.W.Frag} {z : Str} {n : Nat} (h1 : n ≤ 1000) (h2 : 1 ≤ z.length) (h3 : z.length ≤ 10) : D2 K rRepStr (.str z) (.int (n : Int)) (.str (repS z n)) := fun B H v u e rv ru Q k =>
  ⟨z, n, rv.str_eq, ru.int_eq, h1, h2, h3, k _ H exr (.str _)⟩

open TL
def shownS (b : Bool) (l a : Int) : Str := (((sideS b ++ (" " : Str)) ++ ((toString a : String) : Str)) ++ (" at " : Str)) ++ ((toString l : String) : Str)
theorem small_log {i : Int} (h0 : 0 ≤ i) (h1 : i ≤ 1000000000) : i.natAbs.log2 < 1920 := by
  have h : i.natAbs < 2 ^ 30 := by
    have : (2 : Nat) ^ 30 = 1073741824 := by decide
    omega
  by_cases z : i.natAbs = 0
  · rw [z]
    decide
  · have := (Nat.log2_lt z).mpr h
    omega
theorem toStr_len {i : Int} (h0 : 0 ≤ i) (h1 : i ≤ 1000000000) : ((toString i : String) : Str).length ≤ 10 := by
  obtain ⟨n, rfl⟩ : ∃ n : Nat, i = (n : Int) := ⟨i.toNat, by omega⟩
  show (Str.ofString (toString ((n : Nat) : Int))).length ≤ 10
  rw [len_tl, tl_num]
  exact numL_len (by decide) (by omega)
theorem str_app_len (x y : Str) : (x ++ y).length = x.length + y.length := by
  rw [len_tl, len_tl, len_tl, tl_append, List.length_append]
theorem side_len (b : Bool) : (sideS b).length ≤ 4 := by cases b <;> decide +kernel
theorem blank_len : ((" " : Str)).length = 1 := by decide +kernel
theorem at_len : ((" at " : Str)).length = 4 := by decide +kernel
theorem shownS_len {b : Bool} {l a : Int} (l0 : 0 ≤ l) (l1 : l ≤ 1000000000) (a0 : 0 ≤ a) (a1 : a ≤ 1000000000) : (shownS b l a).length ≤ 40 := by
  unfold shownS
  rw [str_app_len, str_app_len, str_app_len, str_app_len, blank_len, at_len]
  have := side_len b
  have := toStr_len l0 l1
  have := toStr_len a0 a1
  omega
def R_shown (c : Cs) (ds : List PyData) (o : Out) : Prop := ∃ b l a, ds = [.tuple [.str (sideS b), .int l, .int a]] ∧ o = .ret (.str (shownS b l a)) ∧ 0 ≤ l ∧ l ≤ 1000000000 ∧ 0 ≤ a ∧ a ≤ 1000000000
-- slots of shown: 0 wish
def t_shown (K : PySem.W.Frag) (c : Cs) (E : XK) : TS :=
  (tRet (tOp rAddStr (tOp rAddStr (tOp rAddStr (tOp rAddStr (tOp (rIxT K) (tVar 0) (tC (.int 0))) (tC (.str " "))) (tCB rStrInt (tCons (tOp (rIxT K) (tVar 0) (tC (.int 2))) tNil))) (tC (.str " at "))) (tCB rStrInt (tCons (tOp (rIxT K) (tVar 0) (tC (.int 1))) tNil))))
theorem len_shown {c : Cs} : ∀ ds o, R_shown c ds o → ds.length = 1 := by
  intro ds o h
  grind (ematch := 14) (gen := 20) [R_shown]
theorem de_shown {K : PySem.W.Frag} {ds : List (Option PyData)} {t0 t1 t2 : TE} {b : Bool} {l a : Int} (l0 : 0 ≤ l) (l1 : l ≤ 1000000000) (a0 : 0 ≤ a) (a1 : a ≤ 1000000000) (h0 : DE K t0 ds (.str (sideS b))) (h1 : DE K t1 ds (.int a)) (h2 : DE K t2 ds (.int l)) : DE K (tOp rAddStr (tOp rAddStr (tOp rAddStr (tOp rAddStr t0 (tC (.str " "))) (tCB rStrInt (tCons t1 tNil))) (tC (.str " at "))) (tCB rStrInt (tCons t2 tNil))) ds (.str (shownS b l a)) := by
  unfold shownS
  have := side_len b
  have := toStr_len l0 l1
  have := toStr_len a0 a1
  have := blank_len
  have := at_len
  refine VS.de_op (VS.de_op (VS.de_op (VS.de_op h0 VS.de_str (VS.d2_addStr ?_)) (VS.de_cb (VS.da_cons h1 VS.da_nil) (dc_strInt (small_log a0 a1))) (VS.d2_addStr ?_)) VS.de_str (VS.d2_addStr ?_)) (VS.de_cb (VS.da_cons h2 VS.da_nil) (dc_strInt (small_log l0 l1))) (VS.d2_addStr ?_)
  · omega
  · rw [str_app_len]
    omega
  · rw [str_app_len, str_app_len]
    omega
  · rw [str_app_len, str_app_len, str_app_len]
    omega
theorem body_shown {K : PySem.W.Frag} {c : Cs} {E : XK} : ∀ ds o, R_shown c ds o → DS K E (t_shown K c E) (slots 1 ds) o.post := by
  rintro _ _ ⟨b, l, a, rfl, rfl, l0, l1, a0, a1⟩
  unfold t_shown
  apply VS.ds_ret
  · refine de_shown (b := b) l0 l1 a0 a1 ?_ ?_ ?_
    · walk_at "ev"
    · walk_at "ev"
    · walk_at "ev"
  · exact VS.post_ret rfl

def zeroB (w : Str) : Bool := decide ((⟨#[w.cps.toList.headD 0]⟩ : Str) = ("0" : Str))
def badLen (w : Str) : Bool := !(decide (1 ≤ ((w.length : Nat) : Int)) && decide (((w.length : Nat) : Int) ≤ 60)) || (zeroB w && decide (1 < ((w.length : Nat) : Int)))
def digB (c : Nat) : Bool := decide (c ∈ (("0123456789" : Str)).cps.toList)
def numOk (w : Str) : Bool := !badLen w && w.cps.toList.all digB
def numVal (w : Str) : Int := ((NumText.digitsVal w.cps.toList : Nat) : Int)
theorem digs_list : (("0123456789" : Str)).cps.toList = [48, 49, 50, 51, 52, 53, 54, 55, 56, 57] := by decide +kernel
theorem digB_iff {c : Nat} (h : digB c = true) : 48 ≤ c ∧ c ≤ 57 := by
  unfold digB at h
  rw [digs_list, decide_eq_true_eq] at h
  simp only [List.mem_cons, List.not_mem_nil, or_false] at h
  omega
theorem badLen_no {w : Str} (h : badLen w = false) : 1 ≤ w.length ∧ w.length ≤ 60 := by
  unfold badLen at h
  rw [Bool.or_eq_false_iff, Bool.not_eq_false', Bool.and_eq_true, decide_eq_true_eq, decide_eq_true_eq] at h
  omega
theorem int_digits {w : Str} (h : badLen w = false) (hd : w.cps.toList.all digB = true) : PySem.intText? w = some (numVal w) := by
  have hl := badLen_no h
  refine PySem.intText_digits (fun c hc => digB_iff (List.all_eq_true.mp hd c hc)) (fun e => ?_) (by omega)
  have : w.length = w.cps.toList.length := Array.length_toList.symm
  rw [e] at this
  simp at this
  omega
theorem head_at {w : Str} (h : 1 ≤ w.length) : atI w.cps.toList 0 = some (w.cps.toList.headD 0) := by
  have hl : w.length = w.cps.toList.length := Array.length_toList.symm
  rw [hl] at h
  generalize w.cps.toList = l at h
  cases l with
  | nil => exact absurd h (by decide)
  | cons a l =>
    show atI (a :: l) ((0 : Nat) : Int) = some a
    exact atI_nat (j := 0) rfl
theorem numVal_nonneg (w : Str) : 0 ≤ numVal w := Int.natCast_nonneg _
def R_number_of (c : Cs) (ds : List PyData) (o : Out) : Prop := ∃ w, ds = [.str w] ∧ o = (if numOk w = true then .ret (.int (numVal w)) else .exc c.Unread) ∧ w.length ≤ 90000
theorem num_good {c : Cs} {w : Str} (h : numOk w = true) (hl : w.length ≤ 90000) : R_number_of c [.str w] (.ret (.int (numVal w))) := ⟨w, rfl, by rw [if_pos h], hl⟩
theorem num_bad {c : Cs} {w : Str} (h : numOk w = false) (hl : w.length ≤ 90000) : R_number_of c [.str w] (.exc c.Unread) := ⟨w, rfl, by rw [if_neg (by rw [h]; decide)], hl⟩
-- slots of number_of: 0 word 1 sign
def t_number_of (K : PySem.W.Frag) (c : Cs) (E : XK) : TS :=
  (tSeq (tIfS (tOr (tNot (tTest (tChain rLeI rLeI (tC (.int 1)) (tCB rLenStr (tCons (tVar 0) tNil)) (tC (.int 60))))) (tAnd (tTest (tOp rEq (tOp rIxS (tVar 0) (tC (.int 0))) (tC (.str "0")))) (tTest (tOp rGtI (tCB rLenStr (tCons (tVar 0) tNil)) (tC (.int 1)))))) (tRse E c.Unread) tNext)
    (tSeq (tFor (iStr (tVar 0)) (gName 1) (tIfS (tTest (tOp rNotInSign (tVar 1) (tC (.str "0123456789")))) (tRse E c.Unread) tNext))
    (tRet (tCB rIntStr (tCons (tVar 0) tNil)))))
theorem len_number_of {c : Cs} : ∀ ds o, R_number_of c ds o → ds.length = 1 := by
  rintro _ _ ⟨w, rfl, _⟩
  rfl
theorem body_number_of {K : PySem.W.Frag} {c : Cs} {E : XK} : ∀ ds o, R_number_of c ds o → DS K E (t_number_of K c E) (slots 2 ds) o.post := by
  rintro _ o ⟨w, rfl, ho, hl⟩
  unfold t_number_of
  have hL : DE K (tCB rLenStr (tCons (tVar 0) tNil)) (see (slots 2 [PyData.str w])) (.int ((w.length : Nat) : Int)) := VS.de_cb (VS.da_cons (VS.de_var rfl) VS.da_nil) (VS.dc_lenS (by omega))
  apply VS.q_if (b := badLen w)
  · unfold badLen
    refine VS.dt_or (VS.dt_not (VS.dt_test (VS.de_chainU VS.de_int hL VS.de_int VS.d2_le VS.d2_le))) fun hb => ?_
    rw [Bool.not_eq_false', Bool.and_eq_true, decide_eq_true_eq] at hb
    refine VS.dt_andU (VS.dt_test (VS.de_op (VS.de_op (VS.de_var rfl) VS.de_int (VS.d2_ixS (by omega) (head_at (by omega)))) VS.de_str VS.d2_eqS)) (VS.dt_test (VS.de_op hL VS.de_int VS.d2_gt))
  · intro hb
    refine VS.ds_raise ?_
    unfold numOk at ho
    rw [hb] at ho
    exact ho
  intro hb
  apply VS.ds_seq
  apply ds_forS (x := w) (W := fun k es => (∃ s, es = [.val (.str w), s]) ∧ (w.cps.toList.take k).all digB = true)
  · exact VS.de_var rfl
  · exact ⟨⟨.no, rfl⟩, rfl⟩
  · rintro k ch _ hk ⟨⟨s, rfl⟩, hok⟩
    apply VS.ds_if (b := !digB ch)
    · exact VS.dt_test (VS.de_op (VS.de_var rfl) VS.de_str d2_notInSign)
    · intro hd
      refine VS.ds_raise ?_
      have e : numOk w = false := by
        unfold numOk
        rw [hb, Bool.not_false, Bool.true_and, List.all_eq_false]
        exact ⟨ch, List.mem_of_getElem? hk, by simpa using hd⟩
      rw [e] at ho
      exact ho
    · intro hd
      refine VS.ds_next ⟨⟨_, rfl⟩, ?_⟩
      rw [List.take_add_one, hk, List.all_append, hok]
      simpa using hd
  · rintro _ ⟨⟨s, rfl⟩, hok⟩
    rw [List.take_length] at hok
    have e : numOk w = true := by
      unfold numOk
      rw [hb, hok]
      rfl
    rw [if_pos e] at ho
    show DS K E _ _ _
    apply VS.ds_ret
    · exact VS.de_cb (VS.da_cons (VS.de_var rfl) VS.da_nil) (dc_intStr (int_digits hb hok) (by have := badLen_no hb; omega))
    · exact VS.post_ret ho

theorem spl_len {S : List Nat} : ∀ (l : List Nat) (k : Nat) (acc p : List Nat), p ∈ spl S k acc l → p.length ≤ acc.length + l.length
  | [], k, acc, p, h => by
    rw [spl_nil, List.mem_singleton] at h
    rw [h]
    exact Nat.le_add_right _ _
  | c :: r, 0, acc, p, h => by
    cases q : pre S (c :: r) with
    | true =>
      rw [spl_hit q] at h
      rcases List.mem_cons.mp h with e | e
      · rw [e]
        exact Nat.le_add_right _ _
      · have := spl_len r _ _ _ e
        simp at this ⊢
        omega
    | false =>
      rw [spl_miss q] at h
      have := spl_len r _ _ _ h
      simp at this ⊢
      omega
  | c :: r, k + 1, acc, p, h => by
    have h' : p ∈ spl S k acc r := h
    have := spl_len r _ _ _ h'
    simp at this ⊢
    omega
def wordsOf (line : Str) : List Str := Txt.split line (" " : Str)
theorem words_len {line w : Str} (h : w ∈ wordsOf line) : w.length ≤ line.length := by
  have e := split_spl line (" " : Str) (by decide +kernel) (kind_ok (by decide +kernel))
  have hm : tl w ∈ spl (tl (" " : Str)) 0 [] (tl line) := by
    rw [← e]
    exact List.mem_map_of_mem h
  have := spl_len _ _ _ _ hm
  rw [len_tl, len_tl line]
  simpa using this
def wdAt (line : Str) (k : Nat) : Str := (wordsOf line).getD k Str.empty
theorem wdAt_len (line : Str) (k : Nat) : (wdAt line k).length ≤ line.length := by
  unfold wdAt
  by_cases h : k < (wordsOf line).length
  · exact words_len (getD_mem h)
  · rw [List.getD_eq_getElem?_getD, List.getElem?_eq_none (by omega)]
    exact Nat.zero_le _
theorem wdAt_get {line : Str} {k : Nat} (h : k < (wordsOf line).length) : (wordsOf line)[k]? = some (wdAt line k) := by
  unfold wdAt
  rw [List.getD_eq_getElem?_getD, List.getElem?_eq_getElem h]
  rfl
def fourB (line : Str) : Bool := decide ((((wordsOf line).length : Nat) : Int) = 4)
def wordsOk (line : Str) : Bool := fourB line && (decide (wdAt line 0 ∈ [("buy" : Str), "sell"]) && decide (wdAt line 2 = ("at" : Str)))
def rangeOk (line : Str) : Bool := decide (0 ≤ numVal (wdAt line 3) ∧ numVal (wdAt line 3) ≤ 1000000000) && decide (1 ≤ numVal (wdAt line 1) ∧ numVal (wdAt line 1) ≤ 1000000)
/-- what is wrong with a line -/
def readK (line : Str) : Option ErrC := if (wordsOk line && (numOk (wdAt line 1) && numOk (wdAt line 3))) = true then (if rangeOk line = true then none else some .wish) else some .unread
def tupOf (line : Str) : PyData := .tuple [.str (wdAt line 0), .int (numVal (wdAt line 3)), .int (numVal (wdAt line 1))]
def readOut (c : Cs) (line : Str) : Out := match readK line with
  | none => .ret (tupOf line)
  | some e => .exc (c.at e)
theorem whole_int {i lo hi : Int} : wholeIn (.int i) lo hi = decide (lo ≤ i ∧ i ≤ hi) := by
  by_cases h : lo ≤ i ∧ i ≤ hi
  · rw [wholeIn_yes h, decide_eq_true h]
  · rw [wholeIn_no (by omega), decide_eq_false h]
theorem good_range {line : Str} (h : wordsOk line = true) : goodD (tupOf line) = rangeOk line := by
  unfold tupOf rangeOk
  rw [goodD_3, sideOk_str, whole_int, whole_int]
  unfold wordsOk at h
  rw [Bool.and_eq_true, Bool.and_eq_true] at h
  rw [h.2.1, Bool.true_and]
def R_read (c : Cs) (ds : List PyData) (o : Out) : Prop := ∃ line, ds = [.str line] ∧ o = readOut c line ∧ line.length ≤ 5000
-- slots of read: 0 line 1 words 2 amount
def t_read (K : PySem.W.Frag) (c : Cs) (E : XK) : TS :=
  (tSeq (tAsg (tM1 rSplit (tVar 0) (tC (.str " "))) (gName 1))
    (tSeq (tIfS (tOr (tTest (tOp rNe (tCB (rLenSq K) (tCons (tVar 1) tNil)) (tC (.int 4)))) (tOr (tTest (tOp (rIn K true) (tOp (rIxL K) (tVar 1) (tC (.int 0))) (tTup (tCons (tC (.str "buy")) (tCons (tC (.str "sell")) tNil))))) (tTest (tOp rNe (tOp (rIxL K) (tVar 1) (tC (.int 2))) (tC (.str "at")))))) (tRse E c.Unread) tNext)
    (tSeq (tAsg (tCall (spD K (R_number_of c)) [] E (tCons (tOp (rIxL K) (tVar 1) (tC (.int 1))) tNil)) (gName 2))
    (tRet (tCall (spD K (R_checked c)) [] E (tCons (tTup (tCons (tOp (rIxL K) (tVar 1) (tC (.int 0))) (tCons (tCall (spD K (R_number_of c)) [] E (tCons (tOp (rIxL K) (tVar 1) (tC (.int 3))) tNil)) (tCons (tVar 2) tNil)))) tNil))))))
theorem len_read {c : Cs} : ∀ ds o, R_read c ds o → ds.length = 1 := by
  rintro _ _ ⟨w, rfl, _⟩
  rfl
theorem body_read {K : PySem.W.Frag} {c : Cs} {E : XK} : ∀ ds o, R_read c ds o → DS K E (t_read K c E) (slots 3 ds) o.post := by
  rintro _ o ⟨line, rfl, ho, hl⟩
  unfold t_read
  have h0 := wdAt_len line 0
  have h1 := wdAt_len line 1
  have h3 := wdAt_len line 3
  apply VS.q_let (d := .list ((wordsOf line).map PyData.str))
  · exact VS.de_new (dn_split (VS.de_var rfl) VS.de_str (by decide +kernel) (by omega))
  apply VS.q_if (b := !wordsOk line)
  · unfold wordsOk
    refine VS.dt_to (b := !fourB line || (!decide (wdAt line 0 ∈ [("buy" : Str), "sell"]) || !decide (wdAt line 2 = ("at" : Str)))) (VS.dt_or ?_ fun hb => ?_) (by simp)
    · refine VS.dt_to (b := !decide (((((wordsOf line).map PyData.str).length : Nat) : Int) = 4)) ?_ (by rw [List.length_map]; rfl)
      walk_at "ev"
    · have hf : fourB line = true := by simpa using hb
      have hf4 : (((wordsOf line).length : Nat) : Int) = 4 := of_decide_eq_true hf
      have w0 := wdAt_get (line := line) (k := 0) (by omega)
      have w2 := wdAt_get (line := line) (k := 2) (by omega)
      refine VS.dt_orU (VS.dt_test (VS.de_op (x := .str (wdAt line 0)) (y := .tuple [.str "buy", .str "sell"]) ?_ ?_ (VS.d2_inT (ss := ["buy", "sell"]) (neg := true)))) (VS.dt_test (VS.de_op (x := .str (wdAt line 2)) ?_ VS.de_str VS.d2_neS))
      · exact VS.de_op (VS.de_var rfl) VS.de_int (VS.d2_ixL (VS.atI_mapI (n := 0) rfl w0))
      · walk_at "ev"
      · exact VS.de_op (VS.de_var rfl) VS.de_int (VS.d2_ixL (VS.atI_mapI (n := 2) rfl w2))
  · intro hb
    refine VS.ds_raise ?_
    have hb : wordsOk line = false := by simpa using hb
    have e : readK line = some .unread := by
      unfold readK
      rw [hb]
      rfl
    unfold readOut at ho
    rw [e] at ho
    exact ho
  intro hb
  have hw : wordsOk line = true := by simpa using hb
  have hf4 : (((wordsOf line).length : Nat) : Int) = 4 := by
    unfold wordsOk at hw
    rw [Bool.and_eq_true] at hw
    exact of_decide_eq_true hw.1
  have w0 := wdAt_get (line := line) (k := 0) (by omega)
  have w1 := wdAt_get (line := line) (k := 1) (by omega)
  have w3 := wdAt_get (line := line) (k := 3) (by omega)
  have hg := good_range hw
  by_cases n1 : numOk (wdAt line 1) = true
  · apply VS.q_set (d := .int (numVal (wdAt line 1)))
    · refine VS.de_call ?_ (num_good n1 (by omega))
      exact VS.da_cons (VS.de_op (VS.de_var rfl) VS.de_int (VS.d2_ixL (VS.atI_mapI (n := 1) rfl w1))) VS.da_nil
    · rfl
    have ha3 : DA K (tCons (tOp (rIxL K) (tVar 1) (tC (.int 3))) tNil) (see [.val (.str line), .val (.list ((wordsOf line).map PyData.str)), .val (.int (numVal (wdAt line 1)))]) [.str (wdAt line 3)] :=
      VS.da_cons (VS.de_op (VS.de_var rfl) VS.de_int (VS.d2_ixL (VS.atI_mapI (n := 3) rfl w3))) VS.da_nil
    by_cases n3 : numOk (wdAt line 3) = true
    · have harg : DA K (tCons (tTup (tCons (tOp (rIxL K) (tVar 1) (tC (.int 0))) (tCons (tCall (spD K (R_number_of c)) [] E (tCons (tOp (rIxL K) (tVar 1) (tC (.int 3))) tNil)) (tCons (tVar 2) tNil)))) tNil) (see [.val (.str line), .val (.list ((wordsOf line).map PyData.str)), .val (.int (numVal (wdAt line 1)))]) [tupOf line] := by
        unfold tupOf
        refine VS.da_cons (VS.de_tup (VS.da_cons (VS.de_op (VS.de_var rfl) VS.de_int (VS.d2_ixL (VS.atI_mapI (n := 0) rfl w0))) (VS.da_cons (VS.de_call ha3 (num_good n3 (by omega))) (VS.da_cons (VS.de_var rfl) VS.da_nil))) (Nat.le_of_ble_eq_true rfl)) VS.da_nil
      have hpl : plainT (tupOf line) = true := rfl
      by_cases hr : rangeOk line = true
      · have e : readK line = none := by
          unfold readK
          rw [hw, n1, n3, hr]
          rfl
        unfold readOut at ho
        rw [e] at ho
        apply VS.ds_ret
        · exact VS.de_call harg ⟨_, rfl, by rw [if_pos (by rw [hg]; exact hr)], hpl⟩
        · exact VS.post_ret ho
      · have e : readK line = some .wish := by
          unfold readK
          rw [hw, n1, n3, if_neg hr]
          rfl
        unfold readOut at ho
        rw [e] at ho
        apply VS.ds_retX
        · exact VS.dx_call harg ⟨_, rfl, by rw [if_neg (by rw [hg]; exact hr)], hpl⟩
        · exact ho
    · have n3' : numOk (wdAt line 3) = false := by simpa using n3
      have e : readK line = some .unread := by
        unfold readK
        rw [hw, n1, n3']
        rfl
      unfold readOut at ho
      rw [e] at ho
      apply VS.ds_retX (C := c.Unread)
      · exact VS.dx_args (VS.dax_1 (VS.dx_tup (VS.dax_2 (VS.de_op (VS.de_var rfl) VS.de_int (VS.d2_ixL (VS.atI_mapI (n := 0) rfl w0))) (VS.dax_1 (VS.dx_call ha3 (num_bad n3' (by omega)))))))
      · exact ho
  · have n1' : numOk (wdAt line 1) = false := by simpa using n1
    have e : readK line = some .unread := by
      unfold readK
      rw [hw, n1']
      rfl
    unfold readOut at ho
    rw [e] at ho
    apply VS.ds_seq
    apply VS.ds_setX (C := c.Unread)
    · refine VS.dx_call ?_ (num_bad n1' (by omega))
      exact VS.da_cons (VS.de_op (VS.de_var rfl) VS.de_int (VS.d2_ixL (VS.atI_mapI (n := 1) rfl w1))) VS.da_nil
    · exact ho

def cellAt (ns : List Int) (k : Int) : Int := ns.getD k.toNat 0
def R__law_cell_at (c : Cs) (ds : List PyData) (o : Out) : Prop := ∃ ns k, ds = [scrD ns, .int k] ∧ o = .ret (.int (cellAt ns k)) ∧ 0 ≤ k
-- slots of _law_cell_at: 0 _law_script 1 _law_k
def t__law_cell_at (K : PySem.W.Frag) (c : Cs) (E : XK) : TS :=
  (tSeq (tIfS (tTest (tOp rLtI (tVar 1) (tCB (rLenSq K) (tCons (tVar 0) tNil)))) (tRet (tOp (rIxL K) (tVar 0) (tVar 1))) tNext)
    (tRet (tC (.int 0))))
theorem len__law_cell_at {c : Cs} : ∀ ds o, R__law_cell_at c ds o → ds.length = 2 := by
  intro ds o h
  grind (ematch := 14) (gen := 20) [R__law_cell_at]
theorem body__law_cell_at {K : PySem.W.Frag} {c : Cs} {E : XK} : ∀ ds o, R__law_cell_at c ds o → DS K E (t__law_cell_at K c E) (slots 2 ds) o.post := by
  rintro _ _ ⟨ns, k, rfl, rfl, h0⟩
  unfold t__law_cell_at
  apply VS.q_if
  · walk_at "ev"
  · intro hb
    have hk : k.toNat < ns.length := by
      have h := of_decide_eq_true hb
      omega
    apply VS.ds_ret
    · apply VS.de_op
      · walk_at "ev"
      · walk_at "ev"
      · exact VS.d2_ixC (Eq.trans (congrArg (atI ns) (Int.toNat_of_nonneg h0).symm) (atI_nat (List.getElem?_eq_getElem hk)))
    · exact VS.post_ret (by unfold cellAt; rw [List.getD_eq_getElem?_getD, List.getElem?_eq_getElem hk]; rfl)
  · intro hb
    have hk : ns.length ≤ k.toNat := by
      have h := of_decide_eq_false hb
      omega
    apply VS.ds_ret
    · walk_at "ev"
    · exact VS.post_ret (by unfold cellAt; rw [List.getD_eq_getElem?_getD, List.getElem?_eq_none hk]; rfl)

def R__law_whole (c : Cs) (ds : List PyData) (o : Out) : Prop := ∃ d, ds = [d] ∧ o = .ret (.bool (isInt d)) ∧ notScr d = true
-- slots of _law_whole: 0 _law_thing
def t__law_whole (K : PySem.W.Frag) (c : Cs) (E : XK) : TS :=
  (tRet (tAndV (tCB (rIsi K) (tCons (tVar 0) (tCons (tC (.ty "int")) tNil))) (tNotV (tCB (rIsi K) (tCons (tVar 0) (tCons (tC (.ty "bool")) tNil))))))
theorem len__law_whole {c : Cs} : ∀ ds o, R__law_whole c ds o → ds.length = 1 := by
  intro ds o h
  grind (ematch := 14) (gen := 20) [R__law_whole]
theorem body__law_whole {K : PySem.W.Frag} {c : Cs} {E : XK} : ∀ ds o, R__law_whole c ds o → DS K E (t__law_whole K c E) (slots 1 ds) o.post := by
  rintro _ _ ⟨d, rfl, rfl, hn⟩
  unfold t__law_whole
  apply VS.ds_ret
  · apply VS.de_andV
    · exact VS.de_isiU (VS.de_var rfl) hn (kit_int d)
    · intro _
      apply VS.de_notV
      exact VS.de_isiU (VS.de_var rfl) hn (kit_bool d)
  · exact VS.post_ret (by rw [isInt_ty])

def signs1 : Str := " !\"#$&'()*+,-./0123456789:;<=>?@ABCDEFGHIJKLMNOPQRSTUVWXYZ[\\]^_`"
def signs2 : Str := "abcdefghijklmnopqrstuvwxyz{|}~\n\t"
def signS (cell : Int) : Str := ⟨#[(signs1 ++ signs2).cps.toList.getD (cell % 96).toNat 0]⟩
theorem signs_len : (signs1 ++ signs2).cps.toList.length = 96 := by decide +kernel
def R__law_sign_by (c : Cs) (ds : List PyData) (o : Out) : Prop := ∃ cell, ds = [.int cell] ∧ o = .ret (.str (signS cell))
-- slots of _law_sign_by: 0 _law_cell 1 _law_some
def t__law_sign_by (K : PySem.W.Frag) (c : Cs) (E : XK) : TS :=
  (tSeq (tAsg (tC (.str " !\"#$&'()*+,-./0123456789:;<=>?@ABCDEFGHIJKLMNOPQRSTUVWXYZ[\\]^_`")) (gName 1))
    (tSeq (tAsg (tOp rAddStr (tVar 1) (tC (.str "abcdefghijklmnopqrstuvwxyz{|}~\n\t"))) (gName 1))
    (tRet (tOp rIxS (tVar 1) (tOp rModI (tVar 0) (tC (.int 96)))))))
theorem len__law_sign_by {c : Cs} : ∀ ds o, R__law_sign_by c ds o → ds.length = 1 := by
  intro ds o h
  grind (ematch := 14) (gen := 20) [R__law_sign_by]
theorem body__law_sign_by {K : PySem.W.Frag} {c : Cs} {E : XK} : ∀ ds o, R__law_sign_by c ds o → DS K E (t__law_sign_by K c E) (slots 2 ds) o.post := by
  rintro _ _ ⟨cell, rfl, rfl⟩
  unfold t__law_sign_by
  apply VS.q_set (d := .str signs1)
  · exact VS.de_str
  · rfl
  apply VS.q_set (d := .str (signs1 ++ signs2))
  · exact VS.de_op (VS.de_var rfl) VS.de_str (VS.d2_addStr (by decide +kernel))
  · rfl
  apply VS.ds_ret
  · refine VS.de_op (y := .int (cell % 96)) (VS.de_var rfl) (by walk_at "ev") (VS.d2_ixS (by decide +kernel) (c := (signs1 ++ signs2).cps.toList.getD (cell % 96).toNat 0) ?_)
    have hn : (cell % 96).toNat < (signs1 ++ signs2).cps.toList.length := by
      rw [signs_len]
      omega
    have he : cell % 96 = (((cell % 96).toNat : Nat) : Int) := by omega
    rw [he]
    refine atI_nat ?_
    rw [Int.toNat_natCast, List.getD_eq_getElem?_getD, List.getElem?_eq_getElem hn]
    rfl
  · exact VS.post_ret rfl

def numF (w : Str) : Int := if numOk w = true then numVal w else -1
def R__law_figures (c : Cs) (ds : List PyData) (o : Out) : Prop := ∃ w, ds = [.str w] ∧ o = .ret (.int (numF w)) ∧ w.length ≤ 90000
-- slots of _law_figures: 0 _law_word 1 _law_sign
def t__law_figures (K : PySem.W.Frag) (c : Cs) (E : XK) : TS :=
  (tSeq (tIfS (tOr (tTest (tOp rLtI (tCB rLenStr (tCons (tVar 0) tNil)) (tC (.int 1)))) (tOr (tTest (tOp rGtI (tCB rLenStr (tCons (tVar 0) tNil)) (tC (.int 60)))) (tAnd (tTest (tOp rGtI (tCB rLenStr (tCons (tVar 0) tNil)) (tC (.int 1)))) (tTest (tOp rEq (tOp rIxS (tVar 0) (tC (.int 0))) (tC (.str "0"))))))) (tRet (tUn rNegI (tC (.int 1)))) tNext)
    (tSeq (tFor (iStr (tVar 0)) (gName 1) (tIfS (tTest (tOp rNotInSign (tVar 1) (tC (.str "0123456789")))) (tRet (tUn rNegI (tC (.int 1)))) tNext))
    (tRet (tCB rIntStr (tCons (tVar 0) tNil)))))
theorem len__law_figures {c : Cs} : ∀ ds o, R__law_figures c ds o → ds.length = 1 := by
  intro ds o h
  grind (ematch := 14) (gen := 20) [R__law_figures]
theorem body__law_figures {K : PySem.W.Frag} {c : Cs} {E : XK} : ∀ ds o, R__law_figures c ds o → DS K E (t__law_figures K c E) (slots 2 ds) o.post := by
  rintro _ _ ⟨w, rfl, rfl, hl⟩
  unfold t__law_figures
  have hL : DE K (tCB rLenStr (tCons (tVar 0) tNil)) (see (slots 2 [PyData.str w])) (.int ((w.length : Nat) : Int)) := VS.de_cb (VS.da_cons (VS.de_var rfl) VS.da_nil) (VS.dc_lenS (by omega))
  apply VS.q_if (b := badLen w)
  · refine VS.dt_to (b := decide (((w.length : Nat) : Int) < 1) || (decide (60 < ((w.length : Nat) : Int)) || (decide (1 < ((w.length : Nat) : Int)) && zeroB w))) (VS.dt_or (VS.dt_test (VS.de_op hL VS.de_int VS.d2_lt)) fun hb => VS.dt_orU (VS.dt_test (VS.de_op hL VS.de_int VS.d2_gt)) (VS.dt_andU (VS.dt_test (VS.de_op hL VS.de_int VS.d2_gt)) (VS.dt_test (VS.de_op (VS.de_op (VS.de_var rfl) VS.de_int (VS.d2_ixS (by omega) (head_at (by have := of_decide_eq_false hb; omega)))) VS.de_str VS.d2_eqS)))) ?_
    unfold badLen
    generalize ((w.length : Nat) : Int) = n
    cases zeroB w
    · rw [Bool.eq_iff_iff]
      simp
    · rw [Bool.eq_iff_iff]
      simp
      omega
  · intro hb
    apply VS.ds_ret
    · walk_at "ev"
    · have e : numOk w = false := by
        unfold numOk
        rw [hb]
        rfl
      refine VS.post_ret ?_
      unfold numF
      rw [if_neg (by rw [e]; decide)]
  intro hb
  apply VS.ds_seq
  apply ds_forS (x := w) (W := fun k es => (∃ s, es = [.val (.str w), s]) ∧ (w.cps.toList.take k).all digB = true)
  · exact VS.de_var rfl
  · exact ⟨⟨.no, rfl⟩, rfl⟩
  · rintro k ch _ hk ⟨⟨s, rfl⟩, hok⟩
    apply VS.ds_if (b := !digB ch)
    · exact VS.dt_test (VS.de_op (VS.de_var rfl) VS.de_str d2_notInSign)
    · intro hd
      have e : numOk w = false := by
        unfold numOk
        rw [hb, Bool.not_false, Bool.true_and, List.all_eq_false]
        exact ⟨ch, List.mem_of_getElem? hk, by simpa using hd⟩
      apply VS.ds_ret
      · walk_at "ev"
      · refine VS.post_ret ?_
        unfold numF
        rw [if_neg (by rw [e]; decide)]
    · intro hd
      refine VS.ds_next ⟨⟨_, rfl⟩, ?_⟩
      rw [List.take_add_one, hk, List.all_append, hok]
      simpa using hd
  · rintro _ ⟨⟨s, rfl⟩, hok⟩
    rw [List.take_length] at hok
    have e : numOk w = true := by
      unfold numOk
      rw [hb, hok]
      rfl
    show DS K E _ _ _
    apply VS.ds_ret
    · exact VS.de_cb (VS.da_cons (VS.de_var rfl) VS.da_nil) (dc_intStr (int_digits hb hok) (by have := badLen_no hb; omega))
    · refine VS.post_ret ?_
      unfold numF
      rw [if_pos e]

def dueD (line : Str) : PyData := match readK line with
  | none => tupOf line
  | some e => .str (nameS e)
theorem name_unread : nameS .unread = ("unread " : Str) := by decide +kernel
theorem name_wish : nameS .wish = ("wish " : Str) := by decide +kernel
def R__law_due_of (c : Cs) (ds : List PyData) (o : Out) : Prop := ∃ line, ds = [.str line] ∧ o = .ret (dueD line) ∧ line.length ≤ 5000
-- slots of _law_due_of: 0 _law_line 1 _law_words 2 _law_amount 3 _law_limit
def t__law_due_of (K : PySem.W.Frag) (c : Cs) (E : XK) : TS :=
  (tSeq (tAsg (tM1 rSplit (tVar 0) (tC (.str " "))) (gName 1))
    (tSeq (tIfS (tOr (tTest (tOp rNe (tCB (rLenSq K) (tCons (tVar 1) tNil)) (tC (.int 4)))) (tOr (tAnd (tTest (tOp rNe (tOp (rIxL K) (tVar 1) (tC (.int 0))) (tC (.str "buy")))) (tTest (tOp rNe (tOp (rIxL K) (tVar 1) (tC (.int 0))) (tC (.str "sell"))))) (tTest (tOp rNe (tOp (rIxL K) (tVar 1) (tC (.int 2))) (tC (.str "at")))))) (tRet (tC (.str "unread "))) tNext)
    (tSeq (tAsg (tCall (spD K (R__law_figures c)) [] E0 (tCons (tOp (rIxL K) (tVar 1) (tC (.int 1))) tNil)) (gName 2))
    (tSeq (tAsg (tCall (spD K (R__law_figures c)) [] E0 (tCons (tOp (rIxL K) (tVar 1) (tC (.int 3))) tNil)) (gName 3))
    (tSeq (tIfS (tOr (tTest (tOp rLtI (tVar 2) (tC (.int 0)))) (tTest (tOp rLtI (tVar 3) (tC (.int 0))))) (tRet (tC (.str "unread "))) tNext)
    (tSeq (tIfS (tOr (tNot (tTest (tChain rLeI rLeI (tC (.int 1)) (tVar 2) (tC (.int 1000000))))) (tTest (tOp rGtI (tVar 3) (tC (.int 1000000000))))) (tRet (tC (.str "wish "))) tNext)
    (tRet (tTup (tCons (tOp (rIxL K) (tVar 1) (tC (.int 0))) (tCons (tVar 3) (tCons (tVar 2) tNil)))))))))))
theorem len__law_due_of {c : Cs} : ∀ ds o, R__law_due_of c ds o → ds.length = 1 := by
  intro ds o h
  grind (ematch := 14) (gen := 20) [R__law_due_of]
theorem body__law_due_of {K : PySem.W.Frag} {c : Cs} {E : XK} : ∀ ds o, R__law_due_of c ds o → DS K E (t__law_due_of K c E) (slots 4 ds) o.post := by
  rintro _ _ ⟨line, rfl, rfl, hl⟩
  unfold t__law_due_of
  have h0 := wdAt_len line 0
  have h1 := wdAt_len line 1
  have h3 := wdAt_len line 3
  apply VS.q_let (d := .list ((wordsOf line).map PyData.str))
  · exact VS.de_new (dn_split (VS.de_var rfl) VS.de_str (by decide +kernel) (by omega))
  apply VS.q_if (b := !wordsOk line)
  · unfold wordsOk
    refine VS.dt_to (b := !fourB line || ((!decide (wdAt line 0 = ("buy" : Str)) && !decide (wdAt line 0 = ("sell" : Str))) || !decide (wdAt line 2 = ("at" : Str)))) (VS.dt_or ?_ fun hb => ?_) ?_
    · refine VS.dt_to (b := !decide (((((wordsOf line).map PyData.str).length : Nat) : Int) = 4)) ?_ (by rw [List.length_map]; rfl)
      walk_at "ev"
    · have hf : fourB line = true := by simpa using hb
      have hf4 : (((wordsOf line).length : Nat) : Int) = 4 := of_decide_eq_true hf
      have w0 := wdAt_get (line := line) (k := 0) (by omega)
      have w2 := wdAt_get (line := line) (k := 2) (by omega)
      refine VS.dt_orU (VS.dt_andU (VS.dt_test (VS.de_op (x := .str (wdAt line 0)) ?_ VS.de_str VS.d2_neS)) (VS.dt_test (VS.de_op (x := .str (wdAt line 0)) ?_ VS.de_str VS.d2_neS))) (VS.dt_test (VS.de_op (x := .str (wdAt line 2)) ?_ VS.de_str VS.d2_neS))
      · exact VS.de_op (VS.de_var rfl) VS.de_int (VS.d2_ixL (VS.atI_mapI (n := 0) rfl w0))
      · exact VS.de_op (VS.de_var rfl) VS.de_int (VS.d2_ixL (VS.atI_mapI (n := 0) rfl w0))
      · exact VS.de_op (VS.de_var rfl) VS.de_int (VS.d2_ixL (VS.atI_mapI (n := 2) rfl w2))
    · rw [show decide (wdAt line 0 ∈ [("buy" : Str), "sell"]) = (decide (wdAt line 0 = ("buy" : Str)) || decide (wdAt line 0 = ("sell" : Str))) by
        rw [Bool.eq_iff_iff]
        simp]
      simp
  · intro hb
    have hb : wordsOk line = false := by simpa using hb
    have e : readK line = some .unread := by
      unfold readK
      rw [hb]
      rfl
    apply VS.ds_ret
    · exact VS.de_str
    · refine VS.post_ret ?_
      unfold dueD
      rw [e]
      exact congrArg (fun s => Out.ret (.str s)) name_unread
  intro hb
  have hw : wordsOk line = true := by simpa using hb
  have hf4 : (((wordsOf line).length : Nat) : Int) = 4 := by
    unfold wordsOk at hw
    rw [Bool.and_eq_true] at hw
    exact of_decide_eq_true hw.1
  have w0 := wdAt_get (line := line) (k := 0) (by omega)
  have w1 := wdAt_get (line := line) (k := 1) (by omega)
  have w3 := wdAt_get (line := line) (k := 3) (by omega)
  apply VS.q_set (d := .int (numF (wdAt line 1)))
  · refine VS.de_call ?_ ⟨_, rfl, rfl, by omega⟩
    exact VS.da_cons (VS.de_op (VS.de_var rfl) VS.de_int (VS.d2_ixL (VS.atI_mapI (n := 1) rfl w1))) VS.da_nil
  · rfl
  apply VS.q_set (d := .int (numF (wdAt line 3)))
  · refine VS.de_call ?_ ⟨_, rfl, rfl, by omega⟩
    exact VS.da_cons (VS.de_op (VS.de_var rfl) VS.de_int (VS.d2_ixL (VS.atI_mapI (n := 3) rfl w3))) VS.da_nil
  · rfl
  have v1 := numVal_nonneg (wdAt line 1)
  have v3 := numVal_nonneg (wdAt line 3)
  have f1 : numF (wdAt line 1) = if numOk (wdAt line 1) = true then numVal (wdAt line 1) else -1 := rfl
  have f3 : numF (wdAt line 3) = if numOk (wdAt line 3) = true then numVal (wdAt line 3) else -1 := rfl
  by_cases hn : (numOk (wdAt line 1) && numOk (wdAt line 3)) = true
  · have hn' := Bool.and_eq_true_iff.mp hn
    rw [if_pos hn'.1] at f1
    rw [if_pos hn'.2] at f3
    rw [f1, f3]
    apply VS.q_guard
    · refine VS.dt_to (b := decide (numVal (wdAt line 1) < 0) || decide (numVal (wdAt line 3) < 0)) ?_ (by rw [decide_eq_false (by omega), decide_eq_false (by omega)]; rfl)
      walk_at "ev"
    apply VS.q_if (b := !rangeOk line)
    · refine VS.dt_to (b := !(decide (1 ≤ numVal (wdAt line 1)) && decide (numVal (wdAt line 1) ≤ 1000000)) || decide (1000000000 < numVal (wdAt line 3))) ?_ ?_
      · walk_at "ev"
      · unfold rangeOk
        rw [Bool.eq_iff_iff]
        simp
        omega
    · intro hr
      have hr : rangeOk line = false := by simpa using hr
      have e : readK line = some .wish := by
        unfold readK
        rw [hw, hn, hr]
        rfl
      apply VS.ds_ret
      · exact VS.de_str
      · refine VS.post_ret ?_
        unfold dueD
        rw [e]
        exact congrArg (fun s => Out.ret (.str s)) name_wish
    · intro hr
      have hr : rangeOk line = true := by simpa using hr
      have e : readK line = none := by
        unfold readK
        rw [hw, hn, hr]
        rfl
      apply VS.ds_ret (d := tupOf line)
      · unfold tupOf
        exact VS.de_tup (VS.da_cons (VS.de_op (VS.de_var rfl) VS.de_int (VS.d2_ixL (VS.atI_mapI (n := 0) rfl w0))) (VS.da_cons (VS.de_var rfl) (VS.da_cons (VS.de_var rfl) VS.da_nil))) (Nat.le_of_ble_eq_true rfl)
      · refine VS.post_ret ?_
        unfold dueD
        rw [e]
  · have e : readK line = some .unread := by
      unfold readK
      rw [hw, Bool.true_and, if_neg hn]
    apply VS.q_if (b := true)
    · refine VS.dt_to (b := decide (numF (wdAt line 1) < 0) || decide (numF (wdAt line 3) < 0)) ?_ ?_
      · walk_at "ev"
      · rw [Bool.or_eq_true, decide_eq_true_eq, decide_eq_true_eq]
        by_cases q : numOk (wdAt line 1) = true
        · right
          rw [f3, if_neg (fun q3 => hn (by rw [q, q3]; rfl))]
          decide
        · left
          rw [f1, if_neg q]
          decide
    · intro _
      apply VS.ds_ret
      · exact VS.de_str
      · refine VS.post_ret ?_
        unfold dueD
        rw [e]
        exact congrArg (fun s => Out.ret (.str s)) name_unread
    · intro z
      cases z

def R__law_alike (c : Cs) (ds : List PyData) (o : Out) : Prop := ∃ w : Wish, ds = [wishD w, wishD w] ∧ o = .ret (.bool true)
-- slots of _law_alike: 0 _law_found 1 _law_due
def t__law_alike (K : PySem.W.Frag) (c : Cs) (E : XK) : TS :=
  (tSeq (tIfS (tOr (tNot (tB (tCB (rIsi K) (tCons (tVar 0) (tCons (tC (.ty "tuple")) tNil))))) (tOr (tTest (tOp rNe (tCB (rLenSq K) (tCons (tVar 0) tNil)) (tC (.int 3)))) (tNot (tB (tCB (rIsi K) (tCons (tOp (rIxT K) (tVar 0) (tC (.int 0))) (tCons (tC (.ty "str")) tNil))))))) (tRet (tC (.bl false))) tNext)
    (tRet (tAndV (tCall (spD K (R__law_whole c)) [] E0 (tCons (tOp (rIxT K) (tVar 0) (tC (.int 1))) tNil)) (tAndV (tCall (spD K (R__law_whole c)) [] E0 (tCons (tOp (rIxT K) (tVar 0) (tC (.int 2))) tNil)) (tOp (rEqD K) (tVar 0) (tVar 1))))))
theorem len__law_alike {c : Cs} : ∀ ds o, R__law_alike c ds o → ds.length = 2 := by
  intro ds o h
  grind (ematch := 14) (gen := 20) [R__law_alike]
theorem body__law_alike {K : PySem.W.Frag} {c : Cs} {E : XK} : ∀ ds o, R__law_alike c ds o → DS K E (t__law_alike K c E) (slots 2 ds) o.post := by
  rintro _ _ ⟨w, rfl, rfl⟩
  unfold t__law_alike
  apply VS.q_guard
  · refine VS.dt_to (b := !true || (!decide ((([PyData.str (sideS w.buy), .int w.limit, .int w.amount].length : Nat) : Int) = 3) || !true)) ?_ rfl
    unfold wishD
    walk_at "ev"
  apply VS.ds_ret
  · refine VS.de_andU (a := true) (b := true) ?_ (VS.de_andU (a := true) (b := true) ?_ ?_)
    · refine VS.de_call (xs := [.int w.limit]) ?_ ⟨.int w.limit, rfl, rfl, rfl⟩
      unfold wishD
      walk_at "ev"
    · refine VS.de_call (xs := [.int w.amount]) ?_ ⟨.int w.amount, rfl, rfl, rfl⟩
      unfold wishD
      walk_at "ev"
    · exact VS.de_op (VS.de_var rfl) (VS.de_var rfl) (VS.d2_eqSame (sh_wish w))
  · exact VS.post_ret rfl

--H unread wish
theorem sh_name (e : ErrC) : SeqAt.shaped (.str (nameS e)) = true := by cases e <;> decide +kernel
theorem kind_cases {line : Str} : readK line = some .unread ∨ readK line = some .wish ∨ readK line = none := by
  unfold readK
  split
  · split
    · exact .inr (.inr rfl)
    · exact .inr (.inl rfl)
  · exact .inl rfl
theorem tup_wish {line : Str} (h : readK line = none) : ∃ w : Wish, tupOf line = wishD w := by
  unfold readK at h
  split at h
  · rename_i q
    rw [Bool.and_eq_true] at q
    have q1 := q.1
    unfold wordsOk at q1
    rw [Bool.and_eq_true, Bool.and_eq_true, decide_eq_true_eq] at q1
    have m := q1.2.1
    simp only [List.mem_cons, List.not_mem_nil, or_false] at m
    unfold tupOf
    rcases m with e | e
    · exact ⟨⟨true, numVal (wdAt line 3), numVal (wdAt line 1)⟩, by rw [e]; rfl⟩
    · exact ⟨⟨false, numVal (wdAt line 3), numVal (wdAt line 1)⟩, by rw [e]; rfl⟩
  · cases h
def R__law_good (c : Cs) (ds : List PyData) (o : Out) : Prop := ∃ line, ds = [.str line] ∧ o = .ret (.bool true) ∧ line.length ≤ 5000
-- slots of _law_good: 0 _law_line 1 _law_due 2 _law_e 3 _law_found
def t__law_good (K : PySem.W.Frag) (c : Cs) (E : XK) : TS :=
  (tSeq (tAsg (tCall (spD K (R__law_due_of c)) [] E0 (tCons (tVar 0) tNil)) (gName 1))
    (tSeq (tTry K (.ref c.BidError) 2 (fun W => (tAsg (tCallS (spD K (R_read c)) (WE W) (tCons (tVar 0) tNil)) (gName 3))) (fun a cls d => (tRet (tAndV (tCB (rIsi K) (tCons (tVar 1) (tCons (tC (.ty "str")) tNil))) (tOp (rEqD K) (tHot (spN K c a cls d) 2) (tVar 1))))))
    (tRet (tAndV (tCB (rIsi K) (tCons (tVar 1) (tCons (tC (.ty "tuple")) tNil))) (tCall (spD K (R__law_alike c)) [] E0 (tCons (tVar 3) (tCons (tVar 1) tNil)))))))
theorem len__law_good {c : Cs} : ∀ ds o, R__law_good c ds o → ds.length = 1 := by
  intro ds o h
  grind (ematch := 14) (gen := 20) [R__law_good]
theorem body__law_good {K : PySem.W.Frag} {c : Cs} {E : XK} (X : ErrOk K c .unread) (Y : ErrOk K c .wish) : ∀ ds o, R__law_good c ds o → DS K E (t__law_good K c E) (slots 4 ds) o.post := by
  rintro _ _ ⟨line, rfl, rfl, hl⟩
  unfold t__law_good
  apply VS.q_let (d := dueD line)
  · refine VS.de_call ?_ ⟨line, rfl, rfl, hl⟩
    walk_at "ev"
  have hk : (∃ e : ErrC, ErrOk K c e ∧ readK line = some e) ∨ readK line = none := by
    rcases kind_cases (line := line) with he | he | he
    · exact .inl ⟨_, X, he⟩
    · exact .inl ⟨_, Y, he⟩
    · exact .inr he
  rcases hk with ⟨e, Z, he⟩ | he
  · have hd : dueD line = .str (nameS e) := by
      unfold dueD
      rw [he]
    rw [hd]
    apply VS.ds_seq
    apply VS.ds_tryX_asg (xs := [.str line]) (C := c.at e)
    · walk_at "ev"
    · exact ⟨line, rfl, by unfold readOut; rw [he], hl⟩
    · exact Z.exm
    intro a
    apply VS.ds_ret
    · refine VS.de_andU (a := true) (b := true) ?_ (VS.de_op (VS.de_names Z rfl) (VS.de_var rfl) (VS.d2_eqSame (sh_name e)))
      walk_at "ev"
    · exact VS.post_ret rfl
  · obtain ⟨w, hw⟩ := tup_wish he
    have hd : dueD line = wishD w := by
      unfold dueD
      rw [he]
      exact hw
    rw [hd]
    apply VS.ds_seq
    apply VS.ds_try_let (xs := [.str line]) (d := wishD w)
    · walk_at "ev"
    · exact ⟨line, rfl, by unfold readOut; rw [he]; exact congrArg Out.ret hw.symm, hl⟩
    · show DS K E _ _ _
      apply VS.ds_ret
      · refine VS.de_andU (a := true) (b := true) ?_ (VS.de_call ?_ ⟨w, rfl, rfl⟩)
        · walk_at "ev"
        · walk_at "ev"
      · exact VS.post_ret rfl

def odds1 : List Str := ["", "buy", "sell 5", "buy 1 at", "buy 1 at ", "buy at 5", "buy  1 at 5", " buy 1 at 5", "buy 1 at 5 "]
def odds2 : List Str := ["Buy 1 at 5", "BUY 1 AT 5", "bid 1 at 5", "buy 1 At 5", "buy 1 for 5", "sell one at 5"]
def odds3 : List Str := ["buy 0 at 5", "sell 1000001 at 5", "sell 1 at 1000000001", "buy 1 at 1000000000"]
def odds4 : List Str := ["sell 1000000 at 0", "buy +1 at 5", "sell -1 at 5", "buy 1 at -0", "sell 1 at 5 7"]
def odds5 : List Str := ["buy\t1\tat\t5", "sell 1_0 at 5", "buy 0 at 05", "sell 1000001 at x", "buy 00 at 1000000001"]
def odds6 : List Str := ["sell 0 at 1000000001"]
def odds : List Str := ((((odds1 ++ odds2) ++ odds3) ++ odds4) ++ odds5) ++ odds6
def oddS (cell : Int) : Str := odds.getD (cell % 30).toNat Str.empty
theorem oddS_len (cell : Int) : (oddS cell).length ≤ 40 := by
  unfold oddS
  by_cases h : (cell % 30).toNat < odds.length
  · have hm := getD_mem (a := Str.empty) h
    have ha : odds.all (fun s => decide (s.length ≤ 40)) = true := by decide +kernel
    exact of_decide_eq_true (List.all_eq_true.mp ha _ hm)
  · rw [List.getD_eq_getElem?_getD, List.getElem?_eq_none (by omega)]
    exact Nat.zero_le _
def R__law_odd_line (c : Cs) (ds : List PyData) (o : Out) : Prop := ∃ cell, ds = [.int cell] ∧ o = .ret (.str (oddS cell))
-- slots of _law_odd_line: 0 _law_cell 1 _law_some
def t__law_odd_line (K : PySem.W.Frag) (c : Cs) (E : XK) : TS :=
  (tSeq (tAsg (tLst (tCons (tC (.str "")) (tCons (tC (.str "buy")) (tCons (tC (.str "sell 5")) (tCons (tC (.str "buy 1 at")) (tCons (tC (.str "buy 1 at ")) (tCons (tC (.str "buy at 5")) (tCons (tC (.str "buy  1 at 5")) (tCons (tC (.str " buy 1 at 5")) (tCons (tC (.str "buy 1 at 5 ")) tNil)))))))))) (gName 1))
    (tSeq (tAsg (tOp rCat (tVar 1) (tLst (tCons (tC (.str "Buy 1 at 5")) (tCons (tC (.str "BUY 1 AT 5")) (tCons (tC (.str "bid 1 at 5")) (tCons (tC (.str "buy 1 At 5")) (tCons (tC (.str "buy 1 for 5")) (tCons (tC (.str "sell one at 5")) tNil)))))))) (gName 1))
    (tSeq (tAsg (tOp rCat (tVar 1) (tLst (tCons (tC (.str "buy 0 at 5")) (tCons (tC (.str "sell 1000001 at 5")) (tCons (tC (.str "sell 1 at 1000000001")) (tCons (tC (.str "buy 1 at 1000000000")) tNil)))))) (gName 1))
    (tSeq (tAsg (tOp rCat (tVar 1) (tLst (tCons (tC (.str "sell 1000000 at 0")) (tCons (tC (.str "buy +1 at 5")) (tCons (tC (.str "sell -1 at 5")) (tCons (tC (.str "buy 1 at -0")) (tCons (tC (.str "sell 1 at 5 7")) tNil))))))) (gName 1))
    (tSeq (tAsg (tOp rCat (tVar 1) (tLst (tCons (tC (.str "buy\t1\tat\t5")) (tCons (tC (.str "sell 1_0 at 5")) (tCons (tC (.str "buy 0 at 05")) (tCons (tC (.str "sell 1000001 at x")) (tCons (tC (.str "buy 00 at 1000000001")) tNil))))))) (gName 1))
    (tSeq (tAsg (tOp rCat (tVar 1) (tLst (tCons (tC (.str "sell 0 at 1000000001")) tNil))) (gName 1))
    (tRet (tOp (rIxL K) (tVar 1) (tOp rModI (tVar 0) (tC (.int 30)))))))))))
theorem len__law_odd_line {c : Cs} : ∀ ds o, R__law_odd_line c ds o → ds.length = 1 := by
  intro ds o h
  grind (ematch := 14) (gen := 20) [R__law_odd_line]
theorem body__law_odd_line {K : PySem.W.Frag} {c : Cs} {E : XK} : ∀ ds o, R__law_odd_line c ds o → DS K E (t__law_odd_line K c E) (slots 2 ds) o.post := by
  rintro _ _ ⟨cell, rfl, rfl⟩
  unfold t__law_odd_line
  apply VS.q_let (d := .list (odds1.map PyData.str))
  · unfold odds1
    simp only [List.map_cons, List.map_nil]
    walk_at "ev"
  apply VS.q_let (d := .list (odds1.map PyData.str ++ odds2.map PyData.str))
  · refine VS.de_op (VS.de_var rfl) ?_ (VS.d2_cat (by decide))
    unfold odds2
    simp only [List.map_cons, List.map_nil]
    walk_at "ev"
  apply VS.q_let (d := .list (odds1.map PyData.str ++ odds2.map PyData.str ++ odds3.map PyData.str))
  · refine VS.de_op (VS.de_var rfl) ?_ (VS.d2_cat (by decide))
    unfold odds3
    simp only [List.map_cons, List.map_nil]
    walk_at "ev"
  apply VS.q_let (d := .list (odds1.map PyData.str ++ odds2.map PyData.str ++ odds3.map PyData.str ++ odds4.map PyData.str))
  · refine VS.de_op (VS.de_var rfl) ?_ (VS.d2_cat (by decide))
    unfold odds4
    simp only [List.map_cons, List.map_nil]
    walk_at "ev"
  apply VS.q_let (d := .list (odds1.map PyData.str ++ odds2.map PyData.str ++ odds3.map PyData.str ++ odds4.map PyData.str ++ odds5.map PyData.str))
  · refine VS.de_op (VS.de_var rfl) ?_ (VS.d2_cat (by decide))
    unfold odds5
    simp only [List.map_cons, List.map_nil]
    walk_at "ev"
  apply VS.q_let (d := .list (odds.map PyData.str))
  · unfold odds
    rw [List.map_append, List.map_append, List.map_append, List.map_append, List.map_append]
    refine VS.de_op (VS.de_var rfl) ?_ (VS.d2_cat (by decide))
    unfold odds6
    simp only [List.map_cons, List.map_nil]
    walk_at "ev"
  apply VS.ds_ret
  · refine VS.de_op (y := .int (cell % 30)) (VS.de_var rfl) (by walk_at "ev") (VS.d2_ixL (atI_getD (f := PyData.str) (xs := odds) Str.empty (by omega) ?_))
    show cell % 30 < (30 : Int)
    omega
  · exact VS.post_ret rfl

def R_law (c : Cs) (ds : List PyData) (o : Out) : Prop := ∃ ns : List Int, ds = [scrD ns] ∧ o = .ret (.bool true) ∧ ns.length ≤ 63 ∧ ∀ z ∈ ns, Builtin.Int.intBits z ≤ 1048576
theorem R_law_mk {c : Cs} {ns : List Int} (hl : ns.length ≤ 63) (hb : ∀ z ∈ ns, Builtin.Int.intBits z ≤ 1048576) : R_law c [scrD ns] (.ret (.bool true)) := ⟨ns, rfl, rfl, hl, hb⟩
theorem ds_seqQ {K : PySem.W.Frag} {E : XK} {t u : TS} {es : List Slot} {P : Post} (Q : List Slot → Prop) (h : DS K E t es { P with nx := Q }) (k : ∀ es', Q es' → DS K E u es' P) : DS K E (tSeq t u) es P :=
  VS.ds_seq fun F0 H0 F H σ D A M => h F0 H0 F H σ D A ⟨fun F' H' σ' es' e A' q => M.nx F' H' σ' es' e A' (k es' q), M.bk, M.ct, M.rt, M.ex⟩
theorem side_pick (i : Int) : ([PyData.str "buy", PyData.str "sell"].getD (i % 2).toNat .none) = .str (sideS (decide (i % 2 = 0))) := by
  have h : i % 2 = 0 ∨ i % 2 = 1 := by omega
  rcases h with h | h
  · rw [h]; rfl
  · rw [h]; rfl
def pick4 (a b x y : Int) (i : Int) : Int := [a, b, x, y].getD (i % 4).toNat 0
theorem pick4_in {a b x y lo hi : Int} (i : Int) (h1 : lo ≤ a ∧ a ≤ hi) (h2 : lo ≤ b ∧ b ≤ hi) (h3 : lo ≤ x ∧ x ≤ hi) (h4 : lo ≤ y ∧ y ≤ hi) : lo ≤ pick4 a b x y i ∧ pick4 a b x y i ≤ hi := by
  unfold pick4
  have h : (i % 4).toNat < 4 := by omega
  generalize (i % 4).toNat = n at h
  match n, h with
  | 0, _ => exact h1
  | 1, _ => exact h2
  | 2, _ => exact h3
  | 3, _ => exact h4
theorem d2_pick4 {K : PySem.W.Frag} {a b x y : Int} (i : Int) : D2 K (rIxL K) (.list [.int a, .int b, .int x, .int y]) (.int (i % 4)) (.int (pick4 a b x y i)) :=
  VS.d2_ixL (atI_getD (f := PyData.int) (xs := [a, b, x, y]) 0 (by omega) (by show _ < (4 : Int); omega))
def figS (i j : Int) : Str := (⟨#[(("0123456789" : Str)).cps.toList.getD (i % 10).toNat 0]⟩ : Str) ++ repS ("7" : Str) (j % 62).toNat
theorem seven_len : (("7" : Str)).length = 1 := by decide +kernel
theorem one_len (a : Nat) : (⟨#[a]⟩ : Str).length = 1 := rfl
theorem figS_len (i j : Int) : (figS i j).length ≤ 63 := by
  unfold figS
  rw [str_app_len, one_len]
  have := rep_len ("7" : Str) (j % 62).toNat
  rw [seven_len] at this
  omega
theorem de_fig {K : PySem.W.Frag} {ds : List (Option PyData)} {ta tb : TE} {i j : Int} (h1 : DE K ta ds (.int (i % 10))) (h2 : DE K tb ds (.int (j % 62))) : DE K (tOp rAddStr (tOp rIxS (tC (.str "0123456789")) ta) (tOp rRepStr (tC (.str "7")) tb)) ds (.str (figS i j)) := by
  unfold figS
  have hr := rep_len ("7" : Str) (j % 62).toNat
  rw [seven_len] at hr
  refine VS.de_op (VS.de_op (x := .str ("0123456789" : Str)) VS.de_str h1 (VS.d2_ixS (by decide +kernel) (c := (("0123456789" : Str)).cps.toList.getD (i % 10).toNat 0) ?_)) (VS.de_op (x := .str ("7" : Str)) (y := .int (((j % 62).toNat : Nat) : Int)) VS.de_str (VS.de_to h2 (congrArg PyData.int (by omega))) (d2_repStr (by omega) (by rw [seven_len]; decide) (by rw [seven_len]; decide))) (VS.d2_addStr ?_)
  · have hn : (i % 10).toNat < (("0123456789" : Str)).cps.toList.length := by
      rw [digs_list]
      show _ < 10
      omega
    have he : i % 10 = (((i % 10).toNat : Nat) : Int) := by omega
    rw [he]
    refine atI_nat ?_
    rw [Int.toNat_natCast, List.getD_eq_getElem?_getD, List.getElem?_eq_getElem hn]
    rfl
  · rw [one_len]
    omega
theorem de_line {K : PySem.W.Frag} {ds : List (Option PyData)} {t0 t1 t3 : TE} {s0 s1 s2 s3 : Str} (h0 : DE K t0 ds (.str s0)) (h1 : DE K t1 ds (.str s1)) (h3 : DE K t3 ds (.str s3)) (l0 : s0.length ≤ 100) (l1 : s1.length ≤ 100) (l2 : s2.length ≤ 100) (l3 : s3.length ≤ 100) :
    ∃ z : Str, z.length ≤ 500 ∧ DE K (tOp rAddStr (tOp rAddStr (tOp rAddStr (tOp rAddStr t0 (tC (.str " "))) t1) (tC (.str s2))) t3) ds (.str z) := by
  have := blank_len
  refine ⟨(((s0 ++ (" " : Str)) ++ s1) ++ s2) ++ s3, ?_, VS.de_op (VS.de_op (VS.de_op (VS.de_op h0 VS.de_str (VS.d2_addStr ?_)) h1 (VS.d2_addStr ?_)) VS.de_str (VS.d2_addStr ?_)) h3 (VS.d2_addStr ?_)⟩
  · rw [str_app_len, str_app_len, str_app_len, str_app_len]
    omega
  · omega
  · rw [str_app_len]
    omega
  · rw [str_app_len, str_app_len]
    omega
  · rw [str_app_len, str_app_len, str_app_len]
    omega
theorem at0_len : ((" at 0" : Str)).length = 5 := by decide +kernel
theorem signS_len (i : Int) : (signS i).length = 1 := rfl
-- slots of law: 0 _law_script 1 _law_cell 2 _law_side 3 _law_limit 4 _law_amount 5 _law_line 6 _law_text 7 _law_way 8 _law_at 9 _law_sign 10 _law_figures_here
def t_law (K : PySem.W.Frag) (c : Cs) (E : XK) : TS :=
  (tSeq (tAsg (tCall (spD K (R__law_cell_at c)) [] E0 (tCons (tVar 0) (tCons (tC (.int 1)) tNil))) (gName 1))
    (tSeq (tAsg (tOp (rIxL K) (tLst (tCons (tC (.str "buy")) (tCons (tC (.str "sell")) tNil))) (tOp rModI (tCall (spD K (R__law_cell_at c)) [] E0 (tCons (tVar 0) (tCons (tC (.int 2)) tNil))) (tC (.int 2)))) (gName 2))
    (tSeq (tAsg (tOp rModI (tVar 1) (tC (.int 1000000001))) (gName 3))
    (tSeq (tAsg (tOp rAddI (tC (.int 1)) (tOp rModI (tCall (spD K (R__law_cell_at c)) [] E0 (tCons (tVar 0) (tCons (tC (.int 3)) tNil))) (tC (.int 1000000)))) (gName 4))
    (tSeq (tIfS (tTest (tOp rEq (tOp rModI (tCall (spD K (R__law_cell_at c)) [] E0 (tCons (tVar 0) (tCons (tC (.int 4)) tNil))) (tC (.int 3))) (tC (.int 1)))) (tAsg (tOp (rIxL K) (tLst (tCons (tC (.int 0)) (tCons (tC (.int 1000000000)) (tCons (tC (.int 9)) (tCons (tC (.int 10)) tNil))))) (tOp rModI (tOp rDivI (tCall (spD K (R__law_cell_at c)) [] E0 (tCons (tVar 0) (tCons (tC (.int 4)) tNil))) (tC (.int 3))) (tC (.int 4)))) (gName 3)) tNext)
    (tSeq (tIfS (tTest (tOp rEq (tOp rModI (tCall (spD K (R__law_cell_at c)) [] E0 (tCons (tVar 0) (tCons (tC (.int 4)) tNil))) (tC (.int 3))) (tC (.int 2)))) (tAsg (tOp (rIxL K) (tLst (tCons (tC (.int 1)) (tCons (tC (.int 1000000)) (tCons (tC (.int 9)) (tCons (tC (.int 10)) tNil))))) (tOp rModI (tOp rDivI (tCall (spD K (R__law_cell_at c)) [] E0 (tCons (tVar 0) (tCons (tC (.int 4)) tNil))) (tC (.int 3))) (tC (.int 4)))) (gName 4)) tNext)
    (tSeq (tAsg (tOp rAddStr (tOp rAddStr (tOp rAddStr (tOp rAddStr (tVar 2) (tC (.str " "))) (tCB rStrInt (tCons (tVar 4) tNil))) (tC (.str " at "))) (tCB rStrInt (tCons (tVar 3) tNil))) (gName 5))
    (tSeq (tAsg (tCall (spD K (R_shown c)) [] E0 (tCons (tTup (tCons (tVar 2) (tCons (tVar 3) (tCons (tVar 4) tNil)))) tNil)) (gName 6))
    (tSeq (tIfS (tOr (tNot (tB (tCB (rIsi K) (tCons (tVar 6) (tCons (tC (.ty "str")) tNil))))) (tOr (tTest (tOp rNe (tVar 6) (tVar 5))) (tNot (tB (tCall (spD K (R__law_good c)) [] E0 (tCons (tVar 5) tNil)))))) (tRet (tC (.bl false))) tNext)
    (tSeq (tAsg (tOp rModI (tCall (spD K (R__law_cell_at c)) [] E0 (tCons (tVar 0) (tCons (tC (.int 0)) tNil))) (tC (.int 5))) (gName 7))
    (tSeq (tAsg (tOp rModI (tCall (spD K (R__law_cell_at c)) [] E0 (tCons (tVar 0) (tCons (tC (.int 5)) tNil))) (tOp rAddI (tCB rLenStr (tCons (tVar 5) tNil)) (tC (.int 1)))) (gName 8))
    (tSeq (tAsg (tCall (spD K (R__law_sign_by c)) [] E0 (tCons (tCall (spD K (R__law_cell_at c)) [] E0 (tCons (tVar 0) (tCons (tC (.int 6)) tNil))) tNil)) (gName 9))
    (tSeq (tIfS (tTest (tOp rEq (tVar 7) (tC (.int 1)))) (tAsg (tOp rAddStr (tOp rAddStr (tSl rSlS (tVar 5) tNoPart (tPart (tVar 8))) (tVar 9)) (tSl rSlS (tVar 5) (tPart (tVar 8)) tNoPart)) (gName 5)) tNext)
    (tSeq (tIfS (tTest (tOp rEq (tVar 7) (tC (.int 2)))) (tAsg (tOp rAddStr (tSl rSlS (tVar 5) tNoPart (tPart (tVar 8))) (tSl rSlS (tVar 5) (tPart (tOp rAddI (tVar 8) (tC (.int 1)))) tNoPart)) (gName 5)) tNext)
    (tSeq (tIfS (tTest (tOp rEq (tVar 7) (tC (.int 3)))) (tAsg (tCall (spD K (R__law_odd_line c)) [] E0 (tCons (tCall (spD K (R__law_cell_at c)) [] E0 (tCons (tVar 0) (tCons (tC (.int 5)) tNil))) tNil)) (gName 5)) tNext)
    (tSeq (tIfS (tTest (tOp rEq (tVar 7) (tC (.int 4)))) (tSeq (tAsg (tOp rAddStr (tOp rIxS (tC (.str "0123456789")) (tOp rModI (tCall (spD K (R__law_cell_at c)) [] E0 (tCons (tVar 0) (tCons (tC (.int 6)) tNil))) (tC (.int 10)))) (tOp rRepStr (tC (.str "7")) (tOp rModI (tCall (spD K (R__law_cell_at c)) [] E0 (tCons (tVar 0) (tCons (tC (.int 5)) tNil))) (tC (.int 62))))) (gName 10))
    (tSeq (tAsg (tOp rAddStr (tOp rAddStr (tOp rAddStr (tOp rAddStr (tVar 2) (tC (.str " "))) (tVar 10)) (tC (.str " at "))) (tCB rStrInt (tCons (tVar 3) tNil))) (gName 5))
    (tSeq (tIfS (tTest (tOp rEq (tOp rModI (tCall (spD K (R__law_cell_at c)) [] E0 (tCons (tVar 0) (tCons (tC (.int 7)) tNil))) (tC (.int 3))) (tC (.int 1)))) (tAsg (tOp rAddStr (tOp rAddStr (tOp rAddStr (tOp rAddStr (tVar 2) (tC (.str " "))) (tCB rStrInt (tCons (tVar 4) tNil))) (tC (.str " at "))) (tVar 10)) (gName 5)) tNext)
    (tIfS (tTest (tOp rEq (tOp rModI (tCall (spD K (R__law_cell_at c)) [] E0 (tCons (tVar 0) (tCons (tC (.int 7)) tNil))) (tC (.int 3))) (tC (.int 2)))) (tAsg (tOp rAddStr (tOp rAddStr (tOp rAddStr (tOp rAddStr (tVar 2) (tC (.str " "))) (tVar 10)) (tC (.str " at 0"))) (tVar 10)) (gName 5)) tNext)))) tNext)
    (tRet (tCall (spD K (R__law_good c)) [] E0 (tCons (tVar 5) tNil)))))))))))))))))))
theorem len_law {c : Cs} : ∀ ds o, R_law c ds o → ds.length = 1 := by
  intro ds o h
  grind (ematch := 14) (gen := 20) [R_law]
theorem body_law {K : PySem.W.Frag} {c : Cs} {E : XK} : ∀ ds o, R_law c ds o → DS K E (t_law K c E) (slots 11 ds) o.post := by
  rintro _ _ ⟨ns, rfl, rfl, hl, -⟩
  unfold t_law
  apply VS.q_set
  · walk_at "ev"
  · rfl
  generalize hb : decide (cellAt ns 2 % 2 = 0) = b
  apply VS.q_set (d := .str (sideS b))
  · rw [← hb, ← side_pick]
    refine VS.de_op (x := .list [.str "buy", .str "sell"]) (y := .int (cellAt ns 2 % 2)) (by walk_at "ev") (by walk_at "ev") ?_
    have q := VS.d2_ixL (K := K) (xs := [PyData.str "buy", PyData.str "sell"].map id) (i := cellAt ns 2 % 2) (atI_getD (f := id) .none (by omega) (by show _ < (2 : Int); omega))
    exact q
  · rfl
  apply VS.q_set
  · walk_at "ev"
  · rfl
  apply VS.q_set
  · walk_at "ev"
  · rfl
  apply VS.q_ifset (d := .int (if cellAt ns 4 % 3 = 1 then pick4 0 1000000000 9 10 (cellAt ns 4 / 3) else cellAt ns 1 % 1000000001)) (b := decide (cellAt ns 4 % 3 = 1))
  · walk_at "ev"
  · intro hc
    rw [if_pos (of_decide_eq_true hc)]
    exact VS.de_op (by walk_at "ev") (by walk_at "ev") (d2_pick4 _)
  · rfl
  · intro hc
    rw [if_neg (of_decide_eq_false hc)]
    rfl
  have hL : 0 ≤ (if cellAt ns 4 % 3 = 1 then pick4 0 1000000000 9 10 (cellAt ns 4 / 3) else cellAt ns 1 % 1000000001) ∧ (if cellAt ns 4 % 3 = 1 then pick4 0 1000000000 9 10 (cellAt ns 4 / 3) else cellAt ns 1 % 1000000001) ≤ 1000000000 := by
    have := pick4_in (a := 0) (b := 1000000000) (x := 9) (y := 10) (lo := 0) (hi := 1000000000) (cellAt ns 4 / 3) (by decide) (by decide) (by decide) (by decide)
    split <;> omega
  generalize (if cellAt ns 4 % 3 = 1 then pick4 0 1000000000 9 10 (cellAt ns 4 / 3) else cellAt ns 1 % 1000000001) = lim at hL
  apply VS.q_ifset (d := .int (if cellAt ns 4 % 3 = 2 then pick4 1 1000000 9 10 (cellAt ns 4 / 3) else 1 + cellAt ns 3 % 1000000)) (b := decide (cellAt ns 4 % 3 = 2))
  · walk_at "ev"
  · intro hc
    rw [if_pos (of_decide_eq_true hc)]
    exact VS.de_op (by walk_at "ev") (by walk_at "ev") (d2_pick4 _)
  · rfl
  · intro hc
    rw [if_neg (of_decide_eq_false hc)]
    rfl
  have hA : 0 ≤ (if cellAt ns 4 % 3 = 2 then pick4 1 1000000 9 10 (cellAt ns 4 / 3) else 1 + cellAt ns 3 % 1000000) ∧ (if cellAt ns 4 % 3 = 2 then pick4 1 1000000 9 10 (cellAt ns 4 / 3) else 1 + cellAt ns 3 % 1000000) ≤ 1000000000 := by
    have := pick4_in (a := 1) (b := 1000000) (x := 9) (y := 10) (lo := 1) (hi := 1000000) (cellAt ns 4 / 3) (by decide) (by decide) (by decide) (by decide)
    split <;> omega
  generalize (if cellAt ns 4 % 3 = 2 then pick4 1 1000000 9 10 (cellAt ns 4 / 3) else 1 + cellAt ns 3 % 1000000) = amt at hA
  have h40 := shownS_len (b := b) hL.1 hL.2 hA.1 hA.2
  apply VS.q_set (d := .str (shownS b lim amt))
  · refine de_shown (b := b) hL.1 hL.2 hA.1 hA.2 ?_ ?_ ?_
    · walk_at "ev"
    · walk_at "ev"
    · walk_at "ev"
  · rfl
  apply VS.q_set (d := .str (shownS b lim amt))
  · refine VS.de_call ?_ ⟨b, lim, amt, rfl, rfl, hL.1, hL.2, hA.1, hA.2⟩
    walk_at "ev"
  · rfl
  apply VS.q_guard
  · refine VS.dt_to (b := !true || (!decide (shownS b lim amt = shownS b lim amt) || !true)) ?_ (by rw [decide_eq_true rfl]; rfl)
    refine VS.dt_orU ?_ (VS.dt_orU ?_ (VS.dt_not (VS.dt_B (VS.de_call ?_ ⟨shownS b lim amt, rfl, rfl, by omega⟩))))
    · walk_at "ev"
    · walk_at "ev"
    · walk_at "ev"
  generalize shownS b lim amt = line0 at h40
  apply VS.q_set
  · walk_at "ev"
  · rfl
  have hlen : DE K (tCB rLenStr (tCons (tVar 5) tNil)) (see [.val (scrD ns), .val (.int (cellAt ns 1)), .val (.str (sideS b)), .val (.int lim), .val (.int amt), .val (.str line0), .val (.str line0), .val (.int (cellAt ns 0 % 5)), .no, .no, .no]) (.int ((line0.length : Nat) : Int)) := VS.de_cb (VS.da_cons (VS.de_var rfl) VS.da_nil) (VS.dc_lenS (by omega))
  apply VS.q_set (d := .int (cellAt ns 5 % (((line0.length : Nat) : Int) + 1)))
  · refine VS.de_op (x := .int (cellAt ns 5)) (y := .int (((line0.length : Nat) : Int) + 1)) (by walk_at "ev") (VS.de_op hlen VS.de_int VS.d2_add) (VS.d2_mod (by omega))
  · rfl
  generalize cellAt ns 5 % (((line0.length : Nat) : Int) + 1) = at'
  apply VS.q_set (d := .str (signS (cellAt ns 6)))
  · refine VS.de_call ?_ ⟨cellAt ns 6, rfl, rfl⟩
    walk_at "ev"
  · rfl
  have hsg := signS_len (cellAt ns 6)
  generalize signS (cellAt ns 6) = sg at hsg
  generalize cellAt ns 0 % 5 = way
  have hside := side_len b
  have hlimS := toStr_len hL.1 hL.2
  have hamtS := toStr_len hA.1 hA.2
  have hat := at_len
  have hat0 := at0_len
  refine ds_seqQ (fun es => ∃ line : Str, line.length ≤ 1000 ∧ es = [.val (scrD ns), .val (.int (cellAt ns 1)), .val (.str (sideS b)), .val (.int lim), .val (.int amt), .val (.str line), .val (.str line0), .val (.int way), .val (.int at'), .val (.str sg), .no]) ?_ ?_
  · have c1 := cutS_length line0 none (some at')
    have c2 := cutS_length line0 (some at') none
    apply VS.ds_if (b := decide (way = 1))
    · walk_at "ev"
    · intro _
      apply VS.ds_set (d := .str ((cutS line0 none (some at') ++ sg) ++ cutS line0 (some at') none))
      · refine VS.de_op (VS.de_op (de_slS (VS.de_var rfl) VS.do_none (VS.do_some (VS.de_var rfl)) (by omega)) (VS.de_var rfl) (VS.d2_addStr (by omega))) (de_slS (VS.de_var rfl) (VS.do_some (VS.de_var rfl)) VS.do_none (by omega)) (VS.d2_addStr ?_)
        rw [str_app_len]
        omega
      · rfl
      · refine ⟨_, ?_, rfl⟩
        rw [str_app_len, str_app_len]
        omega
    · intro _
      exact VS.ds_next ⟨line0, by omega, rfl⟩
  rintro _ ⟨line, h1, rfl⟩
  refine ds_seqQ (fun es => ∃ line : Str, line.length ≤ 2000 ∧ es = [.val (scrD ns), .val (.int (cellAt ns 1)), .val (.str (sideS b)), .val (.int lim), .val (.int amt), .val (.str line), .val (.str line0), .val (.int way), .val (.int at'), .val (.str sg), .no]) ?_ ?_
  · have c1 := cutS_length line none (some at')
    have c2 := cutS_length line (some (at' + 1)) none
    apply VS.ds_if (b := decide (way = 2))
    · walk_at "ev"
    · intro _
      apply VS.ds_set (d := .str (cutS line none (some at') ++ cutS line (some (at' + 1)) none))
      · refine VS.de_op (de_slS (VS.de_var rfl) VS.do_none (VS.do_some (VS.de_var rfl)) (by omega)) (de_slS (VS.de_var rfl) (VS.do_some ?_) VS.do_none (by omega)) (VS.d2_addStr (by omega))
        walk_at "ev"
      · rfl
      · refine ⟨_, ?_, rfl⟩
        rw [str_app_len]
        omega
    · intro _
      exact VS.ds_next ⟨line, by omega, rfl⟩
  clear h1 line
  rintro _ ⟨line, h1, rfl⟩
  refine ds_seqQ (fun es => ∃ line : Str, line.length ≤ 2000 ∧ es = [.val (scrD ns), .val (.int (cellAt ns 1)), .val (.str (sideS b)), .val (.int lim), .val (.int amt), .val (.str line), .val (.str line0), .val (.int way), .val (.int at'), .val (.str sg), .no]) ?_ ?_
  · apply VS.ds_if (b := decide (way = 3))
    · walk_at "ev"
    · intro _
      apply VS.ds_set (d := .str (oddS (cellAt ns 5)))
      · refine VS.de_call ?_ ⟨cellAt ns 5, rfl, rfl⟩
        walk_at "ev"
      · rfl
      · exact ⟨_, by have := oddS_len (cellAt ns 5); omega, rfl⟩
    · intro _
      exact VS.ds_next ⟨line, by omega, rfl⟩
  clear h1 line
  rintro _ ⟨line, h1, rfl⟩
  refine ds_seqQ (fun es => ∃ (line : Str) (s10 : Slot), line.length ≤ 2000 ∧ es = [.val (scrD ns), .val (.int (cellAt ns 1)), .val (.str (sideS b)), .val (.int lim), .val (.int amt), .val (.str line), .val (.str line0), .val (.int way), .val (.int at'), .val (.str sg), s10]) ?_ ?_
  · apply VS.ds_if (b := decide (way = 4))
    · walk_at "ev"
    · intro _
      apply VS.q_set (d := .str (figS (cellAt ns 6) (cellAt ns 5)))
      · refine de_fig ?_ ?_
        · walk_at "ev"
        · walk_at "ev"
      · rfl
      have hfig := figS_len (cellAt ns 6) (cellAt ns 5)
      generalize figS (cellAt ns 6) (cellAt ns 5) = fig at hfig
      show DS K E _ [.val (scrD ns), .val (.int (cellAt ns 1)), .val (.str (sideS b)), .val (.int lim), .val (.int amt), .val (.str line), .val (.str line0), .val (.int way), .val (.int at'), .val (.str sg), .val (.str fig)] _
      obtain ⟨z, hz, dz⟩ := de_line (K := K) (ds := see [.val (scrD ns), .val (.int (cellAt ns 1)), .val (.str (sideS b)), .val (.int lim), .val (.int amt), .val (.str line), .val (.str line0), .val (.int way), .val (.int at'), .val (.str sg), .val (.str fig)]) (t0 := tVar 2) (t1 := tVar 10) (t3 := tCB rStrInt (tCons (tVar 3) tNil)) (s0 := sideS b) (s1 := fig) (s2 := (" at " : Str)) (s3 := ((toString lim : String) : Str)) (VS.de_var rfl) (VS.de_var rfl) (VS.de_cb (VS.da_cons (VS.de_var rfl) VS.da_nil) (dc_strInt (small_log hL.1 hL.2))) (by omega) (by omega) (by omega) (by omega)
      apply VS.q_set (d := .str z)
      · exact dz
      · rfl
      show DS K E _ [.val (scrD ns), .val (.int (cellAt ns 1)), .val (.str (sideS b)), .val (.int lim), .val (.int amt), .val (.str z), .val (.str line0), .val (.int way), .val (.int at'), .val (.str sg), .val (.str fig)] _
      obtain ⟨y, hy, dy⟩ := de_line (K := K) (ds := see [.val (scrD ns), .val (.int (cellAt ns 1)), .val (.str (sideS b)), .val (.int lim), .val (.int amt), .val (.str z), .val (.str line0), .val (.int way), .val (.int at'), .val (.str sg), .val (.str fig)]) (t0 := tVar 2) (t1 := tCB rStrInt (tCons (tVar 4) tNil)) (t3 := tVar 10) (s0 := sideS b) (s1 := ((toString amt : String) : Str)) (s2 := (" at " : Str)) (s3 := fig) (VS.de_var rfl) (VS.de_cb (VS.da_cons (VS.de_var rfl) VS.da_nil) (dc_strInt (small_log hA.1 hA.2))) (VS.de_var rfl) (by omega) (by omega) (by omega) (by omega)
      have dx := fun (z : Str) => de_line (K := K) (ds := see [.val (scrD ns), .val (.int (cellAt ns 1)), .val (.str (sideS b)), .val (.int lim), .val (.int amt), .val (.str z), .val (.str line0), .val (.int way), .val (.int at'), .val (.str sg), .val (.str fig)]) (t0 := tVar 2) (t1 := tVar 10) (t3 := tVar 10) (s0 := sideS b) (s1 := fig) (s2 := (" at 0" : Str)) (s3 := fig) (VS.de_var rfl) (VS.de_var rfl) (VS.de_var rfl) (by omega) (by omega) (by omega) (by omega)
      refine ds_seqQ (fun es => ∃ line : Str, line.length ≤ 500 ∧ es = [.val (scrD ns), .val (.int (cellAt ns 1)), .val (.str (sideS b)), .val (.int lim), .val (.int amt), .val (.str line), .val (.str line0), .val (.int way), .val (.int at'), .val (.str sg), .val (.str fig)]) ?_ ?_
      · apply VS.ds_if (b := decide (cellAt ns 7 % 3 = 1))
        · walk_at "ev"
        · intro _
          apply VS.ds_set (d := .str y)
          · exact dy
          · rfl
          · exact ⟨y, hy, rfl⟩
        · intro _
          exact VS.ds_next ⟨z, hz, rfl⟩
      rintro _ ⟨x, hx, rfl⟩
      obtain ⟨w, hw, dw⟩ := dx x
      apply VS.ds_if (b := decide (cellAt ns 7 % 3 = 2))
      · walk_at "ev"
      · intro _
        apply VS.ds_set (d := .str w)
        · exact dw
        · rfl
        · exact ⟨w, _, by omega, rfl⟩
      · intro _
        exact VS.ds_next ⟨x, _, by omega, rfl⟩
    · intro _
      exact VS.ds_next ⟨line, _, by omega, rfl⟩
  clear h1 line
  rintro _ ⟨line, s10, h1, rfl⟩
  apply VS.ds_ret
  · refine VS.de_call ?_ ⟨line, rfl, rfl, by omega⟩
    walk_at "ev"
  · exact VS.post_ret rfl

theorem R_law_eq (c c' : Cs) : R_law c = R_law c' := rfl

end VS
namespace PW
open PySem PySem.Spec PyProof.Rows L2 VS
open Evl (Ex)
def topS (i : Nat) : Stmt := PySem.Challenge.pw_bidclear_k10_written_and_read.main.body.getD i (.Pass ⟨0, 0, 0, 0⟩)
abbrev s_whole_within : Stmt := topS 11
theorem sc_whole_within : FnScope ["thing", "low", "high"] ["thing", "low", "high"] (defScope s_whole_within) := ⟨rfl, rfl, rfl, by decide +kernel, rfl, by decide +kernel, by decide +kernel⟩
abbrev s_checked : Stmt := topS 12
theorem sc_checked : FnScope ["thing"] ["thing"] (defScope s_checked) := ⟨rfl, rfl, rfl, by decide +kernel, rfl, by decide +kernel, by decide +kernel⟩
abbrev s_shown : Stmt := topS 14
theorem sc_shown : FnScope ["wish"] ["wish"] (defScope s_shown) := ⟨rfl, rfl, rfl, by decide +kernel, rfl, by decide +kernel, by decide +kernel⟩
abbrev s_number_of : Stmt := topS 15
theorem sc_number_of : FnScope ["word", "sign"] ["word"] (defScope s_number_of) := ⟨rfl, rfl, rfl, by decide +kernel, rfl, by decide +kernel, by decide +kernel⟩
abbrev s_read : Stmt := topS 16
theorem sc_read : FnScope ["line", "words", "amount"] ["line"] (defScope s_read) := ⟨rfl, rfl, rfl, by decide +kernel, rfl, by decide +kernel, by decide +kernel⟩
abbrev s__law_cell_at : Stmt := topS 18
theorem sc__law_cell_at : FnScope ["_law_script", "_law_k"] ["_law_script", "_law_k"] (defScope s__law_cell_at) := ⟨rfl, rfl, rfl, by decide +kernel, rfl, by decide +kernel, by decide +kernel⟩
abbrev s__law_whole : Stmt := topS 19
theorem sc__law_whole : FnScope ["_law_thing"] ["_law_thing"] (defScope s__law_whole) := ⟨rfl, rfl, rfl, by decide +kernel, rfl, by decide +kernel, by decide +kernel⟩
abbrev s__law_sign_by : Stmt := topS 20
theorem sc__law_sign_by : FnScope ["_law_cell", "_law_some"] ["_law_cell"] (defScope s__law_sign_by) := ⟨rfl, rfl, rfl, by decide +kernel, rfl, by decide +kernel, by decide +kernel⟩
abbrev s__law_figures : Stmt := topS 21
theorem sc__law_figures : FnScope ["_law_word", "_law_sign"] ["_law_word"] (defScope s__law_figures) := ⟨rfl, rfl, rfl, by decide +kernel, rfl, by decide +kernel, by decide +kernel⟩
abbrev s__law_due_of : Stmt := topS 22
theorem sc__law_due_of : FnScope ["_law_line", "_law_words", "_law_amount", "_law_limit"] ["_law_line"] (defScope s__law_due_of) := ⟨rfl, rfl, rfl, by decide +kernel, rfl, by decide +kernel, by decide +kernel⟩
abbrev s__law_names : Stmt := topS 23
theorem sc__law_names : FnScope ["_law_e", "_law_found"] ["_law_e"] (defScope s__law_names) := ⟨rfl, rfl, rfl, by decide +kernel, rfl, by decide +kernel, by decide +kernel⟩
abbrev s__law_alike : Stmt := topS 24
theorem sc__law_alike : FnScope ["_law_found", "_law_due"] ["_law_found", "_law_due"] (defScope s__law_alike) := ⟨rfl, rfl, rfl, by decide +kernel, rfl, by decide +kernel, by decide +kernel⟩
abbrev s__law_good : Stmt := topS 25
theorem sc__law_good : FnScope ["_law_line", "_law_due", "_law_e", "_law_found"] ["_law_line"] (defScope s__law_good) := ⟨rfl, rfl, rfl, by decide +kernel, rfl, by decide +kernel, by decide +kernel⟩
abbrev s__law_odd_line : Stmt := topS 26
theorem sc__law_odd_line : FnScope ["_law_cell", "_law_some"] ["_law_cell"] (defScope s__law_odd_line) := ⟨rfl, rfl, rfl, by decide +kernel, rfl, by decide +kernel, by decide +kernel⟩
abbrev s_law : Stmt := topS 27
theorem sc_law : FnScope ["_law_script", "_law_cell", "_law_side", "_law_limit", "_law_amount", "_law_line", "_law_text", "_law_way", "_law_at", "_law_sign", "_law_figures_here"] ["_law_script"] (defScope s_law) := ⟨rfl, rfl, rfl, by decide +kernel, rfl, by decide +kernel, by decide +kernel⟩
structure Fs where
  f_whole_within : Addr
  d_whole_within : FuncData
  f_checked : Addr
  d_checked : FuncData
  f_shown : Addr
  d_shown : FuncData
  f_number_of : Addr
  d_number_of : FuncData
  f_read : Addr
  d_read : FuncData
  f__law_cell_at : Addr
  d__law_cell_at : FuncData
  f__law_whole : Addr
  d__law_whole : FuncData
  f__law_sign_by : Addr
  d__law_sign_by : FuncData
  f__law_figures : Addr
  d__law_figures : FuncData
  f__law_due_of : Addr
  d__law_due_of : FuncData
  f__law_names : Addr
  d__law_names : FuncData
  f__law_alike : Addr
  d__law_alike : FuncData
  f__law_good : Addr
  d__law_good : FuncData
  f__law_odd_line : Addr
  d__law_odd_line : FuncData
  dummy : Unit := ()
structure Txt (K : PySem.W.Frag) (mg : Str → Option Value) (c : Cs) (q : Fs) : Prop where
  F_whole_within : Fun K "whole_within" "whole_within" s_whole_within q.f_whole_within q.d_whole_within
  g_whole_within : mg "whole_within" = some (.ref q.f_whole_within)
  b_whole_within : Binds K q.d_whole_within ["thing", "low", "high"] []
  F_checked : Fun K "checked" "checked" s_checked q.f_checked q.d_checked
  g_checked : mg "checked" = some (.ref q.f_checked)
  b_checked : Binds K q.d_checked ["thing"] []
  F_shown : Fun K "shown" "shown" s_shown q.f_shown q.d_shown
  g_shown : mg "shown" = some (.ref q.f_shown)
  b_shown : Binds K q.d_shown ["wish"] []
  F_number_of : Fun K "number_of" "number_of" s_number_of q.f_number_of q.d_number_of
  g_number_of : mg "number_of" = some (.ref q.f_number_of)
  b_number_of : Binds K q.d_number_of ["word"] []
  F_read : Fun K "read" "read" s_read q.f_read q.d_read
  g_read : mg "read" = some (.ref q.f_read)
  b_read : Binds K q.d_read ["line"] []
  F__law_cell_at : Fun K "_law_cell_at" "_law_cell_at" s__law_cell_at q.f__law_cell_at q.d__law_cell_at
  g__law_cell_at : mg "_law_cell_at" = some (.ref q.f__law_cell_at)
  b__law_cell_at : Binds K q.d__law_cell_at ["_law_script", "_law_k"] []
  F__law_whole : Fun K "_law_whole" "_law_whole" s__law_whole q.f__law_whole q.d__law_whole
  g__law_whole : mg "_law_whole" = some (.ref q.f__law_whole)
  b__law_whole : Binds K q.d__law_whole ["_law_thing"] []
  F__law_sign_by : Fun K "_law_sign_by" "_law_sign_by" s__law_sign_by q.f__law_sign_by q.d__law_sign_by
  g__law_sign_by : mg "_law_sign_by" = some (.ref q.f__law_sign_by)
  b__law_sign_by : Binds K q.d__law_sign_by ["_law_cell"] []
  F__law_figures : Fun K "_law_figures" "_law_figures" s__law_figures q.f__law_figures q.d__law_figures
  g__law_figures : mg "_law_figures" = some (.ref q.f__law_figures)
  b__law_figures : Binds K q.d__law_figures ["_law_word"] []
  F__law_due_of : Fun K "_law_due_of" "_law_due_of" s__law_due_of q.f__law_due_of q.d__law_due_of
  g__law_due_of : mg "_law_due_of" = some (.ref q.f__law_due_of)
  b__law_due_of : Binds K q.d__law_due_of ["_law_line"] []
  F__law_names : Fun K "_law_names" "_law_names" s__law_names q.f__law_names q.d__law_names
  g__law_names : mg "_law_names" = some (.ref q.f__law_names)
  b__law_names : Binds K q.d__law_names ["_law_e"] []
  F__law_alike : Fun K "_law_alike" "_law_alike" s__law_alike q.f__law_alike q.d__law_alike
  g__law_alike : mg "_law_alike" = some (.ref q.f__law_alike)
  b__law_alike : Binds K q.d__law_alike ["_law_found", "_law_due"] []
  F__law_good : Fun K "_law_good" "_law_good" s__law_good q.f__law_good q.d__law_good
  g__law_good : mg "_law_good" = some (.ref q.f__law_good)
  b__law_good : Binds K q.d__law_good ["_law_line"] []
  F__law_odd_line : Fun K "_law_odd_line" "_law_odd_line" s__law_odd_line q.f__law_odd_line q.d__law_odd_line
  g__law_odd_line : mg "_law_odd_line" = some (.ref q.f__law_odd_line)
  b__law_odd_line : Binds K q.d__law_odd_line ["_law_cell"] []
  z_ValueError : mg "ValueError" = none
  z_bool : mg "bool" = none
  z_int : mg "int" = none
  z_isinstance : mg "isinstance" = none
  z_len : mg "len" = none
  z_str : mg "str" = none
  z_tuple : mg "tuple" = none
  m_TOP : ∃ t, mg "TOP" = some (.int 1000000000 t)
  m_MOST : ∃ t, mg "MOST" = some (.int 1000000 t)
  cc_BidError : ClsN K mg "BidError" c.BidError
  cc_BadWish : ClsN K mg "BadWish" c.BadWish
  cc_BadPrice : ClsN K mg "BadPrice" c.BadPrice
  cc_BadPieces : ClsN K mg "BadPieces" c.BadPieces
  cc_Uneven : ClsN K mg "Uneven" c.Uneven
  cc_NoSuch : ClsN K mg "NoSuch" c.NoSuch
  cc_Unread : ClsN K mg "Unread" c.Unread
  er_unread : ErrOk K c .unread
  er_wish : ErrOk K c .wish
  dummy : True := trivial
section
variable {P : Program} {w : World} {K : PySem.W.Frag} {mg : Str → Option Value} {base : Heap} {c : Cs} {q : Fs}
theorem ok_whole_within (T : Txt K mg c q) : FnOk P w K mg base CX0 1 q.f_whole_within q.d_whole_within ["thing", "low", "high"] (spD K (R_whole_within c)) := by
  refine T.F_whole_within.ok sc_whole_within (sp_len (len_whole_within (c := c))) (fun cdv A outer s H vs Q E hr h => ?_)
  refine ⟨t_whole_within K c E0, ?_, run_body h (body_whole_within)⟩
  exact (pss_one (ps_ret (pe_and (pe_callB call_isi (by rfl) T.z_isinstance (by decide +kernel) (pa_cons (pv 0) (pa_cons (pe_bltn (v := .ty "int") (by rfl) T.z_int (by decide +kernel) rfl) pa_nil))) (pe_and (pe_not (pe_callB call_isi (by rfl) T.z_isinstance (by decide +kernel) (pa_cons (pv 0) (pa_cons (pe_bltn (v := .ty "bool") (by rfl) T.z_bool (by decide +kernel) rfl) pa_nil)))) (pe_one (pe_chain op_le op_le (pv 1) (pv 0) (pv 2)))))))
theorem ok_checked (T : Txt K mg c q) : FnOk P w K mg base (L2N.CX P w) 2 q.f_checked q.d_checked ["thing"] (spD K (R_checked c)) := by
  refine T.F_checked.okN sc_checked (sp_len (len_checked (c := c))) (fun cdv A outer s H vs Q E hr h => ?_)
  obtain ⟨_, hm_TOP⟩ := T.m_TOP
  obtain ⟨_, hm_MOST⟩ := T.m_MOST
  refine ⟨t_checked K c E, ?_, run_body h (body_checked)⟩
  exact (pss_cons (ps_if (PW.pt (pw_or (pt_not (pt_val (pe_callB call_isi (by rfl) T.z_isinstance (by decide +kernel) (pa_cons (pv 0) (pa_cons (pe_bltn (v := .ty "tuple") (by rfl) T.z_tuple (by decide +kernel) rfl) pa_nil))))) (pw_or1 (pt_cmpR op_ne (pe_callB call_len_seq (by rfl) T.z_len (by decide +kernel) (pa_cons (pv 0) pa_nil)) pe_int (nomark _))))) (pss_one (ps_raiseN T.cc_BadWish rfl (L2N.takes_of rfl rfl rfl rfl) (by rfl))) pss_nil)
      (pss_cons (ps_if (PW.pt (pw_or (pt_not (pt_val (pe_callB call_isi (by rfl) T.z_isinstance (by decide +kernel) (pa_cons (pe_ix ix_tup (pv 0) pe_int (fun _ _ => rfl)) (pa_cons (pe_bltn (v := .ty "str") (by rfl) T.z_str (by decide +kernel) rfl) pa_nil))))) (pw_or1 (pt_cmpR op_notIn_seq (pe_ix ix_tup (pv 0) pe_int (fun _ _ => rfl)) (pe_tup (pa_cons pe_str (pa_cons pe_str pa_nil))) (by rfl))))) (pss_one (ps_raiseN T.cc_BadWish rfl (L2N.takes_of rfl rfl rfl rfl) (by rfl))) pss_nil)
      (pss_cons (ps_if (PW.pt (pw_or (pt_not (pt_val (pe_call (ok_whole_within T) (hr.mono (by decide)) (by rfl) T.g_whole_within T.F_whole_within.kp T.b_whole_within .nil pass0 (pa_cons (pe_ix ix_tup (pv 0) pe_int (fun _ _ => rfl)) (pa_cons pe_int (pa_cons (pe_glob rfl hm_TOP ⟨_, rfl⟩) pa_nil)))))) (pw_or1 (pt_not (pt_val (pe_call (ok_whole_within T) (hr.mono (by decide)) (by rfl) T.g_whole_within T.F_whole_within.kp T.b_whole_within .nil pass0 (pa_cons (pe_ix ix_tup (pv 0) pe_int (fun _ _ => rfl)) (pa_cons pe_int (pa_cons (pe_glob rfl hm_MOST ⟨_, rfl⟩) pa_nil))))))))) (pss_one (ps_raiseN T.cc_BadWish rfl (L2N.takes_of rfl rfl rfl rfl) (by rfl))) pss_nil)
      (pss_one (ps_ret (pv 0))))))
theorem ok_shown (T : Txt K mg c q) : FnOk P w K mg base CX0 1 q.f_shown q.d_shown ["wish"] (spD K (R_shown c)) := by
  refine T.F_shown.ok sc_shown (sp_len (len_shown (c := c))) (fun cdv A outer s H vs Q E hr h => ?_)
  refine ⟨t_shown K c E0, ?_, run_body h (body_shown)⟩
  exact (pss_one (ps_ret (pe_op op_add_str (pe_op op_add_str (pe_op op_add_str (pe_op op_add_str (pe_ix ix_tup (pv 0) pe_int (fun _ _ => rfl)) pe_str) (pe_callTy call_str_int (by rfl) T.z_str (by decide +kernel) (pa_cons (pe_ix ix_tup (pv 0) pe_int (fun _ _ => rfl)) pa_nil))) pe_str) (pe_callTy call_str_int (by rfl) T.z_str (by decide +kernel) (pa_cons (pe_ix ix_tup (pv 0) pe_int (fun _ _ => rfl)) pa_nil)))))
theorem ok_number_of (T : Txt K mg c q) : FnOk P w K mg base (L2N.CX P w) 2 q.f_number_of q.d_number_of ["word"] (spD K (R_number_of c)) := by
  refine T.F_number_of.okN sc_number_of (sp_len (len_number_of (c := c))) (fun cdv A outer s H vs Q E hr h => ?_)
  refine ⟨t_number_of K c E, ?_, run_body h (body_number_of)⟩
  exact (pss_cons (ps_if (PW.pt (pw_or (pt_not (pt_chain op_le op_le pe_int (pe_callB call_len_str (by rfl) T.z_len (by decide +kernel) (pa_cons (pv 0) pa_nil)) pe_int)) (pw_or1 (PW.pt (pw_and (pt_cmpR op_eq (pe_ix ix_str (pv 0) pe_int (fun _ _ => rfl)) pe_str (nomark _)) (pw_and1 (pt_cmpR op_gt (pe_callB call_len_str (by rfl) T.z_len (by decide +kernel) (pa_cons (pv 0) pa_nil)) pe_int (nomark _)))))))) (pss_one (ps_raiseN T.cc_Unread rfl (L2N.takes_of rfl rfl rfl rfl) (by rfl))) pss_nil)
      (pss_cons (ps_for (L2.passes_of rfl) rfl (pi_str (pv 0)) (pg_name (i := 1) sc_number_of.nd rfl (by first | exact Or.inl rfl | exact Or.inr rfl)) (pss_one (ps_if (pt_cmpR op_notIn_sign (pv 1) pe_str (by rfl)) (pss_one (ps_raiseN T.cc_Unread rfl (L2N.takes_of rfl rfl rfl rfl) (by rfl))) pss_nil)))
      (pss_one (ps_ret (pe_callTy call_int_str (by rfl) T.z_int (by decide +kernel) (pa_cons (pv 0) pa_nil))))))
theorem ok_read (T : Txt K mg c q) : FnOk P w K mg base (L2N.CX P w) 3 q.f_read q.d_read ["line"] (spD K (R_read c)) := by
  refine T.F_read.okN sc_read (sp_len (len_read (c := c))) (fun cdv A outer s H vs Q E hr h => ?_)
  refine ⟨t_read K c E, ?_, run_body h (body_read)⟩
  exact (pss_cons (ps_set (i := 1) sc_read.nd rfl (by first | exact Or.inl rfl | exact Or.inr rfl) (pe_split (pv 0) pe_str))
      (pss_cons (ps_if (PW.pt (pw_or (pt_cmpR op_ne (pe_callB call_len_seq (by rfl) T.z_len (by decide +kernel) (pa_cons (pv 1) pa_nil)) pe_int (nomark _)) (pw_or (pt_cmpR op_notIn_seq (pe_ix ix_list (pv 1) pe_int (fun _ _ => rfl)) (pe_tup (pa_cons pe_str (pa_cons pe_str pa_nil))) (by rfl)) (pw_or1 (pt_cmpR op_ne (pe_ix ix_list (pv 1) pe_int (fun _ _ => rfl)) pe_str (nomark _)))))) (pss_one (ps_raiseN T.cc_Unread rfl (L2N.takes_of rfl rfl rfl rfl) (by rfl))) pss_nil)
      (pss_cons (ps_set (i := 2) sc_read.nd rfl (by first | exact Or.inl rfl | exact Or.inr rfl) (pe_call (ok_number_of T) (hr.mono (by decide)) (by rfl) T.g_number_of T.F_number_of.kp T.b_number_of .nil (L2N.passes_call (L2N.takes_of rfl rfl rfl rfl) (fun _ _ _ _ h => h)) (pa_cons (pe_ix ix_list (pv 1) pe_int (fun _ _ => rfl)) pa_nil)))
      (pss_one (ps_ret (pe_call (ok_checked T) (hr.mono (by decide)) (by rfl) T.g_checked T.F_checked.kp T.b_checked .nil (L2N.passes_call (L2N.takes_of rfl rfl rfl rfl) (fun _ _ _ _ h => h)) (pa_cons (pe_tup (pa_cons (pe_ix ix_list (pv 1) pe_int (fun _ _ => rfl)) (pa_cons (pe_call (ok_number_of T) (hr.mono (by decide)) (by rfl) T.g_number_of T.F_number_of.kp T.b_number_of .nil (L2N.passes_call (L2N.takes_of rfl rfl rfl rfl) (fun _ _ _ _ h => h)) (pa_cons (pe_ix ix_list (pv 1) pe_int (fun _ _ => rfl)) pa_nil)) (pa_cons (pv 2) pa_nil)))) pa_nil)))))))
theorem ok__law_cell_at (T : Txt K mg c q) : FnOk P w K mg base CX0 1 q.f__law_cell_at q.d__law_cell_at ["_law_script", "_law_k"] (spD K (R__law_cell_at c)) := by
  refine T.F__law_cell_at.ok sc__law_cell_at (sp_len (len__law_cell_at (c := c))) (fun cdv A outer s H vs Q E hr h => ?_)
  refine ⟨t__law_cell_at K c E0, ?_, run_body h (body__law_cell_at)⟩
  exact (pss_cons (ps_if (pt_cmpR op_lt (pv 1) (pe_callB call_len_seq (by rfl) T.z_len (by decide +kernel) (pa_cons (pv 0) pa_nil)) (nomark _)) (pss_one (ps_ret (pe_ix ix_list (pv 0) (pv 1) (fun _ _ => rfl)))) pss_nil)
      (pss_one (ps_ret pe_int)))
theorem ok__law_whole (T : Txt K mg c q) : FnOk P w K mg base CX0 1 q.f__law_whole q.d__law_whole ["_law_thing"] (spD K (R__law_whole c)) := by
  refine T.F__law_whole.ok sc__law_whole (sp_len (len__law_whole (c := c))) (fun cdv A outer s H vs Q E hr h => ?_)
  refine ⟨t__law_whole K c E0, ?_, run_body h (body__law_whole)⟩
  exact (pss_one (ps_ret (pe_and (pe_callB call_isi (by rfl) T.z_isinstance (by decide +kernel) (pa_cons (pv 0) (pa_cons (pe_bltn (v := .ty "int") (by rfl) T.z_int (by decide +kernel) rfl) pa_nil))) (pe_one (pe_not (pe_callB call_isi (by rfl) T.z_isinstance (by decide +kernel) (pa_cons (pv 0) (pa_cons (pe_bltn (v := .ty "bool") (by rfl) T.z_bool (by decide +kernel) rfl) pa_nil))))))))
theorem ok__law_sign_by (T : Txt K mg c q) : FnOk P w K mg base CX0 1 q.f__law_sign_by q.d__law_sign_by ["_law_cell"] (spD K (R__law_sign_by c)) := by
  refine T.F__law_sign_by.ok sc__law_sign_by (sp_len (len__law_sign_by (c := c))) (fun cdv A outer s H vs Q E hr h => ?_)
  refine ⟨t__law_sign_by K c E0, ?_, run_body h (body__law_sign_by)⟩
  exact (pss_cons (ps_set (i := 1) sc__law_sign_by.nd rfl (by first | exact Or.inl rfl | exact Or.inr rfl) pe_str)
      (pss_cons (ps_set (i := 1) sc__law_sign_by.nd rfl (by first | exact Or.inl rfl | exact Or.inr rfl) (pe_op op_add_str (pv 1) pe_str))
      (pss_one (ps_ret (pe_ix ix_str (pv 1) (pe_op op_mod (pv 0) pe_int) (fun _ _ => rfl))))))
theorem ok__law_figures (T : Txt K mg c q) : FnOk P w K mg base CX0 1 q.f__law_figures q.d__law_figures ["_law_word"] (spD K (R__law_figures c)) := by
  refine T.F__law_figures.ok sc__law_figures (sp_len (len__law_figures (c := c))) (fun cdv A outer s H vs Q E hr h => ?_)
  refine ⟨t__law_figures K c E0, ?_, run_body h (body__law_figures)⟩
  exact (pss_cons (ps_if (PW.pt (pw_or (pt_cmpR op_lt (pe_callB call_len_str (by rfl) T.z_len (by decide +kernel) (pa_cons (pv 0) pa_nil)) pe_int (nomark _)) (pw_or (pt_cmpR op_gt (pe_callB call_len_str (by rfl) T.z_len (by decide +kernel) (pa_cons (pv 0) pa_nil)) pe_int (nomark _)) (pw_or1 (PW.pt (pw_and (pt_cmpR op_gt (pe_callB call_len_str (by rfl) T.z_len (by decide +kernel) (pa_cons (pv 0) pa_nil)) pe_int (nomark _)) (pw_and1 (pt_cmpR op_eq (pe_ix ix_str (pv 0) pe_int (fun _ _ => rfl)) pe_str (nomark _))))))))) (pss_one (ps_ret (pe_un un_neg pe_int))) pss_nil)
      (pss_cons (ps_for PassesOwn.never rfl (pi_str (pv 0)) (pg_name (i := 1) sc__law_figures.nd rfl (by first | exact Or.inl rfl | exact Or.inr rfl)) (pss_one (ps_if (pt_cmpR op_notIn_sign (pv 1) pe_str (by rfl)) (pss_one (ps_ret (pe_un un_neg pe_int))) pss_nil)))
      (pss_one (ps_ret (pe_callTy call_int_str (by rfl) T.z_int (by decide +kernel) (pa_cons (pv 0) pa_nil))))))
theorem ok__law_due_of (T : Txt K mg c q) : FnOk P w K mg base CX0 2 q.f__law_due_of q.d__law_due_of ["_law_line"] (spD K (R__law_due_of c)) := by
  refine T.F__law_due_of.ok sc__law_due_of (sp_len (len__law_due_of (c := c))) (fun cdv A outer s H vs Q E hr h => ?_)
  refine ⟨t__law_due_of K c E0, ?_, run_body h (body__law_due_of)⟩
  exact (pss_cons (ps_set (i := 1) sc__law_due_of.nd rfl (by first | exact Or.inl rfl | exact Or.inr rfl) (pe_split (pv 0) pe_str))
      (pss_cons (ps_if (PW.pt (pw_or (pt_cmpR op_ne (pe_callB call_len_seq (by rfl) T.z_len (by decide +kernel) (pa_cons (pv 1) pa_nil)) pe_int (nomark _)) (pw_or (PW.pt (pw_and (pt_cmpR op_ne (pe_ix ix_list (pv 1) pe_int (fun _ _ => rfl)) pe_str (nomark _)) (pw_and1 (pt_cmpR op_ne (pe_ix ix_list (pv 1) pe_int (fun _ _ => rfl)) pe_str (nomark _))))) (pw_or1 (pt_cmpR op_ne (pe_ix ix_list (pv 1) pe_int (fun _ _ => rfl)) pe_str (nomark _)))))) (pss_one (ps_ret pe_str)) pss_nil)
      (pss_cons (ps_set (i := 2) sc__law_due_of.nd rfl (by first | exact Or.inl rfl | exact Or.inr rfl) (pe_call (ok__law_figures T) (hr.mono (by decide)) (by rfl) T.g__law_figures T.F__law_figures.kp T.b__law_figures .nil pass0 (pa_cons (pe_ix ix_list (pv 1) pe_int (fun _ _ => rfl)) pa_nil)))
      (pss_cons (ps_set (i := 3) sc__law_due_of.nd rfl (by first | exact Or.inl rfl | exact Or.inr rfl) (pe_call (ok__law_figures T) (hr.mono (by decide)) (by rfl) T.g__law_figures T.F__law_figures.kp T.b__law_figures .nil pass0 (pa_cons (pe_ix ix_list (pv 1) pe_int (fun _ _ => rfl)) pa_nil)))
      (pss_cons (ps_if (PW.pt (pw_or (pt_cmpR op_lt (pv 2) pe_int (nomark _)) (pw_or1 (pt_cmpR op_lt (pv 3) pe_int (nomark _))))) (pss_one (ps_ret pe_str)) pss_nil)
      (pss_cons (ps_if (PW.pt (pw_or (pt_not (pt_chain op_le op_le pe_int (pv 2) pe_int)) (pw_or1 (pt_cmpR op_gt (pv 3) pe_int (nomark _))))) (pss_one (ps_ret pe_str)) pss_nil)
      (pss_one (ps_ret (pe_tup (pa_cons (pe_ix ix_list (pv 1) pe_int (fun _ _ => rfl)) (pa_cons (pv 3) (pa_cons (pv 2) pa_nil))))))))))))
theorem hot_names (T : Txt K mg c q) {a : Addr} {oe : Obj} {cls : Value} {d : Option Addr} (hz : L2N.Zn cls d oe) (hf : ∃ vs, oe.data = .fields vs) : HotOk P w K mg base 1 q.f__law_names q.d__law_names ["_law_e"] (a, oe) (spN K c a cls d) := by
  refine hot_fun T.F__law_names sc__law_names (fun cdv A outer s H vs Q hr h => ?_)
  obtain ⟨D, rfl, rfl, X, h⟩ := h
  refine ⟨t_names K c (c.at D) a, ?_, run_body h (body_names X)⟩
  exact (pss_cons (ps_set (i := 1) sc__law_names.nd rfl (by first | exact Or.inl rfl | exact Or.inr rfl) pe_str)
      (pss_cons (ps_if (pt_val (pe_callB (call_isP X.exc hz.zc hf List.mem_cons_self) (by rfl) T.z_isinstance (by decide +kernel) (pa_cons (pv 0) (pa_cons (pe_glob rfl T.cc_BadWish.gC rfl) pa_nil)))) (pss_one (ps_set (i := 1) sc__law_names.nd rfl (by first | exact Or.inl rfl | exact Or.inr rfl) (pe_op op_add_str (pv 1) pe_str))) pss_nil)
      (pss_cons (ps_if (pt_val (pe_callB (call_isP X.exc hz.zc hf List.mem_cons_self) (by rfl) T.z_isinstance (by decide +kernel) (pa_cons (pv 0) (pa_cons (pe_glob rfl T.cc_BadPrice.gC rfl) pa_nil)))) (pss_one (ps_set (i := 1) sc__law_names.nd rfl (by first | exact Or.inl rfl | exact Or.inr rfl) (pe_op op_add_str (pv 1) pe_str))) pss_nil)
      (pss_cons (ps_if (pt_val (pe_callB (call_isP X.exc hz.zc hf List.mem_cons_self) (by rfl) T.z_isinstance (by decide +kernel) (pa_cons (pv 0) (pa_cons (pe_glob rfl T.cc_BadPieces.gC rfl) pa_nil)))) (pss_one (ps_set (i := 1) sc__law_names.nd rfl (by first | exact Or.inl rfl | exact Or.inr rfl) (pe_op op_add_str (pv 1) pe_str))) pss_nil)
      (pss_cons (ps_if (pt_val (pe_callB (call_isP X.exc hz.zc hf List.mem_cons_self) (by rfl) T.z_isinstance (by decide +kernel) (pa_cons (pv 0) (pa_cons (pe_glob rfl T.cc_Uneven.gC rfl) pa_nil)))) (pss_one (ps_set (i := 1) sc__law_names.nd rfl (by first | exact Or.inl rfl | exact Or.inr rfl) (pe_op op_add_str (pv 1) pe_str))) pss_nil)
      (pss_cons (ps_if (pt_val (pe_callB (call_isP X.exc hz.zc hf List.mem_cons_self) (by rfl) T.z_isinstance (by decide +kernel) (pa_cons (pv 0) (pa_cons (pe_glob rfl T.cc_NoSuch.gC rfl) pa_nil)))) (pss_one (ps_set (i := 1) sc__law_names.nd rfl (by first | exact Or.inl rfl | exact Or.inr rfl) (pe_op op_add_str (pv 1) pe_str))) pss_nil)
      (pss_cons (ps_if (pt_val (pe_callB (call_isP X.exc hz.zc hf List.mem_cons_self) (by rfl) T.z_isinstance (by decide +kernel) (pa_cons (pv 0) (pa_cons (pe_glob rfl T.cc_Unread.gC rfl) pa_nil)))) (pss_one (ps_set (i := 1) sc__law_names.nd rfl (by first | exact Or.inl rfl | exact Or.inr rfl) (pe_op op_add_str (pv 1) pe_str))) pss_nil)
      (pss_cons (ps_if (pt_not (pt_val (pe_callB (call_isP X.exc hz.zc hf List.mem_cons_self) (by rfl) T.z_isinstance (by decide +kernel) (pa_cons (pv 0) (pa_cons (pe_bltn (v := .ty "ValueError") (by rfl) T.z_ValueError (by decide +kernel) rfl) pa_nil))))) (pss_one (ps_set (i := 1) sc__law_names.nd rfl (by first | exact Or.inl rfl | exact Or.inr rfl) pe_str)) pss_nil)
      (pss_one (ps_ret (pv 1)))))))))))
theorem ok__law_alike (T : Txt K mg c q) : FnOk P w K mg base CX0 2 q.f__law_alike q.d__law_alike ["_law_found", "_law_due"] (spD K (R__law_alike c)) := by
  refine T.F__law_alike.ok sc__law_alike (sp_len (len__law_alike (c := c))) (fun cdv A outer s H vs Q E hr h => ?_)
  refine ⟨t__law_alike K c E0, ?_, run_body h (body__law_alike)⟩
  exact (pss_cons (ps_if (PW.pt (pw_or (pt_not (pt_val (pe_callB call_isi (by rfl) T.z_isinstance (by decide +kernel) (pa_cons (pv 0) (pa_cons (pe_bltn (v := .ty "tuple") (by rfl) T.z_tuple (by decide +kernel) rfl) pa_nil))))) (pw_or (pt_cmpR op_ne (pe_callB call_len_seq (by rfl) T.z_len (by decide +kernel) (pa_cons (pv 0) pa_nil)) pe_int (nomark _)) (pw_or1 (pt_not (pt_val (pe_callB call_isi (by rfl) T.z_isinstance (by decide +kernel) (pa_cons (pe_ix ix_tup (pv 0) pe_int (fun _ _ => rfl)) (pa_cons (pe_bltn (v := .ty "str") (by rfl) T.z_str (by decide +kernel) rfl) pa_nil))))))))) (pss_one (ps_ret pe_bl)) pss_nil)
      (pss_one (ps_ret (pe_and (pe_call (ok__law_whole T) (hr.mono (by decide)) (by rfl) T.g__law_whole T.F__law_whole.kp T.b__law_whole .nil pass0 (pa_cons (pe_ix ix_tup (pv 0) pe_int (fun _ _ => rfl)) pa_nil)) (pe_and (pe_call (ok__law_whole T) (hr.mono (by decide)) (by rfl) T.g__law_whole T.F__law_whole.kp T.b__law_whole .nil pass0 (pa_cons (pe_ix ix_tup (pv 0) pe_int (fun _ _ => rfl)) pa_nil)) (pe_one (pe_cmpR (op_eqD hr.units) (pv 0) (pv 1) (nomark _))))))))
theorem ok__law_good (T : Txt K mg c q) : FnOk P w K mg base CX0 4 q.f__law_good q.d__law_good ["_law_line"] (spD K (R__law_good c)) := by
  refine T.F__law_good.ok sc__law_good (sp_len (len__law_good (c := c))) (fun cdv A outer s H vs Q E hr h => ?_)
  refine ⟨t__law_good K c E0, ?_, run_body h (body__law_good T.er_unread T.er_wish)⟩
  exact (pss_cons (ps_set (i := 1) sc__law_good.nd rfl (by first | exact Or.inl rfl | exact Or.inr rfl) (pe_call (ok__law_due_of T) (hr.mono (by decide)) (by rfl) T.g__law_due_of T.F__law_due_of.kp T.b__law_due_of .nil pass0 (pa_cons (pv 0) pa_nil)))
      (pss_cons (L2N.ps_try_as (i := 2) (c := .ref c.BidError) (tb := fun W => (tAsg (tCallS (spD K (R_read c)) (WE W) (tCons (tVar 0) tNil)) (gName 3))) (ts := fun a cls d => (tRet (tAndV (tCB (rIsi K) (tCons (tVar 1) (tCons (tC (.ty "str")) tNil))) (tOp (rEqD K) (tHot (spN K c a cls d) 2) (tVar 1))))) (Wout := fun _ _ _ _ => False) rfl rfl sc__law_good.nd rfl rfl ⟨by rfl, by decide, Or.inl T.cc_BidError.gC⟩ takes0N (fun W pn xe tk _ => (pss_one (ps_set (i := 3) sc__law_good.nd rfl (by first | exact Or.inl rfl | exact Or.inr rfl) (pe_callS (ok_read T) (hr.mono (by decide)) (by rfl) T.g_read T.F_read.kp T.b_read (fun σ => L2N.passAt tk σ) (pa_cons (pv 0) pa_nil))))) (fun a oe cls d pn hz hf => (pss_one (ps_ret (pe_and (pe_callB call_isi (by rfl) T.z_isinstance (by decide +kernel) (pa_cons (pv 1) (pa_cons (pe_bltn (v := .ty "str") (by rfl) T.z_str (by decide +kernel) rfl) pa_nil))) (pe_one (pe_cmpR (op_eqD hr.units) (pe_hot (hot_names T hz hf) ⟨(Room.mono (j := 1) hr (by decide)).dp, (Room.mono (j := 1) hr (by decide)).un⟩ (hot_of hz hf) List.mem_cons_self (by rfl) T.g__law_names T.F__law_names.kp T.b__law_names (pv 2)) (pv 1) (nomark _))))))))
      (pss_one (ps_ret (pe_and (pe_callB call_isi (by rfl) T.z_isinstance (by decide +kernel) (pa_cons (pv 1) (pa_cons (pe_bltn (v := .ty "tuple") (by rfl) T.z_tuple (by decide +kernel) rfl) pa_nil))) (pe_one (pe_call (ok__law_alike T) (hr.mono (by decide)) (by rfl) T.g__law_alike T.F__law_alike.kp T.b__law_alike .nil pass0 (pa_cons (pv 3) (pa_cons (pv 1) pa_nil)))))))))
theorem ok__law_odd_line (T : Txt K mg c q) : FnOk P w K mg base CX0 1 q.f__law_odd_line q.d__law_odd_line ["_law_cell"] (spD K (R__law_odd_line c)) := by
  refine T.F__law_odd_line.ok sc__law_odd_line (sp_len (len__law_odd_line (c := c))) (fun cdv A outer s H vs Q E hr h => ?_)
  refine ⟨t__law_odd_line K c E0, ?_, run_body h (body__law_odd_line)⟩
  exact (pss_cons (ps_set (i := 1) sc__law_odd_line.nd rfl (by first | exact Or.inl rfl | exact Or.inr rfl) (pe_lst (pa_cons pe_str (pa_cons pe_str (pa_cons pe_str (pa_cons pe_str (pa_cons pe_str (pa_cons pe_str (pa_cons pe_str (pa_cons pe_str (pa_cons pe_str pa_nil)))))))))))
      (pss_cons (ps_set (i := 1) sc__law_odd_line.nd rfl (by first | exact Or.inl rfl | exact Or.inr rfl) (pe_op op_cat (pv 1) (pe_lst (pa_cons pe_str (pa_cons pe_str (pa_cons pe_str (pa_cons pe_str (pa_cons pe_str (pa_cons pe_str pa_nil)))))))))
      (pss_cons (ps_set (i := 1) sc__law_odd_line.nd rfl (by first | exact Or.inl rfl | exact Or.inr rfl) (pe_op op_cat (pv 1) (pe_lst (pa_cons pe_str (pa_cons pe_str (pa_cons pe_str (pa_cons pe_str pa_nil)))))))
      (pss_cons (ps_set (i := 1) sc__law_odd_line.nd rfl (by first | exact Or.inl rfl | exact Or.inr rfl) (pe_op op_cat (pv 1) (pe_lst (pa_cons pe_str (pa_cons pe_str (pa_cons pe_str (pa_cons pe_str (pa_cons pe_str pa_nil))))))))
      (pss_cons (ps_set (i := 1) sc__law_odd_line.nd rfl (by first | exact Or.inl rfl | exact Or.inr rfl) (pe_op op_cat (pv 1) (pe_lst (pa_cons pe_str (pa_cons pe_str (pa_cons pe_str (pa_cons pe_str (pa_cons pe_str pa_nil))))))))
      (pss_cons (ps_set (i := 1) sc__law_odd_line.nd rfl (by first | exact Or.inl rfl | exact Or.inr rfl) (pe_op op_cat (pv 1) (pe_lst (pa_cons pe_str pa_nil))))
      (pss_one (ps_ret (pe_ix ix_list (pv 1) (pe_op op_mod (pv 0) pe_int) (fun _ _ => rfl))))))))))
theorem ok_law {f : Addr} {fd : FuncData} (F : Fun K "law" "law" s_law f fd) (T : Txt K mg c q) : FnOk P w K mg base CX0 5 f fd ["_law_script"] (spD K (R_law c)) := by
  refine F.ok sc_law (sp_len (len_law (c := c))) (fun cdv A outer s H vs Q E hr h => ?_)
  refine ⟨t_law K c E0, ?_, run_body h (body_law)⟩
  exact (pss_cons (ps_set (i := 1) sc_law.nd rfl (by first | exact Or.inl rfl | exact Or.inr rfl) (pe_call (ok__law_cell_at T) (hr.mono (by decide)) (by rfl) T.g__law_cell_at T.F__law_cell_at.kp T.b__law_cell_at .nil pass0 (pa_cons (pv 0) (pa_cons pe_int pa_nil))))
      (pss_cons (ps_set (i := 2) sc_law.nd rfl (by first | exact Or.inl rfl | exact Or.inr rfl) (pe_ix ix_list (pe_lst (pa_cons pe_str (pa_cons pe_str pa_nil))) (pe_op op_mod (pe_call (ok__law_cell_at T) (hr.mono (by decide)) (by rfl) T.g__law_cell_at T.F__law_cell_at.kp T.b__law_cell_at .nil pass0 (pa_cons (pv 0) (pa_cons pe_int pa_nil))) pe_int) (fun _ _ => rfl)))
      (pss_cons (ps_set (i := 3) sc_law.nd rfl (by first | exact Or.inl rfl | exact Or.inr rfl) (pe_op op_mod (pv 1) pe_int))
      (pss_cons (ps_set (i := 4) sc_law.nd rfl (by first | exact Or.inl rfl | exact Or.inr rfl) (pe_op op_add pe_int (pe_op op_mod (pe_call (ok__law_cell_at T) (hr.mono (by decide)) (by rfl) T.g__law_cell_at T.F__law_cell_at.kp T.b__law_cell_at .nil pass0 (pa_cons (pv 0) (pa_cons pe_int pa_nil))) pe_int)))
      (pss_cons (ps_if (pt_cmpR op_eq (pe_op op_mod (pe_call (ok__law_cell_at T) (hr.mono (by decide)) (by rfl) T.g__law_cell_at T.F__law_cell_at.kp T.b__law_cell_at .nil pass0 (pa_cons (pv 0) (pa_cons pe_int pa_nil))) pe_int) pe_int (nomark _)) (pss_one (ps_set (i := 3) sc_law.nd rfl (by first | exact Or.inl rfl | exact Or.inr rfl) (pe_ix ix_list (pe_lst (pa_cons pe_int (pa_cons pe_int (pa_cons pe_int (pa_cons pe_int pa_nil))))) (pe_op op_mod (pe_op op_fdiv (pe_call (ok__law_cell_at T) (hr.mono (by decide)) (by rfl) T.g__law_cell_at T.F__law_cell_at.kp T.b__law_cell_at .nil pass0 (pa_cons (pv 0) (pa_cons pe_int pa_nil))) pe_int) pe_int) (fun _ _ => rfl)))) pss_nil)
      (pss_cons (ps_if (pt_cmpR op_eq (pe_op op_mod (pe_call (ok__law_cell_at T) (hr.mono (by decide)) (by rfl) T.g__law_cell_at T.F__law_cell_at.kp T.b__law_cell_at .nil pass0 (pa_cons (pv 0) (pa_cons pe_int pa_nil))) pe_int) pe_int (nomark _)) (pss_one (ps_set (i := 4) sc_law.nd rfl (by first | exact Or.inl rfl | exact Or.inr rfl) (pe_ix ix_list (pe_lst (pa_cons pe_int (pa_cons pe_int (pa_cons pe_int (pa_cons pe_int pa_nil))))) (pe_op op_mod (pe_op op_fdiv (pe_call (ok__law_cell_at T) (hr.mono (by decide)) (by rfl) T.g__law_cell_at T.F__law_cell_at.kp T.b__law_cell_at .nil pass0 (pa_cons (pv 0) (pa_cons pe_int pa_nil))) pe_int) pe_int) (fun _ _ => rfl)))) pss_nil)
      (pss_cons (ps_set (i := 5) sc_law.nd rfl (by first | exact Or.inl rfl | exact Or.inr rfl) (pe_op op_add_str (pe_op op_add_str (pe_op op_add_str (pe_op op_add_str (pv 2) pe_str) (pe_callTy call_str_int (by rfl) T.z_str (by decide +kernel) (pa_cons (pv 4) pa_nil))) pe_str) (pe_callTy call_str_int (by rfl) T.z_str (by decide +kernel) (pa_cons (pv 3) pa_nil))))
      (pss_cons (ps_set (i := 6) sc_law.nd rfl (by first | exact Or.inl rfl | exact Or.inr rfl) (pe_call (ok_shown T) (hr.mono (by decide)) (by rfl) T.g_shown T.F_shown.kp T.b_shown .nil pass0 (pa_cons (pe_tup (pa_cons (pv 2) (pa_cons (pv 3) (pa_cons (pv 4) pa_nil)))) pa_nil)))
      (pss_cons (ps_if (PW.pt (pw_or (pt_not (pt_val (pe_callB call_isi (by rfl) T.z_isinstance (by decide +kernel) (pa_cons (pv 6) (pa_cons (pe_bltn (v := .ty "str") (by rfl) T.z_str (by decide +kernel) rfl) pa_nil))))) (pw_or (pt_cmpR op_ne (pv 6) (pv 5) (nomark _)) (pw_or1 (pt_not (pt_val (pe_call (ok__law_good T) (hr.mono (by decide)) (by rfl) T.g__law_good T.F__law_good.kp T.b__law_good .nil pass0 (pa_cons (pv 5) pa_nil)))))))) (pss_one (ps_ret pe_bl)) pss_nil)
      (pss_cons (ps_set (i := 7) sc_law.nd rfl (by first | exact Or.inl rfl | exact Or.inr rfl) (pe_op op_mod (pe_call (ok__law_cell_at T) (hr.mono (by decide)) (by rfl) T.g__law_cell_at T.F__law_cell_at.kp T.b__law_cell_at .nil pass0 (pa_cons (pv 0) (pa_cons pe_int pa_nil))) pe_int))
      (pss_cons (ps_set (i := 8) sc_law.nd rfl (by first | exact Or.inl rfl | exact Or.inr rfl) (pe_op op_mod (pe_call (ok__law_cell_at T) (hr.mono (by decide)) (by rfl) T.g__law_cell_at T.F__law_cell_at.kp T.b__law_cell_at .nil pass0 (pa_cons (pv 0) (pa_cons pe_int pa_nil))) (pe_op op_add (pe_callB call_len_str (by rfl) T.z_len (by decide +kernel) (pa_cons (pv 5) pa_nil)) pe_int)))
      (pss_cons (ps_set (i := 9) sc_law.nd rfl (by first | exact Or.inl rfl | exact Or.inr rfl) (pe_call (ok__law_sign_by T) (hr.mono (by decide)) (by rfl) T.g__law_sign_by T.F__law_sign_by.kp T.b__law_sign_by .nil pass0 (pa_cons (pe_call (ok__law_cell_at T) (hr.mono (by decide)) (by rfl) T.g__law_cell_at T.F__law_cell_at.kp T.b__law_cell_at .nil pass0 (pa_cons (pv 0) (pa_cons pe_int pa_nil))) pa_nil)))
      (pss_cons (ps_if (pt_cmpR op_eq (pv 7) pe_int (nomark _)) (pss_one (ps_set (i := 5) sc_law.nd rfl (by first | exact Or.inl rfl | exact Or.inr rfl) (pe_op op_add_str (pe_op op_add_str (pe_slice sl_str (pv 5) po_none (po_some (pv 8))) (pv 9)) (pe_slice sl_str (pv 5) (po_some (pv 8)) po_none)))) pss_nil)
      (pss_cons (ps_if (pt_cmpR op_eq (pv 7) pe_int (nomark _)) (pss_one (ps_set (i := 5) sc_law.nd rfl (by first | exact Or.inl rfl | exact Or.inr rfl) (pe_op op_add_str (pe_slice sl_str (pv 5) po_none (po_some (pv 8))) (pe_slice sl_str (pv 5) (po_some (pe_op op_add (pv 8) pe_int)) po_none)))) pss_nil)
      (pss_cons (ps_if (pt_cmpR op_eq (pv 7) pe_int (nomark _)) (pss_one (ps_set (i := 5) sc_law.nd rfl (by first | exact Or.inl rfl | exact Or.inr rfl) (pe_call (ok__law_odd_line T) (hr.mono (by decide)) (by rfl) T.g__law_odd_line T.F__law_odd_line.kp T.b__law_odd_line .nil pass0 (pa_cons (pe_call (ok__law_cell_at T) (hr.mono (by decide)) (by rfl) T.g__law_cell_at T.F__law_cell_at.kp T.b__law_cell_at .nil pass0 (pa_cons (pv 0) (pa_cons pe_int pa_nil))) pa_nil)))) pss_nil)
      (pss_cons (ps_if (pt_cmpR op_eq (pv 7) pe_int (nomark _)) (pss_cons (ps_set (i := 10) sc_law.nd rfl (by first | exact Or.inl rfl | exact Or.inr rfl) (pe_op op_add_str (pe_ix ix_str pe_str (pe_op op_mod (pe_call (ok__law_cell_at T) (hr.mono (by decide)) (by rfl) T.g__law_cell_at T.F__law_cell_at.kp T.b__law_cell_at .nil pass0 (pa_cons (pv 0) (pa_cons pe_int pa_nil))) pe_int) (fun _ _ => rfl)) (pe_op op_rep_str pe_str (pe_op op_mod (pe_call (ok__law_cell_at T) (hr.mono (by decide)) (by rfl) T.g__law_cell_at T.F__law_cell_at.kp T.b__law_cell_at .nil pass0 (pa_cons (pv 0) (pa_cons pe_int pa_nil))) pe_int))))
      (pss_cons (ps_set (i := 5) sc_law.nd rfl (by first | exact Or.inl rfl | exact Or.inr rfl) (pe_op op_add_str (pe_op op_add_str (pe_op op_add_str (pe_op op_add_str (pv 2) pe_str) (pv 10)) pe_str) (pe_callTy call_str_int (by rfl) T.z_str (by decide +kernel) (pa_cons (pv 3) pa_nil))))
      (pss_cons (ps_if (pt_cmpR op_eq (pe_op op_mod (pe_call (ok__law_cell_at T) (hr.mono (by decide)) (by rfl) T.g__law_cell_at T.F__law_cell_at.kp T.b__law_cell_at .nil pass0 (pa_cons (pv 0) (pa_cons pe_int pa_nil))) pe_int) pe_int (nomark _)) (pss_one (ps_set (i := 5) sc_law.nd rfl (by first | exact Or.inl rfl | exact Or.inr rfl) (pe_op op_add_str (pe_op op_add_str (pe_op op_add_str (pe_op op_add_str (pv 2) pe_str) (pe_callTy call_str_int (by rfl) T.z_str (by decide +kernel) (pa_cons (pv 4) pa_nil))) pe_str) (pv 10)))) pss_nil)
      (pss_one (ps_if (pt_cmpR op_eq (pe_op op_mod (pe_call (ok__law_cell_at T) (hr.mono (by decide)) (by rfl) T.g__law_cell_at T.F__law_cell_at.kp T.b__law_cell_at .nil pass0 (pa_cons (pv 0) (pa_cons pe_int pa_nil))) pe_int) pe_int (nomark _)) (pss_one (ps_set (i := 5) sc_law.nd rfl (by first | exact Or.inl rfl | exact Or.inr rfl) (pe_op op_add_str (pe_op op_add_str (pe_op op_add_str (pe_op op_add_str (pv 2) pe_str) (pv 10)) pe_str) (pv 10)))) pss_nil))))) pss_nil)
      (pss_one (ps_ret (pe_call (ok__law_good T) (hr.mono (by decide)) (by rfl) T.g__law_good T.F__law_good.kp T.b__law_good .nil pass0 (pa_cons (pv 5) pa_nil))))))))))))))))))))
end
theorem all_mk {l : PySem.W.OpenLaw} {w : World} {K : PySem.W.Frag} {h : Heap} {mg : Str → Option Value} {fa : Addr} {f0 f1 f2 f3 f4 f5 f6 f7 f8 f9 f10 f11 f12 f13 f14 : Addr} (X : K.In h) (G : h.Ns mainGlobals mg) (hfa : mg "law" = some (.ref fa))
    {od0 an0 od1 an1 od2 an2 od3 an3 od4 an4 od5 an5 od6 an6 od7 an7 od8 an8 od9 an9 od10 an10 od11 an11 od12 an12 od13 an13 od14 an14 : Option Addr} {sl0 sl1 sl2 sl3 sl4 sl5 sl6 sl7 sl8 sl9 sl10 sl11 sl12 sl13 sl14 : Array (Option Value)} {oc0 kV0 dc0 pm0 cd0 ct0 oc1 kV1 dc1 pm1 cd1 ct1 oc2 kV2 dc2 pm2 cd2 ct2 oc3 kV3 dc3 pm3 cd3 ct3 oc4 kV4 dc4 pm4 cd4 ct4 oc5 kV5 dc5 pm5 cd5 ct5 oc6 kV6 dc6 pm6 cd6 ct6 oc7 kV7 dc7 pm7 cd7 ct7 oc8 kV8 dc8 pm8 cd8 ct8 oc9 kV9 dc9 pm9 cd9 ct9 oc10 kV10 dc10 pm10 cd10 ct10 oc11 kV11 dc11 pm11 cd11 ct11 oc12 kV12 dc12 pm12 cd12 ct12 oc13 kV13 dc13 pm13 cd13 ct13 oc14 kV14 dc14 pm14 cd14 ct14 : Value}
    (a0 : PySem.W.nsIn K mainGlobals "whole_within" = some (some (.ref f0))) (l0 : K.lookup f0 = some ⟨oc0, od0, .func (PySem.W.fnOf "whole_within" "whole_within" (defArgs s_whole_within) (defBody s_whole_within) (defScope s_whole_within) .none kV0 dc0 pm0 an0 cd0 ct0), sl0⟩) (c0 : PySem.W.codeIn K cd0 "whole_within" = true) (k0 : PySem.W.keepIn K (.ref f0) = true)
    (a1 : PySem.W.nsIn K mainGlobals "checked" = some (some (.ref f1))) (l1 : K.lookup f1 = some ⟨oc1, od1, .func (PySem.W.fnOf "checked" "checked" (defArgs s_checked) (defBody s_checked) (defScope s_checked) .none kV1 dc1 pm1 an1 cd1 ct1), sl1⟩) (c1 : PySem.W.codeIn K cd1 "checked" = true) (k1 : PySem.W.keepIn K (.ref f1) = true)
    (a2 : PySem.W.nsIn K mainGlobals "shown" = some (some (.ref f2))) (l2 : K.lookup f2 = some ⟨oc2, od2, .func (PySem.W.fnOf "shown" "shown" (defArgs s_shown) (defBody s_shown) (defScope s_shown) .none kV2 dc2 pm2 an2 cd2 ct2), sl2⟩) (c2 : PySem.W.codeIn K cd2 "shown" = true) (k2 : PySem.W.keepIn K (.ref f2) = true)
    (a3 : PySem.W.nsIn K mainGlobals "number_of" = some (some (.ref f3))) (l3 : K.lookup f3 = some ⟨oc3, od3, .func (PySem.W.fnOf "number_of" "number_of" (defArgs s_number_of) (defBody s_number_of) (defScope s_number_of) .none kV3 dc3 pm3 an3 cd3 ct3), sl3⟩) (c3 : PySem.W.codeIn K cd3 "number_of" = true) (k3 : PySem.W.keepIn K (.ref f3) = true)
    (a4 : PySem.W.nsIn K mainGlobals "read" = some (some (.ref f4))) (l4 : K.lookup f4 = some ⟨oc4, od4, .func (PySem.W.fnOf "read" "read" (defArgs s_read) (defBody s_read) (defScope s_read) .none kV4 dc4 pm4 an4 cd4 ct4), sl4⟩) (c4 : PySem.W.codeIn K cd4 "read" = true) (k4 : PySem.W.keepIn K (.ref f4) = true)
    (a5 : PySem.W.nsIn K mainGlobals "_law_cell_at" = some (some (.ref f5))) (l5 : K.lookup f5 = some ⟨oc5, od5, .func (PySem.W.fnOf "_law_cell_at" "_law_cell_at" (defArgs s__law_cell_at) (defBody s__law_cell_at) (defScope s__law_cell_at) .none kV5 dc5 pm5 an5 cd5 ct5), sl5⟩) (c5 : PySem.W.codeIn K cd5 "_law_cell_at" = true) (k5 : PySem.W.keepIn K (.ref f5) = true)
    (a6 : PySem.W.nsIn K mainGlobals "_law_whole" = some (some (.ref f6))) (l6 : K.lookup f6 = some ⟨oc6, od6, .func (PySem.W.fnOf "_law_whole" "_law_whole" (defArgs s__law_whole) (defBody s__law_whole) (defScope s__law_whole) .none kV6 dc6 pm6 an6 cd6 ct6), sl6⟩) (c6 : PySem.W.codeIn K cd6 "_law_whole" = true) (k6 : PySem.W.keepIn K (.ref f6) = true)
    (a7 : PySem.W.nsIn K mainGlobals "_law_sign_by" = some (some (.ref f7))) (l7 : K.lookup f7 = some ⟨oc7, od7, .func (PySem.W.fnOf "_law_sign_by" "_law_sign_by" (defArgs s__law_sign_by) (defBody s__law_sign_by) (defScope s__law_sign_by) .none kV7 dc7 pm7 an7 cd7 ct7), sl7⟩) (c7 : PySem.W.codeIn K cd7 "_law_sign_by" = true) (k7 : PySem.W.keepIn K (.ref f7) = true)
    (a8 : PySem.W.nsIn K mainGlobals "_law_figures" = some (some (.ref f8))) (l8 : K.lookup f8 = some ⟨oc8, od8, .func (PySem.W.fnOf "_law_figures" "_law_figures" (defArgs s__law_figures) (defBody s__law_figures) (defScope s__law_figures) .none kV8 dc8 pm8 an8 cd8 ct8), sl8⟩) (c8 : PySem.W.codeIn K cd8 "_law_figures" = true) (k8 : PySem.W.keepIn K (.ref f8) = true)
    (a9 : PySem.W.nsIn K mainGlobals "_law_due_of" = some (some (.ref f9))) (l9 : K.lookup f9 = some ⟨oc9, od9, .func (PySem.W.fnOf "_law_due_of" "_law_due_of" (defArgs s__law_due_of) (defBody s__law_due_of) (defScope s__law_due_of) .none kV9 dc9 pm9 an9 cd9 ct9), sl9⟩) (c9 : PySem.W.codeIn K cd9 "_law_due_of" = true) (k9 : PySem.W.keepIn K (.ref f9) = true)
    (a10 : PySem.W.nsIn K mainGlobals "_law_names" = some (some (.ref f10))) (l10 : K.lookup f10 = some ⟨oc10, od10, .func (PySem.W.fnOf "_law_names" "_law_names" (defArgs s__law_names) (defBody s__law_names) (defScope s__law_names) .none kV10 dc10 pm10 an10 cd10 ct10), sl10⟩) (c10 : PySem.W.codeIn K cd10 "_law_names" = true) (k10 : PySem.W.keepIn K (.ref f10) = true)
    (a11 : PySem.W.nsIn K mainGlobals "_law_alike" = some (some (.ref f11))) (l11 : K.lookup f11 = some ⟨oc11, od11, .func (PySem.W.fnOf "_law_alike" "_law_alike" (defArgs s__law_alike) (defBody s__law_alike) (defScope s__law_alike) .none kV11 dc11 pm11 an11 cd11 ct11), sl11⟩) (c11 : PySem.W.codeIn K cd11 "_law_alike" = true) (k11 : PySem.W.keepIn K (.ref f11) = true)
    (a12 : PySem.W.nsIn K mainGlobals "_law_good" = some (some (.ref f12))) (l12 : K.lookup f12 = some ⟨oc12, od12, .func (PySem.W.fnOf "_law_good" "_law_good" (defArgs s__law_good) (defBody s__law_good) (defScope s__law_good) .none kV12 dc12 pm12 an12 cd12 ct12), sl12⟩) (c12 : PySem.W.codeIn K cd12 "_law_good" = true) (k12 : PySem.W.keepIn K (.ref f12) = true)
    (a13 : PySem.W.nsIn K mainGlobals "_law_odd_line" = some (some (.ref f13))) (l13 : K.lookup f13 = some ⟨oc13, od13, .func (PySem.W.fnOf "_law_odd_line" "_law_odd_line" (defArgs s__law_odd_line) (defBody s__law_odd_line) (defScope s__law_odd_line) .none kV13 dc13 pm13 an13 cd13 ct13), sl13⟩) (c13 : PySem.W.codeIn K cd13 "_law_odd_line" = true) (k13 : PySem.W.keepIn K (.ref f13) = true)
    (a14 : PySem.W.nsIn K mainGlobals "law" = some (some (.ref f14))) (l14 : K.lookup f14 = some ⟨oc14, od14, .func (PySem.W.fnOf "law" "law" (defArgs s_law) (defBody s_law) (defScope s_law) .none kV14 dc14 pm14 an14 cd14 ct14), sl14⟩) (c14 : PySem.W.codeIn K cd14 "law" = true) (k14 : PySem.W.keepIn K (.ref f14) = true)
    (zValueError : PySem.W.nsIn K mainGlobals "ValueError" = some none)
    (zbool : PySem.W.nsIn K mainGlobals "bool" = some none)
    (zint : PySem.W.nsIn K mainGlobals "int" = some none)
    (zisinstance : PySem.W.nsIn K mainGlobals "isinstance" = some none)
    (zlen : PySem.W.nsIn K mainGlobals "len" = some none)
    (zstr : PySem.W.nsIn K mainGlobals "str" = some none)
    (ztuple : PySem.W.nsIn K mainGlobals "tuple" = some none)
    {tkTOP : Tok} (mTOP : PySem.W.nsIn K mainGlobals "TOP" = some (some (.int 1000000000 tkTOP)))
    {tkMOST : Tok} (mMOST : PySem.W.nsIn K mainGlobals "MOST" = some (some (.int 1000000 tkMOST)))
    {CBidError : Addr} (gBidError : PySem.W.nsIn K mainGlobals "BidError" = some (some (.ref CBidError))) (xBidError : PySem.W.excIn K CBidError [.type "ValueError", .type "Exception", .type "BaseException", .type "object"] "ValueError.__new__" = true) (pBidError : PySem.W.keepIn K (.ref CBidError) = true) (eBidError : PySem.W.subIn K (.ref CBidError) (.type "BaseException") = some true) (tBidError : PySem.W.typeIn K (.ref CBidError) = some (.type "type"))
    {CBadWish : Addr} (gBadWish : PySem.W.nsIn K mainGlobals "BadWish" = some (some (.ref CBadWish))) (xBadWish : PySem.W.excIn K CBadWish [.type "ValueError", .type "Exception", .type "BaseException", .type "object"] "ValueError.__new__" = true) (pBadWish : PySem.W.keepIn K (.ref CBadWish) = true) (eBadWish : PySem.W.subIn K (.ref CBadWish) (.type "BaseException") = some true) (tBadWish : PySem.W.typeIn K (.ref CBadWish) = some (.type "type"))
    {CBadPrice : Addr} (gBadPrice : PySem.W.nsIn K mainGlobals "BadPrice" = some (some (.ref CBadPrice))) (xBadPrice : PySem.W.excIn K CBadPrice [.type "ValueError", .type "Exception", .type "BaseException", .type "object"] "ValueError.__new__" = true) (pBadPrice : PySem.W.keepIn K (.ref CBadPrice) = true) (eBadPrice : PySem.W.subIn K (.ref CBadPrice) (.type "BaseException") = some true) (tBadPrice : PySem.W.typeIn K (.ref CBadPrice) = some (.type "type"))
    {CBadPieces : Addr} (gBadPieces : PySem.W.nsIn K mainGlobals "BadPieces" = some (some (.ref CBadPieces))) (xBadPieces : PySem.W.excIn K CBadPieces [.type "ValueError", .type "Exception", .type "BaseException", .type "object"] "ValueError.__new__" = true) (pBadPieces : PySem.W.keepIn K (.ref CBadPieces) = true) (eBadPieces : PySem.W.subIn K (.ref CBadPieces) (.type "BaseException") = some true) (tBadPieces : PySem.W.typeIn K (.ref CBadPieces) = some (.type "type"))
    {CUneven : Addr} (gUneven : PySem.W.nsIn K mainGlobals "Uneven" = some (some (.ref CUneven))) (xUneven : PySem.W.excIn K CUneven [.type "ValueError", .type "Exception", .type "BaseException", .type "object"] "ValueError.__new__" = true) (pUneven : PySem.W.keepIn K (.ref CUneven) = true) (eUneven : PySem.W.subIn K (.ref CUneven) (.type "BaseException") = some true) (tUneven : PySem.W.typeIn K (.ref CUneven) = some (.type "type"))
    {CNoSuch : Addr} (gNoSuch : PySem.W.nsIn K mainGlobals "NoSuch" = some (some (.ref CNoSuch))) (xNoSuch : PySem.W.excIn K CNoSuch [.type "ValueError", .type "Exception", .type "BaseException", .type "object"] "ValueError.__new__" = true) (pNoSuch : PySem.W.keepIn K (.ref CNoSuch) = true) (eNoSuch : PySem.W.subIn K (.ref CNoSuch) (.type "BaseException") = some true) (tNoSuch : PySem.W.typeIn K (.ref CNoSuch) = some (.type "type"))
    {CUnread : Addr} (gUnread : PySem.W.nsIn K mainGlobals "Unread" = some (some (.ref CUnread))) (xUnread : PySem.W.excIn K CUnread [.type "ValueError", .type "Exception", .type "BaseException", .type "object"] "ValueError.__new__" = true) (pUnread : PySem.W.keepIn K (.ref CUnread) = true) (eUnread : PySem.W.subIn K (.ref CUnread) (.type "BaseException") = some true) (tUnread : PySem.W.typeIn K (.ref CUnread) = some (.type "type"))
    (u1unread : PySem.W.findIn K (.ref CUnread) "__getattribute__" = some (some (.builtin "BaseException.__getattribute__"))) (u2unread : PySem.W.findIn K (.ref CUnread) "__getattr__" = some none) (u3unread : PySem.W.hasDictIn K CUnread = true) (u4unread : PySem.W.findIn K (.ref CUnread) "__class__" = some (some (.builtin "object.__class__"))) (u5unread : PySem.W.specialIn K (.builtin "object.__class__") "__get__" = some (some (.builtin "getset_descriptor.__get__"))) (u6unread : PySem.W.takesIn K (.builtin "object.__class__") = some true) (u7unread : PySem.W.mroIn K CUnread (.type "object") = some true)
    (sunread_BidError : PySem.W.subIn K (.ref CUnread) (.ref CBidError) = some true)
    (sunread_BadWish : PySem.W.subIn K (.ref CUnread) (.ref CBadWish) = some false)
    (sunread_BadPrice : PySem.W.subIn K (.ref CUnread) (.ref CBadPrice) = some false)
    (sunread_BadPieces : PySem.W.subIn K (.ref CUnread) (.ref CBadPieces) = some false)
    (sunread_Uneven : PySem.W.subIn K (.ref CUnread) (.ref CUneven) = some false)
    (sunread_NoSuch : PySem.W.subIn K (.ref CUnread) (.ref CNoSuch) = some false)
    (sunread_Unread : PySem.W.subIn K (.ref CUnread) (.ref CUnread) = some true)
    (vunread : PySem.W.subIn K (.ref CUnread) (.type "ValueError") = some true)
    (u1wish : PySem.W.findIn K (.ref CBadWish) "__getattribute__" = some (some (.builtin "BaseException.__getattribute__"))) (u2wish : PySem.W.findIn K (.ref CBadWish) "__getattr__" = some none) (u3wish : PySem.W.hasDictIn K CBadWish = true) (u4wish : PySem.W.findIn K (.ref CBadWish) "__class__" = some (some (.builtin "object.__class__"))) (u5wish : PySem.W.specialIn K (.builtin "object.__class__") "__get__" = some (some (.builtin "getset_descriptor.__get__"))) (u6wish : PySem.W.takesIn K (.builtin "object.__class__") = some true) (u7wish : PySem.W.mroIn K CBadWish (.type "object") = some true)
    (swish_BidError : PySem.W.subIn K (.ref CBadWish) (.ref CBidError) = some true)
    (swish_BadWish : PySem.W.subIn K (.ref CBadWish) (.ref CBadWish) = some true)
    (swish_BadPrice : PySem.W.subIn K (.ref CBadWish) (.ref CBadPrice) = some false)
    (swish_BadPieces : PySem.W.subIn K (.ref CBadWish) (.ref CBadPieces) = some false)
    (swish_Uneven : PySem.W.subIn K (.ref CBadWish) (.ref CUneven) = some false)
    (swish_NoSuch : PySem.W.subIn K (.ref CBadWish) (.ref CNoSuch) = some false)
    (swish_Unread : PySem.W.subIn K (.ref CBadWish) (.ref CUnread) = some false)
    (vwish : PySem.W.subIn K (.ref CBadWish) (.type "ValueError") = some true)
    (qBidError : PySem.W.isClsIn K CBidError = true)
    (qBadWish : PySem.W.isClsIn K CBadWish = true)
    (qBadPrice : PySem.W.isClsIn K CBadPrice = true)
    (qBadPieces : PySem.W.isClsIn K CBadPieces = true)
    (qUneven : PySem.W.isClsIn K CUneven = true)
    (qNoSuch : PySem.W.isClsIn K CNoSuch = true)
    (qUnread : PySem.W.isClsIn K CUnread = true)
    (dBid : PySem.W.hasDictIn K CBidError = true)
    : ∃ fd : FuncData, (∀ (s : Shared) (v : Value), BindsTo s fd ⟨[v], []⟩ [("_law_script", v)]) ∧ ∀ base : Heap, K.In base → base.Ns mainGlobals mg → FnOk l.prog w K mg base CX0 5 fa fd ["_law_script"] (spD K (R_law VS.c0)) := by
  have e := hfa.symm.trans (PySem.W.mg_of X G a14)
  cases e
  have F0 := fun_mk (st := s_whole_within) l0 c0 k0
  have F1 := fun_mk (st := s_checked) l1 c1 k1
  have F2 := fun_mk (st := s_shown) l2 c2 k2
  have F3 := fun_mk (st := s_number_of) l3 c3 k3
  have F4 := fun_mk (st := s_read) l4 c4 k4
  have F5 := fun_mk (st := s__law_cell_at) l5 c5 k5
  have F6 := fun_mk (st := s__law_whole) l6 c6 k6
  have F7 := fun_mk (st := s__law_sign_by) l7 c7 k7
  have F8 := fun_mk (st := s__law_figures) l8 c8 k8
  have F9 := fun_mk (st := s__law_due_of) l9 c9 k9
  have F10 := fun_mk (st := s__law_names) l10 c10 k10
  have F11 := fun_mk (st := s__law_alike) l11 c11 k11
  have F12 := fun_mk (st := s__law_good) l12 c12 k12
  have F13 := fun_mk (st := s__law_odd_line) l13 c13 k13
  have F14 := fun_mk (st := s_law) l14 c14 k14
  have T : Txt K mg ⟨CBidError, CBadWish, CBadPrice, CBadPieces, CUneven, CNoSuch, CUnread⟩ ⟨f0, PySem.W.fnOf "whole_within" "whole_within" (defArgs s_whole_within) (defBody s_whole_within) (defScope s_whole_within) .none kV0 dc0 pm0 an0 cd0 ct0, f1, PySem.W.fnOf "checked" "checked" (defArgs s_checked) (defBody s_checked) (defScope s_checked) .none kV1 dc1 pm1 an1 cd1 ct1, f2, PySem.W.fnOf "shown" "shown" (defArgs s_shown) (defBody s_shown) (defScope s_shown) .none kV2 dc2 pm2 an2 cd2 ct2, f3, PySem.W.fnOf "number_of" "number_of" (defArgs s_number_of) (defBody s_number_of) (defScope s_number_of) .none kV3 dc3 pm3 an3 cd3 ct3, f4, PySem.W.fnOf "read" "read" (defArgs s_read) (defBody s_read) (defScope s_read) .none kV4 dc4 pm4 an4 cd4 ct4, f5, PySem.W.fnOf "_law_cell_at" "_law_cell_at" (defArgs s__law_cell_at) (defBody s__law_cell_at) (defScope s__law_cell_at) .none kV5 dc5 pm5 an5 cd5 ct5, f6, PySem.W.fnOf "_law_whole" "_law_whole" (defArgs s__law_whole) (defBody s__law_whole) (defScope s__law_whole) .none kV6 dc6 pm6 an6 cd6 ct6, f7, PySem.W.fnOf "_law_sign_by" "_law_sign_by" (defArgs s__law_sign_by) (defBody s__law_sign_by) (defScope s__law_sign_by) .none kV7 dc7 pm7 an7 cd7 ct7, f8, PySem.W.fnOf "_law_figures" "_law_figures" (defArgs s__law_figures) (defBody s__law_figures) (defScope s__law_figures) .none kV8 dc8 pm8 an8 cd8 ct8, f9, PySem.W.fnOf "_law_due_of" "_law_due_of" (defArgs s__law_due_of) (defBody s__law_due_of) (defScope s__law_due_of) .none kV9 dc9 pm9 an9 cd9 ct9, f10, PySem.W.fnOf "_law_names" "_law_names" (defArgs s__law_names) (defBody s__law_names) (defScope s__law_names) .none kV10 dc10 pm10 an10 cd10 ct10, f11, PySem.W.fnOf "_law_alike" "_law_alike" (defArgs s__law_alike) (defBody s__law_alike) (defScope s__law_alike) .none kV11 dc11 pm11 an11 cd11 ct11, f12, PySem.W.fnOf "_law_good" "_law_good" (defArgs s__law_good) (defBody s__law_good) (defScope s__law_good) .none kV12 dc12 pm12 an12 cd12 ct12, f13, PySem.W.fnOf "_law_odd_line" "_law_odd_line" (defArgs s__law_odd_line) (defBody s__law_odd_line) (defScope s__law_odd_line) .none kV13 dc13 pm13 an13 cd13 ct13, ()⟩ := { F_whole_within := F0, g_whole_within := PySem.W.mg_of X G a0, b_whole_within := F0.binds (ps := ["thing", "low", "high"]) fun _ _ _ _ _ _ us hl => match us, hl with | [_, _, _], _ => rfl, F_checked := F1, g_checked := PySem.W.mg_of X G a1, b_checked := F1.binds (ps := ["thing"]) fun _ _ _ _ _ _ us hl => match us, hl with | [_], _ => rfl, F_shown := F2, g_shown := PySem.W.mg_of X G a2, b_shown := F2.binds (ps := ["wish"]) fun _ _ _ _ _ _ us hl => match us, hl with | [_], _ => rfl, F_number_of := F3, g_number_of := PySem.W.mg_of X G a3, b_number_of := F3.binds (ps := ["word"]) fun _ _ _ _ _ _ us hl => match us, hl with | [_], _ => rfl, F_read := F4, g_read := PySem.W.mg_of X G a4, b_read := F4.binds (ps := ["line"]) fun _ _ _ _ _ _ us hl => match us, hl with | [_], _ => rfl, F__law_cell_at := F5, g__law_cell_at := PySem.W.mg_of X G a5, b__law_cell_at := F5.binds (ps := ["_law_script", "_law_k"]) fun _ _ _ _ _ _ us hl => match us, hl with | [_, _], _ => rfl, F__law_whole := F6, g__law_whole := PySem.W.mg_of X G a6, b__law_whole := F6.binds (ps := ["_law_thing"]) fun _ _ _ _ _ _ us hl => match us, hl with | [_], _ => rfl, F__law_sign_by := F7, g__law_sign_by := PySem.W.mg_of X G a7, b__law_sign_by := F7.binds (ps := ["_law_cell"]) fun _ _ _ _ _ _ us hl => match us, hl with | [_], _ => rfl, F__law_figures := F8, g__law_figures := PySem.W.mg_of X G a8, b__law_figures := F8.binds (ps := ["_law_word"]) fun _ _ _ _ _ _ us hl => match us, hl with | [_], _ => rfl, F__law_due_of := F9, g__law_due_of := PySem.W.mg_of X G a9, b__law_due_of := F9.binds (ps := ["_law_line"]) fun _ _ _ _ _ _ us hl => match us, hl with | [_], _ => rfl, F__law_names := F10, g__law_names := PySem.W.mg_of X G a10, b__law_names := F10.binds (ps := ["_law_e"]) fun _ _ _ _ _ _ us hl => match us, hl with | [_], _ => rfl, F__law_alike := F11, g__law_alike := PySem.W.mg_of X G a11, b__law_alike := F11.binds (ps := ["_law_found", "_law_due"]) fun _ _ _ _ _ _ us hl => match us, hl with | [_, _], _ => rfl, F__law_good := F12, g__law_good := PySem.W.mg_of X G a12, b__law_good := F12.binds (ps := ["_law_line"]) fun _ _ _ _ _ _ us hl => match us, hl with | [_], _ => rfl, F__law_odd_line := F13, g__law_odd_line := PySem.W.mg_of X G a13, b__law_odd_line := F13.binds (ps := ["_law_cell"]) fun _ _ _ _ _ _ us hl => match us, hl with | [_], _ => rfl, z_ValueError := PySem.W.mg_none_of X G zValueError, z_bool := PySem.W.mg_none_of X G zbool, z_int := PySem.W.mg_none_of X G zint, z_isinstance := PySem.W.mg_none_of X G zisinstance, z_len := PySem.W.mg_none_of X G zlen, z_str := PySem.W.mg_none_of X G zstr, z_tuple := PySem.W.mg_none_of X G ztuple, m_TOP := ⟨_, PySem.W.mg_of X G mTOP⟩, m_MOST := ⟨_, PySem.W.mg_of X G mMOST⟩, cc_BidError := ⟨PySem.W.mg_of X G gBidError, xBidError, pBidError, eBidError, tBidError⟩, cc_BadWish := ⟨PySem.W.mg_of X G gBadWish, xBadWish, pBadWish, eBadWish, tBadWish⟩, cc_BadPrice := ⟨PySem.W.mg_of X G gBadPrice, xBadPrice, pBadPrice, eBadPrice, tBadPrice⟩, cc_BadPieces := ⟨PySem.W.mg_of X G gBadPieces, xBadPieces, pBadPieces, eBadPieces, tBadPieces⟩, cc_Uneven := ⟨PySem.W.mg_of X G gUneven, xUneven, pUneven, eUneven, tUneven⟩, cc_NoSuch := ⟨PySem.W.mg_of X G gNoSuch, xNoSuch, pNoSuch, eNoSuch, tNoSuch⟩, cc_Unread := ⟨PySem.W.mg_of X G gUnread, xUnread, pUnread, eUnread, tUnread⟩, er_unread := ⟨⟨u1unread, u2unread, eUnread, u3unread, u4unread, u5unread, u6unread, u7unread⟩, (fun D' => match D' with | .wish => kit_no sunread_BadWish sunread_Unread qBadWish tBadWish | .price => kit_no sunread_BadPrice sunread_Unread qBadPrice tBadPrice | .pieces => kit_no sunread_BadPieces sunread_Unread qBadPieces tBadPieces | .uneven => kit_no sunread_Uneven sunread_Unread qUneven tUneven | .none => kit_no sunread_NoSuch sunread_Unread qNoSuch tNoSuch | .unread => kit_yes), kit_ve vunread, PySem.W.exm_ref eBidError dBid tBidError sunread_BidError⟩, er_wish := ⟨⟨u1wish, u2wish, eBadWish, u3wish, u4wish, u5wish, u6wish, u7wish⟩, (fun D' => match D' with | .wish => kit_yes | .price => kit_no swish_BadPrice swish_BadWish qBadPrice tBadPrice | .pieces => kit_no swish_BadPieces swish_BadWish qBadPieces tBadPieces | .uneven => kit_no swish_Uneven swish_BadWish qUneven tUneven | .none => kit_no swish_NoSuch swish_BadWish qNoSuch tNoSuch | .unread => kit_no swish_Unread swish_BadWish qUnread tUnread), kit_ve vwish, PySem.W.exm_ref eBidError dBid tBidError swish_BidError⟩ }
  exact ⟨PySem.W.fnOf "law" "law" (defArgs s_law) (defBody s_law) (defScope s_law) .none kV14 dc14 pm14 an14 cd14 ct14, fun s v => .of_eq rfl, fun base _ _ => by
    have z := ok_law (P := l.prog) (w := w) (base := base) F14 T
    rw [R_law_eq _ VS.c0] at z
    exact z⟩
end PW
open PySem PySem.W PyProof.Rows in
set_option maxRecDepth 100000 in
set_option maxHeartbeats 0 in
theorem PySem.Challenge.cw_bidclear_k10_written_and_read_holds : PySem.Challenge.rw_bidclear_k10_written_and_read.Holds := by
  w_on; o_law; k_head; (case hw => w_witness2)
  k_fill
  refine L2.walk_ofB (l := PySem.Challenge.rw_bidclear_k10_written_and_read) (n := 63) (k := 5) (x := "_law_script") (CX := fun _ => L2.CX0) (sp := fun w => VS.spD _ (VS.R_law VS.c0)) rfl (by decide) rfl ⟨rfl, by decide, by decide⟩ (fun w h Y => PySem.W.kIn_of Y) ?F (fun w H a ns hl hb _ hS => VS.law_start hS (VS.R_law_mk hl hb)) (fun _ _ _ _ _ h => h)
  case F =>
    intro w mg fa h KX G hmg
    refine' PW.all_mk KX G hmg ?a0 ?l0 ?c0 ?k0 ?a1 ?l1 ?c1 ?k1 ?a2 ?l2 ?c2 ?k2 ?a3 ?l3 ?c3 ?k3 ?a4 ?l4 ?c4 ?k4 ?a5 ?l5 ?c5 ?k5 ?a6 ?l6 ?c6 ?k6 ?a7 ?l7 ?c7 ?k7 ?a8 ?l8 ?c8 ?k8 ?a9 ?l9 ?c9 ?k9 ?a10 ?l10 ?c10 ?k10 ?a11 ?l11 ?c11 ?k11 ?a12 ?l12 ?c12 ?k12 ?a13 ?l13 ?c13 ?k13 ?a14 ?l14 ?c14 ?k14 ?zValueError ?zbool ?zint ?zisinstance ?zlen ?zstr ?ztuple ?mTOP ?mMOST ?gBidError ?xBidError ?pBidError ?eBidError ?tBidError ?gBadWish ?xBadWish ?pBadWish ?eBadWish ?tBadWish ?gBadPrice ?xBadPrice ?pBadPrice ?eBadPrice ?tBadPrice ?gBadPieces ?xBadPieces ?pBadPieces ?eBadPieces ?tBadPieces ?gUneven ?xUneven ?pUneven ?eUneven ?tUneven ?gNoSuch ?xNoSuch ?pNoSuch ?eNoSuch ?tNoSuch ?gUnread ?xUnread ?pUnread ?eUnread ?tUnread ?sunread_BidError ?sunread_BadWish ?sunread_BadPrice ?sunread_BadPieces ?sunread_Uneven ?sunread_NoSuch ?sunread_Unread ?u1unread ?u2unread ?u3unread ?u4unread ?u5unread ?u6unread ?u7unread ?vunread ?swish_BidError ?swish_BadWish ?swish_BadPrice ?swish_BadPieces ?swish_Uneven ?swish_NoSuch ?swish_Unread ?u1wish ?u2wish ?u3wish ?u4wish ?u5wish ?u6wish ?u7wish ?vwish ?qBidError ?qBadWish ?qBadPrice ?qBadPieces ?qUneven ?qNoSuch ?qUnread ?dBid
    (case a0 => k_is)
    (case l0 => k_is)
    (case c0 => k_is)
    (case k0 => k_is)
    (case a1 => k_is)
    (case l1 => k_is)
    (case c1 => k_is)
    (case k1 => k_is)
    (case a2 => k_is)
    (case l2 => k_is)
    (case c2 => k_is)
    (case k2 => k_is)
    (case a3 => k_is)
    (case l3 => k_is)
    (case c3 => k_is)
    (case k3 => k_is)
    (case a4 => k_is)
    (case l4 => k_is)
    (case c4 => k_is)
    (case k4 => k_is)
    (case a5 => k_is)
    (case l5 => k_is)
    (case c5 => k_is)
    (case k5 => k_is)
    (case a6 => k_is)
    (case l6 => k_is)
    (case c6 => k_is)
    (case k6 => k_is)
    (case a7 => k_is)
    (case l7 => k_is)
    (case c7 => k_is)
    (case k7 => k_is)
    (case a8 => k_is)
    (case l8 => k_is)
    (case c8 => k_is)
    (case k8 => k_is)
    (case a9 => k_is)
    (case l9 => k_is)
    (case c9 => k_is)
    (case k9 => k_is)
    (case a10 => k_is)
    (case l10 => k_is)
    (case c10 => k_is)
    (case k10 => k_is)
    (case a11 => k_is)
    (case l11 => k_is)
    (case c11 => k_is)
    (case k11 => k_is)
    (case a12 => k_is)
    (case l12 => k_is)
    (case c12 => k_is)
    (case k12 => k_is)
    (case a13 => k_is)
    (case l13 => k_is)
    (case c13 => k_is)
    (case k13 => k_is)
    (case a14 => k_is)
    (case l14 => k_is)
    (case c14 => k_is)
    (case k14 => k_is)
    (case zValueError => k_is)
    (case zbool => k_is)
    (case zint => k_is)
    (case zisinstance => k_is)
    (case zlen => k_is)
    (case zstr => k_is)
    (case ztuple => k_is)
    (case mTOP => k_is)
    (case mMOST => k_is)
    (case gBidError => k_is)
    (case xBidError => k_exc)
    (case pBidError => k_is)
    (case eBidError => k_is)
    (case tBidError => k_is)
    (case gBadWish => k_is)
    (case xBadWish => k_exc)
    (case pBadWish => k_is)
    (case eBadWish => k_is)
    (case tBadWish => k_is)
    (case gBadPrice => k_is)
    (case xBadPrice => k_exc)
    (case pBadPrice => k_is)
    (case eBadPrice => k_is)
    (case tBadPrice => k_is)
    (case gBadPieces => k_is)
    (case xBadPieces => k_exc)
    (case pBadPieces => k_is)
    (case eBadPieces => k_is)
    (case tBadPieces => k_is)
    (case gUneven => k_is)
    (case xUneven => k_exc)
    (case pUneven => k_is)
    (case eUneven => k_is)
    (case tUneven => k_is)
    (case gNoSuch => k_is)
    (case xNoSuch => k_exc)
    (case pNoSuch => k_is)
    (case eNoSuch => k_is)
    (case tNoSuch => k_is)
    (case gUnread => k_is)
    (case xUnread => k_exc)
    (case pUnread => k_is)
    (case eUnread => k_is)
    (case tUnread => k_is)
    (case sunread_BidError => k_is)
    (case sunread_BadWish => k_is)
    (case sunread_BadPrice => k_is)
    (case sunread_BadPieces => k_is)
    (case sunread_Uneven => k_is)
    (case sunread_NoSuch => k_is)
    (case sunread_Unread => k_is)
    (case u1unread => k_is)
    (case u2unread => k_is)
    (case u3unread => k_is)
    (case u4unread => k_is)
    (case u5unread => k_is)
    (case u6unread => k_is)
    (case u7unread => k_is)
    (case vunread => k_is)
    (case swish_BidError => k_is)
    (case swish_BadWish => k_is)
    (case swish_BadPrice => k_is)
    (case swish_BadPieces => k_is)
    (case swish_Uneven => k_is)
    (case swish_NoSuch => k_is)
    (case swish_Unread => k_is)
    (case u1wish => k_is)
    (case u2wish => k_is)
    (case u3wish => k_is)
    (case u4wish => k_is)
    (case u5wish => k_is)
    (case u6wish => k_is)
    (case u7wish => k_is)
    (case vwish => k_is)
    (case qBidError => k_is)
    (case qBadWish => k_is)
    (case qBadPrice => k_is)
    (case qBadPieces => k_is)
    (case qUneven => k_is)
    (case qNoSuch => k_is)
    (case qUnread => k_is)
    (case dBid => k_is)
#print axioms PySem.Challenge.cw_bidclear_k10_written_and_read_holds
