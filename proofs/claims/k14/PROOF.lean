import PyProof.Rows.All
import Wide.All
import OpenK.AllK
import Wide.FinOn
import PySem.Challenge.RW_bidclear_k14_whole_rings
import HandS.ForMost
import HandS.Evl
import HandS.IsInst
import HandS.SortInts
import HandS.SortRule
import HandS.ExcCtx
import HandS.EndBits
import HandS.HotCalls
import HandS.ExcIs
import HandS.WordsExc
import HandS.ListItems
set_option Elab.async false
set_option linter.all false
set_option maxRecDepth 100000
set_option maxHeartbeats 2000000
set_option Elab.async false
set_option linter.all false
set_option maxRecDepth 100000
/-! Value semantics over the hand layer: names hold data, fresh lists are owned by one name. -/
namespace VS
open PySem L2
open Evl (Ex ex_rd ex_l ex_t)

/-! ### heaps -/
theorem Ex.ne {H H' : Hp} (e : Ex H H') {a : Addr} (h : H' a = none) : H a = none := Evl.fresh_back e h
/-- what was frozen, and all that is new since H -/
def Grow (B H H' : Hp) : Hp := fun a => match H a with
  | none => H' a
  | some _ => B a
theorem grow_new {B H H' : Hp} {a : Addr} (h : H a = none) : Grow B H H' a = H' a := by unfold Grow; rw [h]
theorem grow_old {B H H' : Hp} {a : Addr} (h : H a ≠ none) : Grow B H H' a = B a := by
  unfold Grow
  cases e : H a with
  | none => exact absurd e h
  | some o => rfl
theorem ne_some {H : Hp} {a : Addr} {o : HO} (h : H a = some o) : H a ≠ none := fun z => by rw [h] at z; cases z
theorem grow_ex1 {B H H' : Hp} (e : Ex B H) : Ex B (Grow B H H') := fun a o h => by
  rw [grow_old (ne_some (e a o h))]
  exact h
theorem grow_ex2 {B H H' : Hp} (e : Ex B H) (e' : Ex H H') : Ex (Grow B H H') H' := fun a o h => by
  cases q : H a with
  | none => rw [grow_new q] at h; exact h
  | some u => rw [grow_old (ne_some q)] at h; exact e' a o (e a o h)
theorem grow_mono {B B1 H H' : Hp} (e : Ex B B1) : Ex (Grow B H H') (Grow B1 H H') := fun a o h => by
  cases q : H a with
  | none => rw [grow_new q] at h ⊢; exact h
  | some u => rw [grow_old (ne_some q)] at h ⊢; exact e a o h
theorem grow_right {B H H1 H2 : Hp} (e : Ex H1 H2) : Ex (Grow B H H1) (Grow B H H2) := fun a o h => by
  cases q : H a with
  | none => rw [grow_new q] at h ⊢; exact e a o h
  | some u => rw [grow_old (ne_some q)] at h ⊢; exact h
theorem grow_trans {B H H1 H2 : Hp} (e1 : Ex H H1) (e2 : Ex H1 H2) : Ex (Grow (Grow B H H1) H1 H2) (Grow B H H2) := fun a o h => by
  cases q : H1 a with
  | none =>
    rw [grow_new q] at h
    rw [grow_new (Ex.ne e1 q)]
    exact h
  | some u =>
    rw [grow_old (ne_some q)] at h
    cases q0 : H a with
    | none =>
      rw [grow_new q0] at h ⊢
      exact e2 a o h
    | some u0 =>
      rw [grow_old (ne_some q0)] at h ⊢
      exact h
def del (H : Hp) (p : Addr) : Hp := fun a => if a = p then none else H a
theorem del_same {H : Hp} {p : Addr} : del H p p = none := by unfold del; rw [if_pos rfl]
theorem del_ne {H : Hp} {p a : Addr} (h : a ≠ p) : del H p a = H a := by unfold del; rw [if_neg h]
theorem del_ex {H : Hp} {p : Addr} : Ex (del H p) H := fun a o h => by
  by_cases q : a = p
  · rw [q, del_same] at h; cases h
  · rw [del_ne q] at h; exact h
/-- what stood before p was made -/
theorem ex_del {H H' : Hp} {p : Addr} (e : Ex H H') (h : H p = none) : Ex H (del H' p) := fun a o q => by
  rw [del_ne (ne_of_none q h)]
  exact e a o q

/-! ### data -/
/-- what the class of the books must have -/
structure BkOk (K : PySem.W.Frag) (C : Addr) : Prop where
  cls : Cls K C
  nP : NoAttr K C "price"
  nC : NoAttr K C "came"
  nR : NoAttr K C "rest"
  nM : NoAttr K C "money"
/-- a book's fields -/
abbrev bkF (p : Int) (v1 v2 v3 : V) : List (Str × V) := [("price", .int p), ("came", v1), ("rest", v2), ("money", v3)]
/-- a book -/
abbrev bookD (C : Addr) (p : Int) (d1 d2 d3 : PyData) : PyData := .dict [(.bool false, .list [.int ((C : Nat) : Int), .int p, d1, d2, d3])]
mutual
/-- the value v stands for the data d -/
inductive Rep (K : PySem.W.Frag) (H : Hp) : V → PyData → Prop
  | non : Rep K H .non .none
  | bl (b : Bool) : Rep K H (.bl b) (.bool b)
  | int (i : Int) : Rep K H (.int i) (.int i)
  | str (x : Str) : Rep K H (.str x) (.str x)
  | lst {a : Addr} {xs : List V} {ds : List PyData} : H a = some (.lst xs) → RepAll K H xs ds → Rep K H (.ref a) (.list ds)
  | tup {a : Addr} {xs : List V} {ds : List PyData} : H a = some (.tup xs) → RepAll K H xs ds → Rep K H (.ref a) (.tuple ds)
  | scr {a : Addr} {ns : List Int} : SqL K H a (ns.map V.int) → Rep K H (.ref a) (.dict [(.none, .list (ns.map PyData.int))])
  | edict {a : Addr} : H a = some (.dK []) → Rep K H (.ref a) (.dict [])
  | raw (a : Addr) : Rep K H (.ref a) (.dict [(.bool true, .int ((a : Nat) : Int))])
  | book {a C dx : Addr} {p : Int} {v1 v2 v3 : V} {d1 d2 d3 : PyData} : BkOk K C → H a = some (.ins C dx (bkF p v1 v2 v3)) → Rep K H v1 d1 → Rep K H v2 d2 → Rep K H v3 d3 → Rep K H (.ref a) (bookD C p d1 d2 d3)
inductive RepAll (K : PySem.W.Frag) (H : Hp) : List V → List PyData → Prop
  | nil : RepAll K H [] []
  | cons {v : V} {vs : List V} {d : PyData} {ds : List PyData} : Rep K H v d → RepAll K H vs ds → RepAll K H (v :: vs) (d :: ds)
end
/-- a reference, no more -/
abbrev rawD (a : Addr) : PyData := .dict [(.bool true, .int ((a : Nat) : Int))]
/-- the script, a list that is read -/
abbrev scrD (ns : List Int) : PyData := .dict [(.none, .list (ns.map PyData.int))]
mutual
theorem Rep.mono {K : PySem.W.Frag} {H H' : Hp} (e : Ex H H') : ∀ {v : V} {d : PyData}, Rep K H v d → Rep K H' v d
  | _, _, .non => .non
  | _, _, .bl b => .bl b
  | _, _, .int i => .int i
  | _, _, .str x => .str x
  | _, _, .lst h r => .lst (e _ _ h) (RepAll.mono e r)
  | _, _, .tup h r => .tup (e _ _ h) (RepAll.mono e r)
  | _, _, .scr h => .scr (ex_l e h)
  | _, _, .edict h => .edict (e _ _ h)
  | _, _, .raw a => .raw a
  | _, _, .book k h r1 r2 r3 => .book k (e _ _ h) (Rep.mono e r1) (Rep.mono e r2) (Rep.mono e r3)
theorem RepAll.mono {K : PySem.W.Frag} {H H' : Hp} (e : Ex H H') : ∀ {vs : List V} {ds : List PyData}, RepAll K H vs ds → RepAll K H' vs ds
  | _, _, .nil => .nil
  | _, _, .cons a r => .cons (Rep.mono e a) (RepAll.mono e r)
end
section
variable {K : PySem.W.Frag} {H H' : Hp}
theorem RepAll.length : ∀ {vs : List V} {ds : List PyData}, RepAll K H vs ds → vs.length = ds.length
  | _, _, .nil => rfl
  | _, _, .cons _ r => congrArg (· + 1) (RepAll.length r)
theorem RepAll.get : ∀ {vs : List V} {ds : List PyData} {i : Nat} {d : PyData}, RepAll K H vs ds → ds[i]? = some d → ∃ v, vs[i]? = some v ∧ Rep K H v d
  | _, _, i, d, .nil, h => by simp at h
  | _, _, 0, d, .cons a _, h => by
    simp at h
    subst h
    exact ⟨_, rfl, a⟩
  | _, _, i + 1, d, .cons _ r, h => by
    obtain ⟨v, h1, h2⟩ := RepAll.get (i := i) r (by simpa using h)
    exact ⟨v, by simpa using h1, h2⟩
theorem RepAll.get' : ∀ {vs : List V} {ds : List PyData} {i : Nat} {v : V}, RepAll K H vs ds → vs[i]? = some v → ∃ d, ds[i]? = some d ∧ Rep K H v d
  | _, _, i, d, .nil, h => by simp at h
  | _, _, 0, d, .cons a _, h => by
    simp at h
    subst h
    exact ⟨_, rfl, a⟩
  | _, _, i + 1, d, .cons _ r, h => by
    obtain ⟨v, h1, h2⟩ := RepAll.get' (i := i) r (by simpa using h)
    exact ⟨v, by simpa using h1, h2⟩
theorem RepAll.append : ∀ {vs us : List V} {ds es : List PyData}, RepAll K H vs ds → RepAll K H us es → RepAll K H (vs ++ us) (ds ++ es)
  | _, _, _, _, .nil, q => q
  | _, _, _, _, .cons a r, q => .cons a (RepAll.append r q)
theorem RepAll.set {v : V} {d : PyData} (h : Rep K H v d) : ∀ {vs : List V} {ds : List PyData} {j : Nat}, RepAll K H vs ds → RepAll K H (vs.set j v) (ds.set j d)
  | _, _, _, .nil => .nil
  | _, _, 0, .cons _ r => .cons h r
  | _, _, _ + 1, .cons a r => .cons a (RepAll.set h r)
theorem RepAll.drop : ∀ (n : Nat) {vs : List V} {ds : List PyData}, RepAll K H vs ds → RepAll K H (vs.drop n) (ds.drop n)
  | 0, _, _, r => r
  | _ + 1, _, _, .nil => .nil
  | n + 1, _, _, .cons _ r => RepAll.drop n r
theorem RepAll.take : ∀ (n : Nat) {vs : List V} {ds : List PyData}, RepAll K H vs ds → RepAll K H (vs.take n) (ds.take n)
  | 0, _, _, _ => .nil
  | _ + 1, _, _, .nil => .nil
  | n + 1, _, _, .cons a r => .cons a (RepAll.take n r)
theorem RepAll.ints : ∀ (ns : List Int), RepAll K H (ns.map V.int) (ns.map PyData.int)
  | [] => .nil
  | n :: ns => .cons (.int n) (RepAll.ints ns)
theorem RepAll.of_ints : ∀ {ns : List Int} {vs : List V}, RepAll K H vs (ns.map PyData.int) → vs = ns.map V.int
  | [], vs, h => by cases h; rfl
  | n :: ns, vs, h => by
    cases h with
    | cons a r =>
      cases a
      rw [RepAll.of_ints r]
      rfl
/-- scalars stand by themselves -/
def scalarD : PyData → Bool
  | .none => true
  | .bool _ => true
  | .int _ => true
  | .str _ => true
  | _ => false
theorem Rep.scalar {v : V} {d : PyData} (h : Rep K H v d) (s : scalarD d = true) : Rep K H' v d := by
  cases h with
  | non => exact .non
  | bl b => exact .bl b
  | int i => exact .int i
  | str x => exact .str x
  | lst _ _ => cases s
  | tup _ _ => cases s
  | scr _ => cases s
  | edict _ => cases s
  | raw _ => cases s
  | book _ _ _ _ _ => cases s
theorem Rep.int_eq {v : V} {i : Int} (h : Rep K H v (.int i)) : v = .int i := by cases h; rfl
theorem Rep.str_eq {v : V} {i : Str} (h : Rep K H v (.str i)) : v = .str i := by cases h; rfl
theorem Rep.bool_eq {v : V} {i : Bool} (h : Rep K H v (.bool i)) : v = .bl i := by cases h; rfl
theorem Rep.none_eq {v : V} (h : Rep K H v .none) : v = .non := by cases h; rfl
theorem Rep.list_eq {v : V} {ds : List PyData} (h : Rep K H v (.list ds)) : ∃ a xs, v = .ref a ∧ H a = some (.lst xs) ∧ RepAll K H xs ds := by
  cases h with
  | lst h r => exact ⟨_, _, rfl, h, r⟩
theorem Rep.tup_eq {v : V} {ds : List PyData} (h : Rep K H v (.tuple ds)) : ∃ a xs, v = .ref a ∧ H a = some (.tup xs) ∧ RepAll K H xs ds := by
  cases h with
  | tup h r => exact ⟨_, _, rfl, h, r⟩
theorem Rep.raw_eq {v : V} {a : Addr} (h : Rep K H v (rawD a)) : v = .ref a := by
  generalize e : rawD a = d at h
  cases h with
  | raw b =>
    unfold rawD at e
    injection e with e
    injection e with e _
    injection e with _ e
    injection e with e
    have q : a = b := Int.ofNat.inj e
    rw [q]
  | book _ _ _ _ _ => cases e
  | scr _ => cases e
  | non => cases e
  | bl b => cases e
  | int i => cases e
  | str x => cases e
  | lst _ _ => cases e
  | tup _ _ => cases e
  | edict _ => cases e
theorem map_int_inj : ∀ {ns ms : List Int}, ns.map PyData.int = ms.map PyData.int → ns = ms
  | [], [], _ => rfl
  | [], _ :: _, h => by simp at h
  | _ :: _, [], h => by simp at h
  | n :: ns, m :: ms, h => by
    rw [List.map_cons, List.map_cons] at h
    injection h with h1 h2
    injection h1 with h1
    rw [h1, map_int_inj h2]
theorem Rep.scr_eq {v : V} {ns : List Int} (h : Rep K H v (scrD ns)) : ∃ a, v = .ref a ∧ SqL K H a (ns.map V.int) := by
  generalize e : scrD ns = d at h
  cases h with
  | @scr a ms h =>
    unfold scrD at e
    injection e with e
    injection e with e _
    injection e with _ e
    injection e with e
    rw [map_int_inj e]
    exact ⟨_, rfl, h⟩
  | non => cases e
  | bl b => cases e
  | int i => cases e
  | str x => cases e
  | lst _ _ => cases e
  | tup _ _ => cases e
  | edict _ => cases e
  | raw _ => cases e
  | book _ _ _ _ _ => cases e
end

/-! ### what evaluates to which data -/
/-- B: what may be looked at and stays -/
def EnvR (K : PySem.W.Frag) (B : Hp) (σ : L2.St) (ds : List (Option PyData)) : Prop := σ.length = ds.length ∧ ∀ (i : Nat) (d : PyData), ds[i]? = some (some d) → ∃ v, σ[i]? = some (some v) ∧ Rep K B v d
theorem EnvR.mono {K : PySem.W.Frag} {B B' : Hp} {σ : L2.St} {ds : List (Option PyData)} (e : Ex B B') (h : EnvR K B σ ds) : EnvR K B' σ ds := ⟨h.1, fun i d q => by
  obtain ⟨v, h1, h2⟩ := h.2 i d q
  exact ⟨v, h1, h2.mono e⟩⟩
def DE (K : PySem.W.Frag) (te : TE) (ds : List (Option PyData)) (d : PyData) : Prop :=
  ∀ (B : Hp) (σ : L2.St), EnvR K B σ ds → ∀ H, Ex B H → ∀ Q : VK, (∀ v H', Ex H H' → Rep K (Grow B H H') v d → Q v H') → te σ H Q
def DT (K : PySem.W.Frag) (tt : TT) (ds : List (Option PyData)) (b : Bool) : Prop :=
  ∀ (B : Hp) (σ : L2.St), EnvR K B σ ds → ∀ H, Ex B H → ∀ Q : Bool → Hp → Prop, (∀ H', Ex H H' → Q b H') → tt σ H Q
def DA (K : PySem.W.Frag) (ta : TA) (ds : List (Option PyData)) (es : List PyData) : Prop :=
  ∀ (B : Hp) (σ : L2.St), EnvR K B σ ds → ∀ H, Ex B H → ∀ Q : List V → Hp → Prop, (∀ vs H', Ex H H' → RepAll K (Grow B H H') vs es → Q vs H') → ta σ H Q
/-- a NEW list -/
def DN (K : PySem.W.Frag) (te : TE) (ds : List (Option PyData)) (xs : List PyData) : Prop :=
  ∀ (B : Hp) (σ : L2.St), EnvR K B σ ds → ∀ H, Ex B H → ∀ Q : VK, (∀ p vs H', Ex H H' → H p = none → H' p = some (.lst vs) → RepAll K (Grow B H (del H' p)) vs xs → Q (.ref p) H') → te σ H Q
def DO (K : PySem.W.Frag) (to : TO) (ds : List (Option PyData)) (o : Option Int) : Prop :=
  ∀ (B : Hp) (σ : L2.St), EnvR K B σ ds → ∀ H, Ex B H → ∀ Q : Option Int → Hp → Prop, (∀ H', Ex H H' → Q o H') → to σ H Q
/-- it raises the class at C -/
def DX (K : PySem.W.Frag) (te : TE) (ds : List (Option PyData)) (E : XK) (C : Addr) : Prop :=
  ∀ (B : Hp) (σ : L2.St), EnvR K B σ ds → ∀ H, Ex B H → ∀ Q : VK, (∀ H', Ex H H' → E (.ref C) none H') → te σ H Q
def DAX (K : PySem.W.Frag) (ta : TA) (ds : List (Option PyData)) (E : XK) (C : Addr) : Prop :=
  ∀ (B : Hp) (σ : L2.St), EnvR K B σ ds → ∀ H, Ex B H → ∀ Q : List V → Hp → Prop, (∀ H', Ex H H' → E (.ref C) none H') → ta σ H Q
/-- operations on values -/
def D2 (K : PySem.W.Frag) (r : R2) (x y z : PyData) : Prop := ∀ (B H : Hp) (v u : V), Ex B H → Rep K B v x → Rep K B u y → ∀ Q : VK, (∀ w H', Ex H H' → Rep K (Grow B H H') w z → Q w H') → r v u H Q
def D2N (K : PySem.W.Frag) (r : R2) (x y : PyData) (zs : List PyData) : Prop := ∀ (B H : Hp) (v u : V), Ex B H → Rep K B v x → Rep K B u y → ∀ Q : VK, (∀ p vs H', Ex H H' → H p = none → H' p = some (.lst vs) → RepAll K (Grow B H (del H' p)) vs zs → Q (.ref p) H') → r v u H Q
def D1 (K : PySem.W.Frag) (r : V → Hp → VK → Prop) (x z : PyData) : Prop := ∀ (B H : Hp) (v : V), Ex B H → Rep K B v x → ∀ Q : VK, (∀ w H', Ex H H' → Rep K (Grow B H H') w z → Q w H') → r v H Q
def DC (K : PySem.W.Frag) (r : List V → Hp → VK → Prop) (xs : List PyData) (z : PyData) : Prop := ∀ (B H : Hp) (vs : List V), Ex B H → RepAll K B vs xs → ∀ Q : VK, (∀ w H', Ex H H' → Rep K (Grow B H H') w z → Q w H') → r vs H Q
def DCN (K : PySem.W.Frag) (r : List V → Hp → VK → Prop) (xs : List PyData) (zs : List PyData) : Prop := ∀ (B H : Hp) (vs : List V), Ex B H → RepAll K B vs xs → ∀ Q : VK, (∀ p us H', Ex H H' → H p = none → H' p = some (.lst us) → RepAll K (Grow B H (del H' p)) us zs → Q (.ref p) H') → r vs H Q

section
variable {K : PySem.W.Frag} {ds : List (Option PyData)} {ta tb te tc : TE} {t u : TT} {x y z d : PyData} {r r' : R2} {E : XK} {C : Addr} {xs ys zs es : List PyData}

/-- what evaluates at a base does so at a greater one -/
theorem DE.up {B B' : Hp} {σ : L2.St} {H : Hp} {Q : VK} (h : DE K te ds d) (en : EnvR K B σ ds) (e : Ex B B') (e' : Ex B' H) (k : ∀ v H', Ex H H' → Rep K (Grow B' H H') v d → Q v H') : te σ H Q :=
  h B' σ (en.mono e) H e' Q k
theorem grow_same {B H H' : Hp} (e : Ex B H) {v : V} (h : Rep K B v d) : Rep K (Grow B H H') v d := h.mono (grow_ex1 e)

theorem de_var {i : Nat} (h : ds[i]? = some (some d)) : DE K (tVar i) ds d := fun B σ en H e Q k => by
  obtain ⟨v, h1, h2⟩ := en.2 i d h
  exact ⟨v, h1, k v H (Evl.Ex.refl H) (grow_same e h2)⟩
theorem de_int {i : Int} : DE K (tC (.int i)) ds (.int i) := fun B σ en H e Q k => k _ H (Evl.Ex.refl H) (.int i)
theorem de_str {i : Str} : DE K (tC (.str i)) ds (.str i) := fun B σ en H e Q k => k _ H (Evl.Ex.refl H) (.str i)
theorem de_bl {i : Bool} : DE K (tC (.bl i)) ds (.bool i) := fun B σ en H e Q k => k _ H (Evl.Ex.refl H) (.bl i)
theorem de_non : DE K (tC .non) ds .none := fun B σ en H e Q k => k _ H (Evl.Ex.refl H) .non

theorem de_op (ha : DE K ta ds x) (hb : DE K tb ds y) (hr : D2 K r x y z) : DE K (tOp r ta tb) ds z := fun B σ en H e Q k =>
  ha B σ en H e _ fun v H1 e1 rv => hb.up en (grow_ex1 (H' := H1) e) (grow_ex2 e e1) fun u H2 e2 ru => by
    refine hr (Grow (Grow B H H1) H1 H2) H2 v u (grow_ex2 (grow_ex2 e e1) e2) (rv.mono (grow_ex1 (grow_ex2 e e1))) ru Q fun w H3 e3 rw => ?_
    refine k w H3 (e1.trans (e2.trans e3)) (rw.mono ?_)
    exact Evl.Ex.trans (grow_mono (grow_trans e1 e2)) (grow_trans (e1.trans e2) e3)
theorem dn_op (ha : DE K ta ds x) (hb : DE K tb ds y) (hr : D2N K r x y zs) : DN K (tOp r ta tb) ds zs := fun B σ en H e Q k =>
  ha B σ en H e _ fun v H1 e1 rv => hb.up en (grow_ex1 (H' := H1) e) (grow_ex2 e e1) fun u H2 e2 ru => by
    refine hr (Grow (Grow B H H1) H1 H2) H2 v u (grow_ex2 (grow_ex2 e e1) e2) (rv.mono (grow_ex1 (grow_ex2 e e1))) ru Q fun p vs H3 e3 hp h3 rw => ?_
    refine k p vs H3 (e1.trans (e2.trans e3)) (Ex.ne (e1.trans e2) hp) h3 (rw.mono ?_)
    exact Evl.Ex.trans (grow_mono (grow_trans e1 e2)) (grow_trans (e1.trans e2) (ex_del e3 hp))
theorem de_un {r : V → Hp → VK → Prop} (ha : DE K ta ds x) (hr : D1 K r x z) : DE K (tUn r ta) ds z := fun B σ en H e Q k =>
  ha B σ en H e _ fun v H1 e1 rv => hr (Grow B H H1) H1 v (grow_ex2 e e1) rv Q fun w H2 e2 rw => k w H2 (e1.trans e2) (rw.mono (grow_trans e1 e2))
theorem da_nil : DA K tNil ds [] := fun B σ en H e Q k => k [] H (Evl.Ex.refl H) .nil
theorem da_cons {tr : TA} (ha : DE K ta ds x) (hr : DA K tr ds xs) : DA K (tCons ta tr) ds (x :: xs) := fun B σ en H e Q k =>
  ha B σ en H e _ fun v H1 e1 rv => hr (Grow B H H1) σ (en.mono (grow_ex1 e)) H1 (grow_ex2 e e1) _ fun vs H2 e2 rs =>
    k (v :: vs) H2 (e1.trans e2) (.cons (rv.mono (Evl.Ex.trans (grow_ex1 (grow_ex2 e e1)) (grow_trans e1 e2))) (rs.mono (grow_trans e1 e2)))
theorem de_cb {r : List V → Hp → VK → Prop} {ta : TA} (ha : DA K ta ds xs) (hr : DC K r xs z) : DE K (tCB r ta) ds z := fun B σ en H e Q k =>
  ha B σ en H e _ fun vs H1 e1 rs => hr (Grow B H H1) H1 vs (grow_ex2 e e1) rs Q fun w H2 e2 rw => k w H2 (e1.trans e2) (rw.mono (grow_trans e1 e2))
theorem dn_cb {r : List V → Hp → VK → Prop} {ta : TA} (ha : DA K ta ds xs) (hr : DCN K r xs zs) : DN K (tCB r ta) ds zs := fun B σ en H e Q k =>
  ha B σ en H e _ fun vs H1 e1 rs => hr (Grow B H H1) H1 vs (grow_ex2 e e1) rs Q fun p us H2 e2 hp h2 rw => k p us H2 (e1.trans e2) (Ex.ne e1 hp) h2 (rw.mono (grow_trans e1 (ex_del e2 hp)))
/-- a new list is a list -/
theorem de_new (h : DN K te ds xs) : DE K te ds (.list xs) := fun B σ en H e Q k =>
  h B σ en H e Q fun p vs H' e' hp hl r => k _ H' e' (.lst (by rw [grow_new hp]; exact hl) (r.mono (grow_right del_ex)))
theorem de_is {d' : PyData} (h : DE K te ds d) (e : d = d') : DE K te ds d' := e ▸ h
theorem dt_is {b b' : Bool} (h : DT K t ds b) (e : b = b') : DT K t ds b' := e ▸ h

/-! displays -/
theorem upd_ex {H : Hp} {p : Addr} {o : HO} (h : H p = none) : Ex H (upd H p o) := Evl.Ex.new h
theorem del_upd {H : Hp} {p : Addr} {o : HO} (h : H p = none) : Ex H (del (upd H p o) p) := ex_del (upd_ex h) h
theorem len_ok {n : Nat} (h : n ≤ 100000) : n ≤ sizeLine := Evl.sz_of h
theorem de_tup {ta : TA} (h : DA K ta ds xs) (hl : xs.length ≤ 100000) : DE K (tTup ta) ds (.tuple xs) := fun B σ en H e Q k =>
  h B σ en H e _ fun vs H1 e1 rs => ⟨len_ok (by rw [rs.length]; exact hl), fun p hp => k _ _ (e1.trans (upd_ex hp)) (.tup (by rw [grow_new (Ex.ne e1 hp), upd_same]) (rs.mono (grow_right (upd_ex hp))))⟩
theorem dn_lst {ta : TA} (h : DA K ta ds xs) (hl : xs.length ≤ 100000) : DN K (tLst ta) ds xs := fun B σ en H e Q k =>
  h B σ en H e _ fun vs H1 e1 rs => ⟨len_ok (by rw [rs.length]; exact hl), fun p hp => k p vs _ (e1.trans (upd_ex hp)) (Ex.ne e1 hp) upd_same (rs.mono (grow_right (del_upd hp)))⟩

/-! tests -/
theorem dt_test {b : Bool} (h : DE K te ds (.bool b)) : DT K (tTest te) ds b := fun B σ en H e Q k =>
  h B σ en H e _ fun v H1 e1 rv => ⟨b, rv.bool_eq, k H1 e1⟩
theorem dt_B {b : Bool} (h : DE K te ds (.bool b)) : DT K (tB te) ds b := fun B σ en H e Q k =>
  h B σ en H e _ fun v H1 e1 rv => ⟨b, rv.bool_eq, k H1 e1⟩
theorem DT.up {B : Hp} {σ : L2.St} {H H1 : Hp} {Q : Bool → Hp → Prop} {b : Bool} (h : DT K t ds b) (en : EnvR K B σ ds) (e : Ex B H) (e1 : Ex H H1) (k : ∀ H', Ex H1 H' → Q b H') : t σ H1 Q := h B σ en H1 (e.trans e1) Q k
theorem dt_and {a b : Bool} (h1 : DT K t ds a) (h2 : a = true → DT K u ds b) : DT K (tAnd t u) ds (a && b) := fun B σ en H e Q k => h1 B σ en H e _ fun H1 e1 => by
  cases a with
  | true =>
    show u σ H1 Q
    exact (h2 rfl).up en e e1 fun H2 e2 => k H2 (e1.trans e2)
  | false =>
    show Q false H1
    exact k H1 e1
theorem dt_or {a b : Bool} (h1 : DT K t ds a) (h2 : a = false → DT K u ds b) : DT K (tOr t u) ds (a || b) := fun B σ en H e Q k => h1 B σ en H e _ fun H1 e1 => by
  cases a with
  | true =>
    show Q true H1
    exact k H1 e1
  | false =>
    show u σ H1 Q
    exact (h2 rfl).up en e e1 fun H2 e2 => k H2 (e1.trans e2)
theorem dt_not {a : Bool} (h1 : DT K t ds a) : DT K (tNot t) ds (!a) := fun B σ en H e Q k => h1 B σ en H e _ fun H1 e1 => k H1 e1
/-- values by and, or, not -/
theorem de_up2 {B : Hp} {σ : L2.St} {H H1 : Hp} {Q : VK} (h : DE K te ds d) (en : EnvR K B σ ds) (e : Ex B H) (e1 : Ex H H1) (k : ∀ v H', Ex H H' → Rep K (Grow B H H') v d → Q v H') : te σ H1 Q :=
  h.up en (grow_ex1 (H' := H1) e) (grow_ex2 e e1) fun v H2 e2 rv => k v H2 (e1.trans e2) (rv.mono (grow_trans e1 e2))
theorem de_andV {a b : Bool} (h1 : DE K ta ds (.bool a)) (h2 : a = true → DE K tb ds (.bool b)) : DE K (tAndV ta tb) ds (.bool (a && b)) := fun B σ en H e Q k => h1 B σ en H e _ fun v H1 e1 rv => ⟨a, rv.bool_eq, by
  cases a with
  | true =>
    show tb σ H1 Q
    exact de_up2 (h2 rfl) en e e1 k
  | false =>
    show Q (.bl false) H1
    exact k _ H1 e1 (.bl false)⟩
theorem de_orV {a b : Bool} (h1 : DE K ta ds (.bool a)) (h2 : a = false → DE K tb ds (.bool b)) : DE K (tOrV ta tb) ds (.bool (a || b)) := fun B σ en H e Q k => h1 B σ en H e _ fun v H1 e1 rv => ⟨a, rv.bool_eq, by
  cases a with
  | true =>
    show Q (.bl true) H1
    exact k _ H1 e1 (.bl true)
  | false =>
    show tb σ H1 Q
    exact de_up2 (h2 rfl) en e e1 k⟩
theorem de_notV {a : Bool} (h1 : DE K ta ds (.bool a)) : DE K (tNotV ta) ds (.bool (!a)) := fun B σ en H e Q k => h1 B σ en H e _ fun v H1 e1 rv => ⟨a, rv.bool_eq, k _ H1 e1 (.bl _)⟩
theorem de_chain {a b : Bool} (ha : DE K ta ds x) (hb : DE K tb ds y) (hr : D2 K r x y (.bool a)) (hc : a = true → DE K tc ds z) (hr' : a = true → D2 K r' y z (.bool b)) : DE K (tChain r r' ta tb tc) ds (.bool (a && b)) := fun B σ en H e Q k =>
  ha B σ en H e _ fun v H1 e1 rv => hb.up en (grow_ex1 (H' := H1) e) (grow_ex2 e e1) fun u H2 e2 ru => by
    have e12 : Ex (Grow B H H1) (Grow (Grow B H H1) H1 H2) := grow_ex1 (grow_ex2 e e1)
    have eb2 : Ex (Grow (Grow B H H1) H1 H2) H2 := grow_ex2 (grow_ex2 e e1) e2
    refine hr (Grow (Grow B H H1) H1 H2) H2 v u eb2 (rv.mono e12) ru _ fun w H3 e3 rw => ⟨a, rw.bool_eq, ?_⟩
    cases a with
    | false =>
      show Q (.bl false) H3
      exact k _ H3 (e1.trans (e2.trans e3)) (.bl false)
    | true =>
      show tc σ H3 fun w' H4 => r' u w' H4 Q
      have eb3 : Ex (Grow (Grow (Grow B H H1) H1 H2) H2 H3) H3 := grow_ex2 eb2 e3
      have bb : Ex B (Grow (Grow (Grow B H H1) H1 H2) H2 H3) := Evl.Ex.trans (grow_ex1 e) (Evl.Ex.trans e12 (grow_ex1 eb2))
      refine (hc rfl) _ σ (en.mono bb) H3 eb3 _ fun w' H4 e4 rw' => ?_
      refine hr' rfl (Grow (Grow (Grow (Grow B H H1) H1 H2) H2 H3) H3 H4) H4 u w' (grow_ex2 eb3 e4) ((ru.mono (grow_ex1 eb2)).mono (grow_ex1 eb3)) rw' Q fun o H5 e5 ro => ?_
      exact k o H5 (e1.trans (e2.trans (e3.trans (e4.trans e5)))) (by
        have q := ro.bool_eq
        rw [q]
        exact .bl _)

/-! arithmetic -/
theorem d2_I0 {g : Int → Int → V} {f : Int → Int → PyData} {i j : Int} (h : ∀ B, Rep K B (g i j) (f i j)) : D2 K (rI0 g) (.int i) (.int j) (f i j) := fun B H v u e rv ru Q k =>
  ⟨i, j, rv.int_eq, ru.int_eq, k _ H (Evl.Ex.refl H) (h _)⟩
theorem d2_I {P : Int → Int → Prop} {g : Int → Int → V} {f : Int → Int → PyData} {i j : Int} (h : ∀ B, Rep K B (g i j) (f i j)) (c : P i j) : D2 K (rI P g) (.int i) (.int j) (f i j) := fun B H v u e rv ru Q k =>
  ⟨i, j, rv.int_eq, ru.int_eq, c, k _ H (Evl.Ex.refl H) (h _)⟩
theorem d2_add {i j : Int} : D2 K (rI0 fun i j => .int (i + j)) (.int i) (.int j) (.int (i + j)) := d2_I0 (f := fun i j => .int (i + j)) fun _ => .int _
theorem d2_sub {i j : Int} : D2 K (rI0 fun i j => .int (i - j)) (.int i) (.int j) (.int (i - j)) := d2_I0 (f := fun i j => .int (i - j)) fun _ => .int _
theorem d2_mul {i j : Int} (c : CMul i j) : D2 K (rI CMul fun i j => .int (i * j)) (.int i) (.int j) (.int (i * j)) := d2_I (f := fun i j => .int (i * j)) (fun _ => .int _) c
theorem d2_fdiv {i j : Int} (c : CDiv i j) : D2 K (rI CDiv fun i j => .int (i / j)) (.int i) (.int j) (.int (i / j)) := d2_I (f := fun i j => .int (i / j)) (fun _ => .int _) c
theorem d2_mod {i j : Int} (c : 0 < j) : D2 K (rI (fun _ j => 0 < j) fun i j => .int (i % j)) (.int i) (.int j) (.int (i % j)) := d2_I (f := fun i j => .int (i % j)) (fun _ => .int _) c
theorem d2_lt {i j : Int} : D2 K (rI0 fun i j => .bl (decide (i < j))) (.int i) (.int j) (.bool (decide (i < j))) := d2_I0 (f := fun i j => .bool (decide (i < j))) fun _ => .bl _
theorem d2_le {i j : Int} : D2 K (rI0 fun i j => .bl (decide (i ≤ j))) (.int i) (.int j) (.bool (decide (i ≤ j))) := d2_I0 (f := fun i j => .bool (decide (i ≤ j))) fun _ => .bl _
theorem d2_gt {i j : Int} : D2 K (rI0 fun i j => .bl (decide (j < i))) (.int i) (.int j) (.bool (decide (j < i))) := d2_I0 (f := fun i j => .bool (decide (j < i))) fun _ => .bl _
theorem d2_ge {i j : Int} : D2 K (rI0 fun i j => .bl (decide (j ≤ i))) (.int i) (.int j) (.bool (decide (j ≤ i))) := d2_I0 (f := fun i j => .bool (decide (j ≤ i))) fun _ => .bl _
theorem d1_neg {i : Int} : D1 K (rU fun i => .int (-i)) (.int i) (.int (-i)) := fun B H v e rv Q k => ⟨i, rv.int_eq, k _ H (Evl.Ex.refl H) (.int _)⟩
/-- == of scalars -/
theorem d2_eqI {i j : Int} : D2 K rEq (.int i) (.int j) (.bool (decide (i = j))) := fun B H v u e rv ru Q k => by
  rw [rv.int_eq, ru.int_eq]
  refine ⟨rfl, ?_⟩
  have q : decide (V.int i = V.int j) = decide (i = j) := decide_eq_decide.mpr ⟨fun h => V.int.inj h, fun h => h ▸ rfl⟩
  rw [q]
  exact k _ H (Evl.Ex.refl H) (.bl _)
theorem d2_eqS {i j : Str} : D2 K rEq (.str i) (.str j) (.bool (decide (i = j))) := fun B H v u e rv ru Q k => by
  rw [rv.str_eq, ru.str_eq]
  refine ⟨rfl, ?_⟩
  have q : decide (V.str i = V.str j) = decide (i = j) := decide_eq_decide.mpr ⟨fun h => V.str.inj h, fun h => h ▸ rfl⟩
  rw [q]
  exact k _ H (Evl.Ex.refl H) (.bl _)
theorem d2_eqB {i j : Bool} : D2 K rEq (.bool i) (.bool j) (.bool (decide (i = j))) := fun B H v u e rv ru Q k => by
  rw [rv.bool_eq, ru.bool_eq]
  refine ⟨rfl, ?_⟩
  have q : decide (V.bl i = V.bl j) = decide (i = j) := decide_eq_decide.mpr ⟨fun h => V.bl.inj h, fun h => h ▸ rfl⟩
  rw [q]
  exact k _ H (Evl.Ex.refl H) (.bl _)
theorem d2_neI {i j : Int} : D2 K rNe (.int i) (.int j) (.bool (!decide (i = j))) := fun B H v u e rv ru Q k => by
  rw [rv.int_eq, ru.int_eq]
  refine ⟨rfl, ?_⟩
  have q : decide (V.int i = V.int j) = decide (i = j) := decide_eq_decide.mpr ⟨fun h => V.int.inj h, fun h => h ▸ rfl⟩
  rw [q]
  exact k _ H (Evl.Ex.refl H) (.bl _)
theorem d2_neS {i j : Str} : D2 K rNe (.str i) (.str j) (.bool (!decide (i = j))) := fun B H v u e rv ru Q k => by
  rw [rv.str_eq, ru.str_eq]
  refine ⟨rfl, ?_⟩
  have q : decide (V.str i = V.str j) = decide (i = j) := decide_eq_decide.mpr ⟨fun h => V.str.inj h, fun h => h ▸ rfl⟩
  rw [q]
  exact k _ H (Evl.Ex.refl H) (.bl _)
mutual
theorem Rep.dp {H : Hp} : ∀ {v : V} {d : PyData}, Rep K H v d → d.canLay0 = true → Dp K H v d
  | _, _, .non, _ => .non
  | _, _, .bl b, _ => .bl b
  | _, _, .int i, _ => .int i
  | _, _, .str x, _ => .str x
  | _, _, .lst h r, c => .lst (SqL.of h) (RepAll.dp r (by simpa [PyData.canLay0] using c))
  | _, _, .tup h r, c => .tup (SqT.of h) (RepAll.dp r (by simpa [PyData.canLay0] using c))
  | _, _, .scr _, c => by simp [PyData.canLay0] at c
  | _, _, .edict _, c => by simp [PyData.canLay0] at c
  | _, _, .raw _, c => by simp [PyData.canLay0] at c
  | _, _, .book _ _ _ _ _, c => by simp [PyData.canLay0] at c
theorem RepAll.dp {H : Hp} : ∀ {vs : List V} {ds : List PyData}, RepAll K H vs ds → PyData.canLayAll0 ds = true → DpAll K H vs ds
  | _, _, .nil, _ => .nil
  | _, _, .cons a r, c => .cons (Rep.dp a (by simp [PyData.canLayAll0] at c; exact c.1)) (RepAll.dp r (by simp [PyData.canLayAll0] at c; exact c.2))
end
end
end VS

set_option Elab.async false
set_option linter.all false
set_option maxRecDepth 100000
/-! Value semantics: statements, promises. -/
namespace VS
open PySem L2
open Evl (Ex ex_rd ex_l ex_t)
abbrev exr {H : Hp} : Ex H H := Evl.Ex.refl H

/-! ### names -/
inductive Slot where
  | no
  | val (d : PyData)
  | own (xs : List PyData)
/-- what may be looked at -/
def Slot.see : Slot → Option PyData
  | .no => none
  | .val d => some d
  | .own xs => some (.list xs)
/-- what stays -/
def Slot.frz : Slot → Option PyData
  | .val d => some d
  | _ => none
abbrev see (es : List Slot) : List (Option PyData) := es.map Slot.see
abbrev frz (es : List Slot) : List (Option PyData) := es.map Slot.frz

/-- F0, H0: at the entry; F: what stays; H: the heap -/
structure At (K : PySem.W.Frag) (F0 H0 F H : Hp) (σ : L2.St) (es : List Slot) : Prop where
  f00 : Ex F0 H0
  f0 : Ex F0 F
  h0 : Ex H0 H
  fh : Ex F H
  fresh : ∀ a o, F a = some o → F0 a = some o ∨ H0 a = none
  len : σ.length = es.length
  val : ∀ (i : Nat) d, es[i]? = some (.val d) → ∃ v, σ[i]? = some (some v) ∧ Rep K F v d
  own : ∀ (i : Nat) xs, es[i]? = some (.own xs) → ∃ a vs, σ[i]? = some (some (.ref a)) ∧ H0 a = none ∧ F a = none ∧ H a = some (.lst vs) ∧ RepAll K F vs xs
  sep : ∀ (i j : Nat) xs ys a, es[i]? = some (.own xs) → es[j]? = some (.own ys) → σ[i]? = some (some (.ref a)) → σ[j]? = some (some (.ref a)) → i = j

section
variable {K : PySem.W.Frag} {F0 H0 F H H' : Hp} {σ : L2.St} {es : List Slot}
theorem map_get {es : List Slot} {f : Slot → Option PyData} {i : Nat} {d : PyData} (h : (es.map f)[i]? = some (some d)) : ∃ s, es[i]? = some s ∧ f s = some d := by
  rw [List.getElem?_map] at h
  cases e : es[i]? with
  | none => rw [e] at h; cases h
  | some s => rw [e] at h; exact ⟨s, rfl, Option.some.inj h⟩
theorem At.envF (A : At K F0 H0 F H σ es) : EnvR K F σ (frz es) := ⟨A.len.trans (by rw [List.length_map]), fun i d h => by
  obtain ⟨s, e, q⟩ := map_get h
  cases s with
  | no => cases q
  | val d' => cases q; exact A.val i _ e
  | own xs => cases q⟩
theorem At.seen (A : At K F0 H0 F H σ es) : Ex F (Grow F0 H0 H) := fun a o h => by
  rcases A.fresh a o h with q | q
  · rw [grow_old (ne_some (A.f00 a o q))]; exact q
  · rw [grow_new q]; exact A.fh a o h
theorem At.seen2 (A : At K F0 H0 F H σ es) : Ex (Grow F0 H0 H) H := grow_ex2 A.f00 A.h0
theorem At.envV (A : At K F0 H0 F H σ es) : EnvR K (Grow F0 H0 H) σ (see es) := ⟨A.len.trans (by rw [List.length_map]), fun i d h => by
  obtain ⟨s, e, q⟩ := map_get h
  cases s with
  | no => cases q
  | val d' =>
    cases q
    obtain ⟨v, h1, h2⟩ := A.val i _ e
    exact ⟨v, h1, h2.mono A.seen⟩
  | own xs =>
    cases q
    obtain ⟨a, vs, h1, h2, _, h4, h5⟩ := A.own i _ e
    exact ⟨_, h1, .lst (by rw [grow_new h2]; exact h4) (h5.mono A.seen)⟩⟩
theorem get_set_ne {α : Type} {l : List α} {i j : Nat} {x : α} (h : i ≠ j) : (l.set i x)[j]? = l[j]? := List.getElem?_set_ne h
theorem get_set_at {α : Type} {l : List α} {i : Nat} {x y : α} (h : (l.set i x)[i]? = some y) : y = x := by
  by_cases q : i < l.length
  · rw [List.getElem?_set_self q] at h; exact (Option.some.inj h).symm
  · rw [List.getElem?_eq_none (by rw [List.length_set]; omega)] at h; cases h
theorem get_set_is {α : Type} {l : List α} {i : Nat} {x y : α} (h : (l.set i x)[i]? = some y) : i < l.length := by
  by_cases q : i < l.length
  · exact q
  · rw [List.getElem?_eq_none (by rw [List.length_set]; omega)] at h; cases h
/-- the heap grew -/
theorem At.grow (A : At K F0 H0 F H σ es) (e : Ex H H') : At K F0 H0 F H' σ es :=
  ⟨A.f00, A.f0, A.h0.trans e, A.fh.trans e, A.fresh, A.len, A.val, fun i xs q => by
    obtain ⟨a, vs, h1, h2, h3, h4, h5⟩ := A.own i xs q
    exact ⟨a, vs, h1, h2, h3, e a _ h4, h5⟩, A.sep⟩
/-- what is new stays -/
theorem At.keep (A : At K F0 H0 F H σ es) (e : Ex H H') : At K F0 H0 (Grow F H H') H' σ es :=
  ⟨A.f00, Evl.Ex.trans A.f0 (grow_ex1 A.fh), A.h0.trans e, grow_ex2 A.fh e, fun a o q => by
    cases z : H a with
    | none => exact .inr (Ex.ne A.h0 z)
    | some u => rw [grow_old (ne_some z)] at q; exact A.fresh a o q, A.len, fun i d q => by
    obtain ⟨v, h1, h2⟩ := A.val i d q
    exact ⟨v, h1, h2.mono (grow_ex1 A.fh)⟩, fun i xs q => by
    obtain ⟨a, vs, h1, h2, h3, h4, h5⟩ := A.own i xs q
    exact ⟨a, vs, h1, h2, by rw [grow_old (ne_some h4)]; exact h3, e a _ h4, h5.mono (grow_ex1 A.fh)⟩, A.sep⟩
theorem At.set (A : At K F0 H0 F H σ es) {i : Nat} {v : V} {d : PyData} (r : Rep K F v d) : At K F0 H0 F H (σ.set i (some v)) (es.set i (.val d)) :=
  ⟨A.f00, A.f0, A.h0, A.fh, A.fresh, by rw [List.length_set, List.length_set]; exact A.len, fun j d' q => by
    by_cases z : i = j
    · subst z
      have hi := get_set_is q
      cases get_set_at q
      exact ⟨v, List.getElem?_set_self (by rw [A.len]; exact hi), r⟩
    · rw [get_set_ne z] at q ⊢
      exact A.val j d' q, fun j xs q => by
    by_cases z : i = j
    · subst z
      cases get_set_at q
    · rw [get_set_ne z] at q ⊢
      exact A.own j xs q, fun j k xs ys a q1 q2 q3 q4 => by
    by_cases z : i = j
    · subst z
      cases get_set_at q1
    · by_cases z2 : i = k
      · subst z2
        cases get_set_at q2
      · rw [get_set_ne z] at q1 q3
        rw [get_set_ne z2] at q2 q4
        exact A.sep j k xs ys a q1 q2 q3 q4⟩
/-- a new list gets a name -/
theorem At.mint (A : At K F0 H0 F H σ es) (e : Ex H H') {i : Nat} {p : Addr} {vs : List V} {xs : List PyData} (hp : H p = none) (hl : H' p = some (.lst vs)) (r : RepAll K (Grow F H (del H' p)) vs xs) :
    At K F0 H0 (Grow F H (del H' p)) H' (σ.set i (some (.ref p))) (es.set i (.own xs)) := by
  have ed : Ex H (del H' p) := ex_del e hp
  have B := A.keep ed
  refine ⟨B.f00, B.f0, A.h0.trans e, Evl.Ex.trans B.fh del_ex, B.fresh, by rw [List.length_set, List.length_set]; exact A.len, fun j d' q => ?_, fun j ys q => ?_, fun j k ys zs a q1 q2 q3 q4 => ?_⟩
  · by_cases z : i = j
    · subst z
      cases get_set_at q
    · rw [get_set_ne z] at q ⊢
      exact B.val j d' q
  · by_cases z : i = j
    · subst z
      have hi := get_set_is q
      cases get_set_at q
      exact ⟨p, vs, List.getElem?_set_self (by rw [A.len]; exact hi), Ex.ne A.h0 hp, by rw [grow_new hp, del_same], hl, r⟩
    · rw [get_set_ne z] at q ⊢
      obtain ⟨a, us, h1, h2, h3, h4, h5⟩ := A.own j ys q
      exact ⟨a, us, h1, h2, by rw [grow_old (ne_some h4)]; exact h3, e a _ h4, h5.mono (grow_ex1 A.fh)⟩
  · by_cases z : i = j
    · subst z
      by_cases z2 : i = k
      · exact z2
      · rw [get_set_ne z2] at q2 q4
        have hi := get_set_is q1
        rw [List.getElem?_set_self (by rw [A.len]; exact hi)] at q3
        have q3' := Option.some.inj (Option.some.inj q3)
        injection q3' with q3'
        obtain ⟨b, us, h1, _, _, h4, _⟩ := A.own k _ q2
        rw [q4] at h1
        have h1' := Option.some.inj (Option.some.inj h1)
        injection h1' with h1'
        rw [← h1', ← q3', hp] at h4
        cases h4
    · by_cases z2 : i = k
      · subst z2
        rw [get_set_ne z] at q1 q3
        have hi := get_set_is q2
        rw [List.getElem?_set_self (by rw [A.len]; exact hi)] at q4
        have q4' := Option.some.inj (Option.some.inj q4)
        injection q4' with q4'
        obtain ⟨b, us, h1, _, _, h4, _⟩ := A.own j _ q1
        rw [q3] at h1
        have h1' := Option.some.inj (Option.some.inj h1)
        injection h1' with h1'
        rw [← h1', ← q4', hp] at h4
        cases h4
      · rw [get_set_ne z] at q1 q3
        rw [get_set_ne z2] at q2 q4
        exact A.sep j k ys zs a q1 q2 q3 q4
/-- an owned list changes -/
theorem At.change (A : At K F0 H0 F H σ es) {i : Nat} {a : Addr} {xs ys : List PyData} {us : List V} (hi : es[i]? = some (.own xs)) (hs : σ[i]? = some (some (.ref a))) (r : RepAll K F us ys) :
    At K F0 H0 F (upd H a (.lst us)) σ (es.set i (.own ys)) := by
  obtain ⟨b, vs, h1, h2, h3, h4, h5⟩ := A.own i xs hi
  rw [hs] at h1
  have h1' := Option.some.inj (Option.some.inj h1)
  injection h1' with h1'
  subst h1'
  have hn : ∀ j zs c, i ≠ j → es[j]? = some (.own zs) → σ[j]? = some (some (.ref c)) → c ≠ a := fun j zs c z q1 q2 q3 => by
    subst q3
    exact z (A.sep i j xs zs _ hi q1 hs q2)
  refine ⟨A.f00, A.f0, Evl.Ex.mut A.h0 h2, Evl.Ex.mut A.fh h3, A.fresh, by rw [List.length_set]; exact A.len, fun j d q => ?_, fun j zs q => ?_, fun j k zs ws c q1 q2 q3 q4 => ?_⟩
  · by_cases z : i = j
    · subst z
      cases get_set_at q
    · rw [get_set_ne z] at q
      exact A.val j d q
  · by_cases z : i = j
    · subst z
      cases get_set_at q
      exact ⟨a, us, hs, h2, h3, upd_same, r⟩
    · rw [get_set_ne z] at q
      obtain ⟨c, ws, g1, g2, g3, g4, g5⟩ := A.own j zs q
      exact ⟨c, ws, g1, g2, g3, by rw [upd_ne (hn j zs c z q g1)]; exact g4, g5⟩
  · have f : ∀ {j : Nat} {zs : List PyData}, (es.set i (.own ys))[j]? = some (.own zs) → ∃ ws, es[j]? = some (.own ws) := fun {j zs} q => by
      by_cases z : i = j
      · subst z; exact ⟨xs, hi⟩
      · rw [get_set_ne z] at q; exact ⟨zs, q⟩
    obtain ⟨_, f1⟩ := f q1
    obtain ⟨_, f2⟩ := f q2
    exact A.sep j k _ _ c f1 f2 q3 q4
/-- an owned list is from now on looked at only -/
theorem At.freeze (A : At K F0 H0 F H σ es) {i : Nat} {xs : List PyData} (hi : es[i]? = some (.own xs)) : ∃ F', Ex F F' ∧ At K F0 H0 F' H σ (es.set i (.val (.list xs))) := by
  obtain ⟨a, vs, h1, h2, h3, h4, h5⟩ := A.own i xs hi
  have ef : Ex F (upd F a (.lst vs)) := Evl.Ex.new h3
  refine ⟨upd F a (.lst vs), ef, A.f00, Evl.Ex.trans A.f0 ef, A.h0, fun b o q => ?_, fun b o q => ?_, by rw [List.length_set]; exact A.len, fun j d q => ?_, fun j zs q => ?_, fun j k zs ws c q1 q2 q3 q4 => ?_⟩
  · by_cases z : b = a
    · subst z; rw [upd_same] at q; cases q; exact h4
    · rw [upd_ne z] at q; exact A.fh b o q
  · by_cases z : b = a
    · subst z; exact .inr h2
    · rw [upd_ne z] at q; exact A.fresh b o q
  · by_cases z : i = j
    · subst z
      cases get_set_at q
      exact ⟨_, h1, .lst upd_same (h5.mono ef)⟩
    · rw [get_set_ne z] at q
      obtain ⟨v, g1, g2⟩ := A.val j d q
      exact ⟨v, g1, g2.mono ef⟩
  · by_cases z : i = j
    · subst z
      cases get_set_at q
    · rw [get_set_ne z] at q
      obtain ⟨c, ws, g1, g2, g3, g4, g5⟩ := A.own j zs q
      refine ⟨c, ws, g1, g2, ?_, g4, g5.mono ef⟩
      rw [upd_ne]
      · exact g3
      · intro y
        subst y
        exact z (A.sep i j xs zs c hi q h1 g1)
  · by_cases z : i = j
    · subst z
      cases get_set_at q1
    · by_cases z2 : i = k
      · subst z2
        cases get_set_at q2
      · rw [get_set_ne z] at q1
        rw [get_set_ne z2] at q2
        exact A.sep j k zs ws c q1 q2 q3 q4
/-- a name is forgotten -/
theorem At.forget (A : At K F0 H0 F H σ es) {es' : List Slot} (hl : es'.length = es.length) (h : ∀ (i : Nat) s, es'[i]? = some s → s = .no ∨ es[i]? = some s) : At K F0 H0 F H σ es' :=
  ⟨A.f00, A.f0, A.h0, A.fh, A.fresh, A.len.trans hl.symm, fun i d q => by
    rcases h i _ q with z | z
    · cases z
    · exact A.val i d z, fun i xs q => by
    rcases h i _ q with z | z
    · cases z
    · exact A.own i xs z, fun i j xs ys a q1 q2 q3 q4 => by
    rcases h i _ q1 with z | z
    · cases z
    · rcases h j _ q2 with y | y
      · cases y
      · exact A.sep i j xs ys a z y q3 q4⟩
end

/-! ### statements -/
structure Post where
  nx : List Slot → Prop := fun _ => False
  rt : PyData → Prop := fun _ => False
  bk : List Slot → Prop := fun _ => False
  ct : List Slot → Prop := fun _ => False
  ex : Addr → Prop := fun _ => False
  rn : List PyData → Prop := fun _ => False
structure Meets (K : PySem.W.Frag) (E : XK) (F0 H0 F : Hp) (P : Post) (D : Ends) : Prop where
  nx : ∀ F' H σ es, Ex F F' → At K F0 H0 F' H σ es → P.nx es → D.nx σ H
  bk : ∀ F' H σ es, Ex F F' → At K F0 H0 F' H σ es → P.bk es → D.bk σ H
  ct : ∀ F' H σ es, Ex F F' → At K F0 H0 F' H σ es → P.ct es → D.ct σ H
  rt : ∀ v H d, Ex H0 H → Rep K (Grow F0 H0 H) v d → P.rt d → D.rt v H
  ex : ∀ C H, Ex H0 H → P.ex C → E (.ref C) none H
  rn : ∀ p vs H xs, Ex H0 H → H0 p = none → H p = some (.lst vs) → RepAll K (Grow F0 H0 (del H p)) vs xs → P.rn xs → D.rt (.ref p) H
theorem Meets.up {K : PySem.W.Frag} {E : XK} {F0 H0 F F' : Hp} {P : Post} {D : Ends} (M : Meets K E F0 H0 F P D) (e : Ex F F') : Meets K E F0 H0 F' P D :=
  ⟨fun F' H σ es x => M.nx F' H σ es (e.trans x), fun F' H σ es x => M.bk F' H σ es (e.trans x), fun F' H σ es x => M.ct F' H σ es (e.trans x), M.rt, M.ex, M.rn⟩
def DS (K : PySem.W.Frag) (E : XK) (t : TS) (es : List Slot) (P : Post) : Prop :=
  ∀ F0 H0 F H σ D, At K F0 H0 F H σ es → Meets K E F0 H0 F P D → t D σ H

section
variable {K : PySem.W.Frag} {E : XK} {es : List Slot} {P : Post} {te ta ti : TE} {tc : TT} {t u tb : TS} {d : PyData} {i j : Nat} {xs : List PyData}
/-- what follows, said by its own word -/
theorem ds_seq (h : DS K E t es { P with nx := fun es' => DS K E u es' P }) : DS K E (tSeq t u) es P := fun F0 H0 F H σ D A M =>
  h F0 H0 F H σ { D with nx := u D } A ⟨fun F' H σ es' x A' q => q F0 H0 F' H σ D A' (M.up x), M.bk, M.ct, M.rt, M.ex, M.rn⟩
theorem ds_next (h : P.nx es) : DS K E tNext es P := fun F0 H0 F H σ D A M => M.nx F H σ es exr A h
theorem ds_brk (h : P.bk es) : DS K E tBreak es P := fun F0 H0 F H σ D A M => M.bk F H σ es exr A h
theorem ds_cont (h : P.ct es) : DS K E tCont es P := fun F0 H0 F H σ D A M => M.ct F H σ es exr A h
/-- x = e, a scalar -/
theorem ds_set (h : DE K te (see es) d) (hs : scalarD d = true) (k : P.nx (es.set i (.val d))) : DS K E (tAsg te (gName i)) es P := fun F0 H0 F H σ D A M =>
  h _ σ A.envV H A.seen2 _ fun v H' e r => M.nx F H' _ _ exr ((A.grow e).set (r.scalar hs)) k
/-- x = e, anything that stays -/
theorem ds_let (h : DE K te (frz es) d) (k : P.nx (es.set i (.val d))) : DS K E (tAsg te (gName i)) es P := fun F0 H0 F H σ D A M =>
  h _ σ A.envF H A.fh _ fun v H' e r => M.nx _ H' _ _ (grow_ex1 A.fh) ((A.keep e).set r) k
/-- x = e, a new list -/
theorem ds_new (h : DN K te (frz es) xs) (k : P.nx (es.set i (.own xs))) : DS K E (tAsg te (gName i)) es P := fun F0 H0 F H σ D A M =>
  h _ σ A.envF H A.fh _ fun p vs H' e hp hl r => M.nx _ H' _ _ (grow_ex1 A.fh) (A.mint e hp hl r) k
theorem ds_ret (h : DE K te (see es) d) (k : P.rt d) : DS K E (tRet te) es P := fun F0 H0 F H σ D A M =>
  h _ σ A.envV H A.seen2 _ fun v H' e r => M.rt v H' d (A.h0.trans e) (r.mono (grow_trans A.h0 e)) k
/-- return of a list of its own -/
theorem ds_retO (hi : es[i]? = some (.own xs)) (k : P.rn xs) : DS K E (tRet (tVar i)) es P := fun F0 H0 F H σ D A M => by
  obtain ⟨a, vs, h1, h2, h3, h4, h5⟩ := A.own i xs hi
  refine ⟨.ref a, h1, M.rn a vs H xs A.h0 h2 h4 (h5.mono fun b o q => ?_) k⟩
  have nb : b ≠ a := fun z => by rw [z, h3] at q; cases q
  rcases A.fresh b o q with z | z
  · rw [grow_old (ne_some (A.f00 b o z))]; exact z
  · rw [grow_new z, del_ne nb]; exact A.fh b o q
theorem ds_retNew (h : DN K te (see es) xs) (k : P.rn xs) : DS K E (tRet te) es P := fun F0 H0 F H σ D A M =>
  h _ σ A.envV H A.seen2 _ fun p vs H' e hp hl r => M.rn p vs H' xs (A.h0.trans e) (Ex.ne A.h0 hp) hl (r.mono (grow_trans A.h0 (ex_del e hp))) k
theorem ds_retN (k : P.rt .none) : DS K E tRetN es P := fun F0 H0 F H σ D A M => M.rt .non H .none A.h0 .non k
theorem ds_drop (h : DE K te (see es) d) (k : P.nx es) : DS K E (tDrop te) es P := fun F0 H0 F H σ D A M =>
  h _ σ A.envV H A.seen2 _ fun v H' e r => M.nx F H' σ es exr (A.grow e) k
theorem ds_if {b : Bool} (h : DT K tc (see es) b) (h1 : b = true → DS K E t es P) (h2 : b = false → DS K E u es P) : DS K E (tIfS tc t u) es P := fun F0 H0 F H σ D A M =>
  h _ σ A.envV H A.seen2 _ fun H' e => by
    cases b with
    | true =>
      show t D σ H'
      exact h1 rfl F0 H0 F H' σ D (A.grow e) M
    | false =>
      show u D σ H'
      exact h2 rfl F0 H0 F H' σ D (A.grow e) M
/-- raising -/
theorem ds_setX {C : Addr} {g : TG} (h : DX K te (see es) E C) (k : P.ex C) : DS K E (tAsg te g) es P := fun F0 H0 F H σ D A M =>
  h _ σ A.envV H A.seen2 _ fun H' e => M.ex C H' (A.h0.trans e) k
theorem ds_dropX {C : Addr} (h : DX K te (see es) E C) (k : P.ex C) : DS K E (tDrop te) es P := fun F0 H0 F H σ D A M =>
  h _ σ A.envV H A.seen2 _ fun H' e => M.ex C H' (A.h0.trans e) k
theorem ds_retX {C : Addr} (h : DX K te (see es) E C) (k : P.ex C) : DS K E (tRet te) es P := fun F0 H0 F H σ D A M =>
  h _ σ A.envV H A.seen2 _ fun H' e => M.ex C H' (A.h0.trans e) k
/-- raise X(..) -/
def tRse (E : XK) (C : Addr) : TS := fun _ _ H => E (.ref C) none H
theorem ds_raise {C : Addr} (k : P.ex C) : DS K E (tRse E C) es P := fun F0 H0 F H σ D A M => M.ex C H A.h0 k
/-- xs.append(e) -/
theorem ds_app (h : DE K te (see es) d) (hs : scalarD d = true) (hi : es[i]? = some (.own xs)) (hl : xs.length < 100000) (k : P.nx (es.set i (.own (xs ++ [d])))) : DS K E (tDrop (tBM K "list" rAppend (tVar i) (tCons te tNil))) es P := fun F0 H0 F H σ D A M => by
  obtain ⟨a, vs, h1, h2, h3, h4, h5⟩ := A.own i xs hi
  refine ⟨.ref a, h1, .inl ⟨rfl, vs, SqL.of h4⟩, h _ σ A.envV H A.seen2 _ fun v H' e r => ⟨a, vs, v, rfl, rfl, e a _ h4, ?_, ?_⟩⟩
  · exact Evl.sz_lt (by rw [h5.length]; exact hl)
  · exact M.nx F _ σ _ exr ((A.grow e).change hi h1 (h5.append (.cons (r.scalar hs) .nil))) k
theorem ds_appV (h : DE K te (frz es) d) (hi : es[i]? = some (.own xs)) (hl : xs.length < 100000) (k : P.nx (es.set i (.own (xs ++ [d])))) : DS K E (tDrop (tBM K "list" rAppend (tVar i) (tCons te tNil))) es P := fun F0 H0 F H σ D A M => by
  obtain ⟨a, vs, h1, h2, h3, h4, h5⟩ := A.own i xs hi
  refine ⟨.ref a, h1, .inl ⟨rfl, vs, SqL.of h4⟩, h _ σ A.envF H A.fh _ fun v H' e r => ⟨a, vs, v, rfl, rfl, e a _ h4, ?_, ?_⟩⟩
  · exact Evl.sz_lt (by rw [h5.length]; exact hl)
  · exact M.nx _ _ σ _ (grow_ex1 A.fh) ((A.keep e).change hi h1 ((h5.mono (grow_ex1 A.fh)).append (.cons r .nil))) k
/-- xs[i] = e -/
theorem ds_put {n : Int} {k0 : Nat} (h : DE K te (see es) d) (hs : scalarD d = true) (hi : es[i]? = some (.own xs)) (hn : DE K ti (see es) (.int n)) (hk : ixN xs.length n = some k0) (k : P.nx (es.set i (.own (xs.set k0 d)))) : DS K E (tAsg te (gSub (tVar i) ti rSetL)) es P := fun F0 H0 F H σ D A M => by
  obtain ⟨a, vs, h1, h2, h3, h4, h5⟩ := A.own i xs hi
  refine h _ σ A.envV H A.seen2 _ fun v H1 e1 r => ⟨.ref a, h1, ?_⟩
  refine hn _ σ (A.grow e1).envV H1 (A.grow e1).seen2 _ fun w H2 e2 rw => ⟨a, vs, n, k0, rfl, rw.int_eq, e2 a _ (e1 a _ h4), ?_, ?_⟩
  · rw [h5.length]; exact hk
  · exact M.nx F _ σ _ exr (((A.grow e1).grow e2).change hi h1 (h5.set (r.scalar hs))) k
/-- freeze, forget -/
theorem ds_freeze (hi : es[i]? = some (.own xs)) (h : DS K E t (es.set i (.val (.list xs))) P) : DS K E t es P := fun F0 H0 F H σ D A M => by
  obtain ⟨F', x, A'⟩ := A.freeze hi
  exact h F0 H0 F' H σ D A' (M.up x)
theorem ds_forget {es' : List Slot} (hl : es'.length = es.length) (hh : ∀ (i : Nat) s, es'[i]? = some s → s = .no ∨ es[i]? = some s) (h : DS K E t es' P) : DS K E t es P := fun F0 H0 F H σ D A M => h F0 H0 F H σ D (A.forget hl hh) M

/-! loops -/
/-- W: what holds of the names at the turn -/
theorem ds_for {tl : TE} {xs : List PyData} (W : Nat → List Slot → Prop) (h : DE K tl (frz es) (.list xs)) (h0 : W 0 es) (hs : ∀ k x es', xs[k]? = some x → W k es' → DS K E tb (es'.set j (.val x)) { P with nx := W (k + 1), ct := W (k + 1), bk := P.nx }) (hd : ∀ es', W xs.length es' → P.nx es') :
    DS K E (tFor (iList K tl) (gName j) tb) es P := fun F0 H0 F H σ D A M => by
  refine h _ σ A.envF H A.fh _ fun v H1 e1 r => ?_
  obtain ⟨a, vs, rfl, ha, rs⟩ := r.list_eq
  refine ⟨a, rfl, ⟨vs, SqL.of (grow_ex2 A.fh e1 a _ ha)⟩, ?_⟩
  refine for_list (K := K) (a := a) (xs := vs) (fun k σ' H' => ∃ F' es', Ex (Grow F H H1) F' ∧ At K F0 H0 F' H' σ' es' ∧ W k es') ⟨_, es, exr, A.keep e1, h0⟩ (fun k σ' H' _ ⟨F', es', e', A', _⟩ => SqL.of (A'.fh a _ (e' a _ ha))) ?_ ?_
  · rintro k x σ' H' hk ⟨F', es', e', A', w⟩
    obtain ⟨d, hd', rd⟩ := rs.get' hk
    have mf : Ex F F' := Evl.Ex.trans (grow_ex1 A.fh) e'
    exact hs k d es' hd' w F0 H0 F' H' _ _ (A'.set (rd.mono e')) ⟨fun F2 H2 σ2 es2 x A2 q => ⟨F2, es2, e'.trans x, A2, q⟩, fun F2 H2 σ2 es2 x A2 q => M.nx F2 H2 σ2 es2 (mf.trans x) A2 q, fun F2 H2 σ2 es2 x A2 q => ⟨F2, es2, e'.trans x, A2, q⟩, M.rt, M.ex, M.rn⟩
  · rintro σ' H' ⟨F', es', e', A', w⟩
    rw [rs.length] at w
    exact M.nx F' H' σ' es' (Evl.Ex.trans (grow_ex1 A.fh) e') A' (hd es' w)
/-- over a tuple -/
theorem ds_forT {tl : TE} {xs : List PyData} (W : Nat → List Slot → Prop) (h : DE K tl (frz es) (.tuple xs)) (h0 : W 0 es) (hs : ∀ k x es', xs[k]? = some x → W k es' → DS K E tb (es'.set j (.val x)) { P with nx := W (k + 1), ct := W (k + 1), bk := P.nx }) (hd : ∀ es', W xs.length es' → P.nx es') :
    DS K E (tFor (iTup K tl) (gName j) tb) es P := fun F0 H0 F H σ D A M => by
  refine h _ σ A.envF H A.fh _ fun v H1 e1 r => ?_
  obtain ⟨a, vs, rfl, ha, rs⟩ := r.tup_eq
  refine ⟨a, rfl, ⟨vs, SqT.of (grow_ex2 A.fh e1 a _ ha)⟩, ?_⟩
  refine for_tup (K := K) (a := a) (xs := vs) (fun k σ' H' => ∃ F' es', Ex (Grow F H H1) F' ∧ At K F0 H0 F' H' σ' es' ∧ W k es') ⟨_, es, exr, A.keep e1, h0⟩ (fun k σ' H' _ ⟨F', es', e', A', _⟩ => SqT.of (A'.fh a _ (e' a _ ha))) ?_ ?_
  · rintro k x σ' H' hk ⟨F', es', e', A', w⟩
    obtain ⟨d, hd', rd⟩ := rs.get' hk
    have mf : Ex F F' := Evl.Ex.trans (grow_ex1 A.fh) e'
    exact hs k d es' hd' w F0 H0 F' H' _ _ (A'.set (rd.mono e')) ⟨fun F2 H2 σ2 es2 x A2 q => ⟨F2, es2, e'.trans x, A2, q⟩, fun F2 H2 σ2 es2 x A2 q => M.nx F2 H2 σ2 es2 (mf.trans x) A2 q, fun F2 H2 σ2 es2 x A2 q => ⟨F2, es2, e'.trans x, A2, q⟩, M.rt, M.ex, M.rn⟩
  · rintro σ' H' ⟨F', es', e', A', w⟩
    rw [rs.length] at w
    exact M.nx F' H' σ' es' (Evl.Ex.trans (grow_ex1 A.fh) e') A' (hd es' w)
/-- over range(n) -/
theorem ds_forR1 {ta : TA} {n : Int} (W : Nat → List Slot → Prop) (h : DA K ta (see es) [.int n]) (hn : n ≤ 100000) (h0 : W 0 es) (hs : ∀ (k : Nat) es', (k : Int) < n → W k es' → DS K E tb (es'.set j (.val (.int (k : Int)))) { P with nx := W (k + 1), ct := W (k + 1), bk := P.nx }) (hd : ∀ es', W n.toNat es' → P.nx es') (hlo : -100000 ≤ n) :
    DS K E (tFor (iRng1 ta) (gName j) tb) es P := fun F0 H0 F H σ D A M => by
  refine h _ σ A.envV H A.seen2 _ fun vs H1 e1 r => ?_
  have ev : vs = [.int n] := by
    cases r with
    | cons a r => cases r; rw [a.int_eq]
  refine ⟨n, ev, by omega, by omega, ?_⟩
  refine for_range (lo := 0) (n := n.toNat) (fun k σ' H' => ∃ F' es', Ex F F' ∧ At K F0 H0 F' H' σ' es' ∧ W k es') ⟨_, es, exr, A.grow e1, h0⟩ ?_ ?_
  · rintro k σ' H' hk ⟨F', es', e', A', w⟩
    have e0 : (0 : Int) + (k : Int) = (k : Int) := Int.zero_add _
    rw [e0]
    exact hs k es' (by omega) w F0 H0 F' H' _ _ (A'.set (.int _)) ⟨fun F2 H2 σ2 es2 x A2 q => ⟨F2, es2, e'.trans x, A2, q⟩, fun F2 H2 σ2 es2 x A2 q => M.nx F2 H2 σ2 es2 (e'.trans x) A2 q, fun F2 H2 σ2 es2 x A2 q => ⟨F2, es2, e'.trans x, A2, q⟩, M.rt, M.ex, M.rn⟩
  · rintro σ' H' ⟨F', es', e', A', w⟩
    exact M.nx F' H' σ' es' e' A' (hd es' w)
/-- over range(lo, n) -/
theorem ds_forR2 {ta : TA} {lo n : Int} (W : Nat → List Slot → Prop) (h : DA K ta (see es) [.int lo, .int n]) (hb : -100000 ≤ lo ∧ lo ≤ 100000 ∧ -100000 ≤ n ∧ n ≤ 100000) (h0 : W 0 es) (hs : ∀ (k : Nat) es', lo + (k : Int) < n → W k es' → DS K E tb (es'.set j (.val (.int (lo + (k : Int))))) { P with nx := W (k + 1), ct := W (k + 1), bk := P.nx }) (hd : ∀ es', W (n - lo).toNat es' → P.nx es') :
    DS K E (tFor (iRng2 ta) (gName j) tb) es P := fun F0 H0 F H σ D A M => by
  refine h _ σ A.envV H A.seen2 _ fun vs H1 e1 r => ?_
  have ev : vs = [.int lo, .int n] := by
    cases r with
    | cons a r =>
      cases r with
      | cons b r => cases r; rw [a.int_eq, b.int_eq]
  refine ⟨lo, n, ev, ⟨by omega, by omega, by omega, by omega⟩, ?_⟩
  refine for_range (lo := lo) (n := (n - lo).toNat) (fun k σ' H' => ∃ F' es', Ex F F' ∧ At K F0 H0 F' H' σ' es' ∧ W k es') ⟨_, es, exr, A.grow e1, h0⟩ ?_ ?_
  · rintro k σ' H' hk ⟨F', es', e', A', w⟩
    exact hs k es' (by omega) w F0 H0 F' H' _ _ (A'.set (.int _)) ⟨fun F2 H2 σ2 es2 x A2 q => ⟨F2, es2, e'.trans x, A2, q⟩, fun F2 H2 σ2 es2 x A2 q => M.nx F2 H2 σ2 es2 (e'.trans x) A2 q, fun F2 H2 σ2 es2 x A2 q => ⟨F2, es2, e'.trans x, A2, q⟩, M.rt, M.ex, M.rn⟩
  · rintro σ' H' ⟨F', es', e', A', w⟩
    exact M.nx F' H' σ' es' e' A' (hd es' w)
/-- while, by a word and a number that falls -/
theorem ds_while (W : Nat → List Slot → Prop) (m0 : Nat) (h0 : W m0 es) (hs : ∀ m es', W m es' → ∃ b, DT K tc (see es') b ∧ (b = true → DS K E tb es' { P with nx := fun es2 => ∃ m', m' < m ∧ W m' es2, ct := fun es2 => ∃ m', m' < m ∧ W m' es2, bk := P.nx }) ∧ (b = false → P.nx es')) :
    DS K E (tWhile tc tb) es P := fun F0 H0 F H σ D A M => by
  refine ⟨fun m σ' H' => ∃ F' es', Ex F F' ∧ At K F0 H0 F' H' σ' es' ∧ W m es', ⟨m0, F, es, exr, A, h0⟩, ?_⟩
  rintro m σ' H' ⟨F', es', e', A', w⟩
  obtain ⟨b, hb, h1, h2⟩ := hs m es' w
  refine hb _ σ' A'.envV H' A'.seen2 _ fun H1 e1 => ?_
  cases b with
  | true =>
    rw [if_pos rfl]
    refine ⟨fun σ2 H2 => ∃ m', m' < m ∧ ∃ F' es', Ex F F' ∧ At K F0 H0 F' H2 σ2 es' ∧ W m' es', fun σ2 H2 q => q, ?_⟩
    exact h1 rfl F0 H0 F' H1 σ' _ (A'.grow e1) ⟨fun F2 H2 σ2 es2 x A2 ⟨m', l, q⟩ => ⟨m', l, F2, es2, e'.trans x, A2, q⟩, fun F2 H2 σ2 es2 x A2 q => M.nx F2 H2 σ2 es2 (e'.trans x) A2 q, fun F2 H2 σ2 es2 x A2 ⟨m', l, q⟩ => ⟨m', l, F2, es2, e'.trans x, A2, q⟩, M.rt, M.ex, M.rn⟩
  | false =>
    rw [if_neg Bool.false_ne_true]
    exact M.nx F' H1 σ' es' e' (A'.grow e1) (h2 rfl)
theorem ds_post {P' : Post} (h : DS K E t es P') (n : ∀ es, P'.nx es → P.nx es) (b : ∀ es, P'.bk es → P.bk es) (c : ∀ es, P'.ct es → P.ct es) (r : ∀ d, P'.rt d → P.rt d) (x : ∀ C, P'.ex C → P.ex C) (w : ∀ xs, P'.rn xs → P.rn xs := by first | exact fun _ h => h | exact fun _ h => h.elim) : DS K E t es P := fun F0 H0 F H σ D A M =>
  h F0 H0 F H σ D A ⟨fun F' H σ es e A q => M.nx F' H σ es e A (n es q), fun F' H σ es e A q => M.bk F' H σ es e A (b es q), fun F' H σ es e A q => M.ct F' H σ es e A (c es q), fun v H d e R q => M.rt v H d e R (r d q), fun C H e q => M.ex C H e (x C q), fun p vs H xs e h1 h2 R q => M.rn p vs H xs e h1 h2 R (w xs q)⟩
end

/-! ### promises -/
inductive Out where
  | ret (d : PyData)
  | exc (C : Addr)
  | new (xs : List PyData)
/-- called with these data it ends so -/
def spD (K : PySem.W.Frag) (R : List PyData → Out → Prop) : Sp := fun vs H Q E => ∃ F ds o, Ex F H ∧ RepAll K F vs ds ∧ R ds o ∧
  (∀ d v H', o = .ret d → Ex H H' → Rep K (Grow F H H') v d → Q v H') ∧ (∀ C H', o = .exc C → Ex H H' → E (.ref C) none H') ∧
  (∀ xs p us H', o = .new xs → Ex H H' → H p = none → H' p = some (.lst us) → RepAll K (Grow F H (del H' p)) us xs → Q (.ref p) H')
section
variable {K : PySem.W.Frag} {E E' : XK} {ds : List (Option PyData)} {ta : TA} {xs : List PyData} {d : PyData} {R : List PyData → Out → Prop} {C : Addr}
theorem de_call (ha : DA K ta ds xs) (hr : R xs (.ret d)) : DE K (tCall (spD K R) [] E ta) ds d := fun B σ en H e Q k =>
  ha B σ en H e _ fun vs H1 e1 rs => ⟨Grow B H H1, xs, .ret d, grow_ex2 e e1, by rw [List.append_nil]; exact rs, hr, fun d' v H' q e2 r => by
    cases q
    exact k v H' (e1.trans e2) (r.mono (grow_trans e1 e2)), (fun C H' q => by cases q), fun xs p us H' q => by cases q⟩
theorem dn_call {zs : List PyData} (ha : DA K ta ds xs) (hr : R xs (.new zs)) : DN K (tCall (spD K R) [] E ta) ds zs := fun B σ en H e Q k =>
  ha B σ en H e _ fun vs H1 e1 rs => ⟨Grow B H H1, xs, .new zs, grow_ex2 e e1, by rw [List.append_nil]; exact rs, hr, (fun d' v H' q => by cases q), (fun C H' q => by cases q), fun zs' p us H' q e2 hp hl r => by
    cases q
    exact k p us H' (e1.trans e2) (Ex.ne e1 hp) hl (r.mono (grow_trans e1 (ex_del e2 hp)))⟩
theorem dx_call (ha : DA K ta ds xs) (hr : R xs (.exc C)) : DX K (tCall (spD K R) [] E ta) ds E C := fun B σ en H e Q k =>
  ha B σ en H e _ fun vs H1 e1 rs => ⟨Grow B H H1, xs, .exc C, grow_ex2 e e1, by rw [List.append_nil]; exact rs, hr, (fun d' v H' q => by cases q), (fun C' H' q e2 => by
    cases q
    exact k H' (e1.trans e2)), fun xs p us H' q => by cases q⟩
theorem dax_1 {te : TE} {tr : TA} (h : DX K te ds E C) : DAX K (tCons te tr) ds E C := fun B σ en H e Q k => h B σ en H e _ k
theorem dax_2 {te : TE} {tr : TA} (h : DE K te ds d) (hr : DAX K tr ds E C) : DAX K (tCons te tr) ds E C := fun B σ en H e Q k =>
  h B σ en H e _ fun v H1 e1 _ => hr B σ en H1 (e.trans e1) _ fun H' e2 => k H' (e1.trans e2)
theorem dx_tup (h : DAX K ta ds E C) : DX K (tTup ta) ds E C := fun B σ en H e Q k => h B σ en H e _ k
theorem dx_args {sp : Sp} (h : DAX K ta ds E C) : DX K (tCall sp [] E' ta) ds E C := fun B σ en H e Q k => h B σ en H e _ k
end
/-- the names at the entry -/
def slots (n : Nat) (ds : List PyData) : List Slot := ds.map Slot.val ++ List.replicate (n - ds.length) .no
theorem start_at {K : PySem.W.Frag} {F H : Hp} {N : List Str} {vs : List V} {ds : List PyData} (e : Ex F H) (r : RepAll K F vs ds) : At K F H F H (L2.start N vs) (slots N.length ds) := by
  have hl := r.length
  have own : ∀ (i : Nat) xs, (slots N.length ds)[i]? ≠ some (.own xs) := fun i xs h => by
    unfold slots at h
    by_cases q : i < ds.length
    · rw [List.getElem?_append_left (by rw [List.length_map]; exact q), List.getElem?_map, List.getElem?_eq_getElem q] at h
      simp at h
    · rw [List.getElem?_append_right (by rw [List.length_map]; omega), List.getElem?_replicate] at h
      split at h <;> simp at h
  refine ⟨e, exr, exr, e, fun a o q => .inl q, ?_, fun i d h => ?_, fun i xs h => absurd h (own i xs), fun i j xs ys a h => absurd h (own i xs)⟩
  · unfold L2.start slots
    simp [hl]
  · unfold slots at h
    by_cases q : i < ds.length
    · rw [List.getElem?_append_left (by rw [List.length_map]; exact q), List.getElem?_map] at h
      cases z : ds[i]? with
      | none => rw [z] at h; cases h
      | some d' =>
        rw [z] at h
        have h' := Option.some.inj h
        injection h' with h'
        subst h'
        obtain ⟨v, h1, h2⟩ := r.get z
        refine ⟨v, ?_, h2⟩
        unfold L2.start
        rw [List.getElem?_append_left (by rw [List.length_map, hl]; exact q), List.getElem?_map, h1]
        rfl
    · rw [List.getElem?_append_right (by rw [List.length_map]; omega), List.getElem?_replicate] at h
      split at h <;> simp at h
def Out.post (o : Out) : Post := { nx := fun _ => o = .ret .none, rt := fun d => o = .ret d, ex := fun C => o = .exc C, rn := fun xs => o = .new xs }
/-- a def's body by its data -/
theorem run_body {K : PySem.W.Frag} {N : List Str} {t : TS} {R : List PyData → Out → Prop} {vs : List V} {H : Hp} {Q : VK} {E : XK} (h : spD K R vs H Q E) (hb : ∀ ds o, R ds o → DS K E t (slots N.length ds) o.post) :
    t { nx := fun _ H' => Q .non H', rt := Q } (L2.start N vs) H := by
  obtain ⟨F, ds, o, e, r, hr, k1, k2, k3⟩ := h
  have A := start_at (N := N) e r
  refine hb ds o hr F H F H _ _ A ⟨fun F' H' σ es x A' q => ?_, fun F' H' σ es x A' q => False.elim q, fun F' H' σ es x A' q => False.elim q, fun v H' d e' r' q => k1 d v H' q e' r', fun C H' e' q => k2 C H' q e', fun p us H' xs e' h1 h2 r' q => k3 xs p us H' q e' h1 h2 r'⟩
  exact k1 .none .non H' q A'.h0 .non
theorem sp_len {K : PySem.W.Frag} {R : List PyData → Out → Prop} {n : Nat} (hR : ∀ ds o, R ds o → ds.length = n) : ∀ vs H Q E, spD K R vs H Q E → vs.length = n := fun vs H Q E ⟨F, ds, o, e, r, hr, _⟩ => by
  rw [r.length]
  exact hR ds o hr
/-- the same word for all ways to ask -/
theorem spD_mono {K : PySem.W.Frag} {R R' : List PyData → Out → Prop} (h : ∀ ds o, R ds o → R' ds o) {vs H Q E} (x : spD K R vs H Q E) : spD K R' vs H Q E := by
  obtain ⟨F, ds, o, e, r, hr, k⟩ := x
  exact ⟨F, ds, o, e, r, h ds o hr, k⟩
end VS

set_option Elab.async false
set_option linter.all false
set_option maxRecDepth 100000
/-! Value semantics: items, slices, built-ins, comprehensions. -/
namespace VS
open PySem L2
open Evl (Ex ex_rd ex_l ex_t)
section
variable {K : PySem.W.Frag} {ds : List (Option PyData)} {ta tb te : TE} {x y z d : PyData} {xs ys zs es : List PyData} {i : Int}
/-! ### items -/
theorem RepAll.at {H : Hp} {vs : List V} (r : RepAll K H vs xs) (h : atI xs i = some d) : ∃ v, atI vs i = some v ∧ Rep K H v d := by
  unfold atI at h ⊢
  rw [r.length]
  cases q : ixN xs.length i with
  | none => rw [q] at h; cases h
  | some j =>
    rw [q] at h
    obtain ⟨v, h1, h2⟩ := r.get (i := j) h
    exact ⟨v, h1, h2⟩
theorem d2_ixL (h : atI xs i = some d) : D2 K (rIxL K) (.list xs) (.int i) d := fun B H v u e rv ru Q k => by
  obtain ⟨a, vs, rfl, ha, rs⟩ := rv.list_eq
  obtain ⟨w, h1, h2⟩ := rs.at h
  exact ⟨a, vs, i, w, rfl, ru.int_eq, SqL.of (e a _ ha), h1, k w H exr (grow_same e h2)⟩
theorem d2_ixT (h : atI xs i = some d) : D2 K (rIxT K) (.tuple xs) (.int i) d := fun B H v u e rv ru Q k => by
  obtain ⟨a, vs, rfl, ha, rs⟩ := rv.tup_eq
  obtain ⟨w, h1, h2⟩ := rs.at h
  exact ⟨a, vs, i, w, rfl, ru.int_eq, SqT.of (e a _ ha), h1, k w H exr (grow_same e h2)⟩
theorem d2_ixC {ns : List Int} {n : Int} (h : atI ns i = some n) : D2 K (rIxL K) (scrD ns) (.int i) (.int n) := fun B H v u e rv ru Q k => by
  obtain ⟨a, rfl, ha⟩ := rv.scr_eq
  refine ⟨a, ns.map V.int, i, .int n, rfl, ru.int_eq, ex_l e ha, ?_, k _ H exr (.int n)⟩
  unfold atI at h ⊢
  rw [List.length_map]
  cases q : ixN ns.length i with
  | none => rw [q] at h; cases h
  | some j =>
    rw [q] at h
    show (ns.map V.int)[j]? = some (V.int n)
    rw [List.getElem?_map, show ns[j]? = some n from h]
    rfl
theorem d2_ixS {s : Str} {c : Nat} (hl : s.length ≤ 100000) (h : atI s.cps.toList i = some c) : D2 K rIxS (.str s) (.int i) (.str ⟨#[c]⟩) := fun B H v u e rv ru Q k =>
  ⟨s, i, c, rv.str_eq, ru.int_eq, len_ok hl, h, k _ H exr (.str _)⟩
/-! ### slices -/
def cut {α : Type} (xs : List α) (lo hi : Option Int) : List α := (xs.drop (HT.sIx xs.length 0 lo)).take (HT.sIx xs.length xs.length hi - HT.sIx xs.length 0 lo)
theorem RepAll.cut {H : Hp} {vs : List V} (r : RepAll K H vs xs) (lo hi : Option Int) : RepAll K H (cutV vs lo hi) (VS.cut xs lo hi) := by
  unfold cutV VS.cut
  rw [r.length]
  exact (r.drop _).take _
theorem do_none : DO K tNoPart ds none := fun B σ en H e Q k => k H exr
theorem do_some (h : DE K te ds (.int i)) : DO K (tPart te) ds (some i) := fun B σ en H e Q k => h B σ en H e _ fun v H1 e1 r => ⟨i, r.int_eq, k H1 e1⟩
theorem dn_sl {tl th : TO} {lo hi : Option Int} (h : DE K te ds (.list xs)) (h1 : DO K tl ds lo) (h2 : DO K th ds hi) : DN K (tSl (rSlL K) te tl th) ds (cut xs lo hi) := fun B σ en H e Q k =>
  h B σ en H e _ fun v H1 e1 r => h1 B σ en H1 (e.trans e1) _ fun H2 e2 => h2 B σ en H2 ((e.trans e1).trans e2) _ fun H3 e3 => by
    obtain ⟨a, vs, rfl, ha, rs⟩ := r.list_eq
    refine ⟨a, vs, rfl, SqL.of (e3 a _ (e2 a _ (grow_ex2 e e1 a _ ha))), fun p hp => ?_⟩
    have e13 : Ex H1 H3 := e2.trans e3
    have hp0 := Ex.ne (e1.trans e13) hp
    refine k p _ _ (e1.trans (e13.trans (upd_ex hp))) hp0 upd_same ((rs.cut lo hi).mono ?_)
    exact grow_right (e13.trans (del_upd hp))
theorem dn_slC {tl th : TO} {lo hi : Option Int} {ns : List Int} (h : DE K te ds (scrD ns)) (h1 : DO K tl ds lo) (h2 : DO K th ds hi) : DN K (tSl (rSlL K) te tl th) ds ((cut ns lo hi).map PyData.int) := fun B σ en H e Q k =>
  h B σ en H e _ fun v H1 e1 r => h1 B σ en H1 (e.trans e1) _ fun H2 e2 => h2 B σ en H2 ((e.trans e1).trans e2) _ fun H3 e3 => by
    obtain ⟨a, rfl, ha⟩ := r.scr_eq
    have e13 : Ex H1 H3 := e2.trans e3
    refine ⟨a, ns.map V.int, rfl, ex_l (Evl.Ex.trans (grow_ex2 e e1) e13) ha, fun p hp => ?_⟩
    have hp0 := Ex.ne (e1.trans e13) hp
    refine k p _ _ (e1.trans (e13.trans (upd_ex hp))) hp0 upd_same ?_
    have q : cutV (ns.map V.int) lo hi = (cut ns lo hi).map V.int := by
      unfold cutV VS.cut
      rw [List.length_map, List.map_take, List.map_drop]
    rw [q]
    exact .ints _
/-! ### built-ins -/
theorem dc_len : DC K (fun xs H Q => ∃ p ys, xs = [V.ref p] ∧ (SqL K H p ys ∨ SqT K H p ys) ∧ Q (.int ys.length) H) [.list xs] (.int (xs.length : Int)) := fun B H vs e r Q k => by
  cases r with
  | cons a r =>
    cases r
    obtain ⟨p, ys, rfl, ha, rs⟩ := a.list_eq
    exact ⟨p, ys, rfl, .inl (SqL.of (e p _ ha)), by rw [rs.length]; exact k _ H exr (.int _)⟩
theorem dc_lenT : DC K (fun xs H Q => ∃ p ys, xs = [V.ref p] ∧ (SqL K H p ys ∨ SqT K H p ys) ∧ Q (.int ys.length) H) [.tuple xs] (.int (xs.length : Int)) := fun B H vs e r Q k => by
  cases r with
  | cons a r =>
    cases r
    obtain ⟨p, ys, rfl, ha, rs⟩ := a.tup_eq
    exact ⟨p, ys, rfl, .inr (SqT.of (e p _ ha)), by rw [rs.length]; exact k _ H exr (.int _)⟩
theorem dc_lenC {ns : List Int} : DC K (fun xs H Q => ∃ p ys, xs = [V.ref p] ∧ (SqL K H p ys ∨ SqT K H p ys) ∧ Q (.int ys.length) H) [scrD ns] (.int (ns.length : Int)) := fun B H vs e r Q k => by
  cases r with
  | cons a r =>
    cases r
    obtain ⟨p, rfl, ha⟩ := a.scr_eq
    exact ⟨p, ns.map V.int, rfl, .inl (ex_l e ha), by rw [List.length_map]; exact k _ H exr (.int _)⟩
theorem dc_lenS {s : Str} (h : s.length ≤ 100000) : DC K (fun xs H Q => ∃ z, xs = [V.str z] ∧ z.length ≤ sizeLine ∧ Q (.int z.length) H) [.str s] (.int (s.length : Int)) := fun B H vs e r Q k => by
  cases r with
  | cons a r =>
    cases r
    rw [a.str_eq]
    exact ⟨s, rfl, len_ok h, k _ H exr (.int _)⟩
theorem dcn_list : DCN K (fun xs H Q => ∃ p ys, xs = [V.ref p] ∧ (SqL K H p ys ∨ SqT K H p ys) ∧ ∀ l, H l = none → Q (.ref l) (upd H l (.lst ys))) [.list xs] xs := fun B H vs e r Q k => by
  cases r with
  | cons a r =>
    cases r
    obtain ⟨p, ys, rfl, ha, rs⟩ := a.list_eq
    exact ⟨p, ys, rfl, .inl (SqL.of (e p _ ha)), fun l hl => k l ys _ (upd_ex hl) hl upd_same (rs.mono (grow_ex1 e))⟩
theorem dcn_listT : DCN K (fun xs H Q => ∃ p ys, xs = [V.ref p] ∧ (SqL K H p ys ∨ SqT K H p ys) ∧ ∀ l, H l = none → Q (.ref l) (upd H l (.lst ys))) [.tuple xs] xs := fun B H vs e r Q k => by
  cases r with
  | cons a r =>
    cases r
    obtain ⟨p, ys, rfl, ha, rs⟩ := a.tup_eq
    exact ⟨p, ys, rfl, .inr (SqT.of (e p _ ha)), fun l hl => k l ys _ (upd_ex hl) hl upd_same (rs.mono (grow_ex1 e))⟩
theorem dc_min2 {i j : Int} : DC K (fun xs H Q => ∃ i j, xs = [V.int i, V.int j] ∧ Q (.int (if j < i then j else i)) H) [.int i, .int j] (.int (min i j)) := fun B H vs e r Q k => by
  cases r with
  | cons a r =>
    cases r with
    | cons b r =>
      cases r
      rw [a.int_eq, b.int_eq]
      have q : (if j < i then j else i) = min i j := by
        rw [Int.min_def]
        split <;> split <;> omega
      exact ⟨i, j, rfl, by rw [q]; exact k _ H exr (.int _)⟩
theorem dc_max2 {i j : Int} : DC K (fun xs H Q => ∃ i j, xs = [V.int i, V.int j] ∧ Q (.int (if j > i then j else i)) H) [.int i, .int j] (.int (max i j)) := fun B H vs e r Q k => by
  cases r with
  | cons a r =>
    cases r with
    | cons b r =>
      cases r
      rw [a.int_eq, b.int_eq]
      have q : (if j > i then j else i) = max i j := by
        rw [Int.max_def]
        split <;> split <;> omega
      exact ⟨i, j, rfl, by rw [q]; exact k _ H exr (.int _)⟩
theorem dc_abs {i : Int} : DC K (fun xs H Q => ∃ i, xs = [V.int i] ∧ Q (.int (if i < 0 then -i else i)) H) [.int i] (.int (if i < 0 then -i else i)) := fun B H vs e r Q k => by
  cases r with
  | cons a r =>
    cases r
    rw [a.int_eq]
    exact ⟨i, rfl, k _ H exr (.int _)⟩
theorem dc_intB {b : Bool} : DC K (fun xs H Q => (∃ i, xs = [V.int i] ∧ Q (.int i) H) ∨ ∃ k, xs = [V.bl k] ∧ Q (.int (if k then 1 else 0)) H) [.bool b] (.int (if b then 1 else 0)) := fun B H vs e r Q k => by
  cases r with
  | cons a r =>
    cases r
    rw [a.bool_eq]
    exact .inr ⟨b, rfl, k _ H exr (.int _)⟩
theorem dc_sum {ns : List Int} : DC K (rSum K) [.list (ns.map PyData.int)] (.int ns.sum) := fun B H vs e r Q k => by
  cases r with
  | cons a r =>
    cases r
    obtain ⟨p, ys, rfl, ha, rs⟩ := a.list_eq
    have q := rs.of_ints
    subst q
    exact ⟨p, ns, rfl, SqL.of (e p _ ha), k _ H exr (.int _)⟩
theorem dc_maxL {ns : List Int} {m : Int} (h0 : 0 < ns.length) (h1 : m ∈ ns) (h2 : ∀ y ∈ ns, y ≤ m) : DC K (rMax K) [.list (ns.map PyData.int)] (.int m) := fun B H vs e r Q k => by
  cases r with
  | cons a r =>
    cases r
    obtain ⟨p, ys, rfl, ha, rs⟩ := a.list_eq
    have q := rs.of_ints
    subst q
    refine ⟨p, ns, rfl, SqL.of (e p _ ha), h0, fun m' g1 g2 => ?_⟩
    have q : m' = m := Int.le_antisymm (h2 m' g1) (g2 m h1)
    rw [q]
    exact k _ H exr (.int _)
theorem dc_minL {ns : List Int} {m : Int} (h0 : 0 < ns.length) (h1 : m ∈ ns) (h2 : ∀ y ∈ ns, m ≤ y) : DC K (rMin K) [.list (ns.map PyData.int)] (.int m) := fun B H vs e r Q k => by
  cases r with
  | cons a r =>
    cases r
    obtain ⟨p, ys, rfl, ha, rs⟩ := a.list_eq
    have q := rs.of_ints
    subst q
    refine ⟨p, ns, rfl, SqL.of (e p _ ha), h0, fun m' g1 g2 => ?_⟩
    have q : m' = m := Int.le_antisymm (g2 m h1) (h2 m' g1)
    rw [q]
    exact k _ H exr (.int _)
/-- sorted of ints -/
theorem sort_ints {ns ms : List Int} (p : ms.Perm ns) (s : ms.Pairwise (· ≤ ·)) : ms = ns.mergeSort (fun a b => decide (a ≤ b)) := by
  have h : (ns.mergeSort (fun a b => decide (a ≤ b))).Pairwise (fun a b => decide (a ≤ b) = true) := List.pairwise_mergeSort (fun a b c h1 h2 => by simp at *; omega) (fun a b => by simp; omega) ns
  refine List.Perm.eq_of_pairwise (le := fun a b : Int => a ≤ b) (fun a b _ _ h1 h2 => Int.le_antisymm h1 h2) s (h.imp fun h => of_decide_eq_true h) (p.trans (List.mergeSort_perm _ _).symm)
theorem dcn_sortI {ns : List Int} : DCN K (rSortedI K) [.list (ns.map PyData.int)] ((ns.mergeSort (fun a b => decide (a ≤ b))).map PyData.int) := fun B H vs e r Q k => by
  cases r with
  | cons a r =>
    cases r
    obtain ⟨p, ys, rfl, ha, rs⟩ := a.list_eq
    have q := rs.of_ints
    subst q
    refine ⟨p, ns, rfl, SqL.of (e p _ ha), fun ms l hp hs hl => ?_⟩
    rw [sort_ints hp hs]
    exact k l _ _ (upd_ex hl) hl upd_same (.ints _)
/-- sorted of pairs of ints -/
def pairD (p : Int × Int) : PyData := .tuple [.int p.1, .int p.2]
def leP (p q : Int × Int) : Bool := decide (p.1 < q.1) || (decide (p.1 = q.1) && decide (p.2 ≤ q.2))
theorem leP_iff {p q : Int × Int} : leP p q = true ↔ p.1 < q.1 ∨ (p.1 = q.1 ∧ p.2 ≤ q.2) := by
  unfold leP
  simp
theorem sort_pairs {ps qs : List (Int × Int)} (p : qs.Perm ps) (s : qs.Pairwise fun a b => leP a b = true) : qs = ps.mergeSort leP := by
  have h : (ps.mergeSort leP).Pairwise (fun a b => leP a b = true) := List.pairwise_mergeSort (fun a b c h1 h2 => by rw [leP_iff] at *; omega) (fun a b => by rw [Bool.or_eq_true, leP_iff, leP_iff]; omega) ps
  exact List.Perm.eq_of_pairwise (le := fun a b => leP a b = true) (fun a b _ _ h1 h2 => by
    rw [leP_iff] at h1 h2
    exact Prod.ext (by omega) (by omega)) s h (p.trans (List.mergeSort_perm _ _).symm)
def keyP (H : Hp) : V → Int × Int
  | .ref t => match H t with
    | some (.tup [.int i, .int j]) => (i, j)
    | _ => (0, 0)
  | _ => (0, 0)
theorem keyP_eq {H : Hp} {t : Addr} {i j : Int} (h : H t = some (.tup [.int i, .int j])) : keyP H (.ref t) = (i, j) := by
  show (match H t with
    | some (.tup [.int i, .int j]) => (i, j)
    | _ => (0, 0)) = (i, j)
  rw [h]
theorem reps_pairs {B H : Hp} (e : Ex B H) : ∀ {vs : List V} {ps : List (Int × Int)}, RepAll K B vs (ps.map pairD) → (∀ v ∈ vs, ∃ t, v = V.ref t ∧ B t = some (.tup [.int (keyP H v).1, .int (keyP H v).2])) ∧ vs.map (keyP H) = ps
  | [], ps, h => by
    cases ps with
    | nil => exact ⟨fun v hv => by simp at hv, rfl⟩
    | cons p ps => cases h
  | v :: vs, ps, h => by
    cases ps with
    | nil => cases h
    | cons p ps =>
      cases h with
      | cons a r =>
        obtain ⟨h1, h2⟩ := reps_pairs e r
        obtain ⟨t, ws, rfl, ht, rs⟩ := a.tup_eq
        cases rs with
        | cons a1 rs =>
          cases rs with
          | cons a2 rs =>
            cases rs
            rw [a1.int_eq, a2.int_eq] at ht
            have kq : keyP H (.ref t) = p := keyP_eq (e t _ ht)
            refine ⟨fun w hw => ?_, ?_⟩
            · rcases List.mem_cons.mp hw with rfl | hw
              · exact ⟨t, rfl, by rw [kq]; exact ht⟩
              · exact h1 w hw
            · rw [List.map_cons, kq, h2]
theorem reps_back {B H : Hp} : ∀ {vs : List V}, (∀ v ∈ vs, ∃ t, v = V.ref t ∧ B t = some (.tup [.int (keyP H v).1, .int (keyP H v).2])) → RepAll K B vs ((vs.map (keyP H)).map pairD)
  | [], _ => .nil
  | v :: vs, h => by
    obtain ⟨t, e, ht⟩ := h v List.mem_cons_self
    refine .cons ?_ (reps_back fun w hw => h w (List.mem_cons_of_mem _ hw))
    rw [e] at ht ⊢
    exact .tup ht (.cons (.int _) (.cons (.int _) .nil))
theorem dcn_sortP {ps : List (Int × Int)} : DCN K (rSortedPO K) [.list (ps.map pairD)] ((ps.mergeSort leP).map pairD) := fun B H vs e r Q k => by
  cases r with
  | cons a r =>
    cases r
    obtain ⟨p, ys, rfl, ha, rs⟩ := a.list_eq
    obtain ⟨h1, h2⟩ := reps_pairs e rs
    refine ⟨p, ys, keyP H, rfl, SqL.of (e p _ ha), fun v hv => ?_, fun zs l hs hb hl => ?_⟩
    · obtain ⟨t, q, ht⟩ := h1 v hv
      exact ⟨t, q, e t _ ht⟩
    · have hz : zs.map (keyP H) = ps.mergeSort leP := by
        refine sort_pairs ?_ ?_
        · rw [← h2]
          exact hb.perm.map _
        · refine List.pairwise_map.mpr (hs.imp fun {x y} q => ?_)
          have q' := SrtO.lexB_no.mp q
          rw [leP_iff]
          omega
      refine k l zs _ (upd_ex hl) hl upd_same ?_
      rw [← hz]
      refine (reps_back (B := B) fun v hv => h1 v (hb.perm.mem_iff.mp hv)).mono (grow_ex1 e)
/-- xs + ys -/
theorem d2n_cat (hl : xs.length + ys.length ≤ 100000) : D2N K rCat (.list xs) (.list ys) (xs ++ ys) := fun B H v u e rv ru Q k => by
  obtain ⟨a, vs, rfl, ha, rs⟩ := rv.list_eq
  obtain ⟨b, us, rfl, hb, ru⟩ := ru.list_eq
  refine ⟨a, b, vs, us, rfl, rfl, e a _ ha, e b _ hb, len_ok (by rw [rs.length, ru.length]; exact hl), fun p hp => ?_⟩
  exact k p _ _ (upd_ex hp) hp upd_same ((rs.append ru).mono (grow_ex1 e))
/-- == of data -/
theorem d2_eqD (hx : SeqAt.shaped x = true) (hy : SeqAt.shaped y = true) : D2 K (rEqD K) x y (.bool (PyData.eqv x y)) := fun B H v u e rv ru Q k =>
  ⟨x, y, (rv.mono e).dp (SeqAt.canLay_of_shaped hx), (ru.mono e).dp (SeqAt.canLay_of_shaped hy), hx, hy, k _ H exr (.bl _)⟩
theorem d2_neD (hx : SeqAt.shaped x = true) (hy : SeqAt.shaped y = true) : D2 K (rNeD K) x y (.bool (!PyData.eqv x y)) := fun B H v u e rv ru Q k =>
  ⟨x, y, (rv.mono e).dp (SeqAt.canLay_of_shaped hx), (ru.mono e).dp (SeqAt.canLay_of_shaped hy), hx, hy, k _ H exr (.bl _)⟩
/-- x in (a, b): texts -/
theorem all_strs {B : Hp} {ss : List Str} : ∀ {vs : List V}, RepAll K B vs (ss.map PyData.str) → vs = ss.map V.str := by
  induction ss with
  | nil => intro vs h; cases h; rfl
  | cons s ss ih =>
    intro vs h
    cases h with
    | cons a r => rw [a.str_eq, ih r]; rfl
theorem inV_strs {s : Str} : ∀ {ss : List Str}, inV (.str s) (ss.map V.str) = decide (s ∈ ss)
  | [] => rfl
  | t :: ss => by
    have ih := inV_strs (s := s) (ss := ss)
    unfold inV at ih ⊢
    rw [List.map_cons, List.any_cons, ih]
    show (t == s || decide (s ∈ ss)) = decide (s ∈ t :: ss)
    rw [Bool.eq_iff_iff]
    simp only [Bool.or_eq_true, beq_iff_eq, decide_eq_true_eq, List.mem_cons]
    exact ⟨fun h => h.imp Eq.symm id, fun h => h.imp Eq.symm id⟩
theorem d2_inT {s : Str} {ss : List Str} {neg : Bool} : D2 K (rIn K neg) (.str s) (.tuple (ss.map PyData.str)) (.bool (if neg then !decide (s ∈ ss) else decide (s ∈ ss))) := fun B H v u e rv ru Q k => by
  obtain ⟨a, vs, rfl, ha, rs⟩ := ru.tup_eq
  rw [rv.str_eq]
  have q := all_strs rs
  subst q
  refine ⟨a, _, rfl, .inr (SqT.of (e a _ ha)), rfl, by simp [flatV], ?_⟩
  rw [inV_strs]
  exact k _ H exr (.bl _)
/-- neither the script nor a bare reference -/
def notScr : PyData → Bool
  | .dict (_ :: _) => false
  | _ => true
/-- isinstance -/
def tyD : PyData → String
  | .none => "NoneType"
  | .bool _ => "bool"
  | .int _ => "int"
  | .str _ => "str"
  | .list _ => "list"
  | .tuple _ => "tuple"
  | .dict [] => "dict"
  | .dict _ => "list"
theorem Rep.ty {H : Hp} {v : V} (h : Rep K H v d) (hn : notScr d = true) : TyX K H v (.type (tyD d)) := by
  cases h with
  | non => exact .base .non
  | bl b => exact .base (.bl b)
  | int i => exact .base (.int i)
  | str x => exact .base (.str x)
  | lst h _ => exact .base (.lst h)
  | tup h _ => exact .base (.tup h)
  | @scr a ns _ => cases hn
  | raw a => cases hn
  | book _ _ _ _ _ => cases hn
  | edict h => exact .base (.dK h)
theorem dc_isi {T : String} {b : Bool} (hk : kitB (tyD d) T = some b) (hn : notScr d = true) {v : V} {B H : Hp} (e : Ex B H) (r : Rep K B v d) {Q : VK} (k : Q (.bl b) H) : rIsi K [v, .ty T] H Q :=
  ⟨v, .ty T, .type (tyD d), .type T, b, rfl, .ty T, (r.mono e).ty hn, kit_ty hk, k⟩
theorem de_isi {T : String} {b : Bool} (h : DE K te ds d) (hk : kitB (tyD d) T = some b) (hn : notScr d = true) : DE K (tCB (rIsi K) (tCons te (tCons (tC (.ty T)) tNil))) ds (.bool b) := fun B σ en H e Q k =>
  h B σ en H e _ fun v H1 e1 r => dc_isi hk hn (grow_ex2 e e1) r (k _ H1 e1 (.bl b))
/-! ### comprehensions -/
theorem wipe_len {σ : L2.St} : ∀ {vs : List Nat}, (wipe σ vs).length = σ.length
  | [] => rfl
  | v :: vs => by
    show ((wipe σ vs).set v none).length = σ.length
    rw [List.length_set, wipe_len]
def wipeD (ds : List (Option PyData)) : List Nat → List (Option PyData)
  | [] => ds
  | v :: vs => (wipeD ds vs).set v none
theorem wipeD_len : ∀ {vs : List Nat}, (wipeD ds vs).length = ds.length
  | [] => rfl
  | v :: vs => by
    show ((wipeD ds vs).set v none).length = ds.length
    rw [List.length_set, wipeD_len]
theorem EnvR.set {B : Hp} {σ : L2.St} (h : EnvR K B σ ds) {j : Nat} {v : V} (r : Rep K B v d) : EnvR K B (σ.set j (some v)) (ds.set j (some d)) := ⟨by rw [List.length_set, List.length_set]; exact h.1, fun i d' q => by
  by_cases z : j = i
  · subst z
    have hi := get_set_is q
    cases get_set_at q
    exact ⟨v, List.getElem?_set_self (by rw [h.1]; exact hi), r⟩
  · rw [get_set_ne z] at q ⊢
    exact h.2 i d' q⟩
/-- a comprehension's own name is set, from the empty place -/
theorem EnvR.own {B : Hp} {σ : L2.St} (h : EnvR K B σ ds) {j : Nat} {v : V} (r : Rep K B v d) : EnvR K B ((L2.wipe σ [j]).set j (some v)) (ds.set j (some d)) := by
  have q : (L2.wipe σ [j]).set j (some v) = σ.set j (some v) := by
    show (σ.set j none).set j (some v) = σ.set j (some v)
    rw [List.set_set]
  rw [q]
  exact h.set r
theorem wipe_set1 {σ : L2.St} {j : Nat} {o : Option V} : wipe ((wipe σ [j]).set j o) [j] = wipe σ [j] := by
  show ((σ.set j none).set j o).set j none = σ.set j none
  rw [List.set_set, List.set_set]
/-- the items of a comprehension -/
def lcOf {α : Type} (f : α → Bool) (g : α → PyData) (xs : List α) : List PyData := (xs.filter f).map g
theorem lcOf_snoc_yes {α : Type} {f : α → Bool} {g : α → PyData} {xs : List α} {i : Nat} {x : α} (hi : xs[i]? = some x) (h : f x = true) : lcOf f g (xs.take (i + 1)) = lcOf f g (xs.take i) ++ [g x] := by
  unfold lcOf
  rw [List.take_add_one, hi, List.filter_append, List.map_append]
  simp [h]
theorem lcOf_snoc_no {α : Type} {f : α → Bool} {g : α → PyData} {xs : List α} {i : Nat} {x : α} (hi : xs[i]? = some x) (h : f x = false) : lcOf f g (xs.take (i + 1)) = lcOf f g (xs.take i) := by
  unfold lcOf
  rw [List.take_add_one, hi, List.filter_append, List.map_append]
  simp [h]
theorem lcOf_len {α : Type} (f : α → Bool) (g : α → PyData) (xs : List α) (i : Nat) : (lcOf f g (xs.take i)).length ≤ xs.length := by
  unfold lcOf
  rw [List.length_map]
  exact Nat.le_trans (List.length_filter_le _ _) (by rw [List.length_take]; omega)
/-- what holds of the heap within: D bears what is made so far -/
structure Lw (K : PySem.W.Frag) (B H0 : Hp) (D : Addr) (acc : List PyData) (H : Hp) : Prop where
  new : H0 D = none
  up : Ex H0 H
  here : ∃ vs, H D = some (.lst vs) ∧ RepAll K (Grow B H0 (del H D)) vs acc
theorem lw_turn {α : Type} {B H0 H : Hp} {D : Addr} {f : α → Bool} {g : α → PyData} {xs : List α} {i : Nat} {x : α} {t : TT} {te : TE} {σ2 : L2.St} {ds2 : List (Option PyData)} (e0 : Ex B H0) (w : Lw K B H0 D (lcOf f g (xs.take i)) H) (hx : xs[i]? = some x) (hz : xs.length ≤ 50000)
    (en : EnvR K (Grow B H0 (del H D)) σ2 ds2) (ht : DT K t ds2 (f x)) (he : f x = true → DE K te ds2 (g x)) :
    t σ2 H fun b H3 => if b = true then te σ2 H3 fun y H4 => ∃ acc, H4 D = some (.lst acc) ∧ acc.length < sizeLine ∧ Lw K B H0 D (lcOf f g (xs.take (i + 1))) (upd H4 D (.lst (acc ++ [y]))) else Lw K B H0 D (lcOf f g (xs.take (i + 1))) H3 := by
  obtain ⟨hn, hu, vs, hD, hr⟩ := w
  have eF : Ex (Grow B H0 (del H D)) H := fun a o q => by
    cases z : H0 a with
    | none => rw [grow_new z] at q; exact del_ex a o q
    | some u => rw [grow_old (ne_some z)] at q; exact hu a o (e0 a o q)
  have FD : Grow B H0 (del H D) D = none := by rw [grow_new hn, del_same]
  refine ht _ σ2 en H eF _ fun H3 e3 => ?_
  have eF3 := Evl.Ex.trans eF e3
  cases hf : f x with
  | false =>
    show Lw K B H0 D (lcOf f g (xs.take (i + 1))) H3
    rw [lcOf_snoc_no hx hf]
    refine ⟨hn, hu.trans e3, vs, e3 D _ hD, hr.mono ?_⟩
    refine grow_right fun a o q => ?_
    by_cases z : a = D
    · rw [z, del_same] at q; cases q
    · rw [del_ne z] at q ⊢; exact e3 a o q
  | true =>
    show te σ2 H3 _
    refine he hf _ σ2 en H3 eF3 _ fun y H4 e4 ry => ?_
    refine ⟨vs, e4 D _ (e3 D _ hD), ?_, hn, Evl.Ex.mut (hu.trans (e3.trans e4)) hn, vs ++ [y], upd_same, ?_⟩
    · have q := hr.length
      have q2 := lcOf_len f g xs i
      exact Evl.sz_lt (by omega)
    · rw [lcOf_snoc_yes hx hf]
      have ek : ∀ a o, Grow B H0 (del H D) a = some o → Grow B H0 (del (upd H4 D (.lst (vs ++ [y]))) D) a = some o := fun a o q => by
        cases z0 : H0 a with
        | none =>
          rw [grow_new z0] at q ⊢
          by_cases z : a = D
          · rw [z, del_same] at q; cases q
          · rw [del_ne z] at q ⊢
            rw [upd_ne z]
            exact e4 a o (e3 a o q)
        | some u => rw [grow_old (ne_some z0)] at q ⊢; exact q
      refine (hr.mono ek).append (.cons (ry.mono fun a o q => ?_) .nil)
      cases z3 : H3 a with
      | none =>
        rw [grow_new z3] at q
        have z : a ≠ D := fun z => by rw [z, e3 D _ hD] at z3; cases z3
        rw [grow_new (Ex.ne (hu.trans e3) z3), del_ne z, upd_ne z]
        exact q
      | some u =>
        rw [grow_old (ne_some z3)] at q
        exact ek a o q
/-- over a list -/
theorem dn_lcL {tl : TE} {t : TT} {j : Nat} {xs : List PyData} (f : PyData → Bool) (g : PyData → PyData) (h : DE K tl ds (.list xs)) (hz : xs.length ≤ 50000)
    (ht : ∀ x ∈ xs, DT K t (ds.set j (some x)) (f x)) (he : ∀ x ∈ xs, f x = true → DE K te (ds.set j (some x)) (g x)) :
    DN K (tLc (iList K tl) (gName j) t te [j]) ds (lcOf f g xs) := fun B σ en H e Q k => by
  refine h B σ en H e _ fun v H1 e1 r => ?_
  obtain ⟨a, vs, rfl, ha, rs⟩ := r.list_eq
  refine ⟨a, rfl, ⟨vs, SqL.of (grow_ex2 e e1 a _ ha)⟩, fun D hD => ?_⟩
  have e01 : Ex (Grow B H H1) H1 := grow_ex2 e e1
  refine lc_list (xs := vs) (fun i H' => Lw K (Grow B H H1) H1 D (lcOf f g (xs.take i)) H') ?_ (fun i H' _ w => SqL.of (w.up a _ (e01 a _ ha))) ?_ ?_
  · exact ⟨hD, upd_ex hD, [], upd_same, .nil⟩
  · intro i x H' hi w
    obtain ⟨d, hd, rd⟩ := rs.get' hi
    have hm : d ∈ xs := List.mem_of_getElem? hd
    have eF : Ex (Grow B H H1) (Grow (Grow B H H1) H1 (del H' D)) := grow_ex1 e01
    have eb : Ex B (Grow (Grow B H H1) H1 (del H' D)) := Evl.Ex.trans (grow_ex1 e) eF
    have en2 := (en.mono eb).own (j := j) (rd.mono eF)
    exact ⟨wipe_set1, lw_turn e01 w hd hz en2 (ht d hm) (fun hf => he d hm hf)⟩
  · rintro H' ⟨hn, hu, us, hl, hr⟩
    rw [rs.length, List.take_length] at hr
    exact k D us H' (e1.trans hu) (Ex.ne e1 hn) hl (hr.mono (grow_trans e1 (ex_del hu hn)))
/-- over range(n) -/
theorem dn_lcR {tl : TA} {t : TT} {j : Nat} {n : Nat} (f : Nat → Bool) (g : Nat → PyData) (h : DA K tl ds [.int (n : Int)]) (hz : n ≤ 50000)
    (ht : ∀ i : Nat, i < n → DT K t (ds.set j (some (.int (i : Int)))) (f i)) (he : ∀ i : Nat, i < n → f i = true → DE K te (ds.set j (some (.int (i : Int)))) (g i)) :
    DN K (tLc (iRng1 tl) (gName j) t te [j]) ds (lcOf f g (List.range n)) := fun B σ en H e Q k => by
  refine h B σ en H e _ fun vs H1 e1 r => ?_
  have ev : vs = [.int (n : Int)] := by
    cases r with
    | cons a r => cases r; rw [a.int_eq]
  refine ⟨(n : Int), ev, by omega, by omega, fun D hD => ?_⟩
  have e01 : Ex (Grow B H H1) H1 := grow_ex2 e e1
  refine lc_range (lo := 0) (n := ((n : Int)).toNat) (fun i H' => Lw K (Grow B H H1) H1 D (lcOf f g ((List.range n).take i)) H') ?_ ?_ ?_
  · exact ⟨hD, upd_ex hD, [], upd_same, .nil⟩
  · intro i H' hi w
    have hi' : i < n := by omega
    have e0 : (0 : Int) + (i : Int) = (i : Int) := Int.zero_add _
    rw [e0]
    have eb : Ex B (Grow (Grow B H H1) H1 (del H' D)) := Evl.Ex.trans (grow_ex1 e) (grow_ex1 e01)
    have en2 := (en.mono eb).own (j := j) (v := .int (i : Int)) (d := .int (i : Int)) (.int _)
    refine ⟨wipe_set1, lw_turn (f := f) (g := g) (xs := List.range n) (x := i) e01 w ?_ (by rw [List.length_range]; exact hz) en2 (ht i hi') (fun hf => he i hi' hf)⟩
    rw [List.getElem?_range hi']
  · rintro H' ⟨hn, hu, us, hl, hr⟩
    have q : ((n : Int)).toNat = n := by omega
    rw [q, List.take_of_length_le (by rw [List.length_range]; exact Nat.le_refl _)] at hr
    exact k D us H' (e1.trans hu) (Ex.ne e1 hn) hl (hr.mono (grow_trans e1 (ex_del hu hn)))
theorem dt_yes : DT K tYes ds true := fun B σ en H e Q k => k H exr
theorem lcOf_all {α : Type} (g : α → PyData) (xs : List α) : lcOf (fun _ => true) g xs = xs.map g := by
  unfold lcOf
  rw [List.filter_eq_self.mpr fun _ _ => rfl]
end
end VS

set_option Elab.async false
set_option linter.all false
set_option maxRecDepth 100000
/-! Value semantics: short names of readings, the steps. -/
namespace VS
open PySem L2
open Evl (Ex ex_rd ex_l ex_t)
abbrev rAddI : R2 := rI0 fun i j => .int (i + j)
abbrev rSubI : R2 := rI0 fun i j => .int (i - j)
abbrev rMulI : R2 := rI CMul fun i j => .int (i * j)
abbrev rDivI : R2 := rI CDiv fun i j => .int (i / j)
abbrev rModI : R2 := rI (fun _ j => 0 < j) fun i j => .int (i % j)
abbrev rLtI : R2 := rI0 fun i j => .bl (decide (i < j))
abbrev rLeI : R2 := rI0 fun i j => .bl (decide (i ≤ j))
abbrev rGtI : R2 := rI0 fun i j => .bl (decide (j < i))
abbrev rGeI : R2 := rI0 fun i j => .bl (decide (j ≤ i))
abbrev rNegI : V → Hp → VK → Prop := rU fun i => .int (-i)
abbrev rLenSq (K : PySem.W.Frag) : List V → Hp → VK → Prop := fun xs H Q => ∃ p ys, xs = [V.ref p] ∧ (SqL K H p ys ∨ SqT K H p ys) ∧ Q (.int ys.length) H
abbrev rLenStr : List V → Hp → VK → Prop := fun xs H Q => ∃ z, xs = [V.str z] ∧ z.length ≤ sizeLine ∧ Q (.int z.length) H
abbrev rListOf (K : PySem.W.Frag) : List V → Hp → VK → Prop := fun xs H Q => ∃ p ys, xs = [V.ref p] ∧ (SqL K H p ys ∨ SqT K H p ys) ∧ ∀ l, H l = none → Q (.ref l) (upd H l (.lst ys))
abbrev rMin2 : List V → Hp → VK → Prop := fun xs H Q => ∃ i j, xs = [V.int i, V.int j] ∧ Q (.int (if j < i then j else i)) H
abbrev rMax2 : List V → Hp → VK → Prop := fun xs H Q => ∃ i j, xs = [V.int i, V.int j] ∧ Q (.int (if j > i then j else i)) H
abbrev rAbs : List V → Hp → VK → Prop := fun xs H Q => ∃ i, xs = [V.int i] ∧ Q (.int (if i < 0 then -i else i)) H
abbrev rInt1 : List V → Hp → VK → Prop := fun xs H Q => (∃ i, xs = [V.int i] ∧ Q (.int i) H) ∨ ∃ k, xs = [V.bl k] ∧ Q (.int (if k then 1 else 0)) H
/-- a < b < c < d -/
def tChain3 (r r' r2 : R2) (ta tb tc td : TE) : TE := fun σ H Q => ta σ H fun x H1 => tb σ H1 fun y H2 => r x y H2 fun z H3 => ∃ k, z = .bl k ∧
  (if k = true then tc σ H3 fun w H4 => r' y w H4 fun z2 H5 => ∃ k2, z2 = .bl k2 ∧ (if k2 = true then td σ H5 fun v H6 => r2 w v H6 Q else Q (.bl false) H5) else Q (.bl false) H3)
theorem de_chain3 {K : PySem.W.Frag} {ds : List (Option PyData)} {ta tb tc td : TE} {i j k l : Int} {r r' r2 : R2} {a b e : Bool} (ha : DE K ta ds (.int i)) (hb : DE K tb ds (.int j)) (hc : DE K tc ds (.int k)) (hd : DE K td ds (.int l))
    (h1 : D2 K r (.int i) (.int j) (.bool a)) (h2 : D2 K r' (.int j) (.int k) (.bool b)) (h3 : D2 K r2 (.int k) (.int l) (.bool e)) : DE K (tChain3 r r' r2 ta tb tc td) ds (.bool (a && (b && e))) := fun B σ en H e0 Q q =>
  ha B σ en H e0 _ fun v H1 e1 rv => by
    rw [rv.int_eq]
    refine hb B σ en H1 (e0.trans e1) _ fun u H2 e2 ru => ?_
    rw [ru.int_eq]
    refine h1 B H2 _ _ (e0.trans (e1.trans e2)) (.int i) (.int j) _ fun w H3 e3 rw => ⟨a, rw.bool_eq, ?_⟩
    have x3 : Ex H H3 := e1.trans (e2.trans e3)
    cases a with
    | false =>
      show Q (.bl false) H3
      exact q _ H3 x3 (.bl _)
    | true =>
      show tc σ H3 _
      refine hc B σ en H3 (e0.trans x3) _ fun w4 H4 e4 r4 => ?_
      rw [r4.int_eq]
      refine h2 B H4 _ _ (e0.trans (x3.trans e4)) (.int j) (.int k) _ fun w5 H5 e5 r5 => ⟨b, r5.bool_eq, ?_⟩
      have x5 : Ex H H5 := x3.trans (e4.trans e5)
      cases b with
      | false =>
        show Q (.bl false) H5
        exact q _ H5 x5 (.bl _)
      | true =>
        show td σ H5 _
        refine hd B σ en H5 (e0.trans x5) _ fun w6 H6 e6 r6 => ?_
        rw [r6.int_eq]
        refine h3 B H6 _ _ (e0.trans (x5.trans e6)) (.int k) (.int l) Q fun w7 H7 e7 r7 => ?_
        rw [r7.bool_eq]
        exact q _ H7 (x5.trans (e6.trans e7)) (.bl _)
theorem rawD_eq (a : Addr) : rawD a = rawD a := rfl
/-- the errors by their names -/
inductive ErrC where
  | wish | price | pieces | uneven | none | unread
  deriving DecidableEq
/-- {} -/
def tDnew : TE := fun _ H Q => ∀ d, H d = none → Q (.ref d) (upd H d (.dK []))
theorem de_dnew {K : PySem.W.Frag} {ds : List (Option PyData)} : DE K tDnew ds (.dict []) := fun B σ en H e Q k d hd => k _ _ (upd_ex hd) (.edict (by rw [grow_new hd, upd_same]))
/-- the classes -/
structure Cs where
  BidError : Addr
  BadWish : Addr
  BadPrice : Addr
  BadPieces : Addr
  Uneven : Addr
  NoSuch : Addr
  Unread : Addr
  Book : Addr
def Cs.at (c : Cs) : ErrC → Addr
  | .wish => c.BadWish
  | .price => c.BadPrice
  | .pieces => c.BadPieces
  | .uneven => c.Uneven
  | .none => c.NoSuch
  | .unread => c.Unread
abbrev rAddStr : R2 := fun x y H Q => ∃ i j, x = .str i ∧ y = .str j ∧ i.length + j.length ≤ sizeLine ∧ Q (.str (i ++ j)) H
theorem d2_addStr {K : PySem.W.Frag} {i j : Str} (h : i.length + j.length ≤ 100000) : D2 K rAddStr (.str i) (.str j) (.str (i ++ j)) := fun B H v u e rv ru Q k =>
  ⟨i, j, rv.str_eq, ru.str_eq, len_ok h, k _ H exr (.str _)⟩
section
variable {K : PySem.W.Frag} {E : XK} {es : List Slot} {P : Post} {te ta ti : TE} {tc : TT} {t u tb : TS} {d : PyData} {i j : Nat} {xs : List PyData}
/-- ..; the rest -/
theorem q_set (h : DE K te (see es) d) (hs : scalarD d = true) (k : DS K E u (es.set i (.val d)) P) : DS K E (tSeq (tAsg te (gName i)) u) es P := ds_seq (ds_set h hs k)
theorem q_let (h : DE K te (frz es) d) (k : DS K E u (es.set i (.val d)) P) : DS K E (tSeq (tAsg te (gName i)) u) es P := ds_seq (ds_let h k)
theorem q_new (h : DN K te (frz es) xs) (k : DS K E u (es.set i (.own xs)) P) : DS K E (tSeq (tAsg te (gName i)) u) es P := ds_seq (ds_new h k)
theorem q_drop (h : DE K te (see es) d) (k : DS K E u es P) : DS K E (tSeq (tDrop te) u) es P := ds_seq (ds_drop h k)
/-- if t: x = e, told by the value that x has behind it -/
theorem q_ifset {b : Bool} (h : DT K tc (see es) b) (h1 : b = true → DE K te (see es) d) (hs : scalarD d = true) (h2 : b = false → es.set i (.val d) = es) (k : DS K E u (es.set i (.val d)) P) : DS K E (tSeq (tIfS tc (tAsg te (gName i)) tNext) u) es P :=
  ds_seq (ds_if h (fun hb => ds_set (h1 hb) hs k) (fun hb => ds_next (by
    show DS K E u es P
    have k' := k
    rw [h2 hb] at k'
    exact k')))
/-- if t: return / raise; the rest -/
theorem q_if {b : Bool} (h : DT K tc (see es) b) (h1 : b = true → DS K E t es { P with nx := fun es' => DS K E u es' P }) (h2 : b = false → DS K E u es P) : DS K E (tSeq (tIfS tc t tNext) u) es P :=
  ds_seq (ds_if h h1 fun hb => ds_next (h2 hb))
theorem q_guard (h : DT K tc (see es) false) (k : DS K E u es P) : DS K E (tSeq (tIfS tc t tNext) u) es P := q_if h (fun z => by cases z) fun _ => k
theorem q_app (h : DE K te (see es) d) (hs : scalarD d = true) (hi : es[i]? = some (.own xs)) (hl : xs.length < 100000) (k : DS K E u (es.set i (.own (xs ++ [d]))) P) : DS K E (tSeq (tDrop (tBM K "list" rAppend (tVar i) (tCons te tNil))) u) es P := ds_seq (ds_app h hs hi hl k)
theorem q_appV (h : DE K te (frz es) d) (hi : es[i]? = some (.own xs)) (hl : xs.length < 100000) (k : DS K E u (es.set i (.own (xs ++ [d]))) P) : DS K E (tSeq (tDrop (tBM K "list" rAppend (tVar i) (tCons te tNil))) u) es P := ds_seq (ds_appV h hi hl k)
theorem q_put {n : Int} {k0 : Nat} (h : DE K te (see es) d) (hs : scalarD d = true) (hi : es[i]? = some (.own xs)) (hn : DE K ti (see es) (.int n)) (hk : ixN xs.length n = some k0) (k : DS K E u (es.set i (.own (xs.set k0 d))) P) : DS K E (tSeq (tAsg te (gSub (tVar i) ti rSetL)) u) es P := ds_seq (ds_put h hs hi hn hk k)
theorem q_for {tl : TE} {xs : List PyData} (W : Nat → List Slot → Prop) (h : DE K tl (frz es) (.list xs)) (h0 : W 0 es) (hs : ∀ k x es', xs[k]? = some x → W k es' → DS K E tb (es'.set j (.val x)) { P with nx := W (k + 1), ct := W (k + 1), bk := fun es' => DS K E u es' P }) (hd : ∀ es', W xs.length es' → DS K E u es' P) :
    DS K E (tSeq (tFor (iList K tl) (gName j) tb) u) es P := ds_seq (ds_for W h h0 hs hd)
theorem q_forT {tl : TE} {xs : List PyData} (W : Nat → List Slot → Prop) (h : DE K tl (frz es) (.tuple xs)) (h0 : W 0 es) (hs : ∀ k x es', xs[k]? = some x → W k es' → DS K E tb (es'.set j (.val x)) { P with nx := W (k + 1), ct := W (k + 1), bk := fun es' => DS K E u es' P }) (hd : ∀ es', W xs.length es' → DS K E u es' P) :
    DS K E (tSeq (tFor (iTup K tl) (gName j) tb) u) es P := ds_seq (ds_forT W h h0 hs hd)
theorem q_forR1 {ta : TA} {n : Int} (W : Nat → List Slot → Prop) (h : DA K ta (see es) [.int n]) (hn : -100000 ≤ n ∧ n ≤ 100000) (h0 : W 0 es) (hs : ∀ (k : Nat) es', (k : Int) < n → W k es' → DS K E tb (es'.set j (.val (.int (k : Int)))) { P with nx := W (k + 1), ct := W (k + 1), bk := fun es' => DS K E u es' P }) (hd : ∀ es', W n.toNat es' → DS K E u es' P) :
    DS K E (tSeq (tFor (iRng1 ta) (gName j) tb) u) es P := ds_seq (ds_forR1 W h hn.2 h0 hs hd hn.1)
theorem q_while (W : Nat → List Slot → Prop) (m0 : Nat) (h0 : W m0 es) (hs : ∀ m es', W m es' → ∃ b, DT K tc (see es') b ∧ (b = true → DS K E tb es' { P with nx := fun es2 => ∃ m', m' < m ∧ W m' es2, ct := fun es2 => ∃ m', m' < m ∧ W m' es2, bk := fun es' => DS K E u es' P }) ∧ (b = false → DS K E u es' P)) :
    DS K E (tSeq (tWhile tc tb) u) es P := ds_seq (ds_while W m0 h0 hs)
theorem q_freeze (i : Nat) {xs : List PyData} (hi : es[i]? = some (.own xs)) (h : DS K E t (es.set i (.val (.list xs))) P) : DS K E t es P := ds_freeze hi h
theorem q_last (h : DS K E t es P) : DS K E t es P := h
/-- one answer, whatever the way -/
theorem dt_to {b b' : Bool} {ds : List (Option PyData)} (h : DT K tc ds b) (e : b = b') : DT K tc ds b' := e ▸ h
theorem de_to {d d' : PyData} {ds : List (Option PyData)} (h : DE K te ds d) (e : d = d') : DE K te ds d' := e ▸ h
theorem post_ret {o : Out} {d : PyData} (h : o = .ret d) : o.post.rt d := h
end
/-! ### the wishes -/
structure Wish where
  buy : Bool
  limit : Int
  amount : Int
  deriving DecidableEq
def sideS (b : Bool) : Str := if b then "buy" else "sell"
def wishD (w : Wish) : PyData := .tuple [.str (sideS w.buy), .int w.limit, .int w.amount]
abbrev wsD (ws : List Wish) : PyData := .list (ws.map wishD)
abbrev intsD (ns : List Int) : PyData := .list (ns.map PyData.int)
theorem sideS_buy {b : Bool} : decide (sideS b = "buy") = b := by cases b <;> decide +kernel
theorem sideS_sell {b : Bool} : decide (sideS b = "sell") = !b := by cases b <;> decide +kernel
theorem sideS_eq {a b : Bool} : decide (sideS a = sideS b) = (a == b) := by cases a <;> cases b <;> decide +kernel
theorem map_at {α : Type} {f : α → PyData} {xs : List α} {i : Nat} {d : PyData} (h : (xs.map f)[i]? = some d) : ∃ x, xs[i]? = some x ∧ d = f x := by
  rw [List.getElem?_map] at h
  cases e : xs[i]? with
  | none => rw [e] at h; cases h
  | some x => rw [e] at h; exact ⟨x, rfl, (Option.some.inj h).symm⟩
theorem atI_map {α : Type} {f : α → PyData} {xs : List α} {i : Nat} {x : α} (h : xs[i]? = some x) : atI (xs.map f) (i : Int) = some (f x) := atI_nat (by rw [List.getElem?_map, h]; rfl)
theorem atI_mapI {α : Type} {f : α → PyData} {xs : List α} {i : Int} {n : Nat} {x : α} (e : i = (n : Int)) (h : xs[n]? = some x) : atI (xs.map f) i = some (f x) := by rw [e]; exact atI_map h
theorem d2_fdivC {K : PySem.W.Frag} {i j : Int} (h1 : 0 < j) (h2 : j < 1073741824) : D2 K rDivI (.int i) (.int j) (.int (i / j)) := d2_fdiv ⟨h1, h2⟩
theorem d2_mulL {K : PySem.W.Frag} {i j : Int} (h1 : -(2 ^ 64) < i) (h2 : i < 2 ^ 64) : D2 K rMulI (.int i) (.int j) (.int (i * j)) := d2_mul (.inl ⟨h1, h2⟩)
theorem d2_mulR {K : PySem.W.Frag} {i j : Int} (h1 : -(2 ^ 64) < j) (h2 : j < 2 ^ 64) : D2 K rMulI (.int i) (.int j) (.int (i * j)) := d2_mul (.inr ⟨h1, h2⟩)
section
variable {K : PySem.W.Frag} {ds : List (Option PyData)} {ta tb tc te : TE} {t u : TT} {d x y z : PyData} {r r' : R2}
theorem de_andU {a b : Bool} (h1 : DE K ta ds (.bool a)) (h2 : DE K tb ds (.bool b)) : DE K (tAndV ta tb) ds (.bool (a && b)) := de_andV h1 fun _ => h2
theorem de_orU {a b : Bool} (h1 : DE K ta ds (.bool a)) (h2 : DE K tb ds (.bool b)) : DE K (tOrV ta tb) ds (.bool (a || b)) := de_orV h1 fun _ => h2
theorem dt_andU {a b : Bool} (h1 : DT K t ds a) (h2 : DT K u ds b) : DT K (tAnd t u) ds (a && b) := dt_and h1 fun _ => h2
theorem dt_orU {a b : Bool} (h1 : DT K t ds a) (h2 : DT K u ds b) : DT K (tOr t u) ds (a || b) := dt_or h1 fun _ => h2
theorem de_chainU {a b : Bool} (ha : DE K ta ds x) (hb : DE K tb ds y) (hc : DE K tc ds z) (hr : D2 K r x y (.bool a)) (hr' : D2 K r' y z (.bool b)) : DE K (tChain r r' ta tb tc) ds (.bool (a && b)) := de_chain ha hb hr (fun _ => hc) fun _ => hr'
theorem de_lst {ta : TA} {xs : List PyData} (h : DA K ta ds xs) (hl : xs.length ≤ 100000) : DE K (tLst ta) ds (.list xs) := de_new (dn_lst h hl)
theorem de_slU {tl th : TO} {lo hi : Option Int} {xs : List PyData} (h : DE K te ds (.list xs)) (h1 : DO K tl ds lo) (h2 : DO K th ds hi) : DE K (tSl (rSlL K) te tl th) ds (.list (cut xs lo hi)) := de_new (dn_sl h h1 h2)
theorem dc_new {r : List V → Hp → VK → Prop} {xs zs : List PyData} (h : DCN K r xs zs) : DC K r xs (.list zs) := fun B H vs e rs Q k =>
  h B H vs e rs Q fun p us H' e' hp hl q => k _ H' e' (.lst (by rw [grow_new hp]; exact hl) (q.mono (grow_right del_ex)))
theorem de_isiU {T : String} {b : Bool} (h : DE K te ds d) (hn : notScr d = true) (hk : kitB (tyD d) T = some b) : DE K (tCB (rIsi K) (tCons te (tCons (tC (.ty T)) tNil))) ds (.bool b) := de_isi h hk hn
theorem kit_b_b : kitB "bool" "bool" = some true := by decide +kernel
theorem kit_i_b : kitB "int" "bool" = some false := by decide +kernel
theorem kit_i_i : kitB "int" "int" = some true := by decide +kernel
theorem kit_l_l : kitB "list" "list" = some true := by decide +kernel
theorem kit_t_t : kitB "tuple" "tuple" = some true := by decide +kernel
theorem kit_s_s : kitB "str" "str" = some true := by decide +kernel
end
/-! ### kinds -/
theorem tyD_mem (d : PyData) : tyD d ∈ ["NoneType", "bool", "int", "str", "list", "tuple", "dict"] := by
  cases d with
  | dict kvs => cases kvs <;> simp [tyD]
  | _ => simp [tyD]
theorem kit_int (d : PyData) : kitB (tyD d) "int" = some (tyD d == "int" || tyD d == "bool") := by
  have h := tyD_mem d
  generalize tyD d = s at h
  simp only [List.mem_cons, List.not_mem_nil, or_false] at h
  rcases h with rfl | rfl | rfl | rfl | rfl | rfl | rfl <;> decide +kernel
theorem kit_bool (d : PyData) : kitB (tyD d) "bool" = some (tyD d == "bool") := by
  have h := tyD_mem d
  generalize tyD d = s at h
  simp only [List.mem_cons, List.not_mem_nil, or_false] at h
  rcases h with rfl | rfl | rfl | rfl | rfl | rfl | rfl <;> decide +kernel
def isInt : PyData → Bool
  | .int _ => true
  | _ => false
theorem isInt_ty (d : PyData) : ((tyD d == "int" || tyD d == "bool") && !(tyD d == "bool")) = isInt d := by
  cases d with
  | dict kvs => cases kvs <;> simp [tyD, isInt]
  | _ => simp [tyD, isInt]
theorem kit_tuple (d : PyData) : kitB (tyD d) "tuple" = some (tyD d == "tuple") := by
  have h := tyD_mem d
  generalize tyD d = s at h
  simp only [List.mem_cons, List.not_mem_nil, or_false] at h
  rcases h with rfl | rfl | rfl | rfl | rfl | rfl | rfl <;> decide +kernel
theorem kit_str (d : PyData) : kitB (tyD d) "str" = some (tyD d == "str") := by
  have h := tyD_mem d
  generalize tyD d = s at h
  simp only [List.mem_cons, List.not_mem_nil, or_false] at h
  rcases h with rfl | rfl | rfl | rfl | rfl | rfl | rfl <;> decide +kernel
/-! ### data that may be compared -/
theorem lay_map {α : Type} {f : α → PyData} : ∀ {xs : List α}, (∀ x ∈ xs, (f x).canLay0 = true) → PyData.canLayAll0 (xs.map f) = true
  | [], _ => rfl
  | x :: xs, h => by
    rw [List.map_cons, PyData.canLayAll0, h x List.mem_cons_self, lay_map fun y hy => h y (List.mem_cons_of_mem _ hy)]
    rfl
theorem depth_map {α : Type} {f : α → PyData} {n : Nat} : ∀ {xs : List α}, (∀ x ∈ xs, (f x).depth ≤ n) → PyData.depthAll (xs.map f) ≤ n
  | [], _ => Nat.zero_le _
  | x :: xs, h => by
    rw [List.map_cons, PyData.depthAll]
    exact Nat.max_le.mpr ⟨h x List.mem_cons_self, depth_map fun y hy => h y (List.mem_cons_of_mem _ hy)⟩
theorem sh_map {α : Type} {f : α → PyData} {xs : List α} (h : ∀ x ∈ xs, (f x).canLay0 = true ∧ (f x).depth ≤ 60) : SeqAt.shaped (.list (xs.map f)) = true := by
  unfold SeqAt.shaped
  rw [Bool.and_eq_true, decide_eq_true_eq]
  refine ⟨?_, ?_⟩
  · rw [PyData.canLay0]; exact lay_map fun x hx => (h x hx).1
  · rw [PyData.depth]
    have := depth_map (f := f) (n := 60) fun x hx => (h x hx).2
    omega
theorem lay_side {b : Bool} : (PyData.str (sideS b)).canLay0 = true := by cases b <;> decide +kernel
theorem wish_lay (w : Wish) : (wishD w).canLay0 = true ∧ (wishD w).depth ≤ 60 := by
  have h := lay_side (b := w.buy)
  rw [PyData.canLay0] at h
  unfold wishD
  refine ⟨?_, ?_⟩
  · simp [PyData.canLay0, PyData.canLayAll0, h]
  · simp [PyData.depth, PyData.depthAll]
theorem sh_wish (w : Wish) : SeqAt.shaped (wishD w) = true := by
  unfold SeqAt.shaped
  have h := wish_lay w
  rw [h.1, decide_eq_true (by omega)]
  rfl
theorem sh_ws (ws : List Wish) : SeqAt.shaped (wsD ws) = true := sh_map fun w _ => wish_lay w
theorem sh_ints (ns : List Int) : SeqAt.shaped (intsD ns) = true := sh_map fun w _ => ⟨by simp [PyData.canLay0], by simp [PyData.depth]⟩
theorem eqv_refl {d : PyData} (h : SeqAt.shaped d = true) : PyData.eqv d d = true := SeqAt.eqv_refl d (SeqAt.canLay_of_shaped h)
theorem d2_eqSame {K : PySem.W.Frag} {d : PyData} (h : SeqAt.shaped d = true) : D2 K (rEqD K) d d (.bool true) := by
  have q := d2_eqD (K := K) h h
  rw [eqv_refl h] at q
  exact q
theorem d2_neSame {K : PySem.W.Frag} {d : PyData} (h : SeqAt.shaped d = true) : D2 K (rNeD K) d d (.bool false) := by
  have q := d2_neD (K := K) h h
  rw [eqv_refl h] at q
  exact q
/-- a place of a written list -/
theorem atI_getD {α : Type} {f : α → PyData} {xs : List α} {i : Int} (a : α) (h0 : 0 ≤ i) (h1 : i < (xs.length : Int)) : atI (xs.map f) i = some (f (xs.getD i.toNat a)) := by
  have h2 : i.toNat < xs.length := by omega
  refine atI_mapI (n := i.toNat) (by omega) ?_
  rw [List.getD_eq_getElem?_getD, List.getElem?_eq_getElem h2]
  rfl
theorem getD_mem {α : Type} {xs : List α} {i : Nat} {a : α} (h : i < xs.length) : xs.getD i a ∈ xs := by
  rw [List.getD_eq_getElem?_getD, List.getElem?_eq_getElem h]
  exact List.getElem_mem h
/-- the wishes that the laws build are good -/
def Wish.good (w : Wish) : Prop := 0 ≤ w.limit ∧ w.limit ≤ 1000000000 ∧ 1 ≤ w.amount ∧ w.amount ≤ 1000000
theorem cut_len {α : Type} (xs : List α) (lo hi : Option Int) : (cut xs lo hi).length ≤ xs.length := by
  unfold cut
  rw [List.length_take, List.length_drop]
  omega
theorem law_start {K : PySem.W.Frag} {H : Hp} {a : Addr} {ns : List Int} {R : List PyData → Out → Prop} (hS : SqL K H a (ns.map V.int)) (h : R [scrD ns] (.ret (.bool true))) : spD K R [.ref a] H (fun v _ => v = .bl true) fun _ _ _ => False :=
  ⟨H, _, _, exr, .cons (.scr hS) .nil, h, fun d v H' q e r => by
    cases q
    exact r.bool_eq, (fun C H' q => by cases q), fun xs p us H' q => by cases q⟩
def pick (xs : List PyData) (i : Int) : PyData := xs.getD (i % (xs.length : Int)).toNat .none
theorem d2_pickD {K : PySem.W.Frag} {xs : List PyData} {i n : Int} (h : 0 < n) (e : (xs.length : Int) = n) : D2 K (rIxL K) (.list xs) (.int (i % n)) (pick xs i) := by
  unfold pick
  rw [e]
  have h1 := Int.emod_nonneg i (b := n) (by omega)
  have h2 := Int.emod_lt_of_pos i h
  have q := VS.d2_ixL (K := K) (xs := xs.map id) (i := i % n) (atI_getD (f := id) (xs := xs) .none h1 (by omega))
  rw [List.map_id] at q
  exact q
theorem pick_mem {xs : List PyData} {i : Int} (h : 0 < xs.length) : pick xs i ∈ xs := by
  unfold pick
  refine getD_mem ?_
  have h1 := Int.emod_nonneg i (b := (xs.length : Int)) (by omega)
  have h2 := Int.emod_lt_of_pos i (b := (xs.length : Int)) (by omega)
  omega
def wAt (ws : List Wish) (i : Nat) : Wish := ws.getD i ⟨true, 0, 1⟩
theorem wAt_get {ws : List Wish} {i : Nat} (h : i < ws.length) : ws[i]? = some (wAt ws i) := by
  unfold wAt
  rw [List.getD_eq_getElem?_getD, List.getElem?_eq_getElem h]
  rfl
theorem wAt_mem {ws : List Wish} {i : Nat} (h : i < ws.length) : wAt ws i ∈ ws := List.mem_of_getElem? (wAt_get h)
def amtAt (ws : List Wish) (i : Nat) : Int := (wAt ws i).amount
theorem d2_new {K : PySem.W.Frag} {r : R2} {x y : PyData} {zs : List PyData} (h : D2N K r x y zs) : D2 K r x y (.list zs) := fun B H v u e rv ru Q k =>
  h B H v u e rv ru Q fun p us H' e' hp hl q => k _ H' e' (.lst (by rw [grow_new hp]; exact hl) (q.mono (grow_right del_ex)))
theorem d2_cat {K : PySem.W.Frag} {xs ys : List PyData} (hl : xs.length + ys.length ≤ 100000) : D2 K rCat (.list xs) (.list ys) (.list (xs ++ ys)) := d2_new (d2n_cat hl)
theorem cut_take {α : Type} (xs : List α) (k : Nat) : cut xs none (some (k : Int)) = xs.take k := by
  unfold cut
  rw [HT.sIx_none, HT.sIx_nat, Nat.sub_zero, List.drop_zero]
  by_cases h : k ≤ xs.length
  · rw [Nat.min_eq_left h]
  · rw [Nat.min_eq_right (by omega), List.take_of_length_le (Nat.le_refl _), List.take_of_length_le (by omega)]
theorem cut_drop {α : Type} (xs : List α) (k : Nat) : cut xs (some (k : Int)) none = xs.drop k := by
  unfold cut
  rw [HT.sIx_none, HT.sIx_nat]
  by_cases h : k ≤ xs.length
  · rw [Nat.min_eq_left h, List.take_of_length_le]
    rw [List.length_drop]
    exact Nat.le_refl _
  · rw [Nat.min_eq_right (by omega), List.drop_of_length_le (Nat.le_refl _), List.drop_of_length_le (by omega), List.take_nil]
/-! great factors -/
def CMulM (i j : Int) : Prop := ∃ a b : Nat, i.natAbs < 2 ^ a ∧ j.natAbs < 2 ^ b ∧ a + b ≤ 100000000
abbrev rMulM : R2 := rI CMulM fun i j => .int (i * j)
theorem d2_mulM {K : PySem.W.Frag} {i j : Int} (c : CMulM i j) : D2 K rMulM (.int i) (.int j) (.int (i * j)) := d2_I (f := fun i j => .int (i * j)) (fun _ => .int _) c
theorem pow_lift {a b n : Nat} (h : n < 2 ^ a) (hb : a ≤ b) : n < 2 ^ b := Nat.lt_of_lt_of_le h (Nat.pow_le_pow_right (by decide) hb)
theorem abs_sub_lt {i j : Int} {a : Nat} (h1 : i.natAbs < 2 ^ a) (h2 : j.natAbs < 2 ^ a) : (i - j).natAbs < 2 ^ (a + 1) := by
  rw [Nat.pow_succ]
  omega
theorem bits_lt {z : Int} (h : Builtin.Int.intBits z ≤ 1048576) : ∃ a : Nat, a ≤ 1048576 ∧ z.natAbs < 2 ^ a := by
  unfold Builtin.Int.intBits at h
  by_cases q : (z == 0) = true
  · have e : z = 0 := beq_iff_eq.mp q
    exact ⟨0, by omega, by rw [e]; decide⟩
  · rw [if_neg q] at h
    refine ⟨z.natAbs.log2 + 1, h, ?_⟩
    exact Nat.lt_log2_self
end VS
/-- a step's data -/
local macro_rules | `(tactic| walk_at "ev") => `(tactic| (repeat' (first
  | ((with_reducible apply VS.de_var); rfl)
  | with_reducible exact VS.de_int
  | with_reducible exact VS.de_str
  | exact VS.de_str
  | with_reducible exact VS.de_bl
  | with_reducible exact VS.de_non
  | with_reducible exact VS.de_dnew
  | with_reducible exact VS.d2_add
  | with_reducible exact VS.d2_sub
  | with_reducible exact VS.d2_lt
  | with_reducible exact VS.d2_le
  | with_reducible exact VS.d2_gt
  | with_reducible exact VS.d2_ge
  | with_reducible exact VS.d1_neg
  | with_reducible exact VS.d2_eqI
  | with_reducible exact VS.d2_neI
  | with_reducible exact VS.d2_eqS
  | with_reducible exact VS.d2_neS
  | with_reducible exact VS.d2_eqB
  | with_reducible exact VS.d2_mod (by decide)
  | with_reducible exact VS.d2_fdivC (by decide) (by decide)
  | with_reducible exact VS.d2_mulL (by decide) (by decide)
  | with_reducible exact VS.d2_mulR (by decide) (by decide)
  | exact VS.d2_ixT rfl
  | with_reducible exact VS.d2_ixL (VS.atI_map (by assumption))
  | with_reducible exact VS.dc_len
  | with_reducible exact VS.dc_lenT
  | with_reducible exact VS.dc_lenC
  | with_reducible exact VS.dc_min2
  | with_reducible exact VS.dc_max2
  | with_reducible exact VS.dc_abs
  | with_reducible exact VS.dc_sum
  | with_reducible exact VS.dc_intB
  | with_reducible exact VS.da_nil
  | with_reducible exact VS.do_none
  | with_reducible exact VS.dt_yes
  | with_reducible exact VS.dcn_list
  | with_reducible exact VS.dcn_listT
  | with_reducible exact VS.dcn_sortI
  | with_reducible exact VS.dcn_sortP
  | exact Nat.le_of_ble_eq_true rfl
  | with_reducible apply VS.da_cons
  | with_reducible apply VS.de_op
  | with_reducible apply VS.de_un
  | with_reducible apply VS.de_isiU
  | with_reducible apply VS.de_cb
  | with_reducible apply VS.de_tup
  | with_reducible apply VS.de_lst
  | with_reducible apply VS.de_slU
  | with_reducible exact VS.dc_new VS.dcn_list
  | with_reducible exact VS.dc_new VS.dcn_listT
  | with_reducible exact VS.dc_new VS.dcn_sortI
  | with_reducible exact VS.dc_new VS.dcn_sortP
  | with_reducible apply VS.dt_test
  | with_reducible apply VS.dt_B
  | with_reducible apply VS.dt_not
  | with_reducible apply VS.de_notV
  | with_reducible apply VS.do_some
  | with_reducible apply VS.dn_op
  | with_reducible apply VS.dn_cb
  | with_reducible apply VS.dn_lst
  | with_reducible apply VS.dn_sl
  | with_reducible apply VS.dn_slC
  | with_reducible apply VS.de_andU
  | with_reducible apply VS.de_orU
  | with_reducible apply VS.dt_andU
  | with_reducible apply VS.dt_orU
  | with_reducible apply VS.de_chainU
  | with_reducible apply VS.de_chain3
  | exact VS.kit_b_b
  | exact VS.kit_i_b
  | exact VS.kit_i_i
  | exact VS.kit_l_l
  | exact VS.kit_t_t
  | exact VS.kit_s_s
  | ((show VS.notScr _ = true); rfl)
  | with_reducible exact VS.d2_eqSame (VS.sh_ws _)
  | with_reducible exact VS.d2_neSame (VS.sh_ws _)
  | with_reducible exact VS.d2_eqSame (VS.sh_ints _)
  | with_reducible exact VS.d2_neSame (VS.sh_ints _)
  | with_reducible apply VS.de_call
  | exact ⟨_, true, _, rfl, rfl⟩
  | exact ⟨_, false, _, rfl, rfl⟩
  | exact ⟨_, rfl, rfl⟩
  | exact ⟨_, _, rfl, rfl⟩
  | exact ⟨_, _, _, rfl, rfl⟩
  | exact ⟨_, _, _, _, rfl, rfl⟩
  | exact ⟨_, rfl, rfl, by first | assumption | exact rfl | decide | omega⟩
  | exact ⟨_, _, rfl, rfl, by first | assumption | exact rfl | decide | omega⟩
  | exact ⟨_, _, _, rfl, rfl, by first | assumption | exact rfl | decide | omega⟩
  | fail)))

set_option Elab.async false
set_option linter.all false
set_option maxRecDepth 100000
/-! Value semantics: what the rows' side wants: defs that raise, classes. -/
namespace VS
open PySem PySem.Spec PyProof.Rows L2
/-- no class matters -/
def c0 : Cs := ⟨0, 0, 0, 0, 0, 0, 0, 0⟩
theorem passLN {X : Cx} : Passes (L2N.CX X.prog X.w) X E0 := fun _ _ _ _ _ _ _ h => by
  obtain ⟨_, _, _, _, _, _, _, _, _, _, _, _, z⟩ := h
  exact z.elim
theorem takes0N {X : Cx} : L2N.Takes X (fun _ _ _ _ => False) := fun _ _ x => by
  obtain ⟨_, _, _, _, _, _, _, _, _, _, _, _, _, _, _, _, z⟩ := x
  exact z.elim
section
variable {X : Cx} {a b c d : Expr} {ta tb tc td : TE} {pos : Pos}
theorem pt_chain3 {op op' op2 : CmpOp} {r r' r2 : R2} (ho : OpR X (compareOp op) r) (ho' : OpR X (compareOp op') r') (ho2 : OpR X (compareOp op2) r2) (ha : PE X a ta) (hb : PE X b tb) (hc : PE X c tc) (hd : PE X d td)
    (hm : lastMarks [op, op', op2] [b, c, d] = false := by with_unfolding_all rfl) : PT X (.Compare a [op, op', op2] [b, c, d] pos) (tTest (tChain3 r r' r2 ta tb tc td)) := by
  refine ⟨fun pins s σ H Q I h => ?_⟩
  refine isTrue_chain (thn (ha.run pins s σ H _ I h) fun v s1 ⟨x, H1, I1, r1, q1⟩ => test_link (thn (hb.run pins s1 σ H1 _ I1 q1) fun u s2 ⟨y, H2, I2, ry, q2⟩ =>
    thn (ho pins s2 σ H2 x y v u _ I2 r1 ry q2) fun d0 s3 ⟨z, H3, I3, r3, k, e, q3⟩ => ?_)) hm
  subst e
  cases r3
  refine wpAny_truthy_bool ?_
  cases k with
  | false =>
    obtain ⟨k', e', q'⟩ := q3
    cases e'
    exact ite_ff ⟨H3, I3, q'⟩
  | true =>
    refine ite_tt (test_link (thn (hc.run pins s3 σ H3 _ I3 q3) fun w' s4 ⟨z', H4, I4, r4, q4⟩ => thn (ho' pins s4 σ H4 y z' u w' _ I4 ry r4 q4) fun d' s5 ⟨z2, H5, I5, r5, k2, e2, q5⟩ => ?_))
    subst e2
    cases r5
    refine wpAny_truthy_bool ?_
    cases k2 with
    | false =>
      obtain ⟨k', e', q'⟩ := q5
      cases e'
      exact ite_ff ⟨H5, I5, q'⟩
    | true =>
      refine ite_tt (test_last (thn (hd.run pins s5 σ H5 _ I5 q5) fun w2 s6 ⟨z3, H6, I6, r6, q6⟩ => thn (ho2 pins s6 σ H6 z' z3 w' w2 _ I6 r4 r6 q6) fun d2 s7 ⟨z4, H7, I7, r7, k3, e3, q7⟩ => ?_))
      subst e3
      cases r7
      exact wpAny_truthy_bool ⟨H7, I7, q7⟩
end
theorem op_mulM {X : Cx} : OpR X (binaryOp .Mult) rMulM := opI fun i j _ _ _ _ _ hc q => by
  refine mul_int q ?_
  obtain ⟨a, b, ha, hb, hab⟩ := hc
  have bits : ∀ (x : Int) (n : Nat), x.natAbs < 2 ^ n → Builtin.Int.intBits x ≤ n + 1 := fun x n h => by
    unfold Builtin.Int.intBits
    split
    · omega
    · rename_i h0
      have hx : x.natAbs ≠ 0 := fun z => h0 (by
        have : x = 0 := Int.natAbs_eq_zero.mp z
        rw [this]
        rfl)
      have := (Nat.log2_lt hx).mpr h
      omega
  have h1 := bits i a ha
  have h2 := bits j b hb
  unfold IntMulOk
  intro z
  rw [Bool.and_eq_true] at z
  have z2 := z.2
  unfold Builtin.Int.intTooBig at z2
  have z3 := of_decide_eq_true z2
  rw [show bitsLine = 134217728 by decide] at z3
  omega
/-- what the top has written of an own error class -/
structure ClsN (K : PySem.W.Frag) (mg : Str → Option Value) (x : Str) (C : Addr) : Prop where
  gC : mg x = some (.ref C)
  xC : PySem.W.excIn K C [.type "ValueError", .type "Exception", .type "BaseException", .type "object"] "ValueError.__new__" = true
  kC : PySem.W.keepIn K (.ref C) = true
  eC : PySem.W.subIn K (.ref C) (.type "BaseException") = some true
  tC : PySem.W.typeIn K (.ref C) = some (.type "type")
theorem ps_raiseN {X : Cx} {E : XK} {x m : Str} {C : Addr} {j : Nat} {p p2 pos pos2 : Pos} (T : ClsN X.K X.mg x C) (hc : X.calm = true) (tk : L2N.Takes X (fun cls d _ H => E cls d H)) (hg : Gl X x) (hdb : (x == ("__debug__" : Str)) = false := by decide) :
    PS X (.Raise (some (.Call (.Name x p) [.Constant (.str m) j p2] [] pos)) none pos2) (tRse E C) :=
  L2N.ps_raise hc tk (L2N.pmk_own PySem.F.excBase_ValueError T.xC T.gC T.kC (raises_own T.eC T.tC) hg hdb)
section
variable {P : Program} {w : World} {K : PySem.W.Frag} {mg : Str → Option Value} {base : Heap}
/-- as Fun.ok, for a def that may raise -/
theorem _root_.L2.Fun.okN {x qual : Str} {st : Stmt} {f : Addr} {fd : FuncData} {N ps : List Str} {k : Nat} {sp : Sp} (F : Fun K x qual st f fd) (S : FnScope N ps (defScope st)) (len : ∀ vs H Q E, sp vs H Q E → vs.length = ps.length)
    (hbody : ∀ (cdv : Value) (A : Around) (outer : List Env) (s : Shared) (H : Hp) (vs : List V) (Q : VK) (E : XK), Room k (A.deeper (envOfC qual (defScope st) s.heap.objs.size f cdv)) → sp vs H Q E →
      ∃ t, PSs (cxOf (L2N.CX P w) P w K mg base N qual (defScope st) f cdv A outer s H E) (defBody st) t ∧ t { nx := fun _ H' => Q .non H', rt := Q } (L2.start N vs) H) : FnOk P w K mg base (L2N.CX P w) (k + 1) f fd ps sp := by
  obtain ⟨oc, od, kV, doc, pm, an, cdv, ct, osl, rfl, lk, hcd⟩ := F.ex
  exact fn_of lk hcd S len fun A outer s H vs Q E hr hsp => hbody cdv A outer s H vs Q E hr hsp
end
end VS

set_option Elab.async false
set_option linter.all false
set_option maxRecDepth 100000
/-! Value semantics: a def that is asked, within an except suite, of the very error that the suite holds. -/
namespace VS
open PySem PySem.Spec PyProof.Rows L2
open L2H (RoomH Hot1 PinOk HotC cxH inv_startH)
/-- what a def promises of ONE held error p -/
def HotOk (P : Program) (w : World) (K : PySem.W.Frag) (mg : Str → Option Value) (base : Heap) (k : Nat) (f : Addr) (fd : FuncData) (ps : List Str) (p : Addr × Obj) (sp : Sp) : Prop :=
  ∀ (A : Around) (outer : List Env) (s : Shared) (H : Hp) (args : Args) (us : List Value) (vs : List V) (Q : VK), RoomH k A → PinOk outer H s p → Env0 P w K mg base A outer s H → BindsTo s fd args (ps.zip us) → Vals vs us → vs.length = ps.length → sp vs H Q E0 →
    codeAny (model P w) A (.call (.ref f) args) (CR CX0 outer P w H s Q E0) s
section
variable {P : Program} {w : World} {K : PySem.W.Frag} {mg : Str → Option Value} {base : Heap}
theorem hot_fun {x qual : Str} {st : Stmt} {f : Addr} {fd : FuncData} {N ps : List Str} {k : Nat} {p : Addr × Obj} {sp : Sp} (F : Fun K x qual st f fd) (S : FnScope N ps (defScope st))
    (hb : ∀ (cdv : Value) (A : Around) (outer : List Env) (s : Shared) (H : Hp) (vs : List V) (Q : VK), RoomH k (A.deeper (envOfC qual (defScope st) s.heap.objs.size f cdv)) → sp vs H Q E0 →
      ∃ t, PSs (cxH CX0 P w K mg base N qual (defScope st) f cdv A outer s H E0 p) (defBody st) t ∧ t { nx := fun _ H' => Q .non H', rt := Q } (L2.start N vs) H) : HotOk P w K mg base (k + 1) f fd ps p sp := by
  obtain ⟨oc, od, kV, doc, pm, an, cdv, ct, osl, rfl, lk, hcd⟩ := F.ex
  intro A outer s H args us vs Q room pin env0 bind rel len ask
  have keep : ∀ b o, base.get? b = some o → s.heap.get? b = some o := fun b o e => (env0.bs b o e).1
  have inK := env0.mod.kin.keeps keep
  have sees : ∀ y ∈ ps.zip us, (defScope st).names.lookup y.1 = some .local ∨ ((defScope st).names.lookup y.1 = some .cell ∧ ((PySem.cellsFrom (s.heap.objs.size + 1) (defScope st).names []).lookup y.1).isSome = true) := by
    intro y hy
    have hm : y.1 ∈ ps := (List.of_mem_zip (a := y.1) (b := y.2) hy).1
    exact (S.par y.1 hm).imp id fun q => ⟨q, PySem.W.cellsFrom_some _ _ _ (.inl q)⟩
  refine codeAny_call_function room.depth (inK _ _ lk) rfl S.co S.gen rfl (PySem.W.codeRec_of inK hcd) ?_
  refine bind _ _ _ _ (wpAny_newFunctionEnv_cells S.kind sees ?_)
  rintro _ rfl s1 made
  refine ⟨(env0.mod.nolimit.keeps keep).keeps made.toInCall.keep, codeAny_func ?_⟩
  obtain ⟨t, term, goal⟩ := hb cdv A outer s H vs Q (room.deeper _) ask
  have inv := inv_startH (CX := CX0) (E := E0) (qual := qual) (cd := cdv) (f := f) S pin env0 len rel made
  refine wpAny_mono (term.run [] s1 _ H _ inv goal) ?_ (fun _ _ z => z)
  rintro (_ | _ | _ | u) s2 h2
  · obtain ⟨σ2, H2, J, q⟩ := h2
    exact ⟨.non, H2, J.os, J.bare, J.base, J.hok, rfl, q⟩
  all_goals first
    | (obtain ⟨_, _, _, q⟩ := h2; exact q.elim)
    | (obtain ⟨v, σ2, H2, J, rv, q⟩ := h2; exact ⟨v, H2, J.os, J.bare, J.base, J.hok, rv, q⟩)
end
/-- names(e), e the error at p that the suite holds -/
def tHot (sp : Sp) (i : Nat) : TE := fun σ H Q => ∃ v, σ[i]? = some (some v) ∧ sp [v] H Q E0
theorem pe_hot {X : Cx} {p : Addr × Obj} {k : Nat} {f : Addr} {fd : FuncData} {a x y : Str} {sp : Sp} {q pos py : Pos} {i : Nat} (F : HotOk X.prog X.w X.K X.mg X.base k f fd [a] p sp) (hr : RoomH k X.A) (hp : p ∈ X.pn) (hg : Gl X x) (hm : X.mg x = some (.ref f)) (hk : PySem.W.keepIn X.K (.ref f) = true) (hb : Binds X.K fd [a] [])
    (hv : PE X (.Name y py) (tVar i)) (hdb : (x == ("__debug__" : Str)) = false := by decide) (he : starEach (.Name y py :: []) X.env = (false, eval (.Name y py) X.env) :: starEach [] X.env := by rfl) (hpl : (backTo pos (starEach [] X.env)).any (·.1) = false := by rfl) :
    PE X (.Call (.Name x q) [.Name y py] [] pos) (tHot sp i) := by
  refine ⟨fun pins s σ H Q I h => wpAny_Call_Name_kw (ld_glob I hg hm ?_ hdb)⟩
  have arg : tCons (tVar i) tNil σ H fun vs H1 => vs.length = 1 ∧ sp vs H1 Q E0 := by
    obtain ⟨v, e, ask⟩ := h
    exact ⟨v, e, rfl, ask⟩
  refine PySem.W.callWith_K (h₀ := X.base) I.ok.mod.kin hk (thn ((pa_cons hv pa_nil he).run pos pins s σ H _ I arg) ?_) he hpl
  rintro us s1 ⟨vs, H1, J, rel, one, ask⟩
  refine ⟨J.kIn, ?_⟩
  have pinned := J.pin p (List.mem_append_left _ hp)
  have away : p.1 ∉ frs X.stack := fun m => by
    rcases List.mem_cons.mp (J.stkSub p.1 m) with z | z
    · exact pinned.2.2.1 z
    · exact pinned.2.2.2.1 z
  have binds : BindsTo s1 fd ⟨us, []⟩ (([a] : List Str).zip us) := by
    have z := hb s1 us J.kIn (by rw [List.append_nil, ← rel.length]; exact one)
    rw [List.append_nil] at z
    exact z
  refine wpAny_call (codeAny_mono (F X.A X.stack s1 H1 ⟨us, []⟩ us vs Q hr ⟨pinned.1, pinned.2.1, away, pinned.2.2.2.2⟩ J.env0 binds rel one ask) ?_)
  rintro (e | _ | _ | _ | u) s2 h2
  all_goals first
    | exact J.after h2
    | exact h2.elim
/-- what is asked of the classes: the error of D, tested against each -/
structure ErrOk (K : PySem.W.Frag) (c : Cs) (D : ErrC) : Prop where
  exc : ExcC K (c.at D)
  isa : ∀ D' : ErrC, PySem.W.kitOne K (.ref (c.at D)) (.ref (c.at D')) = some (decide (D = D'))
  val : PySem.W.kitOne K (.ref (c.at D)) (.type "ValueError") = some true
  exm : PySem.W.exmOne K (.ref (c.at D)) (.ref c.BidError) = some true
theorem kit_yes {K : PySem.W.Frag} {D : Addr} : PySem.W.kitOne K (.ref D) (.ref D) = some true := by
  unfold PySem.W.kitOne
  rw [if_pos (beq_self_eq_true _)]
theorem kit_no {K : PySem.W.Frag} {D C : Addr} (h1 : PySem.W.subIn K (.ref D) (.ref C) = some false) (h2 : PySem.W.subIn K (.ref D) (.ref D) = some true) (hc : PySem.W.isClsIn K C = true) (ht : PySem.W.typeIn K (.ref C) = some (.type "type")) : PySem.W.kitOne K (.ref D) (.ref C) = some false := by
  have ne : ¬ (Value.ref D == Value.ref C) = true := fun z => by
    have q : Value.ref D = Value.ref C := beq_iff_eq.mp z
    rw [← q, h2] at h1
    cases h1
  have hc' : (PySem.W.clsIn K C).isSome = true := hc
  unfold PySem.W.kitOne
  rw [if_neg ne]
  show (if ((PySem.W.clsIn K C).isSome && PySem.W.typeIn K (.ref C) == some (.type "type")) = true then PySem.W.subIn K (.ref D) (.ref C) else none) = some false
  rw [hc', ht, if_pos (by simp), h1]
theorem kit_ve {K : PySem.W.Frag} {D : Addr} (h : PySem.W.subIn K (.ref D) (.type "ValueError") = some true) : PySem.W.kitOne K (.ref D) (.type "ValueError") = some true := by
  unfold PySem.W.kitOne
  rw [if_neg (by simp)]
  show (if PySem.W.kitMeta "ValueError" = true then PySem.W.subIn K (.ref D) (.type "ValueError") else none) = some true
  rw [if_pos (by decide +kernel), h]
theorem call_isP {X : Cx} {a D : Addr} {oe : Obj} (C : ExcC X.K D) (hz : Zc (.ref D) none oe) (hf : ∃ vs, oe.data = .fields vs) (hp : (a, oe) ∈ X.pn) : CallR X (.builtin "isinstance") (rIsE X.K D a) := by
  rintro pins s σ H _ us Q I rel ⟨c, cv, b, rfl, hcv, hk, q⟩
  obtain ⟨u1, u2, rfl, r1, r2⟩ := vals2 rel
  obtain rfl : u1 = Value.ref a := r1
  obtain rfl := hcv _ r2
  have at_ := (I.pin (a, oe) (List.mem_append_left _ hp)).1
  obtain ⟨vs, hv⟩ := hf
  have inst : PySem.W.InstAt s.heap a oe D none := by
    obtain ⟨oc, od, oda, osl⟩ := oe
    obtain ⟨h1, h2⟩ := hz
    dsimp only at h1 h2 hv
    subst h1 h2 hv
    exact ⟨at_, rfl, rfl, trivial⟩
  exact PySem.W.kia_one (PySem.W.handS_kitx_exc C.hg C.hk C.hs C.hd C.ha C.hn C.ht C.hm) I.kIn inst hk (fun z => nomatch z) fun tk => ⟨.bl b, H, I.tok tk, rfl, q⟩
section
variable {K : PySem.W.Frag} {ds : List (Option PyData)} {te : TE} {a D : Addr}
theorem de_isE {C : Addr} {b : Bool} (h : DE K te ds (rawD a)) (hk : PySem.W.kitOne K (.ref D) (.ref C) = some b) : DE K (tCB (rIsE K D a) (tCons te (tCons (tC (.ref C)) tNil))) ds (.bool b) := fun B σ en H e Q k =>
  h B σ en H e _ fun v H1 e1 r => ⟨.ref C, .ref C, b, by rw [r.raw_eq], fun u ru => ru, hk, k _ H1 e1 (.bl b)⟩
theorem de_isT {T : String} {b : Bool} (h : DE K te ds (rawD a)) (hk : PySem.W.kitOne K (.ref D) (.type T) = some b) : DE K (tCB (rIsE K D a) (tCons te (tCons (tC (.ty T)) tNil))) ds (.bool b) := fun B σ en H e Q k =>
  h B σ en H e _ fun v H1 e1 r => ⟨.ty T, .type T, b, by rw [r.raw_eq], fun u ru => ru, hk, k _ H1 e1 (.bl b)⟩
theorem de_hot {R : List PyData → Out → Prop} {i : Nat} {x d : PyData} {sp : Sp} (hP : ∀ vs H Q E, spD K R vs H Q E → sp vs H Q E) (hv : ds[i]? = some (some x)) (hr : R [x] (.ret d)) : DE K (tHot sp i) ds d := fun B σ en H e Q k => by
  obtain ⟨v, h1, h2⟩ := en.2 i x hv
  refine ⟨v, h1, hP _ _ _ _ ⟨B, [x], .ret d, e, .cons h2 .nil, hr, fun d' v' H' q e' r => ?_, (fun C H' q => by cases q), fun xs p us H' q => by cases q⟩⟩
  cases q
  exact k v' H' e' r
end
theorem hot_of {A : Around} {a : Addr} {oe : Obj} {cls : Value} {d : Option Addr} (hz : L2N.Zn cls d oe) (hf : ∃ vs, oe.data = .fields vs) : Hot1 (A.mark (some (.ref a))) (a, oe) := by
  obtain ⟨vs, hv⟩ := hf
  exact ⟨rfl, vs, hv, hz.2.2 vs hv⟩
/-- names(e): the text by the class of the error at a -/
def nameS : ErrC → Str
  | .wish => "wish "
  | .price => "price "
  | .pieces => "pieces "
  | .uneven => "uneven "
  | .none => "none "
  | .unread => "unread "
def R_names (a : Addr) (D : ErrC) (ds : List PyData) (o : Out) : Prop := ds = [rawD a] ∧ o = .ret (.str (nameS D))
def spN (K : PySem.W.Frag) (c : Cs) (a : Addr) (cls : Value) (d : Option Addr) : Sp := fun vs H Q E => ∃ D, cls = .ref (c.at D) ∧ d = none ∧ ErrOk K c D ∧ spD K (R_names a D) vs H Q E
theorem de_names {K : PySem.W.Frag} {c : Cs} {a : Addr} {D : ErrC} {ds : List (Option PyData)} {i : Nat} (X : ErrOk K c D) (hv : ds[i]? = some (some (rawD a))) : DE K (tHot (spN K c a (.ref (c.at D)) none) i) ds (.str (nameS D)) :=
  de_hot (R := R_names a D) (fun vs H Q E h => ⟨D, rfl, rfl, X, h⟩) hv ⟨rfl, rfl⟩
/-- the body of names -/
def t_names (K : PySem.W.Frag) (c : Cs) (D a : Addr) : TS :=
  tSeq (tAsg (tC (.str "")) (gName 1))
    (tSeq (tIfS (tB (tCB (rIsE K D a) (tCons (tVar 0) (tCons (tC (.ref c.BadWish)) tNil)))) (tAsg (tOp rAddStr (tVar 1) (tC (.str "wish "))) (gName 1)) tNext)
    (tSeq (tIfS (tB (tCB (rIsE K D a) (tCons (tVar 0) (tCons (tC (.ref c.BadPrice)) tNil)))) (tAsg (tOp rAddStr (tVar 1) (tC (.str "price "))) (gName 1)) tNext)
    (tSeq (tIfS (tB (tCB (rIsE K D a) (tCons (tVar 0) (tCons (tC (.ref c.BadPieces)) tNil)))) (tAsg (tOp rAddStr (tVar 1) (tC (.str "pieces "))) (gName 1)) tNext)
    (tSeq (tIfS (tB (tCB (rIsE K D a) (tCons (tVar 0) (tCons (tC (.ref c.Uneven)) tNil)))) (tAsg (tOp rAddStr (tVar 1) (tC (.str "uneven "))) (gName 1)) tNext)
    (tSeq (tIfS (tB (tCB (rIsE K D a) (tCons (tVar 0) (tCons (tC (.ref c.NoSuch)) tNil)))) (tAsg (tOp rAddStr (tVar 1) (tC (.str "none "))) (gName 1)) tNext)
    (tSeq (tIfS (tB (tCB (rIsE K D a) (tCons (tVar 0) (tCons (tC (.ref c.Unread)) tNil)))) (tAsg (tOp rAddStr (tVar 1) (tC (.str "unread "))) (gName 1)) tNext)
    (tSeq (tIfS (tNot (tB (tCB (rIsE K D a) (tCons (tVar 0) (tCons (tC (.ty "ValueError")) tNil))))) (tAsg (tC (.str "")) (gName 1)) tNext)
    (tRet (tVar 1)))))))))
theorem names_if {K : PySem.W.Frag} {E : XK} {u : TS} {P : Post} {D C a : Addr} {b : Bool} {x y : Str} (hk : PySem.W.kitOne K (.ref D) (.ref C) = some b) (hx : x.length ≤ 1000) (hy : y.length ≤ 1000) (k : DS K E u [.val (rawD a), .val (.str (if b = true then x ++ y else x))] P) :
    DS K E (tSeq (tIfS (tB (tCB (rIsE K D a) (tCons (tVar 0) (tCons (tC (.ref C)) tNil)))) (tAsg (tOp rAddStr (tVar 1) (tC (.str y))) (gName 1)) tNext) u) [.val (rawD a), .val (.str x)] P := by
  refine q_ifset (d := .str (if b = true then x ++ y else x)) (dt_B (de_isE (de_var rfl) hk)) (fun hb => ?_) rfl (fun hb => ?_) k
  · rw [if_pos hb]
    exact de_op (de_var rfl) de_str (d2_addStr (by omega))
  · rw [hb]
    rfl
theorem body_names {K : PySem.W.Frag} {c : Cs} {E : XK} {a : Addr} {D : ErrC} (X : ErrOk K c D) : ∀ ds o, R_names a D ds o → DS K E (t_names K c (c.at D) a) (slots 2 ds) o.post := by
  rintro _ _ ⟨rfl, rfl⟩
  refine q_set de_str rfl ?_
  show DS K E _ [.val (rawD a), .val (.str "")] _
  refine names_if (X.isa .wish) (by decide +kernel) (by decide +kernel) ?_
  refine names_if (X.isa .price) (by cases D <;> decide +kernel) (by decide +kernel) ?_
  refine names_if (X.isa .pieces) (by cases D <;> decide +kernel) (by decide +kernel) ?_
  refine names_if (X.isa .uneven) (by cases D <;> decide +kernel) (by decide +kernel) ?_
  refine names_if (X.isa .none) (by cases D <;> decide +kernel) (by decide +kernel) ?_
  refine names_if (X.isa .unread) (by cases D <;> decide +kernel) (by decide +kernel) ?_
  refine q_guard (dt_to (dt_not (dt_B (de_isT (de_var rfl) X.val))) rfl) ?_
  refine ds_ret (de_var rfl) (post_ret ?_)
  refine congrArg (fun s => Out.ret (.str s)) ?_
  cases D <;> decide +kernel
/-! ### try -/
section
variable {K : PySem.W.Frag} {E : XK} {es : List Slot} {P : Post} {ta : TA} {i : Nat} {xs : List PyData} {R : List PyData → Out → Prop} {CB : Addr} {ts : Addr → Value → Option Addr → TS} {Wout : WX}
/-- what is behind a suite: the error's name is gone -/
def Post.gone (P : Post) (i : Nat) : Post := { nx := fun es' => P.nx (es'.set i .no), rt := P.rt, bk := fun es' => P.bk (es'.set i .no), ct := fun es' => P.ct (es'.set i .no), ex := P.ex, rn := P.rn }
theorem At.drop {F0 H0 F H : Hp} {σ : L2.St} (A : At K F0 H0 F H σ es) : At K F0 H0 F H (σ.set i none) (es.set i .no) :=
  ⟨A.f00, A.f0, A.h0, A.fh, A.fresh, by rw [List.length_set, List.length_set]; exact A.len, fun j d q => by
    by_cases z : i = j
    · subst z
      cases get_set_at q
    · rw [get_set_ne z] at q ⊢
      exact A.val j d q, fun j ys q => by
    by_cases z : i = j
    · subst z
      cases get_set_at q
    · rw [get_set_ne z] at q ⊢
      exact A.own j ys q, fun j k ys zs a q1 q2 q3 q4 => by
    by_cases z : i = j
    · subst z
      cases get_set_at q1
    · by_cases z2 : i = k
      · subst z2
        cases get_set_at q2
      · rw [get_set_ne z] at q1 q3
        rw [get_set_ne z2] at q2 q4
        exact A.sep j k ys zs a q1 q2 q3 q4⟩
/-- try: BODY except C as e: SUITE (e in slot i) -/
def tTry (K : PySem.W.Frag) (c : Value) (i : Nat) (tb : WX → TS) (ts : Addr → Value → Option Addr → TS) : TS := fun D σ H => tb (wAs K c i ts (fun _ _ _ _ => False) D) D σ H
/-- the call raises: the suite runs -/
theorem try_exc {C : Addr} {g : TE → TS} (ha : DA K ta (see es) xs) (hr : R xs (.exc C)) (hm : PySem.W.exmOne K (.ref C) (.ref CB) = some true)
    (hg : ∀ te D σ H, (∀ Q : VK, te σ H Q) → g te D σ H) (hs : ∀ a : Addr, DS K E (ts a (.ref C) none) (es.set i (.val (rawD a))) (P.gone i)) :
    DS K E (tTry K (.ref CB) i (fun W => g (tCallS (spD K R) (WE W) ta)) ts) es P := fun F0 H0 F H σ D A M => by
  refine hg _ _ _ _ fun Q => ?_
  refine ha _ σ A.envV H A.seen2 _ fun vs H1 e1 rs => ?_
  refine ⟨Grow (Grow F0 H0 H) H H1, xs, .exc C, grow_ex2 A.seen2 e1, rs, hr, (fun d v H' q => by cases q), (fun C' H2 q e2 => ?_), fun xs p us H' q => by cases q⟩
  cases q
  refine ⟨true, hm, fun _ a na => ?_, fun z => by cases z⟩
  have A2 : At K F0 H0 F H2 σ es := (A.grow e1).grow e2
  refine hs a F0 H0 F H2 _ _ (A2.set (.raw a)) ⟨fun F' H' σ' es' x A' q => ?_, fun F' H' σ' es' x A' q => ?_, fun F' H' σ' es' x A' q => ?_, M.rt, M.ex, M.rn⟩
  · exact M.nx F' H' _ _ x A'.drop q
  · exact M.bk F' H' _ _ x A'.drop q
  · exact M.ct F' H' _ _ x A'.drop q
theorem ds_tryX_drop {C : Addr} (ha : DA K ta (see es) xs) (hr : R xs (.exc C)) (hm : PySem.W.exmOne K (.ref C) (.ref CB) = some true) (hs : ∀ a : Addr, DS K E (ts a (.ref C) none) (es.set i (.val (rawD a))) (P.gone i)) :
    DS K E (tTry K (.ref CB) i (fun W => tDrop (tCallS (spD K R) (WE W) ta)) ts) es P := try_exc (g := tDrop) ha hr hm (fun te D σ H h => h _) hs
theorem ds_tryX_asg {C : Addr} {g : TG} (ha : DA K ta (see es) xs) (hr : R xs (.exc C)) (hm : PySem.W.exmOne K (.ref C) (.ref CB) = some true) (hs : ∀ a : Addr, DS K E (ts a (.ref C) none) (es.set i (.val (rawD a))) (P.gone i)) :
    DS K E (tTry K (.ref CB) i (fun W => tAsg (tCallS (spD K R) (WE W) ta) g) ts) es P := try_exc (g := fun te => tAsg te g) ha hr hm (fun te D σ H h => h _) hs
/-- no error comes -/
theorem ds_try_drop {d : PyData} (ha : DA K ta (see es) xs) (hr : R xs (.ret d)) (k : P.nx es) : DS K E (tTry K (.ref CB) i (fun W => tDrop (tCallS (spD K R) (WE W) ta)) ts) es P := fun F0 H0 F H σ D A M => by
  refine ha _ σ A.envV H A.seen2 _ fun vs H1 e1 rs => ?_
  refine ⟨Grow (Grow F0 H0 H) H H1, xs, .ret d, grow_ex2 A.seen2 e1, rs, hr, fun d' v H' q e2 r => ?_, (fun C' H2 q => by cases q), fun xs p us H' q => by cases q⟩
  exact M.nx F H' σ es exr ((A.grow e1).grow e2) k
theorem ds_try_let {d : PyData} {j : Nat} (ha : DA K ta (frz es) xs) (hr : R xs (.ret d)) (k : P.nx (es.set j (.val d))) : DS K E (tTry K (.ref CB) i (fun W => tAsg (tCallS (spD K R) (WE W) ta) (gName j)) ts) es P := fun F0 H0 F H σ D A M => by
  refine ha _ σ A.envF H A.fh _ fun vs H1 e1 rs => ?_
  refine ⟨Grow F H H1, xs, .ret d, grow_ex2 A.fh e1, rs, hr, fun d' v H' q e2 r => ?_, (fun C' H2 q => by cases q), fun xs p us H' q => by cases q⟩
  cases q
  exact M.nx _ H' _ _ (Evl.Ex.trans (grow_ex1 A.fh) (grow_ex1 (grow_ex2 A.fh e1))) (((A.keep e1).keep e2).set r) k
end
end VS

set_option Elab.async false
set_option linter.all false
set_option maxRecDepth 100000
/-! Value semantics with a mutable store: cells that several defs change. -/
namespace VS
open PySem L2
open Evl (Ex)
/-- what stands at a mutable address; the inner addresses are ghosts -/
inductive Cell where
  | lst (xs : List PyData)
  | book (C dx l1 l2 l3 : Addr) (p : Int) (came rest money : List PyData)
  | dct (kvs : List (Key × V)) (ds : List PyData)
def Cell.foot (a : Addr) : Cell → List Addr
  | .lst _ => [a]
  | .book _ dx l1 l2 l3 _ _ _ _ => [a, dx, l1, l2, l3]
  | .dct _ _ => [a]
def ListAt (K : PySem.W.Frag) (F H : Hp) (a : Addr) (xs : List PyData) : Prop := ∃ vs, H a = some (.lst vs) ∧ RepAll K F vs xs
def Cell.holds (K : PySem.W.Frag) (F H : Hp) (a : Addr) : Cell → Prop
  | .lst xs => ListAt K F H a xs
  | .book C dx l1 l2 l3 p came rest money => BkOk K C ∧ H a = some (.ins C dx (bkF p (.ref l1) (.ref l2) (.ref l3))) ∧ H dx = some (.own a) ∧ ListAt K F H l1 came ∧ ListAt K F H l2 rest ∧ ListAt K F H l3 money
  | .dct kvs ds => H a = some (.dK kvs) ∧ RepAll K F (kvs.map (·.2)) ds
abbrev Store := Addr → Option Cell
def inFoot (μ : Store) (x : Addr) : Prop := ∃ a c, μ a = some c ∧ x ∈ c.foot a
open Classical in
/-- the heap without the store's cells -/
noncomputable def less (H : Hp) (μ : Store) : Hp := fun x => if inFoot μ x then none else H x
theorem less_in {H : Hp} {μ : Store} {x : Addr} (h : inFoot μ x) : less H μ x = none := if_pos h
theorem less_out {H : Hp} {μ : Store} {x : Addr} (h : ¬ inFoot μ x) : less H μ x = H x := if_neg h
theorem less_some {H : Hp} {μ : Store} {x : Addr} {o : HO} (h : less H μ x = some o) : ¬ inFoot μ x ∧ H x = some o := by
  by_cases q : inFoot μ x
  · rw [less_in q] at h
    cases h
  · rw [less_out q] at h
    exact ⟨q, h⟩
theorem less_ex {H : Hp} {μ : Store} : Ex (less H μ) H := fun x o h => (less_some h).2
structure Holds (K : PySem.W.Frag) (F H : Hp) (μ : Store) : Prop where
  at' : ∀ a c, μ a = some c → c.holds K F H a
  nodup : ∀ a c, μ a = some c → (c.foot a).Nodup
  sep : ∀ a b c d x, μ a = some c → μ b = some d → x ∈ c.foot a → x ∈ d.foot b → a = b
structure AtM (K : PySem.W.Frag) (F0 H0 F H : Hp) (σ : L2.St) (es : List Slot) (μ : Store) : Prop where
  at' : At K F0 H0 F (less H μ) σ es
  hold : Holds K F H μ
  out : ∀ x, inFoot μ x → H0 x = none ∧ F x = none
theorem ListAt.mono {K : PySem.W.Frag} {F F' H H' : Hp} {a : Addr} {xs : List PyData} (h : ListAt K F H a xs) (f : Ex F F') (e : H' a = H a) : ListAt K F' H' a xs := by
  obtain ⟨vs, h1, h2⟩ := h
  exact ⟨vs, e.trans h1, h2.mono f⟩
theorem cell_mono {K : PySem.W.Frag} {F F' H H' : Hp} {a : Addr} {c : Cell} (h : c.holds K F H a) (f : Ex F F') (e : ∀ x ∈ c.foot a, H' x = H x) : c.holds K F' H' a := by
  cases c with
  | lst xs => exact ListAt.mono h f (e a (List.mem_singleton.mpr rfl))
  | book C dx l1 l2 l3 p came rest money =>
    obtain ⟨h0, h1, h2, h3, h4, h5⟩ := h
    refine ⟨h0, (e a (by simp [Cell.foot])).trans h1, (e dx (by simp [Cell.foot])).trans h2, h3.mono f (e l1 (by simp [Cell.foot])), h4.mono f (e l2 (by simp [Cell.foot])), h5.mono f (e l3 (by simp [Cell.foot]))⟩
  | dct kvs ds => exact ⟨(e a (List.mem_singleton.mpr rfl)).trans h.1, h.2.mono f⟩
theorem cell_some2 {K : PySem.W.Frag} {F H : Hp} {a : Addr} {c : Cell} (h : c.holds K F H a) : ∀ x ∈ c.foot a, ∃ o, H x = some o ∧ ∀ ys, o ≠ .tup ys := by
  cases c with
  | lst xs =>
    intro x hx
    rw [List.mem_singleton.mp hx]
    obtain ⟨vs, h1, _⟩ := h
    exact ⟨_, h1, fun ys z => by cases z⟩
  | book C dx l1 l2 l3 p came rest money =>
    obtain ⟨_, h1, h2, ⟨v3, h3, _⟩, ⟨v4, h4, _⟩, ⟨v5, h5, _⟩⟩ := h
    intro x hx
    simp only [Cell.foot, List.mem_cons, List.not_mem_nil, or_false] at hx
    rcases hx with rfl | rfl | rfl | rfl | rfl
    · exact ⟨_, h1, fun ys z => by cases z⟩
    · exact ⟨_, h2, fun ys z => by cases z⟩
    · exact ⟨_, h3, fun ys z => by cases z⟩
    · exact ⟨_, h4, fun ys z => by cases z⟩
    · exact ⟨_, h5, fun ys z => by cases z⟩
  | dct kvs ds =>
    intro x hx
    rw [List.mem_singleton.mp hx]
    exact ⟨_, h.1, fun ys z => by cases z⟩
theorem cell_some {K : PySem.W.Frag} {F H : Hp} {a : Addr} {c : Cell} (h : c.holds K F H a) : ∀ x ∈ c.foot a, ∃ o, H x = some o := fun x hx => by
  obtain ⟨o, h1, _⟩ := cell_some2 h x hx
  exact ⟨o, h1⟩
theorem Holds.noTup {K : PySem.W.Frag} {F H : Hp} {μ : Store} (h : Holds K F H μ) {x : Addr} (hx : inFoot μ x) {ys : List V} : H x ≠ some (.tup ys) := fun z => by
  obtain ⟨a, c, hc, hm⟩ := hx
  obtain ⟨o, h1, h2⟩ := cell_some2 (h.at' a c hc) x hm
  rw [h1] at z
  exact h2 ys (Option.some.inj z)
theorem Holds.some {K : PySem.W.Frag} {F H : Hp} {μ : Store} (h : Holds K F H μ) {x : Addr} (hx : inFoot μ x) : ∃ o, H x = some o := by
  obtain ⟨a, c, hc, hm⟩ := hx
  exact cell_some (h.at' a c hc) x hm
/-- where a is silent, b -/
def orH (a b : Hp) : Hp := fun x => match a x with
  | some o => some o
  | none => b x
theorem orH_some {a b : Hp} {x : Addr} {o : HO} (h : a x = some o) : orH a b x = some o := by
  unfold orH
  rw [h]
theorem orH_none {a b : Hp} {x : Addr} (h : a x = none) : orH a b x = b x := by
  unfold orH
  rw [h]
open Classical in
/-- the cells as they stand, what is frozen, the entry heap -/
noncomputable def plus (H0 F H : Hp) (μ : Store) : Hp := fun x => if inFoot μ x then H x else orH F H0 x
theorem plus_in {H0 F H : Hp} {μ : Store} {x : Addr} (h : inFoot μ x) : plus H0 F H μ x = H x := if_pos h
theorem plus_out {H0 F H : Hp} {μ : Store} {x : Addr} (h : ¬ inFoot μ x) : plus H0 F H μ x = orH F H0 x := if_neg h
section
variable {K : PySem.W.Frag} {F0 H0 F F' H H' : Hp} {σ σ' : L2.St} {es es' : List Slot} {μ : Store}
theorem AtM.plus_ex (A : AtM K F0 H0 F H σ es μ) : Ex H0 (plus H0 F H μ) := fun x o q => by
  have hn : ¬ inFoot μ x := fun hx => by
    rw [(A.out x hx).1] at q
    cases q
  rw [plus_out hn]
  cases z : F x with
  | none => rw [orH_none z]; exact q
  | some u =>
    rw [orH_some z]
    have h1 := less_ex x u (A.at'.fh x u z)
    have h2 := less_ex x o (A.at'.h0 x o q)
    rw [h1] at h2
    exact h2
/-- the cells are looked at as what does not change -/
theorem AtM.wide (A : AtM K F0 H0 F H σ es μ) : At K F (plus H0 F H μ) F H σ es := by
  obtain ⟨B, hm, out⟩ := A
  refine ⟨fun x o q => ?_, exr, fun x o q => ?_, Evl.Ex.trans B.fh less_ex, fun x o q => .inl q, B.len, B.val, fun i xs q => ?_, B.sep⟩
  · have hn : ¬ inFoot μ x := fun hx => by
      rw [(out x hx).2] at q
      cases q
    rw [plus_out hn, orH_some q]
  · by_cases hx : inFoot μ x
    · rw [plus_in hx] at q
      exact q
    · rw [plus_out hx] at q
      cases z : F x with
      | none => rw [orH_none z] at q; exact less_ex x o (B.h0 x o q)
      | some u => rw [orH_some z] at q; cases q; exact less_ex x _ (B.fh x _ z)
  · obtain ⟨a, vs, h1, h2, h3, h4, h5⟩ := B.own i xs q
    obtain ⟨hn, h4'⟩ := less_some h4
    exact ⟨a, vs, h1, by rw [plus_out hn, orH_none h3]; exact h2, h3, h4', h5⟩
theorem AtM.same (A : AtM K F0 H0 F H σ es μ) (e : Ex (plus H0 F H μ) H') : ∀ x, inFoot μ x → H' x = H x := fun x hx => by
  obtain ⟨o, ho⟩ := A.hold.some hx
  rw [ho]
  exact e x o (by rw [plus_in hx]; exact ho)
theorem AtM.h0' (A : AtM K F0 H0 F H σ es μ) (e : Ex (plus H0 F H μ) H') : Ex H0 (less H' μ) := fun x o q => by
  have hn : ¬ inFoot μ x := fun hx => by
    rw [(A.out x hx).1] at q
    cases q
  rw [less_out hn]
  exact e x o (A.plus_ex x o q)
theorem AtM.seenF (A : AtM K F0 H0 F H σ es μ) (e : Ex (plus H0 F H μ) H') : Ex F (Grow F0 H0 (less H' μ)) := fun x o q => by
  have hn : ¬ inFoot μ x := fun hx => by
    rw [(A.out x hx).2] at q
    cases q
  rcases A.at'.fresh x o q with z | z
  · rw [grow_old (ne_some (A.at'.f00 x o z))]
    exact z
  · rw [grow_new z, less_out hn]
    exact e x o (by rw [plus_out hn, orH_some q])
theorem AtM.grow_to (A : AtM K F0 H0 F H σ es μ) (e : Ex (plus H0 F H μ) H') : Ex (Grow F (plus H0 F H μ) H') (Grow F0 H0 (less H' μ)) := fun x o q => by
  cases z : plus H0 F H μ x with
  | some u =>
    rw [grow_old (ne_some z)] at q
    exact A.seenF e x o q
  | none =>
    rw [grow_new z] at q
    have hn : ¬ inFoot μ x := fun hx => by
      rw [plus_in hx] at z
      obtain ⟨o, ho⟩ := A.hold.some hx
      rw [ho] at z
      cases z
    have h0 : H0 x = none := by
      cases y : H0 x with
      | none => rfl
      | some u =>
        rw [A.plus_ex x u y] at z
        cases z
    rw [grow_new h0, less_out hn]
    exact q
/-- after a piece of program that changed no cell -/
theorem AtM.back (A : AtM K F0 H0 F H σ es μ) (e : Ex F F') (B : At K F (plus H0 F H μ) F' H' σ' es') : AtM K F0 H0 F' H' σ' es' μ := by
  have same := A.same B.h0
  have outF : ∀ x, inFoot μ x → F' x = none := fun x hx => by
    cases q : F' x with
    | none => rfl
    | some o =>
      rcases B.fresh x o q with z | z
      · rw [(A.out x hx).2] at z
        cases z
      · rw [plus_in hx] at z
        obtain ⟨o, ho⟩ := A.hold.some hx
        rw [ho] at z
        cases z
  refine ⟨⟨A.at'.f00, Evl.Ex.trans A.at'.f0 e, A.h0' B.h0, fun x o q => ?_, fun x o q => ?_, B.len, B.val, fun i xs q => ?_, B.sep⟩, ⟨fun a c hc => ?_, A.hold.nodup, A.hold.sep⟩, fun x hx => ⟨(A.out x hx).1, outF x hx⟩⟩
  · have hn : ¬ inFoot μ x := fun hx => by
      rw [outF x hx] at q
      cases q
    rw [less_out hn]
    exact B.fh x o q
  · rcases B.fresh x o q with z | z
    · exact A.at'.fresh x o z
    · right
      cases y : H0 x with
      | none => rfl
      | some u =>
        rw [A.plus_ex x u y] at z
        cases z
  · obtain ⟨a, vs, h1, h2, h3, h4, h5⟩ := B.own i xs q
    have hn : ¬ inFoot μ a := fun hx => by
      rw [plus_in hx] at h2
      obtain ⟨o, ho⟩ := A.hold.some hx
      rw [ho] at h2
      cases h2
    refine ⟨a, vs, h1, ?_, h3, by rw [less_out hn]; exact h4, h5⟩
    cases y : H0 a with
    | none => rfl
    | some u =>
      rw [A.plus_ex a u y] at h2
      cases h2
  · exact cell_mono (A.hold.at' a c hc) e fun x hx => same x ⟨a, c, hc, hx⟩
end
/-! ### what may be seen -/
def orT (F G : Hp) : Hp := fun x => match F x with
  | some o => some o
  | none => match G x with
    | some (.tup xs) => some (.tup xs)
    | _ => none
theorem orT_some {F G : Hp} {x : Addr} {o : HO} (h : F x = some o) : orT F G x = some o := by
  unfold orT
  rw [h]
theorem orT_cases {F G : Hp} {x : Addr} {o : HO} (h : orT F G x = some o) : F x = some o ∨ (F x = none ∧ G x = some o ∧ ∃ xs, o = .tup xs) := by
  unfold orT at h
  cases e : F x with
  | some u => rw [e] at h; exact .inl h
  | none =>
    rw [e] at h
    cases g : G x with
    | none => rw [g] at h; cases h
    | some u =>
      rw [g] at h
      cases u with
      | tup xs => cases h; exact .inr ⟨rfl, rfl, xs, rfl⟩
      | _ => cases h
theorem orT_tup {F G : Hp} {x : Addr} {xs : List V} (h : G x = some (.tup xs)) (n : F x = none) : orT F G x = some (.tup xs) := by
  unfold orT
  rw [n, h]
open Classical in
/-- what is seen of the heap: what is frozen or new, the cells -/
noncomputable def Bv (F0 H0 H : Hp) (μ : Store) : Hp := fun x => if inFoot μ x then H x else Grow F0 H0 (less H μ) x
theorem bv_in {F0 H0 H : Hp} {μ : Store} {x : Addr} (h : inFoot μ x) : Bv F0 H0 H μ x = H x := if_pos h
theorem bv_out {F0 H0 H : Hp} {μ : Store} {x : Addr} (h : ¬ inFoot μ x) : Bv F0 H0 H μ x = Grow F0 H0 (less H μ) x := if_neg h
mutual
/-- data in which no list is -/
def noLD : PyData → Bool
  | .none => true
  | .bool _ => true
  | .int _ => true
  | .str _ => true
  | .tuple xs => noLDs xs
  | .dict [(.bool true, .int _)] => true
  | _ => false
def noLDs : List PyData → Bool
  | [] => true
  | x :: xs => noLD x && noLDs xs
end
mutual
theorem Rep.noL {K : PySem.W.Frag} {B B' : Hp} (h : ∀ x xs, B x = some (.tup xs) → B' x = some (.tup xs)) : ∀ {v : V} {d : PyData}, Rep K B v d → noLD d = true → Rep K B' v d
  | _, _, .non, _ => .non
  | _, _, .bl b, _ => .bl b
  | _, _, .int i, _ => .int i
  | _, _, .str x, _ => .str x
  | _, _, .lst _ _, c => by simp [noLD] at c
  | _, _, .tup e r, c => .tup (h _ _ e) (RepAll.noL h r (by simpa [noLD] using c))
  | _, _, .scr _, c => by simp [noLD] at c
  | _, _, .edict _, c => by simp [noLD] at c
  | _, _, .raw a, _ => .raw a
  | _, _, .book _ _ _ _ _, c => by simp [noLD] at c
theorem RepAll.noL {K : PySem.W.Frag} {B B' : Hp} (h : ∀ x xs, B x = some (.tup xs) → B' x = some (.tup xs)) : ∀ {vs : List V} {ds : List PyData}, RepAll K B vs ds → noLDs ds = true → RepAll K B' vs ds
  | _, _, .nil, _ => .nil
  | _, _, .cons a r, c => .cons (Rep.noL h a (by simp [noLDs] at c; exact c.1)) (RepAll.noL h r (by simp [noLDs] at c; exact c.2))
end
mutual
/-- how data with references may be seen -/
inductive ViewD (μ : Store) : PyData → PyData → Prop
  | refl (d : PyData) : ViewD μ d d
  | lst {a : Addr} {xs ys : List PyData} : μ a = some (.lst xs) → ViewL μ xs ys → ViewD μ (rawD a) (.list ys)
  | book {a C dx l1 l2 l3 : Addr} {p : Int} {came rest money : List PyData} : μ a = some (.book C dx l1 l2 l3 p came rest money) → ViewD μ (rawD a) (bookD C p (.list came) (.list rest) (.list money))
  | bookR {a C dx l1 l2 l3 : Addr} {p : Int} {came rest money : List PyData} : μ a = some (.book C dx l1 l2 l3 p came rest money) → ViewD μ (rawD a) (bookD C p (rawD l1) (rawD l2) (rawD l3))
  | list {xs ys : List PyData} : ViewL μ xs ys → ViewD μ (.list xs) (.list ys)
inductive ViewL (μ : Store) : List PyData → List PyData → Prop
  | nil : ViewL μ [] []
  | cons {x y : PyData} {xs ys : List PyData} : ViewD μ x y → ViewL μ xs ys → ViewL μ (x :: xs) (y :: ys)
end
theorem ViewL.refl {μ : Store} : ∀ xs, ViewL μ xs xs
  | [] => .nil
  | x :: xs => .cons (.refl x) (ViewL.refl xs)
/-- a list cell seen as it stands -/
theorem ViewD.cell {μ : Store} {a : Addr} {xs : List PyData} (h : μ a = some (.lst xs)) : ViewD μ (rawD a) (.list xs) := .lst h (ViewL.refl xs)
mutual
theorem ViewD.rep {K : PySem.W.Frag} {F H B : Hp} {μ : Store} (hd : Holds K F H μ) (f : Ex F B) (hf : ∀ x, inFoot μ x → B x = H x) : ∀ {v : V} {d d' : PyData}, ViewD μ d d' → Rep K B v d → Rep K B v d'
  | _, _, _, .refl _, r => r
  | v, _, _, .lst (a := a) (xs := xs) (ys := ys) h l, r => by
    rw [r.raw_eq]
    obtain ⟨vs, h1, h2⟩ := hd.at' _ _ h
    exact .lst (by rw [hf a ⟨a, _, h, List.mem_singleton.mpr rfl⟩]; exact h1) (ViewL.rep hd f hf l (h2.mono f))
  | v, _, _, .book (a := a) (C := C) (dx := dx) (l1 := l1) (l2 := l2) (l3 := l3) h, r => by
    rw [r.raw_eq]
    obtain ⟨k, h1, _, ⟨v1, g1, r1⟩, ⟨v2, g2, r2⟩, ⟨v3, g3, r3⟩⟩ := hd.at' _ _ h
    have q : ∀ x, x ∈ [a, dx, l1, l2, l3] → B x = H x := fun x hx => hf x ⟨a, _, h, hx⟩
    exact .book k (by rw [q a (by simp)]; exact h1) (.lst (by rw [q l1 (by simp)]; exact g1) (r1.mono f)) (.lst (by rw [q l2 (by simp)]; exact g2) (r2.mono f)) (.lst (by rw [q l3 (by simp)]; exact g3) (r3.mono f))
  | v, _, _, .bookR (a := a) (C := C) (dx := dx) (l1 := l1) (l2 := l2) (l3 := l3) h, r => by
    rw [r.raw_eq]
    obtain ⟨k, h1, _⟩ := hd.at' _ _ h
    exact .book k (by rw [hf a ⟨a, _, h, List.mem_cons_self⟩]; exact h1) (.raw l1) (.raw l2) (.raw l3)
  | v, _, _, .list l, r => by
    obtain ⟨a, vs, rfl, h1, h2⟩ := r.list_eq
    exact .lst h1 (ViewL.rep hd f hf l h2)
theorem ViewL.rep {K : PySem.W.Frag} {F H B : Hp} {μ : Store} (hd : Holds K F H μ) (f : Ex F B) (hf : ∀ x, inFoot μ x → B x = H x) : ∀ {vs : List V} {ds ds' : List PyData}, ViewL μ ds ds' → RepAll K B vs ds → RepAll K B vs ds'
  | _, _, _, .nil, r => r
  | _, _, _, .cons a l, r => by
    cases r with
    | cons x r => exact .cons (ViewD.rep hd f hf a x) (ViewL.rep hd f hf l r)
end
/-- a name as it is seen -/
inductive SV (μ : Store) : Slot → Option PyData → Prop
  | skip (s : Slot) : SV μ s none
  | val {d d' : PyData} : ViewD μ d d' → SV μ (.val d) (some d')
  | own (xs : List PyData) : SV μ (.own xs) (some (.list xs))
inductive Vw (μ : Store) : List Slot → List (Option PyData) → Prop
  | nil : Vw μ [] []
  | cons {s : Slot} {o : Option PyData} {es : List Slot} {ds : List (Option PyData)} : SV μ s o → Vw μ es ds → Vw μ (s :: es) (o :: ds)
theorem Vw.length {μ : Store} : ∀ {es ds}, Vw μ es ds → es.length = ds.length
  | _, _, .nil => rfl
  | _, _, .cons _ r => congrArg (· + 1) (Vw.length r)
theorem Vw.get {μ : Store} : ∀ {es ds} {i : Nat} {o : Option PyData}, Vw μ es ds → ds[i]? = some o → ∃ s, es[i]? = some s ∧ SV μ s o
  | _, _, i, _, .nil, h => by simp at h
  | _, _, 0, _, .cons a _, h => by
    simp at h
    subst h
    exact ⟨_, rfl, a⟩
  | _, _, i + 1, _, .cons _ r, h => by
    obtain ⟨s, h1, h2⟩ := Vw.get (i := i) r (by simpa using h)
    exact ⟨s, by simpa using h1, h2⟩
theorem Vw.see {μ : Store} : ∀ {es : List Slot}, Vw μ es (VS.see es)
  | [] => .nil
  | .no :: es => .cons (.skip _) Vw.see
  | .val d :: es => .cons (.val (.refl d)) Vw.see
  | .own xs :: es => .cons (.own xs) Vw.see
section
variable {K : PySem.W.Frag} {F0 H0 F F' H H' : Hp} {σ σ' : L2.St} {es es' : List Slot} {μ : Store} {ds : List (Option PyData)}
theorem AtM.gx (A : AtM K F0 H0 F H σ es μ) : Ex (Grow F0 H0 (less H μ)) (less H μ) := grow_ex2 A.at'.f00 A.at'.h0
theorem AtM.bvx (A : AtM K F0 H0 F H σ es μ) : Ex (Bv F0 H0 H μ) H := fun x o q => by
  by_cases hx : inFoot μ x
  · rw [bv_in hx] at q; exact q
  · rw [bv_out hx] at q; exact less_ex x o (A.gx x o q)
theorem AtM.gb (A : AtM K F0 H0 F H σ es μ) : Ex (Grow F0 H0 (less H μ)) (Bv F0 H0 H μ) := fun x o q => by
  have hn := (less_some (A.gx x o q)).1
  rw [bv_out hn]
  exact q
theorem AtM.fb (A : AtM K F0 H0 F H σ es μ) : Ex F (Bv F0 H0 H μ) := Evl.Ex.trans A.at'.seen A.gb
theorem AtM.view (A : AtM K F0 H0 F H σ es μ) (V : Vw μ es ds) : EnvR K (Bv F0 H0 H μ) σ ds := ⟨A.at'.len.trans V.length, fun i d h => by
  obtain ⟨s, h1, h2⟩ := V.get h
  have hf : ∀ x, inFoot μ x → Bv F0 H0 H μ x = H x := fun x => bv_in
  cases h2 with
  | val w =>
    obtain ⟨v, g1, g2⟩ := A.at'.val i _ h1
    exact ⟨v, g1, w.rep A.hold A.fb hf (g2.mono A.fb)⟩
  | own xs =>
    obtain ⟨v, g1, g2⟩ := A.at'.envV.2 i (.list xs) (by rw [List.getElem?_map, h1]; rfl)
    exact ⟨v, g1, g2.mono A.gb⟩⟩
/-- the tuples that are seen are frozen -/
theorem AtM.tups (A : AtM K F0 H0 F H σ es μ) : AtM K F0 H0 (orT F (Grow F0 H0 (less H μ))) H σ es μ := by
  have ef : Ex F (orT F (Grow F0 H0 (less H μ))) := fun x o q => orT_some q
  refine ⟨⟨A.at'.f00, Evl.Ex.trans A.at'.f0 ef, A.at'.h0, fun x o q => ?_, fun x o q => ?_, A.at'.len, fun i d q => ?_, fun i xs q => ?_, A.at'.sep⟩, ⟨fun a c hc => cell_mono (A.hold.at' a c hc) ef fun _ _ => rfl, A.hold.nodup, A.hold.sep⟩, fun x hx => ⟨(A.out x hx).1, ?_⟩⟩
  · rcases orT_cases q with z | ⟨_, z, _⟩
    · exact A.at'.fh x o z
    · exact A.gx x o z
  · rcases orT_cases q with z | ⟨_, z, _⟩
    · exact A.at'.fresh x o z
    · cases y : H0 x with
      | none => exact .inr rfl
      | some u => rw [grow_old (ne_some y)] at z; exact .inl z
  · obtain ⟨v, h1, h2⟩ := A.at'.val i d q
    exact ⟨v, h1, h2.mono ef⟩
  · obtain ⟨a, vs, h1, h2, h3, h4, h5⟩ := A.at'.own i xs q
    refine ⟨a, vs, h1, h2, ?_, h4, h5.mono ef⟩
    cases y : orT F (Grow F0 H0 (less H μ)) a with
    | none => rfl
    | some u =>
      rcases orT_cases y with z | ⟨_, z, ys, rfl⟩
      · rw [h3] at z; cases z
      · have := A.gx a _ z
        rw [h4] at this
        cases this
  · cases y : orT F (Grow F0 H0 (less H μ)) x with
    | none => rfl
    | some u =>
      rcases orT_cases y with z | ⟨_, z, _⟩
      · rw [(A.out x hx).2] at z; cases z
      · have := A.gx x _ z
        rw [less_in hx] at this
        cases this
theorem AtM.bvt (A : AtM K F0 H0 F H σ es μ) {x : Addr} {xs : List V} (h : Bv F0 H0 H μ x = some (.tup xs)) : orT F (Grow F0 H0 (less H μ)) x = some (.tup xs) := by
  have hn : ¬ inFoot μ x := fun hx => by
    rw [bv_in hx] at h
    exact A.hold.noTup hx h
  rw [bv_out hn] at h
  cases y : F x with
  | none => exact orT_tup h y
  | some o =>
    have h1 := A.at'.fh x o y
    have h2 := A.gx x _ h
    rw [h1] at h2
    cases h2
    exact orT_some y
end
/-! ### statements -/
structure PostM where
  nx : List Slot → Store → Prop := fun _ _ => False
  rt : PyData → Store → Prop := fun _ _ => False
  bk : List Slot → Store → Prop := fun _ _ => False
  ct : List Slot → Store → Prop := fun _ _ => False
  ex : Addr → Store → Prop := fun _ _ => False
  rn : List PyData → Store → Prop := fun _ _ => False
/-- at the end of a def: the entry heap stands, the cells stand in what is new -/
structure EndM (K : PySem.W.Frag) (F0 H0 H : Hp) (μ : Store) : Prop where
  h0 : Ex H0 (less H μ)
  hold : Holds K (Grow F0 H0 (less H μ)) H μ
  out : ∀ x, inFoot μ x → H0 x = none
/-- the same, a new list at p beside -/
structure EndN (K : PySem.W.Frag) (F0 H0 H : Hp) (μ : Store) (p : Addr) (xs : List PyData) : Prop where
  h0 : Ex H0 (less H μ)
  new : H0 p = none
  here : ∃ vs, less H μ p = some (.lst vs) ∧ RepAll K (Grow F0 H0 (del (less H μ) p)) vs xs
  hold : Holds K (Grow F0 H0 (del (less H μ) p)) H μ
  out : ∀ x, inFoot μ x → H0 x = none
structure MeetsM (K : PySem.W.Frag) (E : XK) (F0 H0 F : Hp) (P : PostM) (D : Ends) : Prop where
  nx : ∀ F' H σ es μ, Ex F F' → AtM K F0 H0 F' H σ es μ → P.nx es μ → D.nx σ H
  bk : ∀ F' H σ es μ, Ex F F' → AtM K F0 H0 F' H σ es μ → P.bk es μ → D.bk σ H
  ct : ∀ F' H σ es μ, Ex F F' → AtM K F0 H0 F' H σ es μ → P.ct es μ → D.ct σ H
  rt : ∀ v H d μ, EndM K F0 H0 H μ → Rep K (Grow F0 H0 (less H μ)) v d → P.rt d μ → D.rt v H
  ex : ∀ C H μ, EndM K F0 H0 H μ → P.ex C μ → E (.ref C) none H
  rn : ∀ p xs H μ, EndN K F0 H0 H μ p xs → P.rn xs μ → D.rt (.ref p) H
def DM (K : PySem.W.Frag) (E : XK) (t : TS) (es : List Slot) (μ : Store) (P : PostM) : Prop :=
  ∀ F0 H0 F H σ D, AtM K F0 H0 F H σ es μ → MeetsM K E F0 H0 F P D → t D σ H
def PostM.at (P : PostM) (μ : Store) : Post := { nx := fun es => P.nx es μ, rt := fun d => P.rt d μ, bk := fun es => P.bk es μ, ct := fun es => P.ct es μ, ex := fun C => P.ex C μ }
section
variable {K : PySem.W.Frag} {F0 H0 F F' H H' : Hp} {σ σ' : L2.St} {es es' : List Slot} {μ : Store} {ds : List (Option PyData)}
theorem AtM.end' (A : AtM K F0 H0 F H σ es μ) : EndM K F0 H0 H μ := ⟨A.at'.h0, ⟨fun a c hc => cell_mono (A.hold.at' a c hc) A.at'.seen fun _ _ => rfl, A.hold.nodup, A.hold.sep⟩, fun x hx => (A.out x hx).1⟩
/-- a statement that touches no cell -/
theorem dm_lift {E : XK} {t : TS} {P : PostM} (h : DS K E t es (P.at μ)) : DM K E t es μ P := fun F0 H0 F H σ D A M => by
  have en : ∀ H', Ex (plus H0 F H μ) H' → EndM K F0 H0 H' μ := fun H' e =>
    ⟨A.h0' e, ⟨fun a c hc => cell_mono (A.hold.at' a c hc) (A.seenF e) fun x hx => A.same e x ⟨a, c, hc, hx⟩, A.hold.nodup, A.hold.sep⟩, fun x hx => (A.out x hx).1⟩
  exact h F (plus H0 F H μ) F H σ D A.wide ⟨fun F' H' σ' es' e B q => M.nx F' H' σ' es' μ e (A.back e B) q, fun F' H' σ' es' e B q => M.bk F' H' σ' es' μ e (A.back e B) q, fun F' H' σ' es' e B q => M.ct F' H' σ' es' μ e (A.back e B) q,
    fun v H' d e r q => M.rt v H' d μ (en H' e) (r.mono (A.grow_to e)) q, fun C H' e q => M.ex C H' μ (en H' e) q, fun p vs H' xs e h1 h2 r q => q.elim⟩
theorem MeetsM.up {E : XK} {P : PostM} {D : Ends} (M : MeetsM K E F0 H0 F P D) (e : Ex F F') : MeetsM K E F0 H0 F' P D :=
  ⟨fun F' H σ es μ x => M.nx F' H σ es μ (e.trans x), fun F' H σ es μ x => M.bk F' H σ es μ (e.trans x), fun F' H σ es μ x => M.ct F' H σ es μ (e.trans x), M.rt, M.ex, M.rn⟩
theorem AtM.grow (A : AtM K F0 H0 F H σ es μ) (e : Ex H H') : AtM K F0 H0 F H' σ es μ := A.back exr (A.wide.grow e)
theorem AtM.keep (A : AtM K F0 H0 F H σ es μ) (e : Ex H H') : AtM K F0 H0 (Grow F H H') H' σ es μ := A.back (grow_ex1 A.wide.fh) (A.wide.keep e)
theorem AtM.set (A : AtM K F0 H0 F H σ es μ) {i : Nat} {v : V} {d : PyData} (r : Rep K F v d) : AtM K F0 H0 F H (σ.set i (some v)) (es.set i (.val d)) μ := ⟨A.at'.set r, A.hold, A.out⟩
/-- behind a call -/
theorem AtM.after {μ' : Store} (A : AtM K F0 H0 F H σ es μ) (e : EndM K F (less H μ) H' μ') : AtM K F0 H0 (Grow F (less H μ) (less H' μ')) H' σ es μ' := ⟨A.at'.keep e.h0, e.hold, fun x hx => by
  have h1 := e.out x hx
  exact ⟨Ex.ne A.at'.h0 h1, by rw [grow_new h1, less_in hx]⟩⟩
theorem AtM.mint {μ' : Store} {p : Addr} {xs : List PyData} (A : AtM K F0 H0 F H σ es μ) (e : EndN K F (less H μ) H' μ' p xs) (i : Nat) : AtM K F0 H0 (Grow F (less H μ) (del (less H' μ') p)) H' (σ.set i (some (.ref p))) (es.set i (.own xs)) μ' := by
  obtain ⟨vs, h1, h2⟩ := e.here
  refine ⟨A.at'.mint e.h0 e.new h1 h2, e.hold, fun x hx => ?_⟩
  have h3 := e.out x hx
  refine ⟨Ex.ne A.at'.h0 h3, ?_⟩
  rw [grow_new h3]
  by_cases z : x = p
  · rw [z, del_same]
  · rw [del_ne z, less_in hx]
/-- a new list is a list -/
theorem EndN.endM {B G : Hp} {μ' : Store} {p : Addr} {xs : List PyData} (e : EndN K B G H' μ' p xs) : EndM K B G H' μ' ∧ Rep K (Grow B G (less H' μ')) (.ref p) (.list xs) := by
  obtain ⟨vs, h1, h2⟩ := e.here
  exact ⟨⟨e.h0, ⟨fun a c hc => cell_mono (e.hold.at' a c hc) (grow_right del_ex) fun _ _ => rfl, e.hold.nodup, e.hold.sep⟩, e.out⟩, .lst (by rw [grow_new e.new]; exact h1) (h2.mono (grow_right del_ex))⟩
/-! ### expressions that may change cells -/
variable {te ta tb tl ti : TE} {tc : TT} {t u : TS} {tx : TA}
def ME (K : PySem.W.Frag) (te : TE) (es : List Slot) (μ : Store) (W : PyData → Store → Prop) : Prop :=
  ∀ F0 H0 F H σ Q, AtM K F0 H0 F H σ es μ → (∀ F' H' v d μ', Ex F F' → AtM K F0 H0 F' H' σ es μ' → Rep K F' v d → W d μ' → Q v H') → te σ H Q
def MT (K : PySem.W.Frag) (tt : TT) (es : List Slot) (μ : Store) (W : Bool → Store → Prop) : Prop :=
  ∀ F0 H0 F H σ (Q : Bool → Hp → Prop), AtM K F0 H0 F H σ es μ → (∀ F' H' b μ', Ex F F' → AtM K F0 H0 F' H' σ es μ' → W b μ' → Q b H') → tt σ H Q
def MA (K : PySem.W.Frag) (ta : TA) (es : List Slot) (μ : Store) (W : List PyData → Store → Prop) : Prop :=
  ∀ F0 H0 F H σ (Q : List V → Hp → Prop), AtM K F0 H0 F H σ es μ → (∀ F' H' vs ds μ', Ex F F' → AtM K F0 H0 F' H' σ es μ' → RepAll K F' vs ds → W ds μ' → Q vs H') → ta σ H Q
/-- a new list -/
def MN (K : PySem.W.Frag) (te : TE) (es : List Slot) (μ : Store) (W : List PyData → Store → Prop) : Prop :=
  ∀ F0 H0 F H σ Q, AtM K F0 H0 F H σ es μ → (∀ F' H1 μ1 H' p xs μ', Ex F F' → AtM K F0 H0 F' H1 σ es μ1 → EndN K F' (less H1 μ1) H' μ' p xs → W xs μ' → Q (.ref p) H') → te σ H Q
section
variable {W : PyData → Store → Prop} {WL : List PyData → Store → Prop} {WB : Bool → Store → Prop} {d : PyData} {xs : List PyData} {b : Bool}
theorem me_de (h : DE K te (frz es) d) (k : W d μ) : ME K te es μ W := fun F0 H0 F H σ Q A q =>
  h _ σ A.at'.envF H A.wide.fh _ fun v H' e r => q _ H' v d μ (grow_ex1 A.wide.fh) (A.keep e) r k
theorem me_v (V : Vw μ es ds) (h : DE K te ds d) (n : noLD d = true) (k : W d μ) : ME K te es μ W := fun F0 H0 F H σ Q A q =>
  h _ σ (A.view V) H A.bvx _ fun v H' e r => by
    have A1 := A.tups
    refine q _ H' v d μ (Evl.Ex.trans (fun x o q => orT_some q) (grow_ex1 A1.wide.fh)) (A1.keep e) (r.noL (fun x xs y => ?_) n) k
    cases z : H x with
    | none => rw [grow_new z] at y ⊢; exact y
    | some o =>
      rw [grow_old (ne_some z)] at y ⊢
      exact A.bvt y
theorem ma_v (V : Vw μ es ds) (h : DA K tx ds xs) (n : noLDs xs = true) (k : WL xs μ) : MA K tx es μ WL := fun F0 H0 F H σ Q A q =>
  h _ σ (A.view V) H A.bvx _ fun v H' e r => by
    have A1 := A.tups
    refine q _ H' v xs μ (Evl.Ex.trans (fun x o q => orT_some q) (grow_ex1 A1.wide.fh)) (A1.keep e) (r.noL (fun x xs y => ?_) n) k
    cases z : H x with
    | none => rw [grow_new z] at y ⊢; exact y
    | some o =>
      rw [grow_old (ne_some z)] at y ⊢
      exact A.bvt y
theorem mt_v (V : Vw μ es ds) (h : DT K tc ds b) (k : WB b μ) : MT K tc es μ WB := fun F0 H0 F H σ Q A q =>
  h _ σ (A.view V) H A.bvx _ fun H' e => q F H' b μ exr (A.grow e) k
theorem ma_nil (k : WL [] μ) : MA K tNil es μ WL := fun F0 H0 F H σ Q A q => q F H [] [] μ exr A .nil k
theorem ma_cons {tr : TA} (h : ME K ta es μ fun d μ1 => MA K tr es μ1 fun ds μ2 => WL (d :: ds) μ2) : MA K (tCons ta tr) es μ WL := fun F0 H0 F H σ Q A q =>
  h F0 H0 F H σ _ A fun F1 H1 v d μ1 x1 A1 r1 h1 => h1 F0 H0 F1 H1 σ _ A1 fun F2 H2 vs ds μ2 x2 A2 r2 h2 => q F2 H2 (v :: vs) (d :: ds) μ2 (x1.trans x2) A2 (.cons (r1.mono x2) r2) h2
theorem me_mono {W' : PyData → Store → Prop} (h : ME K te es μ W') (k : ∀ d μ', W' d μ' → W d μ') : ME K te es μ W := fun F0 H0 F H σ Q A q =>
  h F0 H0 F H σ Q A fun F' H' v d μ' x A' r w => q F' H' v d μ' x A' r (k d μ' w)
theorem me_op {r : R2} (h : ME K ta es μ fun x μ1 => ME K tb es μ1 fun y μ2 => ∃ z, D2 K r x y z ∧ W z μ2) : ME K (tOp r ta tb) es μ W := fun F0 H0 F H σ Q A q =>
  h F0 H0 F H σ _ A fun F1 H1 v x μ1 x1 A1 r1 h1 => h1 F0 H0 F1 H1 σ _ A1 fun F2 H2 w y μ2 x2 A2 r2 ⟨z, hz, k⟩ =>
    hz F2 H2 v w A2.wide.fh (r1.mono x2) r2 _ fun o H3 e3 r3 => q _ H3 o z μ2 ((x1.trans x2).trans (grow_ex1 A2.wide.fh)) (A2.keep e3) r3 k
theorem me_lst (h : MA K tx es μ fun ds μ' => ds.length ≤ 100000 ∧ W (.list ds) μ') : ME K (tLst tx) es μ W := fun F0 H0 F H σ Q A q =>
  h F0 H0 F H σ _ A fun F1 H1 vs ds μ1 x1 A1 r1 ⟨hl, k⟩ => ⟨len_ok (by rw [r1.length]; exact hl), fun p hp => by
    have A2 := A1.keep (upd_ex (o := .lst vs) hp)
    exact q _ _ _ _ μ1 (x1.trans (grow_ex1 A1.wide.fh)) A2 (.lst (by rw [grow_new hp, upd_same]) (r1.mono (grow_ex1 A1.wide.fh))) k⟩
theorem me_andV (h : ME K ta es μ fun x μ1 => ∃ a, x = .bool a ∧ (a = false → W (.bool false) μ1) ∧ (a = true → ME K tb es μ1 W)) : ME K (tAndV ta tb) es μ W := fun F0 H0 F H σ Q A q =>
  h F0 H0 F H σ _ A fun F1 H1 v x μ1 x1 A1 r1 ⟨a, e, k1, k2⟩ => by
    subst e
    refine ⟨a, r1.bool_eq, ?_⟩
    cases a with
    | false => exact q F1 H1 _ (.bool false) μ1 x1 A1 (.bl false) (k1 rfl)
    | true => exact k2 rfl F0 H0 F1 H1 σ Q A1 fun F2 H2 v2 d2 μ2 x2 A2 r2 w2 => q F2 H2 v2 d2 μ2 (x1.trans x2) A2 r2 w2
theorem me_notV (h : ME K ta es μ fun x μ1 => ∃ a, x = .bool a ∧ W (.bool (!a)) μ1) : ME K (tNotV ta) es μ W := fun F0 H0 F H σ Q A q =>
  h F0 H0 F H σ _ A fun F1 H1 v x μ1 x1 A1 r1 ⟨a, e, k1⟩ => by
    subst e
    exact ⟨a, r1.bool_eq, q F1 H1 _ _ μ1 x1 A1 (.bl _) k1⟩
theorem mt_test (h : ME K te es μ fun x μ1 => ∃ a, x = .bool a ∧ WB a μ1) : MT K (tTest te) es μ WB := fun F0 H0 F H σ Q A q =>
  h F0 H0 F H σ _ A fun F1 H1 v x μ1 x1 A1 r1 ⟨a, e, k⟩ => by
    subst e
    exact ⟨a, r1.bool_eq, q F1 H1 a μ1 x1 A1 k⟩
theorem mt_B (h : ME K te es μ fun x μ1 => ∃ a, x = .bool a ∧ WB a μ1) : MT K (tB te) es μ WB := fun F0 H0 F H σ Q A q =>
  h F0 H0 F H σ _ A fun F1 H1 v x μ1 x1 A1 r1 ⟨a, e, k⟩ => by
    subst e
    exact ⟨a, r1.bool_eq, q F1 H1 a μ1 x1 A1 k⟩
theorem mt_not (h : MT K tc es μ fun b μ' => WB (!b) μ') : MT K (tNot tc) es μ WB := fun F0 H0 F H σ Q A q =>
  h F0 H0 F H σ _ A fun F1 H1 b μ1 x1 A1 k => q F1 H1 _ μ1 x1 A1 k
theorem mt_or {td : TT} (h : MT K tc es μ fun b μ1 => (b = true → WB true μ1) ∧ (b = false → MT K td es μ1 WB)) : MT K (tOr tc td) es μ WB := fun F0 H0 F H σ Q A q =>
  h F0 H0 F H σ _ A fun F1 H1 b μ1 x1 A1 k => by
    cases b with
    | true =>
      show Q true H1
      exact q F1 H1 true μ1 x1 A1 (k.1 rfl)
    | false =>
      show td σ H1 Q
      exact k.2 rfl F0 H0 F1 H1 σ Q A1 fun F2 H2 b2 μ2 x2 A2 w2 => q F2 H2 b2 μ2 (x1.trans x2) A2 w2
theorem mt_and {td : TT} (h : MT K tc es μ fun b μ1 => (b = false → WB false μ1) ∧ (b = true → MT K td es μ1 WB)) : MT K (tAnd tc td) es μ WB := fun F0 H0 F H σ Q A q =>
  h F0 H0 F H σ _ A fun F1 H1 b μ1 x1 A1 k => by
    cases b with
    | false =>
      show Q false H1
      exact q F1 H1 false μ1 x1 A1 (k.1 rfl)
    | true =>
      show td σ H1 Q
      exact k.2 rfl F0 H0 F1 H1 σ Q A1 fun F2 H2 b2 μ2 x2 A2 w2 => q F2 H2 b2 μ2 (x1.trans x2) A2 w2
/-! new lists -/
theorem AtM.endN (A : AtM K F0 H0 F H σ es μ) (e : Ex H H') {p : Addr} {vs : List V} (hp : H p = none) (hl : H' p = some (.lst vs)) (r : RepAll K (Grow F H (del H' p)) vs xs) : EndN K F (less H μ) H' μ p xs := by
  have hs : ∀ x, inFoot μ x → H' x = H x := fun x hx => by
    obtain ⟨o, ho⟩ := A.hold.some hx
    rw [ho]
    exact e x o ho
  have hpn : ¬ inFoot μ p := fun hx => by
    obtain ⟨o, ho⟩ := A.hold.some hx
    rw [hp] at ho
    cases ho
  have ln : less H μ p = none := by rw [less_out hpn]; exact hp
  refine ⟨fun x o q => ?_, ln, ⟨vs, by rw [less_out hpn]; exact hl, r.mono fun x o q => ?_⟩, ⟨fun a c hc => cell_mono (A.hold.at' a c hc) (grow_ex1 A.at'.fh) fun x hx => hs x ⟨a, c, hc, hx⟩, A.hold.nodup, A.hold.sep⟩, fun x hx => less_in hx⟩
  · obtain ⟨h1, h2⟩ := less_some q
    rw [less_out h1]
    exact e x o h2
  · cases z : H x with
    | none =>
      have hn : ¬ inFoot μ x := fun hx => by
        obtain ⟨o, ho⟩ := A.hold.some hx
        rw [z] at ho
        cases ho
      rw [grow_new z] at q
      rw [grow_new (by rw [less_out hn]; exact z)]
      by_cases y : x = p
      · rw [y, del_same] at q; cases q
      · rw [del_ne y] at q ⊢
        rw [less_out hn]
        exact q
    | some u =>
      rw [grow_old (ne_some z)] at q
      rw [grow_old (ne_some (A.at'.fh x o q))]
      exact q
theorem mn_dn (h : DN K te (frz es) xs) (k : WL xs μ) : MN K te es μ WL := fun F0 H0 F H σ Q A q =>
  h _ σ A.at'.envF H A.wide.fh _ fun p vs H' e hp hl r => q F H μ H' p xs μ exr A (A.endN e hp hl r) k
theorem mn_v (V : Vw μ es ds) (h : DN K te ds xs) (n : noLDs xs = true) (k : WL xs μ) : MN K te es μ WL := fun F0 H0 F H σ Q A q =>
  h _ σ (A.view V) H A.bvx _ fun p vs H' e hp hl r => by
    have A1 := A.tups
    refine q _ H μ H' p xs μ (fun x o q => orT_some q) A1 (A1.endN e hp hl (r.noL (fun x xs y => ?_) n)) k
    cases z : H x with
    | none => rw [grow_new z] at y ⊢; exact y
    | some o =>
      rw [grow_old (ne_some z)] at y ⊢
      exact A.bvt y
theorem me_new (h : MN K te es μ fun xs μ' => W (.list xs) μ') : ME K te es μ W := fun F0 H0 F H σ Q A q =>
  h F0 H0 F H σ Q A fun F1 H1 μ1 H' p xs μ' x1 A1 en k => q _ H' _ _ μ' (x1.trans (grow_ex1 A1.at'.fh)) (A1.after en.endM.1) en.endM.2 k
end
/-! ### promises -/
def spM (K : PySem.W.Frag) (R : List PyData → Store → (Out → Store → Prop) → Prop) : Sp := fun vs H Q E => ∃ B μ ds W, Ex B (less H μ) ∧ RepAll K B vs ds ∧ Holds K B H μ ∧ R ds μ W ∧
  (∀ d v H' μ', EndM K B (less H μ) H' μ' → Rep K (Grow B (less H μ) (less H' μ')) v d → W (.ret d) μ' → Q v H') ∧
  (∀ C H' μ', EndM K B (less H μ) H' μ' → W (.exc C) μ' → E (.ref C) none H') ∧
  (∀ p xs H' μ', EndN K B (less H μ) H' μ' p xs → W (.new xs) μ' → Q (.ref p) H')
def postM (W : Out → Store → Prop) : PostM := { nx := fun _ μ => W (.ret .none) μ, rt := fun d μ => W (.ret d) μ, ex := fun C μ => W (.exc C) μ, rn := fun xs μ => W (.new xs) μ }
theorem run_bodyM {N : List Str} {t : TS} {R : List PyData → Store → (Out → Store → Prop) → Prop} {vs : List V} {H : Hp} {Q : VK} {E : XK} (h : spM K R vs H Q E) (hb : ∀ ds μ W, R ds μ W → DM K E t (slots N.length ds) μ (postM W)) :
    t { nx := fun _ H' => Q .non H', rt := Q } (L2.start N vs) H := by
  obtain ⟨B, μ, ds, W, e, r, hd, hr, k1, k2, k3⟩ := h
  have A : AtM K B (less H μ) B H (L2.start N vs) (slots N.length ds) μ := ⟨start_at e r, hd, fun x hx => ⟨less_in hx, by
    cases z : B x with
    | none => rfl
    | some o =>
      have := e x o z
      rw [less_in hx] at this
      cases this⟩⟩
  refine hb ds μ W hr _ _ _ _ _ _ A ⟨fun F' H' σ es μ' x A' q => k1 .none .non H' μ' A'.end' .non q, fun F' H' σ es μ' x A' q => False.elim q, fun F' H' σ es μ' x A' q => False.elim q, fun v H' d μ' e' r' q => k1 d v H' μ' e' r' q, fun C H' μ' e' q => k2 C H' μ' e' q, fun p xs H' μ' e' q => k3 p xs H' μ' e' q⟩
theorem spM_len {R : List PyData → Store → (Out → Store → Prop) → Prop} {n : Nat} (hR : ∀ ds μ W, R ds μ W → ds.length = n) : ∀ vs H Q E, spM K R vs H Q E → vs.length = n := fun vs H Q E ⟨B, μ, ds, W, e, r, _, hr, _⟩ => by
  rw [r.length]
  exact hR ds μ W hr
section
variable {W : PyData → Store → Prop} {WL : List PyData → Store → Prop} {R : List PyData → Store → (Out → Store → Prop) → Prop} {E : XK} {C : Addr} {m : Str}
theorem me_call (h : MA K tx es μ fun xs μ1 => ∃ W0, R xs μ1 W0 ∧ ∀ o μ2, W0 o μ2 → ∃ d, (o = .ret d ∧ W d μ2) ∨ (∃ zs, o = .new zs ∧ d = .list zs ∧ W d μ2)) : ME K (tCall (spM K R) [] E tx) es μ W := fun F0 H0 F H σ Q A q =>
  h F0 H0 F H σ _ A fun F1 H1 vs xs μ1 x1 A1 rs ⟨W0, hR, hW⟩ => ⟨F1, μ1, xs, W0, A1.at'.fh, by rw [List.append_nil]; exact rs, A1.hold, hR, (fun d v H' μ' en r w => by
    obtain ⟨d', ⟨e, k⟩ | ⟨zs, e, _⟩⟩ := hW _ _ w
    · cases e
      exact q _ H' v _ μ' (x1.trans (grow_ex1 A1.at'.fh)) (A1.after en) r k
    · cases e), (fun C H' μ' en w => by
    obtain ⟨d', ⟨e, k⟩ | ⟨zs, e, _⟩⟩ := hW _ _ w <;> cases e), fun p zs H' μ' en w => by
    obtain ⟨d', ⟨e, k⟩ | ⟨zs', e, rfl, k⟩⟩ := hW _ _ w
    · cases e
    · cases e
      exact q _ H' _ _ μ' (x1.trans (grow_ex1 A1.at'.fh)) (A1.after en.endM.1) en.endM.2 k⟩
theorem mn_call (h : MA K tx es μ fun xs μ1 => ∃ W0, R xs μ1 W0 ∧ ∀ o μ2, W0 o μ2 → ∃ zs, o = .new zs ∧ WL zs μ2) : MN K (tCall (spM K R) [] E tx) es μ WL := fun F0 H0 F H σ Q A q =>
  h F0 H0 F H σ _ A fun F1 H1 vs xs μ1 x1 A1 rs ⟨W0, hR, hW⟩ => ⟨F1, μ1, xs, W0, A1.at'.fh, by rw [List.append_nil]; exact rs, A1.hold, hR, (fun d v H' μ' en r w => by
    obtain ⟨zs, e, _⟩ := hW _ _ w
    cases e), (fun C H' μ' en w => by
    obtain ⟨zs, e, _⟩ := hW _ _ w
    cases e), fun p zs H' μ' en w => by
    obtain ⟨zs', e, k⟩ := hW _ _ w
    cases e
    exact q F1 H1 μ1 H' p _ μ' x1 A1 en k⟩
/-- no field has that name -/
def bkNo (m : Str) : Prop := ∀ p v1 v2 v3, (bkF p v1 v2 v3).lookup m = none
theorem cell_book {F H : Hp} {a dx l1 l2 l3 : Addr} {p : Int} {came rest money : List PyData} (h : (Cell.book C dx l1 l2 l3 p came rest money).holds K F H a) : BkOk K C ∧ H a = some (.ins C dx (bkF p (.ref l1) (.ref l2) (.ref l3))) := ⟨h.1, h.2.1⟩
/-- a method that changes the book -/
theorem me_meth (hm : bkNo m) (h : ME K ta es μ fun x μ1 => ∃ a dx l1 l2 l3 p came rest money, x = rawD a ∧ μ1 a = some (.book C dx l1 l2 l3 p came rest money) ∧ MA K tx es μ1 fun xs μ2 => ∃ W0, R (rawD a :: xs) μ2 W0 ∧ ∀ o μ3, W0 o μ3 → ∃ d, (o = .ret d ∧ W d μ3) ∨ (∃ zs, o = .new zs ∧ d = .list zs ∧ W d μ3)) : ME K (tMeth C m (spM K R) [] E ta tx) es μ W := fun F0 H0 F H σ Q A q =>
  h F0 H0 F H σ _ A fun F1 H1 v x μ1 x1 A1 r1 ⟨a, dx, l1, l2, l3, p, came, rest, money, e, hc, k⟩ => by
    subst e
    have hb := cell_book (A1.hold.at' _ _ hc)
    refine ⟨a, dx, _, r1.raw_eq, hb.2, hm _ _ _ _, k F0 H0 F1 H1 σ _ A1 fun F2 H2 vs xs μ2 x2 A2 rs ⟨W0, hR, hW⟩ => ?_⟩
    refine ⟨F2, μ2, rawD a :: xs, W0, A2.at'.fh, by rw [List.append_nil]; exact .cons (r1.mono x2) rs, A2.hold, hR, fun d v H' μ' en r w => ?_, fun C H' μ' en w => ?_, fun p zs H' μ' en w => ?_⟩
    · obtain ⟨d', ⟨e, k⟩ | ⟨zs, e, _⟩⟩ := hW _ _ w
      · cases e
        exact q _ H' v _ μ' ((x1.trans x2).trans (grow_ex1 A2.at'.fh)) (A2.after en) r k
      · cases e
    · obtain ⟨d', ⟨e, k⟩ | ⟨zs, e, _⟩⟩ := hW _ _ w <;> cases e
    · obtain ⟨d', ⟨e, k⟩ | ⟨zs', e, rfl, k⟩⟩ := hW _ _ w
      · cases e
      · cases e
        exact q _ H' _ _ μ' ((x1.trans x2).trans (grow_ex1 A2.at'.fh)) (A2.after en.endM.1) en.endM.2 k
theorem mn_meth (hm : bkNo m) (h : ME K ta es μ fun x μ1 => ∃ a dx l1 l2 l3 p came rest money, x = rawD a ∧ μ1 a = some (.book C dx l1 l2 l3 p came rest money) ∧ MA K tx es μ1 fun xs μ2 => ∃ W0, R (rawD a :: xs) μ2 W0 ∧ ∀ o μ3, W0 o μ3 → ∃ zs, o = .new zs ∧ WL zs μ3) : MN K (tMeth C m (spM K R) [] E ta tx) es μ WL := fun F0 H0 F H σ Q A q =>
  h F0 H0 F H σ _ A fun F1 H1 v x μ1 x1 A1 r1 ⟨a, dx, l1, l2, l3, p, came, rest, money, e, hc, k⟩ => by
    subst e
    have hb := cell_book (A1.hold.at' _ _ hc)
    refine ⟨a, dx, _, r1.raw_eq, hb.2, hm _ _ _ _, k F0 H0 F1 H1 σ _ A1 fun F2 H2 vs xs μ2 x2 A2 rs ⟨W0, hR, hW⟩ => ?_⟩
    refine ⟨F2, μ2, rawD a :: xs, W0, A2.at'.fh, by rw [List.append_nil]; exact .cons (r1.mono x2) rs, A2.hold, hR, fun d v H' μ' en r w => ?_, fun C H' μ' en w => ?_, fun p zs H' μ' en w => ?_⟩
    · obtain ⟨zs, e, _⟩ := hW _ _ w
      cases e
    · obtain ⟨zs, e, _⟩ := hW _ _ w
      cases e
    · obtain ⟨zs', e, k⟩ := hW _ _ w
      cases e
      exact q F2 H2 μ2 H' p _ μ' (x1.trans x2) A2 en k
end
end
/-! ### statements -/
section
variable {K : PySem.W.Frag} {E : XK} {es : List Slot} {μ : Store} {P : PostM} {t u tb : TS} {tc : TT} {te tl ti ta : TE} {tx : TA} {i j : Nat} {d : PyData} {xs : List PyData} {F0 H0 F F' H H' : Hp} {σ : L2.St} {ds : List (Option PyData)}
theorem dm_seq (h : DM K E t es μ { P with nx := fun es' μ' => DM K E u es' μ' P }) : DM K E (tSeq t u) es μ P := fun F0 H0 F H σ D A M =>
  h F0 H0 F H σ { D with nx := u D } A ⟨fun F' H σ es μ' x A' q => q F0 H0 F' H σ D A' (M.up x), M.bk, M.ct, M.rt, M.ex, M.rn⟩
theorem dm_next (h : P.nx es μ) : DM K E tNext es μ P := fun F0 H0 F H σ D A M => M.nx F H σ es μ exr A h
theorem dm_asg (h : ME K te es μ fun d μ' => P.nx (es.set i (.val d)) μ') : DM K E (tAsg te (gName i)) es μ P := fun F0 H0 F H σ D A M =>
  h F0 H0 F H σ _ A fun F1 H1 v d μ1 x1 A1 r1 k => M.nx F1 H1 _ _ μ1 x1 (A1.set r1) k
theorem dm_new (h : MN K te es μ fun xs μ' => P.nx (es.set i (.own xs)) μ') : DM K E (tAsg te (gName i)) es μ P := fun F0 H0 F H σ D A M =>
  h F0 H0 F H σ _ A fun F1 H1 μ1 H' p xs μ' x1 A1 en k => M.nx _ H' _ _ μ' (x1.trans (grow_ex1 A1.at'.fh)) (A1.mint en i) k
theorem dm_expr (h : ME K te es μ fun d μ' => P.nx es μ') : DM K E (tDrop te) es μ P := fun F0 H0 F H σ D A M =>
  h F0 H0 F H σ _ A fun F1 H1 v d μ1 x1 A1 r1 k => M.nx F1 H1 _ _ μ1 x1 A1 k
theorem dm_ret (h : ME K te es μ fun d μ' => P.rt d μ') : DM K E (tRet te) es μ P := fun F0 H0 F H σ D A M =>
  h F0 H0 F H σ _ A fun F1 H1 v d μ1 x1 A1 r1 k => M.rt v H1 d μ1 A1.end' (r1.mono A1.at'.seen) k
/-- return of a list of its own -/
theorem dm_retO (hi : es[i]? = some (.own xs)) (k : P.rn xs μ) : DM K E (tRet (tVar i)) es μ P := fun F0 H0 F H σ D A M => by
  obtain ⟨a, vs, h1, h2, h3, h4, h5⟩ := A.at'.own i xs hi
  have ef : Ex F (Grow F0 H0 (del (less H μ) a)) := fun b o q => by
    have nb : b ≠ a := fun z => by rw [z, h3] at q; cases q
    rcases A.at'.fresh b o q with z | z
    · rw [grow_old (ne_some (A.at'.f00 b o z))]; exact z
    · rw [grow_new z, del_ne nb]; exact A.at'.fh b o q
  exact ⟨.ref a, h1, M.rn a xs H μ ⟨A.at'.h0, h2, ⟨vs, h4, h5.mono ef⟩, ⟨fun b c hc => cell_mono (A.hold.at' b c hc) ef fun _ _ => rfl, A.hold.nodup, A.hold.sep⟩, fun x hx => (A.out x hx).1⟩ k⟩
theorem dm_if (h : MT K tc es μ fun b μ' => (b = true → DM K E t es μ' P) ∧ (b = false → DM K E u es μ' P)) : DM K E (tIfS tc t u) es μ P := fun F0 H0 F H σ D A M =>
  h F0 H0 F H σ _ A fun F1 H1 b μ1 x1 A1 k => by
    cases b with
    | true =>
      show t D σ H1
      exact k.1 rfl F0 H0 F1 H1 σ D A1 (M.up x1)
    | false =>
      show u D σ H1
      exact k.2 rfl F0 H0 F1 H1 σ D A1 (M.up x1)
theorem dm_raise {C : Addr} (k : P.ex C μ) : DM K E (tRse E C) es μ P := fun F0 H0 F H σ D A M => M.ex C H μ A.end' k
theorem dm_freeze (hi : es[i]? = some (.own xs)) (h : DM K E t (es.set i (.val (.list xs))) μ P) : DM K E t es μ P := fun F0 H0 F H σ D A M => by
  obtain ⟨a, vs, h1, h2, h3, h4, h5⟩ := A.at'.own i xs hi
  have hn := (less_some h4).1
  obtain ⟨F', x, B⟩ := A.at'.freeze hi
  have A' : AtM K F0 H0 F' H σ (es.set i (.val (.list xs))) μ := ⟨B, ⟨fun b c hc => cell_mono (A.hold.at' b c hc) x fun _ _ => rfl, A.hold.nodup, A.hold.sep⟩, fun y hy => ⟨(A.out y hy).1, by
    cases z : F' y with
    | none => rfl
    | some o =>
      have := B.fh y o z
      rw [less_in hy] at this
      cases this⟩⟩
  exact h F0 H0 F' H σ D A' (M.up x)
theorem dm_post {P' : PostM} (h : DM K E t es μ P') (n : ∀ es μ, P'.nx es μ → P.nx es μ) (b : ∀ es μ, P'.bk es μ → P.bk es μ) (c : ∀ es μ, P'.ct es μ → P.ct es μ) (r : ∀ d μ, P'.rt d μ → P.rt d μ) (x : ∀ C μ, P'.ex C μ → P.ex C μ) (w : ∀ xs μ, P'.rn xs μ → P.rn xs μ) : DM K E t es μ P := fun F0 H0 F H σ D A M =>
  h F0 H0 F H σ D A ⟨fun F' H σ es μ e A q => M.nx F' H σ es μ e A (n es μ q), fun F' H σ es μ e A q => M.bk F' H σ es μ e A (b es μ q), fun F' H σ es μ e A q => M.ct F' H σ es μ e A (c es μ q), fun v H d μ e R q => M.rt v H d μ e R (r d μ q), fun C H μ e q => M.ex C H μ e (x C μ q), fun p xs H μ e q => M.rn p xs H μ e (w xs μ q)⟩
/-- over a list that stays -/
theorem dm_for (W : Nat → List Slot → Store → Prop) (h : ME K tl es μ fun d μ' => d = .list xs ∧ W 0 es μ') (hs : ∀ k x es' μ', xs[k]? = some x → W k es' μ' → DM K E tb (es'.set j (.val x)) μ' { P with nx := W (k + 1), ct := W (k + 1), bk := P.nx }) (hd : ∀ es' μ', W xs.length es' μ' → P.nx es' μ') :
    DM K E (tFor (iList K tl) (gName j) tb) es μ P := fun F0 H0 F H σ D A M => by
  refine h F0 H0 F H σ _ A fun F1 H1 v d μ1 x1 A1 r ⟨e, h0⟩ => ?_
  subst e
  obtain ⟨a, vs, rfl, ha, rs⟩ := r.list_eq
  refine ⟨a, rfl, ⟨vs, SqL.of (A1.wide.fh a _ ha)⟩, ?_⟩
  refine for_list (K := K) (a := a) (xs := vs) (fun k σ' H' => ∃ F' es' μ', Ex F1 F' ∧ AtM K F0 H0 F' H' σ' es' μ' ∧ W k es' μ') ⟨_, es, μ1, exr, A1, h0⟩ (fun k σ' H' _ ⟨F', es', μ', e', A', _⟩ => SqL.of (A'.wide.fh a _ (e' a _ ha))) ?_ ?_
  · rintro k x σ' H' hk ⟨F', es', μ', e', A', w⟩
    obtain ⟨d, hd', rd⟩ := rs.get' hk
    have mf : Ex F F' := Evl.Ex.trans x1 e'
    exact hs k d es' μ' hd' w F0 H0 F' H' _ _ (A'.set (rd.mono e')) ⟨fun F2 H2 σ2 es2 μ2 x A2 q => ⟨F2, es2, μ2, e'.trans x, A2, q⟩, fun F2 H2 σ2 es2 μ2 x A2 q => M.nx F2 H2 σ2 es2 μ2 (mf.trans x) A2 q, fun F2 H2 σ2 es2 μ2 x A2 q => ⟨F2, es2, μ2, e'.trans x, A2, q⟩, M.rt, M.ex, M.rn⟩
  · rintro σ' H' ⟨F', es', μ', e', A', w⟩
    rw [rs.length] at w
    exact M.nx F' H' σ' es' μ' (Evl.Ex.trans x1 e') A' (hd es' μ' w)
theorem dm_forT (W : Nat → List Slot → Store → Prop) (h : ME K tl es μ fun d μ' => d = .tuple xs ∧ W 0 es μ') (hs : ∀ k x es' μ', xs[k]? = some x → W k es' μ' → DM K E tb (es'.set j (.val x)) μ' { P with nx := W (k + 1), ct := W (k + 1), bk := P.nx }) (hd : ∀ es' μ', W xs.length es' μ' → P.nx es' μ') :
    DM K E (tFor (iTup K tl) (gName j) tb) es μ P := fun F0 H0 F H σ D A M => by
  refine h F0 H0 F H σ _ A fun F1 H1 v d μ1 x1 A1 r ⟨e, h0⟩ => ?_
  subst e
  obtain ⟨a, vs, rfl, ha, rs⟩ := r.tup_eq
  refine ⟨a, rfl, ⟨vs, SqT.of (A1.wide.fh a _ ha)⟩, ?_⟩
  refine for_tup (K := K) (a := a) (xs := vs) (fun k σ' H' => ∃ F' es' μ', Ex F1 F' ∧ AtM K F0 H0 F' H' σ' es' μ' ∧ W k es' μ') ⟨_, es, μ1, exr, A1, h0⟩ (fun k σ' H' _ ⟨F', es', μ', e', A', _⟩ => SqT.of (A'.wide.fh a _ (e' a _ ha))) ?_ ?_
  · rintro k x σ' H' hk ⟨F', es', μ', e', A', w⟩
    obtain ⟨d, hd', rd⟩ := rs.get' hk
    have mf : Ex F F' := Evl.Ex.trans x1 e'
    exact hs k d es' μ' hd' w F0 H0 F' H' _ _ (A'.set (rd.mono e')) ⟨fun F2 H2 σ2 es2 μ2 x A2 q => ⟨F2, es2, μ2, e'.trans x, A2, q⟩, fun F2 H2 σ2 es2 μ2 x A2 q => M.nx F2 H2 σ2 es2 μ2 (mf.trans x) A2 q, fun F2 H2 σ2 es2 μ2 x A2 q => ⟨F2, es2, μ2, e'.trans x, A2, q⟩, M.rt, M.ex, M.rn⟩
  · rintro σ' H' ⟨F', es', μ', e', A', w⟩
    rw [rs.length] at w
    exact M.nx F' H' σ' es' μ' (Evl.Ex.trans x1 e') A' (hd es' μ' w)
/-- over range(n) -/
theorem dm_forR1 {n : Int} (W : Nat → List Slot → Store → Prop) (h : MA K tx es μ fun ds μ' => ds = [.int n] ∧ W 0 es μ') (hn : -100000 ≤ n ∧ n ≤ 100000) (hs : ∀ (k : Nat) es' μ', (k : Int) < n → W k es' μ' → DM K E tb (es'.set j (.val (.int (k : Int)))) μ' { P with nx := W (k + 1), ct := W (k + 1), bk := P.nx }) (hd : ∀ es' μ', W n.toNat es' μ' → P.nx es' μ') :
    DM K E (tFor (iRng1 tx) (gName j) tb) es μ P := fun F0 H0 F H σ D A M => by
  refine h F0 H0 F H σ _ A fun F1 H1 vs dd μ1 x1 A1 r ⟨e, h0⟩ => ?_
  subst e
  have ev : vs = [.int n] := by
    cases r with
    | cons a r => cases r; rw [a.int_eq]
  refine ⟨n, ev, by omega, by omega, ?_⟩
  refine for_range (lo := 0) (n := n.toNat) (fun k σ' H' => ∃ F' es' μ', Ex F F' ∧ AtM K F0 H0 F' H' σ' es' μ' ∧ W k es' μ') ⟨_, es, μ1, x1, A1, h0⟩ ?_ ?_
  · rintro k σ' H' hk ⟨F', es', μ', e', A', w⟩
    have e0 : (0 : Int) + (k : Int) = (k : Int) := Int.zero_add _
    rw [e0]
    exact hs k es' μ' (by omega) w F0 H0 F' H' _ _ (A'.set (.int _)) ⟨fun F2 H2 σ2 es2 μ2 x A2 q => ⟨F2, es2, μ2, e'.trans x, A2, q⟩, fun F2 H2 σ2 es2 μ2 x A2 q => M.nx F2 H2 σ2 es2 μ2 (e'.trans x) A2 q, fun F2 H2 σ2 es2 μ2 x A2 q => ⟨F2, es2, μ2, e'.trans x, A2, q⟩, M.rt, M.ex, M.rn⟩
  · rintro σ' H' ⟨F', es', μ', e', A', w⟩
    exact M.nx F' H' σ' es' μ' e' A' (hd es' μ' w)
end
/-! ### a cell changes -/
open Classical in
noncomputable def mset (μ : Store) (a : Addr) (c : Cell) : Store := fun x => if x = a then some c else μ x
theorem mset_at {μ : Store} {a : Addr} {c : Cell} : mset μ a c a = some c := if_pos rfl
theorem mset_ne {μ : Store} {a b : Addr} {c : Cell} (h : b ≠ a) : mset μ a c b = μ b := if_neg h
theorem mset_ne' {μ : Store} {a b : Addr} {c : Cell} (h : a ≠ b) : mset μ a c b = μ b := if_neg fun z => h z.symm
theorem mset_mset {μ : Store} {a : Addr} {c d : Cell} : mset (mset μ a c) a d = mset μ a d := by
  funext x
  by_cases h : x = a
  · rw [h, mset_at, mset_at]
  · rw [mset_ne h, mset_ne h, mset_ne h]
theorem mset_same {μ : Store} {a : Addr} {c : Cell} (h : μ a = some c) : mset μ a c = μ := by
  funext x
  by_cases z : x = a
  · rw [z, mset_at, h]
  · rw [mset_ne z]
theorem inFoot_set {μ : Store} {a : Addr} {c c0 : Cell} (hc : μ a = some c0) (hf : c.foot a = c0.foot a) (x : Addr) : inFoot (mset μ a c) x ↔ inFoot μ x := by
  constructor
  · rintro ⟨b, d, h1, h2⟩
    by_cases z : b = a
    · subst z
      rw [mset_at] at h1
      cases h1
      exact ⟨b, c0, hc, hf ▸ h2⟩
    · rw [mset_ne z] at h1
      exact ⟨b, d, h1, h2⟩
  · rintro ⟨b, d, h1, h2⟩
    by_cases z : b = a
    · subst z
      rw [hc] at h1
      cases h1
      exact ⟨b, c, mset_at, hf.symm ▸ h2⟩
    · exact ⟨b, d, (mset_ne z).trans h1, h2⟩
theorem AtM.put {K : PySem.W.Frag} {F0 H0 F H H' : Hp} {σ : L2.St} {es : List Slot} {μ : Store} {a : Addr} {c c0 : Cell} (A : AtM K F0 H0 F H σ es μ) (hc : μ a = some c0) (hf : c.foot a = c0.foot a) (hh : c.holds K F H' a) (hs : ∀ x, x ∉ c0.foot a → H' x = H x) : AtM K F0 H0 F H' σ es (mset μ a c) := by
  have hI := fun x => inFoot_set (c := c) hc hf x
  have hl : less H' (mset μ a c) = less H μ := by
    funext x
    by_cases q : inFoot μ x
    · rw [less_in q, less_in ((hI x).mpr q)]
    · rw [less_out q, less_out fun y => q ((hI x).mp y)]
      exact hs x fun y => q ⟨a, c0, hc, y⟩
  refine ⟨by rw [hl]; exact A.at', ⟨fun b d h => ?_, fun b d h => ?_, fun b1 b2 d1 d2 x h1 h2 m1 m2 => ?_⟩, fun x hx => A.out x ((hI x).mp hx)⟩
  · by_cases z : b = a
    · subst z
      rw [mset_at] at h
      cases h
      exact hh
    · rw [mset_ne z] at h
      refine cell_mono (A.hold.at' b d h) exr fun x hx => hs x fun y => z (A.hold.sep b a d c0 x h hc hx y)
  · by_cases z : b = a
    · subst z
      rw [mset_at] at h
      cases h
      rw [hf]
      exact A.hold.nodup _ _ hc
    · rw [mset_ne z] at h
      exact A.hold.nodup b d h
  · have f : ∀ {b d}, mset μ a c b = some d → x ∈ d.foot b → ∃ d', μ b = some d' ∧ x ∈ d'.foot b := fun {b d} h m => by
      by_cases z : b = a
      · subst z
        rw [mset_at] at h
        cases h
        exact ⟨c0, hc, hf ▸ m⟩
      · rw [mset_ne z] at h
        exact ⟨d, h, m⟩
    obtain ⟨e1, g1, n1⟩ := f h1 m1
    obtain ⟨e2, g2, n2⟩ := f h2 m2
    exact A.hold.sep b1 b2 e1 e2 x g1 g2 n1 n2
/-- the list at l is a part of the cell c0 at a; g: the cell behind a change of it -/
structure InC (c0 : Cell) (a l : Addr) (xs : List PyData) (g : List PyData → Cell) : Prop where
  at' : ∀ K F H, c0.holds K F H a → ListAt K F H l xs
  up : ∀ K F H us ys, (c0.foot a).Nodup → c0.holds K F H a → RepAll K F us ys → (g ys).holds K F (upd H l (.lst us)) a
  foot : ∀ ys, (g ys).foot a = c0.foot a
  mem : l ∈ c0.foot a
theorem inC_lst {a : Addr} {xs : List PyData} : InC (.lst xs) a a xs .lst := ⟨fun K F H h => h, fun K F H us ys n h r => ⟨us, upd_same, r⟩, fun ys => rfl, List.mem_singleton.mpr rfl⟩
theorem ListAt.ne {K : PySem.W.Frag} {F H : Hp} {a b : Addr} {o : HO} {xs : List PyData} (h : ListAt K F H a xs) (n : a ≠ b) : ListAt K F (upd H b o) a xs := by
  obtain ⟨vs, h1, h2⟩ := h
  exact ⟨vs, by rw [upd_ne n]; exact h1, h2⟩
theorem inC_came {C dx l1 l2 l3 a : Addr} {p : Int} {came rest money : List PyData} : InC (.book C dx l1 l2 l3 p came rest money) a l1 came fun ys => .book C dx l1 l2 l3 p ys rest money :=
  ⟨fun K F H h => h.2.2.2.1, fun K F H us ys n h r => by
    obtain ⟨h0, h1, h2, h3, h4, h5⟩ := h
    simp only [Cell.foot, List.nodup_cons, List.mem_cons, List.not_mem_nil, or_false, not_or] at n
    exact ⟨h0, by rw [upd_ne n.1.2.1]; exact h1, by rw [upd_ne n.2.1.1]; exact h2, ⟨us, upd_same, r⟩, h4.ne fun z => n.2.2.1.1 z.symm, h5.ne fun z => n.2.2.1.2 z.symm⟩, fun ys => rfl, by simp [Cell.foot]⟩
theorem inC_rest {C dx l1 l2 l3 a : Addr} {p : Int} {came rest money : List PyData} : InC (.book C dx l1 l2 l3 p came rest money) a l2 rest fun ys => .book C dx l1 l2 l3 p came ys money :=
  ⟨fun K F H h => h.2.2.2.2.1, fun K F H us ys n h r => by
    obtain ⟨h0, h1, h2, h3, h4, h5⟩ := h
    simp only [Cell.foot, List.nodup_cons, List.mem_cons, List.not_mem_nil, or_false, not_or] at n
    exact ⟨h0, by rw [upd_ne n.1.2.2.1]; exact h1, by rw [upd_ne n.2.1.2.1]; exact h2, h3.ne n.2.2.1.1, ⟨us, upd_same, r⟩, h5.ne fun z => n.2.2.2.1 z.symm⟩, fun ys => rfl, by simp [Cell.foot]⟩
theorem inC_money {C dx l1 l2 l3 a : Addr} {p : Int} {came rest money : List PyData} : InC (.book C dx l1 l2 l3 p came rest money) a l3 money fun ys => .book C dx l1 l2 l3 p came rest ys :=
  ⟨fun K F H h => h.2.2.2.2.2, fun K F H us ys n h r => by
    obtain ⟨h0, h1, h2, h3, h4, h5⟩ := h
    simp only [Cell.foot, List.nodup_cons, List.mem_cons, List.not_mem_nil, or_false, not_or] at n
    exact ⟨h0, by rw [upd_ne n.1.2.2.2]; exact h1, by rw [upd_ne n.2.1.2.2]; exact h2, h3.ne n.2.2.1.2, h4.ne n.2.2.2.1, ⟨us, upd_same, r⟩⟩, fun ys => rfl, by simp [Cell.foot]⟩
section
variable {K : PySem.W.Frag} {E : XK} {es : List Slot} {μ : Store} {P : PostM} {te tl ti ta : TE} {i j : Nat} {F0 H0 F H : Hp} {σ : L2.St}
theorem AtM.upC {a l : Addr} {c0 : Cell} {xs : List PyData} {g : List PyData → Cell} (A : AtM K F0 H0 F H σ es μ) (hc : μ a = some c0) (c : InC c0 a l xs g) {us : List V} {ys : List PyData} (r : RepAll K F us ys) : AtM K F0 H0 F (upd H l (.lst us)) σ es (mset μ a (g ys)) :=
  A.put hc (c.foot ys) (c.up K F H us ys (A.hold.nodup _ _ hc) (A.hold.at' _ _ hc) r) fun x hx => upd_ne fun z => hx (z ▸ c.mem)
/-- tl[ti] = te, tl a cell's list -/
theorem dm_cput (h : ME K te es μ fun d μ1 => ME K tl es μ1 fun l' μ2 => ME K ti es μ2 fun n' μ3 => ∃ l n a c0 xs g k0, l' = rawD l ∧ n' = .int n ∧ μ3 a = some c0 ∧ InC c0 a l xs g ∧ ixN xs.length n = some k0 ∧ P.nx es (mset μ3 a (g (xs.set k0 d)))) : DM K E (tAsg te (gSub tl ti rSetL)) es μ P := fun F0 H0 F H σ D A M =>
  h F0 H0 F H σ _ A fun F1 H1 v d μ1 x1 A1 r1 h => h F0 H0 F1 H1 σ _ A1 fun F2 H2 w l' μ2 x2 A2 r2 h => h F0 H0 F2 H2 σ _ A2 fun F3 H3 z n' μ3 x3 A3 r3 ⟨l, n, a, c0, xs, g, k0, e1, e2, hc, c, hk, k⟩ => by
    subst e1 e2
    obtain ⟨vs, h1, h2⟩ := c.at' K F3 H3 (A3.hold.at' _ _ hc)
    refine ⟨l, vs, n, k0, r2.raw_eq, r3.int_eq, h1, by rw [h2.length]; exact hk, ?_⟩
    exact M.nx F3 _ σ es _ ((x1.trans x2).trans x3) (A3.upC hc c (h2.set (r1.mono (x2.trans x3)))) k
/-- tl.append(te), tl a cell's list -/
theorem dm_capp (h : ME K tl es μ fun l' μ1 => ∃ l a c0 xs g, l' = rawD l ∧ μ1 a = some c0 ∧ InC c0 a l xs g ∧ ME K te es μ1 fun d μ2 => ∃ a2 c2 xs2 g2, μ2 a2 = some c2 ∧ InC c2 a2 l xs2 g2 ∧ xs2.length < 100000 ∧ P.nx es (mset μ2 a2 (g2 (xs2 ++ [d])))) : DM K E (tDrop (tBM K "list" rAppend tl (tCons te tNil))) es μ P := fun F0 H0 F H σ D A M =>
  h F0 H0 F H σ _ A fun F1 H1 w l' μ1 x1 A1 r1 ⟨l, a, c0, xs, g, e1, hc, c, h⟩ => by
    subst e1
    have ew := r1.raw_eq
    subst ew
    obtain ⟨vs, h1, h2⟩ := c.at' K F1 H1 (A1.hold.at' _ _ hc)
    refine ⟨.inl ⟨rfl, vs, SqL.of h1⟩, h F0 H0 F1 H1 σ _ A1 fun F2 H2 v d μ2 x2 A2 r2 ⟨a2, c2, xs2, g2, hc2, c2', hl, k⟩ => ?_⟩
    obtain ⟨vs2, y1, y2⟩ := c2'.at' K F2 H2 (A2.hold.at' _ _ hc2)
    refine ⟨l, vs2, v, rfl, rfl, y1, Evl.sz_lt (by rw [y2.length]; exact hl), ?_⟩
    exact M.nx F2 _ σ es _ (x1.trans x2) (A2.upC hc2 c2' (y2.append (.cons r2 .nil))) k
theorem putF_price {v : V} {p : Int} {v1 v2 v3 : V} : putF "price" v (bkF p v1 v2 v3) = ([("price", v), ("came", v1), ("rest", v2), ("money", v3)] : List (Str × V)) := by
  show (if ("price" : Str) = "price" then (("price" : Str), v) :: [(("came" : Str), v1), ("rest", v2), ("money", v3)] else _) = ([("price", v), ("came", v1), ("rest", v2), ("money", v3)] : List (Str × V))
  rw [if_pos rfl]
/-- o.price = te -/
theorem dm_price (h : ME K te es μ fun d μ1 => ME K ta es μ1 fun x μ2 => ∃ p' a C dx l1 l2 l3 p came rest money, d = .int p' ∧ x = rawD a ∧ μ2 a = some (.book C dx l1 l2 l3 p came rest money) ∧ P.nx es (mset μ2 a (.book C dx l1 l2 l3 p' came rest money))) : DM K E (sFld K ta te "price") es μ P := fun F0 H0 F H σ D A M =>
  h F0 H0 F H σ _ A fun F1 H1 v d μ1 x1 A1 r1 h => h F0 H0 F1 H1 σ _ A1 fun F2 H2 w x μ2 x2 A2 r2 ⟨p', a, C, dx, l1, l2, l3, p, came, rest, money, e1, e2, hc, k⟩ => by
    subst e1 e2
    have n := A2.hold.nodup _ _ hc
    obtain ⟨bk, h1, h2, h3, h4, h5⟩ := A2.hold.at' _ _ hc
    rw [r1.int_eq]
    refine ⟨a, C, dx, _, r2.raw_eq, h1, bk.cls, bk.nP, by show 4 < 1000; decide, ?_⟩
    rw [putF_price]
    simp only [Cell.foot, List.nodup_cons, List.mem_cons, List.not_mem_nil, or_false, not_or] at n
    refine M.nx F2 _ σ es _ (x1.trans x2) (A2.put (c := .book C dx l1 l2 l3 p' came rest money) hc rfl ⟨bk, upd_same, by rw [upd_ne fun z => n.1.1 z.symm]; exact h2, h3.ne fun z => n.1.2.1 z.symm, h4.ne fun z => n.1.2.2.1 z.symm, h5.ne fun z => n.1.2.2.2 z.symm⟩ fun x hx => upd_ne fun z => hx (z ▸ List.mem_cons_self)) k
/-- a new cell -/
theorem AtM.add {a : Addr} {c : Cell} {H' : Hp} (A : AtM K F0 H0 F H σ es μ) (e : Ex H H') (hf : ∀ x ∈ c.foot a, H x = none) (hm : a ∈ c.foot a) (nd : (c.foot a).Nodup) (hh : c.holds K F H' a) : AtM K F0 H0 F H' σ es (mset μ a c) ∧ μ a = none := by
  have old : ∀ x, inFoot μ x → x ∉ c.foot a := fun x hx hy => by
    obtain ⟨o, ho⟩ := A.hold.some hx
    rw [hf x hy] at ho
    cases ho
  have hn : μ a = none := by
    cases z : μ a with
    | none => rfl
    | some c0 =>
      obtain ⟨o, ho⟩ : ∃ o, H a = some o := by
        have hq := A.hold.at' a c0 z
        cases c0 with
        | lst ys => exact cell_some hq a (List.mem_singleton.mpr rfl)
        | book => exact cell_some hq a List.mem_cons_self
        | dct => exact cell_some hq a (List.mem_singleton.mpr rfl)
      rw [hf a hm] at ho
      cases ho
  have hI : ∀ x, inFoot (mset μ a c) x → inFoot μ x ∨ x ∈ c.foot a := fun x ⟨b, d, h1, h2⟩ => by
    by_cases z : b = a
    · subst z
      rw [mset_at] at h1
      cases h1
      exact .inr h2
    · rw [mset_ne z] at h1
      exact .inl ⟨b, d, h1, h2⟩
  refine ⟨⟨A.at'.grow fun x o q => ?_, ⟨fun b d h => ?_, fun b d h => ?_, fun b1 b2 d1 d2 x h1 h2 m1 m2 => ?_⟩, fun x hx => ?_⟩, hn⟩
  · obtain ⟨h1, h2⟩ := less_some q
    rw [less_out fun y => (hI x y).elim h1 fun y => by rw [hf x y] at h2; cases h2]
    exact e x o h2
  · by_cases z : b = a
    · subst z
      rw [mset_at] at h
      cases h
      exact hh
    · rw [mset_ne z] at h
      refine cell_mono (A.hold.at' b d h) exr fun x hx => ?_
      obtain ⟨o, ho⟩ := cell_some (A.hold.at' b d h) x hx
      rw [ho]
      exact e x o ho
  · by_cases z : b = a
    · subst z
      rw [mset_at] at h
      cases h
      exact nd
    · rw [mset_ne z] at h
      exact A.hold.nodup b d h
  · by_cases z1 : b1 = a
    · by_cases z2 : b2 = a
      · rw [z1, z2]
      · subst z1
        rw [mset_at] at h1
        cases h1
        rw [mset_ne z2] at h2
        exact absurd m1 (old x ⟨b2, d2, h2, m2⟩)
    · by_cases z2 : b2 = a
      · subst z2
        rw [mset_at] at h2
        cases h2
        rw [mset_ne z1] at h1
        exact absurd m2 (old x ⟨b1, d1, h1, m1⟩)
      · rw [mset_ne z1] at h1
        rw [mset_ne z2] at h2
        exact A.hold.sep b1 b2 d1 d2 x h1 h2 m1 m2
  · rcases hI x hx with y | y
    · exact A.out x y
    · refine ⟨?_, Ex.ne A.wide.fh (hf x y)⟩
      cases q : H0 x with
      | none => rfl
      | some o =>
        have := less_ex x o (A.at'.h0 x o q)
        rw [hf x y] at this
        cases this
/-- an own list becomes a cell -/
theorem dm_cell {t : TS} {xs : List PyData} (i : Nat) (hi : es[i]? = some (.own xs)) (h : ∀ a, μ a = none → DM K E t (es.set i (.val (rawD a))) (mset μ a (.lst xs)) P) : DM K E t es μ P := fun F0 H0 F H σ D A M => by
  obtain ⟨a, vs, h1, h2, h3, h4, h5⟩ := A.at'.own i xs hi
  obtain ⟨hn, h4'⟩ := less_some h4
  have hna : μ a = none := by
    cases z : μ a with
    | none => rfl
    | some c0 =>
      refine absurd ⟨a, c0, z, ?_⟩ hn
      cases c0 with
      | lst ys => exact List.mem_singleton.mpr rfl
      | book => exact List.mem_cons_self
      | dct => exact List.mem_singleton.mpr rfl
  have hI : ∀ x, inFoot (mset μ a (.lst xs)) x ↔ inFoot μ x ∨ x = a := fun x => by
    constructor
    · rintro ⟨b, d, g1, g2⟩
      by_cases z : b = a
      · subst z
        rw [mset_at] at g1
        cases g1
        exact .inr (List.mem_singleton.mp g2)
      · rw [mset_ne z] at g1
        exact .inl ⟨b, d, g1, g2⟩
    · rintro (⟨b, d, g1, g2⟩ | rfl)
      · exact ⟨b, d, by rw [mset_ne fun z => by rw [z, hna] at g1; cases g1]; exact g1, g2⟩
      · exact ⟨x, _, mset_at, List.mem_singleton.mpr rfl⟩
  have hl : ∀ x o, less H μ x = some o → x ≠ a → less H (mset μ a (.lst xs)) x = some o := fun x o q z => by
    obtain ⟨g1, g2⟩ := less_some q
    rw [less_out fun y => ((hI x).mp y).elim g1 z]
    exact g2
  have B := A.at'
  have ilt : i < es.length := by
    by_cases q : i < es.length
    · exact q
    · rw [List.getElem?_eq_none (by omega)] at hi; cases hi
  refine h a hna F0 H0 F H σ D ⟨⟨B.f00, B.f0, fun x o q => hl x o (B.h0 x o q) fun z => (by rw [z, h2] at q; cases q), fun x o q => hl x o (B.fh x o q) fun z => (by rw [z, h3] at q; cases q), B.fresh, by rw [List.length_set]; exact B.len, fun j d q => ?_, fun j ys q => ?_, fun j k ys zs b q1 q2 q3 q4 => ?_⟩, ⟨fun b d g => ?_, fun b d g => ?_, fun b1 b2 d1 d2 x g1 g2 m1 m2 => ?_⟩, fun x hx => ?_⟩ M
  · by_cases z : i = j
    · subst z
      cases get_set_at q
      exact ⟨.ref a, h1, .raw a⟩
    · rw [get_set_ne z] at q
      exact B.val j d q
  · by_cases z : i = j
    · subst z
      cases get_set_at q
    · rw [get_set_ne z] at q
      obtain ⟨b, us, g1, g2, g3, g4, g5⟩ := B.own j ys q
      refine ⟨b, us, g1, g2, g3, hl b _ g4 fun y => ?_, g5⟩
      subst y
      exact z (B.sep i j xs ys b hi q h1 g1)
  · by_cases z : i = j
    · subst z
      cases get_set_at q1
    · by_cases z2 : i = k
      · subst z2
        cases get_set_at q2
      · rw [get_set_ne z] at q1
        rw [get_set_ne z2] at q2
        exact B.sep j k ys zs b q1 q2 q3 q4
  · by_cases z : b = a
    · subst z
      rw [mset_at] at g
      cases g
      exact ⟨vs, h4', h5⟩
    · rw [mset_ne z] at g
      exact A.hold.at' b d g
  · by_cases z : b = a
    · subst z
      rw [mset_at] at g
      cases g
      exact List.nodup_cons.mpr ⟨List.not_mem_nil, List.nodup_nil⟩
    · rw [mset_ne z] at g
      exact A.hold.nodup b d g
  · by_cases z1 : b1 = a
    · by_cases z2 : b2 = a
      · rw [z1, z2]
      · subst z1
        rw [mset_at] at g1
        cases g1
        rw [mset_ne z2] at g2
        rw [List.mem_singleton.mp m1] at m2
        exact absurd ⟨b2, d2, g2, m2⟩ hn
    · by_cases z2 : b2 = a
      · subst z2
        rw [mset_at] at g2
        cases g2
        rw [mset_ne z1] at g1
        rw [List.mem_singleton.mp m2] at m1
        exact absurd ⟨b1, d1, g1, m1⟩ hn
      · rw [mset_ne z1] at g1
        rw [mset_ne z2] at g2
        exact A.hold.sep b1 b2 d1 d2 x g1 g2 m1 m2
  · rcases (hI x).mp hx with y | y
    · exact A.out x y
    · rw [y]
      exact ⟨h2, h3⟩
end
/-! ### books -/
theorem Rep.book_eq {K : PySem.W.Frag} {H : Hp} {v : V} {C : Addr} {p : Int} {d1 d2 d3 : PyData} (h : Rep K H v (bookD C p d1 d2 d3)) : ∃ a dx v1 v2 v3, v = .ref a ∧ BkOk K C ∧ H a = some (.ins C dx (bkF p v1 v2 v3)) ∧ Rep K H v1 d1 ∧ Rep K H v2 d2 ∧ Rep K H v3 d3 := by
  generalize e : bookD C p d1 d2 d3 = d at h
  cases h with
  | @book a C' dx p' v1 v2 v3 e1 e2 e3 k h r1 r2 r3 =>
    simp only [bookD, PyData.dict.injEq, List.cons.injEq, Prod.mk.injEq, PyData.list.injEq, PyData.int.injEq, true_and, and_true] at e
    obtain ⟨q1, q2, q3, q4, q5⟩ := e
    have q1 := Int.ofNat_inj.mp q1
    subst q1 q2 q3 q4 q5
    exact ⟨_, _, _, _, _, rfl, k, h, r1, r2, r3⟩
  | scr _ => cases e
  | non => cases e
  | bl b => cases e
  | int i => cases e
  | str x => cases e
  | lst _ _ => cases e
  | tup _ _ => cases e
  | edict _ => cases e
  | raw _ => cases e
section
variable {K : PySem.W.Frag} {ds : List (Option PyData)} {ta : TE} {tx : TA} {C : Addr} {p : Int} {d d1 d2 d3 : PyData} {xs zs : List PyData} {R : List PyData → Out → Prop} {E : XK} {m : Str}
theorem de_fldP (h : DE K ta ds (bookD C p d1 d2 d3)) : DE K (tFld K ta "price") ds (.int p) := fun B σ en H e Q k => h B σ en H e _ fun v H1 e1 r => by
  obtain ⟨a, dx, v1, v2, v3, rfl, bk, h1, r1, r2, r3⟩ := r.book_eq
  exact ⟨a, C, dx, _, .int p, rfl, grow_ex2 e e1 a _ h1, bk.cls, bk.nP, rfl, k _ H1 e1 (.int p)⟩
theorem de_fldC (h : DE K ta ds (bookD C p d1 d2 d3)) : DE K (tFld K ta "came") ds d1 := fun B σ en H e Q k => h B σ en H e _ fun v H1 e1 r => by
  obtain ⟨a, dx, v1, v2, v3, rfl, bk, h1, r1, r2, r3⟩ := r.book_eq
  exact ⟨a, C, dx, _, v1, rfl, grow_ex2 e e1 a _ h1, bk.cls, bk.nC, rfl, k _ H1 e1 r1⟩
theorem de_fldR (h : DE K ta ds (bookD C p d1 d2 d3)) : DE K (tFld K ta "rest") ds d2 := fun B σ en H e Q k => h B σ en H e _ fun v H1 e1 r => by
  obtain ⟨a, dx, v1, v2, v3, rfl, bk, h1, r1, r2, r3⟩ := r.book_eq
  exact ⟨a, C, dx, _, v2, rfl, grow_ex2 e e1 a _ h1, bk.cls, bk.nR, rfl, k _ H1 e1 r2⟩
theorem de_fldM (h : DE K ta ds (bookD C p d1 d2 d3)) : DE K (tFld K ta "money") ds d3 := fun B σ en H e Q k => h B σ en H e _ fun v H1 e1 r => by
  obtain ⟨a, dx, v1, v2, v3, rfl, bk, h1, r1, r2, r3⟩ := r.book_eq
  exact ⟨a, C, dx, _, v3, rfl, grow_ex2 e e1 a _ h1, bk.cls, bk.nM, rfl, k _ H1 e1 r3⟩
/-- a method that only looks -/
theorem de_meth (hm : bkNo m) (h : DE K ta ds (bookD C p d1 d2 d3)) (ha : DA K tx ds xs) (hr : R (bookD C p d1 d2 d3 :: xs) (.ret d)) : DE K (tMeth C m (spD K R) [] E ta tx) ds d := fun B σ en H e Q k => h B σ en H e _ fun v H1 e1 r => by
  obtain ⟨a, dx, v1, v2, v3, rfl, bk, h1, _⟩ := id r.book_eq
  refine ⟨a, dx, _, rfl, grow_ex2 e e1 a _ h1, hm _ _ _ _, ha _ σ (en.mono (grow_ex1 e)) H1 (grow_ex2 e e1) _ fun vs H2 e2 rs => ?_⟩
  refine ⟨Grow (Grow B H H1) H1 H2, _, .ret d, grow_ex2 (grow_ex2 e e1) e2, by rw [List.append_nil]; exact .cons (r.mono (grow_ex1 (grow_ex2 e e1))) rs, hr, fun d' v H' q e3 r3 => ?_, (fun C H' q => by cases q), fun xs p us H' q => by cases q⟩
  cases q
  exact k v H' (e1.trans (e2.trans e3)) (r3.mono (Evl.Ex.trans (grow_mono (grow_trans e1 e2)) (grow_trans (e1.trans e2) e3)))
theorem dn_meth (hm : bkNo m) (h : DE K ta ds (bookD C p d1 d2 d3)) (ha : DA K tx ds xs) (hr : R (bookD C p d1 d2 d3 :: xs) (.new zs)) : DN K (tMeth C m (spD K R) [] E ta tx) ds zs := fun B σ en H e Q k => h B σ en H e _ fun v H1 e1 r => by
  obtain ⟨a, dx, v1, v2, v3, rfl, bk, h1, _⟩ := id r.book_eq
  refine ⟨a, dx, _, rfl, grow_ex2 e e1 a _ h1, hm _ _ _ _, ha _ σ (en.mono (grow_ex1 e)) H1 (grow_ex2 e e1) _ fun vs H2 e2 rs => ?_⟩
  refine ⟨Grow (Grow B H H1) H1 H2, _, .new zs, grow_ex2 (grow_ex2 e e1) e2, by rw [List.append_nil]; exact .cons (r.mono (grow_ex1 (grow_ex2 e e1))) rs, hr, (fun d' v H' q => by cases q), (fun C H' q => by cases q), fun zs' p us H' q e3 hp hl r3 => ?_⟩
  cases q
  exact k p us H' (e1.trans (e2.trans e3)) (Ex.ne (e1.trans e2) hp) hl (r3.mono (Evl.Ex.trans (grow_mono (grow_trans e1 e2)) (grow_trans (e1.trans e2) (ex_del e3 hp))))
theorem dx_meth {C' : Addr} (hm : bkNo m) (h : DE K ta ds (bookD C p d1 d2 d3)) (ha : DA K tx ds xs) (hr : R (bookD C p d1 d2 d3 :: xs) (.exc C')) : DX K (tMeth C m (spD K R) [] E ta tx) ds E C' := fun B σ en H e Q k => h B σ en H e _ fun v H1 e1 r => by
  obtain ⟨a, dx, v1, v2, v3, rfl, bk, h1, _⟩ := id r.book_eq
  refine ⟨a, dx, _, rfl, grow_ex2 e e1 a _ h1, hm _ _ _ _, ha _ σ (en.mono (grow_ex1 e)) H1 (grow_ex2 e e1) _ fun vs H2 e2 rs => ?_⟩
  refine ⟨Grow (Grow B H H1) H1 H2, _, .exc C', grow_ex2 (grow_ex2 e e1) e2, by rw [List.append_nil]; exact .cons (r.mono (grow_ex1 (grow_ex2 e e1))) rs, hr, (fun d' v H' q => by cases q), (fun C2 H' q e3 => ?_), fun xs p us H' q => by cases q⟩
  cases q
  exact k H' (e1.trans (e2.trans e3))
theorem dx_op2 {r : R2} {tb : TE} {x : PyData} {C' : Addr} (ha : DE K ta ds x) (hb : DX K tb ds E C') : DX K (tOp r ta tb) ds E C' := fun B σ en H e Q k =>
  ha B σ en H e _ fun v H1 e1 _ => hb B σ en H1 (e.trans e1) _ fun H' e2 => k H' (e1.trans e2)
end
/-- what __init__ promises -/
def spI (K : PySem.W.Frag) (C : Addr) (R : List PyData → Out → Prop) : Sp := fun vs H Q E => ∃ B x dx v d o, vs = [.ref x, v] ∧ Ex B H ∧ B x = none ∧ Rep K B v d ∧ BkOk K C ∧ H x = some (.ins C dx []) ∧ R [d] o ∧
  (∀ p H' l1 l2 l3, o = .ret (.int p) → Ex (del H x) H' → H l1 = none → H l2 = none → H l3 = none → l1 ≠ l2 → l1 ≠ l3 → l2 ≠ l3 → H' x = some (.ins C dx (bkF p (.ref l1) (.ref l2) (.ref l3))) → H' l1 = some (.lst []) → H' l2 = some (.lst []) → H' l3 = some (.lst []) → Q .non H') ∧
  (∀ C' H', o = .exc C' → Ex (del H x) H' → E (.ref C') none H')
theorem spI_len {K : PySem.W.Frag} {C : Addr} {R : List PyData → Out → Prop} : ∀ vs H Q E, spI K C R vs H Q E → vs.length = 2 := fun vs H Q E ⟨B, x, dx, v, d, o, e, _⟩ => by
  rw [e]
  rfl
abbrev t_initV (K : PySem.W.Frag) (sp : Sp) (E : XK) : TS := tSeq (sFld K (tVar 0) (tCall sp [] E (tCons (tVar 1) tNil)) "price") (tSeq (sFld K (tVar 0) (tLst tNil) "came") (tSeq (sFld K (tVar 0) (tLst tNil) "rest") (sFld K (tVar 0) (tLst tNil) "money")))
theorem ne_pc : ¬ (("price" : Str) = "came") := by decide +kernel
theorem ne_pr : ¬ (("price" : Str) = "rest") := by decide +kernel
theorem ne_pm : ¬ (("price" : Str) = "money") := by decide +kernel
theorem ne_cr : ¬ (("came" : Str) = "rest") := by decide +kernel
theorem ne_cm : ¬ (("came" : Str) = "money") := by decide +kernel
theorem ne_rm : ¬ (("rest" : Str) = "money") := by decide +kernel
theorem put1 {p : V} : putF "price" p [] = ([("price", p)] : List (Str × V)) := rfl
theorem put2 {p v : V} : putF "came" v ([("price", p)] : List (Str × V)) = ([("price", p), ("came", v)] : List (Str × V)) := by
  show (if ("price" : Str) = "came" then [(("came" : Str), v)] else (("price" : Str), p) :: [(("came" : Str), v)]) = ([("price", p), ("came", v)] : List (Str × V))
  rw [if_neg ne_pc]
theorem put3 {p v1 v : V} : putF "rest" v ([("price", p), ("came", v1)] : List (Str × V)) = ([("price", p), ("came", v1), ("rest", v)] : List (Str × V)) := by
  show (if ("price" : Str) = "rest" then _ else (("price" : Str), p) :: (if ("came" : Str) = "rest" then _ else (("came" : Str), v1) :: [(("rest" : Str), v)])) = ([("price", p), ("came", v1), ("rest", v)] : List (Str × V))
  rw [if_neg ne_pr, if_neg ne_cr]
theorem put4 {p v1 v2 v : V} : putF "money" v ([("price", p), ("came", v1), ("rest", v2)] : List (Str × V)) = ([("price", p), ("came", v1), ("rest", v2), ("money", v)] : List (Str × V)) := by
  show (if ("price" : Str) = "money" then _ else (("price" : Str), p) :: (if ("came" : Str) = "money" then _ else (("came" : Str), v1) :: (if ("rest" : Str) = "money" then _ else (("rest" : Str), v2) :: [(("money" : Str), v)]))) = ([("price", p), ("came", v1), ("rest", v2), ("money", v)] : List (Str × V))
  rw [if_neg ne_pm, if_neg ne_cm, if_neg ne_rm]
theorem run_init {K : PySem.W.Frag} {C : Addr} {R : List PyData → Out → Prop} {vs : List V} {H : Hp} {Q : VK} {E : XK} (hR : ∀ d o, R [d] o → (∃ p, o = .ret (.int p)) ∨ ∃ C, o = .exc C) (h : spI K C R vs H Q E) : t_initV K (spD K R) E { nx := fun _ H' => Q .non H', rt := Q } (L2.start ["self", "old"] vs) H := by
  obtain ⟨B, x, dx, v, d, o, rfl, eB, bx, r, bk, hx, ho, k1, k2⟩ := h
  refine ⟨v, rfl, B, [d], o, eB, .cons r .nil, ho, fun d' v' H1 q e1 r1 => ?_, fun C' H1 q e1 => ?_, fun xs p us H1 q => ?_⟩
  · obtain ⟨p, rfl⟩ | ⟨C', rfl⟩ := hR _ _ ho
    · cases q
      rw [r1.int_eq]
      refine ⟨.ref x, rfl, x, C, dx, [], rfl, e1 x _ hx, bk.cls, bk.nP, by decide, ?_⟩
      rw [put1]
      refine ⟨Nat.zero_le _, fun l1 n1 => ⟨.ref x, rfl, x, C, dx, ([("price", V.int p)] : List (Str × V)), rfl, ?_, bk.cls, bk.nC, by show 1 < 1000; decide, ?_⟩⟩
      · rw [upd_ne fun z => by rw [← z, upd_same] at n1; cases n1]
        exact upd_same
      rw [put2]
      have x1 : l1 ≠ x := fun z => by rw [z, upd_same] at n1; cases n1
      refine ⟨Nat.zero_le _, fun l2 n2 => ⟨.ref x, rfl, x, C, dx, ([("price", V.int p), ("came", .ref l1)] : List (Str × V)), rfl, ?_, bk.cls, bk.nR, by show 2 < 1000; decide, ?_⟩⟩
      · rw [upd_ne fun z => by rw [← z, upd_same] at n2; cases n2]
        exact upd_same
      rw [put3]
      have x2 : l2 ≠ x := fun z => by rw [z, upd_same] at n2; cases n2
      have y12 : l2 ≠ l1 := fun z => by rw [z, upd_ne x1, upd_same] at n2; cases n2
      refine ⟨Nat.zero_le _, fun l3 n3 => ⟨.ref x, rfl, x, C, dx, ([("price", V.int p), ("came", .ref l1), ("rest", .ref l2)] : List (Str × V)), rfl, ?_, bk.cls, bk.nM, by show 3 < 1000; decide, ?_⟩⟩
      · rw [upd_ne fun z => by rw [← z, upd_same] at n3; cases n3]
        exact upd_same
      rw [put4]
      have x3 : l3 ≠ x := fun z => by rw [z, upd_same] at n3; cases n3
      have y23 : l3 ≠ l2 := fun z => by rw [z, upd_ne x2, upd_same] at n3; cases n3
      have y13 : l3 ≠ l1 := fun z => by rw [z, upd_ne x1, upd_ne y12.symm, upd_ne x1, upd_same] at n3; cases n3
      rw [upd_ne x1] at n1
      rw [upd_ne x2, upd_ne y12, upd_ne x2] at n2
      rw [upd_ne x3, upd_ne y23, upd_ne x3, upd_ne y13, upd_ne x3] at n3
      refine k1 p _ l1 l2 l3 rfl (fun b o q => ?_) (Ex.ne e1 n1) (Ex.ne e1 n2) (Ex.ne e1 n3) y12.symm y13.symm y23.symm upd_same ?_ ?_ ?_
      · have bx' : b ≠ x := fun z => by rw [z, del_same] at q; cases q
        rw [del_ne bx'] at q
        have q1 := e1 b o q
        have b1 : b ≠ l1 := fun z => by rw [z, n1] at q1; cases q1
        have b2 : b ≠ l2 := fun z => by rw [z, n2] at q1; cases q1
        have b3 : b ≠ l3 := fun z => by rw [z, n3] at q1; cases q1
        rw [upd_ne bx', upd_ne b3, upd_ne bx', upd_ne b2, upd_ne bx', upd_ne b1, upd_ne bx']
        exact q1
      · rw [upd_ne x1, upd_ne y13.symm, upd_ne x1, upd_ne y12.symm, upd_ne x1, upd_same]
      · rw [upd_ne x2, upd_ne y23.symm, upd_ne x2, upd_same]
      · rw [upd_ne x3, upd_same]
    · cases q
  · refine k2 C' H1 q (Evl.Ex.trans del_ex e1)
  · obtain ⟨p, rfl⟩ | ⟨C', rfl⟩ := hR _ _ ho <;> cases q
section
variable {K : PySem.W.Frag} {E : XK} {es : List Slot} {μ : Store} {tx : TA} {C : Addr} {R : List PyData → Out → Prop} {W : PyData → Store → Prop}
/-- a new book -/
theorem me_make (bk : BkOk K C) (h : MA K tx es μ fun xs μ1 => ∃ p d, xs = [d] ∧ R [d] (.ret (.int p)) ∧ ∀ a dx l1 l2 l3, μ1 a = none → W (rawD a) (mset μ1 a (.book C dx l1 l2 l3 p [] [] []))) : ME K (tMake C (spI K C R) [] E tx) es μ W := fun F0 H0 F H σ Q A q =>
  h F0 H0 F H σ _ A fun F1 H1 vs ds μ1 x1 A1 rs ⟨p, d, e, hR, k⟩ => by
    subst e
    cases rs with
    | @cons v _ _ _ r rs =>
      cases rs
      intro x dx hx hdx ne
      have en : Ex H1 (upd (upd H1 dx (.own x)) x (.ins C dx [])) := fun b o z => by
        rw [upd_ne (ne_of_none z hx), upd_ne (ne_of_none z hdx)]
        exact z
      refine ⟨F1, x, dx, v, d, .ret (.int p), rfl, Evl.Ex.trans A1.wide.fh en, Ex.ne A1.wide.fh hx, r, bk, upd_same, hR, fun p' H' l1 l2 l3 z eH n1 n2 n3 y12 y13 y23 hb h1 h2 h3 => ⟨rfl, ?_⟩, fun C' H' z => by cases z⟩
      cases z
      have x1' : l1 ≠ x := fun z => by rw [z, upd_same] at n1; cases n1
      have x2' : l2 ≠ x := fun z => by rw [z, upd_same] at n2; cases n2
      have x3' : l3 ≠ x := fun z => by rw [z, upd_same] at n3; cases n3
      have d1' : l1 ≠ dx := fun z => by rw [upd_ne x1', z, upd_same] at n1; cases n1
      have d2' : l2 ≠ dx := fun z => by rw [upd_ne x2', z, upd_same] at n2; cases n2
      have d3' : l3 ≠ dx := fun z => by rw [upd_ne x3', z, upd_same] at n3; cases n3
      rw [upd_ne x1', upd_ne d1'] at n1
      rw [upd_ne x2', upd_ne d2'] at n2
      rw [upd_ne x3', upd_ne d3'] at n3
      have e1 : Ex H1 H' := fun b o z => eH b o (by rw [del_ne (ne_of_none z hx)]; exact en b o z)
      have hdx' : H' dx = some (.own x) := eH dx _ (by rw [del_ne ne, upd_ne ne, upd_same])
      have A2 := A1.add (a := x) (c := .book C dx l1 l2 l3 p [] [] []) e1 (fun y hy => by
        simp only [Cell.foot, List.mem_cons, List.not_mem_nil, or_false] at hy
        rcases hy with rfl | rfl | rfl | rfl | rfl <;> assumption) List.mem_cons_self (by
        simp only [Cell.foot, List.nodup_cons, List.mem_cons, List.not_mem_nil, or_false, not_or, List.nodup_nil, and_true, not_false_eq_true]
        exact ⟨⟨ne.symm, x1'.symm, x2'.symm, x3'.symm⟩, ⟨d1'.symm, d2'.symm, d3'.symm⟩, ⟨y12, y13⟩, y23⟩) ⟨bk, hb, hdx', ⟨[], h1, .nil⟩, ⟨[], h2, .nil⟩, ⟨[], h3, .nil⟩⟩
      exact q F1 H' _ (rawD x) _ x1 A2.1 (.raw x) (k x dx l1 l2 l3 A2.2)
end

section
variable {K : PySem.W.Frag} {E : XK} {es : List Slot} {μ : Store} {P : PostM} {te tl ti ta : TE} {tc : TT} {t u : TS} {i j : Nat} {ds : List (Option PyData)} {d : PyData} {C : Addr}
theorem dm_cappX (h : ME K tl es μ fun l' μ1 => ∃ l a c0 xs g, l' = rawD l ∧ μ1 a = some c0 ∧ InC c0 a l xs g ∧ ∃ C, DX K te (see es) E C ∧ P.ex C μ1) : DM K E (tDrop (tBM K "list" rAppend tl (tCons te tNil))) es μ P := fun F0 H0 F H σ D A M =>
  h F0 H0 F H σ _ A fun F1 H1 w l' μ1 x1 A1 r1 ⟨l, a, c0, xs, g, e1, hc, c, C, hX, k⟩ => by
    subst e1
    have ew := r1.raw_eq
    subst ew
    obtain ⟨vs, h1, h2⟩ := c.at' K F1 H1 (A1.hold.at' _ _ hc)
    exact ⟨.inl ⟨rfl, vs, SqL.of h1⟩, hX _ σ (A1.view Vw.see) H1 A1.bvx _ fun H' e => M.ex C H' μ1 (A1.grow e).end' k⟩
/-- what raises, seen -/
theorem dm_setX {g : TG} (V : Vw μ es ds) (h : DX K te ds E C) (k : P.ex C μ) : DM K E (tAsg te g) es μ P := fun F0 H0 F H σ D A M =>
  h _ σ (A.view V) H A.bvx _ fun H' e => M.ex C H' μ (A.grow e).end' k
theorem dm_exprX (V : Vw μ es ds) (h : DX K te ds E C) (k : P.ex C μ) : DM K E (tDrop te) es μ P := fun F0 H0 F H σ D A M =>
  h _ σ (A.view V) H A.bvx _ fun H' e => M.ex C H' μ (A.grow e).end' k
theorem noLDs_map {α : Type} {f : α → PyData} : ∀ {xs : List α}, (∀ x ∈ xs, noLD (f x) = true) → noLDs (xs.map f) = true
  | [], _ => by simp [noLDs]
  | x :: xs, h => by
    rw [List.map_cons, noLDs, h x List.mem_cons_self, noLDs_map fun y hy => h y (List.mem_cons_of_mem _ hy)]
    rfl
theorem law_startM {K : PySem.W.Frag} {H : Hp} {a : Addr} {ns : List Int} {R : List PyData → Store → (Out → Store → Prop) → Prop} (hS : SqL K H a (ns.map V.int)) (h : R [scrD ns] (fun _ => none) (fun o _ => o = .ret (.bool true))) : spM K R [.ref a] H (fun v _ => v = .bl true) fun _ _ _ => False := by
  have hn : ∀ x, ¬ inFoot (fun _ => none) x := fun x ⟨b, c, q, _⟩ => by cases q
  have hl : less H (fun _ => none) = H := by
    funext x
    exact less_out (hn x)
  refine ⟨H, fun _ => none, _, _, by rw [hl]; exact exr, .cons (.scr hS) .nil, ⟨(fun b d q => by cases q), (fun b d q => by cases q), (fun b1 b2 d1 d2 x q => by cases q)⟩, h, fun d v H' μ' en r q => ?_, (fun C H' μ' en q => by cases q), fun p xs H' μ' en q => by cases q⟩
  cases q
  exact r.bool_eq
/-- a new list that is a cell -/
theorem me_cellL {tx : TA} {W : PyData → Store → Prop} (h : MA K tx es μ fun ds μ1 => ds.length ≤ 100000 ∧ ∀ a, μ1 a = none → W (rawD a) (mset μ1 a (.lst ds))) : ME K (tLst tx) es μ W := fun F0 H0 F H σ Q A q =>
  h F0 H0 F H σ _ A fun F1 H1 vs ds μ1 x1 A1 r1 ⟨hl, k⟩ => ⟨len_ok (by rw [r1.length]; exact hl), fun p hp => by
    have A2 := A1.add (a := p) (c := .lst ds) (H' := upd H1 p (.lst vs)) (upd_ex hp) (fun x hx => by rw [List.mem_singleton.mp hx]; exact hp) (List.mem_singleton.mpr rfl) (List.nodup_cons.mpr ⟨List.not_mem_nil, List.nodup_nil⟩) ⟨vs, upd_same, r1⟩
    exact q F1 _ _ (rawD p) _ x1 A2.1 (.raw p) (k p A2.2)⟩
theorem ma_de {tx : TA} {xs : List PyData} {WL : List PyData → Store → Prop} (h : DA K tx (frz es) xs) (k : WL xs μ) : MA K tx es μ WL := fun F0 H0 F H σ Q A q =>
  h _ σ A.at'.envF H A.wide.fh _ fun vs H' e r => q _ H' vs xs μ (grow_ex1 A.wide.fh) (A.keep e) r k
/-! ### over an own list that stays -/
theorem grow_pin {F0 H0 G : Hp} {a : Addr} {o : HO} (f : Ex F0 H0) (h : H0 a = none) : Ex (Grow F0 (upd H0 a o) G) (Grow F0 H0 G) := fun x u q => by
  by_cases z : x = a
  · subst z
    rw [grow_old (by rw [upd_same]; exact fun z => by cases z)] at q
    rw [f x u q] at h
    cases h
  · cases y : H0 x with
    | none =>
      rw [grow_new (by rw [upd_ne z]; exact y)] at q
      rw [grow_new y]
      exact q
    | some w =>
      rw [grow_old (by rw [upd_ne z, y]; exact fun z => by cases z)] at q
      rw [grow_old (ne_some y)]
      exact q
theorem AtM.pin {F0 H0 F H : Hp} {σ : L2.St} {xs : List PyData} (A : AtM K F0 H0 F H σ es μ) (hi : es[i]? = some (.own xs)) : ∃ a vs, H0 a = none ∧ F a = none ∧ σ[i]? = some (some (.ref a)) ∧ H a = some (.lst vs) ∧ RepAll K F vs xs ∧ AtM K F0 (upd H0 a (.lst vs)) F H σ (es.set i (.val (rawD a))) μ := by
  obtain ⟨a, vs, h1, h2, h3, h4, h5⟩ := A.at'.own i xs hi
  obtain ⟨hn, h4'⟩ := less_some h4
  have B := A.at'
  refine ⟨a, vs, h2, h3, h1, h4', h5, ⟨fun x o q => ?_, B.f0, fun x o q => ?_, B.fh, fun x o q => ?_, by rw [List.length_set]; exact B.len, fun j d q => ?_, fun j ys q => ?_, fun j k ys zs b q1 q2 q3 q4 => ?_⟩, A.hold, fun x hx => ⟨?_, (A.out x hx).2⟩⟩
  · rw [upd_ne fun z => by rw [z] at q; rw [B.f00 a o q] at h2; cases h2]
    exact B.f00 x o q
  · by_cases z : x = a
    · subst z
      rw [upd_same] at q
      cases q
      exact h4
    · rw [upd_ne z] at q
      exact B.h0 x o q
  · rcases B.fresh x o q with z | z
    · exact .inl z
    · by_cases y : x = a
      · subst y
        rw [h3] at q
        cases q
      · rw [upd_ne y]
        exact .inr z
  · by_cases z : i = j
    · subst z
      cases get_set_at q
      exact ⟨.ref a, h1, .raw a⟩
    · rw [get_set_ne z] at q
      exact B.val j d q
  · by_cases z : i = j
    · subst z
      cases get_set_at q
    · rw [get_set_ne z] at q
      obtain ⟨b, us, g1, g2, g3, g4, g5⟩ := B.own j ys q
      refine ⟨b, us, g1, ?_, g3, g4, g5⟩
      rw [upd_ne fun y => ?_]
      · exact g2
      · subst y
        exact z (B.sep i j xs ys b hi q h1 g1)
  · by_cases z : i = j
    · subst z
      cases get_set_at q1
    · by_cases z2 : i = k
      · subst z2
        cases get_set_at q2
      · rw [get_set_ne z] at q1
        rw [get_set_ne z2] at q2
        exact B.sep j k ys zs b q1 q2 q3 q4
  · by_cases z : x = a
    · subst z
      exact absurd hx hn
    · rw [upd_ne z]
      exact (A.out x hx).1
theorem AtM.unpin {F0 H0 F H : Hp} {σ : L2.St} {xs : List PyData} {a : Addr} {vs : List V} (A : AtM K F0 (upd H0 a (.lst vs)) F H σ es μ) (f00 : Ex F0 H0) (h0 : H0 a = none) (hi : es[i]? = some (.val (rawD a))) (r : RepAll K F vs xs) : AtM K F0 H0 F H σ (es.set i (.own xs)) μ := by
  have B := A.at'
  have sub : Ex H0 (upd H0 a (.lst vs)) := fun x o q => by
    rw [upd_ne fun z => by rw [z, h0] at q; cases q]
    exact q
  have hF : F a = none := by
    cases q : F a with
    | none => rfl
    | some o =>
      rcases B.fresh a o q with z | z
      · rw [f00 a o z] at h0
        cases h0
      · rw [upd_same] at z
        cases z
  have ha := B.h0 a _ upd_same
  have hne : ∀ x, upd H0 a (.lst vs) x = none → H0 x = none := fun x q => Ex.ne sub q
  obtain ⟨v, hv, rv⟩ := B.val i _ hi
  have hs : σ[i]? = some (some (.ref a)) := by rw [← rv.raw_eq]; exact hv
  refine ⟨⟨f00, B.f0, Evl.Ex.trans sub B.h0, B.fh, fun x o q => (B.fresh x o q).imp id (hne x), by rw [List.length_set]; exact B.len, fun j d q => ?_, fun j ys q => ?_, fun j k ys zs b q1 q2 q3 q4 => ?_⟩, A.hold, fun x hx => ⟨hne x (A.out x hx).1, (A.out x hx).2⟩⟩
  · by_cases z : i = j
    · subst z
      cases get_set_at q
    · rw [get_set_ne z] at q
      exact B.val j d q
  · by_cases z : i = j
    · subst z
      cases get_set_at q
      exact ⟨a, vs, hs, h0, hF, ha, r⟩
    · rw [get_set_ne z] at q
      obtain ⟨b, us, g1, g2, g3, g4, g5⟩ := B.own j ys q
      exact ⟨b, us, g1, hne b g2, g3, g4, g5⟩
  · have na : ∀ (j : Nat) ys b, i ≠ j → (es.set i (.own xs))[j]? = some (.own ys) → σ[j]? = some (some (.ref b)) → b ≠ a := fun j ys b z q q' e => by
      rw [get_set_ne z] at q
      obtain ⟨b', us, g1, g2, _⟩ := B.own j ys q
      rw [q'] at g1
      have g1' := Option.some.inj (Option.some.inj g1)
      injection g1' with g1'
      rw [← g1', e, upd_same] at g2
      cases g2
    by_cases z : i = j
    · by_cases z2 : i = k
      · omega
      · subst z
        rw [hs] at q3
        have q3' := Option.some.inj (Option.some.inj q3)
        injection q3' with q3'
        exact absurd q3'.symm (na k zs b z2 q2 q4)
    · by_cases z2 : i = k
      · subst z2
        rw [hs] at q4
        have q4' := Option.some.inj (Option.some.inj q4)
        injection q4' with q4'
        exact absurd q4'.symm (na j ys b z q1 q3)
      · rw [get_set_ne z] at q1
        rw [get_set_ne z2] at q2
        exact B.sep j k ys zs b q1 q2 q3 q4
theorem dm_forO {xs : List PyData} {tb : TS} (hi : es[i]? = some (.own xs)) (h : ∀ a, ∃ W : Nat → List Slot → Store → Prop, W 0 (es.set i (.val (rawD a))) μ ∧ (∀ k es' μ', W k es' μ' → es'[i]? = some (.val (rawD a))) ∧
      (∀ k x es' μ', xs[k]? = some x → W k es' μ' → DM K E tb (es'.set j (.val x)) μ' { nx := W (k + 1), ct := W (k + 1), bk := fun es2 μ2 => es2[i]? = some (.val (rawD a)) ∧ P.nx (es2.set i (.own xs)) μ2, rt := P.rt, ex := P.ex, rn := P.rn }) ∧ (∀ es' μ', W xs.length es' μ' → P.nx (es'.set i (.own xs)) μ')) :
    DM K E (tFor (iList K (tVar i)) (gName j) tb) es μ P := fun F0 H0 F H σ D A M => by
  obtain ⟨a, vs, p1, p2, p3, p4, p5, A1⟩ := A.pin hi
  obtain ⟨W, w0, wi, ws, wd⟩ := h a
  have f00 := A.at'.f00
  have sub : Ex H0 (upd H0 a (.lst vs)) := fun x o q => by
    rw [upd_ne fun z => by rw [z, p1] at q; cases q]
    exact q
  refine ⟨.ref a, p3, a, rfl, ⟨vs, SqL.of p4⟩, ?_⟩
  have here : ∀ {F' H' σ' es' μ'}, AtM K F0 (upd H0 a (.lst vs)) F' H' σ' es' μ' → H' a = some (.lst vs) := fun A' => less_ex a _ (A'.at'.h0 a _ upd_same)
  refine for_list (K := K) (a := a) (xs := vs) (fun k σ' H' => ∃ F' es' μ', Ex F F' ∧ AtM K F0 (upd H0 a (.lst vs)) F' H' σ' es' μ' ∧ W k es' μ') ⟨_, _, μ, exr, A1, w0⟩ (fun k σ' H' _ ⟨F', es', μ', e', A', _⟩ => SqL.of (here A')) ?_ ?_
  · rintro k x σ' H' hk ⟨F', es', μ', e', A', w⟩
    obtain ⟨d, hd', rd⟩ := p5.get' hk
    refine ws k d es' μ' hd' w F0 (upd H0 a (.lst vs)) F' H' _ _ (A'.set (rd.mono e')) ⟨fun F2 H2 σ2 es2 μ2 x A2 q => ⟨F2, es2, μ2, e'.trans x, A2, q⟩, fun F2 H2 σ2 es2 μ2 x A2 q => M.nx F2 H2 σ2 _ μ2 (e'.trans x) (A2.unpin f00 p1 q.1 (p5.mono (e'.trans x))) q.2, fun F2 H2 σ2 es2 μ2 x A2 q => ⟨F2, es2, μ2, e'.trans x, A2, q⟩, fun v H2 d2 μ2 en r q => ?_, fun C H2 μ2 en q => ?_, fun p zs H2 μ2 en q => ?_⟩
    · exact M.rt v H2 d2 μ2 ⟨Evl.Ex.trans sub en.h0, ⟨fun b c hc => cell_mono (en.hold.at' b c hc) (grow_pin f00 p1) fun _ _ => rfl, en.hold.nodup, en.hold.sep⟩, fun x hx => Ex.ne sub (en.out x hx)⟩ (r.mono (grow_pin f00 p1)) q
    · exact M.ex C H2 μ2 ⟨Evl.Ex.trans sub en.h0, ⟨fun b c hc => cell_mono (en.hold.at' b c hc) (grow_pin f00 p1) fun _ _ => rfl, en.hold.nodup, en.hold.sep⟩, fun x hx => Ex.ne sub (en.out x hx)⟩ q
    · obtain ⟨us, g1, g2⟩ := en.here
      exact M.rn p zs H2 μ2 ⟨Evl.Ex.trans sub en.h0, Ex.ne sub en.new, ⟨us, g1, g2.mono (grow_pin f00 p1)⟩, ⟨fun b c hc => cell_mono (en.hold.at' b c hc) (grow_pin f00 p1) fun _ _ => rfl, en.hold.nodup, en.hold.sep⟩, fun x hx => Ex.ne sub (en.out x hx)⟩ q
  · rintro σ' H' ⟨F', es', μ', e', A', w⟩
    rw [p5.length] at w
    exact M.nx F' H' σ' _ μ' e' (A'.unpin f00 p1 (wi _ _ _ w) (p5.mono e')) (wd es' μ' w)
theorem dc_all {bs : List Bool} : DC K (rAll K) [.list (bs.map PyData.bool)] (.bool (bs.all id)) := fun B H vs e r Q k => by
  cases r with
  | cons a r =>
    cases r
    obtain ⟨p, ys, rfl, ha, rs⟩ := a.list_eq
    have q : ∀ {ys : List V} {bs : List Bool}, RepAll K B ys (bs.map PyData.bool) → ys = bs.map V.bl := by
      intro ys bs
      induction bs generalizing ys with
      | nil => intro h; cases h; rfl
      | cons b bs ih =>
        intro h
        cases h with
        | cons x h => rw [x.bool_eq, ih h]; rfl
    rw [q rs] at ha
    exact ⟨p, bs, rfl, SqL.of (e p _ ha), k _ H exr (.bl _)⟩
/-! ### an own list changes, told by what is seen -/
theorem AtM.change {F0 H0 F H : Hp} {σ : L2.St} {xs ys : List PyData} {a : Addr} {us : List V} (A : AtM K F0 H0 F H σ es μ) (hi : es[i]? = some (.own xs)) (hs : σ[i]? = some (some (.ref a))) (r : RepAll K F us ys) : AtM K F0 H0 F (upd H a (.lst us)) σ (es.set i (.own ys)) μ := by
  obtain ⟨b, vs, h1, h2, h3, h4, h5⟩ := A.at'.own i xs hi
  rw [hs] at h1
  have h1' := Option.some.inj (Option.some.inj h1)
  injection h1' with h1'
  subst h1'
  obtain ⟨hn, h4'⟩ := less_some h4
  have el : less (upd H a (.lst us)) μ = upd (less H μ) a (.lst us) := by
    funext x
    by_cases z : x = a
    · subst z
      rw [less_out hn, upd_same, upd_same]
    · by_cases q : inFoot μ x
      · rw [less_in q, upd_ne z, less_in q]
      · rw [less_out q, upd_ne z, upd_ne z, less_out q]
  refine ⟨by rw [el]; exact A.at'.change hi hs r, ⟨fun b c hc => cell_mono (A.hold.at' b c hc) exr fun x hx => upd_ne fun z => hn (z ▸ ⟨b, c, hc, hx⟩), A.hold.nodup, A.hold.sep⟩, A.out⟩
theorem own_same {F0 H0 F H F' H' : Hp} {σ : L2.St} {xs : List PyData} {a : Addr} {μ' : Store} (A : AtM K F0 H0 F' H' σ es μ') (hi : es[i]? = some (.own xs)) (hs : σ[i]? = some (some (.ref a))) : ∃ vs, H' a = some (.lst vs) ∧ RepAll K F' vs xs := by
  obtain ⟨b, vs, h1, h2, h3, h4, h5⟩ := A.at'.own i xs hi
  rw [hs] at h1
  have h1' := Option.some.inj (Option.some.inj h1)
  injection h1' with h1'
  subst h1'
  exact ⟨vs, (less_some h4).2, h5⟩
theorem dm_appO {xs : List PyData} (hi : es[i]? = some (.own xs)) (hl : xs.length < 100000) (h : ME K te es μ fun d μ' => P.nx (es.set i (.own (xs ++ [d]))) μ') : DM K E (tDrop (tBM K "list" rAppend (tVar i) (tCons te tNil))) es μ P := fun F0 H0 F H σ D A M => by
  obtain ⟨a, vs, h1, h2, h3, h4, h5⟩ := A.at'.own i xs hi
  refine ⟨.ref a, h1, .inl ⟨rfl, vs, SqL.of (less_some h4).2⟩, h F0 H0 F H σ _ A fun F1 H1 v d μ1 x1 A1 r1 k => ?_⟩
  obtain ⟨us, g1, g2⟩ := own_same (F0 := F0) (H0 := H0) (F := F) (H := H) A1 hi h1
  exact ⟨a, us, v, rfl, rfl, g1, Evl.sz_lt (by rw [g2.length]; exact hl), M.nx F1 _ σ _ μ1 x1 (A1.change hi h1 (g2.append (.cons r1 .nil))) k⟩
theorem dm_putO {xs : List PyData} (hi : es[i]? = some (.own xs)) (h : ME K te es μ fun d μ1 => ME K ti es μ1 fun n' μ2 => ∃ n k0, n' = .int n ∧ ixN xs.length n = some k0 ∧ P.nx (es.set i (.own (xs.set k0 d))) μ2) : DM K E (tAsg te (gSub (tVar i) ti rSetL)) es μ P := fun F0 H0 F H σ D A M => by
  obtain ⟨a, vs, h1, h2, h3, h4, h5⟩ := A.at'.own i xs hi
  refine h F0 H0 F H σ _ A fun F1 H1 v d μ1 x1 A1 r1 h => ⟨.ref a, h1, h F0 H0 F1 H1 σ _ A1 fun F2 H2 w n' μ2 x2 A2 r2 ⟨n, k0, e, hk, k⟩ => ?_⟩
  subst e
  obtain ⟨us, g1, g2⟩ := own_same (F0 := F0) (H0 := H0) (F := F) (H := H) A2 hi h1
  exact ⟨a, us, n, k0, rfl, r2.int_eq, g1, by rw [g2.length]; exact hk, M.nx F2 _ σ _ μ2 (x1.trans x2) (A2.change hi h1 (g2.set (r1.mono x2))) k⟩
/-! two of a kind -/
theorem dm_q {te : TE} (h : DM K E (tAsg te (gName i)) es μ { P with nx := fun es' μ' => DM K E u es' μ' P }) : DM K E (tSeq (tAsg te (gName i)) u) es μ P := dm_seq h
end

/-! ### defs called while an error is held; methods within a try -/
section
open PySem PySem.Spec PyProof.Rows L2
open L2H (RoomH Hot1 PinOk HotC cxH inv_startH FnH fn_ofH tMethH pe_callH pe_methH ps_raiseH run_fnH)
variable {P : Program} {w : World} {K : PySem.W.Frag} {mg : Str → Option Value} {base : Heap} {CX : CXT}
theorem Fun.okH {x qual : Str} {st : Stmt} {f : Addr} {fd : FuncData} {N ps : List Str} {k : Nat} {sp : Sp} (F : Fun K x qual st f fd) (S : FnScope N ps (defScope st)) (len : ∀ vs H Q E, sp vs H Q E → vs.length = ps.length)
    (hbody : ∀ (cdv : Value) (A : Around) (outer : List Env) (s : Shared) (H : Hp) (vs : List V) (Q : VK) (E : XK) (p : Addr × Obj), Hot1 A p → RoomH k (A.deeper (envOfC qual (defScope st) s.heap.objs.size f cdv)) → sp vs H Q E →
      ∃ t, PSs (cxH CX P w K mg base N qual (defScope st) f cdv A outer s H E p) (defBody st) t ∧ t { nx := fun _ H' => Q .non H', rt := Q } (L2.start N vs) H) : FnH P w K mg base CX (k + 1) f fd ps sp := by
  obtain ⟨oc, od, kV, doc, pm, an, cdv, ct, osl, rfl, lk, hcd⟩ := F.ex
  exact fn_ofH lk hcd S len fun A outer s H vs Q E p hot hr hsp => hbody cdv A outer s H vs Q E p hot hr hsp
theorem tCallS_eq {sp : Sp} {E : XK} {t : TA} : tCallS sp (fun _ => E) t = tCall sp [] E t := by
  funext σ H Q
  show (t σ H fun vs H1 => sp vs H1 Q E) = (t σ H fun vs H1 => sp (vs ++ []) H1 Q E)
  congr
  funext vs H1
  rw [List.append_nil]
theorem tMethH_eq {C : Addr} {m : Str} {sp : Sp} {E : XK} {ta : TE} {t : TA} : tMethH C m sp (fun _ => E) ta t = tMeth C m sp [] E ta t := by
  funext σ H Q
  show (ta σ H fun x H1 => ∃ a dx fs, x = .ref a ∧ H1 a = some (.ins C dx fs) ∧ fs.lookup m = none ∧ t σ H1 fun vs H2 => sp (x :: vs) H2 Q E) = (ta σ H fun x H1 => ∃ a dx fs, x = .ref a ∧ H1 a = some (.ins C dx fs) ∧ fs.lookup m = none ∧ t σ H1 fun vs H2 => sp (x :: (vs ++ [])) H2 Q E)
  congr
  funext x H1
  congr
  funext a
  congr
  funext dx
  congr
  funext fs
  congr
  funext vs H2
  rw [List.append_nil]
section
variable {X : Cx} {k : Nat} {f C : Addr} {fd : FuncData} {ps : List Str} {sp : Sp} {x m : Str} {q pos apos : Pos} {e o : Expr} {es : List Expr} {ta : TE} {t : TA}
theorem ps_raiseHN {E : XK} {m : Str} {j : Nat} {p p2 pos pos2 : Pos} (T : ClsN X.K X.mg x C) (hc : HotC X) (tk : L2.Takes X (fun cls d _ H => E cls d H)) (hg : Gl X x) (hdb : (x == ("__debug__" : Str)) = false := by decide) :
    PS X (.Raise (some (.Call (.Name x p) [.Constant (.str m) j p2] [] pos)) none pos2) (tRse E C) :=
  ps_raiseH hc tk (L2N.pmk_own PySem.F.excBase_ValueError T.xC T.gC T.kC (raises_own T.eC T.tC) hg hdb)
theorem pe_callH2 {E : XK} (F : FnH X.prog X.w X.K X.mg X.base CX k f fd ps sp) (hr : RoomH k X.A) (hc : HotC X) (hg : Gl X x) (hm : X.mg x = some (.ref f)) (hk : PySem.W.keepIn X.K (.ref f) = true) (hb : Binds X.K fd ps []) (hx : Passes CX X E)
    (ha : PA X (e :: es) t) (hdb : (x == ("__debug__" : Str)) = false := by decide) (he : starEach (e :: es) X.env = (false, eval e X.env) :: starEach es X.env := by rfl) (hpl : (backTo pos (starEach es X.env)).any (·.1) = false := by rfl) :
    PE X (.Call (.Name x q) (e :: es) [] pos) (tCall sp [] E t) := by
  rw [← tCallS_eq]
  exact pe_callH F hr hc hg hm hk hb (fun σ pins H s e s' I c => hx pins σ H s e s' I c) ha hdb he hpl
theorem pe_methH2 {E : XK} {pl : Sem Bool} (he : PE X o ta) (c : Cls X.K C) (hm : Meth X.K C m f) (F : FnH X.prog X.w X.K X.mg X.base CX k f fd ps sp) (hr : RoomH k X.A) (hc : HotC X) (hb : Binds X.K fd ps []) (hx : Passes CX X E) (ha : PA X (e :: es) t)
    (hst : starEach (e :: es) X.env = (false, eval e X.env) :: starEach es X.env := by rfl) (hpl : (backTo pos (starEach es X.env)).any (·.1) = false := by rfl)
    (ht : eval (.Call (.Attribute o m apos) (e :: es) [] pos) X.env = (do
      let ov ← eval o X.env
      standAt apos.atName
      let (f, first) ← holding [ov] (getMethod ov m pl)
      callWith pos f first (backTo pos (starEach (e :: es) X.env)) (backToKw pos (keywordEach [] X.env))) := by rfl) :
    PE X (.Call (.Attribute o m apos) (e :: es) [] pos) (tMeth C m sp [] E ta t) := by
  rw [← tMethH_eq]
  exact pe_methH he c hm F hr hc hb (fun σ pins H s e s' I c => hx pins σ H s e s' I c) ha hst hpl ht
/-- o.m(e, ..) within a try, no error held -/
theorem pe_methS {E : L2.St → XK} {pl : Sem Bool} (he : PE X o ta) (c : Cls X.K C) (hm : Meth X.K C m f)
    (F : FnOk X.prog X.w X.K X.mg X.base CX k f fd ps sp) (hr : Room k X.A) (hb : Binds X.K fd ps []) (hx : ∀ σ, PassesAt CX X σ (E σ)) (ha : PA X (e :: es) t)
    (hst : starEach (e :: es) X.env = (false, eval e X.env) :: starEach es X.env := by rfl) (hpl : (backTo pos (starEach es X.env)).any (·.1) = false := by rfl)
    (ht : eval (.Call (.Attribute o m apos) (e :: es) [] pos) X.env = (do
      let ov ← eval o X.env
      standAt apos.atName
      let (f, first) ← holding [ov] (getMethod ov m pl)
      callWith pos f first (backTo pos (starEach (e :: es) X.env)) (backToKw pos (keywordEach [] X.env))) := by rfl) :
    PE X (.Call (.Attribute o m apos) (e :: es) [] pos) (tMethH C m sp E ta t) := by
  refine ⟨fun pins s σ H Q I h => ?_⟩
  refine PySem.W.methodCall_KW (pl := pl) (thn (he.run pins s σ H _ I h) fun u s1 ⟨x, H1, I1, rx, a, dx, fs, ex, ea, l, q⟩ => ?_) ht
  subst ex
  obtain rfl : u = Value.ref a := rx
  refine getmeth_ok I1 ea c hm l ?_
  refine PySem.W.callWith_K (first := [.ref a]) (h₀ := X.base) I.ok.mod.kin hm.kp (thn (ha.run pos pins s1 σ H1 _ I1 q) fun us s2 ⟨vs, H2, I2, r, q2⟩ => ⟨I2.kIn, ?_⟩) hst hpl
  exact run_fnS (us := .ref a :: us) (vs := .ref a :: vs) F hr hb (hx σ) I2 (.cons rfl r) q2
def tMakeS (C : Addr) (sp : Sp) (E : L2.St → XK) (t : TA) : TE := fun σ H Q => t σ H fun vs H1 => ∀ x dx, H1 x = none → H1 dx = none → dx ≠ x →
  sp (.ref x :: vs) (upd (upd H1 dx (.own x)) x (.ins C dx [])) (fun v H2 => v = .non ∧ Q (.ref x) H2) (E σ)
theorem pe_makeS {E : L2.St → XK} (M : Mk X.K C f) (F : FnOk X.prog X.w X.K X.mg X.base CX k f fd ps sp) (hr : Room (k + 1) X.A) (hg : Gl X x) (hm : X.mg x = some (.ref C)) (hb : Binds X.K fd ps []) (hx : ∀ σ, PassesAt CX X σ (E σ))
    (ha : PA X (e :: es) t) (hdb : (x == ("__debug__" : Str)) = false := by decide) (he : starEach (e :: es) X.env = (false, eval e X.env) :: starEach es X.env := by rfl) (hpl : (backTo pos (starEach es X.env)).any (·.1) = false := by rfl) :
    PE X (.Call (.Name x q) (e :: es) [] pos) (tMakeS C sp E t) := by
  refine ⟨fun pins s σ H Q I h => ?_⟩
  refine wpAny_Call_Name_kw (ld_glob I hg hm ?_ hdb)
  refine PySem.W.callWith_K (h₀ := X.base) I.ok.mod.kin M.kp (thn (ha.run pos pins s σ H _ I h) fun us s1 ⟨vs, H1, I1, r, q⟩ => ⟨I1.kIn, ?_⟩) he hpl
  have hq := q (s1.heap.objs.size + 1) s1.heap.objs.size (I1.hok.fresh (Nat.le_succ _)) (I1.hok.fresh (Nat.le_refl _)) (Nat.ne_of_lt (Nat.lt_succ_self _))
  have I2 := Inv.made (C := C) I1
  have r2 : Vals (V.ref (s1.heap.objs.size + 1) :: vs) (Value.ref (s1.heap.objs.size + 1) :: us) := .cons rfl r
  have hl : (Value.ref (s1.heap.objs.size + 1) :: us).length = ps.length := by
    have e := r2.length
    rw [F.len _ _ _ _ hq] at e
    exact e.symm
  have b := hb _ (Value.ref (s1.heap.objs.size + 1) :: us) I2.kIn (by rw [List.append_nil]; exact hl)
  rw [List.append_nil] at b
  refine wpAny_call (make_map (f := f) I1.kIn M.makes M.init (beq_iff_eq.mp M.fn) (codeAny_mono (F.run _ X.stack _ _ ⟨Value.ref (s1.heap.objs.size + 1) :: us, []⟩ (Value.ref (s1.heap.objs.size + 1) :: us) _ _ (E σ) (hr.make C us [])
    (I2.env0.make C us []) b r2 hq) fun r s' hq' => ?_))
  cases r with
  | error e => exact hx σ pins _ _ e s' I2 hq'
  | ok fl =>
    cases fl with
    | ret u =>
      obtain ⟨v, H', I3, rv, ev, q3⟩ := I2.after hq'
      subst ev
      exact ⟨rv, ⟨V.ref (s1.heap.objs.size + 1), H', I3, rfl, q3⟩⟩
    | next => exact False.elim hq'
    | brk => exact False.elim hq'
    | cont => exact False.elim hq'
end
end
/-! ### try, with cells -/
section
open L2H (tMethH)
variable {K : PySem.W.Frag} {E : XK} {es : List Slot} {μ : Store} {P : PostM} {ta : TE} {tx : TA} {i j : Nat} {CB C : Addr} {ts : Addr → Value → Option Addr → TS} {m : Str} {ds : List (Option PyData)}
def PostM.gone (P : PostM) (i : Nat) : PostM := { nx := fun es' μ' => P.nx (es'.set i .no) μ', rt := P.rt, bk := fun es' μ' => P.bk (es'.set i .no) μ', ct := fun es' μ' => P.ct (es'.set i .no) μ', ex := P.ex, rn := P.rn }
def CM (K : PySem.W.Frag) (ct : (L2.St → XK) → TE) (es : List Slot) (μ : Store) (Wr : PyData → Store → Prop) (Wx : Addr → Store → Prop) : Prop := ∀ F0 H0 F H σ Q E, AtM K F0 H0 F H σ es μ →
  (∀ F' H' v d μ', Ex F F' → AtM K F0 H0 F' H' σ es μ' → Rep K F' v d → Wr d μ' → Q v H') → (∀ F' H' C μ', Ex F F' → AtM K F0 H0 F' H' σ es μ' → Wx C μ' → E σ (.ref C) none H') → ct E σ H Q
theorem AtM.dropS {F0 H0 F H : Hp} {σ : L2.St} (A : AtM K F0 H0 F H σ es μ) : AtM K F0 H0 F H (σ.set i none) (es.set i .no) μ := ⟨A.at'.drop, A.hold, A.out⟩
theorem suite_run {F0 H0 F F' H' : Hp} {σ : L2.St} {D : Ends} {μ' : Store} (x : Ex F F') (A : AtM K F0 H0 F' H' σ es μ') (M : MeetsM K E F0 H0 F P D) (hm : PySem.W.exmOne K (.ref C) (.ref CB) = some true) (hs : ∀ a, DM K E (ts a (.ref C) none) (es.set i (.val (rawD a))) μ' (P.gone i)) :
    wAs K (.ref CB) i ts (fun _ _ _ _ => False) D (.ref C) none σ H' :=
  ⟨true, hm, fun _ a na => hs a F0 H0 F' H' _ _ (A.set (.raw a)) ⟨fun F2 H2 σ2 es2 μ2 x2 A2 q => M.nx F2 H2 _ _ μ2 (x.trans x2) A2.dropS q, fun F2 H2 σ2 es2 μ2 x2 A2 q => M.bk F2 H2 _ _ μ2 (x.trans x2) A2.dropS q, fun F2 H2 σ2 es2 μ2 x2 A2 q => M.ct F2 H2 _ _ μ2 (x.trans x2) A2.dropS q, M.rt, M.ex, M.rn⟩, fun z => by cases z⟩
theorem dm_tryD {ct : (L2.St → XK) → TE} {Wx : Addr → Store → Prop} (h : CM K ct es μ (fun _ μ' => P.nx es μ') Wx) (hx : ∀ C μ', Wx C μ' → PySem.W.exmOne K (.ref C) (.ref CB) = some true ∧ ∀ a, DM K E (ts a (.ref C) none) (es.set i (.val (rawD a))) μ' (P.gone i)) :
    DM K E (tTry K (.ref CB) i (fun W => tDrop (ct (WE W))) ts) es μ P := fun F0 H0 F H σ D A M =>
  h F0 H0 F H σ _ _ A (fun F' H' v d μ' x A' r q => M.nx F' H' σ es μ' x A' q) fun F' H' C μ' x A' q => suite_run x A' M (hx C μ' q).1 (hx C μ' q).2
theorem dm_tryA {ct : (L2.St → XK) → TE} {Wx : Addr → Store → Prop} (h : CM K ct es μ (fun d μ' => P.nx (es.set j (.val d)) μ') Wx) (hx : ∀ C μ', Wx C μ' → PySem.W.exmOne K (.ref C) (.ref CB) = some true ∧ ∀ a, DM K E (ts a (.ref C) none) (es.set i (.val (rawD a))) μ' (P.gone i)) :
    DM K E (tTry K (.ref CB) i (fun W => tAsg (ct (WE W)) (gName j)) ts) es μ P := fun F0 H0 F H σ D A M =>
  h F0 H0 F H σ _ _ A (fun F' H' v d μ' x A' r q => M.nx F' H' _ _ μ' x (A'.set r) q) fun F' H' C μ' x A' q => suite_run x A' M (hx C μ' q).1 (hx C μ' q).2
section
variable {Wr : PyData → Store → Prop} {Wx : Addr → Store → Prop} {R : List PyData → Store → (Out → Store → Prop) → Prop} {RD : List PyData → Out → Prop} {d d1 d2 d3 : PyData} {xs : List PyData} {p : Int}
theorem cm_meth (hm : bkNo m) (h : ME K ta es μ fun x μ1 => ∃ a dx l1 l2 l3 p came rest money, x = rawD a ∧ μ1 a = some (.book C dx l1 l2 l3 p came rest money) ∧ MA K tx es μ1 fun xs μ2 => ∃ W0, R (rawD a :: xs) μ2 W0 ∧ ∀ o μ3, W0 o μ3 → (∃ d, o = .ret d ∧ Wr d μ3) ∨ (∃ C, o = .exc C ∧ Wx C μ3)) : CM K (fun E => tMethH C m (spM K R) E ta tx) es μ Wr Wx := fun F0 H0 F H σ Q E A q qx =>
  h F0 H0 F H σ _ A fun F1 H1 v x μ1 x1 A1 r1 ⟨a, dx, l1, l2, l3, p, came, rest, money, e, hc, k⟩ => by
    subst e
    have hb := cell_book (A1.hold.at' _ _ hc)
    refine ⟨a, dx, _, r1.raw_eq, hb.2, hm _ _ _ _, k F0 H0 F1 H1 σ _ A1 fun F2 H2 vs xs μ2 x2 A2 rs ⟨W0, hR, hW⟩ => ?_⟩
    refine ⟨F2, μ2, rawD a :: xs, W0, A2.at'.fh, .cons (r1.mono x2) rs, A2.hold, hR, fun d v H' μ' en r w => ?_, fun C H' μ' en w => ?_, fun p zs H' μ' en w => ?_⟩
    · obtain ⟨d', e, k⟩ | ⟨C', e, _⟩ := hW _ _ w
      · cases e
        exact q _ H' v _ μ' ((x1.trans x2).trans (grow_ex1 A2.at'.fh)) (A2.after en) r k
      · cases e
    · obtain ⟨d', e, k⟩ | ⟨C', e, k⟩ := hW _ _ w
      · cases e
      · cases e
        exact qx _ H' C μ' ((x1.trans x2).trans (grow_ex1 A2.at'.fh)) (A2.after en) k
    · obtain ⟨d', e, k⟩ | ⟨C', e, k⟩ := hW _ _ w <;> cases e
/-- a method that only looks, raises -/
theorem cm_methX {C' : Addr} (V : Vw μ es ds) (hm : bkNo m) (h : DE K ta ds (bookD C p d1 d2 d3)) (ha : DA K tx ds xs) (hr : RD (bookD C p d1 d2 d3 :: xs) (.exc C')) (k : Wx C' μ) : CM K (fun E => tMethH C m (spD K RD) E ta tx) es μ Wr Wx := fun F0 H0 F H σ Q E A q qx => by
  have e : tMethH C m (spD K RD) E ta tx σ H Q = tMeth C m (spD K RD) [] (E σ) ta tx σ H Q := congrFun (congrFun (congrFun (tMethH_eq (E := E σ)) σ) H) Q
  show tMethH C m (spD K RD) E ta tx σ H Q
  rw [e]
  exact dx_meth (E := E σ) hm h ha hr _ σ (A.view V) H A.bvx Q fun H' e => qx F H' C' μ exr (A.grow e) k
/-- no book comes of it -/
theorem cm_makeX {C' : Addr} (bk : BkOk K C) (h : MA K tx es μ fun xs μ1 => ∃ d, xs = [d] ∧ RD [d] (.exc C') ∧ Wx C' μ1) : CM K (fun E => tMakeS C (spI K C RD) E tx) es μ Wr Wx := fun F0 H0 F H σ Q E A q qx =>
  h F0 H0 F H σ _ A fun F1 H1 vs ds μ1 x1 A1 rs ⟨d, e, hR, k⟩ => by
    subst e
    cases rs with
    | @cons v _ _ _ r rs =>
      cases rs
      intro x dx hx hdx ne
      have en : Ex H1 (upd (upd H1 dx (.own x)) x (.ins C dx [])) := fun b o z => by
        rw [upd_ne (ne_of_none z hx), upd_ne (ne_of_none z hdx)]
        exact z
      refine ⟨F1, x, dx, v, d, .exc C', rfl, Evl.Ex.trans A1.wide.fh en, Ex.ne A1.wide.fh hx, r, bk, upd_same, hR, (fun p' H' l1 l2 l3 z => by cases z), fun C2 H' z eH => ?_⟩
      cases z
      exact qx F1 H' C' μ1 x1 (A1.grow fun b o z => eH b o (by rw [del_ne (ne_of_none z hx)]; exact en b o z)) k
end
end
end VS


/-! sorted of triples of ints. -/
namespace VT
open PySem PySem.Spec PyProof.Rows Srt SrtO
abbrev I3 := Int × Int × Int
def IsTrip (h : Heap) (v : Value) (k : I3) : Prop := ∃ a o t u r n, v = .ref a ∧ h.get? a = some o ∧ o.cls = .type "tuple" ∧ o.data = .seq #[.int k.1 t, .int k.2.1 u, .int k.2.2 r] n
theorem IsTrip.keeps {h h' : Heap} {v : Value} {k : I3} (p : IsTrip h v k) (q : ∀ b o, h.get? b = some o → o.cls = .type "tuple" → h'.get? b = some o) : IsTrip h' v k := by
  obtain ⟨a, o, t, u, r, n, e, ho, hc, hd⟩ := p
  exact ⟨a, o, t, u, r, n, e, q _ _ ho hc, hc, hd⟩
theorem firsts_of3 {h : Heap} {k : Value → I3} : ∀ {vs : List Value}, (∀ v ∈ vs, IsTrip h v (k v)) → ∃ fs : List Value, PySem.W.KatTups h vs fs ∧ fs.length = vs.length ∧ ∀ f ∈ fs, ∃ x t, f = Value.int x t
  | [], _ => ⟨[], PySem.W.KatTups.nil, rfl, fun _ hm => by simp at hm⟩
  | v :: vs, hp => by
    obtain ⟨fs, h1, h2, h3⟩ := firsts_of3 (vs := vs) fun v' hm => hp v' (List.mem_cons_of_mem _ hm)
    obtain ⟨a, o, t, u, r, n, e, ho, hc, hd⟩ := hp v (List.mem_cons_self ..)
    generalize (k v).1 = x at hd
    generalize (k v).2.1 = y at hd
    generalize (k v).2.2 = z at hd
    subst e
    refine ⟨.int x t :: fs, PySem.W.KatTups.cons ho hc hd rfl h1, by rw [List.length_cons, List.length_cons, h2], fun f hm => ?_⟩
    rcases List.mem_cons.mp hm with rfl | hm
    · exact ⟨x, t, rfl⟩
    · exact h3 f hm
def lex3 (p q : I3) : Bool := if p.1 = q.1 then lexB p.2 q.2 else decide (p.1 < q.1)
theorem lex3_iff {p q : I3} : lex3 p q = true ↔ p.1 < q.1 ∨ (p.1 = q.1 ∧ (p.2.1 < q.2.1 ∨ (p.2.1 = q.2.1 ∧ p.2.2 < q.2.2))) := by
  unfold lex3
  by_cases e : p.1 = q.1
  · rw [if_pos e, lexB_iff]
    omega
  · rw [if_neg e, decide_eq_true_eq]
    omega
theorem lex3_no {p q : I3} : lex3 p q = false ↔ ¬ (p.1 < q.1 ∨ (p.1 = q.1 ∧ (p.2.1 < q.2.1 ∨ (p.2.1 = q.2.1 ∧ p.2.2 < q.2.2)))) := by
  rw [← lex3_iff]
  cases lex3 p q <;> simp
theorem swo3 {α : Type} (k : α → I3) : Swo fun v u => lex3 (k v) (k u) := by
  refine ⟨fun x y h => ?_, fun x y z h1 h2 => ?_⟩
  · have a := lex3_iff.mp h
    refine lex3_no.mpr ?_
    omega
  · have a := lex3_no.mp h1
    have b := lex3_no.mp h2
    refine lex3_no.mpr ?_
    omega
section
variable {prog : Program} {w : World} {A : Around} {E : Value → Shared → Prop} {s : Shared}
theorem trip_cmp {vs : List Value} {k : Value → I3} (hp : ∀ v ∈ vs, IsTrip s.heap v (k v)) : Cmp prog w A s (tuples' true) (fun p => p.1 ∈ vs) (lt2 fun v u => lex3 (k v) (k u)) := by
  intro p q hm hm'
  have h1 := hp _ hm
  have h2 := hp _ hm'
  show wpAny (model prog w) A (keyLt' (tuples' true) p.1 q.1) (fun r s' => s' = s ∧ r = lex3 (k p.1) (k q.1)) (fun _ _ => False) s
  unfold lex3 lexB IsTrip at *
  generalize (k p.1).1 = x at h1 ⊢
  generalize (k p.1).2.1 = y at h1 ⊢
  generalize (k p.1).2.2 = z at h1 ⊢
  generalize (k q.1).1 = x' at h2 ⊢
  generalize (k q.1).2.1 = y' at h2 ⊢
  generalize (k q.1).2.2 = z' at h2 ⊢
  obtain ⟨a, o, t, u, r, n, e, ho, hc, hd⟩ := h1
  obtain ⟨a', o', t', u', r', n', e', ho', hc', hd'⟩ := h2
  rw [e, e']
  refine PySem.W.kat_lt ho hd ho' hd' ?_
  show PySem.W.KatLex prog w A true (decide (3 < 3)) _ [(.int x t, .int x' t'), (.int y u, .int y' u'), (.int z r, .int z' r')] 0 s
  refine PySem.W.kat_cons (SeqAt.EqAt.int_int x t x' t' prog w _ _ ?_)
  refine PySem.W.kat_go (fun e1 => ?_) (fun e1 => ?_)
  · have ex : x = x' := by simpa using e1
    refine PySem.W.kat_yes (PySem.W.kat_cons (SeqAt.EqAt.int_int y u y' u' prog w _ _ ?_))
    refine PySem.W.kat_go (fun e2 => ?_) (fun e2 => ?_)
    · have ey : y = y' := by simpa using e2
      refine PySem.W.kat_yes (PySem.W.kat_cons (SeqAt.EqAt.int_int z r z' r' prog w _ _ ?_))
      refine PySem.W.kat_go (fun e3 => ?_) (fun e3 => ?_)
      · have ez : z = z' := by simpa using e3
        have e4 : (if x = x' then (if y = y' then decide (z < z') else decide (y < y')) else decide (x < x')) = false := by
          rw [if_pos ex, if_pos ey, ez]
          exact decide_eq_false (Int.lt_irrefl _)
        exact PySem.W.kat_yes (PySem.W.kat_nil ⟨rfl, e4.symm⟩)
      · have e4 : (if x = x' then (if y = y' then decide (z < z') else decide (y < y')) else decide (x < x')) = decide (z < z') := by
          rw [if_pos ex, if_pos ey]
        refine PySem.W.kat_no (PySem.W.kat_one _ _ (PyProof.Rows.lt_int ?_))
        exact (show s = s ∧ decide (z < z') = (if x = x' then (if y = y' then decide (z < z') else decide (y < y')) else decide (x < x')) from ⟨rfl, e4.symm⟩)
    · have ey : ¬ y = y' := by simpa using e2
      have e3 : (if x = x' then (if y = y' then decide (z < z') else decide (y < y')) else decide (x < x')) = decide (y < y') := by
        rw [if_pos ex, if_neg ey]
      refine PySem.W.kat_no (PySem.W.kat_one _ _ (PyProof.Rows.lt_int ?_))
      exact (show s = s ∧ decide (y < y') = (if x = x' then (if y = y' then decide (z < z') else decide (y < y')) else decide (x < x')) from ⟨rfl, e3.symm⟩)
  · have ex : ¬ x = x' := by simpa using e1
    have e3 : (if x = x' then (if y = y' then decide (z < z') else decide (y < y')) else decide (x < x')) = decide (x < x') := if_neg ex
    exact PySem.W.kat_no (oneLt_int ⟨rfl, e3.symm⟩)
theorem trips_sortable {a : Addr} {vs : List Value} {k : Value → I3} (h0 : 0 < vs.length) (hp : ∀ v ∈ vs, IsTrip s.heap v (k v)) (ha : ∀ o, s.heap.get? a = some o → o.cls ≠ .type "tuple") : SortableO prog w A s a vs fun v u => lex3 (k v) (k u) := by
  intro h' keep
  have hp' : ∀ v ∈ vs, IsTrip h' v (k v) := fun v hm => (hp v hm).keeps fun b o e c => keep b o (fun z => by subst z; exact ha o e c) e
  obtain ⟨fs, h1, h2, h3⟩ := firsts_of3 hp'
  refine ⟨tuples' true, fun Q E hq => ?_, trip_cmp hp'⟩
  refine PySem.W.kat_kind (T := .type "int") h1 (by omega) (fun f hm => ?_) (by rfl) ?_
  · obtain ⟨x, t, rfl⟩ := h3 f hm
    exact PySem.W.Looks.now
  · have e : (Value.type "int" != Value.type "tuple") = true := by first | decide +kernel | rfl | decide
    rw [e]
    exact hq
theorem sorted_trips {l : Addr} {vs : List Value} {k : Value → I3} {Q : Value → Shared → Prop} (hl : s.heap.IsList l vs.toArray) (hz : vs.length ≤ sizeLine) (hp : ∀ v ∈ vs, IsTrip s.heap v (k v))
    (h : ∀ (h' : Heap) (d : Addr) (out : List Value), Srtd (fun v u => lex3 (k v) (k u)) out → Stb (fun v u => lex3 (k v) (k u)) out vs → (∀ b o, s.heap.get? b = some o → h'.get? b = some o) → s.heap.objs.size ≤ d → (∃ n, h'.get? d = some (seqObj "list" out.toArray n)) → Q (.ref d) { s with heap := h' }) :
    wpAny (model prog w) A (call (.builtin "sorted") [.ref l]) Q E s := by
  refine sorted_ord (swo3 k) hl hz (fun h2 h₁ a ha kk => ?_) fun out hs hb => ?_
  · refine trips_sortable (s := { s with heap := h₁ }) (by omega) (fun v hm => (hp v hm).keeps fun b o e _ => (kk b o e).2) fun o e => ?_
    have e' : some o = some (seqObj "list" vs.toArray 0) := e.symm.trans ha
    cases e'
    intro c
    exact absurd (Value.type.inj c) (by decide)
  · exact h _ _ out hs hb (fun b o e => sortedAll_old e) (Nat.le_succ _) (sortedAll_at s.heap vs out.toArray)
end
end VT
namespace VS
open PySem PySem.Spec PyProof.Rows L2 VT
open Evl (Ex)
def rSorted3 (K : PySem.W.Frag) : List V → Hp → VK → Prop := fun vs H Q => ∃ (a : Addr) (xs : List V) (k : V → I3), vs = [V.ref a] ∧ SqL K H a xs ∧ (∀ x ∈ xs, ∃ t, x = V.ref t ∧ H t = some (.tup [.int (k x).1, .int (k x).2.1, .int (k x).2.2])) ∧
  ∀ ys p, SrtO.Srtd (fun x y => lex3 (k x) (k y)) ys → SrtO.Stb (fun x y => lex3 (k x) (k y)) ys xs → H p = none → Q (.ref p) (upd H p (.lst ys))
section
variable {X : Cx}
theorem cr_sorted3 : CallR X (.builtin "sorted") (rSorted3 X.K) := by
  intro pins s σ H vs us Q I r h
  obtain ⟨a, xs, k, rfl, hs, hx, q⟩ := h
  obtain ⟨its, rv, hl, hz⟩ := I.list hs
  obtain ⟨u, rfl, ru⟩ := vals1 r
  obtain rfl : u = Value.ref a := ru
  obtain ⟨e1, e2⟩ := refs_back rv fun x m => by
    obtain ⟨t, e, _⟩ := hx x m
    exact ⟨t, e⟩
  refine VT.sorted_trips (k := fun u => k (backV u)) hl.isList (by rw [← rv.length]; exact hz) (fun v hv => ?_) fun h' d out h1 h2 kp hd hn => ?_
  · obtain ⟨t, rfl⟩ := e2 v hv
    have hm : V.ref t ∈ xs := by rw [e1]; exact List.mem_map.mpr ⟨_, hv, rfl⟩
    obtain ⟨t', e, ht⟩ := hx _ hm
    cases e
    obtain ⟨_, its2, r2, o, ho, hc, n, hd⟩ := I.hok _ _ ht
    cases r2 with
    | @cons _ u1 _ _ ri r2 =>
      cases r2 with
      | @cons _ u2 _ _ rj r2 =>
        cases r2 with
        | @cons _ u3 _ _ rk r2 =>
          cases r2
          obtain ⟨t1, rfl⟩ := ri
          obtain ⟨t2, rfl⟩ := rj
          obtain ⟨t3, rfl⟩ := rk
          exact ⟨t, o, t1, t2, t3, n, rfl, ho, hc, hd⟩
  · have h3 : ∀ u ∈ out, ∃ a, u = Value.ref a := fun u hu => e2 u (h2.perm.mem_iff.mp hu)
    obtain ⟨n, hn⟩ := hn
    have hb : SrtO.Stb (fun x y => lex3 (k x) (k y)) (out.map backV) xs := by
      rw [e1]
      exact SrtO.Stb.map (swo3 k) backV h2
    refine ⟨.ref d, upd H d (.lst (out.map backV)), I.laid (t' := s.toks) kp hd ⟨?_, out, n, vals_back h3, hn⟩, rfl, q _ d (SrtO.srtd_map h1) hb (I.hok.fresh hd)⟩
    rw [hb.len]
    exact hz
end
def tripD (p : I3) : PyData := .tuple [.int p.1, .int p.2.1, .int p.2.2]
def key3 (H : Hp) : V → I3
  | .ref t => match H t with
    | some (.tup [.int i, .int j, .int l]) => (i, j, l)
    | _ => (0, 0, 0)
  | _ => (0, 0, 0)
theorem key3_eq {H : Hp} {t : Addr} {i j l : Int} (h : H t = some (.tup [.int i, .int j, .int l])) : key3 H (.ref t) = (i, j, l) := by
  show (match H t with
    | some (.tup [.int i, .int j, .int l]) => (i, j, l)
    | _ => (0, 0, 0)) = (i, j, l)
  rw [h]
section
variable {K : PySem.W.Frag}
theorem reps_trips {B H : Hp} (e : Ex B H) : ∀ {vs : List V} {ps : List I3}, RepAll K B vs (ps.map tripD) → (∀ v ∈ vs, ∃ t, v = V.ref t ∧ B t = some (.tup [.int (key3 H v).1, .int (key3 H v).2.1, .int (key3 H v).2.2])) ∧ vs.map (key3 H) = ps
  | [], ps, h => by
    cases ps with
    | nil => exact ⟨fun v hv => by simp at hv, rfl⟩
    | cons p ps => cases h
  | v :: vs, ps, h => by
    cases ps with
    | nil => cases h
    | cons p ps =>
      cases h with
      | cons a r =>
        obtain ⟨h1, h2⟩ := reps_trips e r
        obtain ⟨t, ws, rfl, ht, rs⟩ := a.tup_eq
        cases rs with
        | cons a1 rs =>
          cases rs with
          | cons a2 rs =>
            cases rs with
            | cons a3 rs =>
              cases rs
              rw [a1.int_eq, a2.int_eq, a3.int_eq] at ht
              have kq : key3 H (.ref t) = p := key3_eq (e t _ ht)
              refine ⟨fun w hw => ?_, ?_⟩
              · rcases List.mem_cons.mp hw with rfl | hw
                · exact ⟨t, rfl, by rw [kq]; exact ht⟩
                · exact h1 w hw
              · rw [List.map_cons, kq, h2]
theorem reps_back3 {B H : Hp} : ∀ {vs : List V}, (∀ v ∈ vs, ∃ t, v = V.ref t ∧ B t = some (.tup [.int (key3 H v).1, .int (key3 H v).2.1, .int (key3 H v).2.2])) → RepAll K B vs ((vs.map (key3 H)).map tripD)
  | [], _ => .nil
  | v :: vs, h => by
    obtain ⟨t, e, ht⟩ := h v List.mem_cons_self
    refine .cons ?_ (reps_back3 fun w hw => h w (List.mem_cons_of_mem _ hw))
    rw [e] at ht ⊢
    exact .tup ht (.cons (.int _) (.cons (.int _) (.cons (.int _) .nil)))
/-- told by what is sorted: a list in order that is a rearrangement -/
theorem dcn_sort3 {ps qs : List I3} (hp : qs.Perm ps) (hs : qs.Pairwise fun a b => lex3 b a = false) : DCN K (rSorted3 K) [.list (ps.map tripD)] (qs.map tripD) := fun B H vs e r Q k => by
  cases r with
  | cons a r =>
    cases r
    obtain ⟨p, ys, rfl, ha, rs⟩ := a.list_eq
    obtain ⟨h1, h2⟩ := reps_trips e rs
    refine ⟨p, ys, key3 H, rfl, SqL.of (e p _ ha), fun v hv => ?_, fun zs l hs' hb hl => ?_⟩
    · obtain ⟨t, q, ht⟩ := h1 v hv
      exact ⟨t, q, e t _ ht⟩
    · have hz : zs.map (key3 H) = qs := by
        refine List.Perm.eq_of_pairwise (le := fun a b => lex3 b a = false) (fun a b _ _ h1 h2 => ?_) (List.pairwise_map.mpr hs') hs ?_
        · have q1 := lex3_no.mp h1
          have q2 := lex3_no.mp h2
          obtain ⟨a1, a2, a3⟩ := a
          obtain ⟨b1, b2, b3⟩ := b
          simp only at q1 q2
          have e1 : a1 = b1 := by omega
          have e2 : a2 = b2 := by omega
          have e3 : a3 = b3 := by omega
          rw [e1, e2, e3]
        · refine (hb.perm.map _).trans ?_
          rw [h2]
          exact hp.symm
      refine k l zs _ (upd_ex hl) hl upd_same ?_
      rw [← hz]
      refine (reps_back3 (B := B) fun v hv => h1 v (hb.perm.mem_iff.mp hv)).mono (grow_ex1 e)
end
end VS


/-! dict cells. -/
namespace VS
open PySem L2
open Evl (Ex)
abbrev rDictP (K : PySem.W.Frag) : List V → Hp → VK → Prop := fun xs H Q => ∃ (a : Addr) (ps : List Addr) (kvs : List (Key × V)), xs = [.ref a] ∧ SqL K H a (ps.map V.ref) ∧ Paired (fun p kv => SqT K H p [kV kv.1, kv.2]) ps kvs ∧
    ∀ p, H p = none → Q (.ref p) (upd H p (.dK (mergeK [] kvs)))
theorem mergeK_fresh : ∀ (kvs acc : List (Key × V)), ((acc ++ kvs).map (·.1)).Nodup → mergeK acc kvs = acc ++ kvs
  | [], acc, _ => by
    rw [List.append_nil]
    rfl
  | kv :: kvs, acc, h => by
    have hn : kv.1 ∉ acc.map (·.1) := fun m => by
      rw [List.map_append, List.map_cons, List.nodup_append] at h
      exact h.2.2 _ m _ List.mem_cons_self rfl
    have e : putK acc kv.1 kv.2 = acc ++ [kv] := by
      unfold putK
      rw [if_neg]
      intro z
      obtain ⟨x, hx, hk⟩ := List.any_eq_true.mp z
      exact hn (by rw [← of_decide_eq_true hk]; exact List.mem_map_of_mem hx)
    show mergeK (putK acc kv.1 kv.2) kvs = _
    rw [e, mergeK_fresh kvs (acc ++ [kv]) (by rw [List.append_assoc]; exact h), List.append_assoc]
    rfl
theorem valV_at : ∀ {kvs : List (Key × V)} {j : Nat} {k : Key} {v : V}, (kvs.map (·.1)).Nodup → kvs[j]? = some (k, v) → valV kvs k = some v
  | [], _, _, _, _, h => by simp at h
  | kv :: kvs, 0, k, v, _, h => by
    simp at h
    subst h
    exact valV_pos rfl
  | kv :: kvs, j + 1, k, v, hn, h => by
    have h' : kvs[j]? = some (k, v) := by simpa using h
    rw [List.map_cons, List.nodup_cons] at hn
    rw [valV_neg fun z => hn.1 (by rw [z]; exact List.mem_map_of_mem (f := (·.1)) (List.mem_of_getElem? h'))]
    exact valV_at hn.2 h'
theorem pairs_kvs {K : PySem.W.Frag} {B : Hp} : ∀ {vs : List V} {rs : List (Int × PyData)}, RepAll K B vs (rs.map fun r => .tuple [.int r.1, r.2]) → ∃ (ps : List Addr) (kvs : List (Key × V)), vs = ps.map V.ref ∧ Paired (fun p kv => B p = some (.tup [kV kv.1, kv.2])) ps kvs ∧ kvs.map (·.1) = rs.map (fun r => Sum.inl r.1) ∧ RepAll K B (kvs.map (·.2)) (rs.map (·.2))
  | vs, [], h => by
    cases h
    exact ⟨[], [], rfl, .nil, rfl, .nil⟩
  | vs, r :: rs, h => by
    cases h with
    | cons a h =>
      obtain ⟨ps, kvs, e1, hp, e2, hr⟩ := pairs_kvs h
      obtain ⟨t, ws, rfl, ht, rs'⟩ := a.tup_eq
      cases rs' with
      | cons a1 rs' =>
        cases rs' with
        | @cons u _ _ _ a2 rs' =>
          cases rs'
          rw [a1.int_eq] at ht
          refine ⟨t :: ps, (.inl r.1, u) :: kvs, by rw [e1]; rfl, .cons ht hp, by rw [List.map_cons, e2]; rfl, .cons a2 hr⟩
theorem paired_mono {α β : Type} {F G : α → β → Prop} (h : ∀ a b, F a b → G a b) : ∀ {xs : List α} {ys : List β}, Paired F xs ys → Paired G xs ys
  | _, _, .nil => .nil
  | _, _, .cons a r => .cons (h _ _ a) (paired_mono h r)
/-! whole numbers to whole numbers -/
def fN (p : Int × Int) : Key × V := (.inl p.1, .int p.2)
def putN (ns : List (Int × Int)) (n w : Int) : List (Int × Int) := if (ns.any fun p => decide (p.1 = n)) = true then ns.map (fun p => if p.1 = n then (p.1, w) else p) else ns ++ [(n, w)]
def getN (ns : List (Int × Int)) (n : Int) : Option Int := (ns.find? fun p => decide (p.1 = n)).map (·.2)
theorem any_fN (n : Int) : ∀ ns : List (Int × Int), ((ns.map fN).any fun kv => decide (kv.1 = (Sum.inl n : Key))) = ns.any fun p => decide (p.1 = n)
  | [] => rfl
  | p :: ns => by
    rw [List.map_cons, List.any_cons, List.any_cons, any_fN n ns]
    congr 1
    exact decide_eq_decide.mpr ⟨fun h => Sum.inl.inj h, fun h => congrArg Sum.inl h⟩
theorem putN_map (ns : List (Int × Int)) (n w : Int) : putK (ns.map fN) (Sum.inl n) (.int w) = (putN ns n w).map fN := by
  unfold putK putN
  rw [any_fN]
  by_cases h : (ns.any fun p => decide (p.1 = n)) = true
  · rw [if_pos h, if_pos h, List.map_map, List.map_map]
    refine List.map_congr_left fun p _ => ?_
    show (if (fN p).1 = Sum.inl n then ((fN p).1, V.int w) else fN p) = fN (if p.1 = n then (p.1, w) else p)
    by_cases z : p.1 = n
    · rw [if_pos z, if_pos (show (fN p).1 = Sum.inl n from congrArg Sum.inl z)]
      rfl
    · rw [if_neg z, if_neg (show ¬ (fN p).1 = Sum.inl n from fun e => z (Sum.inl.inj e))]
  · rw [if_neg h, if_neg h, List.map_append]
    rfl
theorem getN_map (n : Int) : ∀ ns : List (Int × Int), valV (ns.map fN) (Sum.inl n) = (getN ns n).map V.int
  | [] => rfl
  | p :: ns => by
    rw [List.map_cons]
    by_cases z : p.1 = n
    · rw [valV_pos (show (fN p).1 = Sum.inl n from congrArg Sum.inl z)]
      unfold getN
      rw [List.find?_cons_of_pos (by rw [decide_eq_true z])]
      rfl
    · rw [valV_neg fun e => z (Sum.inl.inj e), getN_map n ns]
      unfold getN
      rw [List.find?_cons_of_neg (by rw [decide_eq_false z]; exact Bool.false_ne_true)]
abbrev dN (ns : List (Int × Int)) : Cell := .dct (ns.map fN) (ns.map fun p => PyData.int p.2)
theorem dN_reps {K : PySem.W.Frag} {F : Hp} (ns : List (Int × Int)) : RepAll K F ((ns.map fN).map (·.2)) (ns.map fun p => PyData.int p.2) := by
  have h := RepAll.ints (K := K) (H := F) (ns.map (·.2))
  rw [List.map_map, List.map_map] at h
  rw [List.map_map]
  exact h
section
variable {K : PySem.W.Frag} {E : XK} {es : List Slot} {μ : Store} {P : PostM} {te td ty tx' tv : TE} {tx : TA} {W : PyData → Store → Prop} {WL : List PyData → Store → Prop} {r : List V → Hp → VK → Prop}
theorem me_dnew (h : ∀ a, μ a = none → W (rawD a) (mset μ a (dN []))) : ME K tDnew es μ W := fun F0 H0 F H σ Q A q p hp => by
  have A2 := A.add (a := p) (c := dN []) (H' := upd H p (.dK [])) (upd_ex hp) (fun x hx => by rw [List.mem_singleton.mp hx]; exact hp) (List.mem_singleton.mpr rfl) (List.nodup_cons.mpr ⟨List.not_mem_nil, List.nodup_nil⟩) ⟨upd_same, .nil⟩
  exact q F _ _ (rawD p) _ exr A2.1 (.raw p) (h p A2.2)
theorem me_dict (h : MA K tx es μ fun xs μ1 => ∃ rs : List (Int × PyData), xs = [.list (rs.map fun r => .tuple [.int r.1, r.2])] ∧ (rs.map (·.1)).Nodup ∧ ∀ a (kvs : List (Key × V)), μ1 a = none → kvs.map (·.1) = rs.map (fun r => Sum.inl r.1) → W (rawD a) (mset μ1 a (.dct kvs (rs.map (·.2))))) : ME K (tCB (rDictP K) tx) es μ W := fun F0 H0 F H σ Q A q =>
  h F0 H0 F H σ _ A fun F1 H1 vs ds μ1 x1 A1 rr ⟨rs, e, hn, k⟩ => by
    subst e
    cases rr with
    | cons a rr =>
      cases rr
      obtain ⟨l, us, rfl, hl, ru⟩ := a.list_eq
      obtain ⟨ps, kvs, e1, hp, e2, hr⟩ := pairs_kvs ru
      have fh : Ex F1 H1 := A1.wide.fh
      have nd : (kvs.map (·.1)).Nodup := by
        rw [e2, show (rs.map fun r => (Sum.inl r.1 : Key)) = (rs.map (·.1)).map Sum.inl by rw [List.map_map]; rfl]
        exact List.pairwise_map.mpr (hn.imp fun h e => h (Sum.inl.inj e))
      refine ⟨l, ps, kvs, rfl, by rw [← e1]; exact SqL.of (fh l _ hl), paired_mono (fun p kv h => SqT.of (fh p _ h)) hp, fun p hpn => ?_⟩
      rw [mergeK_fresh kvs [] (by rw [List.nil_append]; exact nd), List.nil_append]
      have A2 := A1.add (a := p) (c := .dct kvs (rs.map (·.2))) (H' := upd H1 p (.dK kvs)) (upd_ex hpn) (fun x hx => by rw [List.mem_singleton.mp hx]; exact hpn) (List.mem_singleton.mpr rfl) (List.nodup_cons.mpr ⟨List.not_mem_nil, List.nodup_nil⟩) ⟨upd_same, hr⟩
      exact q F1 _ _ (rawD p) _ x1 A2.1 (.raw p) (k p kvs A2.2 e2)
theorem me_dget (h : ME K td es μ fun x μ1 => ME K ty es μ1 fun y μ2 => ∃ (a : Addr) (kvs : List (Key × V)) (ds : List PyData) (n : Int) (j : Nat) (d : PyData), x = rawD a ∧ y = .int n ∧ μ2 a = some (.dct kvs ds) ∧ (kvs.map (·.1)).Nodup ∧ (kvs.map (·.1))[j]? = some (Sum.inl n) ∧ ds[j]? = some d ∧ W d μ2) : ME K (tDGet td ty) es μ W := fun F0 H0 F H σ Q A q =>
  h F0 H0 F H σ _ A fun F1 H1 v x μ1 x1 A1 r1 h => h F0 H0 F1 H1 σ _ A1 fun F2 H2 w y μ2 x2 A2 r2 ⟨a, kvs, ds, n, j, d, e1, e2, hc, hn, hj, hd, k⟩ => by
    subst e1 e2
    obtain ⟨h1, h2⟩ := A2.hold.at' _ _ hc
    obtain ⟨u, hu, ru⟩ := h2.get hd
    have hkv : kvs[j]? = some (Sum.inl n, u) := by
      rw [List.getElem?_map] at hj hu
      cases z : kvs[j]? with
      | none => rw [z] at hj; cases hj
      | some kv =>
        rw [z] at hj hu
        obtain ⟨k1, k2⟩ := kv
        cases hj
        cases hu
        rfl
    rw [r2.int_eq]
    refine ⟨a, u, r1.raw_eq, ?_, q F2 H2 u d μ2 (x1.trans x2) A2 ru k⟩
    rw [← valV_at hn hkv]
    exact DGet.k (k := Sum.inl n) h1
theorem me_dnotin (h : ME K ty es μ fun y μ1 => ME K td es μ1 fun x μ2 => ∃ a kvs ds n, x = rawD a ∧ y = .int n ∧ μ2 a = some (.dct kvs ds) ∧ W (.bool (!(valV kvs (Sum.inl n)).isSome)) μ2) : ME K (tDNotIn ty td) es μ W := fun F0 H0 F H σ Q A q =>
  h F0 H0 F H σ _ A fun F1 H1 v y μ1 x1 A1 r1 h => h F0 H0 F1 H1 σ _ A1 fun F2 H2 w x μ2 x2 A2 r2 ⟨a, kvs, ds, n, e1, e2, hc, k⟩ => by
    subst e1 e2
    obtain ⟨h1, h2⟩ := A2.hold.at' _ _ hc
    rw [r1.int_eq]
    exact ⟨a, _, r2.raw_eq, DGet.k (k := Sum.inl n) h1, q F2 H2 _ _ μ2 (x1.trans x2) A2 (.bl _) k⟩
theorem me_dget2 (h : ME K td es μ fun x μ1 => ∃ a ns, x = rawD a ∧ μ1 a = some (dN ns) ∧ ME K ty es μ1 fun y μ2 => ME K tx' es μ2 fun z μ3 => ∃ ns' n w, y = .int n ∧ z = .int w ∧ μ3 a = some (dN ns') ∧ W (.int ((getN ns' n).getD w)) μ3) : ME K (tDGet2 td ty tx') es μ W := fun F0 H0 F H σ Q A q =>
  h F0 H0 F H σ _ A fun F1 H1 v x μ1 x1 A1 r1 ⟨a, ns, e1, hc1, h⟩ => by
    subst e1
    have g1 := (A1.hold.at' _ _ hc1).1
    refine ⟨a, r1.raw_eq, .inl ⟨_, .inl g1⟩, h F0 H0 F1 H1 σ _ A1 fun F2 H2 w y μ2 x2 A2 r2 h => h F0 H0 F2 H2 σ _ A2 fun F3 H3 u z μ3 x3 A3 r3 ⟨ns', n, m, e2, e3, hc3, k⟩ => ?_⟩
    subst e2 e3
    have g3 := (A3.hold.at' _ _ hc3).1
    rw [r2.int_eq, r3.int_eq]
    refine ⟨_, DGet.k (k := Sum.inl n) g3, ?_⟩
    rw [getN_map]
    have e : ((getN ns' n).map V.int).getD (.int m) = .int ((getN ns' n).getD m) := by cases getN ns' n <;> rfl
    rw [e]
    exact q F3 H3 _ _ μ3 ((x1.trans x2).trans x3) A3 (.int _) k
theorem dm_dput (h : ME K tv es μ fun d μ1 => ME K td es μ1 fun x μ2 => ME K ty es μ2 fun y μ3 => ∃ a ns n w, d = .int w ∧ x = rawD a ∧ y = .int n ∧ μ3 a = some (dN ns) ∧ ns.length < 100000 ∧ P.nx es (mset μ3 a (dN (putN ns n w)))) : DM K E (sDPut td ty tv) es μ P := fun F0 H0 F H σ D A M =>
  h F0 H0 F H σ _ A fun F1 H1 v d μ1 x1 A1 r1 h => h F0 H0 F1 H1 σ _ A1 fun F2 H2 w x μ2 x2 A2 r2 h => h F0 H0 F2 H2 σ _ A2 fun F3 H3 u y μ3 x3 A3 r3 ⟨a, ns, n, m, e1, e2, e3, hc, hl, k⟩ => by
    subst e1 e2 e3
    have g3 := (A3.hold.at' _ _ hc).1
    rw [r1.int_eq, r3.int_eq]
    refine ⟨a, _, r2.raw_eq, DPut.k (k := Sum.inl n) g3 (Evl.sz_lt (by rw [List.length_map]; exact hl)), ?_⟩
    rw [putN_map]
    refine M.nx F3 _ σ es _ ((x1.trans x2).trans x3) (A3.put (c := dN (putN ns n m)) hc rfl ⟨upd_same, dN_reps _⟩ fun x hx => upd_ne fun z => hx (List.mem_singleton.mpr z)) k
theorem mn_items (h : ME K te es μ fun x μ1 => ∃ a ns, x = rawD a ∧ μ1 a = some (dN ns) ∧ WL (ns.map pairD) μ1) : MN K (LiI.tListItems te) es μ WL := fun F0 H0 F H σ Q A q =>
  h F0 H0 F H σ _ A fun F1 H1 v x μ1 x1 A1 r1 ⟨a, ns, e1, hc, k⟩ => by
    subst e1
    have g1 := (A1.hold.at' _ _ hc).1
    rw [r1.raw_eq]
    refine ⟨a, _, rfl, g1, fun H' p ts e hp hts hpt hl hpr => ?_⟩
    refine q F1 H1 μ1 H' p _ μ1 x1 A1 (A1.endN e hp hl ?_) k
    clear g1 hc k hl
    revert ts
    induction ns with
    | nil =>
      intro ts hts hpt hpr
      cases hpr
      exact .nil
    | cons n ns ih =>
      intro ts hts hpt hpr
      cases hpr with
      | @cons t _ ts' _ h1 h2 =>
        have tn := hts t List.mem_cons_self
        have tp : t ≠ p := fun z => hpt (z ▸ List.mem_cons_self)
        exact .cons (.tup (by rw [grow_new tn, del_ne tp]; exact h1) (.cons (.int _) (.cons (.int _) .nil))) (ih ts' (fun y hy => hts y (List.mem_cons_of_mem _ hy)) (fun m => hpt (List.mem_cons_of_mem _ m)) h2)
theorem mn_cb {xs zs : List PyData} (h : MA K tx es μ fun ds μ1 => ds = xs ∧ WL zs μ1) (hr : DCN K r xs zs) : MN K (tCB r tx) es μ WL := fun F0 H0 F H σ Q A q =>
  h F0 H0 F H σ _ A fun F1 H1 vs ds μ1 x1 A1 rs ⟨e, k⟩ => by
    subst e
    exact hr F1 H1 vs A1.wide.fh rs _ fun p us H' e hp hl ru => q F1 H1 μ1 H' p zs μ1 x1 A1 (A1.endN e hp hl ru) k
end
/-- return of a new list -/
theorem dm_retN {K : PySem.W.Frag} {E : XK} {es : List Slot} {μ : Store} {P : PostM} {te : TE} (h : MN K te es μ fun xs μ' => P.rn xs μ') : DM K E (tRet te) es μ P := fun F0 H0 F H σ D A M =>
  h F0 H0 F H σ _ A fun F1 H1 μ1 H' p xs μ' x1 A1 en k => by
    obtain ⟨vs, g1, g2⟩ := en.here
    have e0 : Ex H0 (less H1 μ1) := A1.at'.h0
    have sub : Ex (Grow F1 (less H1 μ1) (del (less H' μ') p)) (Grow F0 H0 (del (less H' μ') p)) := fun x o q => by
      cases z : less H1 μ1 x with
      | none =>
        rw [grow_new z] at q
        rw [grow_new (Ex.ne e0 z)]
        exact q
      | some u =>
        rw [grow_old (ne_some z)] at q
        rcases A1.at'.fresh x o q with y | y
        · rw [grow_old (ne_some (A1.at'.f00 x o y))]
          exact y
        · have nb : x ≠ p := fun w => by rw [w, en.new] at z; cases z
          rw [grow_new y, del_ne nb]
          exact en.h0 x o (A1.at'.fh x o q)
    exact M.rn p xs H' μ' ⟨Evl.Ex.trans e0 en.h0, Ex.ne e0 en.new, ⟨vs, g1, g2.mono sub⟩, ⟨fun b c hc => cell_mono (en.hold.at' b c hc) sub fun _ _ => rfl, en.hold.nodup, en.hold.sep⟩, fun x hx => Ex.ne e0 (en.out x hx)⟩ k
/-! ### what a table of numbers holds -/
theorem mem_putN {ns : List (Int × Int)} {n w : Int} (p : Int × Int) : p ∈ putN ns n w ↔ (p = (n, w)) ∨ (p.1 ≠ n ∧ p ∈ ns) := by
  unfold putN
  by_cases h : (ns.any fun p => decide (p.1 = n)) = true
  · rw [if_pos h, List.mem_map]
    obtain ⟨x, hx, hk⟩ := List.any_eq_true.mp h
    have hk := of_decide_eq_true hk
    constructor
    · rintro ⟨y, hy, rfl⟩
      by_cases z : y.1 = n
      · rw [if_pos z, z]
        exact .inl rfl
      · rw [if_neg z]
        exact .inr ⟨z, hy⟩
    · rintro (rfl | ⟨h1, h2⟩)
      · exact ⟨x, hx, by rw [if_pos hk, hk]⟩
      · exact ⟨p, h2, by rw [if_neg h1]⟩
  · rw [if_neg h, List.mem_append, List.mem_singleton]
    constructor
    · rintro (h1 | h1)
      · refine .inr ⟨fun z => h ?_, h1⟩
        exact List.any_eq_true.mpr ⟨p, h1, decide_eq_true z⟩
      · exact .inl h1
    · rintro (h1 | ⟨_, h1⟩)
      · exact .inr h1
      · exact .inl h1
theorem keys_putN {ns : List (Int × Int)} {n w : Int} (h : (ns.map (·.1)).Nodup) : ((putN ns n w).map (·.1)).Nodup := by
  unfold putN
  by_cases z : (ns.any fun p => decide (p.1 = n)) = true
  · rw [if_pos z, List.map_map]
    have e : ((·.1) ∘ fun p : Int × Int => if p.1 = n then (p.1, w) else p) = (·.1) := by
      funext p
      show (if p.1 = n then (p.1, w) else p).1 = p.1
      split <;> rfl
    rw [e]
    exact h
  · rw [if_neg z, List.map_append, List.nodup_append]
    refine ⟨h, List.nodup_cons.mpr ⟨List.not_mem_nil, List.nodup_nil⟩, fun a ha b hb => ?_⟩
    rw [List.mem_singleton.mp hb]
    rintro rfl
    obtain ⟨p, hp, e⟩ := List.mem_map.mp ha
    exact z (List.any_eq_true.mpr ⟨p, hp, decide_eq_true e⟩)
theorem getN_iff {ns : List (Int × Int)} (h : (ns.map (·.1)).Nodup) {n v : Int} : getN ns n = some v ↔ (n, v) ∈ ns := by
  induction ns with
  | nil => simp [getN]
  | cons p ns ih =>
    rw [List.map_cons, List.nodup_cons] at h
    have ih := ih h.2
    unfold getN at ih ⊢
    by_cases z : p.1 = n
    · rw [List.find?_cons_of_pos (by rw [decide_eq_true z]), List.mem_cons]
      constructor
      · intro e
        have e : p.2 = v := Option.some.inj e
        exact .inl (Prod.ext z.symm e.symm)
      · rintro (e | e)
        · rw [← e]
          rfl
        · exact absurd (List.mem_map_of_mem (f := (·.1)) e) (by rw [← z]; exact h.1)
    · rw [List.find?_cons_of_neg (by rw [decide_eq_false z]; exact Bool.false_ne_true), ih, List.mem_cons]
      exact ⟨.inr, fun e => e.elim (fun e => absurd (by rw [← e]) z) id⟩
end VS

namespace VS
open PySem L2 VS
open Evl (Ex)
local macro_rules | `(tactic| walk_at "ev") => `(tactic| (repeat' (first
  | ((with_reducible apply VS.de_var); rfl)
  | with_reducible exact VS.de_int
  | with_reducible exact VS.de_str
  | exact VS.de_str
  | with_reducible exact VS.de_bl
  | with_reducible exact VS.de_non
  | with_reducible exact VS.de_dnew
  | with_reducible exact VS.d2_add
  | with_reducible exact VS.d2_sub
  | with_reducible exact VS.d2_lt
  | with_reducible exact VS.d2_le
  | with_reducible exact VS.d2_gt
  | with_reducible exact VS.d2_ge
  | with_reducible exact VS.d1_neg
  | with_reducible exact VS.d2_eqI
  | with_reducible exact VS.d2_neI
  | with_reducible exact VS.d2_eqS
  | with_reducible exact VS.d2_neS
  | with_reducible exact VS.d2_eqB
  | with_reducible exact VS.d2_mod (by decide)
  | with_reducible exact VS.d2_fdivC (by decide) (by decide)
  | with_reducible exact VS.d2_mulL (by decide) (by decide)
  | with_reducible exact VS.d2_mulR (by decide) (by decide)
  | exact VS.d2_ixT rfl
  | with_reducible exact VS.d2_ixL (VS.atI_map (by assumption))
  | with_reducible exact VS.dc_len
  | with_reducible exact VS.dc_lenT
  | with_reducible exact VS.dc_lenC
  | with_reducible exact VS.dc_min2
  | with_reducible exact VS.dc_max2
  | with_reducible exact VS.dc_abs
  | with_reducible exact VS.dc_sum
  | with_reducible exact VS.dc_intB
  | with_reducible exact VS.da_nil
  | with_reducible exact VS.do_none
  | with_reducible exact VS.dt_yes
  | with_reducible exact VS.dcn_list
  | with_reducible exact VS.dcn_listT
  | with_reducible exact VS.dcn_sortI
  | with_reducible exact VS.dcn_sortP
  | exact Nat.le_of_ble_eq_true rfl
  | with_reducible apply VS.da_cons
  | with_reducible apply VS.de_op
  | with_reducible apply VS.de_un
  | with_reducible apply VS.de_isiU
  | with_reducible apply VS.de_cb
  | with_reducible apply VS.de_tup
  | with_reducible apply VS.de_lst
  | with_reducible apply VS.de_slU
  | with_reducible exact VS.dc_new VS.dcn_list
  | with_reducible exact VS.dc_new VS.dcn_listT
  | with_reducible exact VS.dc_new VS.dcn_sortI
  | with_reducible exact VS.dc_new VS.dcn_sortP
  | with_reducible apply VS.dt_test
  | with_reducible apply VS.dt_B
  | with_reducible apply VS.dt_not
  | with_reducible apply VS.de_notV
  | with_reducible apply VS.do_some
  | with_reducible apply VS.dn_op
  | with_reducible apply VS.dn_cb
  | with_reducible apply VS.dn_lst
  | with_reducible apply VS.dn_sl
  | with_reducible apply VS.dn_slC
  | with_reducible apply VS.de_andU
  | with_reducible apply VS.de_orU
  | with_reducible apply VS.dt_andU
  | with_reducible apply VS.dt_orU
  | with_reducible apply VS.de_chainU
  | with_reducible apply VS.de_chain3
  | exact VS.kit_b_b
  | exact VS.kit_i_b
  | exact VS.kit_i_i
  | exact VS.kit_l_l
  | exact VS.kit_t_t
  | exact VS.kit_s_s
  | ((show VS.notScr _ = true); rfl)
  | with_reducible exact VS.d2_eqSame (VS.sh_ws _)
  | with_reducible exact VS.d2_neSame (VS.sh_ws _)
  | with_reducible exact VS.d2_eqSame (VS.sh_ints _)
  | with_reducible exact VS.d2_neSame (VS.sh_ints _)
  | with_reducible apply VS.de_call
  | exact ⟨_, true, _, rfl, rfl⟩
  | exact ⟨_, false, _, rfl, rfl⟩
  | exact ⟨_, rfl, rfl⟩
  | exact ⟨_, _, rfl, rfl⟩
  | exact ⟨_, _, _, rfl, rfl⟩
  | exact ⟨_, _, _, _, rfl, rfl⟩
  | exact ⟨_, rfl, rfl, by first | assumption | exact rfl | decide | omega⟩
  | exact ⟨_, _, rfl, rfl, by first | assumption | exact rfl | decide | omega⟩
  | exact ⟨_, _, _, rfl, rfl, by first | assumption | exact rfl | decide | omega⟩
  | with_reducible apply VS.de_fldP
  | with_reducible apply VS.de_fldC
  | with_reducible apply VS.de_fldR
  | with_reducible apply VS.de_fldM
  | fail)))
local macro_rules | `(tactic| walk_at "vw") => `(tactic| (repeat' (first
  | exact VS.Vw.nil
  | refine VS.Vw.cons ?_ ?_
  | exact VS.SV.val (VS.ViewD.refl _)
  | exact VS.SV.own _
  | exact VS.SV.skip _
  | (apply VS.SV.val; apply VS.ViewD.book; first | assumption | exact VS.mset_at)
  | (apply VS.SV.val; apply VS.ViewD.bookR; first | assumption | exact VS.mset_at)
  | (apply VS.SV.val; apply VS.ViewD.cell; first | assumption | exact VS.mset_at))))
def wholeIn (d : PyData) (lo hi : Int) : Bool := match d with
  | .int i => decide (lo ≤ i) && decide (i ≤ hi)
  | _ => false
theorem wholeIn_int {i lo hi : Int} : wholeIn (.int i) lo hi = (decide (lo ≤ i) && decide (i ≤ hi)) := rfl
theorem wholeIn_no {i lo hi : Int} (h : i < lo ∨ hi < i) : wholeIn (.int i) lo hi = false := by
  rw [wholeIn_int]
  rcases h with h | h
  · rw [decide_eq_false (p := lo ≤ i) (by omega)]
    rfl
  · rw [decide_eq_false (p := i ≤ hi) (by omega), Bool.and_false]
theorem wholeIn_yes {i lo hi : Int} (h : lo ≤ i ∧ i ≤ hi) : wholeIn (.int i) lo hi = true := by
  rw [wholeIn_int, decide_eq_true h.1, decide_eq_true h.2]
  rfl
theorem wholeIn_not {d : PyData} {lo hi : Int} (h : isInt d = false) : wholeIn d lo hi = false := by
  cases d <;> first | rfl | cases h
def R_whole_within (c : Cs) (ds : List PyData) (o : Out) : Prop := ∃ d lo hi, ds = [d, .int lo, .int hi] ∧ o = .ret (.bool (wholeIn d lo hi)) ∧ notScr d = true
-- slots of whole_within: 0 thing 1 low 2 high
def t_whole_within (K : PySem.W.Frag) (c : Cs) (E : XK) : TS :=
  (tRet (tAndV (tCB (rIsi K) (tCons (tVar 0) (tCons (tC (.ty "int")) tNil))) (tAndV (tNotV (tCB (rIsi K) (tCons (tVar 0) (tCons (tC (.ty "bool")) tNil)))) (tChain rLeI rLeI (tVar 1) (tVar 0) (tVar 2)))))
theorem len_whole_within {c : Cs} : ∀ ds o, R_whole_within c ds o → ds.length = 3 := by
  intro ds o h
  grind (ematch := 14) (gen := 20) [R_whole_within]
theorem body_whole_within {K : PySem.W.Frag} {c : Cs} {E : XK} : ∀ ds o, R_whole_within c ds o → DS K E (t_whole_within K c E) (slots 3 ds) o.post := by
  rintro _ _ ⟨d, lo, hi, rfl, rfl, hn⟩
  unfold t_whole_within
  cases hi0 : isInt d with
  | true =>
    cases d with
    | int i =>
      apply VS.ds_ret
      · walk_at "ev"
      · exact VS.post_ret rfl
    | _ => cases hi0
  | false =>
    apply VS.ds_ret (d := .bool ((tyD d == "int" || tyD d == "bool") && (!(tyD d == "bool") && false)))
    · apply VS.de_andV
      · exact VS.de_isiU (VS.de_var rfl) hn (kit_int d)
      · intro h1
        apply VS.de_andV
        · apply VS.de_notV
          exact VS.de_isiU (VS.de_var rfl) hn (kit_bool d)
        · intro h2
          have h := isInt_ty d
          rw [h1, h2, hi0] at h
          cases h
    · refine VS.post_ret ?_
      rw [wholeIn_not hi0, Bool.and_false, Bool.and_false]

def sideOk : PyData → Bool
  | .str s => decide (s ∈ [("buy" : Str), "sell"])
  | _ => false
/-- a wish -/
def goodD : PyData → Bool
  | .tuple [s, l, a] => sideOk s && (wholeIn l 0 1000000000 && wholeIn a 1 1000000)
  | _ => false
theorem goodD_3 {s l a : PyData} : goodD (.tuple [s, l, a]) = (sideOk s && (wholeIn l 0 1000000000 && wholeIn a 1 1000000)) := rfl
theorem sideOk_str {s : Str} : sideOk (.str s) = decide (s ∈ [("buy" : Str), "sell"]) := rfl
def plainT : PyData → Bool
  | .tuple xs => xs.all notScr
  | d => notScr d
def R_checked (c : Cs) (ds : List PyData) (o : Out) : Prop := ∃ d, ds = [d] ∧ o = (if goodD d = true then .ret d else .exc c.BadWish) ∧ plainT d = true
theorem tuple_ty {d : PyData} (h : (tyD d == "tuple") = true) : ∃ xs, d = .tuple xs := by
  cases d with
  | tuple xs => exact ⟨xs, rfl⟩
  | dict kvs => cases kvs <;> simp [tyD] at h
  | _ => simp [tyD] at h
theorem str_ty {d : PyData} (h : (tyD d == "str") = true) : ∃ s, d = .str s := by
  cases d with
  | str xs => exact ⟨xs, rfl⟩
  | dict kvs => cases kvs <;> simp [tyD] at h
  | _ => simp [tyD] at h
theorem plain_not {d : PyData} (h : plainT d = true) : notScr d = true := by
  cases d with
  | tuple xs => rfl
  | _ => exact h
-- slots of checked: 0 thing
def t_checked (K : PySem.W.Frag) (c : Cs) (E : XK) : TS :=
  (tSeq (tIfS (tOr (tNot (tB (tCB (rIsi K) (tCons (tVar 0) (tCons (tC (.ty "tuple")) tNil))))) (tTest (tOp rNe (tCB (rLenSq K) (tCons (tVar 0) tNil)) (tC (.int 3))))) (tRse E c.BadWish) tNext)
    (tSeq (tIfS (tOr (tNot (tB (tCB (rIsi K) (tCons (tOp (rIxT K) (tVar 0) (tC (.int 0))) (tCons (tC (.ty "str")) tNil))))) (tTest (tOp (rIn K true) (tOp (rIxT K) (tVar 0) (tC (.int 0))) (tTup (tCons (tC (.str "buy")) (tCons (tC (.str "sell")) tNil)))))) (tRse E c.BadWish) tNext)
    (tSeq (tIfS (tOr (tNot (tB (tCall (spD K (R_whole_within c)) [] E0 (tCons (tOp (rIxT K) (tVar 0) (tC (.int 1))) (tCons (tC (.int 0)) (tCons (tC (.int 1000000000)) tNil)))))) (tNot (tB (tCall (spD K (R_whole_within c)) [] E0 (tCons (tOp (rIxT K) (tVar 0) (tC (.int 2))) (tCons (tC (.int 1)) (tCons (tC (.int 1000000)) tNil))))))) (tRse E c.BadWish) tNext)
    (tRet (tVar 0)))))
theorem len_checked {c : Cs} : ∀ ds o, R_checked c ds o → ds.length = 1 := by
  rintro _ _ ⟨d, rfl, _⟩
  rfl
theorem body_checked {K : PySem.W.Frag} {c : Cs} {E : XK} : ∀ ds o, R_checked c ds o → DS K E (t_checked K c E) (slots 1 ds) o.post := by
  rintro _ o ⟨d, rfl, ho, hp⟩
  unfold t_checked
  by_cases hg : ∃ s l a, d = .tuple [s, l, a]
  · obtain ⟨s, l, a, rfl⟩ := hg
    have hp' : notScr s = true ∧ notScr l = true ∧ notScr a = true := by
      simpa [plainT] using hp
    apply VS.q_guard
    · refine VS.dt_to (b := !true || false) ?_ rfl
      apply VS.dt_or
      · apply VS.dt_not
        apply VS.dt_B
        exact VS.de_isiU (VS.de_var rfl) rfl VS.kit_t_t
      · intro _
        refine VS.dt_to (b := !decide (((([s, l, a] : List PyData).length : Nat) : Int) = 3)) ?_ (by simp)
        walk_at "ev"
    by_cases hs : (tyD s == "str") = true
    · obtain ⟨s, rfl⟩ := str_ty hs
      have hin : DT K (tTest (tOp (rIn K true) (tOp (rIxT K) (tVar 0) (tC (.int 0))) (tTup (tCons (tC (.str "buy")) (tCons (tC (.str "sell")) tNil))))) (see (slots 1 [.tuple [.str s, l, a]])) (!decide (s ∈ [("buy" : Str), "sell"])) := by
        apply VS.dt_test
        apply VS.de_op
        · walk_at "ev"
        · walk_at "ev"
        · exact VS.d2_inT (ss := ["buy", "sell"]) (neg := true)
      by_cases hm : s ∈ [("buy" : Str), "sell"]
      · apply VS.q_guard
        · refine VS.dt_to (b := !true || !decide (s ∈ [("buy" : Str), "sell"])) ?_ (by rw [decide_eq_true hm]; rfl)
          apply VS.dt_or
          · walk_at "ev"
          · intro _
            exact hin
        apply VS.q_if (b := !wholeIn l 0 1000000000 || !wholeIn a 1 1000000)
        · apply VS.dt_orU
          · apply VS.dt_not
            apply VS.dt_B
            apply VS.de_call
            · walk_at "ev"
            · exact ⟨l, 0, 1000000000, rfl, rfl, hp'.2.1⟩
          · apply VS.dt_not
            apply VS.dt_B
            apply VS.de_call
            · walk_at "ev"
            · exact ⟨a, 1, 1000000, rfl, rfl, hp'.2.2⟩
        · intro hb
          refine VS.ds_raise ?_
          have e : goodD (.tuple [.str s, l, a]) = false := by
            rw [goodD_3, sideOk_str]
            cases h1 : wholeIn l 0 1000000000 <;> cases h2 : wholeIn a 1 1000000 <;> simp [h1, h2] at hb ⊢
          rw [e] at ho
          exact ho
        · intro hb
          apply VS.ds_ret
          · walk_at "ev"
          · have e : goodD (.tuple [.str s, l, a]) = true := by
              rw [goodD_3, sideOk_str, decide_eq_true hm]
              cases h1 : wholeIn l 0 1000000000 <;> cases h2 : wholeIn a 1 1000000 <;> simp [h1, h2] at hb ⊢
            rw [e] at ho
            exact VS.post_ret ho
      · refine VS.q_if (b := true) ?_ (fun _ => VS.ds_raise ?_) fun z => by cases z
        · refine VS.dt_to (b := !true || !decide (s ∈ [("buy" : Str), "sell"])) ?_ (by rw [decide_eq_false hm]; rfl)
          apply VS.dt_or
          · walk_at "ev"
          · intro _
            exact hin
        · have e : goodD (.tuple [.str s, l, a]) = false := by
            rw [goodD_3, sideOk_str, decide_eq_false hm]
            rfl
          rw [e] at ho
          exact ho
    · have hs' : (tyD s == "str") = false := by simpa using hs
      refine VS.q_if (b := true) ?_ (fun _ => VS.ds_raise ?_) fun z => by cases z
      · refine VS.dt_to (b := !(tyD s == "str") || false) ?_ (by rw [hs']; rfl)
        apply VS.dt_or
        · apply VS.dt_not
          apply VS.dt_B
          refine VS.de_isiU ?_ hp'.1 (kit_str s)
          walk_at "ev"
        · intro z
          rw [hs'] at z
          cases z
      · have e : goodD (.tuple [s, l, a]) = false := by
          rw [goodD_3]
          have : sideOk s = false := by
            cases s with
            | str s => simp [tyD] at hs'
            | _ => rfl
          rw [this]
          rfl
        rw [e] at ho
        exact ho
  · have e : goodD d = false := by
      unfold goodD
      split
      · exact absurd ⟨_, _, _, rfl⟩ hg
      · rfl
    rw [e] at ho
    refine VS.q_if (b := true) ?_ (fun _ => VS.ds_raise ho) fun z => by cases z
    by_cases ht : (tyD d == "tuple") = true
    · obtain ⟨xs, rfl⟩ := tuple_ty ht
      have hl : ¬ ((xs.length : Nat) : Int) = 3 := fun q => by
        match xs, q with
        | [s, l, a], _ => exact hg ⟨s, l, a, rfl⟩
        | [], q => simp at q
        | [_], q => simp at q
        | [_, _], q => simp at q
        | _ :: _ :: _ :: _ :: r, q => simp at q; omega
      refine VS.dt_to (b := !true || !decide (((xs.length : Nat) : Int) = 3)) ?_ (by rw [decide_eq_false hl]; rfl)
      apply VS.dt_or
      · apply VS.dt_not
        apply VS.dt_B
        exact VS.de_isiU (VS.de_var rfl) rfl VS.kit_t_t
      · intro _
        walk_at "ev"
    · have ht' : (tyD d == "tuple") = false := by simpa using ht
      refine VS.dt_to (b := !(tyD d == "tuple") || false) ?_ (by rw [ht']; rfl)
      apply VS.dt_or
      · apply VS.dt_not
        apply VS.dt_B
        exact VS.de_isiU (VS.de_var rfl) (plain_not hp) (kit_tuple d)
      · intro z
        rw [ht'] at z
        cases z

def R_checked_price (c : Cs) (ds : List PyData) (o : Out) : Prop := ∃ d, ds = [d] ∧ o = (if wholeIn d 0 1000000000 = true then .ret d else .exc c.BadPrice) ∧ notScr d = true
theorem checked_price_int {c : Cs} {p : Int} (h : 0 ≤ p ∧ p ≤ 1000000000) : R_checked_price c [.int p] (.ret (.int p)) := ⟨_, rfl, by rw [wholeIn_yes h]; rfl, rfl⟩
theorem checked_price_bad {c : Cs} {d : PyData} (h : wholeIn d 0 1000000000 = false) (hn : notScr d = true) : R_checked_price c [d] (.exc c.BadPrice) := ⟨_, rfl, by rw [h]; rfl, hn⟩
-- slots of checked_price: 0 price
def t_checked_price (K : PySem.W.Frag) (c : Cs) (E : XK) : TS :=
  (tSeq (tIfS (tNot (tB (tCall (spD K (R_whole_within c)) [] E0 (tCons (tVar 0) (tCons (tC (.int 0)) (tCons (tC (.int 1000000000)) tNil)))))) (tRse E c.BadPrice) tNext)
    (tRet (tVar 0)))
theorem len_checked_price {c : Cs} : ∀ ds o, R_checked_price c ds o → ds.length = 1 := by
  rintro _ _ ⟨d, rfl, _⟩
  rfl
theorem body_checked_price {K : PySem.W.Frag} {c : Cs} {E : XK} : ∀ ds o, R_checked_price c ds o → DS K E (t_checked_price K c E) (slots 1 ds) o.post := by
  rintro _ o ⟨d, rfl, ho, hn⟩
  unfold t_checked_price
  apply VS.q_if (b := !wholeIn d 0 1000000000)
  · apply VS.dt_not
    apply VS.dt_B
    apply VS.de_call
    · walk_at "ev"
    · exact ⟨d, 0, 1000000000, rfl, rfl, hn⟩
  · intro hb
    have hb : wholeIn d 0 1000000000 = false := by simpa using hb
    rw [hb] at ho
    exact VS.ds_raise ho
  · intro hb
    have hb : wholeIn d 0 1000000000 = true := by simpa using hb
    rw [hb] at ho
    exact VS.ds_ret (VS.de_var rfl) (VS.post_ret ho)

def willing (w : Wish) (p : Int) : Bool := if w.buy then decide (p ≤ w.limit) else decide (w.limit ≤ p)
def R_willing (c : Cs) (ds : List PyData) (o : Out) : Prop := ∃ w p, ds = [wishD w, .int p] ∧ o = .ret (.bool (willing w p))
-- slots of willing: 0 wish 1 price
def t_willing (K : PySem.W.Frag) (c : Cs) (E : XK) : TS :=
  (tSeq (tIfS (tTest (tOp rEq (tOp (rIxT K) (tVar 0) (tC (.int 0))) (tC (.str "buy")))) (tRet (tOp rGeI (tOp (rIxT K) (tVar 0) (tC (.int 1))) (tVar 1))) tNext)
    (tRet (tOp rLeI (tOp (rIxT K) (tVar 0) (tC (.int 1))) (tVar 1))))
theorem len_willing {c : Cs} : ∀ ds o, R_willing c ds o → ds.length = 2 := by
  intro ds o h
  grind (ematch := 14) (gen := 20) [R_willing]
theorem body_willing {K : PySem.W.Frag} {c : Cs} {E : XK} : ∀ ds o, R_willing c ds o → DS K E (t_willing K c E) (slots 2 ds) o.post := by
  rintro _ _ ⟨w, p, rfl, rfl⟩
  unfold t_willing
  apply VS.q_if
  · walk_at "ev"
  · intro hb
    rw [sideS_buy] at hb
    apply VS.ds_ret
    · walk_at "ev"
    · exact VS.post_ret (by unfold willing; rw [if_pos hb])
  · intro hb
    rw [sideS_buy] at hb
    apply VS.ds_ret
    · walk_at "ev"
    · exact VS.post_ret (by unfold willing; rw [hb]; rfl)

def amountOf (ws : List Wish) (b : Bool) (p : Int) : Int := ((ws.filter fun w => w.buy == b && willing w p).map (·.amount)).sum
theorem amountOf_snoc {ws : List Wish} {b : Bool} {p : Int} {k : Nat} {w : Wish} (h : ws[k]? = some w) : amountOf (ws.take (k + 1)) b p = amountOf (ws.take k) b p + (if (w.buy == b && willing w p) = true then w.amount else 0) := by
  unfold amountOf
  rw [List.take_add_one, h, List.filter_append, List.map_append, List.sum_append]
  by_cases q : (w.buy == b && willing w p) = true
  · simp [q]
  · simp [q]
def R_amount_of (c : Cs) (ds : List PyData) (o : Out) : Prop := ∃ ws b p, ds = [wsD ws, .str (sideS b), .int p] ∧ o = .ret (.int (amountOf ws b p))
-- slots of amount_of: 0 wishes 1 side 2 price 3 total 4 wish
def t_amount_of (K : PySem.W.Frag) (c : Cs) (E : XK) : TS :=
  (tSeq (tAsg (tC (.int 0)) (gName 3))
    (tSeq (tFor (iList K (tVar 0)) (gName 4) (tIfS (tAnd (tTest (tOp rEq (tOp (rIxT K) (tVar 4) (tC (.int 0))) (tVar 1))) (tB (tCall (spD K (R_willing c)) [] E0 (tCons (tVar 4) (tCons (tVar 2) tNil))))) (tAsg (tOp rAddI (tVar 3) (tOp (rIxT K) (tVar 4) (tC (.int 2)))) (gName 3)) tNext))
    (tRet (tVar 3))))
theorem len_amount_of {c : Cs} : ∀ ds o, R_amount_of c ds o → ds.length = 3 := by
  intro ds o h
  grind (ematch := 14) (gen := 20) [R_amount_of]
theorem body_amount_of {K : PySem.W.Frag} {c : Cs} {E : XK} : ∀ ds o, R_amount_of c ds o → DS K E (t_amount_of K c E) (slots 5 ds) o.post := by
  rintro _ _ ⟨ws, b, p, rfl, rfl⟩
  unfold t_amount_of
  apply VS.q_set
  · walk_at "ev"
  · rfl
  apply VS.q_for (W := fun k es => ∃ s, es = [.val (wsD ws), .val (.str (sideS b)), .val (.int p), .val (.int (amountOf (ws.take k) b p)), s])
  · walk_at "ev"
  · exact ⟨.no, rfl⟩
  · rintro k x _ hk ⟨s, rfl⟩
    obtain ⟨w, hw, rfl⟩ := map_at hk
    have e := amountOf_snoc (b := b) (p := p) hw
    apply VS.ds_if
    · apply VS.dt_and
      · walk_at "ev"
      · intro _
        walk_at "ev"
    · intro hb
      rw [sideS_eq] at hb
      rw [if_pos hb] at e
      apply VS.ds_set
      · walk_at "ev"
      · rfl
      · exact ⟨_, by rw [e]; rfl⟩
    · intro hb
      rw [sideS_eq] at hb
      rw [if_neg (by rw [hb]; decide)] at e
      refine VS.ds_next ⟨_, by rw [e, Int.add_zero]; rfl⟩
  · rintro _ ⟨s, rfl⟩
    rw [List.length_map, List.take_length]
    apply VS.ds_ret
    · walk_at "ev"
    · exact VS.post_ret rfl
/-! amounts as prices rise -/
theorem amountOf_cons (w : Wish) (ws : List Wish) (b : Bool) (p : Int) : amountOf (w :: ws) b p = (if (w.buy == b && willing w p) = true then w.amount else 0) + amountOf ws b p := by
  unfold amountOf
  rw [List.filter_cons]
  split
  · rw [List.map_cons, List.sum_cons]
  · simp
theorem amountOf_nil (b : Bool) (p : Int) : amountOf [] b p = 0 := rfl
def Good (ws : List Wish) : Prop := ∀ w ∈ ws, w.good
theorem Good.tail {w : Wish} {ws : List Wish} (h : Good (w :: ws)) : Good ws := fun x hx => h x (List.mem_cons_of_mem _ hx)
theorem amountOf_nonneg {ws : List Wish} (b : Bool) (p : Int) (h : Good ws) : 0 ≤ amountOf ws b p := by
  induction ws with
  | nil => exact Int.le_refl 0
  | cons w ws ih =>
    rw [amountOf_cons]
    have := ih h.tail
    have hw := (h w List.mem_cons_self).2.2.1
    split <;> omega
theorem wanted_anti {ws : List Wish} {p q : Int} (h : Good ws) (hq : p ≤ q) : amountOf ws true q ≤ amountOf ws true p := by
  induction ws with
  | nil => exact Int.le_refl 0
  | cons w ws ih =>
    rw [amountOf_cons, amountOf_cons]
    have := ih h.tail
    have hw := (h w List.mem_cons_self).2.2.1
    obtain ⟨b, l, a⟩ := w
    cases b
    · simp; omega
    · simp only [willing, if_pos, Bool.and_eq_true, beq_self_eq_true, true_and, decide_eq_true_eq]
      dsimp only at hw
      split <;> split <;> omega
theorem offered_mono {ws : List Wish} {p q : Int} (h : Good ws) (hq : p ≤ q) : amountOf ws false p ≤ amountOf ws false q := by
  induction ws with
  | nil => exact Int.le_refl 0
  | cons w ws ih =>
    rw [amountOf_cons, amountOf_cons]
    have := ih h.tail
    have hw := (h w List.mem_cons_self).2.2.1
    obtain ⟨b, l, a⟩ := w
    cases b
    · simp only [willing, Bool.false_eq_true, if_false, Bool.and_eq_true, beq_self_eq_true, true_and, decide_eq_true_eq]
      dsimp only at hw
      split <;> split <;> omega
    · simp; omega
theorem wanted_step {ws : List Wish} {p : Int} (h : ∀ w ∈ ws, w.limit ≠ p) : amountOf ws true p = amountOf ws true (p + 1) := by
  induction ws with
  | nil => rfl
  | cons w ws ih =>
    rw [amountOf_cons, amountOf_cons, ih fun x hx => h x (List.mem_cons_of_mem _ hx)]
    have hw := h w List.mem_cons_self
    obtain ⟨b, l, a⟩ := w
    cases b
    · simp
    · simp only [willing, if_pos, Bool.and_eq_true, beq_self_eq_true, true_and, decide_eq_true_eq]
      dsimp only at hw
      split <;> split <;> omega
theorem offered_step {ws : List Wish} {p : Int} (h : ∀ w ∈ ws, w.limit ≠ p) : amountOf ws false (p - 1) = amountOf ws false p := by
  induction ws with
  | nil => rfl
  | cons w ws ih =>
    rw [amountOf_cons, amountOf_cons, ih fun x hx => h x (List.mem_cons_of_mem _ hx)]
    have hw := h w List.mem_cons_self
    obtain ⟨b, l, a⟩ := w
    cases b
    · simp only [willing, Bool.false_eq_true, if_false, Bool.and_eq_true, beq_self_eq_true, true_and, decide_eq_true_eq]
      dsimp only at hw
      split <;> split <;> omega
    · simp
theorem wanted_none {ws : List Wish} {p : Int} (h : ∀ w ∈ ws, w.limit < p) : amountOf ws true p = 0 := by
  induction ws with
  | nil => rfl
  | cons w ws ih =>
    rw [amountOf_cons, ih fun x hx => h x (List.mem_cons_of_mem _ hx)]
    have hw := h w List.mem_cons_self
    obtain ⟨b, l, a⟩ := w
    cases b
    · simp
    · simp only [willing, if_pos, Bool.and_eq_true, beq_self_eq_true, true_and, decide_eq_true_eq]
      dsimp only at hw
      split <;> omega
theorem offered_none {ws : List Wish} {p : Int} (h : ∀ w ∈ ws, p < w.limit) : amountOf ws false p = 0 := by
  induction ws with
  | nil => rfl
  | cons w ws ih =>
    rw [amountOf_cons, ih fun x hx => h x (List.mem_cons_of_mem _ hx)]
    have hw := h w List.mem_cons_self
    obtain ⟨b, l, a⟩ := w
    cases b
    · simp only [willing, Bool.false_eq_true, if_false, Bool.and_eq_true, beq_self_eq_true, true_and, decide_eq_true_eq]
      dsimp only at hw
      split <;> omega
    · simp

abbrev wantedN (ws : List Wish) (p : Int) : Int := amountOf ws true p
def R_wanted (c : Cs) (ds : List PyData) (o : Out) : Prop := ∃ ws p, ds = [wsD ws, .int p] ∧ o = .ret (.int (wantedN ws p))
-- slots of wanted: 0 wishes 1 price
def t_wanted (K : PySem.W.Frag) (c : Cs) (E : XK) : TS :=
  (tRet (tCall (spD K (R_amount_of c)) [] E0 (tCons (tVar 0) (tCons (tC (.str "buy")) (tCons (tVar 1) tNil)))))
theorem len_wanted {c : Cs} : ∀ ds o, R_wanted c ds o → ds.length = 2 := by
  intro ds o h
  grind (ematch := 14) (gen := 20) [R_wanted]
theorem body_wanted {K : PySem.W.Frag} {c : Cs} {E : XK} : ∀ ds o, R_wanted c ds o → DS K E (t_wanted K c E) (slots 2 ds) o.post := by
  rintro _ _ ⟨ws, p, rfl, rfl⟩
  unfold t_wanted
  apply VS.ds_ret
  · apply VS.de_call
    · walk_at "ev"
    · exact ⟨ws, true, p, rfl, rfl⟩
  · exact VS.post_ret rfl

abbrev offeredN (ws : List Wish) (p : Int) : Int := amountOf ws false p
def R_offered (c : Cs) (ds : List PyData) (o : Out) : Prop := ∃ ws p, ds = [wsD ws, .int p] ∧ o = .ret (.int (offeredN ws p))
-- slots of offered: 0 wishes 1 price
def t_offered (K : PySem.W.Frag) (c : Cs) (E : XK) : TS :=
  (tRet (tCall (spD K (R_amount_of c)) [] E0 (tCons (tVar 0) (tCons (tC (.str "sell")) (tCons (tVar 1) tNil)))))
theorem len_offered {c : Cs} : ∀ ds o, R_offered c ds o → ds.length = 2 := by
  intro ds o h
  grind (ematch := 14) (gen := 20) [R_offered]
theorem body_offered {K : PySem.W.Frag} {c : Cs} {E : XK} : ∀ ds o, R_offered c ds o → DS K E (t_offered K c E) (slots 2 ds) o.post := by
  rintro _ _ ⟨ws, p, rfl, rfl⟩
  unfold t_offered
  apply VS.ds_ret
  · apply VS.de_call
    · walk_at "ev"
    · exact ⟨ws, false, p, rfl, rfl⟩
  · exact VS.post_ret rfl

def rankN (b : Bool) (w : Wish) : Int := if b then -w.limit else w.limit
def dealsB (ws : List Wish) (b : Bool) (p : Int) (i : Nat) : Bool := (wAt ws i).buy == b && willing (wAt ws i) p
def rowsTo (ws : List Wish) (b : Bool) (p : Int) (n : Nat) : List (Int × Nat) := ((List.range n).filter (dealsB ws b p)).map fun i => (rankN b (wAt ws i), i)
abbrev embP (r : Int × Nat) : Int × Int := (r.1, (r.2 : Int))
def leN (r s : Int × Nat) : Bool := leP (embP r) (embP s)
def sortedRows (ws : List Wish) (b : Bool) (p : Int) : List (Int × Nat) := (rowsTo ws b p ws.length).mergeSort leN
/-- the numbers, the first to be served first -/
def orderN (ws : List Wish) (b : Bool) (p : Int) : List Nat := (sortedRows ws b p).map (·.2)
theorem rowsTo_yes {ws : List Wish} {b : Bool} {p : Int} {n : Nat} (h : dealsB ws b p n = true) : rowsTo ws b p (n + 1) = rowsTo ws b p n ++ [(rankN b (wAt ws n), n)] := by
  unfold rowsTo
  rw [List.range_succ, List.filter_append, List.map_append]
  simp [h]
theorem rowsTo_no {ws : List Wish} {b : Bool} {p : Int} {n : Nat} (h : dealsB ws b p n = false) : rowsTo ws b p (n + 1) = rowsTo ws b p n := by
  unfold rowsTo
  rw [List.range_succ, List.filter_append, List.map_append]
  simp [h]
theorem rowsTo_len (ws : List Wish) (b : Bool) (p : Int) (n : Nat) : (rowsTo ws b p n).length ≤ n := by
  unfold rowsTo
  rw [List.length_map]
  refine Nat.le_trans (List.length_filter_le _ _) ?_
  rw [List.length_range]
  exact Nat.le_refl n
theorem sortedRows_emb (ws : List Wish) (b : Bool) (p : Int) : ((rowsTo ws b p ws.length).map embP).mergeSort leP = (sortedRows ws b p).map embP := by
  unfold sortedRows
  exact (List.map_mergeSort (f := embP) (r := leN) (s := leP) fun a _ b _ => rfl).symm
def R_order_of (c : Cs) (ds : List PyData) (o : Out) : Prop := ∃ ws b p, ds = [wsD ws, .str (sideS b), .int p] ∧ o = .ret (.list ((orderN ws b p).map fun i : Nat => PyData.int (i : Int))) ∧ ws.length ≤ 10000
-- slots of order_of: 0 wishes 1 side 2 price 3 rows 4 number 5 wish 6 rank 7 row
def t_order_of (K : PySem.W.Frag) (c : Cs) (E : XK) : TS :=
  (tSeq (tAsg (tLst tNil) (gName 3))
    (tSeq (tFor (iRng1 (tCons (tCB (rLenSq K) (tCons (tVar 0) tNil)) tNil)) (gName 4) (tSeq (tAsg (tOp (rIxL K) (tVar 0) (tVar 4)) (gName 5))
    (tIfS (tAnd (tTest (tOp rEq (tOp (rIxT K) (tVar 5) (tC (.int 0))) (tVar 1))) (tB (tCall (spD K (R_willing c)) [] E0 (tCons (tVar 5) (tCons (tVar 2) tNil))))) (tSeq (tAsg (tOp (rIxT K) (tVar 5) (tC (.int 1))) (gName 6))
    (tSeq (tIfS (tTest (tOp rEq (tVar 1) (tC (.str "buy")))) (tAsg (tUn rNegI (tOp (rIxT K) (tVar 5) (tC (.int 1)))) (gName 6)) tNext)
    (tDrop (tBM K "list" rAppend (tVar 3) (tCons (tTup (tCons (tVar 6) (tCons (tVar 4) tNil))) tNil))))) tNext)))
    (tRet (tLc (iList K (tCB (rSortedPO K) (tCons (tVar 3) tNil))) (gName 7) tYes (tOp (rIxT K) (tVar 7) (tC (.int 1))) [7]))))
theorem len_order_of {c : Cs} : ∀ ds o, R_order_of c ds o → ds.length = 3 := by
  intro ds o h
  grind (ematch := 14) (gen := 20) [R_order_of]
theorem body_order_of {K : PySem.W.Frag} {c : Cs} {E : XK} : ∀ ds o, R_order_of c ds o → DS K E (t_order_of K c E) (slots 8 ds) o.post := by
  rintro _ _ ⟨ws, b, p, rfl, rfl, hl⟩
  unfold t_order_of
  apply VS.q_new
  · walk_at "ev"
  apply VS.q_forR1 (n := (ws.length : Int)) (W := fun k es => ∃ s5 s6 s7, es = [.val (wsD ws), .val (.str (sideS b)), .val (.int p), .own (((rowsTo ws b p k).map embP).map pairD), s5, s6, s7, .no])
  · refine VS.da_cons (VS.de_to (VS.de_cb (by walk_at "ev") VS.dc_len) (by rw [List.length_map])) VS.da_nil
  · omega
  · exact ⟨.no, .no, .no, rfl⟩
  · rintro k _ hk ⟨s5, s6, s7, rfl⟩
    have hk' : k < ws.length := by omega
    apply VS.q_let
    · apply VS.de_op
      · exact VS.de_var rfl
      · exact VS.de_var rfl
      · exact VS.d2_ixL (atI_map (wAt_get hk'))
    apply VS.ds_if (b := dealsB ws b p k)
    · refine VS.dt_to (b := decide (sideS (wAt ws k).buy = sideS b) && willing (wAt ws k) p) ?_ (by rw [sideS_eq]; rfl)
      walk_at "ev"
    · intro hb
      apply VS.q_set
      · walk_at "ev"
      · rfl
      apply VS.q_ifset (d := .int (rankN b (wAt ws k)))
      · walk_at "ev"
      · intro hc
        rw [sideS_buy] at hc
        unfold rankN
        rw [if_pos hc]
        walk_at "ev"
      · rfl
      · intro hc
        rw [sideS_buy] at hc
        unfold rankN
        rw [if_neg (by rw [hc]; decide)]
        rfl
      apply VS.ds_appV
      · walk_at "ev"
      · rfl
      · have := rowsTo_len ws b p k
        rw [List.length_map, List.length_map]
        omega
      · refine ⟨.val (.int (k : Int)), .val (wishD (wAt ws k)), .val (.int (rankN b (wAt ws k))), ?_⟩
        rw [rowsTo_yes hb, List.map_append, List.map_append]
        rfl
    · intro hb
      refine VS.ds_next ⟨.val (.int (k : Int)), .val (wishD (wAt ws k)), s7, ?_⟩
      rw [rowsTo_no hb]
      rfl
  · rintro _ ⟨s5, s6, s7, rfl⟩
    rw [Int.toNat_natCast]
    have hlen : (sortedRows ws b p).length ≤ 10000 := by
      unfold sortedRows
      rw [List.length_mergeSort]
      exact Nat.le_trans (rowsTo_len _ _ _ _) hl
    apply VS.ds_ret
    · apply VS.de_new
      have q := VS.dn_lcL (K := K) (ds := see [.val (wsD ws), .val (.str (sideS b)), .val (.int p), .own (((rowsTo ws b p ws.length).map embP).map pairD), s5, s6, s7, .no]) (te := tOp (rIxT K) (tVar 7) (tC (.int 1))) (tl := tCB (rSortedPO K) (tCons (tVar 3) tNil)) (t := tYes) (j := 7) (xs := ((sortedRows ws b p).map embP).map pairD) (fun _ => true) (fun d => match d with | .tuple [_, l] => l | _ => .none) (by
          rw [← sortedRows_emb]
          walk_at "ev") (by rw [List.length_map, List.length_map]; omega) (fun x _ => VS.dt_yes) (fun x hx _ => by
          obtain ⟨r, _, rfl⟩ := List.mem_map.mp hx
          walk_at "ev")
      exact q
    · refine VS.post_ret ?_
      rw [VS.lcOf_all, List.map_map, List.map_map]
      unfold orderN
      rw [List.map_map]
      rfl

/-! who goes ahead -/
/-- j is served ahead of k: the better limit, of equal ones who stands earlier -/
def aheadB (ws : List Wish) (k j : Nat) : Bool := (wAt ws j).buy == (wAt ws k).buy &&
  ((if (wAt ws k).buy then decide ((wAt ws k).limit < (wAt ws j).limit) else decide ((wAt ws j).limit < (wAt ws k).limit)) || (decide ((wAt ws j).limit = (wAt ws k).limit) && decide (j < k)))
def aheadTo (ws : List Wish) (k n : Nat) : Int := (((List.range n).filter (aheadB ws k)).map (amtAt ws)).sum
abbrev aheadN (ws : List Wish) (k : Nat) : Int := aheadTo ws k ws.length
def dealtN (ws : List Wish) (p : Int) : Int := min (amountOf ws true p) (amountOf ws false p)
def piece (ws : List Wish) (p : Int) (k : Nat) : Int := if willing (wAt ws k) p = true then max 0 (min (amtAt ws k) (dealtN ws p - aheadN ws k)) else 0
/-- who gets how much -/
def piecesN (ws : List Wish) (p : Int) : List Int := (List.range ws.length).map (piece ws p)
theorem piecesN_len (ws : List Wish) (p : Int) : (piecesN ws p).length = ws.length := by
  unfold piecesN
  rw [List.length_map, List.length_range]
theorem piecesN_get {ws : List Wish} {p : Int} {k : Nat} (h : k < ws.length) : (piecesN ws p)[k]? = some (piece ws p k) := by
  unfold piecesN
  rw [List.getElem?_map, List.getElem?_range h]
  rfl
/-! the order -/
def ltN (r s : Int × Nat) : Bool := decide (r.1 < s.1) || (decide (r.1 = s.1) && decide (r.2 < s.2))
theorem ltN_iff {r s : Int × Nat} : ltN r s = true ↔ r.1 < s.1 ∨ (r.1 = s.1 ∧ r.2 < s.2) := by
  unfold ltN
  simp
theorem leN_iff {r s : Int × Nat} : leN r s = true ↔ r.1 < s.1 ∨ (r.1 = s.1 ∧ r.2 ≤ s.2) := by
  unfold leN
  rw [leP_iff]
  simp only [embP]
  omega
theorem rowsTo_mem {ws : List Wish} {b : Bool} {p : Int} {n : Nat} {r : Int × Nat} : r ∈ rowsTo ws b p n ↔ r.2 < n ∧ dealsB ws b p r.2 = true ∧ r.1 = rankN b (wAt ws r.2) := by
  unfold rowsTo
  rw [List.mem_map]
  constructor
  · rintro ⟨i, hi, rfl⟩
    rw [List.mem_filter, List.mem_range] at hi
    exact ⟨hi.1, hi.2, rfl⟩
  · rintro ⟨h1, h2, h3⟩
    exact ⟨r.2, by rw [List.mem_filter, List.mem_range]; exact ⟨h1, h2⟩, Prod.ext h3.symm rfl⟩
theorem rowsTo_nodup (ws : List Wish) (b : Bool) (p : Int) (n : Nat) : (rowsTo ws b p n).Pairwise (fun r s => r.2 ≠ s.2) := by
  unfold rowsTo
  rw [List.pairwise_map]
  exact (List.nodup_range.filter _).imp fun h => h
theorem sorted_perm (ws : List Wish) (b : Bool) (p : Int) : (sortedRows ws b p).Perm (rowsTo ws b p ws.length) := List.mergeSort_perm _ _
theorem sorted_lt (ws : List Wish) (b : Bool) (p : Int) : (sortedRows ws b p).Pairwise (fun r s => ltN r s = true) := by
  have h1 : (sortedRows ws b p).Pairwise (fun r s => leN r s = true) := List.pairwise_mergeSort (fun a b c h1 h2 => by rw [leN_iff] at *; omega) (fun a b => by rw [Bool.or_eq_true, leN_iff, leN_iff]; omega) _
  have h2 : (sortedRows ws b p).Pairwise (fun r s => r.2 ≠ s.2) := (sorted_perm ws b p).symm.pairwise (rowsTo_nodup ws b p ws.length) fun {x y} h => fun e => h e.symm
  refine (h1.and h2).imp fun {r s} h => ?_
  rw [ltN_iff]
  have := leN_iff.mp h.1
  have := h.2
  omega
/-- ahead of the t-th of the order stand the t first -/
theorem take_filter {M : List (Int × Nat)} (h : M.Pairwise (fun r s => ltN r s = true)) : ∀ {t : Nat} {r : Int × Nat}, M[t]? = some r → M.filter (fun s => ltN s r) = M.take t := by
  induction M with
  | nil => intro t r h; cases h
  | cons m M ih =>
    intro t r hr
    have hp := List.pairwise_cons.mp h
    cases t with
    | zero =>
      have e : m = r := Option.some.inj hr
      subst e
      rw [List.take_zero, List.filter_eq_nil_iff]
      intro s hs
      rw [ltN_iff]
      rcases List.mem_cons.mp hs with e | e
      · subst e; omega
      · have := ltN_iff.mp (hp.1 s e)
        omega
    | succ t =>
      have hr' : M[t]? = some r := hr
      have hm : ltN m r = true := hp.1 r (List.mem_of_getElem? hr')
      rw [List.filter_cons, if_pos hm, List.take_succ_cons, ih hp.2 hr']
theorem sum_perm {l m : List Int} (h : l.Perm m) : l.sum = m.sum := by
  induction h with
  | nil => rfl
  | cons x _ ih => rw [List.sum_cons, List.sum_cons, ih]
  | swap x y l => rw [List.sum_cons, List.sum_cons, List.sum_cons, List.sum_cons]; omega
  | trans _ _ a b => exact a.trans b
theorem ahead_rows {ws : List Wish} {b : Bool} {p : Int} {k : Nat} (hk : dealsB ws b p k = true) (n : Nat) : (((rowsTo ws b p n).filter fun s => ltN s (rankN b (wAt ws k), k)).map fun s => amtAt ws s.2).sum = aheadTo ws k n := by
  unfold rowsTo aheadTo
  rw [List.filter_map, List.map_map, List.filter_filter]
  have e : ((fun s : Int × Nat => amtAt ws s.2) ∘ fun i => (rankN b (wAt ws i), i)) = amtAt ws := rfl
  rw [e]
  refine congrArg (fun l : List Nat => (l.map (amtAt ws)).sum) (List.filter_congr fun j _ => ?_)
  unfold dealsB at hk ⊢
  unfold aheadB ltN rankN
  rw [Bool.and_eq_true, beq_iff_eq] at hk
  obtain ⟨h1, h2⟩ := hk
  dsimp only [Function.comp]
  rw [h1]
  rw [Bool.eq_iff_iff]
  simp only [Bool.and_eq_true, Bool.or_eq_true, beq_iff_eq, decide_eq_true_eq]
  unfold willing at h2 ⊢
  rw [h1] at h2
  cases b
  · simp only [Bool.false_eq_true, if_false, decide_eq_true_eq] at h2 ⊢
    constructor
    · rintro ⟨h3, h4, h5⟩
      refine ⟨h4, ?_⟩
      rcases h3 with h3 | h3
      · exact .inl h3
      · exact .inr h3
    · rintro ⟨h4, h3⟩
      refine ⟨?_, h4, ?_⟩
      · rcases h3 with h3 | h3
        · exact .inl h3
        · exact .inr h3
      · rw [h4]
        simp only [Bool.false_eq_true, if_false, decide_eq_true_eq]
        omega
  · simp only [if_true, decide_eq_true_eq] at h2 ⊢
    constructor
    · rintro ⟨h3, h4, h5⟩
      refine ⟨h4, ?_⟩
      rcases h3 with h3 | h3
      · exact .inl (by omega)
      · exact .inr ⟨by omega, h3.2⟩
    · rintro ⟨h4, h3⟩
      refine ⟨?_, h4, ?_⟩
      · rcases h3 with h3 | h3
        · exact .inl (by omega)
        · exact .inr ⟨by omega, h3.2⟩
      · rw [h4]
        simp only [if_true, decide_eq_true_eq]
        omega
/-- what those ahead take -/
theorem ahead_take {ws : List Wish} {b : Bool} {p : Int} {t k : Nat} (h : (orderN ws b p)[t]? = some k) : aheadN ws k = (((orderN ws b p).take t).map (amtAt ws)).sum ∧ dealsB ws b p k = true ∧ k < ws.length := by
  unfold orderN at h
  rw [List.getElem?_map] at h
  cases e : (sortedRows ws b p)[t]? with
  | none => rw [e] at h; cases h
  | some r =>
    rw [e] at h
    have hk : r.2 = k := Option.some.inj h
    have hm := rowsTo_mem.mp ((sorted_perm ws b p).mem_iff.mp (List.mem_of_getElem? e))
    have hr : r = (rankN b (wAt ws k), k) := Prod.ext (by rw [hm.2.2, hk]) hk
    rw [hk] at hm
    refine ⟨?_, hm.2.1, hm.1⟩
    have q := take_filter (sorted_lt ws b p) e
    show aheadTo ws k ws.length = _
    rw [← ahead_rows hm.2.1 ws.length]
    unfold orderN
    rw [← List.map_take, List.map_map, ← q, hr]
    exact sum_perm (((sorted_perm ws b p).symm.filter _).map _)
theorem order_nodup (ws : List Wish) (b : Bool) (p : Int) : (orderN ws b p).Nodup := by
  unfold orderN
  refine List.pairwise_map.mpr ?_
  exact (sorted_perm ws b p).symm.pairwise (rowsTo_nodup ws b p ws.length) fun {x y} h => fun e => h e.symm
theorem order_mem {ws : List Wish} {b : Bool} {p : Int} {k : Nat} : k ∈ orderN ws b p ↔ k < ws.length ∧ dealsB ws b p k = true := by
  unfold orderN
  rw [List.mem_map]
  constructor
  · rintro ⟨r, hr, rfl⟩
    have hm := rowsTo_mem.mp ((sorted_perm ws b p).mem_iff.mp hr)
    exact ⟨hm.1, hm.2.1⟩
  · rintro ⟨h1, h2⟩
    exact ⟨(rankN b (wAt ws k), k), (sorted_perm ws b p).mem_iff.mpr (rowsTo_mem.mpr ⟨h1, h2, rfl⟩), rfl⟩
/-! the row of pieces while it is dealt out -/
def foundN (ws : List Wish) (p : Int) (done : Nat → Bool) : List Int := (List.range ws.length).map fun i => if done i = true then piece ws p i else 0
theorem found_set {ws : List Wish} {p : Int} {done done' : Nat → Bool} {k : Nat} (hk : done' k = true) (ho : ∀ i, i ≠ k → done' i = done i) : (foundN ws p done).set k (piece ws p k) = foundN ws p done' := by
  unfold foundN
  refine List.ext_getElem? fun i => ?_
  rw [List.getElem?_set]
  by_cases hi : i < ws.length
  · rw [List.getElem?_map, List.getElem?_map, List.getElem?_range hi, List.length_map, List.length_range]
    by_cases z : k = i
    · subst z
      rw [if_pos rfl, if_pos hi]
      simp [hk]
    · rw [if_neg z]
      simp [ho i fun e => z e.symm]
  · rw [List.getElem?_eq_none (l := List.map _ _) (by rw [List.length_map, List.length_range]; omega), List.getElem?_eq_none (l := List.map _ _) (by rw [List.length_map, List.length_range]; omega)]
    split
    · rw [if_neg (by rw [List.length_map, List.length_range]; omega)]
    · rfl
def leftN (ws : List Wish) (b : Bool) (p : Int) (t : Nat) : Int := max 0 (dealtN ws p - (((orderN ws b p).take t).map (amtAt ws)).sum)
theorem dealt_nonneg {ws : List Wish} (h : Good ws) (p : Int) : 0 ≤ dealtN ws p := by
  unfold dealtN
  have h1 := amountOf_nonneg true p h
  have h2 := amountOf_nonneg false p h
  omega
theorem left_step {ws : List Wish} {b : Bool} {p : Int} {t k : Nat} (h : (orderN ws b p)[t]? = some k) (hg : Good ws) : min (amtAt ws k) (leftN ws b p t) = piece ws p k ∧ leftN ws b p t - piece ws p k = leftN ws b p (t + 1) := by
  obtain ⟨h1, h2, h3⟩ := ahead_take h
  have ha := (hg _ (wAt_mem h3)).2.2.1
  have e : leftN ws b p (t + 1) = max 0 (dealtN ws p - (aheadN ws k + amtAt ws k)) := by
    unfold leftN
    rw [List.take_add_one, h, List.map_append, List.sum_append, ← h1]
    simp
  have hw : willing (wAt ws k) p = true := by
    unfold dealsB at h2
    exact (Bool.and_eq_true_iff.mp h2).2
  have ep : piece ws p k = max 0 (min (amtAt ws k) (dealtN ws p - aheadN ws k)) := by
    unfold piece
    rw [if_pos hw]
  rw [e, ep]
  unfold leftN
  rw [← h1]
  have ha' : 1 ≤ amtAt ws k := ha
  generalize amtAt ws k = a at ha'
  generalize aheadN ws k = s
  generalize dealtN ws p = d
  omega
def R_pieces_at (c : Cs) (ds : List PyData) (o : Out) : Prop := ∃ ws d, ds = [wsD ws, d] ∧ notScr d = true ∧ Good ws ∧ ws.length ≤ 10000 ∧
  ((wholeIn d 0 1000000000 = false ∧ o = .exc c.BadPrice) ∨ ∃ p, d = .int p ∧ 0 ≤ p ∧ p ≤ 1000000000 ∧ o = .ret (intsD (piecesN ws p)))
theorem ixN_at {n k : Nat} (h : k < n) : ixN n (k : Int) = some k := Evl.ixN_nat h
-- slots of pieces_at: 0 wishes 1 price 2 dealt 3 found 4 wish 5 side 6 left 7 number
def t_pieces_at (K : PySem.W.Frag) (c : Cs) (E : XK) : TS :=
  (tSeq (tDrop (tCall (spD K (R_checked_price c)) [] E (tCons (tVar 1) tNil)))
    (tSeq (tAsg (tCB rMin2 (tCons (tCall (spD K (R_wanted c)) [] E0 (tCons (tVar 0) (tCons (tVar 1) tNil))) (tCons (tCall (spD K (R_offered c)) [] E0 (tCons (tVar 0) (tCons (tVar 1) tNil))) tNil))) (gName 2))
    (tSeq (tAsg (tLc (iList K (tVar 0)) (gName 4) tYes (tC (.int 0)) [4]) (gName 3))
    (tSeq (tFor (iTup K (tTup (tCons (tC (.str "buy")) (tCons (tC (.str "sell")) tNil)))) (gName 5) (tSeq (tAsg (tVar 2) (gName 6))
    (tFor (iList K (tCall (spD K (R_order_of c)) [] E0 (tCons (tVar 0) (tCons (tVar 5) (tCons (tVar 1) tNil))))) (gName 7) (tSeq (tAsg (tCB rMin2 (tCons (tOp (rIxT K) (tOp (rIxL K) (tVar 0) (tVar 7)) (tC (.int 2))) (tCons (tVar 6) tNil))) (gSub (tVar 3) (tVar 7) rSetL))
    (tAsg (tOp rSubI (tVar 6) (tOp (rIxL K) (tVar 3) (tVar 7))) (gName 6))))))
    (tRet (tVar 3))))))
theorem len_pieces_at {c : Cs} : ∀ ds o, R_pieces_at c ds o → ds.length = 2 := by
  rintro _ _ ⟨ws, d, rfl, _⟩
  rfl
theorem body_pieces_at {K : PySem.W.Frag} {c : Cs} {E : XK} : ∀ ds o, R_pieces_at c ds o → DS K E (t_pieces_at K c E) (slots 8 ds) o.post := by
  rintro _ o ⟨ws, d, rfl, hn, hg, hl, ho⟩
  unfold t_pieces_at
  rcases ho with ⟨hb, rfl⟩ | ⟨p, rfl, h0, h1, rfl⟩
  · apply VS.ds_seq
    apply VS.ds_dropX
    · apply VS.dx_call
      · walk_at "ev"
      · exact checked_price_bad hb hn
    · rfl
  apply VS.q_drop
  · apply VS.de_call
    · walk_at "ev"
    · exact checked_price_int ⟨h0, h1⟩
  apply VS.q_set (d := .int (dealtN ws p))
  · unfold dealtN
    refine VS.de_cb (VS.da_cons (VS.de_call (by walk_at "ev") ⟨ws, p, rfl, rfl⟩) (VS.da_cons (VS.de_call (by walk_at "ev") ⟨ws, p, rfl, rfl⟩) VS.da_nil)) VS.dc_min2
  · rfl
  apply VS.q_new (xs := (foundN ws p fun _ => false).map PyData.int)
  · have q := VS.dn_lcL (K := K) (ds := frz ((slots 8 [wsD ws, PyData.int p]).set 2 (.val (.int (dealtN ws p))))) (te := tC (.int 0)) (tl := tVar 0) (t := tYes) (j := 4) (xs := ws.map wishD) (fun _ => true) (fun _ => .int 0) (VS.de_var rfl) (by rw [List.length_map]; omega) (fun x _ => VS.dt_yes) (fun x _ _ => VS.de_int)
    rw [VS.lcOf_all, List.map_map] at q
    have e : (foundN ws p fun _ => false).map PyData.int = ws.map ((fun _ => PyData.int 0) ∘ wishD) := by
      unfold foundN
      rw [List.map_map]
      refine List.ext_getElem? fun i => ?_
      rw [List.getElem?_map, List.getElem?_map]
      by_cases hi : i < ws.length
      · rw [List.getElem?_range hi, List.getElem?_eq_getElem hi]
        rfl
      · rw [List.getElem?_eq_none (l := List.range _) (by rw [List.length_range]; omega), List.getElem?_eq_none (l := ws) (by omega)]
        rfl
    rw [e]
    exact q
  apply VS.q_forT (xs := [.str "buy", .str "sell"]) (W := fun k es => ∃ s5 s6 s7, es = [.val (wsD ws), .val (.int p), .val (.int (dealtN ws p)), .own ((foundN ws p fun i => decide (i < ws.length) && (decide (0 < k) && dealsB ws true p i || decide (1 < k) && dealsB ws false p i)).map PyData.int), .no, s5, s6, s7])
  · walk_at "ev"
  · refine ⟨.no, .no, .no, ?_⟩
    have e : (fun i => decide (i < ws.length) && (decide (0 < 0) && dealsB ws true p i || decide (1 < 0) && dealsB ws false p i)) = fun _ => false := by
      funext i
      simp
    rw [e]
    rfl
  · rintro k x _ hx ⟨s5, s6, s7, rfl⟩
    obtain ⟨b, rfl, hbk⟩ : ∃ b, x = .str (sideS b) ∧ ((k = 0 ∧ b = true) ∨ (k = 1 ∧ b = false)) := by
      match k, hx with
      | 0, hx => exact ⟨true, (Option.some.inj hx).symm, .inl ⟨rfl, rfl⟩⟩
      | 1, hx => exact ⟨false, (Option.some.inj hx).symm, .inr ⟨rfl, rfl⟩⟩
      | k + 2, hx => cases hx
    apply VS.q_set
    · walk_at "ev"
    · rfl
    apply VS.ds_for (W := fun t es => ∃ s7, es = [.val (wsD ws), .val (.int p), .val (.int (dealtN ws p)), .own ((foundN ws p fun i => decide (i < ws.length) && (decide (0 < k) && dealsB ws true p i || decide (1 < k) && dealsB ws false p i) || decide (i ∈ (orderN ws b p).take t)).map PyData.int), .no, .val (.str (sideS b)), .val (.int (leftN ws b p t)), s7])
      (xs := (orderN ws b p).map fun i : Nat => PyData.int (i : Int))
    · apply VS.de_call
      · walk_at "ev"
      · exact ⟨ws, b, p, rfl, rfl, hl⟩
    · refine ⟨s7, ?_⟩
      have e1 : leftN ws b p 0 = dealtN ws p := by
        unfold leftN
        have := dealt_nonneg hg p
        simp
        omega
      rw [e1]
      simp
    · rintro t y _ hy ⟨s7, rfl⟩
      obtain ⟨n, hn', rfl⟩ := map_at hy
      obtain ⟨e1, e2⟩ := left_step hn' hg
      obtain ⟨a1, a2, a3⟩ := ahead_take hn'
      apply VS.q_put (d := .int (piece ws p n)) (n := (n : Int)) (k0 := n)
      · rw [← e1]
        refine VS.de_cb (VS.da_cons (VS.de_op (VS.de_op (VS.de_var rfl) (VS.de_var rfl) (VS.d2_ixL (atI_map (wAt_get a3)))) VS.de_int (VS.d2_ixT rfl)) (VS.da_cons (VS.de_var rfl) VS.da_nil)) VS.dc_min2
      · rfl
      · rfl
      · walk_at "ev"
      · refine ixN_at ?_
        rw [List.length_map]
        unfold foundN
        rw [List.length_map, List.length_range]
        exact a3
      apply VS.ds_set (d := .int (leftN ws b p (t + 1)))
      · rw [← e2]
        refine VS.de_op (VS.de_var rfl) (VS.de_op (VS.de_var rfl) (VS.de_var rfl) (VS.d2_ixL ?_)) VS.d2_sub
        rw [show PyData.int (piece ws p n) = PyData.int (piece ws p n) from rfl]
        refine atI_nat ?_
        rw [List.getElem?_set_self]
        rw [List.length_map]
        unfold foundN
        rw [List.length_map, List.length_range]
        exact a3
      · rfl
      · refine ⟨.val (.int (n : Int)), ?_⟩
        have e := found_set (ws := ws) (p := p) (k := n) (done := fun i => decide (i < ws.length) && (decide (0 < k) && dealsB ws true p i || decide (1 < k) && dealsB ws false p i) || decide (i ∈ (orderN ws b p).take t)) (done' := fun i => decide (i < ws.length) && (decide (0 < k) && dealsB ws true p i || decide (1 < k) && dealsB ws false p i) || decide (i ∈ (orderN ws b p).take (t + 1))) (by
          rw [List.take_add_one, hn']
          simp) (fun i hi => by
          rw [List.take_add_one, hn']
          simp [hi])
        rw [← e, List.map_set]
        rfl
    · rintro _ ⟨s7, rfl⟩
      refine ⟨.val (.str (sideS b)), .val (.int (leftN ws b p ((orderN ws b p).map fun i : Nat => PyData.int (i : Int)).length)), s7, ?_⟩
      have e : (fun i => decide (i < ws.length) && (decide (0 < k) && dealsB ws true p i || decide (1 < k) && dealsB ws false p i) || decide (i ∈ (orderN ws b p).take ((orderN ws b p).map fun i : Nat => PyData.int (i : Int)).length)) = fun i => decide (i < ws.length) && (decide (0 < k + 1) && dealsB ws true p i || decide (1 < k + 1) && dealsB ws false p i) := by
        funext i
        rw [List.length_map, List.take_length]
        rw [Bool.eq_iff_iff]
        simp only [Bool.or_eq_true, Bool.and_eq_true, decide_eq_true_eq, order_mem]
        rcases hbk with ⟨rfl, rfl⟩ | ⟨rfl, rfl⟩ <;> simp
        exact and_or_left.symm
      rw [e]
  · rintro _ ⟨s5, s6, s7, rfl⟩
    apply VS.ds_ret
    · exact VS.de_var rfl
    · refine VS.post_ret ?_
      refine congrArg (fun l : List Int => Out.ret (intsD l)) ?_
      unfold foundN piecesN
      refine List.map_congr_left fun i hi => ?_
      have hi := List.mem_range.mp hi
      unfold piece dealsB
      cases hw : willing (wAt ws i) p
      · simp
      · cases hb : (wAt ws i).buy <;> simp [hi, hb, hw]

def pAt (ps : List Int) (k : Nat) : Int := ps.getD k 0
theorem pAt_get {ps : List Int} {k : Nat} (h : k < ps.length) : ps[k]? = some (pAt ps k) := by
  unfold pAt
  rw [List.getD_eq_getElem?_getD, List.getElem?_eq_getElem h]
  rfl
/-- as many as wishes, each from nought to its wish's amount -/
structure PiecesOk (ws : List Wish) (ps : List Int) : Prop where
  len : ps.length = ws.length
  ok : ∀ k, k < ws.length → 0 ≤ pAt ps k ∧ pAt ps k ≤ amtAt ws k
def piecesOkB (ws : List Wish) (xs : List PyData) : Bool := decide (xs.length = ws.length) && (List.range ws.length).all fun k => wholeIn (xs.getD k .none) 0 (amtAt ws k)
theorem piecesOkB_yes {ws : List Wish} {ps : List Int} (h : PiecesOk ws ps) : piecesOkB ws (ps.map PyData.int) = true := by
  unfold piecesOkB
  rw [Bool.and_eq_true, decide_eq_true_eq, List.all_eq_true]
  refine ⟨by rw [List.length_map]; exact h.len, fun k hk => ?_⟩
  have hk := List.mem_range.mp hk
  have e : (ps.map PyData.int).getD k .none = .int (pAt ps k) := by
    rw [List.getD_eq_getElem?_getD, List.getElem?_map, pAt_get (by rw [h.len]; exact hk)]
    rfl
  rw [e]
  exact wholeIn_yes (h.ok k hk)
theorem piecesOkB_len {ws : List Wish} {xs : List PyData} (h : xs.length ≠ ws.length) : piecesOkB ws xs = false := by
  unfold piecesOkB
  rw [decide_eq_false h]
  rfl
theorem piecesOkB_at {ws : List Wish} {xs : List PyData} {k : Nat} (hk : k < ws.length) (h : wholeIn (xs.getD k .none) 0 (amtAt ws k) = false) : piecesOkB ws xs = false := by
  unfold piecesOkB
  rw [Bool.and_eq_false_iff]
  right
  rw [List.all_eq_false]
  exact ⟨k, List.mem_range.mpr hk, by rw [h]; decide⟩
/-- a part is put in another's place -/
def putD (ps : List Int) (k : Nat) (d : PyData) : List PyData := ((ps.map PyData.int).take k ++ [d]) ++ (ps.map PyData.int).drop (k + 1)
theorem putD_at {ps : List Int} {k : Nat} {d : PyData} (h : k < ps.length) : (putD ps k d).getD k .none = d := by
  unfold putD
  have hl : ((ps.map PyData.int).take k).length = k := by
    rw [List.length_take, List.length_map]
    omega
  rw [List.append_assoc, List.getD_eq_getElem?_getD, List.getElem?_append_right (by omega), hl, Nat.sub_self]
  rfl
theorem putD_mem {ps : List Int} {k : Nat} {d x : PyData} (h : x ∈ putD ps k d) : x = d ∨ ∃ n, x = .int n := by
  unfold putD at h
  rcases List.mem_append.mp h with h | h
  · rcases List.mem_append.mp h with h | h
    · obtain ⟨n, _, rfl⟩ := List.mem_map.mp (List.mem_of_mem_take h)
      exact .inr ⟨n, rfl⟩
    · exact .inl (List.mem_singleton.mp h)
  · obtain ⟨n, _, rfl⟩ := List.mem_map.mp (List.mem_of_mem_drop h)
    exact .inr ⟨n, rfl⟩
theorem putD_len {ps : List Int} {k : Nat} {d : PyData} (h : k < ps.length) : (putD ps k d).length = ps.length := by
  unfold putD
  rw [List.length_append, List.length_append, List.length_take, List.length_drop, List.length_map, List.length_singleton]
  omega
def PlainL (xs : List PyData) : Prop := ∀ x ∈ xs, notScr x = true
theorem plain_ints (ps : List Int) : PlainL (ps.map PyData.int) := fun x hx => by
  obtain ⟨n, _, rfl⟩ := List.mem_map.mp hx
  rfl
theorem sh_int (i : Int) : SeqAt.shaped (.int i) = true := by
  unfold SeqAt.shaped
  simp [PyData.canLay0, PyData.depth]
theorem sh_pair {ws : List Wish} {ps : List Int} : SeqAt.shaped (.list [wsD ws, intsD ps]) = true := by
  unfold SeqAt.shaped
  have h1 : PyData.canLayAll0 (ws.map wishD) = true := by
    exact lay_map fun w _ => (wish_lay w).1
  have h2 : PyData.canLayAll0 (ps.map PyData.int) = true := by
    exact lay_map fun w _ => by simp [PyData.canLay0]
  have d1 : (wsD ws).depth ≤ 62 := by
    rw [wsD, PyData.depth]
    have := depth_map (f := wishD) (n := 60) (xs := ws) fun x _ => (wish_lay x).2
    omega
  have d2 : (intsD ps).depth ≤ 62 := by
    rw [intsD, PyData.depth]
    have := depth_map (f := PyData.int) (n := 60) (xs := ps) fun x _ => by simp [PyData.depth]
    omega
  rw [Bool.and_eq_true, decide_eq_true_eq]
  refine ⟨by simp [PyData.canLay0, PyData.canLayAll0, h1, h2], ?_⟩
  rw [PyData.depth, PyData.depthAll, PyData.depthAll, PyData.depthAll]
  omega
def R_checked_pieces (c : Cs) (ds : List PyData) (o : Out) : Prop := ∃ ws xs, ds = [wsD ws, .list xs] ∧ o = (if piecesOkB ws xs = true then .ret .none else .exc c.BadPieces) ∧ PlainL xs ∧ ws.length ≤ 10000
theorem cp_good {c : Cs} {ws : List Wish} {ps : List Int} (h : PiecesOk ws ps) (hl : ws.length ≤ 10000) : R_checked_pieces c [wsD ws, intsD ps] (.ret .none) := ⟨ws, _, rfl, by rw [piecesOkB_yes h]; rfl, plain_ints ps, hl⟩
theorem cp_bad {c : Cs} {ws : List Wish} {xs : List PyData} (h : piecesOkB ws xs = false) (hp : PlainL xs) (hl : ws.length ≤ 10000) : R_checked_pieces c [wsD ws, .list xs] (.exc c.BadPieces) := ⟨ws, _, rfl, by rw [h]; rfl, hp, hl⟩
theorem dAt_get {xs : List PyData} {k : Nat} (h : k < xs.length) : xs[k]? = some (xs.getD k .none) := by
  rw [List.getD_eq_getElem?_getD, List.getElem?_eq_getElem h]
  rfl
-- slots of checked_pieces: 0 wishes 1 pieces 2 number
def t_checked_pieces (K : PySem.W.Frag) (c : Cs) (E : XK) : TS :=
  (tSeq (tIfS (tTest (tOp rNe (tCB (rLenSq K) (tCons (tVar 1) tNil)) (tCB (rLenSq K) (tCons (tVar 0) tNil)))) (tRse E c.BadPieces) tNext)
    (tFor (iRng1 (tCons (tCB (rLenSq K) (tCons (tVar 0) tNil)) tNil)) (gName 2) (tIfS (tNot (tB (tCall (spD K (R_whole_within c)) [] E0 (tCons (tOp (rIxL K) (tVar 1) (tVar 2)) (tCons (tC (.int 0)) (tCons (tOp (rIxT K) (tOp (rIxL K) (tVar 0) (tVar 2)) (tC (.int 2))) tNil)))))) (tRse E c.BadPieces) tNext)))
theorem len_checked_pieces {c : Cs} : ∀ ds o, R_checked_pieces c ds o → ds.length = 2 := by
  rintro _ _ ⟨ws, xs, rfl, _⟩
  rfl
theorem body_checked_pieces {K : PySem.W.Frag} {c : Cs} {E : XK} : ∀ ds o, R_checked_pieces c ds o → DS K E (t_checked_pieces K c E) (slots 3 ds) o.post := by
  rintro _ o ⟨ws, xs, rfl, ho, hp, hl⟩
  unfold t_checked_pieces
  apply VS.q_if (b := !decide (((xs.length : Nat) : Int) = (((ws.map wishD).length : Nat) : Int)))
  · walk_at "ev"
  · intro hb
    have hne : xs.length ≠ ws.length := fun e => by
      rw [List.length_map, e] at hb
      simp at hb
    rw [piecesOkB_len hne] at ho
    exact VS.ds_raise ho
  · intro hb
    have hxl : xs.length = ws.length := by
      rw [List.length_map] at hb
      simp at hb
      omega
    apply VS.ds_forR1 (n := (ws.length : Int)) (W := fun k es => (∃ s, es = [.val (wsD ws), .val (.list xs), s]) ∧ ∀ j, j < k → wholeIn (xs.getD j .none) 0 (amtAt ws j) = true)
    · refine VS.da_cons (VS.de_to (VS.de_cb (by walk_at "ev") VS.dc_len) (by rw [List.length_map])) VS.da_nil
    · omega
    · exact ⟨⟨.no, rfl⟩, fun j hj => absurd hj (Nat.not_lt_zero j)⟩
    · rintro k _ hk ⟨⟨s, rfl⟩, hok⟩
      have hk' : k < ws.length := by omega
      have hw := wAt_get hk'
      have hx := dAt_get (xs := xs) (k := k) (by omega)
      apply VS.ds_if (b := !wholeIn (xs.getD k .none) 0 (amtAt ws k))
      · apply VS.dt_not
        apply VS.dt_B
        apply VS.de_call (xs := [xs.getD k .none, .int 0, .int (amtAt ws k)])
        · refine VS.da_cons (VS.de_op (VS.de_var rfl) (VS.de_var rfl) (VS.d2_ixL (atI_nat hx))) (VS.da_cons VS.de_int (VS.da_cons ?_ VS.da_nil))
          show DE K _ _ (.int (wAt ws k).amount)
          walk_at "ev"
        · exact ⟨_, _, _, rfl, rfl, hp _ (List.mem_of_getElem? hx)⟩
      · intro hb
        have hb : wholeIn (xs.getD k .none) 0 (amtAt ws k) = false := by simpa using hb
        rw [piecesOkB_at hk' hb] at ho
        exact VS.ds_raise ho
      · intro hb
        have hb : wholeIn (xs.getD k .none) 0 (amtAt ws k) = true := by simpa using hb
        refine VS.ds_next ⟨⟨_, rfl⟩, fun j hj => ?_⟩
        by_cases z : j = k
        · rw [z]; exact hb
        · exact hok j (by omega)
    · rintro es ⟨_, hok⟩
      have e : piecesOkB ws xs = true := by
        unfold piecesOkB
        rw [Bool.and_eq_true, decide_eq_true_eq, List.all_eq_true]
        exact ⟨hxl, fun k hk => hok k (by have := List.mem_range.mp hk; omega)⟩
      rw [e] at ho
      exact ho
    · omega

def sideOf (ws : List Wish) (ps : List Int) (b : Bool) : Int := (((List.range ws.length).filter fun k => (wAt ws k).buy == b).map (pAt ps)).sum
def R_of_side (c : Cs) (ds : List PyData) (o : Out) : Prop := ∃ ws ps b, ds = [wsD ws, intsD ps, .str (sideS b)] ∧ o = .ret (.int (sideOf ws ps b)) ∧ ps.length = ws.length ∧ ws.length ≤ 10000
-- slots of of_side: 0 wishes 1 pieces 2 side 3 number
def t_of_side (K : PySem.W.Frag) (c : Cs) (E : XK) : TS :=
  (tRet (tCB (rSum K) (tCons (tLc (iRng1 (tCons (tCB (rLenSq K) (tCons (tVar 0) tNil)) tNil)) (gName 3) (tTest (tOp rEq (tOp (rIxT K) (tOp (rIxL K) (tVar 0) (tVar 3)) (tC (.int 0))) (tVar 2))) (tOp (rIxL K) (tVar 1) (tVar 3)) [3]) tNil)))
theorem len_of_side {c : Cs} : ∀ ds o, R_of_side c ds o → ds.length = 3 := by
  intro ds o h
  grind (ematch := 14) (gen := 20) [R_of_side]
theorem body_of_side {K : PySem.W.Frag} {c : Cs} {E : XK} : ∀ ds o, R_of_side c ds o → DS K E (t_of_side K c E) (slots 4 ds) o.post := by
  rintro _ _ ⟨ws, ps, b, rfl, rfl, hl, hn⟩
  unfold t_of_side
  apply VS.ds_ret (d := .int (sideOf ws ps b))
  · refine VS.de_cb (VS.da_cons (x := intsD (((List.range ws.length).filter fun k => (wAt ws k).buy == b).map (pAt ps))) (VS.de_new ?_) VS.da_nil) VS.dc_sum
    have q := VS.dn_lcR (K := K) (j := 3) (n := ws.length) (ds := see (slots 4 [wsD ws, intsD ps, .str (sideS b)])) (te := tOp (rIxL K) (tVar 1) (tVar 3)) (t := tTest (tOp rEq (tOp (rIxT K) (tOp (rIxL K) (tVar 0) (tVar 3)) (tC (.int 0))) (tVar 2))) (tl := tCons (tCB (rLenSq K) (tCons (tVar 0) tNil)) tNil) (fun k => (wAt ws k).buy == b) (fun k => .int (pAt ps k)) (VS.da_cons (VS.de_to (VS.de_cb (by walk_at "ev") VS.dc_len) (by rw [List.length_map])) VS.da_nil) (by omega) ?_ ?_
    · unfold lcOf at q
      rw [intsD, List.map_map]
      exact q
    · intro i hi
      have hw := wAt_get hi
      refine VS.dt_to (b := decide (sideS (wAt ws i).buy = sideS b)) ?_ sideS_eq
      walk_at "ev"
    · intro i hi _
      have hx := pAt_get (ps := ps) (k := i) (by omega)
      walk_at "ev"
  · exact VS.post_ret rfl

def R_even (c : Cs) (ds : List PyData) (o : Out) : Prop := ∃ ws xs, ds = [wsD ws, .list xs] ∧ PlainL xs ∧ ws.length ≤ 10000 ∧
  ((piecesOkB ws xs = false ∧ o = .exc c.BadPieces) ∨ ∃ ps, xs = ps.map PyData.int ∧ PiecesOk ws ps ∧ o = .ret (.bool (decide (sideOf ws ps true = sideOf ws ps false))))
-- slots of even: 0 wishes 1 pieces
def t_even (K : PySem.W.Frag) (c : Cs) (E : XK) : TS :=
  (tSeq (tDrop (tCall (spD K (R_checked_pieces c)) [] E (tCons (tVar 0) (tCons (tVar 1) tNil))))
    (tRet (tOp rEq (tCall (spD K (R_of_side c)) [] E0 (tCons (tVar 0) (tCons (tVar 1) (tCons (tC (.str "buy")) tNil)))) (tCall (spD K (R_of_side c)) [] E0 (tCons (tVar 0) (tCons (tVar 1) (tCons (tC (.str "sell")) tNil)))))))
theorem len_even {c : Cs} : ∀ ds o, R_even c ds o → ds.length = 2 := by
  rintro _ _ ⟨ws, xs, rfl, _⟩
  rfl
theorem body_even {K : PySem.W.Frag} {c : Cs} {E : XK} : ∀ ds o, R_even c ds o → DS K E (t_even K c E) (slots 2 ds) o.post := by
  rintro _ o ⟨ws, xs, rfl, hp, hl, ho⟩
  unfold t_even
  rcases ho with ⟨hb, rfl⟩ | ⟨ps, rfl, hps, rfl⟩
  · apply VS.ds_seq
    apply VS.ds_dropX
    · apply VS.dx_call
      · walk_at "ev"
      · exact cp_bad hb hp hl
    · rfl
  apply VS.q_drop
  · apply VS.de_call
    · walk_at "ev"
    · exact cp_good hps hl
  apply VS.ds_ret
  · refine VS.de_op (VS.de_call (by walk_at "ev") ⟨ws, ps, true, rfl, rfl, hps.len, hl⟩) (VS.de_call (by walk_at "ev") ⟨ws, ps, false, rfl, rfl, hps.len, hl⟩) VS.d2_eqI
  · exact VS.post_ret rfl

/-! sums over the wishes -/
def sumTo (f : Nat → Int) (n : Nat) : Int := ((List.range n).map f).sum
theorem sumTo_succ (f : Nat → Int) (n : Nat) : sumTo f (n + 1) = sumTo f n + f n := by
  unfold sumTo
  rw [List.range_succ, List.map_append, List.sum_append]
  simp
theorem sumTo_filter (P : Nat → Bool) (f : Nat → Int) (n : Nat) : (((List.range n).filter P).map f).sum = sumTo (fun j => if P j = true then f j else 0) n := by
  induction n with
  | zero => rfl
  | succ n ih =>
    rw [sumTo_succ, ← ih, List.range_succ, List.filter_append, List.map_append, List.sum_append]
    by_cases h : P n = true
    · simp [h]
    · simp [h]
theorem sumTo_congr {f g : Nat → Int} {n : Nat} (h : ∀ j, j < n → f j = g j) : sumTo f n = sumTo g n := by
  induction n with
  | zero => rfl
  | succ n ih =>
    rw [sumTo_succ, sumTo_succ, ih fun j hj => h j (by omega), h n (by omega)]
theorem sumTo_le {f g : Nat → Int} {n : Nat} (h : ∀ j, j < n → f j ≤ g j) : sumTo f n ≤ sumTo g n := by
  induction n with
  | zero => exact Int.le_refl 0
  | succ n ih =>
    rw [sumTo_succ, sumTo_succ]
    have := ih fun j hj => h j (by omega)
    have := h n (by omega)
    omega
theorem sumTo_le_at {f g : Nat → Int} {n k : Nat} {a : Int} (hk : k < n) (h : ∀ j, j < n → f j ≤ g j) (ha : f k + a ≤ g k) : sumTo f n + a ≤ sumTo g n := by
  induction n with
  | zero => omega
  | succ n ih =>
    rw [sumTo_succ, sumTo_succ]
    by_cases z : k = n
    · subst z
      have := sumTo_le (f := f) (g := g) (n := k) fun j hj => h j (by omega)
      omega
    · have := ih (by omega) fun j hj => h j (by omega)
      have := h n (by omega)
      omega
theorem sumTo_nonneg {f : Nat → Int} {n : Nat} (h : ∀ j, j < n → 0 ≤ f j) : 0 ≤ sumTo f n := by
  induction n with
  | zero => exact Int.le_refl 0
  | succ n ih =>
    rw [sumTo_succ]
    have := ih fun j hj => h j (by omega)
    have := h n (by omega)
    omega

/-! who deals with whom -/
structure Deal where
  b : Nat
  s : Nat
  m : Int
def dealD (d : Deal) : PyData := .tuple [.int (d.b : Int), .int (d.s : Int), .int d.m]
def subAt (left : List Int) (k : Nat) (m : Int) : List Int := left.set k (pAt left k - m)
def applyD (left : List Int) (d : Deal) : List Int := subAt (subAt left d.b d.m) d.s d.m
theorem subAt_len (left : List Int) (k : Nat) (m : Int) : (subAt left k m).length = left.length := by
  unfold subAt
  rw [List.length_set]
theorem applyD_len (left : List Int) (d : Deal) : (applyD left d).length = left.length := by
  unfold applyD
  rw [subAt_len, subAt_len]
theorem pAt_set {left : List Int} {k : Nat} {v : Int} (h : k < left.length) (j : Nat) : pAt (left.set k v) j = if j = k then v else pAt left j := by
  unfold pAt
  rw [List.getD_eq_getElem?_getD, List.getElem?_set, List.getD_eq_getElem?_getD]
  by_cases z : k = j
  · rw [if_pos z, if_pos h, if_pos z.symm]
    rfl
  · rw [if_neg z, if_neg fun e => z e.symm]
theorem pAt_subAt {left : List Int} {k : Nat} {m : Int} (h : k < left.length) (j : Nat) : pAt (subAt left k m) j = if j = k then pAt left k - m else pAt left j := by
  unfold subAt
  exact pAt_set h j
theorem sumS_filter (P : Nat → Bool) (f : Nat → Int) (n : Nat) : (((List.range n).filter P).map f).sum = sumTo (fun j => if P j = true then f j else 0) n := sumTo_filter P f n
theorem sideOf_sum (ws : List Wish) (ps : List Int) (b : Bool) : sideOf ws ps b = sumTo (fun j => if ((wAt ws j).buy == b) = true then pAt ps j else 0) ws.length := sumTo_filter _ _ _
theorem sumTo_change {f g : Nat → Int} {n k : Nat} (hk : k < n) (h : ∀ j, j ≠ k → f j = g j) : sumTo g n = sumTo f n + (g k - f k) := by
  induction n with
  | zero => omega
  | succ n ih =>
    rw [sumTo_succ, sumTo_succ]
    by_cases z : k = n
    · subst z
      rw [sumTo_congr (f := g) (g := f) (n := k) fun j hj => (h j (by omega)).symm]
      omega
    · rw [ih (by omega), h n fun e => z e.symm]
      omega
theorem sideOf_set {ws : List Wish} {left : List Int} {k : Nat} {v : Int} (b : Bool) (hl : left.length = ws.length) (hk : k < ws.length) : sideOf ws (left.set k v) b = sideOf ws left b + (if ((wAt ws k).buy == b) = true then v - pAt left k else 0) := by
  rw [sideOf_sum, sideOf_sum, sumTo_change hk (f := fun j => if ((wAt ws j).buy == b) = true then pAt left j else 0) (fun j hj => by
    rw [pAt_set (by omega), if_neg hj])]
  rw [pAt_set (by omega), if_pos rfl]
  split <;> omega
theorem sideOf_nonneg {ws : List Wish} {left : List Int} (b : Bool) (h : ∀ k, k < ws.length → 0 ≤ pAt left k) : 0 ≤ sideOf ws left b := by
  rw [sideOf_sum]
  refine sumTo_nonneg fun j hj => ?_
  split
  · exact h j hj
  · exact Int.le_refl 0
theorem sideOf_le {ws : List Wish} {left : List Int} {b : Bool} {k : Nat} (h : ∀ k, k < ws.length → 0 ≤ pAt left k) (hk : k < ws.length) (hb : (wAt ws k).buy = b) : pAt left k ≤ sideOf ws left b := by
  rw [sideOf_sum]
  have q := sumTo_le_at (f := fun _ => 0) (g := fun j => if ((wAt ws j).buy == b) = true then pAt left j else 0) (n := ws.length) (k := k) (a := pAt left k) hk (fun j hj => by
    split
    · exact h j hj
    · exact Int.le_refl 0) (by simp [hb])
  have z : ∀ n, sumTo (fun _ => 0) n = 0 := fun n => by
    induction n with
    | zero => rfl
    | succ n ih => rw [sumTo_succ, ih]; rfl
  rw [z] at q
  omega
theorem sideOf_zero {ws : List Wish} {left : List Int} {b : Bool} (h : ∀ k, k < ws.length → (wAt ws k).buy = b → pAt left k = 0) : sideOf ws left b = 0 := by
  rw [sideOf_sum, sumTo_congr (g := fun _ => 0) (fun j hj => by
    split
    · rename_i q
      exact h j hj (beq_iff_eq.mp q)
    · rfl)]
  generalize ws.length = n
  induction n with
  | zero => rfl
  | succ n ih => rw [sumTo_succ, ih]; rfl
def sellersN (ws : List Wish) (ps : List Int) : List Nat := (List.range ws.length).filter fun k => !(wAt ws k).buy && decide (0 < pAt ps k)
theorem sellers_mem {ws : List Wish} {ps : List Int} {k : Nat} : k ∈ sellersN ws ps ↔ k < ws.length ∧ (wAt ws k).buy = false ∧ 0 < pAt ps k := by
  unfold sellersN
  rw [List.mem_filter, List.mem_range]
  simp
theorem sellers_lt (ws : List Wish) (ps : List Int) : (sellersN ws ps).Pairwise (· < ·) := List.pairwise_lt_range.filter _
theorem sellers_len (ws : List Wish) (ps : List Int) : (sellersN ws ps).length ≤ ws.length := by
  unfold sellersN
  refine Nat.le_trans (List.length_filter_le _ _) ?_
  rw [List.length_range]
  exact Nat.le_refl _
def sellAt (ws : List Wish) (ps : List Int) (t : Nat) : Nat := (sellersN ws ps).getD t 0
theorem sellAt_get {ws : List Wish} {ps : List Int} {t : Nat} (h : t < (sellersN ws ps).length) : (sellersN ws ps)[t]? = some (sellAt ws ps t) := by
  unfold sellAt
  rw [List.getD_eq_getElem?_getD, List.getElem?_eq_getElem h]
  rfl
theorem sellAt_mem {ws : List Wish} {ps : List Int} {t : Nat} (h : t < (sellersN ws ps).length) : sellAt ws ps t < ws.length ∧ (wAt ws (sellAt ws ps t)).buy = false ∧ 0 < pAt ps (sellAt ws ps t) := sellers_mem.mp (List.mem_of_getElem? (sellAt_get h))
theorem sellAt_lt {ws : List Wish} {ps : List Int} {t u : Nat} (h : t < u) (hu : u < (sellersN ws ps).length) : sellAt ws ps t < sellAt ws ps u := by
  have h1 := sellAt_get (ws := ws) (ps := ps) (t := t) (by omega)
  have h2 := sellAt_get hu
  have h3 := List.pairwise_iff_getElem.mp (sellers_lt ws ps) t u (by omega) hu h
  rw [List.getElem?_eq_getElem (by omega)] at h1
  rw [List.getElem?_eq_getElem hu] at h2
  rw [Option.some.inj h1, Option.some.inj h2] at h3
  exact h3
structure PSt where
  left : List Int
  found : List Deal
  at' : Nat
def pairMany (ws : List Wish) (ps : List Int) (i : Nat) (s : PSt) : Int := min (pAt s.left i) (pAt s.left (sellAt ws ps s.at'))
def pairDeal (ws : List Wish) (ps : List Int) (i : Nat) (s : PSt) : Deal := ⟨i, sellAt ws ps s.at', pairMany ws ps i s⟩
def pairStep (ws : List Wish) (ps : List Int) (i : Nat) (s : PSt) : PSt :=
  ⟨applyD s.left (pairDeal ws ps i s), s.found ++ [pairDeal ws ps i s], if pAt (applyD s.left (pairDeal ws ps i s)) (sellAt ws ps s.at') = 0 then s.at' + 1 else s.at'⟩
def pairGo (ws : List Wish) (i : Nat) (s : PSt) : Bool := (wAt ws i).buy && decide (0 < pAt s.left i)
def pairRun (ws : List Wish) (ps : List Int) (i : Nat) : Nat → PSt → PSt
  | 0, s => s
  | f + 1, s => if pairGo ws i s = true then pairRun ws ps i f (pairStep ws ps i s) else s
theorem pairRun_stop {ws : List Wish} {ps : List Int} {i : Nat} {s : PSt} (h : pairGo ws i s = false) : ∀ f, pairRun ws ps i f s = s
  | 0 => rfl
  | f + 1 => by rw [pairRun, if_neg (by rw [h]; decide)]
abbrev fuelN (ws : List Wish) : Nat := ws.length + 2
def pairTo (ws : List Wish) (ps : List Int) : Nat → PSt
  | 0 => ⟨ps, [], 0⟩
  | i + 1 => pairRun ws ps i (fuelN ws) (pairTo ws ps i)
def pairsN (ws : List Wish) (ps : List Int) : List Deal := (pairTo ws ps ws.length).found
/-- the deal stands between a buyer and a seller of the pieces -/
structure DealOk (ws : List Wish) (ps : List Int) (d : Deal) : Prop where
  bl : d.b < ws.length
  sl : d.s < ws.length
  many : 1 ≤ d.m
  buy : (wAt ws d.b).buy = true
  sell : (wAt ws d.s).buy = false
  bp : d.m ≤ pAt ps d.b
  sp : d.m ≤ pAt ps d.s
structure PInv (ws : List Wish) (ps : List Int) (i : Nat) (s : PSt) : Prop where
  len : s.left.length = ws.length
  nn : ∀ k, k < ws.length → 0 ≤ pAt s.left k
  le : ∀ k, k < ws.length → pAt s.left k ≤ pAt ps k
  bal : sideOf ws s.left true = sideOf ws s.left false
  done : ∀ k, k < i → k < ws.length → (wAt ws k).buy = true → pAt s.left k = 0
  gone : ∀ t, t < s.at' → t < (sellersN ws ps).length → pAt s.left (sellAt ws ps t) = 0
  here : ∀ t, s.at' ≤ t → t < (sellersN ws ps).length → 0 < pAt s.left (sellAt ws ps t)
  ok : ∀ d ∈ s.found, DealOk ws ps d
  fold : s.left = s.found.foldl applyD ps
  chain : s.found.Pairwise fun d e => d.b ≤ e.b ∧ d.s ≤ e.s ∧ (d.b < e.b ∨ d.s < e.s)
  last : ∀ d ∈ s.found, d.b ≤ i ∧ ∀ t, s.at' ≤ t → t < (sellersN ws ps).length → d.s ≤ sellAt ws ps t ∧ (d.b < i ∨ d.s < sellAt ws ps t ∨ pAt s.left i = 0)
  atl : s.at' ≤ (sellersN ws ps).length
  few : s.found.length ≤ i + s.at' + (if pAt s.left i = 0 then 1 else 0)
def pairMeas (ws : List Wish) (ps : List Int) (i : Nat) (s : PSt) : Nat := (sellersN ws ps).length - s.at' + (if pairGo ws i s = true then 1 else 0)
theorem pair_first {ws : List Wish} {ps : List Int} (h : PiecesOk ws ps) (hb : sideOf ws ps true = sideOf ws ps false) : PInv ws ps 0 ⟨ps, [], 0⟩ :=
  ⟨h.len, fun k hk => (h.ok k hk).1, fun k _ => Int.le_refl _, hb, fun k hk => absurd hk (Nat.not_lt_zero k), fun t ht => absurd ht (Nat.not_lt_zero t), fun t _ ht => (sellAt_mem ht).2.2, (fun d hd => by cases hd), rfl, List.Pairwise.nil, (fun d hd => by cases hd), Nat.zero_le _, Nat.zero_le _⟩
theorem pair_at {ws : List Wish} {ps : List Int} {i : Nat} {s : PSt} (I : PInv ws ps i s) (hi : i < ws.length) (hg : pairGo ws i s = true) : s.at' < (sellersN ws ps).length := by
  unfold pairGo at hg
  rw [Bool.and_eq_true, decide_eq_true_eq] at hg
  have h1 := sideOf_le I.nn hi hg.1
  have h2 := I.bal
  refine Nat.lt_of_not_le fun hle => ?_
  have h3 : sideOf ws s.left false = 0 := sideOf_zero fun k hk hb => by
    by_cases z : 0 < pAt ps k
    · obtain ⟨t, ht, e⟩ := List.mem_iff_getElem.mp (sellers_mem.mpr ⟨hk, hb, z⟩)
      have g := I.gone t (by omega) ht
      have e' := sellAt_get ht
      rw [List.getElem?_eq_getElem ht, e] at e'
      rw [← Option.some.inj e'] at g
      exact g
    · have := I.nn k hk
      have := I.le k hk
      omega
  omega
theorem pAt_apply {left : List Int} {d : Deal} (hb : d.b < left.length) (hs : d.s < left.length) (hn : d.b ≠ d.s) (j : Nat) : pAt (applyD left d) j = if j = d.s then pAt left d.s - d.m else if j = d.b then pAt left d.b - d.m else pAt left j := by
  unfold applyD
  rw [pAt_subAt (by rw [subAt_len]; exact hs), pAt_subAt hb, pAt_subAt hb, if_neg (show ¬ d.s = d.b from fun e => hn e.symm)]
theorem sideOf_subAt {ws : List Wish} {left : List Int} {k : Nat} {m : Int} (b : Bool) (hl : left.length = ws.length) (hk : k < ws.length) : sideOf ws (subAt left k m) b = sideOf ws left b - (if ((wAt ws k).buy == b) = true then m else 0) := by
  unfold subAt
  rw [sideOf_set b hl hk]
  split <;> omega
theorem pair_next {ws : List Wish} {ps : List Int} {i : Nat} {s : PSt} (I : PInv ws ps i s) (hi : i < ws.length) (hg : pairGo ws i s = true) : PInv ws ps i (pairStep ws ps i s) ∧ pairMeas ws ps i (pairStep ws ps i s) < pairMeas ws ps i s := by
  have hat := pair_at I hi hg
  obtain ⟨s1, s2, s3⟩ := sellAt_mem hat
  have hgo := hg
  unfold pairGo at hgo
  rw [Bool.and_eq_true, decide_eq_true_eq] at hgo
  obtain ⟨hbuy, hpos⟩ := hgo
  have hhere := I.here s.at' (Nat.le_refl _) hat
  have hlen := I.len
  have hne : i ≠ sellAt ws ps s.at' := fun e => by
    rw [← e, hbuy] at s2
    cases s2
  have hP : ∀ j, pAt (pairStep ws ps i s).left j = if j = sellAt ws ps s.at' then pAt s.left (sellAt ws ps s.at') - pairMany ws ps i s else if j = i then pAt s.left i - pairMany ws ps i s else pAt s.left j := fun j =>
    pAt_apply (d := pairDeal ws ps i s) (by show i < _; omega) (by show sellAt ws ps s.at' < _; omega) hne j
  have hm1 : pairMany ws ps i s = min (pAt s.left i) (pAt s.left (sellAt ws ps s.at')) := rfl
  have hat' : (pairStep ws ps i s).at' = if pAt (pairStep ws ps i s).left (sellAt ws ps s.at') = 0 then s.at' + 1 else s.at' := rfl
  have hPi : pAt (pairStep ws ps i s).left i = pAt s.left i - pairMany ws ps i s := by rw [hP, if_neg hne, if_pos rfl]
  have hPs : pAt (pairStep ws ps i s).left (sellAt ws ps s.at') = pAt s.left (sellAt ws ps s.at') - pairMany ws ps i s := by rw [hP, if_pos rfl]
  have hf : (pairStep ws ps i s).found = s.found ++ [pairDeal ws ps i s] := rfl
  have hcase : ((pairStep ws ps i s).at' = s.at' + 1 ∧ pAt (pairStep ws ps i s).left (sellAt ws ps s.at') = 0) ∨ ((pairStep ws ps i s).at' = s.at' ∧ pAt (pairStep ws ps i s).left i = 0 ∧ 0 < pAt (pairStep ws ps i s).left (sellAt ws ps s.at')) := by
    by_cases z : pAt (pairStep ws ps i s).left (sellAt ws ps s.at') = 0
    · exact .inl ⟨by rw [hat', if_pos z], z⟩
    · exact .inr ⟨by rw [hat', if_neg z], by omega, by omega⟩
  have hll : (pairStep ws ps i s).left = applyD s.left (pairDeal ws ps i s) := rfl
  have hlt : ∀ t, s.at' < t → t < (sellersN ws ps).length → sellAt ws ps s.at' < sellAt ws ps t := fun t h1 h2 => sellAt_lt h1 h2
  have hot : ∀ t, t ≠ s.at' → t < (sellersN ws ps).length → pAt (pairStep ws ps i s).left (sellAt ws ps t) = pAt s.left (sellAt ws ps t) := fun t h1 h2 => by
    have h3 := (sellAt_mem h2).2.1
    rw [hP, if_neg, if_neg]
    · intro e
      rw [e, hbuy] at h3
      cases h3
    · intro e
      rcases Nat.lt_or_gt_of_ne h1 with z | z
      · have := sellAt_lt z hat
        omega
      · have := sellAt_lt z h2
        omega
  refine ⟨⟨?_, ?_, ?_, ?_, ?_, ?_, ?_, ?_, ?_, ?_, ?_, ?_, ?_⟩, ?_⟩
  · rw [hll, applyD_len]
    exact hlen
  · intro k hk
    have := I.nn k hk
    have := I.nn i hi
    rw [hP]
    split
    · omega
    · split <;> omega
  · intro k hk
    have := I.le k hk
    rw [hP]
    split
    · rename_i e
      rw [e] at this
      rw [e]
      omega
    · split
      · rename_i e
        rw [e] at this
        rw [e]
        omega
      · omega
  · have hb := I.bal
    rw [show (pairStep ws ps i s).left = subAt (subAt s.left i (pairMany ws ps i s)) (sellAt ws ps s.at') (pairMany ws ps i s) from rfl]
    rw [sideOf_subAt true (by rw [subAt_len]; exact hlen) s1, sideOf_subAt true hlen hi, sideOf_subAt false (by rw [subAt_len]; exact hlen) s1, sideOf_subAt false hlen hi]
    rw [hbuy, s2, hb]
    simp
  · intro k hk hkn hkb
    have := I.done k hk hkn hkb
    rw [hP, if_neg, if_neg (by omega)]
    · exact this
    · intro e
      rw [← e, hkb] at s2
      cases s2
  · intro t ht htl
    by_cases z : t = s.at'
    · rcases hcase with ⟨h1, h2⟩ | ⟨h1, h2, h3⟩
      · rw [z]
        exact h2
      · omega
    · rw [hot t z htl]
      refine I.gone t ?_ htl
      rcases hcase with ⟨h1, h2⟩ | ⟨h1, h2, h3⟩ <;> omega
  · intro t ht htl
    by_cases z : t = s.at'
    · rcases hcase with ⟨h1, h2⟩ | ⟨h1, h2, h3⟩
      · omega
      · rw [z]
        exact h3
    · rw [hot t z htl]
      refine I.here t ?_ htl
      rcases hcase with ⟨h1, h2⟩ | ⟨h1, h2, h3⟩ <;> omega
  · intro d hd
    rw [hf] at hd
    rcases List.mem_append.mp hd with h | h
    · exact I.ok d h
    · rw [List.mem_singleton.mp h]
      have h1 := I.le i hi
      have h2 := I.le _ s1
      refine ⟨hi, s1, ?_, hbuy, s2, ?_, ?_⟩
      · show 1 ≤ pairMany ws ps i s
        omega
      · show pairMany ws ps i s ≤ pAt ps i
        omega
      · show pairMany ws ps i s ≤ pAt ps (sellAt ws ps s.at')
        omega
  · rw [hf, List.foldl_append, ← I.fold]
    rfl
  · rw [hf]
    refine List.pairwise_append.mpr ⟨I.chain, List.pairwise_singleton _ _, fun d hd e he => ?_⟩
    rw [List.mem_singleton.mp he]
    have h1 := I.last d hd
    have h2 := h1.2 s.at' (Nat.le_refl _) hat
    refine ⟨h1.1, h2.1, ?_⟩
    show d.b < i ∨ d.s < sellAt ws ps s.at'
    omega
  · intro d hd
    rw [hf] at hd
    rcases List.mem_append.mp hd with h | h
    · have h1 := I.last d h
      refine ⟨h1.1, fun t ht htl => ?_⟩
      have h2 := h1.2 t (by rcases hcase with ⟨h1, h2⟩ | ⟨h1, h2, h3⟩ <;> omega) htl
      refine ⟨h2.1, ?_⟩
      omega
    · rw [List.mem_singleton.mp h]
      refine ⟨Nat.le_refl i, fun t ht htl => ?_⟩
      show sellAt ws ps s.at' ≤ sellAt ws ps t ∧ (i < i ∨ sellAt ws ps s.at' < sellAt ws ps t ∨ _)
      rcases hcase with ⟨h1, h2⟩ | ⟨h1, h2, h3⟩
      · have := hlt t (by omega) htl
        omega
      · by_cases z : t = s.at'
        · rw [z]
          exact ⟨Nat.le_refl _, .inr (.inr h2)⟩
        · have := hlt t (by omega) htl
          omega
  · rcases hcase with ⟨h1, h2⟩ | ⟨h1, h2, h3⟩ <;> omega
  · have h1 := I.few
    rw [if_neg (by omega)] at h1
    rw [hf, List.length_append, List.length_singleton]
    rcases hcase with ⟨h1, h2⟩ | ⟨h1, h2, h3⟩
    · omega
    · rw [if_pos h2]
      omega
  · unfold pairMeas
    rw [if_pos hg]
    rcases hcase with ⟨h1, h2⟩ | ⟨h1, h2, h3⟩
    · split <;> omega
    · rw [if_neg]
      · omega
      · unfold pairGo
        rw [h2]
        simp
theorem pair_move {ws : List Wish} {ps : List Int} {i : Nat} {s : PSt} (I : PInv ws ps i s) (hg : pairGo ws i s = false) : PInv ws ps (i + 1) s := by
  refine ⟨I.len, I.nn, I.le, I.bal, fun k hk hkn hkb => ?_, I.gone, I.here, I.ok, I.fold, I.chain, fun d hd => ?_, I.atl, ?_⟩
  · by_cases z : k = i
    · subst z
      have := I.nn k hkn
      unfold pairGo at hg
      rw [hkb, Bool.true_and, decide_eq_false_iff_not] at hg
      omega
    · exact I.done k (by omega) hkn hkb
  · have h1 := I.last d hd
    exact ⟨by omega, fun t ht htl => ⟨(h1.2 t ht htl).1, .inl (by omega)⟩⟩
  · have := I.few
    split at this <;> split <;> omega
theorem pairRun_inv {ws : List Wish} {ps : List Int} {i : Nat} (hi : i < ws.length) : ∀ f s, PInv ws ps i s → pairMeas ws ps i s ≤ f → PInv ws ps i (pairRun ws ps i f s) ∧ pairGo ws i (pairRun ws ps i f s) = false
  | 0, s, I, hm => by
    refine ⟨I, ?_⟩
    show pairGo ws i s = false
    unfold pairMeas at hm
    cases z : pairGo ws i s with
    | false => rfl
    | true => rw [if_pos z] at hm; omega
  | f + 1, s, I, hm => by
    rw [pairRun]
    by_cases z : pairGo ws i s = true
    · rw [if_pos z]
      have h := pair_next I hi z
      exact pairRun_inv hi f _ h.1 (by omega)
    · rw [if_neg z]
      exact ⟨I, by simpa using z⟩
theorem pairMeas_le (ws : List Wish) (ps : List Int) (i : Nat) (s : PSt) : pairMeas ws ps i s ≤ fuelN ws := by
  unfold pairMeas fuelN
  have := sellers_len ws ps
  split <;> omega
theorem pairTo_inv {ws : List Wish} {ps : List Int} (h : PiecesOk ws ps) (hb : sideOf ws ps true = sideOf ws ps false) : ∀ i, i ≤ ws.length → PInv ws ps i (pairTo ws ps i)
  | 0, _ => pair_first h hb
  | i + 1, hi => by
    have I := pairTo_inv h hb i (by omega)
    have q := pairRun_inv (i := i) (by omega) (fuelN ws) _ I (pairMeas_le ws ps i _)
    exact pair_move q.1 q.2
/-- what the deals do -/
structure PairsOk (ws : List Wish) (ps : List Int) (D : List Deal) : Prop where
  ok : ∀ d ∈ D, DealOk ws ps d
  chain : D.Pairwise fun d e => d.b ≤ e.b ∧ d.s ≤ e.s ∧ (d.b < e.b ∨ d.s < e.s)
  zero : D.foldl applyD ps = List.replicate ws.length 0
  few : D.length ≤ 2 * ws.length + 1
theorem pairsN_ok {ws : List Wish} {ps : List Int} (h : PiecesOk ws ps) (hb : sideOf ws ps true = sideOf ws ps false) : PairsOk ws ps (pairsN ws ps) := by
  have I := pairTo_inv h hb ws.length (Nat.le_refl _)
  unfold pairsN
  refine ⟨I.ok, I.chain, ?_, ?_⟩
  · rw [← I.fold]
    have ht : sideOf ws (pairTo ws ps ws.length).left true = 0 := sideOf_zero fun k hk hb => I.done k hk hk hb
    have hbal := I.bal
    refine List.ext_getElem? fun k => ?_
    by_cases hk : k < ws.length
    · rw [pAt_get (by rw [I.len]; exact hk), List.getElem?_replicate, if_pos hk]
      refine congrArg some ?_
      cases hw : (wAt ws k).buy with
      | true => exact I.done k hk hk hw
      | false =>
        have h1 := sideOf_le I.nn hk hw
        have h2 := I.nn k hk
        omega
    · rw [List.getElem?_eq_none (by rw [I.len]; omega), List.getElem?_eq_none (by rw [List.length_replicate]; omega)]
  · have h1 := I.few
    have h2 := I.atl
    have h3 := sellers_len ws ps
    split at h1 <;> omega

theorem ds_ifNX {K : PySem.W.Frag} {E : XK} {te : TE} {t u : TS} {es : List Slot} {P : Post} {C : Addr} (h : DX K te (see es) E C) (k : P.ex C) : DS K E (tIfS (tNot (tB te)) t u) es P := fun F0 H0 F H σ D A M =>
  h _ σ A.envV H A.seen2 _ fun H' e => M.ex C H' (A.h0.trans e) k
abbrev dealsD (D : List Deal) : PyData := .list (D.map dealD)
abbrev natsD (ns : List Nat) : PyData := .list (ns.map fun k : Nat => PyData.int (k : Int))
def R_pairs (c : Cs) (ds : List PyData) (o : Out) : Prop := ∃ ws xs, ds = [wsD ws, .list xs] ∧ PlainL xs ∧ ws.length ≤ 10000 ∧
  ((piecesOkB ws xs = false ∧ o = .exc c.BadPieces) ∨ ∃ ps, xs = ps.map PyData.int ∧ PiecesOk ws ps ∧ ((sideOf ws ps true ≠ sideOf ws ps false ∧ o = .exc c.Uneven) ∨ (sideOf ws ps true = sideOf ws ps false ∧ o = .new ((pairsN ws ps).map dealD))))
-- slots of pairs: 0 wishes 1 pieces 2 sellers 3 number 4 left 5 found 6 at 7 buyer 8 seller 9 many
def t_pairs (K : PySem.W.Frag) (c : Cs) (E : XK) : TS :=
  (tSeq (tIfS (tNot (tB (tCall (spD K (R_even c)) [] E (tCons (tVar 0) (tCons (tVar 1) tNil))))) (tRse E c.Uneven) tNext)
    (tSeq (tAsg (tLc (iRng1 (tCons (tCB (rLenSq K) (tCons (tVar 0) tNil)) tNil)) (gName 3) (tAnd (tTest (tOp rEq (tOp (rIxT K) (tOp (rIxL K) (tVar 0) (tVar 3)) (tC (.int 0))) (tC (.str "sell")))) (tTest (tOp rGtI (tOp (rIxL K) (tVar 1) (tVar 3)) (tC (.int 0))))) (tVar 3) [3]) (gName 2))
    (tSeq (tAsg (tCB (rListOf K) (tCons (tVar 1) tNil)) (gName 4))
    (tSeq (tAsg (tLst tNil) (gName 5))
    (tSeq (tAsg (tC (.int 0)) (gName 6))
    (tSeq (tFor (iRng1 (tCons (tCB (rLenSq K) (tCons (tVar 0) tNil)) tNil)) (gName 7) (tWhile (tAnd (tTest (tOp rEq (tOp (rIxT K) (tOp (rIxL K) (tVar 0) (tVar 7)) (tC (.int 0))) (tC (.str "buy")))) (tTest (tOp rGtI (tOp (rIxL K) (tVar 4) (tVar 7)) (tC (.int 0))))) (tSeq (tAsg (tOp (rIxL K) (tVar 2) (tVar 6)) (gName 8))
    (tSeq (tAsg (tCB rMin2 (tCons (tOp (rIxL K) (tVar 4) (tVar 7)) (tCons (tOp (rIxL K) (tVar 4) (tVar 8)) tNil))) (gName 9))
    (tSeq (tDrop (tBM K "list" rAppend (tVar 5) (tCons (tTup (tCons (tVar 7) (tCons (tVar 8) (tCons (tVar 9) tNil)))) tNil)))
    (tSeq (tAsg (tOp rSubI (tOp (rIxL K) (tVar 4) (tVar 7)) (tVar 9)) (gSub (tVar 4) (tVar 7) rSetL))
    (tSeq (tAsg (tOp rSubI (tOp (rIxL K) (tVar 4) (tVar 8)) (tVar 9)) (gSub (tVar 4) (tVar 8) rSetL))
    (tIfS (tTest (tOp rEq (tOp (rIxL K) (tVar 4) (tVar 8)) (tC (.int 0)))) (tAsg (tOp rAddI (tVar 6) (tC (.int 1))) (gName 6)) tNext))))))))
    (tRet (tVar 5))))))))
theorem len_pairs {c : Cs} : ∀ ds o, R_pairs c ds o → ds.length = 2 := by
  rintro _ _ ⟨ws, xs, rfl, _⟩
  rfl
theorem body_pairs {K : PySem.W.Frag} {c : Cs} {E : XK} : ∀ ds o, R_pairs c ds o → DS K E (t_pairs K c E) (slots 10 ds) o.post := by
  rintro _ o ⟨ws, xs, rfl, hp, hl, ho⟩
  unfold t_pairs
  rcases ho with ⟨hb, rfl⟩ | ⟨ps, rfl, hps, ⟨hu, rfl⟩ | ⟨hu, rfl⟩⟩
  · apply VS.ds_seq
    apply ds_ifNX (C := c.BadPieces)
    · apply VS.dx_call
      · walk_at "ev"
      · exact ⟨ws, xs, rfl, hp, hl, .inl ⟨hb, rfl⟩⟩
    · rfl
  · apply VS.q_if (b := true)
    · refine VS.dt_to (b := !decide (sideOf ws ps true = sideOf ws ps false)) (VS.dt_not (VS.dt_B (VS.de_call ?_ ⟨ws, _, rfl, hp, hl, .inr ⟨ps, rfl, hps, rfl⟩⟩))) (by rw [decide_eq_false hu]; rfl)
      walk_at "ev"
    · intro _
      exact VS.ds_raise rfl
    · intro z
      cases z
  apply VS.q_guard
  · refine VS.dt_to (b := !decide (sideOf ws ps true = sideOf ws ps false)) (VS.dt_not (VS.dt_B (VS.de_call ?_ ⟨ws, _, rfl, hp, hl, .inr ⟨ps, rfl, hps, rfl⟩⟩))) (by rw [decide_eq_true hu]; rfl)
    walk_at "ev"
  have hn := hps.len
  apply VS.q_let (d := natsD (sellersN ws ps))
  · apply VS.de_new
    have q := VS.dn_lcR (K := K) (j := 3) (n := ws.length) (ds := frz (slots 10 [wsD ws, intsD ps])) (te := tVar 3) (t := tAnd (tTest (tOp rEq (tOp (rIxT K) (tOp (rIxL K) (tVar 0) (tVar 3)) (tC (.int 0))) (tC (.str "sell")))) (tTest (tOp rGtI (tOp (rIxL K) (tVar 1) (tVar 3)) (tC (.int 0))))) (tl := tCons (tCB (rLenSq K) (tCons (tVar 0) tNil)) tNil) (fun k => !(wAt ws k).buy && decide (0 < pAt ps k)) (fun k => .int ((k : Nat) : Int)) (VS.da_cons (VS.de_to (VS.de_cb (by walk_at "ev") VS.dc_len) (by rw [List.length_map])) VS.da_nil) (by omega) ?_ ?_
    · exact q
    · intro i hi
      have hw := wAt_get hi
      have hx := pAt_get (ps := ps) (k := i) (by omega)
      refine VS.dt_to (b := decide (sideS (wAt ws i).buy = "sell") && decide (0 < pAt ps i)) ?_ (by rw [sideS_sell])
      walk_at "ev"
    · intro i hi _
      exact VS.de_var rfl
  apply VS.q_new (xs := ps.map PyData.int)
  · walk_at "ev"
  apply VS.q_new
  · walk_at "ev"
  apply VS.q_set
  · walk_at "ev"
  · rfl
  apply VS.q_forR1 (n := (ws.length : Int)) (W := fun k es => ∃ s7 s8 s9, es = [.val (wsD ws), .val (intsD ps), .val (natsD (sellersN ws ps)), .no, .own ((pairTo ws ps k).left.map PyData.int), .own ((pairTo ws ps k).found.map dealD), .val (.int ((pairTo ws ps k).at' : Int)), s7, s8, s9])
  · refine VS.da_cons (VS.de_to (VS.de_cb (by walk_at "ev") VS.dc_len) (by rw [List.length_map])) VS.da_nil
  · omega
  · exact ⟨.no, .no, .no, rfl⟩
  · rintro i _ hi ⟨s7, s8, s9, rfl⟩
    have hi' : i < ws.length := by omega
    have hw := wAt_get hi'
    apply VS.ds_while (m0 := fuelN ws) (W := fun m es => ∃ st s8 s9, es = [.val (wsD ws), .val (intsD ps), .val (natsD (sellersN ws ps)), .no, .own (st.left.map PyData.int), .own (st.found.map dealD), .val (.int (st.at' : Int)), .val (.int (i : Int)), s8, s9] ∧ PInv ws ps i st ∧ pairMeas ws ps i st ≤ m ∧ pairRun ws ps i m st = pairTo ws ps (i + 1))
    · exact ⟨pairTo ws ps i, s8, s9, rfl, pairTo_inv hps hu i (by omega), pairMeas_le ws ps i _, rfl⟩
    · rintro m _ ⟨st, s8, s9, rfl, I, hm, hr⟩
      have hli := pAt_get (ps := st.left) (k := i) (by rw [I.len]; exact hi')
      refine ⟨pairGo ws i st, ?_, fun hg => ?_, fun hg => ?_⟩
      · unfold pairGo
        refine VS.dt_to (b := decide (sideS (wAt ws i).buy = "buy") && decide (0 < pAt st.left i)) ?_ (by rw [sideS_buy])
        walk_at "ev"
      · have hat := pair_at I hi' hg
        have hsg := sellAt_get hat
        obtain ⟨s1, s2, s3⟩ := sellAt_mem hat
        have hls := pAt_get (ps := st.left) (k := sellAt ws ps st.at') (by rw [I.len]; exact s1)
        have nx := pair_next I hi' hg
        have hfew := I.few
        have hatl := I.atl
        have hsl := sellers_len ws ps
        obtain ⟨m', rfl⟩ : ∃ m', m = m' + 1 := ⟨m - 1, by omega⟩
        have hr' : pairRun ws ps i m' (pairStep ws ps i st) = pairTo ws ps (i + 1) := by
          rw [← hr, pairRun, if_pos hg]
        have hps' : pairStep ws ps i st = ⟨applyD st.left (pairDeal ws ps i st), st.found ++ [pairDeal ws ps i st], if pAt (applyD st.left (pairDeal ws ps i st)) (sellAt ws ps st.at') = 0 then st.at' + 1 else st.at'⟩ := rfl
        generalize hsd : sellAt ws ps st.at' = sl at *
        have hmd : pairMany ws ps i st = min (pAt st.left i) (pAt st.left sl) := by
          unfold pairMany
          rw [hsd]
        have hdd : pairDeal ws ps i st = ⟨i, sl, pairMany ws ps i st⟩ := by
          unfold pairDeal
          rw [hsd]
        generalize pairMany ws ps i st = many at hmd hdd
        apply VS.q_set (d := .int (sl : Int))
        · walk_at "ev"
        · rfl
        apply VS.q_set (d := .int many)
        · rw [hmd]
          walk_at "ev"
        · rfl
        apply VS.q_appV (i := 5) (d := dealD ⟨i, sl, many⟩)
        · unfold dealD
          walk_at "ev"
        · rfl
        · rw [List.length_map]
          split at hfew <;> omega
        apply VS.q_put (i := 4) (xs := st.left.map PyData.int) (d := .int (pAt st.left i - many)) (n := (i : Int)) (k0 := i)
        · walk_at "ev"
        · rfl
        · rfl
        · walk_at "ev"
        · exact Evl.ixN_nat (by rw [List.length_map, I.len]; exact hi')
        rw [← List.map_set]
        have hl2 : (subAt st.left i many)[sl]? = some (pAt (subAt st.left i many) sl) := pAt_get (by rw [subAt_len, I.len]; exact s1)
        apply VS.q_put (i := 4) (xs := (subAt st.left i many).map PyData.int) (d := .int (pAt (subAt st.left i many) sl - many)) (n := (sl : Int)) (k0 := sl)
        · show DE K _ (see [.val (wsD ws), .val (intsD ps), .val (natsD (sellersN ws ps)), .no, .own ((subAt st.left i many).map PyData.int), .own (st.found.map dealD ++ [dealD ⟨i, sl, many⟩]), .val (.int (st.at' : Int)), .val (.int (i : Int)), .val (.int (sl : Int)), .val (.int many)]) _
          walk_at "ev"
        · rfl
        · rfl
        · walk_at "ev"
        · exact Evl.ixN_nat (by rw [List.length_map, subAt_len, I.len]; exact s1)
        rw [← List.map_set]
        show DS K E _ [.val (wsD ws), .val (intsD ps), .val (natsD (sellersN ws ps)), .no, .own ((applyD st.left ⟨i, sl, many⟩).map PyData.int), .own (st.found.map dealD ++ [dealD ⟨i, sl, many⟩]), .val (.int (st.at' : Int)), .val (.int (i : Int)), .val (.int (sl : Int)), .val (.int many)] _
        rw [← hdd] at *
        have hl3 := pAt_get (ps := applyD st.left (pairDeal ws ps i st)) (k := sl) (by rw [applyD_len, I.len]; exact s1)
        have hfd : st.found.map dealD ++ [dealD (pairDeal ws ps i st)] = (st.found ++ [pairDeal ws ps i st]).map dealD := by
          rw [List.map_append]
          rfl
        rw [hfd]
        rw [hps'] at nx hr'
        apply VS.ds_if (b := decide (pAt (applyD st.left (pairDeal ws ps i st)) sl = 0))
        · walk_at "ev"
        · intro hz
          rw [if_pos (of_decide_eq_true hz)] at nx hr'
          apply VS.ds_set (d := .int ((st.at' + 1 : Nat) : Int))
          · show DE K _ _ (.int ((st.at' : Int) + 1))
            walk_at "ev"
          · rfl
          · exact ⟨m', by omega, _, _, _, rfl, nx.1, by omega, hr'⟩
        · intro hz
          rw [if_neg (of_decide_eq_false hz)] at nx hr'
          exact VS.ds_next ⟨m', by omega, _, _, _, rfl, nx.1, by omega, hr'⟩
      · rw [pairRun_stop hg] at hr
        exact ⟨_, _, _, by rw [← hr]⟩
  · rintro _ ⟨s7, s8, s9, rfl⟩
    rw [Int.toNat_natCast]
    exact VS.ds_retO rfl rfl

def coveredB (ws : List Wish) (p : Int) : Bool := decide (wantedN ws (p + 1) ≤ offeredN ws p)
def R_covered (c : Cs) (ds : List PyData) (o : Out) : Prop := ∃ ws p, ds = [wsD ws, .int p] ∧ o = .ret (.bool (coveredB ws p))
-- slots of covered: 0 wishes 1 price
def t_covered (K : PySem.W.Frag) (c : Cs) (E : XK) : TS :=
  (tRet (tOp rLeI (tCall (spD K (R_wanted c)) [] E0 (tCons (tVar 0) (tCons (tOp rAddI (tVar 1) (tC (.int 1))) tNil))) (tCall (spD K (R_offered c)) [] E0 (tCons (tVar 0) (tCons (tVar 1) tNil)))))
theorem len_covered {c : Cs} : ∀ ds o, R_covered c ds o → ds.length = 2 := by
  intro ds o h
  grind (ematch := 14) (gen := 20) [R_covered]
theorem body_covered {K : PySem.W.Frag} {c : Cs} {E : XK} : ∀ ds o, R_covered c ds o → DS K E (t_covered K c E) (slots 2 ds) o.post := by
  rintro _ _ ⟨ws, p, rfl, rfl⟩
  unfold t_covered
  apply VS.ds_ret
  · walk_at "ev"
  · exact VS.post_ret rfl

def takenB (ws : List Wish) (p : Int) : Bool := decide (offeredN ws (p - 1) ≤ wantedN ws p)
def R_taken_up (c : Cs) (ds : List PyData) (o : Out) : Prop := ∃ ws p, ds = [wsD ws, .int p] ∧ o = .ret (.bool (takenB ws p))
-- slots of taken_up: 0 wishes 1 price
def t_taken_up (K : PySem.W.Frag) (c : Cs) (E : XK) : TS :=
  (tRet (tOp rLeI (tCall (spD K (R_offered c)) [] E0 (tCons (tVar 0) (tCons (tOp rSubI (tVar 1) (tC (.int 1))) tNil))) (tCall (spD K (R_wanted c)) [] E0 (tCons (tVar 0) (tCons (tVar 1) tNil)))))
theorem len_taken_up {c : Cs} : ∀ ds o, R_taken_up c ds o → ds.length = 2 := by
  intro ds o h
  grind (ematch := 14) (gen := 20) [R_taken_up]
theorem body_taken_up {K : PySem.W.Frag} {c : Cs} {E : XK} : ∀ ds o, R_taken_up c ds o → DS K E (t_taken_up K c E) (slots 2 ds) o.post := by
  rintro _ _ ⟨ws, p, rfl, rfl⟩
  unfold t_taken_up
  apply VS.ds_ret
  · walk_at "ev"
  · exact VS.post_ret rfl

theorem covered_up {ws : List Wish} {p q : Int} (h : Good ws) (hq : p ≤ q) (hp : coveredB ws p = true) : coveredB ws q = true := by
  have hp := of_decide_eq_true hp
  refine decide_eq_true ?_
  have h1 := wanted_anti h (show p + 1 ≤ q + 1 by omega)
  have h2 := offered_mono h hq
  show amountOf ws true (q + 1) ≤ amountOf ws false q
  have hp : amountOf ws true (p + 1) ≤ amountOf ws false p := hp
  omega
theorem taken_down {ws : List Wish} {p q : Int} (h : Good ws) (hq : p ≤ q) (hp : takenB ws q = true) : takenB ws p = true := by
  have hp : amountOf ws false (q - 1) ≤ amountOf ws true q := of_decide_eq_true hp
  refine decide_eq_true ?_
  have h1 := wanted_anti h hq
  have h2 := offered_mono h (show p - 1 ≤ q - 1 by omega)
  show amountOf ws false (p - 1) ≤ amountOf ws true p
  omega
/-- the least price that is covered -/
structure IsLow (ws : List Wish) (p : Int) : Prop where
  lo : 0 ≤ p
  hi : p ≤ 1000000000
  cov : coveredB ws p = true
  least : ∀ q, 0 ≤ q → coveredB ws q = true → p ≤ q
theorem IsLow.one {ws : List Wish} {p q : Int} (a : IsLow ws p) (b : IsLow ws q) : p = q := Int.le_antisymm (a.least q b.lo b.cov) (b.least p a.lo a.cov)
theorem cov_top {ws : List Wish} (h : Good ws) {p : Int} (hp : ∀ w ∈ ws, w.limit ≤ p) : coveredB ws p = true := by
  refine decide_eq_true ?_
  have h1 : amountOf ws true (p + 1) = 0 := wanted_none fun w hw => by have := hp w hw; omega
  have h2 := amountOf_nonneg false p h
  show amountOf ws true (p + 1) ≤ amountOf ws false p
  omega
theorem least_nat {P : Nat → Bool} : ∀ n : Nat, P n = true → ∃ m, m ≤ n ∧ P m = true ∧ ∀ k, k < m → P k = false
  | 0, h => ⟨0, Nat.le_refl 0, h, fun k hk => absurd hk (Nat.not_lt_zero k)⟩
  | n + 1, h => by
    by_cases q : ∃ k, k ≤ n ∧ P k = true
    · obtain ⟨k, hk, hp⟩ := q
      clear h
      induction k using Nat.strongRecOn with
      | _ k ih =>
        by_cases z : ∃ j, j < k ∧ P j = true
        · obtain ⟨j, hj, hpj⟩ := z
          exact ih j hj (by omega) hpj
        · refine ⟨k, by omega, hp, fun j hj => ?_⟩
          cases e : P j with
          | false => rfl
          | true => exact absurd ⟨j, hj, e⟩ z
    · refine ⟨n + 1, Nat.le_refl _, h, fun k hk => ?_⟩
      cases e : P k with
      | false => rfl
      | true => exact absurd ⟨k, by omega, e⟩ q
theorem low_ex {ws : List Wish} (h : Good ws) : ∃ p, IsLow ws p := by
  have ht : coveredB ws 1000000000 = true := cov_top h fun w hw => (h w hw).2.1
  obtain ⟨m, h1, h2, h3⟩ := least_nat (P := fun n => coveredB ws (n : Int)) 1000000000 ht
  refine ⟨(m : Int), by omega, by omega, h2, fun q hq hc => ?_⟩
  by_cases z : (m : Int) ≤ q
  · exact z
  · have h4 := h3 q.toNat (by omega)
    rw [Int.toNat_of_nonneg hq] at h4
    rw [h4] at hc
    cases hc
theorem low_mem {ws : List Wish} {p : Int} (a : IsLow ws p) : p ∈ (0 :: ws.map (·.limit)) := by
  by_cases z : p = 0
  · rw [z]; exact List.mem_cons_self
  · refine List.mem_cons_of_mem _ ?_
    by_cases y : ∃ w ∈ ws, w.limit = p
    · obtain ⟨w, hw, e⟩ := y
      rw [← e]
      exact List.mem_map_of_mem hw
    · have hn : ∀ w ∈ ws, w.limit ≠ p := fun w hw e => y ⟨w, hw, e⟩
      have h1 := wanted_step hn
      have h2 := offered_step hn
      have h3 : amountOf ws true (p + 1) ≤ amountOf ws false p := of_decide_eq_true a.cov
      have h0 := a.lo
      have h4 := a.least (p - 1) (by omega) (decide_eq_true (by
        show amountOf ws true (p - 1 + 1) ≤ amountOf ws false (p - 1)
        rw [Int.sub_add_cancel, h1, h2]
        exact h3))
      omega
/-- a sorted list's place -/
theorem sorted_le {L : List Int} (h : L.Pairwise (· ≤ ·)) {i j : Nat} {x y : Int} (hi : L[i]? = some x) (hj : L[j]? = some y) (hij : i ≤ j) : x ≤ y := by
  obtain ⟨h1, e1⟩ := List.getElem?_eq_some_iff.mp hi
  obtain ⟨h2, e2⟩ := List.getElem?_eq_some_iff.mp hj
  rw [← e1, ← e2]
  by_cases z : i = j
  · subst z; exact Int.le_refl _
  · exact List.pairwise_iff_getElem.mp h i j h1 h2 (by omega)
def sortI (L : List Int) : List Int := L.mergeSort (fun a b => decide (a ≤ b))
theorem sortI_sorted (L : List Int) : (sortI L).Pairwise (· ≤ ·) :=
  (List.pairwise_mergeSort (fun a b c h1 h2 => by simp at *; omega) (fun a b => by simp; omega) L).imp fun h => of_decide_eq_true h
theorem sortI_mem {L : List Int} {x : Int} : x ∈ sortI L ↔ x ∈ L := List.mem_mergeSort
theorem sortI_len (L : List Int) : (sortI L).length = L.length := List.length_mergeSort L
theorem low_search {ws : List Wish} {p : Int} (a : IsLow ws p) (h : Good ws) {lo : Nat} {x : Int} (hx : (sortI (0 :: ws.map (·.limit)))[lo]? = some x) (hc : coveredB ws x = true) (hn : ∀ i y, i < lo → (sortI (0 :: ws.map (·.limit)))[i]? = some y → coveredB ws y = false) : x = p := by
  have hs := sortI_sorted (0 :: ws.map (·.limit))
  have hm : p ∈ sortI (0 :: ws.map (·.limit)) := sortI_mem.mpr (low_mem a)
  obtain ⟨i, hi⟩ := List.mem_iff_getElem?.mp hm
  have hge : lo ≤ i := by
    by_cases z : lo ≤ i
    · exact z
    · have := hn i p (by omega) hi
      rw [a.cov] at this
      cases this
  have h1 := sorted_le hs hx hi hge
  have h0 : 0 ≤ x := by
    have hxm : x ∈ (0 :: ws.map (·.limit)) := sortI_mem.mp (List.mem_of_getElem? hx)
    rcases List.mem_cons.mp hxm with e | e
    · omega
    · obtain ⟨w, hw, rfl⟩ := List.mem_map.mp e
      exact (h w hw).1
  exact Int.le_antisymm h1 (a.least x h0 hc)
def R_lowest (c : Cs) (ds : List PyData) (o : Out) : Prop := ∃ ws p, ds = [wsD ws] ∧ o = .ret (.int p) ∧ Good ws ∧ ws.length ≤ 10000 ∧ IsLow ws p
theorem dn_limits {K : PySem.W.Frag} {ws : List Wish} {ds : List (Option PyData)} {j : Nat} {te : TE} (hl : ws.length ≤ 10000) (h : DE K (tVar 0) ds (wsD ws)) (he : ∀ w : Wish, DE K te (ds.set j (some (wishD w))) (.int w.limit)) : DN K (tLc (iList K (tVar 0)) (gName j) tYes te [j]) ds ((ws.map (·.limit)).map PyData.int) := by
  have q := VS.dn_lcL (K := K) (ds := ds) (te := te) (t := tYes) (j := j) (xs := ws.map wishD) (fun _ => true) (fun d => match d with | .tuple [_, l, _] => l | _ => .none) h (by rw [List.length_map]; omega) (fun x _ => VS.dt_yes) (fun x hx _ => by
    obtain ⟨w, _, rfl⟩ := List.mem_map.mp hx
    exact he w)
  rw [VS.lcOf_all, List.map_map] at q
  rw [List.map_map]
  exact q
-- slots of lowest: 0 wishes 1 limits 2 wish 3 low 4 high 5 middle
def t_lowest (K : PySem.W.Frag) (c : Cs) (E : XK) : TS :=
  (tSeq (tAsg (tCB (rSortedI K) (tCons (tOp rCat (tLst (tCons (tC (.int 0)) tNil)) (tLc (iList K (tVar 0)) (gName 2) tYes (tOp (rIxT K) (tVar 2) (tC (.int 1))) [2])) tNil)) (gName 1))
    (tSeq (tAsg (tC (.int 0)) (gName 3))
    (tSeq (tAsg (tOp rSubI (tCB (rLenSq K) (tCons (tVar 1) tNil)) (tC (.int 1))) (gName 4))
    (tSeq (tWhile (tTest (tOp rLtI (tVar 3) (tVar 4))) (tSeq (tAsg (tOp rDivI (tOp rAddI (tVar 3) (tVar 4)) (tC (.int 2))) (gName 5))
    (tIfS (tB (tCall (spD K (R_covered c)) [] E0 (tCons (tVar 0) (tCons (tOp (rIxL K) (tVar 1) (tVar 5)) tNil)))) (tAsg (tVar 5) (gName 4)) (tAsg (tOp rAddI (tVar 5) (tC (.int 1))) (gName 3)))))
    (tRet (tOp (rIxL K) (tVar 1) (tVar 3)))))))
theorem len_lowest {c : Cs} : ∀ ds o, R_lowest c ds o → ds.length = 1 := by
  intro ds o h
  grind (ematch := 14) (gen := 20) [R_lowest]
theorem body_lowest {K : PySem.W.Frag} {c : Cs} {E : XK} : ∀ ds o, R_lowest c ds o → DS K E (t_lowest K c E) (slots 6 ds) o.post := by
  rintro _ _ ⟨ws, p, rfl, rfl, hg, hl, a⟩
  unfold t_lowest
  apply VS.q_let (d := intsD (sortI (0 :: ws.map (·.limit))))
  · apply VS.de_new
    apply VS.dn_cb
    · apply VS.da_cons
      · apply VS.de_new
        apply VS.dn_op
        · walk_at "ev"
        · apply VS.de_new
          refine dn_limits hl (VS.de_var rfl) fun w => ?_
          walk_at "ev"
        · exact VS.d2n_cat (xs := [.int 0]) (by simp; omega)
      · exact VS.da_nil
    · exact VS.dcn_sortI (ns := 0 :: ws.map (·.limit))
  generalize hL : sortI (0 :: ws.map (·.limit)) = L
  have hLl : L.length = ws.length + 1 := by
    rw [← hL, sortI_len]
    simp
  apply VS.q_set
  · walk_at "ev"
  · rfl
  apply VS.q_set
  · walk_at "ev"
  · rfl
  apply VS.q_while (W := fun m es => ∃ (lo hi : Nat) (s s2 : Slot), es = [.val (wsD ws), .val (intsD L), s2, .val (.int (lo : Int)), .val (.int (hi : Int)), s] ∧ m = hi - lo ∧ lo ≤ hi ∧ hi < L.length ∧ (∀ x, L[hi]? = some x → coveredB ws x = true) ∧ ∀ (i : Nat) y, i < lo → L[i]? = some y → coveredB ws y = false) (m0 := L.length - 1)
  · refine ⟨0, L.length - 1, .no, .no, ?_, rfl, Nat.zero_le _, by omega, fun x hx => ?_, fun i y hi => absurd hi (Nat.not_lt_zero i)⟩
    · rw [List.length_map, show ((L.length : Nat) : Int) - 1 = ((L.length - 1 : Nat) : Int) by omega]
      rfl
    · refine cov_top hg fun w hw => ?_
      have hm : w.limit ∈ L := by
        rw [← hL]
        exact sortI_mem.mpr (List.mem_cons_of_mem _ (List.mem_map_of_mem hw))
      obtain ⟨i, hi⟩ := List.mem_iff_getElem?.mp hm
      have hil := (List.getElem?_eq_some_iff.mp hi).1
      exact sorted_le (by rw [← hL]; exact sortI_sorted _) hi hx (by omega)
  · rintro m _ ⟨lo, hi, s, s2, rfl, rfl, h1, h2, h3, h4⟩
    refine ⟨decide ((lo : Int) < (hi : Int)), by walk_at "ev", fun hb => ?_, fun hb => ?_⟩
    · have hb := of_decide_eq_true hb
      have hmid : (((lo : Int) + (hi : Int)) / 2) = (((lo + hi) / 2 : Nat) : Int) := by omega
      have hml : (lo + hi) / 2 < L.length := by omega
      apply VS.q_set (d := .int (((lo + hi) / 2 : Nat) : Int))
      · rw [← hmid]
        walk_at "ev"
      · rfl
      generalize hmm : (lo + hi) / 2 = mid at hml
      have hx : L[mid]? = some L[mid] := List.getElem?_eq_getElem hml
      apply VS.ds_if (b := coveredB ws L[mid])
      · apply VS.dt_B
        apply VS.de_call
        · apply VS.da_cons
          · walk_at "ev"
          · apply VS.da_cons
            · apply VS.de_op
              · walk_at "ev"
              · walk_at "ev"
              · exact VS.d2_ixL (atI_map hx)
            · walk_at "ev"
        · walk_at "ev"
      · intro hc
        apply VS.ds_set
        · walk_at "ev"
        · rfl
        · exact ⟨mid - lo, by omega, lo, mid, _, _, rfl, rfl, by omega, hml, fun x h => by rw [hx] at h; cases h; exact hc, h4⟩
      · intro hc
        apply VS.ds_set
        · walk_at "ev"
        · rfl
        · refine ⟨hi - (mid + 1), by omega, mid + 1, hi, _, _, rfl, rfl, by omega, h2, h3, fun i y hi' hy => ?_⟩
          cases e : coveredB ws y with
          | false => rfl
          | true =>
            have hle : y ≤ L[mid] := sorted_le (by rw [← hL]; exact sortI_sorted _) hy hx (by omega)
            rw [covered_up hg hle e] at hc
            cases hc
    · have hb := of_decide_eq_false hb
      have e : lo = hi := by omega
      subst e
      have hx : L[lo]? = some L[lo] := List.getElem?_eq_getElem h2
      apply VS.ds_ret
      · apply VS.de_op
        · walk_at "ev"
        · walk_at "ev"
        · exact VS.d2_ixL (atI_map hx)
      · refine VS.post_ret ?_
        rw [low_search a hg (lo := lo) (x := L[lo]) (by rw [hL]; exact hx) (h3 _ hx) (by rw [hL]; exact h4)]

/-- the greatest price at which what is offered is taken up -/
structure IsHigh (ws : List Wish) (p : Int) : Prop where
  lo : 0 ≤ p
  hi : p ≤ 1000000000
  tak : takenB ws p = true
  most : ∀ q, q ≤ 1000000000 → takenB ws q = true → q ≤ p
theorem IsHigh.one {ws : List Wish} {p q : Int} (a : IsHigh ws p) (b : IsHigh ws q) : p = q := Int.le_antisymm (b.most p a.hi a.tak) (a.most q b.hi b.tak)
theorem tak_low {ws : List Wish} (h : Good ws) {p : Int} (hp : ∀ w ∈ ws, p ≤ w.limit) : takenB ws p = true := by
  refine decide_eq_true ?_
  have h1 : amountOf ws false (p - 1) = 0 := offered_none fun w hw => by have := hp w hw; omega
  have h2 := amountOf_nonneg true p h
  show amountOf ws false (p - 1) ≤ amountOf ws true p
  omega
theorem high_ex {ws : List Wish} (h : Good ws) : ∃ p, IsHigh ws p := by
  have ht : takenB ws 0 = true := tak_low h fun w hw => (h w hw).1
  have h0 : takenB ws (1000000000 - ((1000000000 : Nat) : Int)) = true := by
    rw [show (1000000000 : Int) - ((1000000000 : Nat) : Int) = 0 by omega]
    exact ht
  obtain ⟨m, h1, h2, h3⟩ := least_nat (P := fun n : Nat => takenB ws (1000000000 - (n : Int))) 1000000000 h0
  refine ⟨1000000000 - (m : Int), by omega, by omega, h2, fun q hq hc => ?_⟩
  by_cases z : q ≤ 1000000000 - (m : Int)
  · exact z
  · have h4 := h3 (1000000000 - q).toNat (by omega)
    rw [show (1000000000 : Int) - (((1000000000 - q).toNat : Nat) : Int) = q by omega] at h4
    rw [h4] at hc
    cases hc
theorem high_mem {ws : List Wish} {p : Int} (a : IsHigh ws p) : p ∈ (ws.map (·.limit) ++ [1000000000]) := by
  by_cases z : p = 1000000000
  · rw [z]; exact List.mem_append_right _ List.mem_cons_self
  · refine List.mem_append_left _ ?_
    by_cases y : ∃ w ∈ ws, w.limit = p
    · obtain ⟨w, hw, e⟩ := y
      rw [← e]
      exact List.mem_map_of_mem hw
    · have hn : ∀ w ∈ ws, w.limit ≠ p := fun w hw e => y ⟨w, hw, e⟩
      have h1 := wanted_step hn
      have h2 := offered_step hn
      have h3 : amountOf ws false (p - 1) ≤ amountOf ws true p := of_decide_eq_true a.tak
      have h0 := a.hi
      have h4 := a.most (p + 1) (by omega) (decide_eq_true (by
        show amountOf ws false (p + 1 - 1) ≤ amountOf ws true (p + 1)
        rw [Int.add_sub_cancel, ← h1, ← h2]
        exact h3))
      omega
theorem high_search {ws : List Wish} {p : Int} (a : IsHigh ws p) (h : Good ws) {lo : Nat} {x : Int} (hx : (sortI (ws.map (·.limit) ++ [1000000000]))[lo]? = some x) (hc : takenB ws x = true) (hn : ∀ i y, lo < i → (sortI (ws.map (·.limit) ++ [1000000000]))[i]? = some y → takenB ws y = false) : x = p := by
  have hs := sortI_sorted (ws.map (·.limit) ++ [1000000000])
  have hm : p ∈ sortI (ws.map (·.limit) ++ [1000000000]) := sortI_mem.mpr (high_mem a)
  obtain ⟨i, hi⟩ := List.mem_iff_getElem?.mp hm
  have hge : i ≤ lo := by
    by_cases z : i ≤ lo
    · exact z
    · have := hn i p (by omega) hi
      rw [a.tak] at this
      cases this
  have h1 := sorted_le hs hi hx hge
  have h0 : x ≤ 1000000000 := by
    have hxm : x ∈ (ws.map (·.limit) ++ [1000000000]) := sortI_mem.mp (List.mem_of_getElem? hx)
    rcases List.mem_append.mp hxm with e | e
    · obtain ⟨w, hw, rfl⟩ := List.mem_map.mp e
      exact (h w hw).2.1
    · rw [List.mem_singleton.mp e]
      omega
  exact Int.le_antisymm (a.most x h0 hc) h1
theorem low_high {ws : List Wish} {lo hi : Int} (h : Good ws) (a : IsLow ws lo) (b : IsHigh ws hi) : takenB ws lo = true ∧ coveredB ws hi = true ∧ lo ≤ hi := by
  have h1 : takenB ws lo = true := by
    by_cases z : lo = 0
    · rw [z]
      exact tak_low h fun w hw => (h w hw).1
    · have h0 := a.lo
      have hn : ¬ coveredB ws (lo - 1) = true := fun e => by
        have := a.least (lo - 1) (by omega) e
        omega
      refine decide_eq_true ?_
      show amountOf ws false (lo - 1) ≤ amountOf ws true lo
      by_cases y : amountOf ws false (lo - 1) ≤ amountOf ws true lo
      · exact y
      · exact absurd (decide_eq_true (by
          show amountOf ws true (lo - 1 + 1) ≤ amountOf ws false (lo - 1)
          rw [Int.sub_add_cancel]
          omega)) hn
  have h2 : coveredB ws hi = true := by
    by_cases z : hi = 1000000000
    · rw [z]
      exact cov_top h fun w hw => (h w hw).2.1
    · have h0 := b.hi
      have hn : ¬ takenB ws (hi + 1) = true := fun e => by
        have := b.most (hi + 1) (by omega) e
        omega
      refine decide_eq_true ?_
      show amountOf ws true (hi + 1) ≤ amountOf ws false hi
      by_cases y : amountOf ws true (hi + 1) ≤ amountOf ws false hi
      · exact y
      · exact absurd (decide_eq_true (by
          show amountOf ws false (hi + 1 - 1) ≤ amountOf ws true (hi + 1)
          rw [Int.add_sub_cancel]
          omega)) hn
  exact ⟨h1, h2, b.most lo a.hi h1⟩
/-- a price clears where it lies between both -/
theorem clears_iff {ws : List Wish} {lo hi p : Int} (h : Good ws) (a : IsLow ws lo) (b : IsHigh ws hi) (h0 : 0 ≤ p) (h1 : p ≤ 1000000000) : (coveredB ws p && takenB ws p) = true ↔ lo ≤ p ∧ p ≤ hi := by
  rw [Bool.and_eq_true]
  exact ⟨fun q => ⟨a.least p h0 q.1, b.most p h1 q.2⟩, fun q => ⟨covered_up h q.1 a.cov, taken_down h q.2 b.tak⟩⟩
def R_highest (c : Cs) (ds : List PyData) (o : Out) : Prop := ∃ ws p, ds = [wsD ws] ∧ o = .ret (.int p) ∧ Good ws ∧ ws.length ≤ 10000 ∧ IsHigh ws p
-- slots of highest: 0 wishes 1 limits 2 wish 3 low 4 high 5 middle
def t_highest (K : PySem.W.Frag) (c : Cs) (E : XK) : TS :=
  (tSeq (tAsg (tCB (rSortedI K) (tCons (tOp rCat (tLc (iList K (tVar 0)) (gName 2) tYes (tOp (rIxT K) (tVar 2) (tC (.int 1))) [2]) (tLst (tCons (tC (.int 1000000000)) tNil))) tNil)) (gName 1))
    (tSeq (tAsg (tC (.int 0)) (gName 3))
    (tSeq (tAsg (tOp rSubI (tCB (rLenSq K) (tCons (tVar 1) tNil)) (tC (.int 1))) (gName 4))
    (tSeq (tWhile (tTest (tOp rLtI (tVar 3) (tVar 4))) (tSeq (tAsg (tOp rDivI (tOp rAddI (tOp rAddI (tVar 3) (tVar 4)) (tC (.int 1))) (tC (.int 2))) (gName 5))
    (tIfS (tB (tCall (spD K (R_taken_up c)) [] E0 (tCons (tVar 0) (tCons (tOp (rIxL K) (tVar 1) (tVar 5)) tNil)))) (tAsg (tVar 5) (gName 3)) (tAsg (tOp rSubI (tVar 5) (tC (.int 1))) (gName 4)))))
    (tRet (tOp (rIxL K) (tVar 1) (tVar 3)))))))
theorem len_highest {c : Cs} : ∀ ds o, R_highest c ds o → ds.length = 1 := by
  intro ds o h
  grind (ematch := 14) (gen := 20) [R_highest]
theorem body_highest {K : PySem.W.Frag} {c : Cs} {E : XK} : ∀ ds o, R_highest c ds o → DS K E (t_highest K c E) (slots 6 ds) o.post := by
  rintro _ _ ⟨ws, p, rfl, rfl, hg, hl, a⟩
  unfold t_highest
  apply VS.q_let (d := intsD (sortI (ws.map (·.limit) ++ [1000000000])))
  · apply VS.de_new
    apply VS.dn_cb
    · apply VS.da_cons
      · apply VS.de_to
        · apply VS.de_new
          apply VS.dn_op
          · apply VS.de_new
            refine dn_limits hl (VS.de_var rfl) fun w => ?_
            walk_at "ev"
          · walk_at "ev"
          · exact VS.d2n_cat (ys := [.int 1000000000]) (by simp; omega)
        · show PyData.list _ = intsD (ws.map (·.limit) ++ [1000000000])
          simp
      · exact VS.da_nil
    · exact VS.dcn_sortI (ns := ws.map (·.limit) ++ [1000000000])
  generalize hL : sortI (ws.map (·.limit) ++ [1000000000]) = L
  have hLl : L.length = ws.length + 1 := by
    rw [← hL, sortI_len]
    simp
  apply VS.q_set
  · walk_at "ev"
  · rfl
  apply VS.q_set
  · walk_at "ev"
  · rfl
  apply VS.q_while (W := fun m es => ∃ (lo hi : Nat) (s s2 : Slot), es = [.val (wsD ws), .val (intsD L), s2, .val (.int (lo : Int)), .val (.int (hi : Int)), s] ∧ m = hi - lo ∧ lo ≤ hi ∧ hi < L.length ∧ (∀ x, L[lo]? = some x → takenB ws x = true) ∧ ∀ (i : Nat) y, hi < i → L[i]? = some y → takenB ws y = false) (m0 := L.length - 1)
  · refine ⟨0, L.length - 1, .no, .no, ?_, rfl, Nat.zero_le _, by omega, fun x hx => ?_, fun i y hi hy => ?_⟩
    · rw [List.length_map, show ((L.length : Nat) : Int) - 1 = ((L.length - 1 : Nat) : Int) by omega]
      rfl
    · refine tak_low hg fun w hw => ?_
      have hm : w.limit ∈ L := by
        rw [← hL]
        exact sortI_mem.mpr (List.mem_append_left _ (List.mem_map_of_mem hw))
      obtain ⟨i, hi⟩ := List.mem_iff_getElem?.mp hm
      exact sorted_le (by rw [← hL]; exact sortI_sorted _) hx hi (Nat.zero_le _)
    · have := (List.getElem?_eq_some_iff.mp hy).1
      omega
  · rintro m _ ⟨lo, hi, s, s2, rfl, rfl, h1, h2, h3, h4⟩
    refine ⟨decide ((lo : Int) < (hi : Int)), by walk_at "ev", fun hb => ?_, fun hb => ?_⟩
    · have hb := of_decide_eq_true hb
      have hmid : (((lo : Int) + (hi : Int) + 1) / 2) = (((lo + hi + 1) / 2 : Nat) : Int) := by omega
      have hml : (lo + hi + 1) / 2 < L.length := by omega
      apply VS.q_set (d := .int (((lo + hi + 1) / 2 : Nat) : Int))
      · rw [← hmid]
        walk_at "ev"
      · rfl
      generalize hmm : (lo + hi + 1) / 2 = mid at hml
      have hx : L[mid]? = some L[mid] := List.getElem?_eq_getElem hml
      apply VS.ds_if (b := takenB ws L[mid])
      · apply VS.dt_B
        apply VS.de_call
        · apply VS.da_cons
          · walk_at "ev"
          · apply VS.da_cons
            · apply VS.de_op
              · walk_at "ev"
              · walk_at "ev"
              · exact VS.d2_ixL (atI_map hx)
            · walk_at "ev"
        · walk_at "ev"
      · intro hc
        apply VS.ds_set
        · walk_at "ev"
        · rfl
        · exact ⟨hi - mid, by omega, mid, hi, _, _, rfl, rfl, by omega, h2, fun x h => by rw [hx] at h; cases h; exact hc, h4⟩
      · intro hc
        apply VS.ds_set (d := .int ((mid - 1 : Nat) : Int))
        · rw [show ((mid - 1 : Nat) : Int) = (mid : Int) - 1 by omega]
          walk_at "ev"
        · rfl
        · refine ⟨mid - 1 - lo, by omega, lo, mid - 1, _, _, rfl, rfl, by omega, by omega, h3, fun i y hi' hy => ?_⟩
          cases e : takenB ws y with
          | false => rfl
          | true =>
            have hle : L[mid] ≤ y := sorted_le (by rw [← hL]; exact sortI_sorted _) hx hy (by omega)
            rw [taken_down hg hle e] at hc
            cases hc
    · have hb := of_decide_eq_false hb
      have e : lo = hi := by omega
      subst e
      have hx : L[lo]? = some L[lo] := List.getElem?_eq_getElem h2
      apply VS.ds_ret
      · apply VS.de_op
        · walk_at "ev"
        · walk_at "ev"
        · exact VS.d2_ixL (atI_map hx)
      · refine VS.post_ret ?_
        rw [high_search a hg (lo := lo) (x := L[lo]) (by rw [hL]; exact hx) (h3 _ hx) (by rw [hL]; exact h4)]

def R_price_by (c : Cs) (ds : List PyData) (o : Out) : Prop := ∃ ws d, ds = [wsD ws, d] ∧ notScr d = true ∧ Good ws ∧ ws.length ≤ 10000 ∧
  ((wholeIn d 0 1000000000 = false ∧ o = .exc c.BadPrice) ∨ ∃ old lo hi, d = .int old ∧ 0 ≤ old ∧ old ≤ 1000000000 ∧ IsLow ws lo ∧ IsHigh ws hi ∧ o = .ret (.int (max lo (min old hi))))
-- slots of price_by: 0 wishes 1 old
def t_price_by (K : PySem.W.Frag) (c : Cs) (E : XK) : TS :=
  (tSeq (tDrop (tCall (spD K (R_checked_price c)) [] E (tCons (tVar 1) tNil)))
    (tRet (tCB rMax2 (tCons (tCall (spD K (R_lowest c)) [] E0 (tCons (tVar 0) tNil)) (tCons (tCB rMin2 (tCons (tVar 1) (tCons (tCall (spD K (R_highest c)) [] E0 (tCons (tVar 0) tNil)) tNil))) tNil)))))
theorem len_price_by {c : Cs} : ∀ ds o, R_price_by c ds o → ds.length = 2 := by
  rintro _ _ ⟨ws, d, rfl, _⟩
  rfl
theorem body_price_by {K : PySem.W.Frag} {c : Cs} {E : XK} : ∀ ds o, R_price_by c ds o → DS K E (t_price_by K c E) (slots 2 ds) o.post := by
  rintro _ o ⟨ws, d, rfl, hn, hg, hl, ho⟩
  unfold t_price_by
  rcases ho with ⟨hb, rfl⟩ | ⟨old, lo, hi, rfl, h0, h1, a, b, rfl⟩
  · apply VS.ds_seq
    apply VS.ds_dropX
    · apply VS.dx_call
      · walk_at "ev"
      · exact checked_price_bad hb hn
    · rfl
  · apply VS.q_drop
    · apply VS.de_call
      · walk_at "ev"
      · exact checked_price_int ⟨h0, h1⟩
    apply VS.ds_ret
    · apply VS.de_cb
      · apply VS.da_cons
        · apply VS.de_call
          · walk_at "ev"
          · exact ⟨ws, lo, rfl, rfl, hg, hl, a⟩
        · apply VS.da_cons
          · apply VS.de_cb
            · apply VS.da_cons
              · walk_at "ev"
              · apply VS.da_cons
                · apply VS.de_call
                  · walk_at "ev"
                  · exact ⟨ws, hi, rfl, rfl, hg, hl, b⟩
                · exact VS.da_nil
            · exact VS.dc_min2
          · exact VS.da_nil
      · exact VS.dc_max2
    · exact VS.post_ret rfl

theorem init_res {c : Cs} : ∀ d o, R_checked_price c [d] o → (∃ p, o = .ret (.int p)) ∨ ∃ C, o = .exc C := by
  rintro d o ⟨d', e, rfl, hn⟩
  cases e
  by_cases h : wholeIn d 0 1000000000 = true
  · rw [if_pos h]
    cases d with
    | int i => exact .inl ⟨i, rfl⟩
    | _ => cases h
  · rw [if_neg h]
    exact .inr ⟨_, rfl⟩
-- slots of Book___init__: 0 self 1 old
def t_Book___init__ (K : PySem.W.Frag) (c : Cs) (E : XK) : TS :=
  (tSeq (sFld K (tVar 0) (tCall (spD K (R_checked_price c)) [] E (tCons (tVar 1) tNil)) "price")
    (tSeq (sFld K (tVar 0) (tLst tNil) "came")
    (tSeq (sFld K (tVar 0) (tLst tNil) "rest")
    (sFld K (tVar 0) (tLst tNil) "money"))))
/-! ### a book -/
structure Bk where
  price : Int
  came : List Wish
  rest : List Int
  money : List Int
structure Gh where
  dx : Addr
  l1 : Addr
  l2 : Addr
  l3 : Addr
abbrev Bk.data (b : Bk) (c : Cs) : PyData := bookD c.Book b.price (wsD b.came) (intsD b.rest) (intsD b.money)
abbrev Bk.cell (b : Bk) (c : Cs) (g : Gh) : Cell := .book c.Book g.dx g.l1 g.l2 g.l3 b.price (b.came.map wishD) (b.rest.map PyData.int) (b.money.map PyData.int)
abbrev Bk.raws (b : Bk) (c : Cs) (g : Gh) : PyData := bookD c.Book b.price (rawD g.l1) (rawD g.l2) (rawD g.l3)
structure Bk.wf (b : Bk) : Prop where
  rest : b.rest.length = b.came.length
  money : b.money.length = b.came.length
  few : b.came.length ≤ 5000
def Bk.at' (b : Bk) (c : Cs) (μ : Store) (a : Addr) : Prop := ∃ g, μ a = some (b.cell c g)
theorem goodD_wish {w : Wish} (h : w.good) : goodD (wishD w) = true := by
  unfold wishD
  rw [goodD_3, sideOk_str, wholeIn_yes ⟨h.1, h.2.1⟩, wholeIn_yes h.2.2]
  cases w.buy <;> decide +kernel
theorem plainT_wish (w : Wish) : plainT (wishD w) = true := rfl
theorem noLD_wish (w : Wish) : noLD (wishD w) = true := by
  unfold wishD
  simp [noLD, noLDs]
theorem noLDs_ints (ns : List Int) : noLDs (ns.map PyData.int) = true := noLDs_map fun x _ => by simp [noLD]

def Bk.add (b : Bk) (w : Wish) : Bk := ⟨b.price, b.came ++ [w], b.rest ++ [w.amount], b.money ++ [0]⟩
def R_Book_add (c : Cs) (ds : List PyData) (μ : Store) (W : Out → Store → Prop) : Prop := ∃ a g b d, ds = [rawD a, d] ∧ μ a = some (Bk.cell b c g) ∧ b.wf ∧ plainT d = true ∧
  ((goodD d = false ∧ W = fun o μ' => o = .exc c.BadWish ∧ μ' = μ) ∨ ∃ w, d = wishD w ∧ w.good ∧ W = fun o μ' => o = .ret (.int (b.came.length : Int)) ∧ μ' = mset μ a ((b.add w).cell c g))
-- slots of Book_add: 0 self 1 wish
def t_Book_add (K : PySem.W.Frag) (c : Cs) (E : XK) : TS :=
  (tSeq (tDrop (tBM K "list" rAppend (tFld K (tVar 0) "came") (tCons (tCall (spD K (R_checked c)) [] E (tCons (tVar 1) tNil)) tNil)))
    (tSeq (tDrop (tBM K "list" rAppend (tFld K (tVar 0) "rest") (tCons (tOp (rIxT K) (tVar 1) (tC (.int 2))) tNil)))
    (tSeq (tDrop (tBM K "list" rAppend (tFld K (tVar 0) "money") (tCons (tC (.int 0)) tNil)))
    (tRet (tOp rSubI (tCB (rLenSq K) (tCons (tFld K (tVar 0) "came") tNil)) (tC (.int 1)))))))
theorem len_Book_add {c : Cs} : ∀ ds μ W, R_Book_add c ds μ W → ds.length = 2 := by
  intro ds μ W h
  grind (ematch := 14) (gen := 20) [R_Book_add]
theorem body_Book_add {K : PySem.W.Frag} {c : Cs} {E : XK} : ∀ ds μ W, R_Book_add c ds μ W → DM K E (t_Book_add K c E) (slots 2 ds) μ (postM W) := by
  rintro _ μ _ ⟨a, g, b, d, rfl, hc, hw, hp, ⟨hb, rfl⟩ | ⟨w, rfl, hg, rfl⟩⟩
  · refine dm_seq (dm_cappX ?_)
    refine me_v (ds := [some (b.raws c g), none]) (by walk_at "vw") (de_fldC (de_var rfl)) rfl ⟨g.l1, a, _, _, _, rfl, hc, inC_came, c.BadWish, ?_, ⟨rfl, rfl⟩⟩
    exact dx_call (by walk_at "ev") ⟨d, rfl, by rw [hb]; rfl, hp⟩
  · have h1 := hw.rest
    have h2 := hw.money
    have h3 := hw.few
    show DM K E _ [.val (rawD a), .val (wishD w)] μ _
    refine dm_seq (dm_capp ?_)
    refine me_v (ds := [some (b.raws c g), none]) (by walk_at "vw") (de_fldC (de_var rfl)) rfl ⟨g.l1, a, _, _, _, rfl, hc, inC_came, ?_⟩
    refine me_de (d := wishD w) (de_call (by walk_at "ev") ⟨wishD w, rfl, by rw [goodD_wish hg]; rfl, plainT_wish w⟩) ⟨a, _, _, _, hc, inC_came, by rw [List.length_map]; omega, ?_⟩
    refine dm_seq (dm_capp ?_)
    refine me_v (ds := [some (b.raws c g), none]) (by walk_at "vw") (de_fldR (de_var rfl)) rfl ⟨g.l2, a, _, _, _, rfl, mset_at, inC_rest, ?_⟩
    refine me_de (d := .int w.amount) (by unfold wishD; walk_at "ev") ⟨a, _, _, _, mset_at, inC_rest, by rw [List.length_map]; omega, ?_⟩
    refine dm_seq (dm_capp ?_)
    refine me_v (ds := [some (b.raws c g), none]) (by walk_at "vw") (de_fldM (de_var rfl)) rfl ⟨g.l3, a, _, _, _, rfl, mset_at, inC_money, ?_⟩
    refine me_de (d := .int 0) de_int ⟨a, _, _, _, mset_at, inC_money, by rw [List.length_map]; omega, ?_⟩
    have e : mset (mset (mset μ a (.book c.Book g.dx g.l1 g.l2 g.l3 b.price (b.came.map wishD ++ [wishD w]) (b.rest.map PyData.int) (b.money.map PyData.int))) a (.book c.Book g.dx g.l1 g.l2 g.l3 b.price (b.came.map wishD ++ [wishD w]) (b.rest.map PyData.int ++ [.int w.amount]) (b.money.map PyData.int))) a (.book c.Book g.dx g.l1 g.l2 g.l3 b.price (b.came.map wishD ++ [wishD w]) (b.rest.map PyData.int ++ [.int w.amount]) (b.money.map PyData.int ++ [.int 0])) = mset μ a ((b.add w).cell c g) := by
      rw [mset_mset, mset_mset]
      simp [Bk.cell, Bk.add]
    show DM K E _ _ (mset (mset (mset μ a (.book c.Book g.dx g.l1 g.l2 g.l3 b.price (b.came.map wishD ++ [wishD w]) (b.rest.map PyData.int) (b.money.map PyData.int))) a (.book c.Book g.dx g.l1 g.l2 g.l3 b.price (b.came.map wishD ++ [wishD w]) (b.rest.map PyData.int ++ [.int w.amount]) (b.money.map PyData.int))) a (.book c.Book g.dx g.l1 g.l2 g.l3 b.price (b.came.map wishD ++ [wishD w]) (b.rest.map PyData.int ++ [.int w.amount]) (b.money.map PyData.int ++ [.int 0]))) _
    rw [e]
    refine dm_ret (me_v (ds := [some ((b.add w).data c), none]) (by walk_at "vw") (d := .int (((b.add w).came.length : Int) - 1)) ?_ rfl ⟨?_, rfl⟩)
    · refine de_op (VS.de_to (de_cb (da_cons (de_fldC (de_var rfl)) da_nil) dc_len) (by rw [List.length_map])) de_int d2_sub
    · simp [Bk.add]

def R_Book_known (c : Cs) (ds : List PyData) (o : Out) : Prop := ∃ b d, ds = [Bk.data b c, d] ∧ o = (if wholeIn d 0 ((b.came.length : Int) - 1) = true then .ret d else .exc c.NoSuch) ∧ notScr d = true
-- slots of Book_known: 0 self 1 number
def t_Book_known (K : PySem.W.Frag) (c : Cs) (E : XK) : TS :=
  (tSeq (tIfS (tNot (tB (tCall (spD K (R_whole_within c)) [] E0 (tCons (tVar 1) (tCons (tC (.int 0)) (tCons (tOp rSubI (tCB (rLenSq K) (tCons (tFld K (tVar 0) "came") tNil)) (tC (.int 1))) tNil)))))) (tRse E c.NoSuch) tNext)
    (tRet (tVar 1)))
theorem len_Book_known {c : Cs} : ∀ ds o, R_Book_known c ds o → ds.length = 2 := by
  rintro _ _ ⟨b, d, rfl, _⟩
  rfl
theorem body_Book_known {K : PySem.W.Frag} {c : Cs} {E : XK} : ∀ ds o, R_Book_known c ds o → DS K E (t_Book_known K c E) (slots 2 ds) o.post := by
  rintro _ o ⟨b, d, rfl, ho, hn⟩
  unfold t_Book_known
  apply VS.q_if (b := !wholeIn d 0 ((b.came.length : Int) - 1))
  · apply VS.dt_not
    apply VS.dt_B
    apply VS.de_call (xs := [d, .int 0, .int ((b.came.length : Int) - 1)])
    · refine da_cons (de_var rfl) (da_cons de_int (da_cons (de_op (VS.de_to (de_cb (da_cons (de_fldC (de_var rfl)) da_nil) dc_len) (by rw [List.length_map])) de_int d2_sub) da_nil))
    · exact ⟨d, 0, _, rfl, rfl, hn⟩
  · intro hb
    have hb : wholeIn d 0 ((b.came.length : Int) - 1) = false := by simpa using hb
    rw [hb] at ho
    exact VS.ds_raise ho
  · intro hb
    have hb : wholeIn d 0 ((b.came.length : Int) - 1) = true := by simpa using hb
    rw [hb] at ho
    exact VS.ds_ret (VS.de_var rfl) (VS.post_ret ho)
theorem bkNo_known : bkNo "known" := fun p v1 v2 v3 => rfl
theorem wholeIn_at {d : PyData} {n : Nat} (h : wholeIn d 0 ((n : Int) - 1) = true) : ∃ k : Nat, d = .int (k : Int) ∧ k < n := by
  cases d with
  | int i =>
    rw [wholeIn_int, Bool.and_eq_true, decide_eq_true_eq, decide_eq_true_eq] at h
    exact ⟨i.toNat, by rw [Int.toNat_of_nonneg h.1], by omega⟩
  | _ => cases h

/-- the number of known wish, or none -/
def R_Book_left (c : Cs) (ds : List PyData) (o : Out) : Prop := ∃ b d, ds = [Bk.data b c, d] ∧ b.wf ∧ notScr d = true ∧
  ((wholeIn d 0 ((b.came.length : Int) - 1) = false ∧ o = .exc c.NoSuch) ∨ ∃ k : Nat, d = .int (k : Int) ∧ k < b.came.length ∧ o = .ret (.int (pAt b.rest k)))
-- slots of Book_left: 0 self 1 number
def t_Book_left (K : PySem.W.Frag) (c : Cs) (E : XK) : TS :=
  (tRet (tOp (rIxL K) (tFld K (tVar 0) "rest") (tMeth c.Book "known" (spD K (R_Book_known c)) [] E (tVar 0) (tCons (tVar 1) tNil))))
theorem len_Book_left {c : Cs} : ∀ ds o, R_Book_left c ds o → ds.length = 2 := by
  rintro _ _ ⟨b, d, rfl, _⟩
  rfl
theorem body_Book_left {K : PySem.W.Frag} {c : Cs} {E : XK} : ∀ ds o, R_Book_left c ds o → DS K E (t_Book_left K c E) (slots 2 ds) o.post := by
  rintro _ o ⟨b, d, rfl, hw, hn, ⟨hb, rfl⟩ | ⟨k, rfl, hk, rfl⟩⟩
  · refine VS.ds_retX (C := c.NoSuch) ?_ rfl
    refine dx_op2 (de_fldR (de_var rfl)) (dx_meth bkNo_known (de_var rfl) (da_cons (de_var rfl) da_nil) ⟨b, d, rfl, by rw [hb]; rfl, hn⟩)
  · refine VS.ds_ret (d := .int (pAt b.rest k)) ?_ (VS.post_ret rfl)
    refine de_op (de_fldR (de_var rfl)) (de_meth bkNo_known (de_var rfl) (da_cons (de_var rfl) da_nil) ⟨b, _, rfl, by rw [wholeIn_yes (by omega)]; rfl, rfl⟩) (VS.d2_ixL (atI_map (pAt_get ?_)))
    rw [hw.rest]
    exact hk

/-- what it paid -/
def R_Book_paid (c : Cs) (ds : List PyData) (o : Out) : Prop := ∃ b d, ds = [Bk.data b c, d] ∧ b.wf ∧ notScr d = true ∧
  ((wholeIn d 0 ((b.came.length : Int) - 1) = false ∧ o = .exc c.NoSuch) ∨ ∃ k : Nat, d = .int (k : Int) ∧ k < b.came.length ∧ o = .ret (.int (pAt b.money k)))
-- slots of Book_paid: 0 self 1 number
def t_Book_paid (K : PySem.W.Frag) (c : Cs) (E : XK) : TS :=
  (tRet (tOp (rIxL K) (tFld K (tVar 0) "money") (tMeth c.Book "known" (spD K (R_Book_known c)) [] E (tVar 0) (tCons (tVar 1) tNil))))
theorem len_Book_paid {c : Cs} : ∀ ds o, R_Book_paid c ds o → ds.length = 2 := by
  rintro _ _ ⟨b, d, rfl, _⟩
  rfl
theorem body_Book_paid {K : PySem.W.Frag} {c : Cs} {E : XK} : ∀ ds o, R_Book_paid c ds o → DS K E (t_Book_paid K c E) (slots 2 ds) o.post := by
  rintro _ o ⟨b, d, rfl, hw, hn, ⟨hb, rfl⟩ | ⟨k, rfl, hk, rfl⟩⟩
  · refine VS.ds_retX (C := c.NoSuch) ?_ rfl
    refine dx_op2 (de_fldM (de_var rfl)) (dx_meth bkNo_known (de_var rfl) (da_cons (de_var rfl) da_nil) ⟨b, d, rfl, by rw [hb]; rfl, hn⟩)
  · refine VS.ds_ret (d := .int (pAt b.money k)) ?_ (VS.post_ret rfl)
    refine de_op (de_fldM (de_var rfl)) (de_meth bkNo_known (de_var rfl) (da_cons (de_var rfl) da_nil) ⟨b, _, rfl, by rw [wholeIn_yes (by omega)]; rfl, rfl⟩) (VS.d2_ixL (atI_map (pAt_get ?_)))
    rw [hw.money]
    exact hk

def Bk.drop (b : Bk) (n : Nat) : Bk := ⟨b.price, b.came, b.rest.set n 0, b.money⟩
def Bk.stands (b : Bk) (d : PyData) : Bool := wholeIn d 0 ((b.came.length : Int) - 1) && (match d with | .int i => !decide (pAt b.rest i.toNat = 0) | _ => false)
def R_Book_drop (c : Cs) (ds : List PyData) (μ : Store) (W : Out → Store → Prop) : Prop := ∃ a g b d, ds = [rawD a, d] ∧ μ a = some (Bk.cell b c g) ∧ b.wf ∧ notScr d = true ∧
  ((b.stands d = false ∧ W = fun o μ' => o = .exc c.NoSuch ∧ μ' = μ) ∨ ∃ n : Nat, d = .int (n : Int) ∧ n < b.came.length ∧ pAt b.rest n ≠ 0 ∧ W = fun o μ' => o = .ret (.int (pAt b.rest n)) ∧ μ' = mset μ a ((b.drop n).cell c g))
-- slots of Book_drop: 0 self 1 number 2 many
def t_Book_drop (K : PySem.W.Frag) (c : Cs) (E : XK) : TS :=
  (tSeq (tAsg (tMeth c.Book "left" (spD K (R_Book_left c)) [] E (tVar 0) (tCons (tVar 1) tNil)) (gName 2))
    (tSeq (tIfS (tTest (tOp rEq (tVar 2) (tC (.int 0)))) (tRse E c.NoSuch) tNext)
    (tSeq (tAsg (tC (.int 0)) (gSub (tFld K (tVar 0) "rest") (tVar 1) rSetL))
    (tRet (tVar 2)))))
theorem len_Book_drop {c : Cs} : ∀ ds μ W, R_Book_drop c ds μ W → ds.length = 2 := by
  intro ds μ W h
  grind (ematch := 14) (gen := 20) [R_Book_drop]
theorem bkNo_left : bkNo "left" := fun p v1 v2 v3 => rfl
theorem bkNo_paid : bkNo "paid" := fun p v1 v2 v3 => rfl
theorem bkNo_drop : bkNo "drop" := fun p v1 v2 v3 => rfl
theorem bkNo_add : bkNo "add" := fun p v1 v2 v3 => rfl
theorem bkNo_standing : bkNo "standing" := fun p v1 v2 v3 => rfl
theorem bkNo_ring : bkNo "ring" := fun p v1 v2 v3 => rfl
theorem body_Book_drop {K : PySem.W.Frag} {c : Cs} {E : XK} : ∀ ds μ W, R_Book_drop c ds μ W → DM K E (t_Book_drop K c E) (slots 3 ds) μ (postM W) := by
  rintro _ μ W ⟨a, g, b, d, rfl, hc, hw, hn, ho⟩
  show DM K E _ [.val (rawD a), .val d, .no] μ _
  have V : Vw μ [.val (rawD a), .val d, .no] [some (b.data c), some d, none] := by walk_at "vw"
  by_cases hb : wholeIn d 0 ((b.came.length : Int) - 1) = true
  · obtain ⟨k, rfl, hk⟩ := wholeIn_at hb
    have hs : b.stands (.int (k : Int)) = !decide (pAt b.rest k = 0) := by
      unfold Bk.stands
      rw [hb]
      rfl
    refine dm_seq (dm_asg (me_v V (d := .int (pAt b.rest k)) (de_meth bkNo_left (de_var rfl) (da_cons (de_var rfl) da_nil) ⟨b, _, rfl, hw, rfl, .inr ⟨k, rfl, hk, rfl⟩⟩) rfl ?_))
    show DM K E _ [.val (rawD a), .val (.int (k : Int)), .val (.int (pAt b.rest k))] μ _
    refine dm_seq (dm_if (mt_v Vw.see (b := decide (pAt b.rest k = 0)) (by walk_at "ev") ⟨fun hz => ?_, fun hz => dm_next ?_⟩))
    · rcases ho with ⟨_, rfl⟩ | ⟨n, e, _, h0, _⟩
      · exact dm_raise ⟨rfl, rfl⟩
      · cases e
        exact absurd (of_decide_eq_true hz) h0
    · rcases ho with ⟨h0, _⟩ | ⟨n, e, _, h0, rfl⟩
      · rw [hs, hz] at h0
        cases h0
      · have e : n = k := by
          injection e with e
          omega
        subst e
        refine dm_seq (dm_cput (me_de de_int (me_v (ds := [some (b.raws c g), none, none]) (by walk_at "vw") (de_fldR (de_var rfl)) rfl (me_de (de_var rfl) ⟨g.l2, (n : Int), a, _, _, _, n, rfl, rfl, hc, inC_rest, Evl.ixN_nat (by rw [List.length_map, hw.rest]; exact hk), ?_⟩))))
        refine dm_ret (me_de (de_var rfl) ⟨rfl, ?_⟩)
        simp [Bk.cell, Bk.drop]
  · have hb : wholeIn d 0 ((b.came.length : Int) - 1) = false := by simpa using hb
    refine dm_seq (dm_setX (C := c.NoSuch) V (dx_meth bkNo_left (de_var rfl) (da_cons (de_var rfl) da_nil) ⟨b, d, rfl, hw, hn, .inl ⟨hb, rfl⟩⟩) ?_)
    rcases ho with ⟨_, rfl⟩ | ⟨n, rfl, hk, _⟩
    · exact ⟨rfl, rfl⟩
    · rw [wholeIn_yes (by omega)] at hb
      cases hb

/-- who stands, with what is left -/
def Bk.standN (b : Bk) : List Nat := (List.range b.came.length).filter fun k => decide (0 < pAt b.rest k)
def Bk.restW (b : Bk) (k : Nat) : Wish := ⟨(wAt b.came k).buy, (wAt b.came k).limit, pAt b.rest k⟩
def rowD (r : Nat × Wish) : PyData := .tuple [.int (r.1 : Int), wishD r.2]
def rowsTo2 (b : Bk) (n : Nat) : List (Nat × Wish) := ((List.range n).filter fun k => decide (0 < pAt b.rest k)).map fun k => (k, b.restW k)
abbrev Bk.rows (b : Bk) : List (Nat × Wish) := rowsTo2 b b.came.length
theorem rowsTo2_len (b : Bk) (n : Nat) : (rowsTo2 b n).length ≤ n := by
  unfold rowsTo2
  rw [List.length_map]
  refine Nat.le_trans (List.length_filter_le _ _) ?_
  rw [List.length_range]
  exact Nat.le_refl n
def R_Book_standing (c : Cs) (ds : List PyData) (o : Out) : Prop := ∃ b, ds = [Bk.data b c] ∧ b.wf ∧ o = .new (b.rows.map rowD)
-- slots of Book_standing: 0 self 1 found 2 number 3 wish
def t_Book_standing (K : PySem.W.Frag) (c : Cs) (E : XK) : TS :=
  (tSeq (tAsg (tLst tNil) (gName 1))
    (tSeq (tFor (iRng1 (tCons (tCB (rLenSq K) (tCons (tFld K (tVar 0) "came") tNil)) tNil)) (gName 2) (tIfS (tTest (tOp rGtI (tOp (rIxL K) (tFld K (tVar 0) "rest") (tVar 2)) (tC (.int 0)))) (tSeq (tAsg (tOp (rIxL K) (tFld K (tVar 0) "came") (tVar 2)) (gName 3))
    (tDrop (tBM K "list" rAppend (tVar 1) (tCons (tTup (tCons (tVar 2) (tCons (tTup (tCons (tOp (rIxT K) (tVar 3) (tC (.int 0))) (tCons (tOp (rIxT K) (tVar 3) (tC (.int 1))) (tCons (tOp (rIxL K) (tFld K (tVar 0) "rest") (tVar 2)) tNil)))) tNil))) tNil)))) tNext))
    (tRet (tVar 1))))
theorem len_Book_standing {c : Cs} : ∀ ds o, R_Book_standing c ds o → ds.length = 1 := by
  intro ds o h
  grind (ematch := 14) (gen := 20) [R_Book_standing]
theorem body_Book_standing {K : PySem.W.Frag} {c : Cs} {E : XK} : ∀ ds o, R_Book_standing c ds o → DS K E (t_Book_standing K c E) (slots 4 ds) o.post := by
  rintro _ _ ⟨b, rfl, hw, rfl⟩
  unfold t_Book_standing
  have h1 := hw.rest
  have h2 := hw.few
  apply VS.q_new (xs := [])
  · walk_at "ev"
  apply VS.q_forR1 (n := (b.came.length : Int)) (W := fun k es => ∃ s2 s3, es = [.val (b.data c), .own ((rowsTo2 b k).map rowD), s2, s3])
  · exact da_cons (VS.de_to (de_cb (da_cons (de_fldC (de_var rfl)) da_nil) dc_len) (by rw [List.length_map])) da_nil
  · omega
  · exact ⟨.no, .no, rfl⟩
  · rintro k _ hk ⟨s2, s3, rfl⟩
    have hk' : k < b.came.length := by omega
    have hp : b.rest[k]? = some (pAt b.rest k) := pAt_get (by omega)
    have hc := wAt_get hk'
    apply VS.ds_if (b := decide (0 < pAt b.rest k))
    · walk_at "ev"
    · intro hz
      apply VS.q_let (d := wishD (wAt b.came k))
      · walk_at "ev"
      apply VS.ds_appV (i := 1) (d := rowD (k, b.restW k)) (xs := (rowsTo2 b k).map rowD)
      · show DE K _ (frz [.val (b.data c), .own ((rowsTo2 b k).map rowD), .val (.int (k : Int)), .val (wishD (wAt b.came k))]) _
        unfold rowD wishD Bk.restW
        walk_at "ev"
      · rfl
      · rw [List.length_map]
        have := rowsTo2_len b k
        omega
      · refine ⟨.val (.int (k : Int)), .val (wishD (wAt b.came k)), ?_⟩
        have e : (rowsTo2 b (k + 1)).map rowD = (rowsTo2 b k).map rowD ++ [rowD (k, b.restW k)] := by
          unfold rowsTo2
          rw [List.range_succ, List.filter_append, List.map_append, List.map_append]
          simp [of_decide_eq_true hz]
        rw [e]
        rfl
    · intro hz
      apply VS.ds_next
      refine ⟨.val (.int (k : Int)), s3, ?_⟩
      have e : rowsTo2 b (k + 1) = rowsTo2 b k := by
        unfold rowsTo2
        rw [List.range_succ, List.filter_append, List.map_append]
        simp [of_decide_eq_false hz]
      rw [e]
      rfl
  · rintro _ ⟨s2, s3, rfl⟩
    exact VS.ds_retO rfl rfl

/-! the gain, where no def of it stands -/
def gainN (w : Wish) (p n : Int) : Int := if w.buy then (w.limit - p) * n else (p - w.limit) * n

/-! what the pieces come to -/
theorem ws_range (ws : List Wish) : (List.range ws.length).map (wAt ws) = ws := by
  refine List.ext_getElem? fun i => ?_
  rw [List.getElem?_map]
  by_cases hi : i < ws.length
  · rw [List.getElem?_range hi, wAt_get hi]
    rfl
  · rw [List.getElem?_eq_none (l := List.range _) (by rw [List.length_range]; omega), List.getElem?_eq_none (l := ws) (by omega)]
    rfl
theorem amountOf_sum (ws : List Wish) (b : Bool) (p : Int) : amountOf ws b p = sumTo (fun j => if dealsB ws b p j = true then amtAt ws j else 0) ws.length := by
  rw [← sumTo_filter]
  unfold amountOf
  conv => lhs; rw [← ws_range ws]
  rw [List.filter_map, List.map_map]
  rfl
theorem order_perm (ws : List Wish) (b : Bool) (p : Int) : (orderN ws b p).Perm ((List.range ws.length).filter (dealsB ws b p)) := by
  have h := (sorted_perm ws b p).map (·.2)
  unfold rowsTo at h
  rw [List.map_map] at h
  have e : ((fun x : Int × Nat => x.2) ∘ fun i => (rankN b (wAt ws i), i)) = id := rfl
  rw [e, List.map_id] at h
  exact h
theorem order_amounts (ws : List Wish) (b : Bool) (p : Int) : ((orderN ws b p).map (amtAt ws)).sum = amountOf ws b p := by
  rw [amountOf_sum, ← sumTo_filter]
  exact sum_perm ((order_perm ws b p).map _)
theorem order_dealt {ws : List Wish} (hg : Good ws) (b : Bool) (p : Int) : ∀ t, t ≤ (orderN ws b p).length → (((orderN ws b p).take t).map (piece ws p)).sum = dealtN ws p - leftN ws b p t
  | 0, _ => by
    unfold leftN
    have := dealt_nonneg hg p
    simp
    omega
  | t + 1, h => by
    have hk : (orderN ws b p)[t]? = some ((orderN ws b p)[t]'(by omega)) := List.getElem?_eq_getElem (by omega)
    generalize (orderN ws b p)[t]'(by omega) = k at hk
    have h1 := (left_step hk hg).2
    rw [List.take_add_one, hk, List.map_append, List.sum_append, order_dealt hg b p t (by omega), ← h1]
    simp
    omega
theorem side_pieces {ws : List Wish} (hg : Good ws) (b : Bool) (p : Int) : sideOf ws (piecesN ws p) b = dealtN ws p := by
  have h := order_dealt hg b p (orderN ws b p).length (Nat.le_refl _)
  rw [List.take_length] at h
  have hl : leftN ws b p (orderN ws b p).length = 0 := by
    unfold leftN
    rw [List.take_length, order_amounts]
    unfold dealtN
    cases b <;> omega
  rw [hl, Int.sub_zero] at h
  rw [← h, sum_perm ((order_perm ws b p).map (piece ws p)), sumTo_filter]
  unfold sideOf
  rw [sumTo_filter]
  refine sumTo_congr fun j hj => ?_
  have e : pAt (piecesN ws p) j = piece ws p j := by
    unfold pAt
    rw [List.getD_eq_getElem?_getD, piecesN_get hj]
    rfl
  rw [e]
  unfold dealsB
  by_cases q : ((wAt ws j).buy == b) = true
  · by_cases z : willing (wAt ws j) p = true
    · simp [q, z]
    · have : piece ws p j = 0 := by
        unfold piece
        rw [if_neg z]
      simp [q, z, this]
  · simp [q]
theorem pAt_piecesN {ws : List Wish} {p : Int} {k : Nat} (h : k < ws.length) : pAt (piecesN ws p) k = piece ws p k := by
  unfold pAt
  rw [List.getD_eq_getElem?_getD, piecesN_get h]
  rfl
theorem piecesN_ok {ws : List Wish} (hg : Good ws) (p : Int) : PiecesOk ws (piecesN ws p) := by
  refine ⟨piecesN_len ws p, fun k hk => ?_⟩
  rw [pAt_piecesN hk]
  have ha : 1 ≤ amtAt ws k := (hg _ (wAt_mem hk)).2.2.1
  unfold piece
  split <;> omega
def betterN (w : Wish) (p : Int) : Int := if w.buy = true then w.limit - p else p - w.limit
theorem gainN_better (w : Wish) (p n : Int) : gainN w p n = betterN w p * n := by
  unfold gainN betterN
  split <;> rfl
theorem piece_worse {ws : List Wish} {p : Int} {k : Nat} (h : betterN (wAt ws k) p < 0) : piece ws p k = 0 := by
  unfold piece
  rw [if_neg]
  unfold betterN at h
  unfold willing
  split at h <;> rename_i q <;> simp [q] <;> omega
theorem piece_better {ws : List Wish} {p : Int} {k : Nat} (hg : Good ws) (hk : k < ws.length) (hc : coveredB ws p = true) (ht : takenB ws p = true) (h : 0 < betterN (wAt ws k) p) : piece ws p k = amtAt ws k := by
  have ha : 1 ≤ amtAt ws k := (hg _ (wAt_mem hk)).2.2.1
  have hc : amountOf ws true (p + 1) ≤ amountOf ws false p := of_decide_eq_true hc
  have ht : amountOf ws false (p - 1) ≤ amountOf ws true p := of_decide_eq_true ht
  have hw : willing (wAt ws k) p = true := by
    unfold betterN at h
    unfold willing
    split at h <;> rename_i q <;> simp [q] <;> omega
  have key : aheadN ws k + amtAt ws k ≤ dealtN ws p := by
    have hnn : ∀ j, j < ws.length → 0 ≤ amtAt ws j := fun j hj => by
      have : 1 ≤ amtAt ws j := (hg _ (wAt_mem hj)).2.2.1
      omega
    have main : ∀ q, (∀ j, aheadB ws k j = true → dealsB ws (wAt ws k).buy q j = true) → dealsB ws (wAt ws k).buy q k = true → aheadN ws k + amtAt ws k ≤ amountOf ws (wAt ws k).buy q := fun q h1 h2 => by
      rw [amountOf_sum]
      show aheadTo ws k ws.length + _ ≤ _
      unfold aheadTo
      rw [sumTo_filter]
      refine sumTo_le_at hk (fun j hj => ?_) ?_
      · have := hnn j hj
        by_cases z : aheadB ws k j = true
        · rw [if_pos z, if_pos (h1 j z)]
          exact Int.le_refl _
        · rw [if_neg z]
          split <;> omega
      · rw [if_pos h2, if_neg]
        · omega
        · unfold aheadB
          simp
    unfold betterN at h
    cases hb : (wAt ws k).buy with
    | true =>
      rw [hb] at main h
      rw [if_pos rfl] at h
      have m := main (p + 1) (fun j hj => by
        unfold aheadB at hj
        unfold dealsB willing
        rw [hb] at hj
        simp at hj ⊢
        obtain ⟨h1, h2⟩ := hj
        refine ⟨h1, ?_⟩
        rw [h1, if_pos rfl]
        omega) (by
        unfold dealsB willing
        simp [hb]
        omega)
      have h1 := wanted_anti hg (p := p) (q := p + 1) (by omega)
      unfold dealtN
      omega
    | false =>
      rw [hb] at main h
      rw [if_neg (by decide)] at h
      have m := main (p - 1) (fun j hj => by
        unfold aheadB at hj
        unfold dealsB willing
        rw [hb] at hj
        simp at hj ⊢
        obtain ⟨h1, h2⟩ := hj
        refine ⟨h1, ?_⟩
        rw [h1]
        simp
        omega) (by
        unfold dealsB willing
        simp [hb]
        omega)
      have h1 := offered_mono hg (p := p - 1) (q := p) (by omega)
      unfold dealtN
      omega
  unfold piece
  rw [if_pos hw]
  omega
theorem dealt_most {ws : List Wish} {p : Int} (hg : Good ws) (hc : coveredB ws p = true) (ht : takenB ws p = true) (q : Int) : dealtN ws q ≤ dealtN ws p := by
  have hc : amountOf ws true (p + 1) ≤ amountOf ws false p := of_decide_eq_true hc
  have ht : amountOf ws false (p - 1) ≤ amountOf ws true p := of_decide_eq_true ht
  have h1 := wanted_anti hg (p := p) (q := p + 1) (by omega)
  have h2 := offered_mono hg (p := p - 1) (q := p) (by omega)
  unfold dealtN
  rcases Int.lt_trichotomy q p with z | z | z
  · have := offered_mono hg (p := q) (q := p - 1) (by omega)
    omega
  · rw [z]
    exact Int.le_refl _
  · have := wanted_anti hg (p := p + 1) (q := q) (by omega)
    omega

structure Bk.ok (b : Bk) : Prop extends Bk.wf b where
  good : Good b.came
  low : ∀ k, k < b.came.length → 0 ≤ pAt b.rest k
  most : ∀ k, k < b.came.length → pAt b.rest k ≤ amtAt b.came k
  p0 : 0 ≤ b.price
  p1 : b.price ≤ 1000000000
def Bk.ws (b : Bk) : List Wish := b.rows.map (·.2)
def Bk.numAt (b : Bk) (i : Nat) : Nat := b.standN.getD i 0
def Bk.dealN (b : Bk) (d : Deal) : Deal := ⟨b.numAt d.b, b.numAt d.s, d.m⟩
def addAt (m : List Int) (k : Nat) (v : Int) : List Int := m.set k (pAt m k + v)
def payD (p : Int) (m : List Int) (d : Deal) : List Int := addAt (addAt m d.b (p * d.m)) d.s (p * d.m)
def Bk.ringD (b : Bk) (p : Int) : List Deal := (pairsN b.ws (piecesN b.ws p)).map b.dealN
def Bk.rung (b : Bk) (p : Int) : Bk := ⟨p, b.came, (b.ringD p).foldl applyD b.rest, (b.ringD p).foldl (payD p) b.money⟩
def Bk.isRing (b : Bk) (p : Int) : Prop := ∃ lo hi, IsLow b.ws lo ∧ IsHigh b.ws hi ∧ p = max lo (min b.price hi)
theorem addAt_len (m : List Int) (k : Nat) (v : Int) : (addAt m k v).length = m.length := by
  unfold addAt
  rw [List.length_set]
theorem payD_len (p : Int) (m : List Int) (d : Deal) : (payD p m d).length = m.length := by
  unfold payD
  rw [addAt_len, addAt_len]
theorem foldl_len2 (D : List Deal) : ∀ ps : List Int, (D.foldl applyD ps).length = ps.length := by
  induction D with
  | nil => intro ps; rfl
  | cons d D ih =>
    intro ps
    rw [List.foldl_cons, ih, applyD_len]
theorem foldp_len (p : Int) (D : List Deal) : ∀ ps : List Int, (D.foldl (payD p) ps).length = ps.length := by
  induction D with
  | nil => intro ps; rfl
  | cons d D ih =>
    intro ps
    rw [List.foldl_cons, ih, payD_len]
theorem Bk.ws_len (b : Bk) : b.ws.length = b.standN.length := by
  unfold Bk.ws Bk.rows rowsTo2 Bk.standN
  rw [List.length_map, List.length_map]
theorem Bk.stand_le (b : Bk) : b.standN.length ≤ b.came.length := by
  unfold Bk.standN
  refine Nat.le_trans (List.length_filter_le _ _) ?_
  rw [List.length_range]
  exact Nat.le_refl _
theorem Bk.num_get {b : Bk} {i : Nat} (h : i < b.ws.length) : b.standN[i]? = some (b.numAt i) := by
  rw [b.ws_len] at h
  unfold Bk.numAt
  rw [List.getD_eq_getElem?_getD, List.getElem?_eq_getElem h]
  rfl
theorem Bk.num_mem {b : Bk} {i : Nat} (h : i < b.ws.length) : b.numAt i < b.came.length ∧ 0 < pAt b.rest (b.numAt i) := by
  have q := List.mem_of_getElem? (Bk.num_get h)
  unfold Bk.standN at q
  rw [List.mem_filter, List.mem_range, decide_eq_true_eq] at q
  exact q
theorem Bk.row_get {b : Bk} {i : Nat} (h : i < b.ws.length) : b.rows[i]? = some (b.numAt i, b.restW (b.numAt i)) := by
  have q := Bk.num_get h
  unfold Bk.standN at q
  unfold Bk.rows rowsTo2
  rw [List.getElem?_map, q]
  rfl
theorem Bk.ws_get {b : Bk} {i : Nat} (h : i < b.ws.length) : wAt b.ws i = b.restW (b.numAt i) := by
  have q : b.ws[i]? = some (b.restW (b.numAt i)) := by
    unfold Bk.ws
    rw [List.getElem?_map, Bk.row_get h]
    rfl
  rw [wAt_get h] at q
  exact Option.some.inj q
theorem Bk.good_ws {b : Bk} (h : b.ok) : Good b.ws := fun w hw => by
  obtain ⟨i, hi⟩ := List.mem_iff_getElem?.mp hw
  have hl := (List.getElem?_eq_some_iff.mp hi).1
  rw [wAt_get hl] at hi
  cases hi
  rw [Bk.ws_get hl]
  obtain ⟨h1, h2⟩ := Bk.num_mem hl
  have g := h.good _ (wAt_mem h1)
  have m := h.most _ h1
  unfold amtAt at m
  exact ⟨g.1, g.2.1, by show 1 ≤ pAt b.rest (b.numAt i); omega, by show pAt b.rest (b.numAt i) ≤ 1000000; have := g.2.2.2; omega⟩
theorem Bk.ring_ex {b : Bk} (h : b.ok) : ∃ p, b.isRing p := by
  obtain ⟨lo, a⟩ := low_ex (Bk.good_ws h)
  obtain ⟨hi, d⟩ := high_ex (Bk.good_ws h)
  exact ⟨_, lo, hi, a, d, rfl⟩
theorem Bk.pairs_ok {b : Bk} (h : b.ok) (p : Int) : PairsOk b.ws (piecesN b.ws p) (pairsN b.ws (piecesN b.ws p)) := by
  refine pairsN_ok (piecesN_ok (Bk.good_ws h) p) ?_
  rw [side_pieces (Bk.good_ws h), side_pieces (Bk.good_ws h)]
theorem noLD_deal (d : Deal) : noLD (dealD d) = true := by
  unfold dealD
  simp [noLD, noLDs]
theorem noLD_row (r : Nat × Wish) : noLD (rowD r) = true := by
  have := noLD_wish r.2
  unfold rowD
  simp [noLD, noLDs, this]
def R_Book_ring (c : Cs) (ds : List PyData) (μ : Store) (W : Out → Store → Prop) : Prop := ∃ a g b p, ds = [rawD a] ∧ μ a = some (Bk.cell b c g) ∧ b.ok ∧ b.isRing p ∧ W = fun o μ' => o = .new ((b.ringD p).map dealD) ∧ μ' = mset μ a ((b.rung p).cell c g)
-- slots of Book_ring: 0 self 1 rows 2 wishes 3 row 4 found 5 deal 6 buyer 7 seller 8 number
def t_Book_ring (K : PySem.W.Frag) (c : Cs) (E : XK) : TS :=
  (tSeq (tAsg (tMeth c.Book "standing" (spD K (R_Book_standing c)) [] E0 (tVar 0) tNil) (gName 1))
    (tSeq (tAsg (tLc (iList K (tVar 1)) (gName 3) tYes (tOp (rIxT K) (tVar 3) (tC (.int 1))) [3]) (gName 2))
    (tSeq (sFld K (tVar 0) (tCall (spD K (R_price_by c)) [] E (tCons (tVar 2) (tCons (tFld K (tVar 0) "price") tNil))) "price")
    (tSeq (tAsg (tLst tNil) (gName 4))
    (tSeq (tFor (iList K (tCall (spD K (R_pairs c)) [] E (tCons (tVar 2) (tCons (tCall (spD K (R_pieces_at c)) [] E (tCons (tVar 2) (tCons (tFld K (tVar 0) "price") tNil))) tNil)))) (gName 5) (tSeq (tAsg (tOp (rIxT K) (tOp (rIxL K) (tVar 1) (tOp (rIxT K) (tVar 5) (tC (.int 0)))) (tC (.int 0))) (gName 6))
    (tSeq (tAsg (tOp (rIxT K) (tOp (rIxL K) (tVar 1) (tOp (rIxT K) (tVar 5) (tC (.int 1)))) (tC (.int 0))) (gName 7))
    (tSeq (tFor (iTup K (tTup (tCons (tVar 6) (tCons (tVar 7) tNil)))) (gName 8) (tSeq (tAsg (tOp rSubI (tOp (rIxL K) (tFld K (tVar 0) "rest") (tVar 8)) (tOp (rIxT K) (tVar 5) (tC (.int 2)))) (gSub (tFld K (tVar 0) "rest") (tVar 8) rSetL))
    (tAsg (tOp rAddI (tOp (rIxL K) (tFld K (tVar 0) "money") (tVar 8)) (tOp rMulI (tFld K (tVar 0) "price") (tOp (rIxT K) (tVar 5) (tC (.int 2))))) (gSub (tFld K (tVar 0) "money") (tVar 8) rSetL))))
    (tDrop (tBM K "list" rAppend (tVar 4) (tCons (tTup (tCons (tVar 6) (tCons (tVar 7) (tCons (tOp (rIxT K) (tVar 5) (tC (.int 2))) tNil)))) tNil)))))))
    (tRet (tVar 4)))))))
theorem len_Book_ring {c : Cs} : ∀ ds μ W, R_Book_ring c ds μ W → ds.length = 1 := by
  intro ds μ W h
  grind (ematch := 14) (gen := 20) [R_Book_ring]
theorem fold_snoc {α : Type} {f : α → Deal → α} {D : List Deal} {k : Nat} {d : Deal} {ps : α} (h : D[k]? = some d) : (D.take (k + 1)).foldl f ps = f ((D.take k).foldl f ps) d := by
  rw [List.take_add_one, h, List.foldl_append]
  rfl
/-- the book behind k deals -/
def Bk.rungTo (b : Bk) (p : Int) (k : Nat) : Bk := ⟨p, b.came, ((b.ringD p).take k).foldl applyD b.rest, ((b.ringD p).take k).foldl (payD p) b.money⟩
theorem body_Book_ring {K : PySem.W.Frag} {c : Cs} {E : XK} : ∀ ds μ W, R_Book_ring c ds μ W → DM K E (t_Book_ring K c E) (slots 9 ds) μ (postM W) := by
  rintro _ μ _ ⟨a, g, b, p, rfl, hc, hk, hr, rfl⟩
  have hw : b.wf := hk.towf
  have h1 := hw.rest
  have h2 := hw.money
  have h3 := hw.few
  have h4 := b.ws_len
  have h5 := b.stand_le
  have hg := Bk.good_ws hk
  obtain ⟨lo, hi, hlo, hhi, hp⟩ := id hr
  have hP := Bk.pairs_ok hk p
  have l0 := hlo.lo
  have l1 := hlo.hi
  have l2 := hhi.lo
  have l3 := hhi.hi
  have p0 := hk.p0
  have p1 := hk.p1
  have hp01 : 0 ≤ p ∧ p ≤ 1000000000 := by omega
  show DM K E _ [.val (rawD a), .no, .no, .no, .no, .no, .no, .no, .no] μ _
  -- rows = self.standing()
  refine dm_seq (dm_new (mn_v (ds := [some (b.data c), none, none, none, none, none, none, none, none]) (by walk_at "vw") (xs := b.rows.map rowD) (dn_meth bkNo_standing (de_var rfl) da_nil ⟨b, rfl, hw, rfl⟩) (noLDs_map fun r _ => noLD_row r) ?_))
  refine dm_freeze (i := 1) (xs := b.rows.map rowD) rfl ?_
  show DM K E _ [.val (rawD a), .val (.list (b.rows.map rowD)), .no, .no, .no, .no, .no, .no, .no] μ _
  -- wishes = [row[1] for row in rows]
  refine dm_seq (dm_new (mn_dn (xs := b.ws.map wishD) ?_ ?_))
  · have q := VS.dn_lcL (K := K) (ds := frz [.val (rawD a), .val (.list (b.rows.map rowD)), .no, .no, .no, .no, .no, .no, .no]) (te := tOp (rIxT K) (tVar 3) (tC (.int 1))) (tl := tVar 1) (t := tYes) (j := 3) (xs := b.rows.map rowD) (fun _ => true) (fun d => match d with | .tuple [_, w] => w | _ => .none) (VS.de_var rfl) (by rw [List.length_map]; have : b.rows.length ≤ b.came.length := rowsTo2_len b b.came.length; omega) (fun x _ => VS.dt_yes) (fun x hx _ => by
      obtain ⟨r, _, rfl⟩ := List.mem_map.mp hx
      unfold rowD
      walk_at "ev")
    rw [VS.lcOf_all, List.map_map] at q
    unfold Bk.ws
    rw [List.map_map]
    exact q
  refine dm_freeze (i := 2) (xs := b.ws.map wishD) rfl ?_
  show DM K E _ [.val (rawD a), .val (.list (b.rows.map rowD)), .val (wsD b.ws), .no, .no, .no, .no, .no, .no] μ _
  -- self.price = ..
  refine dm_seq (dm_price (me_v (ds := [some (b.data c), none, some (wsD b.ws), none, none, none, none, none, none]) (by walk_at "vw") (d := .int p) ?_ rfl (me_de (de_var rfl) ⟨p, a, _, _, _, _, _, _, _, _, _, rfl, rfl, hc, ?_⟩)))
  · rw [hp]
    exact de_call (by walk_at "ev") ⟨b.ws, .int b.price, rfl, rfl, hg, by omega, .inr ⟨b.price, lo, hi, rfl, p0, p1, hlo, hhi, rfl⟩⟩
  have e0 : (Cell.book c.Book g.dx g.l1 g.l2 g.l3 p (b.came.map wishD) (b.rest.map PyData.int) (b.money.map PyData.int)) = (b.rungTo p 0).cell c g := rfl
  rw [e0]
  -- found = []
  refine dm_seq (dm_new (mn_dn (xs := []) (by walk_at "ev") ?_))
  show DM K E _ [.val (rawD a), .val (.list (b.rows.map rowD)), .val (wsD b.ws), .no, .own [], .no, .no, .no, .no] (mset μ a ((b.rungTo p 0).cell c g)) _
  -- the deals
  have hpl := piecesN_ok hg p
  have hsd : sideOf b.ws (piecesN b.ws p) true = sideOf b.ws (piecesN b.ws p) false := by rw [side_pieces hg, side_pieces hg]
  refine dm_seq (dm_for (xs := (pairsN b.ws (piecesN b.ws p)).map dealD) (W := fun k es μ' => (∃ s5 s6 s7 s8, es = [.val (rawD a), .val (.list (b.rows.map rowD)), .val (wsD b.ws), .no, .own (((b.ringD p).take k).map dealD), s5, s6, s7, s8]) ∧ μ' = mset μ a ((b.rungTo p k).cell c g)) ?_ ?_ ?_)
  · refine me_new (mn_v (ds := [some ((b.rungTo p 0).data c), none, some (wsD b.ws), none, none, none, none, none, none]) (by walk_at "vw") (xs := (pairsN b.ws (piecesN b.ws p)).map dealD) (dn_call (xs := [wsD b.ws, intsD (piecesN b.ws p)]) ?_ ?_) (noLDs_map fun d _ => noLD_deal d) ⟨rfl, ⟨.no, .no, .no, .no, rfl⟩, rfl⟩)
    · refine da_cons (de_var rfl) (da_cons (de_call (xs := [wsD b.ws, .int p]) (da_cons (de_var rfl) (da_cons (de_fldP (de_var rfl)) da_nil)) ?_) da_nil)
      exact ⟨b.ws, .int p, rfl, rfl, hg, by omega, .inr ⟨p, rfl, hp01.1, hp01.2, rfl⟩⟩
    · exact ⟨b.ws, _, rfl, plain_ints _, by omega, .inr ⟨piecesN b.ws p, rfl, hpl, .inr ⟨hsd, rfl⟩⟩⟩
  · rintro k x _ _ hx ⟨⟨s5, s6, s7, s8, rfl⟩, rfl⟩
    obtain ⟨d, hd, rfl⟩ := map_at hx
    have ho := hP.ok d (List.mem_of_getElem? hd)
    have hrb := Bk.row_get ho.bl
    have hrs := Bk.row_get ho.sl
    obtain ⟨nb1, nb2⟩ := Bk.num_mem ho.bl
    obtain ⟨ns1, ns2⟩ := Bk.num_mem ho.sl
    have hD : (b.ringD p)[k]? = some (b.dealN d) := by
      unfold Bk.ringD
      rw [List.getElem?_map, hd]
      rfl
    show DM K E _ [.val (rawD a), .val (.list (b.rows.map rowD)), .val (wsD b.ws), .no, .own (((b.ringD p).take k).map dealD), .val (dealD d), s6, s7, s8] _ _
    refine dm_seq (dm_asg (me_de (d := .int (b.numAt d.b : Int)) (de_op (de_op (de_var rfl) (de_op (de_var rfl) de_int (VS.d2_ixT rfl)) (VS.d2_ixL (atI_map hrb))) de_int (VS.d2_ixT rfl)) ?_))
    show DM K E _ [.val (rawD a), .val (.list (b.rows.map rowD)), .val (wsD b.ws), .no, .own (((b.ringD p).take k).map dealD), .val (dealD d), .val (.int (b.numAt d.b : Int)), s7, s8] _ _
    refine dm_seq (dm_asg (me_de (d := .int (b.numAt d.s : Int)) (de_op (de_op (de_var rfl) (de_op (de_var rfl) de_int (VS.d2_ixT rfl)) (VS.d2_ixL (atI_map hrs))) de_int (VS.d2_ixT rfl)) ?_))
    show DM K E _ [.val (rawD a), .val (.list (b.rows.map rowD)), .val (wsD b.ws), .no, .own (((b.ringD p).take k).map dealD), .val (dealD d), .val (.int (b.numAt d.b : Int)), .val (.int (b.numAt d.s : Int)), s8] _ _
    have hlr : (b.rungTo p k).rest.length = b.came.length := by
      show (((b.ringD p).take k).foldl applyD b.rest).length = _
      rw [foldl_len2, h1]
    have hlm : (b.rungTo p k).money.length = b.came.length := by
      show (((b.ringD p).take k).foldl (payD p) b.money).length = _
      rw [foldp_len, h2]
    -- for number in (buyer, seller)
    refine dm_seq (dm_forT (xs := [.int (b.numAt d.b : Int), .int (b.numAt d.s : Int)]) (W := fun j es μ' => (∃ s8, es = [.val (rawD a), .val (.list (b.rows.map rowD)), .val (wsD b.ws), .no, .own (((b.ringD p).take k).map dealD), .val (dealD d), .val (.int (b.numAt d.b : Int)), .val (.int (b.numAt d.s : Int)), s8]) ∧ μ' = mset μ a ((⟨p, b.came, if j = 0 then (b.rungTo p k).rest else if j = 1 then subAt (b.rungTo p k).rest (b.numAt d.b) d.m else applyD (b.rungTo p k).rest (b.dealN d), if j = 0 then (b.rungTo p k).money else if j = 1 then addAt (b.rungTo p k).money (b.numAt d.b) (p * d.m) else payD p (b.rungTo p k).money (b.dealN d)⟩ : Bk).cell c g)) ?_ ?_ ?_)
    · exact me_de (by walk_at "ev") ⟨rfl, ⟨s8, rfl⟩, rfl⟩
    · rintro j x _ _ hx ⟨⟨s8', rfl⟩, rfl⟩
      obtain ⟨n, r0, m0, rfl, hn, hr0, hm0, er, em, er', em'⟩ : ∃ (n : Nat) (r0 m0 : List Int), x = .int (n : Int) ∧ n < b.came.length ∧ r0.length = b.came.length ∧ m0.length = b.came.length ∧ (if j = 0 then (b.rungTo p k).rest else if j = 1 then subAt (b.rungTo p k).rest (b.numAt d.b) d.m else applyD (b.rungTo p k).rest (b.dealN d)) = r0 ∧ (if j = 0 then (b.rungTo p k).money else if j = 1 then addAt (b.rungTo p k).money (b.numAt d.b) (p * d.m) else payD p (b.rungTo p k).money (b.dealN d)) = m0 ∧
          (if j + 1 = 0 then (b.rungTo p k).rest else if j + 1 = 1 then subAt (b.rungTo p k).rest (b.numAt d.b) d.m else applyD (b.rungTo p k).rest (b.dealN d)) = subAt r0 n d.m ∧ (if j + 1 = 0 then (b.rungTo p k).money else if j + 1 = 1 then addAt (b.rungTo p k).money (b.numAt d.b) (p * d.m) else payD p (b.rungTo p k).money (b.dealN d)) = addAt m0 n (p * d.m) := by
        match j, hx with
        | 0, hx => exact ⟨b.numAt d.b, _, _, (Option.some.inj hx).symm, nb1, hlr, hlm, rfl, rfl, rfl, rfl⟩
        | 1, hx => exact ⟨b.numAt d.s, _, _, (Option.some.inj hx).symm, ns1, (subAt_len _ _ _).trans hlr, (addAt_len _ _ _).trans hlm, rfl, rfl, rfl, rfl⟩
        | j + 2, hx => cases hx
      rw [er, em]
      show DM K E _ [.val (rawD a), .val (.list (b.rows.map rowD)), .val (wsD b.ws), .no, .own (((b.ringD p).take k).map dealD), .val (dealD d), .val (.int (b.numAt d.b : Int)), .val (.int (b.numAt d.s : Int)), .val (.int (n : Int))] _ _
      have g1 := pAt_get (ps := r0) (k := n) (by omega)
      have g2 := pAt_get (ps := m0) (k := n) (by omega)
      refine dm_seq (dm_cput (me_v (ds := [some (Bk.data ⟨p, b.came, r0, m0⟩ c), none, none, none, none, some (dealD d), none, none, some (.int (n : Int))]) (by walk_at "vw") (d := .int (pAt r0 n - d.m)) ?_ rfl (me_v (ds := [some (Bk.raws ⟨p, b.came, r0, m0⟩ c g), none, none, none, none, none, none, none, none]) (by walk_at "vw") (de_fldR (de_var rfl)) rfl (me_de (de_var rfl) ⟨g.l2, (n : Int), a, _, _, _, n, rfl, rfl, mset_at, inC_rest, Evl.ixN_nat (by rw [List.length_map]; show n < r0.length; omega), ?_⟩))))
      · unfold dealD
        walk_at "ev"
      have e1 : mset (mset μ a (Bk.cell ⟨p, b.came, r0, m0⟩ c g)) a (.book c.Book g.dx g.l1 g.l2 g.l3 p (b.came.map wishD) ((r0.map PyData.int).set n (.int (pAt r0 n - d.m))) (m0.map PyData.int)) = mset μ a (Bk.cell ⟨p, b.came, subAt r0 n d.m, m0⟩ c g) := by
        rw [mset_mset]
        unfold Bk.cell subAt
        rw [← List.map_set]
      show DM K E _ _ (mset (mset μ a (Bk.cell ⟨p, b.came, r0, m0⟩ c g)) a (.book c.Book g.dx g.l1 g.l2 g.l3 p (b.came.map wishD) ((r0.map PyData.int).set n (.int (pAt r0 n - d.m))) (m0.map PyData.int))) _
      rw [e1]
      refine dm_cput (me_v (ds := [some (Bk.data ⟨p, b.came, subAt r0 n d.m, m0⟩ c), none, none, none, none, some (dealD d), none, none, some (.int (n : Int))]) (by walk_at "vw") (d := .int (pAt m0 n + p * d.m)) ?_ rfl (me_v (ds := [some (Bk.raws ⟨p, b.came, subAt r0 n d.m, m0⟩ c g), none, none, none, none, none, none, none, none]) (by walk_at "vw") (de_fldM (de_var rfl)) rfl (me_de (de_var rfl) ⟨g.l3, (n : Int), a, _, _, _, n, rfl, rfl, mset_at, inC_money, Evl.ixN_nat (by rw [List.length_map]; show n < m0.length; omega), ⟨_, rfl⟩, ?_⟩)))
      · refine de_op (de_op (de_fldM (de_var rfl)) (de_var rfl) (VS.d2_ixL (atI_map g2))) (de_op (de_fldP (de_var rfl)) (de_op (de_var rfl) de_int (VS.d2_ixT rfl)) (d2_mulL (by show (-(2 ^ 64) : Int) < p; omega) (by show p < (2 ^ 64 : Int); omega))) d2_add
      · rw [mset_mset, er', em']
        unfold Bk.cell addAt
        rw [← List.map_set]
    · rintro _ _ ⟨⟨s8', rfl⟩, rfl⟩
      have e2 : (⟨p, b.came, if [PyData.int (b.numAt d.b : Int), .int (b.numAt d.s : Int)].length = 0 then (b.rungTo p k).rest else if [PyData.int (b.numAt d.b : Int), .int (b.numAt d.s : Int)].length = 1 then subAt (b.rungTo p k).rest (b.numAt d.b) d.m else applyD (b.rungTo p k).rest (b.dealN d), if [PyData.int (b.numAt d.b : Int), .int (b.numAt d.s : Int)].length = 0 then (b.rungTo p k).money else if [PyData.int (b.numAt d.b : Int), .int (b.numAt d.s : Int)].length = 1 then addAt (b.rungTo p k).money (b.numAt d.b) (p * d.m) else payD p (b.rungTo p k).money (b.dealN d)⟩ : Bk) = b.rungTo p (k + 1) := by
        show (⟨p, b.came, applyD (b.rungTo p k).rest (b.dealN d), payD p (b.rungTo p k).money (b.dealN d)⟩ : Bk) = _
        unfold Bk.rungTo
        rw [fold_snoc hD, fold_snoc hD]
      rw [e2]
      refine dm_lift (VS.ds_appV (i := 4) (d := dealD (b.dealN d)) (xs := ((b.ringD p).take k).map dealD) ?_ rfl ?_ ⟨⟨.val (dealD d), .val (.int (b.numAt d.b : Int)), .val (.int (b.numAt d.s : Int)), s8', ?_⟩, rfl⟩)
      · show DE K _ (frz [.val (rawD a), .val (.list (b.rows.map rowD)), .val (wsD b.ws), .no, .own (((b.ringD p).take k).map dealD), .val (dealD d), .val (.int (b.numAt d.b : Int)), .val (.int (b.numAt d.s : Int)), s8']) _
        unfold dealD Bk.dealN
        walk_at "ev"
      · rw [List.length_map, List.length_take]
        have := (List.getElem?_eq_some_iff.mp hD).1
        have hf := hP.few
        have : (b.ringD p).length = (pairsN b.ws (piecesN b.ws p)).length := by
          unfold Bk.ringD
          rw [List.length_map]
        omega
      · have e3 : ((b.ringD p).take (k + 1)).map dealD = ((b.ringD p).take k).map dealD ++ [dealD (b.dealN d)] := by
          rw [List.take_add_one, hD, List.map_append]
          rfl
        rw [e3]
        rfl
  · rintro _ _ ⟨⟨s5, s6, s7, s8, rfl⟩, rfl⟩
    have el : ((pairsN b.ws (piecesN b.ws p)).map dealD).length = (b.ringD p).length := by
      unfold Bk.ringD
      rw [List.length_map, List.length_map]
    rw [el, List.take_length]
    refine dm_retO rfl ⟨rfl, ?_⟩
    unfold Bk.rungTo Bk.rung
    rw [List.take_length]

def cellAt (ns : List Int) (k : Int) : Int := ns.getD k.toNat 0
def R__law_cell_at (c : Cs) (ds : List PyData) (o : Out) : Prop := ∃ ns k, ds = [scrD ns, .int k] ∧ o = .ret (.int (cellAt ns k)) ∧ 0 ≤ k
-- slots of _law_cell_at: 0 _law_script 1 _law_k
def t__law_cell_at (K : PySem.W.Frag) (c : Cs) (E : XK) : TS :=
  (tSeq (tIfS (tTest (tOp rLtI (tVar 1) (tCB (rLenSq K) (tCons (tVar 0) tNil)))) (tRet (tOp (rIxL K) (tVar 0) (tVar 1))) tNext)
    (tRet (tC (.int 0))))
theorem len__law_cell_at {c : Cs} : ∀ ds o, R__law_cell_at c ds o → ds.length = 2 := by
  intro ds o h
  grind (ematch := 14) (gen := 20) [R__law_cell_at]
theorem body__law_cell_at {K : PySem.W.Frag} {c : Cs} {E : XK} : ∀ ds o, R__law_cell_at c ds o → DS K E (t__law_cell_at K c E) (slots 2 ds) o.post := by
  rintro _ _ ⟨ns, k, rfl, rfl, h0⟩
  unfold t__law_cell_at
  apply VS.q_if
  · walk_at "ev"
  · intro hb
    have hk : k.toNat < ns.length := by
      have h := of_decide_eq_true hb
      omega
    apply VS.ds_ret
    · apply VS.de_op
      · walk_at "ev"
      · walk_at "ev"
      · exact VS.d2_ixC (Eq.trans (congrArg (atI ns) (Int.toNat_of_nonneg h0).symm) (atI_nat (List.getElem?_eq_getElem hk)))
    · exact VS.post_ret (by unfold cellAt; rw [List.getD_eq_getElem?_getD, List.getElem?_eq_getElem hk]; rfl)
  · intro hb
    have hk : ns.length ≤ k.toNat := by
      have h := of_decide_eq_false hb
      omega
    apply VS.ds_ret
    · walk_at "ev"
    · exact VS.post_ret (by unfold cellAt; rw [List.getD_eq_getElem?_getD, List.getElem?_eq_none hk]; rfl)

def R__law_whole (c : Cs) (ds : List PyData) (o : Out) : Prop := ∃ d, ds = [d] ∧ o = .ret (.bool (isInt d)) ∧ notScr d = true
-- slots of _law_whole: 0 _law_thing
def t__law_whole (K : PySem.W.Frag) (c : Cs) (E : XK) : TS :=
  (tRet (tAndV (tCB (rIsi K) (tCons (tVar 0) (tCons (tC (.ty "int")) tNil))) (tNotV (tCB (rIsi K) (tCons (tVar 0) (tCons (tC (.ty "bool")) tNil))))))
theorem len__law_whole {c : Cs} : ∀ ds o, R__law_whole c ds o → ds.length = 1 := by
  intro ds o h
  grind (ematch := 14) (gen := 20) [R__law_whole]
theorem body__law_whole {K : PySem.W.Frag} {c : Cs} {E : XK} : ∀ ds o, R__law_whole c ds o → DS K E (t__law_whole K c E) (slots 1 ds) o.post := by
  rintro _ _ ⟨d, rfl, rfl, hn⟩
  unfold t__law_whole
  apply VS.ds_ret
  · apply VS.de_andV
    · exact VS.de_isiU (VS.de_var rfl) hn (kit_int d)
    · intro _
      apply VS.de_notV
      exact VS.de_isiU (VS.de_var rfl) hn (kit_bool d)
  · exact VS.post_ret (by rw [isInt_ty])

def wbFar (cell : Int) : Int := cell * 48271 % 2147483647
def wbL0 (far : Int) : Int := 20 + far / 7 % 9
def wbL1 (cell far : Int) : Int := if far % 7 = 1 then cell * 69621 % 2147483629 % 1000000001 else wbL0 far
def wbL2 (cell far : Int) : Int := if far % 7 = 2 then [0, 1, 999999999, 1000000000].getD (far / 7 % 4).toNat 0 else wbL1 cell far
def wbA0 (far : Int) : Int := 1 + far / 63 % 6
def wbA1 (cell far : Int) : Int := if far / 63 % 5 = 1 then 1 + cell * 40692 % 2147483399 % 1000000 else wbA0 far
def wbA2 (cell far : Int) : Int := if far / 63 % 10 = 2 then 1000000 else wbA1 cell far
def wishBy (cell : Int) : Wish := ⟨!decide (cell % 2 = 1), wbL2 cell (wbFar cell), wbA2 cell (wbFar cell)⟩
theorem wishBy_good (cell : Int) : (wishBy cell).good := by
  unfold wishBy Wish.good
  generalize wbFar cell = far
  have h1 : 0 ≤ wbL2 cell far ∧ wbL2 cell far ≤ 1000000000 := by
    unfold wbL2 wbL1 wbL0
    split
    · have h : (far / 7 % 4).toNat < 4 := by omega
      generalize (far / 7 % 4).toNat = n at h
      match n, h with
      | 0, _ => decide
      | 1, _ => decide
      | 2, _ => decide
      | 3, _ => decide
    · split <;> omega
  have h2 : 1 ≤ wbA2 cell far ∧ wbA2 cell far ≤ 1000000 := by
    unfold wbA2 wbA1 wbA0
    split
    · decide
    · split <;> omega
  exact ⟨h1.1, h1.2, h2.1, h2.2⟩
theorem side_pick2 (i : Int) : ([PyData.str "buy", PyData.str "sell"].getD (i % 2).toNat .none) = .str (sideS (!decide (i % 2 = 1))) := by
  have h : i % 2 = 0 ∨ i % 2 = 1 := by omega
  rcases h with h | h
  · rw [h]; rfl
  · rw [h]; rfl
def R__law_wish_by (c : Cs) (ds : List PyData) (o : Out) : Prop := ∃ cell, ds = [.int cell] ∧ o = .ret (wishD (wishBy cell))
-- slots of _law_wish_by: 0 _law_cell 1 _law_side 2 _law_far 3 _law_limit 4 _law_amount
def t__law_wish_by (K : PySem.W.Frag) (c : Cs) (E : XK) : TS :=
  (tSeq (tAsg (tOp (rIxL K) (tLst (tCons (tC (.str "buy")) (tCons (tC (.str "sell")) tNil))) (tOp rModI (tVar 0) (tC (.int 2)))) (gName 1))
    (tSeq (tAsg (tOp rModI (tOp rMulI (tVar 0) (tC (.int 48271))) (tC (.int 2147483647))) (gName 2))
    (tSeq (tAsg (tOp rAddI (tC (.int 20)) (tOp rModI (tOp rDivI (tVar 2) (tC (.int 7))) (tC (.int 9)))) (gName 3))
    (tSeq (tIfS (tTest (tOp rEq (tOp rModI (tVar 2) (tC (.int 7))) (tC (.int 1)))) (tAsg (tOp rModI (tOp rModI (tOp rMulI (tVar 0) (tC (.int 69621))) (tC (.int 2147483629))) (tC (.int 1000000001))) (gName 3)) tNext)
    (tSeq (tIfS (tTest (tOp rEq (tOp rModI (tVar 2) (tC (.int 7))) (tC (.int 2)))) (tAsg (tOp (rIxL K) (tLst (tCons (tC (.int 0)) (tCons (tC (.int 1)) (tCons (tC (.int 999999999)) (tCons (tC (.int 1000000000)) tNil))))) (tOp rModI (tOp rDivI (tVar 2) (tC (.int 7))) (tC (.int 4)))) (gName 3)) tNext)
    (tSeq (tAsg (tOp rAddI (tC (.int 1)) (tOp rModI (tOp rDivI (tVar 2) (tC (.int 63))) (tC (.int 6)))) (gName 4))
    (tSeq (tIfS (tTest (tOp rEq (tOp rModI (tOp rDivI (tVar 2) (tC (.int 63))) (tC (.int 5))) (tC (.int 1)))) (tAsg (tOp rAddI (tC (.int 1)) (tOp rModI (tOp rModI (tOp rMulI (tVar 0) (tC (.int 40692))) (tC (.int 2147483399))) (tC (.int 1000000)))) (gName 4)) tNext)
    (tSeq (tIfS (tTest (tOp rEq (tOp rModI (tOp rDivI (tVar 2) (tC (.int 63))) (tC (.int 10))) (tC (.int 2)))) (tAsg (tC (.int 1000000)) (gName 4)) tNext)
    (tRet (tTup (tCons (tVar 1) (tCons (tVar 3) (tCons (tVar 4) tNil)))))))))))))
theorem len__law_wish_by {c : Cs} : ∀ ds o, R__law_wish_by c ds o → ds.length = 1 := by
  intro ds o h
  grind (ematch := 14) (gen := 20) [R__law_wish_by]
theorem body__law_wish_by {K : PySem.W.Frag} {c : Cs} {E : XK} : ∀ ds o, R__law_wish_by c ds o → DS K E (t__law_wish_by K c E) (slots 5 ds) o.post := by
  rintro _ _ ⟨cell, rfl, rfl⟩
  unfold t__law_wish_by
  apply VS.q_set (d := .str (sideS (!decide (cell % 2 = 1))))
  · refine VS.de_op (x := .list [.str "buy", .str "sell"]) (y := .int (cell % 2)) (by walk_at "ev") (by walk_at "ev") ?_
    have q := VS.d2_ixL (K := K) (xs := [PyData.str "buy", PyData.str "sell"].map id) (i := cell % 2) (atI_getD (f := id) .none (by omega) (by show _ < (2 : Int); omega))
    rw [List.map_id] at q
    show D2 K (rIxL K) _ _ _
    rw [← side_pick2]
    exact q
  · rfl
  apply VS.q_set (d := .int (wbFar cell))
  · unfold wbFar
    walk_at "ev"
  · rfl
  generalize hfar : wbFar cell = far
  apply VS.q_set (d := .int (wbL0 far))
  · unfold wbL0
    walk_at "ev"
  · rfl
  apply VS.q_ifset (d := .int (wbL1 cell far))
  · walk_at "ev"
  · intro hb
    unfold wbL1
    rw [if_pos (of_decide_eq_true hb)]
    walk_at "ev"
  · rfl
  · intro hb
    unfold wbL1
    rw [if_neg (of_decide_eq_false hb)]
    rfl
  apply VS.q_ifset (d := .int (wbL2 cell far))
  · walk_at "ev"
  · intro hb
    unfold wbL2
    rw [if_pos (of_decide_eq_true hb)]
    apply VS.de_op
    · apply VS.de_new
      walk_at "ev"
    · walk_at "ev"
    · exact VS.d2_ixL (atI_getD (f := PyData.int) (xs := [0, 1, 999999999, 1000000000]) 0 (by omega) (by show _ < (4 : Int); omega))
  · rfl
  · intro hb
    unfold wbL2
    rw [if_neg (of_decide_eq_false hb)]
    rfl
  apply VS.q_set (d := .int (wbA0 far))
  · unfold wbA0
    walk_at "ev"
  · rfl
  apply VS.q_ifset (d := .int (wbA1 cell far))
  · walk_at "ev"
  · intro hb
    unfold wbA1
    rw [if_pos (of_decide_eq_true hb)]
    walk_at "ev"
  · rfl
  · intro hb
    unfold wbA1
    rw [if_neg (of_decide_eq_false hb)]
    rfl
  apply VS.q_ifset (d := .int (wbA2 cell far))
  · walk_at "ev"
  · intro hb
    unfold wbA2
    rw [if_pos (of_decide_eq_true hb)]
    walk_at "ev"
  · rfl
  · intro hb
    unfold wbA2
    rw [if_neg (of_decide_eq_false hb)]
    rfl
  apply VS.ds_ret
  · walk_at "ev"
  · exact VS.post_ret (by unfold wishBy wishD; rw [hfar])

abbrev rsD (rs : List (Nat × Wish)) : PyData := .list (rs.map rowD)
def R__law_sum (c : Cs) (ds : List PyData) (o : Out) : Prop := ∃ (rs : List (Nat × Wish)) (b : Bool) (p : Int), ds = [rsD rs, .str (sideS b), .int p] ∧ o = .ret (.int (amountOf (rs.map (·.2)) b p))
-- slots of _law_sum: 0 _law_rows 1 _law_side 2 _law_price 3 _law_total 4 _law_row
def t__law_sum (K : PySem.W.Frag) (c : Cs) (E : XK) : TS :=
  (tSeq (tAsg (tC (.int 0)) (gName 3))
    (tSeq (tFor (iList K (tVar 0)) (gName 4) (tSeq (tIfS (tAnd (tTest (tOp rEq (tVar 1) (tC (.str "buy")))) (tAnd (tTest (tOp rEq (tOp (rIxT K) (tOp (rIxT K) (tVar 4) (tC (.int 1))) (tC (.int 0))) (tC (.str "buy")))) (tTest (tOp rGeI (tOp (rIxT K) (tOp (rIxT K) (tVar 4) (tC (.int 1))) (tC (.int 1))) (tVar 2))))) (tAsg (tOp rAddI (tVar 3) (tOp (rIxT K) (tOp (rIxT K) (tVar 4) (tC (.int 1))) (tC (.int 2)))) (gName 3)) tNext)
    (tIfS (tAnd (tTest (tOp rEq (tVar 1) (tC (.str "sell")))) (tAnd (tTest (tOp rEq (tOp (rIxT K) (tOp (rIxT K) (tVar 4) (tC (.int 1))) (tC (.int 0))) (tC (.str "sell")))) (tTest (tOp rLeI (tOp (rIxT K) (tOp (rIxT K) (tVar 4) (tC (.int 1))) (tC (.int 1))) (tVar 2))))) (tAsg (tOp rAddI (tVar 3) (tOp (rIxT K) (tOp (rIxT K) (tVar 4) (tC (.int 1))) (tC (.int 2)))) (gName 3)) tNext)))
    (tRet (tVar 3))))
theorem len__law_sum {c : Cs} : ∀ ds o, R__law_sum c ds o → ds.length = 3 := by
  intro ds o h
  grind (ematch := 14) (gen := 20) [R__law_sum]
theorem body__law_sum {K : PySem.W.Frag} {c : Cs} {E : XK} : ∀ ds o, R__law_sum c ds o → DS K E (t__law_sum K c E) (slots 5 ds) o.post := by
  rintro _ _ ⟨rs, b, p, rfl, rfl⟩
  obtain ⟨ws, hws⟩ : ∃ ws, ws = rs.map (·.2) := ⟨_, rfl⟩
  rw [← hws]
  unfold t__law_sum
  apply VS.q_set
  · walk_at "ev"
  · rfl
  apply VS.q_for (W := fun k es => ∃ s, es = [.val (rsD rs), .val (.str (sideS b)), .val (.int p), .val (.int (amountOf (ws.take k) b p)), s])
  · walk_at "ev"
  · exact ⟨.no, rfl⟩
  · rintro k x _ hk ⟨s, rfl⟩
    obtain ⟨⟨rn, w⟩, hr, rfl⟩ := map_at hk
    have hw : ws[k]? = some w := by
      rw [hws, List.getElem?_map, hr]
      rfl
    have e := amountOf_snoc (b := b) (p := p) hw
    obtain ⟨wb, wl, wa⟩ := w
    apply VS.q_ifset (d := .int (if (b && (wb && decide (p ≤ wl))) = true then amountOf (ws.take k) b p + wa else amountOf (ws.take k) b p))
    · refine VS.dt_to (b := decide (sideS b = "buy") && (decide (sideS wb = "buy") && decide (p ≤ wl))) ?_ (by rw [sideS_buy, sideS_buy])
      refine VS.dt_and ?_ fun _ => VS.dt_and ?_ fun _ => ?_
      · walk_at "ev"
      · walk_at "ev"
      · walk_at "ev"
    · intro hb
      rw [if_pos hb]
      walk_at "ev"
    · rfl
    · intro hb
      rw [if_neg (by rw [hb]; decide)]
      rfl
    apply VS.ds_if
    · refine VS.dt_to (b := decide (sideS b = "sell") && (decide (sideS wb = "sell") && decide (wl ≤ p))) (b' := !b && (!wb && decide (wl ≤ p))) ?_ (by rw [sideS_sell, sideS_sell])
      refine VS.dt_and ?_ fun _ => VS.dt_and ?_ fun _ => ?_
      · walk_at "ev"
      · walk_at "ev"
      · walk_at "ev"
    · intro hb
      simp only [Bool.and_eq_true, Bool.not_eq_true', decide_eq_true_eq] at hb
      apply VS.ds_set
      · walk_at "ev"
      · rfl
      · obtain ⟨rfl, rfl, h3⟩ := hb
        refine ⟨_, (?_ : _ = ([.val (rsD rs), .val (.str (sideS false)), .val (.int p), .val (.int (amountOf (ws.take (k + 1)) false p)), .val (rowD (rn, ⟨false, wl, wa⟩))] : List Slot))⟩
        rw [e]
        simp [willing, h3]
    · intro hb
      refine VS.ds_next ⟨_, (?_ : _ = ([.val (rsD rs), .val (.str (sideS b)), .val (.int p), .val (.int (amountOf (ws.take (k + 1)) b p)), .val (rowD (rn, ⟨wb, wl, wa⟩))] : List Slot))⟩
      rw [e]
      rw [show (if (wb == b && willing ⟨wb, wl, wa⟩ p) = true then wa else 0) = (if (b && (wb && decide (p ≤ wl))) = true then wa else 0) by
        cases b <;> cases wb <;> simp [willing] at hb ⊢
        omega]
      by_cases q : (b && (wb && decide (p ≤ wl))) = true
      · rw [if_pos q, if_pos q]
        rfl
      · rw [if_neg q, if_neg q, Int.add_zero]
        rfl
  · rintro _ ⟨s, rfl⟩
    rw [List.length_map, ← List.length_map (f := (·.2)) (as := rs), ← hws, List.take_length]
    apply VS.ds_ret
    · walk_at "ev"
    · exact VS.post_ret rfl

def clearsB (ws : List Wish) (p : Int) : Bool := decide (amountOf ws true (p + 1) ≤ amountOf ws false p) && decide (amountOf ws false (p - 1) ≤ amountOf ws true p)
def R__law_clears (c : Cs) (ds : List PyData) (o : Out) : Prop := ∃ (rs : List (Nat × Wish)) (p : Int), ds = [rsD rs, .int p] ∧ o = .ret (.bool (clearsB (rs.map (·.2)) p))
-- slots of _law_clears: 0 _law_rows 1 _law_price
def t__law_clears (K : PySem.W.Frag) (c : Cs) (E : XK) : TS :=
  (tSeq (tIfS (tTest (tOp rGtI (tCall (spD K (R__law_sum c)) [] E0 (tCons (tVar 0) (tCons (tC (.str "buy")) (tCons (tOp rAddI (tVar 1) (tC (.int 1))) tNil)))) (tCall (spD K (R__law_sum c)) [] E0 (tCons (tVar 0) (tCons (tC (.str "sell")) (tCons (tVar 1) tNil)))))) (tRet (tC (.bl false))) tNext)
    (tRet (tOp rLeI (tCall (spD K (R__law_sum c)) [] E0 (tCons (tVar 0) (tCons (tC (.str "sell")) (tCons (tOp rSubI (tVar 1) (tC (.int 1))) tNil)))) (tCall (spD K (R__law_sum c)) [] E0 (tCons (tVar 0) (tCons (tC (.str "buy")) (tCons (tVar 1) tNil)))))))
theorem len__law_clears {c : Cs} : ∀ ds o, R__law_clears c ds o → ds.length = 2 := by
  intro ds o h
  grind (ematch := 14) (gen := 20) [R__law_clears]
theorem body__law_clears {K : PySem.W.Frag} {c : Cs} {E : XK} : ∀ ds o, R__law_clears c ds o → DS K E (t__law_clears K c E) (slots 2 ds) o.post := by
  rintro _ _ ⟨rs, p, rfl, rfl⟩
  unfold t__law_clears
  apply VS.q_if
  · walk_at "ev"
  · intro hb
    have hb := of_decide_eq_true hb
    apply VS.ds_ret
    · walk_at "ev"
    · refine VS.post_ret ?_
      unfold clearsB
      rw [decide_eq_false (by omega)]
      rfl
  · intro hb
    have hb := of_decide_eq_false hb
    apply VS.ds_ret
    · walk_at "ev"
    · refine VS.post_ret ?_
      unfold clearsB
      rw [decide_eq_true (p := amountOf (rs.map (·.2)) true (p + 1) ≤ amountOf (rs.map (·.2)) false p) (by omega)]
      rfl

def R__law_priced (c : Cs) (ds : List PyData) (o : Out) : Prop := ∃ (rs : List (Nat × Wish)) (old p lo hi : Int), ds = [rsD rs, .int old, .int p] ∧ Good (rs.map (·.2)) ∧ IsLow (rs.map (·.2)) lo ∧ IsHigh (rs.map (·.2)) hi ∧ p = max lo (min old hi) ∧ 0 ≤ old ∧ old ≤ 1000000000 ∧ o = .ret (.bool true)
-- slots of _law_priced: 0 _law_rows 1 _law_old 2 _law_price
def t__law_priced (K : PySem.W.Frag) (c : Cs) (E : XK) : TS :=
  (tSeq (tIfS (tOr (tNot (tB (tCall (spD K (R__law_whole c)) [] E0 (tCons (tVar 2) tNil)))) (tOr (tNot (tTest (tChain rLeI rLeI (tC (.int 0)) (tVar 2) (tC (.int 1000000000))))) (tNot (tB (tCall (spD K (R__law_clears c)) [] E0 (tCons (tVar 0) (tCons (tVar 2) tNil))))))) (tRet (tC (.bl false))) tNext)
    (tSeq (tIfS (tOr (tAnd (tTest (tOp rLtI (tVar 2) (tVar 1))) (tB (tCall (spD K (R__law_clears c)) [] E0 (tCons (tVar 0) (tCons (tOp rAddI (tVar 2) (tC (.int 1))) tNil))))) (tAnd (tTest (tOp rGtI (tVar 2) (tVar 1))) (tB (tCall (spD K (R__law_clears c)) [] E0 (tCons (tVar 0) (tCons (tOp rSubI (tVar 2) (tC (.int 1))) tNil)))))) (tRet (tC (.bl false))) tNext)
    (tRet (tOrV (tOp rEq (tVar 2) (tVar 1)) (tNotV (tCall (spD K (R__law_clears c)) [] E0 (tCons (tVar 0) (tCons (tVar 1) tNil))))))))
theorem len__law_priced {c : Cs} : ∀ ds o, R__law_priced c ds o → ds.length = 3 := by
  intro ds o h
  grind (ematch := 14) (gen := 20) [R__law_priced]
theorem body__law_priced {K : PySem.W.Frag} {c : Cs} {E : XK} : ∀ ds o, R__law_priced c ds o → DS K E (t__law_priced K c E) (slots 3 ds) o.post := by
  rintro _ _ ⟨rs, old, p, lo, hi, rfl, hg, a, b, hp, h0, h1, rfl⟩
  unfold t__law_priced
  have cl : ∀ q, 0 ≤ q → q ≤ 1000000000 → (clearsB (rs.map (·.2)) q = true ↔ lo ≤ q ∧ q ≤ hi) := fun q z0 z1 => clears_iff hg a b z0 z1
  have hR : ∀ q, R__law_clears c [rsD rs, .int q] (.ret (.bool (clearsB (rs.map (·.2)) q))) := fun q => ⟨rs, q, rfl, rfl⟩
  have l0 := a.lo
  have l1 := a.hi
  have l2 := b.lo
  have l3 := b.hi
  have lh := (low_high hg a b).2.2
  have cb : ∀ q, 0 ≤ q → q ≤ 1000000000 → clearsB (rs.map (·.2)) q = decide (lo ≤ q ∧ q ≤ hi) := fun q z0 z1 => by
    rw [Bool.eq_iff_iff, cl q z0 z1, decide_eq_true_eq]
  have dcall : ∀ {te : TE} {ds : List (Option PyData)} {q : Int}, DE K (tVar 0) ds (rsD rs) → DE K te ds (.int q) → DE K (tCall (spD K (R__law_clears c)) [] E0 (tCons (tVar 0) (tCons te tNil))) ds (.bool (clearsB (rs.map (·.2)) q)) := fun h1 h2 => de_call (da_cons h1 (da_cons h2 da_nil)) (hR _)
  apply VS.q_guard
  · refine VS.dt_to (b := !true || (!(decide (0 ≤ p) && decide (p ≤ 1000000000)) || !clearsB (rs.map (·.2)) p)) (dt_orU (dt_not (dt_B (de_call (by walk_at "ev") ⟨_, rfl, rfl, rfl⟩))) (dt_orU (dt_not (dt_test (de_chainU de_int (de_var rfl) de_int d2_le d2_le))) (dt_not (dt_B (dcall (de_var rfl) (de_var rfl)))))) ?_
    rw [cb p (by omega) (by omega), decide_eq_true (show 0 ≤ p by omega), decide_eq_true (show p ≤ 1000000000 by omega), decide_eq_true (show lo ≤ p ∧ p ≤ hi by omega)]
    rfl
  apply VS.q_guard
  · refine VS.dt_to (b := (decide (p < old) && clearsB (rs.map (·.2)) (p + 1)) || (decide (old < p) && clearsB (rs.map (·.2)) (p - 1))) (dt_orU (dt_andU (by walk_at "ev") (dt_B (dcall (de_var rfl) (de_op (de_var rfl) de_int d2_add)))) (dt_andU (by walk_at "ev") (dt_B (dcall (de_var rfl) (de_op (de_var rfl) de_int d2_sub))))) ?_
    by_cases z1 : p < old
    · rw [cb (p + 1) (by omega) (by omega), decide_eq_false (show ¬ (lo ≤ p + 1 ∧ p + 1 ≤ hi) by omega), decide_eq_false (show ¬ old < p by omega)]
      simp
    · by_cases z2 : old < p
      · rw [cb (p - 1) (by omega) (by omega), decide_eq_false (show ¬ (lo ≤ p - 1 ∧ p - 1 ≤ hi) by omega), decide_eq_false z1]
        simp
      · rw [decide_eq_false z1, decide_eq_false z2]
        simp
  apply VS.ds_ret
  · exact de_orU (de_op (de_var rfl) (de_var rfl) d2_eqI) (de_notV (dcall (de_var rfl) (de_var rfl)))
  · refine VS.post_ret (congrArg (fun b => Out.ret (.bool b)) ?_)
    by_cases z : p = old
    · simp [z]
    · rw [cb old h0 h1, decide_eq_false (show ¬ (lo ≤ old ∧ old ≤ hi) by omega), decide_eq_false z]
      rfl

def R__law_deal_good (c : Cs) (ds : List PyData) (μ : Store) (W : Out → Store → Prop) : Prop := ∃ (d : Deal) (a : Addr) (p : Int) (kvs : List (Key × V)) (rs : List (Nat × Wish)) (i j : Nat) (wi wj : Wish), ds = [dealD d, rawD a, .int p] ∧ μ a = some (.dct kvs (rs.map fun r => wishD r.2)) ∧ kvs.map (·.1) = rs.map (fun r => Sum.inl (r.1 : Int)) ∧ (rs.map (·.1)).Nodup ∧
  rs[i]? = some (d.b, wi) ∧ rs[j]? = some (d.s, wj) ∧ 1 ≤ d.m ∧ wi.buy = true ∧ wj.buy = false ∧ wj.limit ≤ p ∧ p ≤ wi.limit ∧ W = fun o μ' => o = .ret (.bool true) ∧ μ' = μ
-- slots of _law_deal_good: 0 _law_deal 1 _law_stood_here 2 _law_price 3 _law_part 4 _law_buyer 5 _law_seller
def t__law_deal_good (K : PySem.W.Frag) (c : Cs) (E : XK) : TS :=
  (tSeq (tIfS (tOr (tNot (tB (tCB (rIsi K) (tCons (tVar 0) (tCons (tC (.ty "tuple")) tNil))))) (tTest (tOp rNe (tCB (rLenSq K) (tCons (tVar 0) tNil)) (tC (.int 3))))) (tRet (tC (.bl false))) tNext)
    (tSeq (tFor (iTup K (tVar 0)) (gName 3) (tIfS (tNot (tB (tCall (spD K (R__law_whole c)) [] E0 (tCons (tVar 3) tNil)))) (tRet (tC (.bl false))) tNext))
    (tSeq (tIfS (tOr (tB (tDNotIn (tOp (rIxT K) (tVar 0) (tC (.int 0))) (tVar 1))) (tOr (tB (tDNotIn (tOp (rIxT K) (tVar 0) (tC (.int 1))) (tVar 1))) (tTest (tOp rLtI (tOp (rIxT K) (tVar 0) (tC (.int 2))) (tC (.int 1)))))) (tRet (tC (.bl false))) tNext)
    (tSeq (tAsg (tDGet (tVar 1) (tOp (rIxT K) (tVar 0) (tC (.int 0)))) (gName 4))
    (tSeq (tAsg (tDGet (tVar 1) (tOp (rIxT K) (tVar 0) (tC (.int 1)))) (gName 5))
    (tRet (tAndV (tOp rEq (tOp (rIxT K) (tVar 4) (tC (.int 0))) (tC (.str "buy"))) (tAndV (tOp rEq (tOp (rIxT K) (tVar 5) (tC (.int 0))) (tC (.str "sell"))) (tChain rLeI rLeI (tOp (rIxT K) (tVar 5) (tC (.int 1))) (tVar 2) (tOp (rIxT K) (tVar 4) (tC (.int 1))))))))))))
theorem len__law_deal_good {c : Cs} : ∀ ds μ W, R__law_deal_good c ds μ W → ds.length = 3 := by
  intro ds μ W h
  grind (ematch := 14) (gen := 20) [R__law_deal_good]
theorem body__law_deal_good {K : PySem.W.Frag} {c : Cs} {E : XK} : ∀ ds μ W, R__law_deal_good c ds μ W → DM K E (t__law_deal_good K c E) (slots 6 ds) μ (postM W) := by
  rintro _ μ _ ⟨d, a, p, kvs, rs, i, j, wi, wj, rfl, hc, hk, hn, hi, hj, hm, bi, bj, l1, l2, rfl⟩
  have hdd : dealD d = .tuple [.int (d.b : Int), .int (d.s : Int), .int d.m] := rfl
  rw [hdd]
  have nd : (kvs.map (·.1)).Nodup := by
    rw [hk, show (rs.map fun r => (Sum.inl (r.1 : Int) : Key)) = (rs.map (·.1)).map fun n : Nat => Sum.inl (n : Int) by rw [List.map_map]; rfl]
    exact List.pairwise_map.mpr (hn.imp fun h e => h (Int.ofNat_inj.mp (Sum.inl.inj e)))
  have key : ∀ {i : Nat} {n : Nat} {w : Wish}, rs[i]? = some (n, w) → (kvs.map (·.1))[i]? = some (Sum.inl (n : Int)) ∧ (rs.map fun r => wishD r.2)[i]? = some (wishD w) := fun h => by
    rw [hk, List.getElem?_map, List.getElem?_map, h]
    exact ⟨rfl, rfl⟩
  have ins : ∀ {i : Nat} {n : Nat} {w : Wish}, rs[i]? = some (n, w) → (valV kvs (Sum.inl (n : Int))).isSome = true := fun h => by
    have q := (key h).1
    rw [List.getElem?_map] at q
    rename_i i n w
    cases z : kvs[i]? with
    | none => rw [z] at q; cases q
    | some kv =>
      rw [z] at q
      obtain ⟨k1, k2⟩ := kv
      cases q
      rw [valV_at nd z]
      rfl
  show DM K E _ [.val (.tuple [.int (d.b : Int), .int (d.s : Int), .int d.m]), .val (rawD a), .val (.int p), .no, .no, .no] μ _
  refine dm_seq (dm_if (mt_v Vw.see (b := false) (VS.dt_to (b := !true || !decide ((([PyData.int (d.b : Int), .int (d.s : Int), .int d.m].length : Nat) : Int) = 3)) (by walk_at "ev") rfl) ⟨(fun hz => by cases hz), fun hz => dm_next ?_⟩))
  refine dm_seq (dm_forT (xs := [.int (d.b : Int), .int (d.s : Int), .int d.m]) (W := fun j es μ'' => μ'' = μ ∧ ∃ s3, es = [.val (.tuple [.int (d.b : Int), .int (d.s : Int), .int d.m]), .val (rawD a), .val (.int p), s3, .no, .no]) (me_de (de_var rfl) ⟨rfl, rfl, .no, rfl⟩) ?_ ?_)
  · rintro j y _ μ0 hy ⟨e0, s3, rfl⟩
    have e0 := e0.symm
    subst e0
    obtain ⟨x, rfl⟩ : ∃ x : Int, y = .int x := by
      match j, hy with
      | 0, hy => exact ⟨_, (Option.some.inj hy).symm⟩
      | 1, hy => exact ⟨_, (Option.some.inj hy).symm⟩
      | 2, hy => exact ⟨_, (Option.some.inj hy).symm⟩
      | j + 3, hy => cases hy
    exact dm_if (mt_v Vw.see (b := !true) (dt_not (dt_B (de_call (by walk_at "ev") ⟨_, rfl, rfl, rfl⟩))) ⟨(fun hz => by cases hz), fun hz => dm_next ⟨rfl, _, rfl⟩⟩)
  rintro _ μ0 ⟨e0, s3, rfl⟩
  have e0 := e0.symm
  subst e0
  refine dm_seq (dm_if (mt_or (mt_B (me_dnotin (me_de (d := .int (d.b : Int)) (de_op (de_var rfl) de_int (VS.d2_ixT rfl)) (me_de (de_var rfl) ⟨a, kvs, _, _, rfl, rfl, hc, ?_⟩))))))
  rw [ins hi]
  refine ⟨_, rfl, (fun z => by cases z), fun _ => mt_or (mt_B (me_dnotin (me_de (d := .int (d.s : Int)) (de_op (de_var rfl) de_int (VS.d2_ixT rfl)) (me_de (de_var rfl) ⟨a, kvs, _, _, rfl, rfl, hc, ?_⟩))))⟩
  rw [ins hj]
  refine ⟨_, rfl, (fun z => by cases z), fun _ => mt_v Vw.see (b := decide (d.m < 1)) (dt_test (de_op (de_op (de_var rfl) de_int (VS.d2_ixT (d := .int d.m) rfl)) de_int d2_lt)) ⟨fun hz => ?_, fun _ => dm_next ?_⟩⟩
  · rw [decide_eq_false (by omega)] at hz
    cases hz
  refine dm_seq (dm_asg (me_dget (me_de (de_var rfl) (me_de (d := .int (d.b : Int)) (de_op (de_var rfl) de_int (VS.d2_ixT rfl)) ⟨a, kvs, _, _, i, wishD wi, rfl, rfl, hc, nd, (key hi).1, (key hi).2, ?_⟩))))
  refine dm_seq (dm_asg (me_dget (me_de (de_var rfl) (me_de (d := .int (d.s : Int)) (de_op (de_var rfl) de_int (VS.d2_ixT rfl)) ⟨a, kvs, _, _, j, wishD wj, rfl, rfl, hc, nd, (key hj).1, (key hj).2, ?_⟩))))
  obtain ⟨wib, wil, wia⟩ := wi
  obtain ⟨wjb, wjl, wja⟩ := wj
  subst bi bj
  show DM K E _ [.val (.tuple [.int (d.b : Int), .int (d.s : Int), .int d.m]), .val (rawD a), .val (.int p), s3, .val (.tuple [.str "buy", .int wil, .int wia]), .val (.tuple [.str "sell", .int wjl, .int wja])] _ _
  refine dm_ret (me_v Vw.see (d := .bool (decide (("buy" : Str) = "buy") && (decide (("sell" : Str) = "sell") && (decide (wjl ≤ p) && decide (p ≤ wil))))) (by walk_at "ev") rfl ⟨?_, rfl⟩)
  rw [decide_eq_true (show wjl ≤ p from l1), decide_eq_true (show p ≤ wil from l2)]
  exact congrArg (fun b => Out.ret (.bool b)) (by decide +kernel)

/-- nobody that stands would deal -/
structure Bk.quiet (b : Bk) (p : Int) : Prop where
  buy : ∀ r ∈ b.rows, r.2.buy = true → r.2.limit ≤ p
  sell : ∀ r ∈ b.rows, r.2.buy = false → p ≤ r.2.limit
  both : ∀ r ∈ b.rows, ∀ s ∈ b.rows, r.2.buy = true → s.2.buy = false → r.2.limit < s.2.limit
def R__law_quiet (c : Cs) (ds : List PyData) (o : Out) : Prop := ∃ b p, ds = [Bk.data b c, .int p] ∧ b.wf ∧ 0 ≤ p ∧ p ≤ 1000000000 ∧ b.quiet p ∧ (∀ r ∈ b.rows, 0 ≤ r.2.limit ∧ r.2.limit ≤ 1000000000) ∧ o = .ret (.bool true)
-- slots of _law_quiet: 0 _law_book 1 _law_price 2 _law_rows 3 _law_buyers 4 _law_row 5 _law_sellers 6 _law_most 7 _law_least
def t__law_quiet (K : PySem.W.Frag) (c : Cs) (E : XK) : TS :=
  (tSeq (tAsg (tMeth c.Book "standing" (spD K (R_Book_standing c)) [] E0 (tVar 0) tNil) (gName 2))
    (tSeq (tAsg (tLc (iList K (tVar 2)) (gName 4) (tTest (tOp rEq (tOp (rIxT K) (tOp (rIxT K) (tVar 4) (tC (.int 1))) (tC (.int 0))) (tC (.str "buy")))) (tOp (rIxT K) (tOp (rIxT K) (tVar 4) (tC (.int 1))) (tC (.int 1))) [4]) (gName 3))
    (tSeq (tAsg (tLc (iList K (tVar 2)) (gName 4) (tTest (tOp rEq (tOp (rIxT K) (tOp (rIxT K) (tVar 4) (tC (.int 1))) (tC (.int 0))) (tC (.str "sell")))) (tOp (rIxT K) (tOp (rIxT K) (tVar 4) (tC (.int 1))) (tC (.int 1))) [4]) (gName 5))
    (tSeq (tAsg (tCB (rMax K) (tCons (tOp rCat (tVar 3) (tLst (tCons (tUn rNegI (tC (.int 1))) tNil))) tNil)) (gName 6))
    (tSeq (tAsg (tCB (rMin K) (tCons (tOp rCat (tVar 5) (tLst (tCons (tC (.int 1000000001)) tNil))) tNil)) (gName 7))
    (tRet (tAndV (tChain rLeI rLeI (tVar 6) (tVar 1) (tVar 7)) (tOp rLtI (tVar 6) (tVar 7)))))))))
theorem len__law_quiet {c : Cs} : ∀ ds o, R__law_quiet c ds o → ds.length = 2 := by
  intro ds o h
  grind (ematch := 14) (gen := 20) [R__law_quiet]
theorem max_ex : ∀ (L : List Int) (m : Int), ∃ x, x ∈ L ++ [m] ∧ ∀ y ∈ L ++ [m], y ≤ x
  | [], m => ⟨m, List.mem_singleton.mpr rfl, fun y hy => by rw [List.mem_singleton.mp hy]; exact Int.le_refl _⟩
  | a :: L, m => by
    obtain ⟨x, h1, h2⟩ := max_ex L m
    by_cases z : x ≤ a
    · refine ⟨a, List.mem_cons_self, fun y hy => ?_⟩
      rcases List.mem_cons.mp hy with e | e
      · omega
      · have := h2 y e
        omega
    · refine ⟨x, List.mem_cons_of_mem _ h1, fun y hy => ?_⟩
      rcases List.mem_cons.mp hy with e | e
      · omega
      · exact h2 y e
theorem min_ex : ∀ (L : List Int) (m : Int), ∃ x, x ∈ L ++ [m] ∧ ∀ y ∈ L ++ [m], x ≤ y
  | [], m => ⟨m, List.mem_singleton.mpr rfl, fun y hy => by rw [List.mem_singleton.mp hy]; exact Int.le_refl _⟩
  | a :: L, m => by
    obtain ⟨x, h1, h2⟩ := min_ex L m
    by_cases z : a ≤ x
    · refine ⟨a, List.mem_cons_self, fun y hy => ?_⟩
      rcases List.mem_cons.mp hy with e | e
      · omega
      · have := h2 y e
        omega
    · refine ⟨x, List.mem_cons_of_mem _ h1, fun y hy => ?_⟩
      rcases List.mem_cons.mp hy with e | e
      · omega
      · exact h2 y e
theorem dn_side {K : PySem.W.Frag} {rs : List (Nat × Wish)} {ds : List (Option PyData)} {j : Nat} {te : TE} {t : TT} (s : Bool) (hl : rs.length ≤ 10000) (h : DE K (tVar 2) ds (rsD rs)) (ht : ∀ r : Nat × Wish, DT K t (ds.set j (some (rowD r))) (r.2.buy == s)) (he : ∀ r : Nat × Wish, DE K te (ds.set j (some (rowD r))) (.int r.2.limit)) : DN K (tLc (iList K (tVar 2)) (gName j) t te [j]) ds (((rs.filter fun r => r.2.buy == s).map fun r => r.2.limit).map PyData.int) := by
  have q := VS.dn_lcL (K := K) (ds := ds) (te := te) (t := t) (j := j) (xs := rs.map rowD) (fun d => match d with | .tuple [_, .tuple [.str x, _, _]] => decide (x = sideS s) | _ => false) (fun d => match d with | .tuple [_, .tuple [_, l, _]] => l | _ => .none) h (by rw [List.length_map]; omega) (fun x hx => by
    obtain ⟨r, _, rfl⟩ := List.mem_map.mp hx
    refine VS.dt_to (ht r) ?_
    show (r.2.buy == s) = decide (sideS r.2.buy = sideS s)
    rw [sideS_eq]) (fun x hx _ => by
    obtain ⟨r, _, rfl⟩ := List.mem_map.mp hx
    exact he r)
  have e : lcOf (fun d => match d with | .tuple [_, .tuple [.str x, _, _]] => decide (x = sideS s) | _ => false) (fun d => match d with | .tuple [_, .tuple [_, l, _]] => l | _ => .none) (rs.map rowD) = ((rs.filter fun r => r.2.buy == s).map fun r => r.2.limit).map PyData.int := by
    unfold lcOf
    rw [List.filter_map, List.map_map, List.map_map]
    have e1 : ((fun d => match d with | .tuple [_, .tuple [.str x, _, _]] => decide (x = sideS s) | _ => false) ∘ rowD) = fun r : Nat × Wish => r.2.buy == s := by
      funext r
      show decide (sideS r.2.buy = sideS s) = _
      rw [sideS_eq]
    rw [e1]
    rfl
  rw [e] at q
  exact q
theorem body__law_quiet {K : PySem.W.Frag} {c : Cs} {E : XK} : ∀ ds o, R__law_quiet c ds o → DS K E (t__law_quiet K c E) (slots 8 ds) o.post := by
  rintro _ _ ⟨b, p, rfl, hw, p0, p1, hq, hlim, rfl⟩
  unfold t__law_quiet
  have hrl : b.rows.length ≤ b.came.length := rowsTo2_len b b.came.length
  have hfew := hw.few
  apply VS.q_new (xs := b.rows.map rowD)
  · exact dn_meth bkNo_standing (de_var rfl) da_nil ⟨b, rfl, hw, rfl⟩
  refine VS.q_freeze 2 (xs := b.rows.map rowD) rfl ?_
  show DS K E _ [.val (b.data c), .val (.int p), .val (rsD b.rows), .no, .no, .no, .no, .no] _
  obtain ⟨most, hm1, hm2⟩ := max_ex ((b.rows.filter fun r => r.2.buy == true).map fun r => r.2.limit) (-1)
  obtain ⟨least, hl1, hl2⟩ := min_ex ((b.rows.filter fun r => r.2.buy == false).map fun r => r.2.limit) 1000000001
  have cm : most = -1 ∨ ∃ r ∈ b.rows, r.2.buy = true ∧ r.2.limit = most := by
    rcases List.mem_append.mp hm1 with z | z
    · obtain ⟨r, hr, e⟩ := List.mem_map.mp z
      rw [List.mem_filter] at hr
      exact .inr ⟨r, hr.1, by simpa using hr.2, e⟩
    · exact .inl (List.mem_singleton.mp z)
  have cl : least = 1000000001 ∨ ∃ r ∈ b.rows, r.2.buy = false ∧ r.2.limit = least := by
    rcases List.mem_append.mp hl1 with z | z
    · obtain ⟨r, hr, e⟩ := List.mem_map.mp z
      rw [List.mem_filter] at hr
      exact .inr ⟨r, hr.1, by simpa using hr.2, e⟩
    · exact .inl (List.mem_singleton.mp z)
  have g1 : most ≤ p := by
    rcases cm with e | ⟨r, h1, h2, e⟩
    · omega
    · have := hq.buy r h1 h2
      omega
  have g2 : p ≤ least := by
    rcases cl with e | ⟨r, h1, h2, e⟩
    · omega
    · have := hq.sell r h1 h2
      omega
  have g3 : most < least := by
    rcases cm with e | ⟨r, h1, h2, e⟩
    · omega
    · rcases cl with f | ⟨s, k1, k2, f⟩
      · omega
      · have := hq.both r h1 s k1 h2 k2
        omega
  have fl : ∀ s : Bool, ((b.rows.filter fun r => r.2.buy == s).map fun r => r.2.limit).length ≤ 5000 := fun s => by
    rw [List.length_map]
    have := List.length_filter_le (fun r : Nat × Wish => r.2.buy == s) b.rows
    omega
  have fb := fl true
  have fs := fl false
  apply VS.q_new (xs := ((b.rows.filter fun r => r.2.buy == true).map fun r => r.2.limit).map PyData.int)
  · refine dn_side true (by omega) (de_var rfl) (fun r => ?_) (fun r => ?_)
    · refine VS.dt_to (b := decide (sideS r.2.buy = "buy")) ?_ (by rw [sideS_buy]; cases r.2.buy <;> rfl)
      exact dt_test (de_op (de_op (de_op (x := rowD r) (de_var rfl) de_int (VS.d2_ixT (d := wishD r.2) rfl)) de_int (VS.d2_ixT (d := .str (sideS r.2.buy)) rfl)) de_str d2_eqS)
    · exact de_op (de_op (x := rowD r) (de_var rfl) de_int (VS.d2_ixT (d := wishD r.2) rfl)) de_int (VS.d2_ixT (d := .int r.2.limit) rfl)
  apply VS.q_new (xs := ((b.rows.filter fun r => r.2.buy == false).map fun r => r.2.limit).map PyData.int)
  · refine dn_side false (by omega) (de_var rfl) (fun r => ?_) (fun r => ?_)
    · refine VS.dt_to (b := decide (sideS r.2.buy = "sell")) ?_ (by rw [sideS_sell]; cases r.2.buy <;> rfl)
      exact dt_test (de_op (de_op (de_op (x := rowD r) (de_var rfl) de_int (VS.d2_ixT (d := wishD r.2) rfl)) de_int (VS.d2_ixT (d := .str (sideS r.2.buy)) rfl)) de_str d2_eqS)
    · exact de_op (de_op (x := rowD r) (de_var rfl) de_int (VS.d2_ixT (d := wishD r.2) rfl)) de_int (VS.d2_ixT (d := .int r.2.limit) rfl)
  generalize (b.rows.filter fun r => r.2.buy == true).map (fun r => r.2.limit) = LB at hm1 hm2 fb
  generalize (b.rows.filter fun r => r.2.buy == false).map (fun r => r.2.limit) = LS at hl1 hl2 fs
  show DS K E _ [.val (b.data c), .val (.int p), .val (rsD b.rows), .own (LB.map PyData.int), .no, .own (LS.map PyData.int), .no, .no] _
  apply VS.q_set (d := .int most)
  · refine de_cb (da_cons (VS.de_to (d := .list (LB.map PyData.int ++ [.int (-1)])) (de_op (de_var rfl) (by walk_at "ev") (d2_cat (by rw [List.length_map]; show _ + 1 ≤ 100000; omega))) (d' := .list ((LB ++ [-1]).map PyData.int)) (by rw [List.map_append]; rfl)) da_nil) (dc_maxL (by rw [List.length_append]; show 0 < _ + 1; omega) hm1 hm2)
  · rfl
  apply VS.q_set (d := .int least)
  · refine de_cb (da_cons (VS.de_to (d := .list (LS.map PyData.int ++ [.int 1000000001])) (de_op (de_var rfl) (by walk_at "ev") (d2_cat (by rw [List.length_map]; show _ + 1 ≤ 100000; omega))) (d' := .list ((LS ++ [1000000001]).map PyData.int)) (by rw [List.map_append]; rfl)) da_nil) (dc_minL (by rw [List.length_append]; show 0 < _ + 1; omega) hl1 hl2)
  · rfl
  apply VS.ds_ret (d := .bool ((decide (most ≤ p) && decide (p ≤ least)) && decide (most < least)))
  · exact de_andU (de_chainU (de_var rfl) (de_var rfl) (de_var rfl) d2_le d2_le) (de_op (de_var rfl) (de_var rfl) d2_lt)
  · refine VS.post_ret ?_
    rw [decide_eq_true g1, decide_eq_true g2, decide_eq_true g3]
    rfl

/-! ### what a ring does to what is left -/
def gotN : List Deal → Nat → Int
  | [], _ => 0
  | d :: D, j => (if d.b = j then d.m else 0) + (if d.s = j then d.m else 0) + gotN D j
theorem fold_at : ∀ (D : List Deal) (left : List Int) (j : Nat), (∀ d ∈ D, d.b < left.length ∧ d.s < left.length) → pAt (D.foldl applyD left) j = pAt left j - gotN D j
  | [], left, j, _ => by simp [gotN]
  | d :: D, left, j, h => by
    obtain ⟨h1, h2⟩ := h d List.mem_cons_self
    rw [List.foldl_cons, fold_at D (applyD left d) j fun e he => by rw [applyD_len]; exact h e (List.mem_cons_of_mem _ he)]
    rw [show gotN (d :: D) j = (if d.b = j then d.m else 0) + (if d.s = j then d.m else 0) + gotN D j from rfl]
    unfold applyD
    rw [pAt_subAt (by rw [subAt_len]; exact h2), pAt_subAt h1, pAt_subAt h1]
    by_cases z1 : j = d.s
    · by_cases z2 : j = d.b
      · subst z1
        rw [if_pos rfl, if_pos z2, if_pos z2.symm, if_pos rfl, ← z2]
        omega
      · subst z1
        rw [if_pos rfl, if_neg z2, if_neg (fun e => z2 e.symm), if_pos rfl]
        omega
    · by_cases z2 : j = d.b
      · rw [if_neg z1, if_pos z2, if_pos z2.symm, if_neg (fun e => z1 e.symm), ← z2]
        omega
      · rw [if_neg z1, if_neg z2, if_neg (fun e => z2 e.symm), if_neg (fun e => z1 e.symm)]
        omega
theorem Bk.num_inj {b : Bk} {i j : Nat} (hi : i < b.ws.length) (hj : j < b.ws.length) (h : b.numAt i = b.numAt j) : i = j := by
  have nd : b.standN.Nodup := List.nodup_range.filter _
  obtain ⟨h1, e1⟩ := List.getElem?_eq_some_iff.mp (Bk.num_get hi)
  obtain ⟨h2, e2⟩ := List.getElem?_eq_some_iff.mp (Bk.num_get hj)
  exact (List.getElem_inj (h₀ := h1) (h₁ := h2) nd).mp (e1.trans (h.trans e2.symm))
theorem got_map {b : Bk} {i : Nat} (hi : i < b.ws.length) : ∀ D : List Deal, (∀ d ∈ D, d.b < b.ws.length ∧ d.s < b.ws.length) → gotN (D.map b.dealN) (b.numAt i) = gotN D i
  | [], _ => rfl
  | d :: D, h => by
    obtain ⟨h1, h2⟩ := h d List.mem_cons_self
    rw [List.map_cons, gotN, gotN, got_map hi D fun e he => h e (List.mem_cons_of_mem _ he)]
    have e1 : (b.dealN d).b = b.numAt i ↔ d.b = i := ⟨fun e => Bk.num_inj h1 hi e, fun e => by show b.numAt d.b = _; rw [e]⟩
    have e2 : (b.dealN d).s = b.numAt i ↔ d.s = i := ⟨fun e => Bk.num_inj h2 hi e, fun e => by show b.numAt d.s = _; rw [e]⟩
    have em : (b.dealN d).m = d.m := rfl
    simp only [e1, e2, em]
theorem got_none {b : Bk} {k : Nat} (hk : ¬ 0 < pAt b.rest k) : ∀ D : List Deal, (∀ d ∈ D, d.b < b.ws.length ∧ d.s < b.ws.length) → gotN (D.map b.dealN) k = 0
  | [], _ => rfl
  | d :: D, h => by
    obtain ⟨h1, h2⟩ := h d List.mem_cons_self
    rw [List.map_cons, gotN, got_none hk D fun e he => h e (List.mem_cons_of_mem _ he)]
    have e1 : ¬ (b.dealN d).b = k := fun e => hk (by rw [← e]; exact (Bk.num_mem h1).2)
    have e2 : ¬ (b.dealN d).s = k := fun e => hk (by rw [← e]; exact (Bk.num_mem h2).2)
    rw [if_neg e1, if_neg e2]
    rfl
theorem Bk.stand_ix {b : Bk} {k : Nat} (hk : k < b.came.length) (h : 0 < pAt b.rest k) : ∃ i, i < b.ws.length ∧ b.numAt i = k := by
  have hm : k ∈ b.standN := by
    unfold Bk.standN
    rw [List.mem_filter, List.mem_range, decide_eq_true_eq]
    exact ⟨hk, h⟩
  obtain ⟨i, hi⟩ := List.mem_iff_getElem?.mp hm
  have hl : i < b.ws.length := by
    rw [b.ws_len]
    exact (List.getElem?_eq_some_iff.mp hi).1
  refine ⟨i, hl, ?_⟩
  rw [Bk.num_get hl] at hi
  exact Option.some.inj hi
theorem Bk.isRing_in {b : Bk} {p : Int} (h : b.ok) (r : b.isRing p) : 0 ≤ p ∧ p ≤ 1000000000 := by
  obtain ⟨lo, hi, hlo, hhi, rfl⟩ := r
  have l0 := hlo.lo
  have l1 := hlo.hi
  have l2 := hhi.lo
  have l3 := hhi.hi
  have p0 := h.p0
  have p1 := h.p1
  omega
/-- what is left of k behind the ring -/
theorem Bk.rung_rest {b : Bk} (h : b.ok) (p : Int) {k : Nat} : pAt (b.rung p).rest k = pAt b.rest k - gotN (b.ringD p) k := by
  have P := Bk.pairs_ok h p
  refine fold_at _ _ _ fun d hd => ?_
  unfold Bk.ringD at hd
  obtain ⟨e, he, rfl⟩ := List.mem_map.mp hd
  have o := P.ok e he
  rw [h.rest]
  exact ⟨(Bk.num_mem o.bl).1, (Bk.num_mem o.sl).1⟩
theorem Bk.ring_got {b : Bk} (h : b.ok) (p : Int) {i : Nat} (hi : i < b.ws.length) : gotN (b.ringD p) (b.numAt i) = piece b.ws p i := by
  have P := Bk.pairs_ok h p
  have hd : ∀ d ∈ pairsN b.ws (piecesN b.ws p), d.b < b.ws.length ∧ d.s < b.ws.length := fun d hd => ⟨(P.ok d hd).bl, (P.ok d hd).sl⟩
  unfold Bk.ringD
  rw [got_map hi _ hd]
  have e := fold_at (pairsN b.ws (piecesN b.ws p)) (piecesN b.ws p) i fun d h => by rw [piecesN_len]; exact hd d h
  rw [P.zero, pAt_piecesN hi] at e
  have z : pAt (List.replicate b.ws.length 0) i = 0 := by
    unfold pAt
    rw [List.getD_eq_getElem?_getD, List.getElem?_replicate, if_pos hi]
    rfl
  omega
theorem Bk.ring_got0 {b : Bk} (h : b.ok) (p : Int) {k : Nat} (hk : ¬ 0 < pAt b.rest k) : gotN (b.ringD p) k = 0 := by
  have P := Bk.pairs_ok h p
  exact got_none hk _ fun d hd => ⟨(P.ok d hd).bl, (P.ok d hd).sl⟩
theorem Bk.rung_ok {b : Bk} {p : Int} (h : b.ok) (r : b.isRing p) : (b.rung p).ok := by
  have hp := Bk.isRing_in h r
  have key : ∀ k, k < b.came.length → 0 ≤ gotN (b.ringD p) k ∧ gotN (b.ringD p) k ≤ pAt b.rest k := fun k hk => by
    by_cases z : 0 < pAt b.rest k
    · obtain ⟨i, hi, e⟩ := Bk.stand_ix hk z
      rw [← e, Bk.ring_got h p hi]
      have q := (piecesN_ok (Bk.good_ws h) p).ok i hi
      rw [pAt_piecesN hi] at q
      have w := Bk.ws_get hi
      unfold amtAt at q
      rw [w] at q
      exact q
    · rw [Bk.ring_got0 h p z]
      exact ⟨Int.le_refl _, h.low k hk⟩
  refine ⟨⟨?_, ?_, h.few⟩, h.good, fun k hk => ?_, fun k hk => ?_, hp.1, hp.2⟩
  · show ((b.ringD p).foldl applyD b.rest).length = _
    rw [foldl_len2]
    exact h.rest
  · show ((b.ringD p).foldl (payD p) b.money).length = _
    rw [foldp_len]
    exact h.money
  · have := key k hk
    rw [Bk.rung_rest h]
    omega
  · have := key k hk
    have := h.most k hk
    rw [Bk.rung_rest h]
    show _ ≤ amtAt b.came k
    omega

/-! ### pairs of a number and what it has, rising -/
def canon (G : Nat → Int) (n : Nat) : List (Int × Int) := ((List.range n).filter fun k => decide (0 < G k)).map fun k : Nat => ((k : Int), G k)
theorem mem_canon {G : Nat → Int} {n : Nat} {p : Int × Int} : p ∈ canon G n ↔ ∃ k : Nat, k < n ∧ 0 < G k ∧ p = ((k : Int), G k) := by
  unfold canon
  rw [List.mem_map]
  constructor
  · rintro ⟨k, hk, rfl⟩
    rw [List.mem_filter, List.mem_range, decide_eq_true_eq] at hk
    exact ⟨k, hk.1, hk.2, rfl⟩
  · rintro ⟨k, h1, h2, rfl⟩
    exact ⟨k, by rw [List.mem_filter, List.mem_range, decide_eq_true_eq]; exact ⟨h1, h2⟩, rfl⟩
theorem canon_lt (G : Nat → Int) (n : Nat) : (canon G n).Pairwise fun a b => a.1 < b.1 := by
  unfold canon
  rw [List.pairwise_map]
  exact (List.pairwise_lt_range.filter _).imp fun h => by show (_ : Int) < _; omega
theorem canon_of {G : Nat → Int} {n : Nat} {L : List (Int × Int)} (nd : L.Nodup) (h : ∀ p, p ∈ L ↔ p ∈ canon G n) : L.mergeSort leP = canon G n := by
  have nc : (canon G n).Nodup := (canon_lt G n).imp fun h e => by rw [e] at h; omega
  refine (sort_pairs ((List.perm_ext_iff_of_nodup nc nd).mpr fun p => (h p).symm) ?_).symm
  exact (canon_lt G n).imp fun h => by rw [leP_iff]; exact .inl h
/-- what the k-th has by one side of the deals -/
def selN (t : Bool) (d : Deal) : Nat := if t = true then d.s else d.b
def gs (t : Bool) : List Deal → Nat → Int
  | [], _ => 0
  | d :: D, k => (if selN t d = k then d.m else 0) + gs t D k
theorem gs_snoc (t : Bool) (d : Deal) (k : Nat) : ∀ D : List Deal, gs t (D ++ [d]) k = gs t D k + (if selN t d = k then d.m else 0)
  | [] => by
    show (if selN t d = k then d.m else 0) + 0 = 0 + _
    omega
  | e :: D => by
    show (if selN t e = k then e.m else 0) + gs t (D ++ [d]) k = (if selN t e = k then e.m else 0) + gs t D k + _
    rw [gs_snoc t d k D]
    omega
theorem gs_nonneg (t : Bool) (k : Nat) : ∀ D : List Deal, (∀ d ∈ D, 1 ≤ d.m) → 0 ≤ gs t D k
  | [], _ => Int.le_refl 0
  | d :: D, h => by
    have h1 := h d List.mem_cons_self
    have h2 := gs_nonneg t k D fun e he => h e (List.mem_cons_of_mem _ he)
    show 0 ≤ (if selN t d = k then d.m else 0) + gs t D k
    split <;> omega
theorem gs_none (t : Bool) (k : Nat) : ∀ D : List Deal, (∀ d ∈ D, selN t d ≠ k) → gs t D k = 0
  | [], _ => rfl
  | d :: D, h => by
    show (if selN t d = k then d.m else 0) + gs t D k = 0
    rw [if_neg (h d List.mem_cons_self), gs_none t k D fun e he => h e (List.mem_cons_of_mem _ he)]
    rfl
theorem got_gs (k : Nat) : ∀ D : List Deal, gotN D k = gs false D k + gs true D k
  | [] => rfl
  | d :: D => by
    show (if d.b = k then d.m else 0) + (if d.s = k then d.m else 0) + gotN D k = ((if selN false d = k then d.m else 0) + gs false D k) + ((if selN true d = k then d.m else 0) + gs true D k)
    rw [got_gs k D]
    show _ = ((if d.b = k then d.m else 0) + gs false D k) + ((if d.s = k then d.m else 0) + gs true D k)
    omega
/-- the deals of a ring -/
structure RingDeal (b : Bk) (p : Int) (d : Deal) : Prop where
  many : 1 ≤ d.m
  bl : d.b < b.came.length
  sl : d.s < b.came.length
  buy : (wAt b.came d.b).buy = true
  sell : (wAt b.came d.s).buy = false
  bst : 0 < pAt b.rest d.b
  sst : 0 < pAt b.rest d.s
  bp : p ≤ (wAt b.came d.b).limit
  sp : (wAt b.came d.s).limit ≤ p
theorem piece_will {ws : List Wish} {p : Int} {k : Nat} (h : 0 < piece ws p k) : willing (wAt ws k) p = true := by
  cases z : willing (wAt ws k) p with
  | true => rfl
  | false =>
    unfold piece at h
    rw [z, if_neg (by decide)] at h
    omega
theorem ring_deal {b : Bk} (h : b.ok) (p : Int) {d : Deal} (hd : d ∈ b.ringD p) : RingDeal b p d := by
  unfold Bk.ringD at hd
  obtain ⟨e, he, rfl⟩ := List.mem_map.mp hd
  have o := (Bk.pairs_ok h p).ok e he
  obtain ⟨b1, b2⟩ := Bk.num_mem o.bl
  obtain ⟨s1, s2⟩ := Bk.num_mem o.sl
  have m := o.many
  have hb := o.buy
  have hs := o.sell
  have w1 := o.bp
  have w2 := o.sp
  rw [pAt_piecesN o.bl] at w1
  rw [pAt_piecesN o.sl] at w2
  have v1 := piece_will (show 0 < piece b.ws p e.b by omega)
  have v2 := piece_will (show 0 < piece b.ws p e.s by omega)
  rw [Bk.ws_get o.bl] at hb v1
  rw [Bk.ws_get o.sl] at hs v2
  have hb : (wAt b.came (b.numAt e.b)).buy = true := hb
  have hs : (wAt b.came (b.numAt e.s)).buy = false := hs
  refine ⟨m, b1, s1, hb, hs, b2, s2, ?_, ?_⟩
  · unfold willing Bk.restW at v1
    simp only [hb] at v1
    exact of_decide_eq_true v1
  · unfold willing Bk.restW at v2
    simp only [hs] at v2
    exact of_decide_eq_true v2
/-- what the number of a place has by its side -/
theorem ring_gs {b : Bk} (h : b.ok) (p : Int) (s : Bool) {i : Nat} (hi : i < b.ws.length) : gs (!s) (b.ringD p) (b.numAt i) = if ((wAt b.ws i).buy == s) = true then piece b.ws p i else 0 := by
  have g := Bk.ring_got h p hi
  rw [got_gs] at g
  have w : (wAt b.ws i).buy = (wAt b.came (b.numAt i)).buy := by rw [Bk.ws_get hi]; rfl
  cases s with
  | true =>
    show gs false (b.ringD p) (b.numAt i) = _
    by_cases z : (wAt b.ws i).buy = true
    · have e := gs_none true (b.numAt i) (b.ringD p) fun d hd e => by
        have := (ring_deal h p hd).sell
        rw [show selN true d = d.s from rfl] at e
        rw [e, ← w, z] at this
        cases this
      rw [z]
      show _ = piece b.ws p i
      omega
    · have z : (wAt b.ws i).buy = false := by simpa using z
      rw [z]
      refine gs_none false (b.numAt i) (b.ringD p) fun d hd e => ?_
      have := (ring_deal h p hd).buy
      rw [show selN false d = d.b from rfl] at e
      rw [e, ← w, z] at this
      cases this
  | false =>
    show gs true (b.ringD p) (b.numAt i) = _
    by_cases z : (wAt b.ws i).buy = true
    · rw [z]
      refine gs_none true (b.numAt i) (b.ringD p) fun d hd e => ?_
      have := (ring_deal h p hd).sell
      rw [show selN true d = d.s from rfl] at e
      rw [e, ← w, z] at this
      cases this
    · have z : (wAt b.ws i).buy = false := by simpa using z
      have e := gs_none false (b.numAt i) (b.ringD p) fun d hd e => by
        have := (ring_deal h p hd).buy
        rw [show selN false d = d.b from rfl] at e
        rw [e, ← w, z] at this
        cases this
      rw [z]
      show _ = piece b.ws p i
      omega
theorem ring_gs0 {b : Bk} (h : b.ok) (p : Int) (t : Bool) {k : Nat} (hk : ¬ 0 < pAt b.rest k) : gs t (b.ringD p) k = 0 := by
  refine gs_none t k (b.ringD p) fun d hd e => hk ?_
  have o := ring_deal h p hd
  cases t with
  | true => rw [← e]; exact o.sst
  | false => rw [← e]; exact o.bst
theorem Bk.num_mono {b : Bk} {i j : Nat} (h : i < j) (hj : j < b.ws.length) : b.numAt i < b.numAt j := by
  have hp : b.standN.Pairwise (· < ·) := List.pairwise_lt_range.filter _
  obtain ⟨h1, e1⟩ := List.getElem?_eq_some_iff.mp (Bk.num_get (show i < b.ws.length by omega))
  obtain ⟨h2, e2⟩ := List.getElem?_eq_some_iff.mp (Bk.num_get hj)
  rw [← e1, ← e2]
  exact List.pairwise_iff_getElem.mp hp i j h1 h2 h
theorem Bk.num_le {b : Bk} {i j : Nat} (h : i ≤ j) (hj : j < b.ws.length) : b.numAt i ≤ b.numAt j := by
  rcases Nat.lt_or_eq_of_le h with z | z
  · exact Nat.le_of_lt (Bk.num_mono z hj)
  · rw [z]
    exact Nat.le_refl _
theorem ring_chain {b : Bk} (h : b.ok) (p : Int) : (b.ringD p).Pairwise fun d e => d.b ≤ e.b ∧ d.s ≤ e.s ∧ (d.b < e.b ∨ d.s < e.s) := by
  have P := Bk.pairs_ok h p
  unfold Bk.ringD
  rw [List.pairwise_map]
  refine List.Pairwise.imp_of_mem (fun {d e} hd he q => ?_) P.chain
  have od := P.ok d hd
  have oe := P.ok e he
  refine ⟨Bk.num_le q.1 oe.bl, Bk.num_le q.2.1 oe.sl, ?_⟩
  rcases q.2.2 with z | z
  · exact .inl (Bk.num_mono z oe.bl)
  · exact .inr (Bk.num_mono z oe.sl)
theorem ring_few {b : Bk} (h : b.ok) (p : Int) : (b.ringD p).length ≤ 2 * b.came.length + 1 := by
  have hf := (Bk.pairs_ok h p).few
  have h1 := b.ws_len
  have h2 := b.stand_le
  have : (b.ringD p).length = (pairsN b.ws (piecesN b.ws p)).length := by
    unfold Bk.ringD
    rw [List.length_map]
  omega

def R__law_served (c : Cs) (ds : List PyData) (o : Out) : Prop := ∃ (b : Bk) (s : Bool) (p : Int), ds = [rsD b.rows, .str (sideS s), .int p, .int (dealtN b.ws p)] ∧ b.ok ∧ o = .new ((canon (gs (!s) (b.ringD p)) b.came.length).map pairD)
-- slots of _law_served: 0 _law_rows 1 _law_side 2 _law_price 3 _law_many 4 _law_line 5 _law_row 6 _law_wish 7 _law_found 8 _law_one 9 _law_got_here
def t__law_served (K : PySem.W.Frag) (c : Cs) (E : XK) : TS :=
  (tSeq (tAsg (tLst tNil) (gName 4))
    (tSeq (tFor (iList K (tVar 0)) (gName 5) (tSeq (tAsg (tOp (rIxT K) (tVar 5) (tC (.int 1))) (gName 6))
    (tSeq (tIfS (tAnd (tTest (tOp rEq (tVar 1) (tC (.str "buy")))) (tAnd (tTest (tOp rEq (tOp (rIxT K) (tVar 6) (tC (.int 0))) (tC (.str "buy")))) (tTest (tOp rGeI (tOp (rIxT K) (tVar 6) (tC (.int 1))) (tVar 2))))) (tDrop (tBM K "list" rAppend (tVar 4) (tCons (tTup (tCons (tUn rNegI (tOp (rIxT K) (tVar 6) (tC (.int 1)))) (tCons (tOp (rIxT K) (tVar 5) (tC (.int 0))) (tCons (tOp (rIxT K) (tVar 6) (tC (.int 2))) tNil)))) tNil))) tNext)
    (tIfS (tAnd (tTest (tOp rEq (tVar 1) (tC (.str "sell")))) (tAnd (tTest (tOp rEq (tOp (rIxT K) (tVar 6) (tC (.int 0))) (tC (.str "sell")))) (tTest (tOp rLeI (tOp (rIxT K) (tVar 6) (tC (.int 1))) (tVar 2))))) (tDrop (tBM K "list" rAppend (tVar 4) (tCons (tTup (tCons (tOp (rIxT K) (tVar 6) (tC (.int 1))) (tCons (tOp (rIxT K) (tVar 5) (tC (.int 0))) (tCons (tOp (rIxT K) (tVar 6) (tC (.int 2))) tNil)))) tNil))) tNext))))
    (tSeq (tAsg (tLst tNil) (gName 7))
    (tSeq (tFor (iList K (tCB (rSorted3 K) (tCons (tVar 4) tNil))) (gName 8) (tSeq (tAsg (tCB rMin2 (tCons (tOp (rIxT K) (tVar 8) (tC (.int 2))) (tCons (tVar 3) tNil))) (gName 9))
    (tSeq (tAsg (tOp rSubI (tVar 3) (tVar 9)) (gName 3))
    (tIfS (tTest (tOp rGtI (tVar 9) (tC (.int 0)))) (tDrop (tBM K "list" rAppend (tVar 7) (tCons (tTup (tCons (tOp (rIxT K) (tVar 8) (tC (.int 1))) (tCons (tVar 9) tNil))) tNil))) tNext))))
    (tRet (tCB (rSortedPO K) (tCons (tVar 7) tNil)))))))
theorem len__law_served {c : Cs} : ∀ ds o, R__law_served c ds o → ds.length = 4 := by
  intro ds o h
  grind (ematch := 14) (gen := 20) [R__law_served]
def lineN (b : Bk) (r : Int × Nat) : VT.I3 := (r.1, (b.numAt r.2 : Int), amtAt b.ws r.2)
theorem line_sorted {b : Bk} (s : Bool) (p : Int) : ((sortedRows b.ws s p).map (lineN b)).Pairwise fun x y => VT.lex3 y x = false := by
  rw [List.pairwise_map]
  refine List.Pairwise.imp_of_mem (fun {x y} hx hy h => ?_) (sorted_lt b.ws s p)
  have hx := rowsTo_mem.mp ((sorted_perm b.ws s p).mem_iff.mp hx)
  have hy := rowsTo_mem.mp ((sorted_perm b.ws s p).mem_iff.mp hy)
  rw [VT.lex3_no]
  have h := ltN_iff.mp h
  show ¬ (y.1 < x.1 ∨ (y.1 = x.1 ∧ ((b.numAt y.2 : Int) < (b.numAt x.2 : Int) ∨ ((b.numAt y.2 : Int) = (b.numAt x.2 : Int) ∧ amtAt b.ws y.2 < amtAt b.ws x.2))))
  rcases h with h | ⟨h1, h2⟩
  · omega
  · have := Bk.num_mono h2 hy.1
    omega
def foundTo2 (b : Bk) (s : Bool) (p : Int) (t : Nat) : List (Int × Int) := (((orderN b.ws s p).take t).filter fun i => decide (0 < piece b.ws p i)).map fun i => ((b.numAt i : Int), piece b.ws p i)
theorem body__law_served {K : PySem.W.Frag} {c : Cs} {E : XK} : ∀ ds o, R__law_served c ds o → DS K E (t__law_served K c E) (slots 10 ds) o.post := by
  rintro _ _ ⟨b, s, p, rfl, hk, rfl⟩
  unfold t__law_served
  have hg := Bk.good_ws hk
  have hwl : b.rows.length = b.ws.length := by
    unfold Bk.ws
    rw [List.length_map]
  have hrl : b.rows.length ≤ b.came.length := rowsTo2_len b b.came.length
  have hfew := hk.few
  apply VS.q_new (xs := [])
  · walk_at "ev"
  apply VS.q_for (xs := b.rows.map rowD) (W := fun k es => ∃ s5 s6, es = [.val (rsD b.rows), .val (.str (sideS s)), .val (.int p), .val (.int (dealtN b.ws p)), .own (((VS.rowsTo b.ws s p k).map (lineN b)).map tripD), s5, s6, .no, .no, .no])
  · exact VS.de_var rfl
  · exact ⟨.no, .no, rfl⟩
  · rintro k x _ hx ⟨s5, s6, rfl⟩
    obtain ⟨r, hr, rfl⟩ := map_at hx
    have hkl : k < b.ws.length := by
      have := (List.getElem?_eq_some_iff.mp hr).1
      omega
    have hr2 := Bk.row_get hkl
    rw [hr] at hr2
    have hr2 : r = (b.numAt k, b.restW (b.numAt k)) := Option.some.inj hr2
    have hw := Bk.ws_get hkl
    obtain ⟨w, hwd⟩ : ∃ w, w = wAt b.ws k := ⟨_, rfl⟩
    rw [← hw, ← hwd] at hr2
    subst hr2
    have hll : ((VS.rowsTo b.ws s p k).map (lineN b)).length ≤ k := by
      rw [List.length_map]
      unfold VS.rowsTo
      rw [List.length_map]
      refine Nat.le_trans (List.length_filter_le _ _) ?_
      rw [List.length_range]
      exact Nat.le_refl k
    have hdl : dealsB b.ws s p k = (w.buy == s && willing w p) := by
      unfold dealsB
      rw [← hwd]
    have yes : (w.buy == s && willing w p) = true → VS.rowsTo b.ws s p (k + 1) = VS.rowsTo b.ws s p k ++ [(rankN s w, k)] := fun h => by
      rw [rowsTo_yes (by rw [hdl]; exact h), ← hwd]
    have no : (w.buy == s && willing w p) = false → VS.rowsTo b.ws s p (k + 1) = VS.rowsTo b.ws s p k := fun h => rowsTo_no (by rw [hdl]; exact h)
    have hamt : amtAt b.ws k = w.amount := by
      unfold amtAt
      rw [← hwd]
    apply VS.q_let (d := wishD w)
    · exact de_op (x := rowD (b.numAt k, w)) (VS.de_var rfl) de_int (VS.d2_ixT rfl)
    generalize VS.rowsTo b.ws s p (k + 1) = line' at yes no
    generalize hline : VS.rowsTo b.ws s p k = line at yes no hll
    show DS K E _ [.val (rsD b.rows), .val (.str (sideS s)), .val (.int p), .val (.int (dealtN b.ws p)), .own ((line.map (lineN b)).map tripD), .val (rowD (b.numAt k, w)), .val (wishD w), .no, .no, .no] _
    have hend : line'.map (lineN b) = line.map (lineN b) ++ (if (w.buy == s && willing w p) = true then [(rankN s w, (b.numAt k : Int), w.amount)] else []) := by
      by_cases z : (w.buy == s && willing w p) = true
      · rw [yes z, if_pos z, List.map_append]
        show _ ++ [(rankN s w, (b.numAt k : Int), amtAt b.ws k)] = _
        rw [hamt]
      · rw [no (by simpa using z), if_neg z, List.append_nil]
    obtain ⟨wb, wl, wa⟩ := w
    generalize b.numAt k = nk at hend
    have hn : DE K (tOp (rIxT K) (tVar 5) (tC (.int 0))) (frz [.val (rsD b.rows), .val (.str (sideS s)), .val (.int p), .val (.int (dealtN b.ws p)), .own ((line.map (lineN b)).map tripD), .val (rowD (nk, ⟨wb, wl, wa⟩)), .val (wishD ⟨wb, wl, wa⟩), .no, .no, .no]) (.int (nk : Int)) := de_op (x := rowD (nk, ⟨wb, wl, wa⟩)) (VS.de_var rfl) de_int (VS.d2_ixT rfl)
    cases s with
    | true =>
      refine VS.ds_seq (VS.ds_if (b := true && (wb && decide (p ≤ wl))) ?_ (fun hb => ?_) (fun hb => VS.ds_next ?_))
      · refine VS.dt_to (b := decide (sideS true = "buy") && (decide (sideS wb = "buy") && decide (p ≤ wl))) ?_ (by rw [sideS_buy, sideS_buy])
        exact dt_andU (by walk_at "ev") (dt_andU (by walk_at "ev") (by walk_at "ev"))
      · refine VS.ds_appV (i := 4) (d := tripD (-wl, (nk : Int), wa)) (xs := (line.map (lineN b)).map tripD) ?_ rfl (by rw [List.length_map]; omega) ?_
        · exact de_tup (da_cons (by walk_at "ev") (da_cons hn (da_cons (by walk_at "ev") da_nil))) (by show 3 ≤ 100000; decide)
        · refine VS.ds_if (b := !true && (!wb && decide (wl ≤ p))) ?_ (fun z => by cases z) (fun _ => VS.ds_next ⟨.val (rowD (nk, ⟨wb, wl, wa⟩)), .val (wishD ⟨wb, wl, wa⟩), ?_⟩)
          · refine VS.dt_to (b := decide (sideS true = "sell") && (decide (sideS wb = "sell") && decide (wl ≤ p))) ?_ (by rw [sideS_sell, sideS_sell])
            exact dt_andU (by walk_at "ev") (dt_andU (by walk_at "ev") (by walk_at "ev"))
          · have q : ((wb == true) && willing ⟨wb, wl, wa⟩ p) = true := by
              rw [Bool.true_and, Bool.and_eq_true] at hb
              simp [willing, hb.1, of_decide_eq_true hb.2]
            rw [hend, if_pos q, List.map_append]
            rfl
      · refine VS.ds_if (b := !true && (!wb && decide (wl ≤ p))) ?_ (fun z => by cases z) (fun _ => VS.ds_next ⟨.val (rowD (nk, ⟨wb, wl, wa⟩)), .val (wishD ⟨wb, wl, wa⟩), ?_⟩)
        · refine VS.dt_to (b := decide (sideS true = "sell") && (decide (sideS wb = "sell") && decide (wl ≤ p))) ?_ (by rw [sideS_sell, sideS_sell])
          exact dt_andU (by walk_at "ev") (dt_andU (by walk_at "ev") (by walk_at "ev"))
        · have q : ¬ ((wb == true) && willing ⟨wb, wl, wa⟩ p) = true := fun z => by
            cases wb
            · simp at z
            · simp [willing] at z hb
              omega
          rw [hend, if_neg q, List.append_nil]
    | false =>
      refine VS.ds_seq (VS.ds_if (b := false && (wb && decide (p ≤ wl))) ?_ (fun z => by cases z) (fun _ => VS.ds_next ?_))
      · refine VS.dt_to (b := decide (sideS false = "buy") && (decide (sideS wb = "buy") && decide (p ≤ wl))) ?_ (by rw [sideS_buy, sideS_buy])
        exact dt_andU (by walk_at "ev") (dt_andU (by walk_at "ev") (by walk_at "ev"))
      refine VS.ds_if (b := !false && (!wb && decide (wl ≤ p))) ?_ (fun hb => ?_) (fun hb => VS.ds_next ⟨.val (rowD (nk, ⟨wb, wl, wa⟩)), .val (wishD ⟨wb, wl, wa⟩), ?_⟩)
      · refine VS.dt_to (b := decide (sideS false = "sell") && (decide (sideS wb = "sell") && decide (wl ≤ p))) ?_ (by rw [sideS_sell, sideS_sell])
        exact dt_andU (by walk_at "ev") (dt_andU (by walk_at "ev") (by walk_at "ev"))
      · refine VS.ds_appV (i := 4) (d := tripD (wl, (nk : Int), wa)) (xs := (line.map (lineN b)).map tripD) ?_ rfl (by rw [List.length_map]; omega) ⟨.val (rowD (nk, ⟨wb, wl, wa⟩)), .val (wishD ⟨wb, wl, wa⟩), ?_⟩
        · exact de_tup (da_cons (by walk_at "ev") (da_cons hn (da_cons (by walk_at "ev") da_nil))) (by show 3 ≤ 100000; decide)
        · have q : ((wb == false) && willing ⟨wb, wl, wa⟩ p) = true := by
            cases wb
            · simp [willing] at hb ⊢
              exact hb
            · simp at hb
          rw [hend, if_pos q, List.map_append]
          rfl
      · have q : ¬ ((wb == false) && willing ⟨wb, wl, wa⟩ p) = true := fun z => by
          cases wb
          · simp [willing] at z hb
            omega
          · simp at z
        rw [hend, if_neg q, List.append_nil]
  · rintro _ ⟨s5, s6, rfl⟩
    rw [List.length_map, hwl]
    apply VS.q_new (xs := [])
    · walk_at "ev"
    refine VS.q_freeze 4 (xs := ((VS.rowsTo b.ws s p b.ws.length).map (lineN b)).map tripD) rfl ?_
    show DS K E _ [.val (rsD b.rows), .val (.str (sideS s)), .val (.int p), .val (.int (dealtN b.ws p)), .val (.list (((VS.rowsTo b.ws s p b.ws.length).map (lineN b)).map tripD)), s5, s6, .own [], .no, .no] _
    have l0 : leftN b.ws s p 0 = dealtN b.ws p := by
      unfold leftN
      have := dealt_nonneg hg p
      simp
      omega
    have hol : (orderN b.ws s p).length = (sortedRows b.ws s p).length := by
      unfold orderN
      rw [List.length_map]
    have hol2 : (orderN b.ws s p).length ≤ b.ws.length := by
      rw [hol, (sorted_perm b.ws s p).length_eq]
      unfold VS.rowsTo
      rw [List.length_map]
      refine Nat.le_trans (List.length_filter_le _ _) ?_
      rw [List.length_range]
      exact Nat.le_refl _
    apply VS.q_for (xs := ((sortedRows b.ws s p).map (lineN b)).map tripD) (W := fun t es => ∃ s8 s9, es = [.val (rsD b.rows), .val (.str (sideS s)), .val (.int p), .val (.int (leftN b.ws s p t)), .val (.list (((VS.rowsTo b.ws s p b.ws.length).map (lineN b)).map tripD)), s5, s6, .own ((foundTo2 b s p t).map pairD), s8, s9])
    · exact de_new (dn_cb (da_cons (VS.de_var rfl) da_nil) (dcn_sort3 ((sorted_perm b.ws s p).map _) (line_sorted s p)))
    · exact ⟨.no, .no, by rw [l0]; rfl⟩
    · rintro t x _ hx ⟨s8, s9, rfl⟩
      obtain ⟨q3, hq3, rfl⟩ := map_at hx
      rw [List.getElem?_map] at hq3
      cases hrr : (sortedRows b.ws s p)[t]? with
      | none => rw [hrr] at hq3; cases hq3
      | some r =>
        rw [hrr] at hq3
        have hq3 : lineN b r = q3 := Option.some.inj hq3
        subst hq3
        have ho : (orderN b.ws s p)[t]? = some r.2 := by
          unfold orderN
          rw [List.getElem?_map, hrr]
          rfl
        obtain ⟨e1, e2⟩ := left_step ho hg
        have hfl : (foundTo2 b s p t).length ≤ 5000 := by
          unfold foundTo2
          rw [List.length_map]
          refine Nat.le_trans (List.length_filter_le _ _) ?_
          rw [List.length_take]
          omega
        have hft : foundTo2 b s p (t + 1) = foundTo2 b s p t ++ (if 0 < piece b.ws p r.2 then [((b.numAt r.2 : Int), piece b.ws p r.2)] else []) := by
          unfold foundTo2
          rw [List.take_add_one, ho, List.filter_append, List.map_append]
          by_cases z : 0 < piece b.ws p r.2
          · simp [z]
          · simp [z]
        have hl : lineN b r = (r.1, (b.numAt r.2 : Int), amtAt b.ws r.2) := rfl
        rw [hl]
        generalize foundTo2 b s p (t + 1) = fnd' at hft
        generalize foundTo2 b s p t = fnd at hft hfl
        apply VS.q_set (d := .int (piece b.ws p r.2))
        · rw [← e1]
          exact de_cb (da_cons (de_op (x := tripD (r.1, (b.numAt r.2 : Int), amtAt b.ws r.2)) (VS.de_var rfl) de_int (VS.d2_ixT (d := .int (amtAt b.ws r.2)) rfl)) (da_cons (VS.de_var rfl) da_nil)) dc_min2
        · rfl
        apply VS.q_set (d := .int (leftN b.ws s p (t + 1)))
        · rw [← e2]
          exact de_op (VS.de_var rfl) (VS.de_var rfl) d2_sub
        · rfl
        show DS K E _ [.val (rsD b.rows), .val (.str (sideS s)), .val (.int p), .val (.int (leftN b.ws s p (t + 1))), .val (.list (((VS.rowsTo b.ws s p b.ws.length).map (lineN b)).map tripD)), s5, s6, .own (fnd.map pairD), .val (tripD (r.1, (b.numAt r.2 : Int), amtAt b.ws r.2)), .val (.int (piece b.ws p r.2))] _
        apply VS.ds_if (b := decide (0 < piece b.ws p r.2))
        · walk_at "ev"
        · intro hz
          refine VS.ds_appV (i := 7) (d := pairD ((b.numAt r.2 : Int), piece b.ws p r.2)) (xs := fnd.map pairD) ?_ rfl (by rw [List.length_map]; omega) ⟨.val (tripD (r.1, (b.numAt r.2 : Int), amtAt b.ws r.2)), .val (.int (piece b.ws p r.2)), ?_⟩
          · exact de_tup (da_cons (de_op (x := tripD (r.1, (b.numAt r.2 : Int), amtAt b.ws r.2)) (VS.de_var rfl) de_int (VS.d2_ixT (d := .int (b.numAt r.2 : Int)) rfl)) (da_cons (VS.de_var rfl) da_nil)) (by show 2 ≤ 100000; decide)
          · rw [hft, if_pos (of_decide_eq_true hz), List.map_append]
            rfl
        · intro hz
          refine VS.ds_next ⟨.val (tripD (r.1, (b.numAt r.2 : Int), amtAt b.ws r.2)), .val (.int (piece b.ws p r.2)), ?_⟩
          rw [hft, if_neg (of_decide_eq_false hz), List.append_nil]
    · rintro _ ⟨s8, s9, rfl⟩
      rw [List.length_map, List.length_map, ← hol]
      have hcan : (foundTo2 b s p (orderN b.ws s p).length).mergeSort leP = canon (gs (!s) (b.ringD p)) b.came.length := by
        refine canon_of ?_ fun x => ?_
        · unfold foundTo2
          rw [List.take_length]
          have nd : (orderN b.ws s p).Nodup := (order_perm b.ws s p).nodup_iff.mpr (List.nodup_range.filter _)
          refine List.pairwise_map.mpr (List.Pairwise.imp_of_mem (fun {i j} hi hj h e => h ?_) (nd.filter _))
          have hi := order_mem.mp (List.mem_filter.mp hi).1
          have hj := order_mem.mp (List.mem_filter.mp hj).1
          have e1 : (b.numAt i : Int) = (b.numAt j : Int) := congrArg Prod.fst e
          exact Bk.num_inj hi.1 hj.1 (by omega)
        · rw [mem_canon]
          unfold foundTo2
          rw [List.take_length, List.mem_map]
          constructor
          · rintro ⟨i, hi, rfl⟩
            rw [List.mem_filter, order_mem, decide_eq_true_eq] at hi
            obtain ⟨⟨h1, h2⟩, h3⟩ := hi
            have hb : ((wAt b.ws i).buy == s) = true := by
              unfold dealsB at h2
              rw [Bool.and_eq_true] at h2
              exact h2.1
            have g := ring_gs hk p s h1
            rw [if_pos hb] at g
            exact ⟨b.numAt i, (Bk.num_mem h1).1, by rw [g]; exact h3, by rw [g]⟩
          · rintro ⟨k, h1, h2, rfl⟩
            have hst : 0 < pAt b.rest k := by
              by_cases z : 0 < pAt b.rest k
              · exact z
              · rw [ring_gs0 hk p _ z] at h2
                omega
            obtain ⟨i, hi, rfl⟩ := Bk.stand_ix h1 hst
            have g := ring_gs hk p s hi
            by_cases z : ((wAt b.ws i).buy == s) = true
            · rw [if_pos z] at g
              rw [g] at h2 ⊢
              refine ⟨i, ?_, rfl⟩
              rw [List.mem_filter, order_mem, decide_eq_true_eq]
              refine ⟨⟨hi, ?_⟩, h2⟩
              unfold dealsB
              rw [z, piece_will h2]
              rfl
            · rw [if_neg z] at g
              omega
      rw [← hcan]
      exact VS.ds_retNew (dn_cb (da_cons (VS.de_var rfl) da_nil) dcn_sortP) rfl

def tN (t : Bool) : Int := if t = true then 1 else 0
def R__law_got (c : Cs) (ds : List PyData) (μ : Store) (W : Out → Store → Prop) : Prop := ∃ (D : List Deal) (t : Bool) (n : Nat), ds = [.list (D.map dealD), .int (tN t)] ∧ (∀ d ∈ D, 1 ≤ d.m ∧ selN t d < n) ∧ D.length ≤ 50000 ∧ W = fun o μ' => o = .new ((canon (gs t D) n).map pairD) ∧ ∀ x, μ x ≠ none → μ' x = μ x
-- slots of _law_got: 0 _law_deals 1 _law_at 2 _law_found 3 _law_deal
def t__law_got (K : PySem.W.Frag) (c : Cs) (E : XK) : TS :=
  (tSeq (tAsg tDnew (gName 2))
    (tSeq (tFor (iList K (tVar 0)) (gName 3) (sDPut (tVar 2) (tOp (rIxT K) (tVar 3) (tVar 1)) (tOp rAddI (tDGet2 (tVar 2) (tOp (rIxT K) (tVar 3) (tVar 1)) (tC (.int 0))) (tOp (rIxT K) (tVar 3) (tC (.int 2))))))
    (tRet (tCB (rSortedPO K) (tCons (LiI.tListItems (tVar 2)) tNil)))))
theorem len__law_got {c : Cs} : ∀ ds μ W, R__law_got c ds μ W → ds.length = 2 := by
  intro ds μ W h
  grind (ematch := 14) (gen := 20) [R__law_got]
theorem body__law_got {K : PySem.W.Frag} {c : Cs} {E : XK} : ∀ ds μ W, R__law_got c ds μ W → DM K E (t__law_got K c E) (slots 4 ds) μ (postM W) := by
  rintro _ μ _ ⟨D, t, n, rfl, hD, hl, rfl⟩
  show DM K E _ [.val (.list (D.map dealD)), .val (.int (tN t)), .no, .no] μ _
  refine dm_seq (dm_asg (me_dnew fun f hf => ?_))
  show DM K E _ [.val (.list (D.map dealD)), .val (.int (tN t)), .val (rawD f), .no] (mset μ f (dN [])) _
  refine dm_seq (dm_for (xs := D.map dealD) (W := fun k es μ' => ∃ ns s3, es = [.val (.list (D.map dealD)), .val (.int (tN t)), .val (rawD f), s3] ∧ μ' f = some (dN ns) ∧ (ns.map (·.1)).Nodup ∧ (∀ x v : Int, (x, v) ∈ ns ↔ ∃ j : Nat, x = (j : Int) ∧ v = gs t (D.take k) j ∧ 0 < v) ∧ (∀ x, μ x ≠ none → μ' x = μ x) ∧ ns.length ≤ k) (me_de (de_var rfl) ⟨rfl, [], .no, rfl, mset_at, List.nodup_nil, fun x v => ⟨(fun z => by cases z), ?_⟩, fun x hx => mset_ne fun z => hx (z ▸ hf), Nat.le_refl 0⟩) ?_ ?_)
  · rintro ⟨j, _, h1, h2⟩
    have : v = 0 := h1
    omega
  · rintro k x _ μ' hx ⟨ns, s3, rfl, hc, hn, hm, hfr, hln⟩
    obtain ⟨d, hd, rfl⟩ := map_at hx
    have hdm := hD d (List.mem_of_getElem? hd)
    have hk : k < D.length := (List.getElem?_eq_some_iff.mp hd).1
    have hts : D.take (k + 1) = D.take k ++ [d] := by rw [List.take_add_one, hd]; rfl
    have nn : ∀ j, 0 ≤ gs t (D.take k) j := fun j => gs_nonneg t j _ fun e he => (hD e (List.mem_of_mem_take he)).1
    show DM K E _ [.val (.list (D.map dealD)), .val (.int (tN t)), .val (rawD f), .val (dealD d)] μ' _
    have hix : ∀ {ds : List (Option PyData)}, ds[3]? = some (some (dealD d)) → ds[1]? = some (some (.int (tN t))) → DE K (tOp (rIxT K) (tVar 3) (tVar 1)) ds (.int (selN t d : Int)) := fun h1 h2 => de_op (x := dealD d) (y := .int (tN t)) (de_var h1) (de_var h2) (by cases t <;> exact VS.d2_ixT rfl)
    have hget : (getN ns (selN t d : Int)).getD 0 = gs t (D.take k) (selN t d) := by
      by_cases z : 0 < gs t (D.take k) (selN t d)
      · have q := (hm (selN t d : Int) (gs t (D.take k) (selN t d))).mpr ⟨selN t d, rfl, rfl, z⟩
        rw [(getN_iff hn).mpr q]
        rfl
      · have e0 : gs t (D.take k) (selN t d) = 0 := by
          have := nn (selN t d)
          omega
        cases q : getN ns (selN t d : Int) with
        | none => exact e0.symm
        | some v =>
          obtain ⟨j, h1, h2, h3⟩ := (hm _ _).mp ((getN_iff hn).mp q)
          have : j = selN t d := by omega
          subst this
          omega
    refine dm_dput (me_op (me_dget2 (me_de (de_var rfl) ⟨f, ns, rfl, hc, me_de (hix rfl rfl) (me_de de_int ⟨ns, _, 0, rfl, rfl, hc, ?_⟩)⟩)))
    rw [hget]
    refine me_de (d := .int d.m) (de_op (x := dealD d) (de_var rfl) de_int (VS.d2_ixT rfl)) ⟨_, d2_add, me_de (de_var rfl) (me_de (hix rfl rfl) ⟨f, ns, _, _, rfl, rfl, rfl, hc, by omega, ?_⟩)⟩
    have hw : gs t (D.take k) (selN t d) + d.m = gs t (D.take (k + 1)) (selN t d) := by
      rw [hts, gs_snoc, if_pos rfl]
    refine ⟨_, .val (dealD d), rfl, mset_at, keys_putN hn, fun x v => ?_, fun x hx => (mset_ne (show x ≠ f from fun z => hx (by rw [z]; exact hf))).trans (hfr x hx), ?_⟩
    · rw [mem_putN, hw]
      constructor
      · rintro (e | ⟨h1, h2⟩)
        · injection e with e1 e2
          refine ⟨selN t d, e1, e2, ?_⟩
          have := nn (selN t d)
          omega
        · obtain ⟨j, g1, g2, g3⟩ := (hm x v).mp h2
          refine ⟨j, g1, ?_, g3⟩
          have h1 : x ≠ (selN t d : Int) := h1
          rw [hts, gs_snoc, if_neg fun e => h1 (by rw [g1, e]), g2]
          omega
      · rintro ⟨j, g1, g2, g3⟩
        by_cases z : selN t d = j
        · left
          rw [g1, g2, z]
        · right
          have h1 : x ≠ (selN t d : Int) := fun e => z (by omega)
          refine ⟨h1, (hm x v).mpr ⟨j, g1, ?_, g3⟩⟩
          rw [hts, gs_snoc, if_neg z] at g2
          omega
    · unfold putN
      split
      · rw [List.length_map]
        omega
      · rw [List.length_append]
        show ns.length + 1 ≤ k + 1
        omega
  · rintro _ μ' ⟨ns, s3, rfl, hc, hn, hm, hfr, hln⟩
    rw [List.length_map, List.take_length] at hm
    have hcan : ns.mergeSort leP = canon (gs t D) n := by
      refine canon_of ?_ fun p => ?_
      · exact List.Pairwise.imp (fun h e => h (congrArg Prod.fst e)) (List.pairwise_map.mp hn)
      · obtain ⟨x, v⟩ := p
        rw [hm, mem_canon]
        constructor
        · rintro ⟨j, g1, g2, g3⟩
          refine ⟨j, ?_, by omega, by rw [g1, g2]⟩
          by_cases z : j < n
          · exact z
          · have := gs_none t j D fun d hd e => by
              have := (hD d hd).2
              omega
            omega
        · rintro ⟨j, g1, g2, e⟩
          injection e with e1 e2
          exact ⟨j, e1, e2, by omega⟩
    refine dm_retN (mn_cb (xs := [.list (ns.map pairD)]) (zs := (ns.mergeSort leP).map pairD) (ma_cons (me_new (mn_items (me_de (de_var rfl) ⟨f, ns, rfl, hc, ma_nil ⟨rfl, ?_⟩⟩)))) dcn_sortP)
    rw [hcan]
    exact ⟨rfl, hfr⟩

/-- a part of a tuple -/
theorem de_slT {K : PySem.W.Frag} {ds : List (Option PyData)} {te : TE} {tl th : TO} {lo hi : Option Int} {xs : List PyData} (h : DE K te ds (.tuple xs)) (h1 : DO K tl ds lo) (h2 : DO K th ds hi) (hn : ¬ (HT.sIx xs.length 0 lo = 0 ∧ HT.sIx xs.length xs.length hi = xs.length)) : DE K (tSl (rSlT K) te tl th) ds (.tuple (cut xs lo hi)) := fun B σ en H e Q k =>
  h B σ en H e _ fun v H1 e1 r => h1 B σ en H1 (e.trans e1) _ fun H2 e2 => h2 B σ en H2 ((e.trans e1).trans e2) _ fun H3 e3 => by
    obtain ⟨a, vs, rfl, ha, rs⟩ := r.tup_eq
    refine ⟨a, vs, rfl, SqT.of (e3 a _ (e2 a _ (grow_ex2 e e1 a _ ha))), by rw [rs.length]; exact hn, fun p hp => ?_⟩
    have e13 : Ex H1 H3 := e2.trans e3
    have hp0 := Ex.ne (e1.trans e13) hp
    refine k _ _ (e1.trans (e13.trans (upd_ex hp))) (.tup (by rw [grow_new hp0]; exact upd_same) ((rs.cut lo hi).mono ?_))
    exact grow_right (e13.trans (upd_ex hp))

def R__law_rising (c : Cs) (ds : List PyData) (o : Out) : Prop := ∃ D : List Deal, ds = [.list (D.map dealD)] ∧ D.length ≤ 50000 ∧ (D.Pairwise fun d e => d.b ≤ e.b ∧ d.s ≤ e.s ∧ (d.b < e.b ∨ d.s < e.s)) ∧ o = .ret (.bool true)
-- slots of _law_rising: 0 _law_deals 1 _law_k 2 _law_last
def t__law_rising (K : PySem.W.Frag) (c : Cs) (E : XK) : TS :=
  (tSeq (tFor (iRng2 (tCons (tC (.int 1)) (tCons (tCB (rLenSq K) (tCons (tVar 0) tNil)) tNil))) (gName 1) (tSeq (tAsg (tOp (rIxL K) (tVar 0) (tOp rSubI (tVar 1) (tC (.int 1)))) (gName 2))
    (tIfS (tOr (tTest (tOp rLtI (tOp (rIxT K) (tOp (rIxL K) (tVar 0) (tVar 1)) (tC (.int 0))) (tOp (rIxT K) (tVar 2) (tC (.int 0))))) (tOr (tTest (tOp rLtI (tOp (rIxT K) (tOp (rIxL K) (tVar 0) (tVar 1)) (tC (.int 1))) (tOp (rIxT K) (tVar 2) (tC (.int 1))))) (tTest (tOp (rEqD K) (tSl (rSlT K) (tOp (rIxL K) (tVar 0) (tVar 1)) tNoPart (tPart (tC (.int 2)))) (tSl (rSlT K) (tVar 2) tNoPart (tPart (tC (.int 2)))))))) (tRet (tC (.bl false))) tNext)))
    (tRet (tC (.bl true))))
theorem len__law_rising {c : Cs} : ∀ ds o, R__law_rising c ds o → ds.length = 1 := by
  intro ds o h
  grind (ematch := 14) (gen := 20) [R__law_rising]
theorem ds_forR2' {K : PySem.W.Frag} {E : XK} {es : List Slot} {P : Post} {tb u : TS} {ta : TA} {j : Nat} {lo n : Int} (W : Nat → List Slot → Prop) (h : DA K ta (see es) [.int lo, .int n]) (hb : -100000 ≤ lo ∧ lo ≤ 100000 ∧ -100000 ≤ n ∧ n ≤ 100000) (h0 : W 0 es) (hs : ∀ (k : Nat) es', lo + (k : Int) < n → W k es' → DS K E tb (es'.set j (.val (.int (lo + (k : Int))))) { P with nx := W (k + 1), ct := W (k + 1), bk := fun es' => DS K E u es' P }) (hd : ∀ es', W (n - lo).toNat es' → DS K E u es' P) :
    DS K E (tSeq (tFor (iRng2 ta) (gName j) tb) u) es P := ds_seq (ds_forR2 W h hb h0 hs hd)
theorem sh_nat2 (a b : Int) : SeqAt.shaped (.tuple [.int a, .int b]) = true := by
  unfold SeqAt.shaped
  simp [PyData.canLay0, PyData.canLayAll0, PyData.depth, PyData.depthAll]
theorem eqv_2 {a b x y : Int} (h : ¬ (a = x ∧ b = y)) : PyData.eqv (.tuple [.int a, .int b]) (.tuple [.int x, .int y]) = false := by
  cases z : PyData.eqv (.tuple [.int a, .int b]) (.tuple [.int x, .int y]) with
  | false => rfl
  | true =>
    exfalso
    simp [PyData.eqv, PyData.eqvAll] at z
    exact h ⟨z.1, z.2⟩
theorem body__law_rising {K : PySem.W.Frag} {c : Cs} {E : XK} : ∀ ds o, R__law_rising c ds o → DS K E (t__law_rising K c E) (slots 3 ds) o.post := by
  rintro _ _ ⟨D, rfl, hl, hc, rfl⟩
  unfold t__law_rising
  apply ds_forR2' (lo := 1) (n := (D.length : Int)) (W := fun k es => ∃ s1 s2, es = [.val (.list (D.map dealD)), s1, s2])
  · refine da_cons de_int (da_cons (VS.de_to (de_cb (by walk_at "ev") dc_len) (by rw [List.length_map])) da_nil)
  · omega
  · exact ⟨.no, .no, rfl⟩
  · rintro k _ hk ⟨s1, s2, rfl⟩
    have hk1 : k + 1 < D.length := by omega
    have h1 : D[k + 1]? = some (D[k + 1]'hk1) := List.getElem?_eq_getElem hk1
    have h0 : D[k]? = some (D[k]'(by omega)) := List.getElem?_eq_getElem (by omega)
    have hp := List.pairwise_iff_getElem.mp hc k (k + 1) (by omega) hk1 (by omega)
    generalize D[k + 1]'hk1 = e at h1 hp
    generalize D[k]'(by omega) = d at h0 hp
    have e1 : (1 : Int) + (k : Int) = ((k + 1 : Nat) : Int) := by omega
    show DS K E _ [.val (.list (D.map dealD)), .val (.int (1 + (k : Int))), s2] _
    rw [e1]
    apply VS.q_let (d := dealD d)
    · refine de_op (x := .list (D.map dealD)) (y := .int (k : Int)) (de_var rfl) (VS.de_to (d := .int (((k + 1 : Nat) : Int) - 1)) (by walk_at "ev") (by congr 1; omega)) (VS.d2_ixL (atI_map h0))
    have hcur : ∀ {ds : List (Option PyData)}, ds[0]? = some (some (.list (D.map dealD))) → ds[1]? = some (some (.int ((k + 1 : Nat) : Int))) → DE K (tOp (rIxL K) (tVar 0) (tVar 1)) ds (.tuple [.int (e.b : Int), .int (e.s : Int), .int e.m]) := fun q0 q1 => de_op (de_var q0) (de_var q1) (VS.d2_ixL (atI_map h1))
    refine VS.ds_if (b := false) ?_ (fun z => by cases z) fun _ => VS.ds_next ⟨_, _, rfl⟩
    refine VS.dt_to (b := decide ((e.b : Int) < (d.b : Int)) || (decide ((e.s : Int) < (d.s : Int)) || PyData.eqv (.tuple [.int (e.b : Int), .int (e.s : Int)]) (.tuple [.int (d.b : Int), .int (d.s : Int)]))) (dt_orU (dt_test (de_op (de_op (hcur rfl rfl) de_int (VS.d2_ixT (d := .int (e.b : Int)) rfl)) (de_op (x := dealD d) (de_var rfl) de_int (VS.d2_ixT (d := .int (d.b : Int)) rfl)) d2_lt)) (dt_orU (dt_test (de_op (de_op (hcur rfl rfl) de_int (VS.d2_ixT (d := .int (e.s : Int)) rfl)) (de_op (x := dealD d) (de_var rfl) de_int (VS.d2_ixT (d := .int (d.s : Int)) rfl)) d2_lt)) (dt_test (de_op (x := .tuple [.int (e.b : Int), .int (e.s : Int)]) (y := .tuple [.int (d.b : Int), .int (d.s : Int)]) ?_ ?_ (VS.d2_eqD (sh_nat2 _ _) (sh_nat2 _ _)))))) ?_
    · exact VS.de_to (de_slT (xs := [.int (e.b : Int), .int (e.s : Int), .int e.m]) (hcur rfl rfl) VS.do_none (VS.do_some VS.de_int) (show ¬ (HT.sIx 3 0 none = 0 ∧ HT.sIx 3 3 (some 2) = 3) by decide)) rfl
    · exact VS.de_to (de_slT (xs := [.int (d.b : Int), .int (d.s : Int), .int d.m]) (VS.de_var rfl) VS.do_none (VS.do_some VS.de_int) (show ¬ (HT.sIx 3 0 none = 0 ∧ HT.sIx 3 3 (some 2) = 3) by decide)) rfl
    · rw [eqv_2 (by omega), decide_eq_false (by omega), decide_eq_false (by omega)]
      rfl
  · rintro _ ⟨s1, s2, rfl⟩
    exact VS.ds_ret VS.de_bl (VS.post_ret rfl)

/-- what the law takes to stand -/
structure Stood (b : Bk) (dealt dropped : List Int) : Prop where
  l1 : dealt.length = b.came.length
  l2 : dropped.length = b.came.length
  eq : ∀ k, k < b.came.length → amtAt b.came k - pAt dealt k - pAt dropped k = pAt b.rest k
def R__law_stood (c : Cs) (ds : List PyData) (o : Out) : Prop := ∃ b dealt dropped, ds = [wsD (Bk.came b), intsD dealt, intsD dropped] ∧ b.wf ∧ Stood b dealt dropped ∧ o = .new (b.rows.map rowD)
-- slots of _law_stood: 0 _law_came 1 _law_dealt 2 _law_dropped 3 _law_rows 4 _law_k 5 _law_many
def t__law_stood (K : PySem.W.Frag) (c : Cs) (E : XK) : TS :=
  (tSeq (tAsg (tLst tNil) (gName 3))
    (tSeq (tFor (iRng1 (tCons (tCB (rLenSq K) (tCons (tVar 0) tNil)) tNil)) (gName 4) (tSeq (tAsg (tOp rSubI (tOp rSubI (tOp (rIxT K) (tOp (rIxL K) (tVar 0) (tVar 4)) (tC (.int 2))) (tOp (rIxL K) (tVar 1) (tVar 4))) (tOp (rIxL K) (tVar 2) (tVar 4))) (gName 5))
    (tIfS (tTest (tOp rGtI (tVar 5) (tC (.int 0)))) (tDrop (tBM K "list" rAppend (tVar 3) (tCons (tTup (tCons (tVar 4) (tCons (tTup (tCons (tOp (rIxT K) (tOp (rIxL K) (tVar 0) (tVar 4)) (tC (.int 0))) (tCons (tOp (rIxT K) (tOp (rIxL K) (tVar 0) (tVar 4)) (tC (.int 1))) (tCons (tVar 5) tNil)))) tNil))) tNil))) tNext)))
    (tRet (tVar 3))))
theorem len__law_stood {c : Cs} : ∀ ds o, R__law_stood c ds o → ds.length = 3 := by
  intro ds o h
  grind (ematch := 14) (gen := 20) [R__law_stood]
theorem body__law_stood {K : PySem.W.Frag} {c : Cs} {E : XK} : ∀ ds o, R__law_stood c ds o → DS K E (t__law_stood K c E) (slots 6 ds) o.post := by
  rintro _ _ ⟨b, dealt, dropped, rfl, hw, hs, rfl⟩
  unfold t__law_stood
  have h1 := hs.l1
  have h2 := hs.l2
  have h3 := hw.few
  apply VS.q_new (xs := [])
  · walk_at "ev"
  apply VS.q_forR1 (n := (b.came.length : Int)) (W := fun k es => ∃ s4 s5, es = [.val (wsD b.came), .val (intsD dealt), .val (intsD dropped), .own ((rowsTo2 b k).map rowD), s4, s5])
  · exact da_cons (VS.de_to (de_cb (by walk_at "ev") dc_len) (by rw [List.length_map])) da_nil
  · omega
  · exact ⟨.no, .no, rfl⟩
  · rintro k _ hk ⟨s4, s5, rfl⟩
    have hk' : k < b.came.length := by omega
    have g1 : dealt[k]? = some (pAt dealt k) := pAt_get (by omega)
    have g2 : dropped[k]? = some (pAt dropped k) := pAt_get (by omega)
    have hc := wAt_get hk'
    apply VS.q_set (d := .int (pAt b.rest k))
    · rw [← hs.eq k hk']
      unfold amtAt
      walk_at "ev"
    · rfl
    apply VS.ds_if (b := decide (0 < pAt b.rest k))
    · walk_at "ev"
    · intro hz
      apply VS.ds_appV (i := 3) (d := rowD (k, b.restW k)) (xs := (rowsTo2 b k).map rowD)
      · show DE K _ (frz [.val (wsD b.came), .val (intsD dealt), .val (intsD dropped), .own ((rowsTo2 b k).map rowD), .val (.int (k : Int)), .val (.int (pAt b.rest k))]) _
        unfold rowD wishD Bk.restW
        walk_at "ev"
      · rfl
      · rw [List.length_map]
        have := rowsTo2_len b k
        omega
      · refine ⟨.val (.int (k : Int)), .val (.int (pAt b.rest k)), ?_⟩
        have e : (rowsTo2 b (k + 1)).map rowD = (rowsTo2 b k).map rowD ++ [rowD (k, b.restW k)] := by
          unfold rowsTo2
          rw [List.range_succ, List.filter_append, List.map_append, List.map_append]
          simp [of_decide_eq_true hz]
        rw [e]
        rfl
    · intro hz
      apply VS.ds_next
      refine ⟨.val (.int (k : Int)), .val (.int (pAt b.rest k)), ?_⟩
      have e : rowsTo2 b (k + 1) = rowsTo2 b k := by
        unfold rowsTo2
        rw [List.range_succ, List.filter_append, List.map_append]
        simp [of_decide_eq_false hz]
      rw [e]
      rfl
  · rintro _ ⟨s4, s5, rfl⟩
    exact VS.ds_retO rfl rfl

/-! ### behind a ring -/
theorem row_mem {b : Bk} {r : Nat × Wish} (h : r ∈ b.rows) : r.1 < b.came.length ∧ 0 < pAt b.rest r.1 ∧ r.2 = b.restW r.1 := by
  obtain ⟨k, hk, rfl⟩ := List.mem_map.mp h
  rw [List.mem_filter, List.mem_range, decide_eq_true_eq] at hk
  exact ⟨hk.1, hk.2, rfl⟩
theorem isRing_clears {b : Bk} (h : b.ok) {p : Int} (r : b.isRing p) : coveredB b.ws p = true ∧ takenB b.ws p = true := by
  have hp := Bk.isRing_in h r
  obtain ⟨lo, hi, a, d, e⟩ := r
  have lh := (low_high (Bk.good_ws h) a d).2.2
  have := (clears_iff (Bk.good_ws h) a d hp.1 hp.2).mpr (by omega)
  rw [Bool.and_eq_true] at this
  exact this
/-- who still stands has not got all -/
theorem rung_stand {b : Bk} (h : b.ok) {p : Int} {k : Nat} (hk : k < b.came.length) (hs : 0 < pAt (b.rung p).rest k) : ∃ i, i < b.ws.length ∧ b.numAt i = k ∧ piece b.ws p i < amtAt b.ws i := by
  rw [Bk.rung_rest h] at hs
  by_cases z : 0 < pAt b.rest k
  · obtain ⟨i, hi, rfl⟩ := Bk.stand_ix hk z
    rw [Bk.ring_got h p hi] at hs
    refine ⟨i, hi, rfl, ?_⟩
    have e : amtAt b.ws i = pAt b.rest (b.numAt i) := by
      unfold amtAt
      rw [Bk.ws_get hi]
      rfl
    omega
  · rw [Bk.ring_got0 h p z] at hs
    omega
theorem rung_side {b : Bk} (h : b.ok) {p : Int} (r : b.isRing p) {k : Nat} (hk : k < b.came.length) (hs : 0 < pAt (b.rung p).rest k) : ((wAt b.came k).buy = true → (wAt b.came k).limit ≤ p) ∧ ((wAt b.came k).buy = false → p ≤ (wAt b.came k).limit) := by
  obtain ⟨i, hi, rfl, hp⟩ := rung_stand h hk hs
  obtain ⟨c1, c2⟩ := isRing_clears h r
  have key : ¬ 0 < betterN (wAt b.ws i) p := fun z => by
    rw [piece_better (Bk.good_ws h) hi c1 c2 z] at hp
    omega
  rw [Bk.ws_get hi] at key
  unfold betterN Bk.restW at key
  refine ⟨fun e => ?_, fun e => ?_⟩
  · rw [if_pos e] at key
    have key : ¬ 0 < (wAt b.came (b.numAt i)).limit - p := key
    omega
  · rw [if_neg (show ¬ (wAt b.came (b.numAt i)).buy = true by rw [e]; decide)] at key
    have key : ¬ 0 < p - (wAt b.came (b.numAt i)).limit := key
    omega
theorem less_all {ws : List Wish} (hg : Good ws) {p : Int} {s : Bool} {i : Nat} (hi : i < ws.length) (hb : (wAt ws i).buy = s) (hw : willing (wAt ws i) p = true) (hp : piece ws p i < amtAt ws i) : dealtN ws p + 1 ≤ amountOf ws s p := by
  rw [← side_pieces hg s p, sideOf_sum, amountOf_sum]
  refine sumTo_le_at (k := i) hi (fun j hj => ?_) ?_
  · have ok := (piecesN_ok hg p).ok j hj
    rw [pAt_piecesN hj] at ok ⊢
    unfold dealsB
    by_cases z : ((wAt ws j).buy == s) = true
    · rw [if_pos z, z, Bool.true_and]
      by_cases y : willing (wAt ws j) p = true
      · rw [if_pos y]
        exact ok.2
      · rw [if_neg y]
        have : piece ws p j = 0 := by
          unfold piece
          rw [if_neg y]
        omega
    · rw [if_neg z]
      have : ((wAt ws j).buy == s) = false := by simpa using z
      rw [this]
      simp
  · have e : ((wAt ws i).buy == s) = true := by rw [hb]; simp
    rw [pAt_piecesN hi]
    unfold dealsB
    rw [e, hw]
    simp
    omega
theorem no_both {b : Bk} (h : b.ok) {p : Int} {k j : Nat} (hk : k < b.came.length) (hj : j < b.came.length) (sk : 0 < pAt (b.rung p).rest k) (sj : 0 < pAt (b.rung p).rest j) (bk : (wAt b.came k).buy = true) (bj : (wAt b.came j).buy = false) (lk : p ≤ (wAt b.came k).limit) (lj : (wAt b.came j).limit ≤ p) : False := by
  obtain ⟨x, hx, rfl, px⟩ := rung_stand h hk sk
  obtain ⟨y, hy, rfl, py⟩ := rung_stand h hj sj
  have hg := Bk.good_ws h
  have wx := Bk.ws_get hx
  have wy := Bk.ws_get hy
  have h1 := less_all hg (s := true) hx (by rw [wx]; exact bk) (by
    rw [wx]
    unfold willing Bk.restW
    simp only [bk]
    exact decide_eq_true lk) px
  have h2 := less_all hg (s := false) hy (by rw [wy]; exact bj) (by
    rw [wy]
    unfold willing Bk.restW
    simp only [bj]
    exact decide_eq_true lj) py
  unfold dealtN at h1 h2
  omega
theorem rung_quiet {b : Bk} (h : b.ok) {p : Int} (r : b.isRing p) : (b.rung p).quiet p := by
  have side : ∀ q ∈ (b.rung p).rows, q.1 < b.came.length ∧ 0 < pAt (b.rung p).rest q.1 ∧ q.2.buy = (wAt b.came q.1).buy ∧ q.2.limit = (wAt b.came q.1).limit := fun q hq => by
    obtain ⟨h1, h2, h3⟩ := row_mem hq
    rw [h3]
    exact ⟨h1, h2, rfl, rfl⟩
  refine ⟨fun q hq e => ?_, fun q hq e => ?_, fun q hq s hs e1 e2 => ?_⟩
  · obtain ⟨h1, h2, h3, h4⟩ := side q hq
    rw [h4]
    exact (rung_side h r h1 h2).1 (h3 ▸ e)
  · obtain ⟨h1, h2, h3, h4⟩ := side q hq
    rw [h4]
    exact (rung_side h r h1 h2).2 (h3 ▸ e)
  · obtain ⟨h1, h2, h3, h4⟩ := side q hq
    obtain ⟨k1, k2, k3, k4⟩ := side s hs
    have g1 := (rung_side h r h1 h2).1 (h3 ▸ e1)
    have g2 := (rung_side h r k1 k2).2 (k3 ▸ e2)
    rw [h4, k4]
    by_cases z : (wAt b.came q.1).limit < (wAt b.came s.1).limit
    · exact z
    · exact (no_both h h1 k1 h2 k2 (h3 ▸ e1) (k3 ▸ e2) (by omega) (by omega)).elim
theorem amount_zero {ws : List Wish} {s : Bool} {q : Int} (h : ∀ w ∈ ws, w.buy = s → willing w q = false) : amountOf ws s q = 0 := by
  unfold amountOf
  have : (ws.filter fun w => w.buy == s && willing w q) = [] := by
    refine List.filter_eq_nil_iff.mpr fun w hw z => ?_
    rw [Bool.and_eq_true] at z
    rw [h w hw (by simpa using z.1)] at z
    exact Bool.false_ne_true z.2
  rw [this]
  rfl
theorem ws_mem {b : Bk} {w : Wish} (h : w ∈ b.ws) : ∃ k, k < b.came.length ∧ 0 < pAt b.rest k ∧ w = b.restW k := by
  unfold Bk.ws at h
  obtain ⟨r, hr, rfl⟩ := List.mem_map.mp h
  obtain ⟨h1, h2, h3⟩ := row_mem hr
  exact ⟨r.1, h1, h2, h3⟩
theorem rung_again {b : Bk} (h : b.ok) {p : Int} (r : b.isRing p) : (b.rung p).isRing p ∧ (b.rung p).ringD p = [] := by
  have ok1 := Bk.rung_ok h r
  have hg := Bk.good_ws ok1
  have hp := Bk.isRing_in h r
  constructor
  · obtain ⟨lo, a⟩ := low_ex hg
    obtain ⟨hi, d⟩ := high_ex hg
    have z1 : amountOf (b.rung p).ws true (p + 1) = 0 := amount_zero fun w hw e => by
      obtain ⟨k, h1, h2, rfl⟩ := ws_mem hw
      have e : (wAt b.came k).buy = true := e
      have g := (rung_side h r h1 h2).1 e
      unfold willing
      rw [if_pos (show ((b.rung p).restW k).buy = true from e)]
      exact decide_eq_false (by show ¬ (p + 1 ≤ (wAt b.came k).limit); omega)
    have z2 : amountOf (b.rung p).ws false (p - 1) = 0 := amount_zero fun w hw e => by
      obtain ⟨k, h1, h2, rfl⟩ := ws_mem hw
      have e : (wAt b.came k).buy = false := e
      have g := (rung_side h r h1 h2).2 e
      unfold willing
      rw [if_neg (show ¬ ((b.rung p).restW k).buy = true from fun z => by rw [show ((b.rung p).restW k).buy = (wAt b.came k).buy from rfl, e] at z; cases z)]
      exact decide_eq_false (by show ¬ ((wAt b.came k).limit ≤ p - 1); omega)
    have n1 := amountOf_nonneg false p hg
    have n2 := amountOf_nonneg true p hg
    have q := (clears_iff hg a d hp.1 hp.2).mp (by
      rw [Bool.and_eq_true]
      exact ⟨decide_eq_true (by show amountOf (b.rung p).ws true (p + 1) ≤ amountOf (b.rung p).ws false p; omega), decide_eq_true (by show amountOf (b.rung p).ws false (p - 1) ≤ amountOf (b.rung p).ws true p; omega)⟩)
    refine ⟨lo, hi, a, d, ?_⟩
    show p = max lo (min p hi)
    omega
  · refine List.eq_nil_iff_forall_not_mem.mpr fun d hd => ?_
    have o := ring_deal ok1 p hd
    exact no_both h o.bl o.sl o.bst o.sst o.buy o.sell o.bp o.sp
theorem rung_same {b : Bk} (h : b.ok) {p : Int} (r : b.isRing p) : (b.rung p).rung p = b.rung p := by
  have e := (rung_again h r).2
  show (⟨p, b.came, ((b.rung p).ringD p).foldl applyD (b.rung p).rest, ((b.rung p).ringD p).foldl (payD p) (b.rung p).money⟩ : Bk) = b.rung p
  rw [e]
  rfl
/-! what is dealt -/
def addD (m : List Int) (d : Deal) : List Int := addAt (addAt m d.b d.m) d.s d.m
theorem addD_len (m : List Int) (d : Deal) : (addD m d).length = m.length := by
  unfold addD
  rw [addAt_len, addAt_len]
theorem foldd_len (D : List Deal) : ∀ ps : List Int, (D.foldl addD ps).length = ps.length := by
  induction D with
  | nil => intro ps; rfl
  | cons d D ih =>
    intro ps
    rw [List.foldl_cons, ih, addD_len]
theorem pAt_addAt {m : List Int} {k : Nat} {v : Int} (h : k < m.length) (j : Nat) : pAt (addAt m k v) j = pAt m j + (if k = j then v else 0) := by
  unfold addAt
  rw [pAt_set h]
  by_cases z : j = k
  · subst z
    rw [if_pos rfl, if_pos rfl]
  · rw [if_neg z, if_neg fun e => z e.symm]
    omega
theorem foldd_at : ∀ (D : List Deal) (m : List Int) (j : Nat), (∀ d ∈ D, d.b < m.length ∧ d.s < m.length) → pAt (D.foldl addD m) j = pAt m j + gotN D j
  | [], m, j, _ => by
    show pAt m j = pAt m j + 0
    omega
  | d :: D, m, j, h => by
    obtain ⟨h1, h2⟩ := h d List.mem_cons_self
    rw [List.foldl_cons, foldd_at D (addD m d) j fun e he => by rw [addD_len]; exact h e (List.mem_cons_of_mem _ he)]
    rw [show gotN (d :: D) j = (if d.b = j then d.m else 0) + (if d.s = j then d.m else 0) + gotN D j from rfl]
    unfold addD
    rw [pAt_addAt (by rw [addAt_len]; exact h2), pAt_addAt h1]
    omega
theorem stood_rung {b : Bk} (h : b.ok) (p : Int) {dealt dropped : List Int} (S : Stood b dealt dropped) : Stood (b.rung p) ((b.ringD p).foldl addD dealt) dropped := by
  refine ⟨?_, S.l2, fun k hk => ?_⟩
  · rw [foldd_len]
    exact S.l1
  · have e := S.eq k hk
    rw [Bk.rung_rest h, foldd_at _ _ _ fun d hd => by
      have o := ring_deal h p hd
      rw [S.l1]
      exact ⟨o.bl, o.sl⟩]
    show amtAt b.came k - _ - _ = _
    omega
/-! money -/
def signed (b : Bk) (m : List Int) (k : Nat) : Int := if (wAt b.came k).buy = true then pAt m k else -pAt m k
structure Money (b : Bk) : Prop where
  nn : ∀ k, k < b.came.length → 0 ≤ pAt b.money k
  zero : sumTo (signed b b.money) b.came.length = 0
theorem pay_one {b : Bk} {m : List Int} {k : Nat} {v : Int} (hl : m.length = b.came.length) (hk : k < b.came.length) : sumTo (signed b (addAt m k v)) b.came.length = sumTo (signed b m) b.came.length + (if (wAt b.came k).buy = true then v else -v) := by
  rw [sumTo_change hk (f := signed b m) (fun j hj => by
    have q : pAt (addAt m k v) j = pAt m j := by rw [pAt_addAt (by omega), if_neg fun e => hj e.symm, Int.add_zero]
    unfold signed
    rw [q])]
  have q : pAt (addAt m k v) k = pAt m k + v := by rw [pAt_addAt (by omega), if_pos rfl]
  unfold signed
  rw [q]
  split <;> omega
theorem fold_pay {b : Bk} {p : Int} (hp : 0 ≤ p) : ∀ (D : List Deal) (m : List Int), (∀ d ∈ D, 1 ≤ d.m ∧ d.b < b.came.length ∧ d.s < b.came.length ∧ (wAt b.came d.b).buy = true ∧ (wAt b.came d.s).buy = false) → m.length = b.came.length → (∀ k, k < b.came.length → 0 ≤ pAt m k) → sumTo (signed b m) b.came.length = 0 → (∀ k, k < b.came.length → 0 ≤ pAt (D.foldl (payD p) m) k) ∧ sumTo (signed b (D.foldl (payD p) m)) b.came.length = 0
  | [], m, _, _, h1, h2 => ⟨h1, h2⟩
  | d :: D, m, h, hl, h1, h2 => by
    obtain ⟨m1, b1, s1, eb, es⟩ := h d List.mem_cons_self
    have hv : 0 ≤ p * d.m := Int.mul_nonneg hp (by omega)
    rw [List.foldl_cons]
    refine fold_pay hp D (payD p m d) (fun e he => h e (List.mem_cons_of_mem _ he)) (by rw [payD_len]; exact hl) (fun k hk => ?_) ?_
    · unfold payD
      rw [pAt_addAt (by rw [addAt_len]; omega), pAt_addAt (by omega)]
      have := h1 k hk
      split <;> split <;> omega
    · unfold payD
      rw [pay_one (by rw [addAt_len]; exact hl) s1, pay_one hl b1, h2, if_pos eb, if_neg (by rw [es]; decide)]
      omega
theorem money_rung {b : Bk} (h : b.ok) {p : Int} (r : b.isRing p) (m : Money b) : Money (b.rung p) := by
  have hp := Bk.isRing_in h r
  have q := fold_pay (b := b) hp.1 (b.ringD p) b.money (fun d hd => by
    have o := ring_deal h p hd
    exact ⟨o.many, o.bl, o.sl, o.buy, o.sell⟩) h.money m.nn m.zero
  exact ⟨q.1, q.2⟩

theorem sh_pairs2 (L : List (Int × Int)) : SeqAt.shaped (.list (L.map pairD)) = true := sh_map fun p _ => by
  unfold pairD
  exact ⟨by simp [PyData.canLay0, PyData.canLayAll0], by simp [PyData.depth, PyData.depthAll]⟩
theorem row_lay (r : Nat × Wish) : (rowD r).canLay0 = true ∧ (rowD r).depth ≤ 60 := by
  have h := wish_lay r.2
  have hd : (wishD r.2).depth ≤ 10 := by
    unfold wishD
    simp [PyData.depth, PyData.depthAll]
  unfold rowD
  refine ⟨?_, ?_⟩
  · simp [PyData.canLay0, PyData.canLayAll0, h.1]
  · simp [PyData.depth, PyData.depthAll]
    omega
theorem sh_rows (rs : List (Nat × Wish)) : SeqAt.shaped (.list (rs.map rowD)) = true := sh_map fun r _ => row_lay r
def R__law_ring (c : Cs) (ds : List PyData) (μ : Store) (W : Out → Store → Prop) : Prop := ∃ (a : Addr) (g : Gh) (b : Bk) (ca de dr : Addr) (dealt dropped : List Int) (p : Int), ds = [rawD a, rawD ca, rawD de, rawD dr] ∧ μ a = some (b.cell c g) ∧ b.ok ∧ b.came.length ≤ 2000 ∧ μ ca = some (.lst (b.came.map wishD)) ∧ μ de = some (.lst (dealt.map PyData.int)) ∧ μ dr = some (.lst (dropped.map PyData.int)) ∧ Stood b dealt dropped ∧ b.isRing p ∧
  W = fun o μ' => o = .ret (.bool true) ∧ μ' a = some ((b.rung p).cell c g) ∧ μ' de = some (.lst (((b.ringD p).foldl addD dealt).map PyData.int)) ∧ ∀ x, x ≠ a → x ≠ de → μ x ≠ none → μ' x = μ x
-- slots of _law_ring: 0 _law_book 1 _law_came 2 _law_dealt 3 _law_dropped 4 _law_rows 5 _law_stood_here 6 _law_old 7 _law_found 8 _law_price 9 _law_many 10 _law_deal 11 _law_number
def t__law_ring (K : PySem.W.Frag) (c : Cs) (E : XK) : TS :=
  (tSeq (tAsg (tCall (spD K (R__law_stood c)) [] E0 (tCons (tVar 1) (tCons (tVar 2) (tCons (tVar 3) tNil)))) (gName 4))
    (tSeq (tIfS (tTest (tOp (rNeD K) (tMeth c.Book "standing" (spD K (R_Book_standing c)) [] E0 (tVar 0) tNil) (tVar 4))) (tRet (tC (.bl false))) tNext)
    (tSeq (tAsg (tCB (rDictP K) (tCons (tVar 4) tNil)) (gName 5))
    (tSeq (tAsg (tFld K (tVar 0) "price") (gName 6))
    (tSeq (tAsg (tMeth c.Book "ring" (spM K (R_Book_ring c)) [] E0 (tVar 0) tNil) (gName 7))
    (tSeq (tAsg (tFld K (tVar 0) "price") (gName 8))
    (tSeq (tIfS (tOr (tNot (tB (tCB (rIsi K) (tCons (tVar 7) (tCons (tC (.ty "list")) tNil))))) (tNot (tB (tCall (spD K (R__law_priced c)) [] E0 (tCons (tVar 4) (tCons (tVar 6) (tCons (tVar 8) tNil))))))) (tRet (tC (.bl false))) tNext)
    (tSeq (tAsg (tCB rMin2 (tCons (tCall (spD K (R__law_sum c)) [] E0 (tCons (tVar 4) (tCons (tC (.str "buy")) (tCons (tVar 8) tNil)))) (tCons (tCall (spD K (R__law_sum c)) [] E0 (tCons (tVar 4) (tCons (tC (.str "sell")) (tCons (tVar 8) tNil)))) tNil))) (gName 9))
    (tSeq (tFor (iList K (tVar 7)) (gName 10) (tSeq (tIfS (tNot (tB (tCall (spM K (R__law_deal_good c)) [] E0 (tCons (tVar 10) (tCons (tVar 5) (tCons (tVar 8) tNil)))))) (tRet (tC (.bl false))) tNext)
    (tFor (iTup K (tSl (rSlT K) (tVar 10) tNoPart (tPart (tC (.int 2))))) (gName 11) (tAsg (tOp rAddI (tOp (rIxL K) (tVar 2) (tVar 11)) (tOp (rIxT K) (tVar 10) (tC (.int 2)))) (gSub (tVar 2) (tVar 11) rSetL)))))
    (tSeq (tIfS (tOr (tNot (tB (tCall (spD K (R__law_rising c)) [] E0 (tCons (tVar 7) tNil)))) (tNot (tB (tCall (spD K (R__law_quiet c)) [] E0 (tCons (tVar 0) (tCons (tVar 8) tNil)))))) (tRet (tC (.bl false))) tNext)
    (tSeq (tIfS (tTest (tOp (rNeD K) (tCall (spM K (R__law_got c)) [] E0 (tCons (tVar 7) (tCons (tC (.int 0)) tNil))) (tCall (spD K (R__law_served c)) [] E0 (tCons (tVar 4) (tCons (tC (.str "buy")) (tCons (tVar 8) (tCons (tVar 9) tNil))))))) (tRet (tC (.bl false))) tNext)
    (tSeq (tIfS (tTest (tOp (rNeD K) (tCall (spM K (R__law_got c)) [] E0 (tCons (tVar 7) (tCons (tC (.int 1)) tNil))) (tCall (spD K (R__law_served c)) [] E0 (tCons (tVar 4) (tCons (tC (.str "sell")) (tCons (tVar 8) (tCons (tVar 9) tNil))))))) (tRet (tC (.bl false))) tNext)
    (tRet (tAndV (tOp (rEqD K) (tMeth c.Book "ring" (spM K (R_Book_ring c)) [] E0 (tVar 0) tNil) (tLst tNil)) (tAndV (tCall (spD K (R__law_whole c)) [] E0 (tCons (tFld K (tVar 0) "price") tNil)) (tOp rEq (tFld K (tVar 0) "price") (tVar 8)))))))))))))))))
theorem len__law_ring {c : Cs} : ∀ ds μ W, R__law_ring c ds μ W → ds.length = 4 := by
  intro ds μ W h
  grind (ematch := 14) (gen := 20) [R__law_ring]
theorem body__law_ring {K : PySem.W.Frag} {c : Cs} {E : XK} : ∀ ds μ W, R__law_ring c ds μ W → DM K E (t__law_ring K c E) (slots 12 ds) μ (postM W) := by
  rintro _ μ _ ⟨a, g, b, ca, de, dr, dealt, dropped, p, rfl, hbk, hk, hfew, hca, hde, hdr, S, hr, rfl⟩
  have hw : b.wf := hk.towf
  have hp := Bk.isRing_in hk hr
  have hok := Bk.rung_ok hk hr
  obtain ⟨lo, hi, hlo, hhi, hpe⟩ := id hr
  have hg := Bk.good_ws hk
  have hrl : b.rows.length ≤ b.came.length := rowsTo2_len b b.came.length
  have hfD := ring_few hk p
  have ade : a ≠ de := fun z => by rw [z, hde] at hbk; cases hbk
  have aca : a ≠ ca := fun z => by rw [z, hca] at hbk; cases hbk
  have adr : a ≠ dr := fun z => by rw [z, hdr] at hbk; cases hbk
  show DM K E _ [.val (rawD a), .val (rawD ca), .val (rawD de), .val (rawD dr), .no, .no, .no, .no, .no, .no, .no, .no] μ _
  -- rows = stood(..)
  refine dm_seq (dm_new (mn_v (ds := [none, some (wsD b.came), some (intsD dealt), some (intsD dropped), none, none, none, none, none, none, none, none]) (by walk_at "vw") (xs := b.rows.map rowD) (dn_call (xs := [wsD b.came, intsD dealt, intsD dropped]) (da_cons (de_var rfl) (da_cons (de_var rfl) (da_cons (de_var rfl) da_nil))) ⟨b, dealt, dropped, rfl, hw, S, rfl⟩) (noLDs_map fun r _ => noLD_row r) ?_))
  refine dm_freeze (i := 4) (xs := b.rows.map rowD) rfl ?_
  show DM K E _ [.val (rawD a), .val (rawD ca), .val (rawD de), .val (rawD dr), .val (rsD b.rows), .no, .no, .no, .no, .no, .no, .no] μ _
  refine dm_seq (dm_if (mt_v (ds := [some (b.data c), none, none, none, some (rsD b.rows), none, none, none, none, none, none, none]) (by walk_at "vw") (b := false) (dt_test (de_op (de_new (dn_meth bkNo_standing (de_var rfl) da_nil ⟨b, rfl, hw, rfl⟩)) (de_var rfl) (VS.d2_neSame (sh_rows _)))) ⟨(fun z => by cases z), fun _ => dm_next ?_⟩))
  -- stood_here = dict(rows)
  have nodR : (b.rows.map (·.1)).Nodup := by
    unfold Bk.rows rowsTo2
    rw [List.map_map, show ((fun x : Nat × Wish => x.1) ∘ fun k => (k, b.restW k)) = id from rfl, List.map_id]
    exact List.nodup_range.filter _
  have erow : b.rows.map rowD = (b.rows.map fun r => ((r.1 : Int), wishD r.2)).map fun r => PyData.tuple [.int r.1, r.2] := by
    rw [List.map_map]
    rfl
  refine dm_seq (dm_asg (me_dict (ma_cons (me_de (d := rsD b.rows) (de_var rfl) (ma_nil ⟨b.rows.map fun r => ((r.1 : Int), wishD r.2), by unfold rsD; rw [erow], ?_, fun f kvs hf hkv => ?_⟩)))))
  · rw [List.map_map, show ((fun x : Int × PyData => x.1) ∘ fun r : Nat × Wish => ((r.1 : Int), wishD r.2)) = (fun n : Nat => (n : Int)) ∘ (·.1) from rfl, ← List.map_map]
    exact List.pairwise_map.mpr (nodR.imp fun h e => h (Int.ofNat_inj.mp e))
  rw [List.map_map] at hkv
  have hkv : kvs.map (·.1) = b.rows.map (fun r => (Sum.inl (r.1 : Int) : Key)) := hkv
  rw [List.map_map]
  have fa : a ≠ f := fun z => by rw [z, hf] at hbk; cases hbk
  have fde : de ≠ f := fun z => by rw [z, hf] at hde; cases hde
  have hbk1 : mset μ f (.dct kvs (b.rows.map ((fun x : Int × PyData => x.2) ∘ fun r : Nat × Wish => ((r.1 : Int), wishD r.2)))) a = some (b.cell c g) := (mset_ne fa).trans hbk
  have hdc1 : mset μ f (.dct kvs (b.rows.map ((fun x : Int × PyData => x.2) ∘ fun r : Nat × Wish => ((r.1 : Int), wishD r.2)))) f = some (.dct kvs (b.rows.map fun r => wishD r.2)) := mset_at
  have hfr1 : ∀ x, μ x ≠ none → mset μ f (.dct kvs (b.rows.map ((fun x : Int × PyData => x.2) ∘ fun r : Nat × Wish => ((r.1 : Int), wishD r.2)))) x = μ x := fun x hx => mset_ne fun z => hx (by rw [z]; exact hf)
  generalize mset μ f (.dct kvs (b.rows.map ((fun x : Int × PyData => x.2) ∘ fun r : Nat × Wish => ((r.1 : Int), wishD r.2)))) = μ1 at hbk1 hdc1 hfr1
  show DM K E _ [.val (rawD a), .val (rawD ca), .val (rawD de), .val (rawD dr), .val (rsD b.rows), .val (rawD f), .no, .no, .no, .no, .no, .no] μ1 _
  refine dm_seq (dm_asg (me_v (ds := [some (b.data c), none, none, none, none, none, none, none, none, none, none, none]) (by walk_at "vw") (de_fldP (de_var rfl)) rfl ?_))
  -- found = book.ring()
  refine dm_seq (dm_asg (me_meth bkNo_ring (me_de (de_var rfl) ⟨a, _, _, _, _, _, _, _, _, rfl, hbk1, ma_nil ⟨_, ⟨a, g, b, p, rfl, hbk1, hk, hr, rfl⟩, ?_⟩⟩)))
  rintro o μ2 ⟨rfl, e2⟩
  refine ⟨_, .inr ⟨_, rfl, rfl, ?_⟩⟩
  have hbk2 : μ2 a = some ((b.rung p).cell c g) := by rw [e2]; exact mset_at
  have hdc2 : μ2 f = some (.dct kvs (b.rows.map fun r => wishD r.2)) := by rw [e2, mset_ne fa.symm]; exact hdc1
  have hfr2 : ∀ x, x ≠ a → μ x ≠ none → μ2 x = μ x := fun x hx hn => by rw [e2, mset_ne hx]; exact hfr1 x hn
  clear e2
  show DM K E _ [.val (rawD a), .val (rawD ca), .val (rawD de), .val (rawD dr), .val (rsD b.rows), .val (rawD f), .val (.int b.price), .val (.list ((b.ringD p).map dealD)), .no, .no, .no, .no] μ2 _
  refine dm_seq (dm_asg (me_v (ds := [some ((b.rung p).data c), none, none, none, none, none, none, none, none, none, none, none]) (by walk_at "vw") (de_fldP (de_var rfl)) rfl ?_))
  show DM K E _ [.val (rawD a), .val (rawD ca), .val (rawD de), .val (rawD dr), .val (rsD b.rows), .val (rawD f), .val (.int b.price), .val (.list ((b.ringD p).map dealD)), .val (.int p), .no, .no, .no] μ2 _
  refine dm_seq (dm_if (mt_v Vw.see (b := !true || !true) (dt_orU (dt_not (dt_B (de_isiU (d := .list ((b.ringD p).map dealD)) (de_var rfl) rfl kit_l_l))) (dt_not (dt_B (de_call (xs := [rsD b.rows, .int b.price, .int p]) (by walk_at "ev") ⟨b.rows, b.price, p, lo, hi, rfl, hg, hlo, hhi, hpe, hk.p0, hk.p1, rfl⟩)))) ⟨(fun z => by cases z), fun _ => dm_next ?_⟩))
  -- many
  refine dm_seq (dm_asg (me_de (d := .int (dealtN b.ws p)) (de_cb (da_cons (de_call (xs := [rsD b.rows, .str (sideS true), .int p]) (by walk_at "ev") ⟨b.rows, true, p, rfl, rfl⟩) (da_cons (de_call (xs := [rsD b.rows, .str (sideS false), .int p]) (by walk_at "ev") ⟨b.rows, false, p, rfl, rfl⟩) da_nil)) dc_min2) ?_))
  show DM K E _ [.val (rawD a), .val (rawD ca), .val (rawD de), .val (rawD dr), .val (rsD b.rows), .val (rawD f), .val (.int b.price), .val (.list ((b.ringD p).map dealD)), .val (.int p), .val (.int (dealtN b.ws p)), .no, .no] μ2 _
  have hdl := S.l1
  refine dm_seq (dm_for (xs := (b.ringD p).map dealD) (W := fun k es μ' => (∃ s10 s11, es = [.val (rawD a), .val (rawD ca), .val (rawD de), .val (rawD dr), .val (rsD b.rows), .val (rawD f), .val (.int b.price), .val (.list ((b.ringD p).map dealD)), .val (.int p), .val (.int (dealtN b.ws p)), s10, s11]) ∧ μ' = mset μ2 de (.lst ((((b.ringD p).take k).foldl addD dealt).map PyData.int))) (me_de (de_var rfl) ⟨rfl, ⟨.no, .no, rfl⟩, ?_⟩) ?_ ?_)
  · refine (mset_same ?_).symm
    rw [hfr2 de ade.symm (by rw [hde]; exact fun z => by cases z)]
    exact hde
  · rintro k x _ _ hx ⟨⟨s10, s11, rfl⟩, rfl⟩
    obtain ⟨d, hd, rfl⟩ := map_at hx
    have o := ring_deal hk p (List.mem_of_getElem? hd)
    have inrow : ∀ n, n < b.came.length → 0 < pAt b.rest n → ∃ i, b.rows[i]? = some (n, b.restW n) := fun n h1 h2 => List.mem_iff_getElem?.mp (by
      unfold Bk.rows rowsTo2
      refine List.mem_map.mpr ⟨n, ?_, rfl⟩
      rw [List.mem_filter, List.mem_range, decide_eq_true_eq]
      exact ⟨h1, h2⟩)
    obtain ⟨i, hi'⟩ := inrow d.b o.bl o.bst
    obtain ⟨j, hj'⟩ := inrow d.s o.sl o.sst
    have hln : (((b.ringD p).take k).foldl addD dealt).length = b.came.length := by rw [foldd_len, hdl]
    have fold1 : ((b.ringD p).take (k + 1)).foldl addD dealt = addD (((b.ringD p).take k).foldl addD dealt) d := fold_snoc hd
    rw [fold1]
    generalize ((b.ringD p).take k).foldl addD dealt = m0 at hln
    have hdc3 : mset μ2 de (.lst (m0.map PyData.int)) f = some (.dct kvs (b.rows.map fun r => wishD r.2)) := (mset_ne fde.symm).trans hdc2
    show DM K E _ [.val (rawD a), .val (rawD ca), .val (rawD de), .val (rawD dr), .val (rsD b.rows), .val (rawD f), .val (.int b.price), .val (.list ((b.ringD p).map dealD)), .val (.int p), .val (.int (dealtN b.ws p)), .val (dealD d), s11] _ _
    refine dm_seq (dm_if (mt_not (mt_B (me_call (ma_cons (me_de (de_var rfl) (ma_cons (me_de (de_var rfl) (ma_cons (me_de (de_var rfl) (ma_nil ⟨_, ⟨d, f, p, kvs, b.rows, i, j, _, _, rfl, hdc3, hkv, nodR, hi', hj', o.many, o.buy, o.sell, o.sp, o.bp, rfl⟩, ?_⟩)))))))))))
    rintro o' μ3 ⟨rfl, rfl⟩
    refine ⟨_, .inl ⟨rfl, true, rfl, (fun z => by cases z), fun _ => dm_next ?_⟩⟩
    have hdd : dealD d = .tuple [.int (d.b : Int), .int (d.s : Int), .int d.m] := rfl
    rw [hdd]
    refine dm_forT (xs := [.int (d.b : Int), .int (d.s : Int)]) (W := fun j es μ'' => (∃ s11, es = [.val (rawD a), .val (rawD ca), .val (rawD de), .val (rawD dr), .val (rsD b.rows), .val (rawD f), .val (.int b.price), .val (.list ((b.ringD p).map dealD)), .val (.int p), .val (.int (dealtN b.ws p)), .val (.tuple [.int (d.b : Int), .int (d.s : Int), .int d.m]), s11]) ∧ μ'' = mset μ2 de (.lst ((if j = 0 then m0 else if j = 1 then addAt m0 d.b d.m else addD m0 d).map PyData.int))) ?_ ?_ ?_
    · exact me_v Vw.see (d := .tuple [.int (d.b : Int), .int (d.s : Int)]) (VS.de_to (de_slT (xs := [.int (d.b : Int), .int (d.s : Int), .int d.m]) (de_var rfl) do_none (do_some de_int) (show ¬ (HT.sIx 3 0 none = 0 ∧ HT.sIx 3 3 (some 2) = 3) by decide)) rfl) rfl ⟨rfl, ⟨s11, rfl⟩, rfl⟩
    · rintro j y _ _ hy ⟨⟨s11', rfl⟩, rfl⟩
      obtain ⟨n, m1, rfl, hn, hm1, e1, e1'⟩ : ∃ (n : Nat) (m1 : List Int), y = .int (n : Int) ∧ n < b.came.length ∧ m1.length = b.came.length ∧ (if j = 0 then m0 else if j = 1 then addAt m0 d.b d.m else addD m0 d) = m1 ∧ (if j + 1 = 0 then m0 else if j + 1 = 1 then addAt m0 d.b d.m else addD m0 d) = addAt m1 n d.m := by
        match j, hy with
        | 0, hy => exact ⟨d.b, m0, (Option.some.inj hy).symm, o.bl, hln, rfl, rfl⟩
        | 1, hy => exact ⟨d.s, addAt m0 d.b d.m, (Option.some.inj hy).symm, o.sl, (addAt_len _ _ _).trans hln, rfl, rfl⟩
        | j + 2, hy => cases hy
      rw [e1, e1']
      have g1 := pAt_get (ps := m1) (k := n) (by omega)
      show DM K E _ [.val (rawD a), .val (rawD ca), .val (rawD de), .val (rawD dr), .val (rsD b.rows), .val (rawD f), .val (.int b.price), .val (.list ((b.ringD p).map dealD)), .val (.int p), .val (.int (dealtN b.ws p)), .val (.tuple [.int (d.b : Int), .int (d.s : Int), .int d.m]), .val (.int (n : Int))] _ _
      refine dm_cput (me_v (ds := [none, none, some (intsD m1), none, none, none, none, none, none, none, some (.tuple [.int (d.b : Int), .int (d.s : Int), .int d.m]), some (.int (n : Int))]) (by walk_at "vw") (d := .int (pAt m1 n + d.m)) (de_op (de_op (de_var rfl) (de_var rfl) (VS.d2_ixL (atI_map g1))) (de_op (de_var rfl) de_int (VS.d2_ixT (d := .int d.m) rfl)) d2_add) rfl (me_de (de_var rfl) (me_de (de_var rfl) ⟨de, (n : Int), de, _, _, _, n, rfl, rfl, mset_at, inC_lst, Evl.ixN_nat (by rw [List.length_map]; omega), ⟨_, rfl⟩, ?_⟩)))
      rw [mset_mset, ← List.map_set]
      rfl
    · rintro _ _ ⟨⟨s11', rfl⟩, rfl⟩
      exact ⟨⟨_, s11', rfl⟩, rfl⟩
  rintro _ μ3 ⟨⟨s10, s11, rfl⟩, e3⟩
  rw [List.length_map, List.take_length] at e3
  have hbk3 : μ3 a = some ((b.rung p).cell c g) := by rw [e3, mset_ne ade]; exact hbk2
  have hde3 : μ3 de = some (.lst (((b.ringD p).foldl addD dealt).map PyData.int)) := by rw [e3]; exact mset_at
  have hfr3 : ∀ x, x ≠ a → x ≠ de → μ x ≠ none → μ3 x = μ x := fun x h1 h2 hn => by rw [e3, mset_ne h2]; exact hfr2 x h1 hn
  clear e3
  -- rising, quiet
  refine dm_seq (dm_if (mt_v (ds := [some ((b.rung p).data c), none, none, none, none, none, none, some (.list ((b.ringD p).map dealD)), some (.int p), none, none, none]) (by walk_at "vw") (b := !true || !true) (dt_orU (dt_not (dt_B (de_call (xs := [.list ((b.ringD p).map dealD)]) (by walk_at "ev") ⟨b.ringD p, rfl, by omega, ring_chain hk p, rfl⟩))) (dt_not (dt_B (de_call (xs := [(b.rung p).data c, .int p]) (da_cons (de_var rfl) (da_cons (de_var rfl) da_nil)) ⟨b.rung p, p, rfl, hok.towf, hp.1, hp.2, rung_quiet hk hr, fun r hr' => ?_, rfl⟩)))) ⟨(fun z => by cases z), fun _ => dm_next ?_⟩))
  · obtain ⟨h1, h2, h3⟩ := row_mem hr'
    rw [h3]
    have := hk.good _ (wAt_mem h1)
    exact ⟨this.1, this.2.1⟩
  -- who got how much
  have served : ∀ (s : Bool) (te : TE) (μ' : Store), (∀ ds : List (Option PyData), ds[4]? = some (some (rsD b.rows)) → ds[8]? = some (some (.int p)) → ds[9]? = some (some (.int (dealtN b.ws p))) → DN K te ds ((canon (gs (!s) (b.ringD p)) b.came.length).map pairD)) → MN K te [.val (rawD a), .val (rawD ca), .val (rawD de), .val (rawD dr), .val (rsD b.rows), .val (rawD f), .val (.int b.price), .val (.list ((b.ringD p).map dealD)), .val (.int p), .val (.int (dealtN b.ws p)), s10, s11] μ' (fun xs μ2 => xs = (canon (gs (!s) (b.ringD p)) b.came.length).map pairD ∧ μ2 = μ') := fun s te μ' h => mn_dn (h _ rfl rfl rfl) ⟨rfl, rfl⟩
  have gotOk : ∀ t, ∀ d ∈ b.ringD p, 1 ≤ d.m ∧ selN t d < b.came.length := fun t d hd => by
    have o := ring_deal hk p hd
    cases t
    · exact ⟨o.many, o.bl⟩
    · exact ⟨o.many, o.sl⟩
  refine dm_seq (dm_if (mt_test (me_op (me_call (ma_cons (me_de (de_var rfl) (ma_cons (me_de (d := .int (tN false)) de_int (ma_nil ⟨_, ⟨b.ringD p, false, b.came.length, rfl, gotOk false, by omega, rfl⟩, ?_⟩)))))))))
  rintro o' μ4 ⟨rfl, hfr4⟩
  refine ⟨_, .inr ⟨_, rfl, rfl, me_new (mn_dn (dn_call (xs := [rsD b.rows, .str (sideS true), .int p, .int (dealtN b.ws p)]) (by walk_at "ev") ⟨b, true, p, rfl, hk, rfl⟩) ⟨_, VS.d2_neSame (sh_pairs2 _), false, rfl, (fun z => by cases z), fun _ => dm_next ?_⟩)⟩⟩
  refine dm_seq (dm_if (mt_test (me_op (me_call (ma_cons (me_de (de_var rfl) (ma_cons (me_de (d := .int (tN true)) de_int (ma_nil ⟨_, ⟨b.ringD p, true, b.came.length, rfl, gotOk true, by omega, rfl⟩, ?_⟩)))))))))
  rintro o' μ5 ⟨rfl, hfr5⟩
  refine ⟨_, .inr ⟨_, rfl, rfl, me_new (mn_dn (dn_call (xs := [rsD b.rows, .str (sideS false), .int p, .int (dealtN b.ws p)]) (by walk_at "ev") ⟨b, false, p, rfl, hk, rfl⟩) ⟨_, VS.d2_neSame (sh_pairs2 _), false, rfl, (fun z => by cases z), fun _ => dm_next ?_⟩)⟩⟩
  have k4 : ∀ x, μ3 x ≠ none → μ5 x = μ3 x := fun x hx => by
    have q := hfr4 x hx
    rw [hfr5 x (by rw [q]; exact hx), q]
  have hbk5 : μ5 a = some ((b.rung p).cell c g) := by rw [k4 a (by rw [hbk3]; exact fun z => by cases z)]; exact hbk3
  have hde5 : μ5 de = some (.lst (((b.ringD p).foldl addD dealt).map PyData.int)) := by rw [k4 de (by rw [hde3]; exact fun z => by cases z)]; exact hde3
  have hfr6 : ∀ x, x ≠ a → x ≠ de → μ x ≠ none → μ5 x = μ x := fun x h1 h2 hn => by
    have q := hfr3 x h1 h2 hn
    rw [k4 x (by rw [q]; exact hn), q]
  obtain ⟨hr2, hnil⟩ := rung_again hk hr
  -- the ring again
  refine dm_ret (me_andV (me_op (me_meth bkNo_ring (me_de (de_var rfl) ⟨a, _, _, _, _, _, _, _, _, rfl, hbk5, ma_nil ⟨_, ⟨a, g, b.rung p, p, rfl, hbk5, hok, hr2, rfl⟩, ?_⟩⟩))))
  rintro o' μ6 ⟨rfl, e6⟩
  rw [rung_same hk hr, mset_same hbk5] at e6
  subst e6
  refine ⟨_, .inr ⟨_, rfl, rfl, ?_⟩⟩
  rw [hnil]
  refine me_de (d := .list []) (by walk_at "ev") ⟨.bool true, VS.d2_eqSame rfl, true, rfl, (fun z => by cases z), fun _ => ?_⟩
  refine me_v (ds := [some ((b.rung p).data c), none, none, none, none, none, none, none, some (.int p), none, none, none]) (by walk_at "vw") (d := .bool (true && decide (p = p))) (de_andU (de_call (xs := [.int p]) (da_cons (de_fldP (de_var rfl)) da_nil) ⟨_, rfl, rfl, rfl⟩) (de_op (de_fldP (de_var rfl)) (de_var rfl) d2_eqI)) rfl ⟨by simp, hbk5, hde5, hfr6⟩

def R__law_ended (c : Cs) (ds : List PyData) (o : Out) : Prop := ∃ (b : Bk) (dealt dropped : List Int), ds = [b.data c, wsD b.came, intsD dealt, intsD dropped] ∧ b.ok ∧ Stood b dealt dropped ∧ Money b ∧ o = .ret (.bool true)
-- slots of _law_ended: 0 _law_book 1 _law_came 2 _law_dealt 3 _law_dropped 4 _law_money 5 _law_k
def t__law_ended (K : PySem.W.Frag) (c : Cs) (E : XK) : TS :=
  (tSeq (tAsg (tC (.int 0)) (gName 4))
    (tSeq (tFor (iRng1 (tCons (tCB (rLenSq K) (tCons (tVar 1) tNil)) tNil)) (gName 5) (tSeq (tIfS (tOr (tTest (tOp rNe (tOp rAddI (tOp rAddI (tMeth c.Book "left" (spD K (R_Book_left c)) [] E0 (tVar 0) (tCons (tVar 5) tNil)) (tOp (rIxL K) (tVar 3) (tVar 5))) (tOp (rIxL K) (tVar 2) (tVar 5))) (tOp (rIxT K) (tOp (rIxL K) (tVar 1) (tVar 5)) (tC (.int 2))))) (tOr (tTest (tOp rLtI (tMeth c.Book "left" (spD K (R_Book_left c)) [] E0 (tVar 0) (tCons (tVar 5) tNil)) (tC (.int 0)))) (tTest (tOp rLtI (tMeth c.Book "paid" (spD K (R_Book_paid c)) [] E0 (tVar 0) (tCons (tVar 5) tNil)) (tC (.int 0)))))) (tRet (tC (.bl false))) tNext)
    (tIfS (tTest (tOp rEq (tOp (rIxT K) (tOp (rIxL K) (tVar 1) (tVar 5)) (tC (.int 0))) (tC (.str "buy")))) (tAsg (tOp rAddI (tVar 4) (tMeth c.Book "paid" (spD K (R_Book_paid c)) [] E0 (tVar 0) (tCons (tVar 5) tNil))) (gName 4)) (tAsg (tOp rSubI (tVar 4) (tMeth c.Book "paid" (spD K (R_Book_paid c)) [] E0 (tVar 0) (tCons (tVar 5) tNil))) (gName 4)))))
    (tRet (tOp rEq (tVar 4) (tC (.int 0))))))
theorem len__law_ended {c : Cs} : ∀ ds o, R__law_ended c ds o → ds.length = 4 := by
  intro ds o h
  grind (ematch := 14) (gen := 20) [R__law_ended]
theorem body__law_ended {K : PySem.W.Frag} {c : Cs} {E : XK} : ∀ ds o, R__law_ended c ds o → DS K E (t__law_ended K c E) (slots 6 ds) o.post := by
  rintro _ _ ⟨b, dealt, dropped, rfl, hk, S, M, rfl⟩
  unfold t__law_ended
  have hw : b.wf := hk.towf
  have h1 := S.l1
  have h2 := S.l2
  have h3 := hw.few
  apply VS.q_set (d := .int 0)
  · exact de_int
  · rfl
  apply VS.q_forR1 (n := (b.came.length : Int)) (W := fun k es => ∃ s5, es = [.val (b.data c), .val (wsD b.came), .val (intsD dealt), .val (intsD dropped), .val (.int (sumTo (signed b b.money) k)), s5])
  · exact da_cons (VS.de_to (de_cb (by walk_at "ev") dc_len) (by rw [List.length_map])) da_nil
  · omega
  · exact ⟨.no, rfl⟩
  · rintro k _ hk' ⟨s5, rfl⟩
    have hkl : k < b.came.length := by omega
    have g1 : dealt[k]? = some (pAt dealt k) := pAt_get (by omega)
    have g2 : dropped[k]? = some (pAt dropped k) := pAt_get (by omega)
    have hc := wAt_get hkl
    have e := S.eq k hkl
    have n1 := hk.low k hkl
    have n2 := M.nn k hkl
    have hs := sumTo_succ (signed b b.money) k
    show DS K E _ [.val (b.data c), .val (wsD b.came), .val (intsD dealt), .val (intsD dropped), .val (.int (sumTo (signed b b.money) k)), .val (.int (k : Int))] _
    have dl : ∀ {ds : List (Option PyData)}, ds[0]? = some (some (b.data c)) → ds[5]? = some (some (.int (k : Int))) → DE K (tMeth c.Book "left" (spD K (R_Book_left c)) [] E0 (tVar 0) (tCons (tVar 5) tNil)) ds (.int (pAt b.rest k)) := fun q0 q5 => de_meth bkNo_left (de_var q0) (da_cons (de_var q5) da_nil) ⟨b, _, rfl, hw, rfl, .inr ⟨k, rfl, hkl, rfl⟩⟩
    have dp : ∀ {ds : List (Option PyData)}, ds[0]? = some (some (b.data c)) → ds[5]? = some (some (.int (k : Int))) → DE K (tMeth c.Book "paid" (spD K (R_Book_paid c)) [] E0 (tVar 0) (tCons (tVar 5) tNil)) ds (.int (pAt b.money k)) := fun q0 q5 => de_meth bkNo_paid (de_var q0) (da_cons (de_var q5) da_nil) ⟨b, _, rfl, hw, rfl, .inr ⟨k, rfl, hkl, rfl⟩⟩
    have dw : ∀ {ds : List (Option PyData)}, ds[1]? = some (some (wsD b.came)) → ds[5]? = some (some (.int (k : Int))) → DE K (tOp (rIxL K) (tVar 1) (tVar 5)) ds (wishD (wAt b.came k)) := fun q0 q5 => de_op (de_var q0) (de_var q5) (VS.d2_ixL (atI_map hc))
    apply VS.q_guard
    · refine VS.dt_to (b := !decide (pAt b.rest k + pAt dropped k + pAt dealt k = (wAt b.came k).amount) || (decide (pAt b.rest k < 0) || decide (pAt b.money k < 0))) (dt_orU (dt_test (de_op (de_op (de_op (dl rfl rfl) (de_op (de_var rfl) (de_var rfl) (VS.d2_ixL (atI_map g2))) d2_add) (de_op (de_var rfl) (de_var rfl) (VS.d2_ixL (atI_map g1))) d2_add) (de_op (dw rfl rfl) de_int (VS.d2_ixT (d := .int (wAt b.came k).amount) rfl)) d2_neI)) (dt_orU (dt_test (de_op (dl rfl rfl) de_int d2_lt)) (dt_test (de_op (dp rfl rfl) de_int d2_lt)))) ?_
      unfold amtAt at e
      rw [decide_eq_true (show pAt b.rest k + pAt dropped k + pAt dealt k = (wAt b.came k).amount by omega), decide_eq_false (show ¬ pAt b.rest k < 0 by omega), decide_eq_false (show ¬ pAt b.money k < 0 by omega)]
      rfl
    apply VS.ds_if (b := decide (sideS (wAt b.came k).buy = "buy"))
    · exact dt_test (de_op (de_op (dw rfl rfl) de_int (VS.d2_ixT (d := .str (sideS (wAt b.came k).buy)) rfl)) de_str d2_eqS)
    · intro hz
      rw [sideS_buy] at hz
      apply VS.ds_set (d := .int (sumTo (signed b b.money) (k + 1)))
      · rw [hs, show signed b b.money k = pAt b.money k from if_pos hz]
        exact de_op (de_var rfl) (dp rfl rfl) d2_add
      · rfl
      · exact ⟨.val (.int (k : Int)), rfl⟩
    · intro hz
      rw [sideS_buy] at hz
      apply VS.ds_set (d := .int (sumTo (signed b b.money) (k + 1)))
      · rw [hs, show signed b b.money k = -pAt b.money k from if_neg (by rw [hz]; decide), ← Int.sub_eq_add_neg]
        exact de_op (de_var rfl) (dp rfl rfl) d2_sub
      · rfl
      · exact ⟨.val (.int (k : Int)), rfl⟩
  · rintro _ ⟨s5, rfl⟩
    rw [Int.toNat_natCast, M.zero]
    apply VS.ds_ret (d := .bool (decide ((0 : Int) = 0)))
    · exact de_op (de_var rfl) de_int d2_eqI
    · exact VS.post_ret rfl

--H book
def R_law (c : Cs) (ds : List PyData) (μ : Store) (W : Out → Store → Prop) : Prop := ∃ ns : List Int, ds = [scrD ns] ∧ W = (fun o _ => o = .ret (.bool true)) ∧ ns.length ≤ 63
theorem R_law_mk {c : Cs} {ns : List Int} {μ : Store} (hl : ns.length ≤ 63) (hb : ∀ z ∈ ns, Builtin.Int.intBits z ≤ 1048576) : R_law c [scrD ns] μ (fun o _ => o = .ret (.bool true)) := ⟨ns, rfl, rfl, hl⟩
theorem Bk.add_ok {b : Bk} {w : Wish} (h : b.ok) (hg : w.good) (hl : b.came.length < 5000) : (b.add w).ok ∧ ∀ k, k < b.came.length → pAt (b.add w).rest k = pAt b.rest k := by
  have h1 := h.rest
  have h2 := h.money
  have pa : ∀ {ps : List Int} {i : Int} {k : Nat}, k < ps.length → pAt (ps ++ [i]) k = pAt ps k := fun {ps i k} h => by
    unfold pAt
    rw [List.getD_eq_getElem?_getD, List.getD_eq_getElem?_getD, List.getElem?_append_left h]
  have pl : ∀ {ps : List Int} {i : Int}, pAt (ps ++ [i]) ps.length = i := fun {ps i} => by
    unfold pAt
    rw [List.getD_eq_getElem?_getD, List.getElem?_append_right (Nat.le_refl _), Nat.sub_self]
    rfl
  have wa : ∀ {k : Nat}, k < b.came.length → wAt (b.came ++ [w]) k = wAt b.came k := fun {k} h => by
    unfold wAt
    rw [List.getD_eq_getElem?_getD, List.getD_eq_getElem?_getD, List.getElem?_append_left h]
  have wl : wAt (b.came ++ [w]) b.came.length = w := by
    unfold wAt
    rw [List.getD_eq_getElem?_getD, List.getElem?_append_right (Nat.le_refl _), Nat.sub_self]
    rfl
  refine ⟨⟨⟨?_, ?_, ?_⟩, ?_, ?_, ?_, h.p0, h.p1⟩, fun k hk => pa (by omega)⟩
  · show (b.rest ++ [w.amount]).length = (b.came ++ [w]).length
    rw [List.length_append, List.length_append, h1]
    rfl
  · show (b.money ++ [0]).length = (b.came ++ [w]).length
    rw [List.length_append, List.length_append, h2]
    rfl
  · show (b.came ++ [w]).length ≤ 5000
    rw [List.length_append]
    show b.came.length + 1 ≤ 5000
    omega
  · intro v hv
    rcases List.mem_append.mp hv with z | z
    · exact h.good v z
    · rw [List.mem_singleton.mp z]
      exact hg
  · intro k hk
    show 0 ≤ pAt (b.rest ++ [w.amount]) k
    have hk : k < (b.came ++ [w]).length := hk
    rw [List.length_append] at hk
    by_cases z : k < b.came.length
    · rw [pa (by omega)]
      exact h.low k z
    · have e : k = b.rest.length := by
        have : k < b.came.length + 1 := hk
        omega
      rw [e, pl]
      have := hg.2.2.1
      omega
  · intro k hk
    show pAt (b.rest ++ [w.amount]) k ≤ (wAt (b.came ++ [w]) k).amount
    have hk : k < (b.came ++ [w]).length := hk
    rw [List.length_append] at hk
    by_cases z : k < b.came.length
    · rw [pa (by omega), wa z]
      exact h.most k z
    · have e : k = b.rest.length := by
        have : k < b.came.length + 1 := hk
        omega
      rw [e, pl, h1, wl]
      exact Int.le_refl _
theorem pAt_app {ps : List Int} {i : Int} {k : Nat} (h : k < ps.length) : pAt (ps ++ [i]) k = pAt ps k := by
  unfold pAt
  rw [List.getD_eq_getElem?_getD, List.getD_eq_getElem?_getD, List.getElem?_append_left h]
theorem pAt_last {ps : List Int} {i : Int} : pAt (ps ++ [i]) ps.length = i := by
  unfold pAt
  rw [List.getD_eq_getElem?_getD, List.getElem?_append_right (Nat.le_refl _), Nat.sub_self]
  rfl
theorem wAt_app {ws : List Wish} {w : Wish} {k : Nat} (h : k < ws.length) : wAt (ws ++ [w]) k = wAt ws k := by
  unfold wAt
  rw [List.getD_eq_getElem?_getD, List.getD_eq_getElem?_getD, List.getElem?_append_left h]
theorem wAt_last {ws : List Wish} {w : Wish} : wAt (ws ++ [w]) ws.length = w := by
  unfold wAt
  rw [List.getD_eq_getElem?_getD, List.getElem?_append_right (Nat.le_refl _), Nat.sub_self]
  rfl
theorem stood_add {b : Bk} {w : Wish} {dealt dropped : List Int} (h : b.wf) (S : Stood b dealt dropped) : Stood (b.add w) (dealt ++ [0]) (dropped ++ [0]) := by
  have h1 := h.rest
  have l1 := S.l1
  have l2 := S.l2
  refine ⟨?_, ?_, fun k hk => ?_⟩
  · show (dealt ++ [0]).length = (b.came ++ [w]).length
    rw [List.length_append, List.length_append, l1]
    rfl
  · show (dropped ++ [0]).length = (b.came ++ [w]).length
    rw [List.length_append, List.length_append, l2]
    rfl
  · show (wAt (b.came ++ [w]) k).amount - pAt (dealt ++ [0]) k - pAt (dropped ++ [0]) k = pAt (b.rest ++ [w.amount]) k
    have hk : k < (b.came ++ [w]).length := hk
    rw [List.length_append] at hk
    by_cases z : k < b.came.length
    · rw [wAt_app z, pAt_app (by omega), pAt_app (by omega), pAt_app (by omega)]
      exact S.eq k z
    · have e : k = b.came.length := by
        have : k < b.came.length + 1 := hk
        omega
      have e1 : pAt (dealt ++ [0]) k = 0 := by rw [e, ← l1]; exact pAt_last
      have e2 : pAt (dropped ++ [0]) k = 0 := by rw [e, ← l2]; exact pAt_last
      have e3 : pAt (b.rest ++ [w.amount]) k = w.amount := by rw [e, ← h1]; exact pAt_last
      rw [e1, e2, e3, e, wAt_last]
      omega
theorem money_add {b : Bk} {w : Wish} (h : b.wf) (M : Money b) : Money (b.add w) := by
  have h2 := h.money
  have last : pAt (b.money ++ [0]) b.came.length = 0 := by rw [← h2]; exact pAt_last
  refine ⟨fun k hk => ?_, ?_⟩
  · show 0 ≤ pAt (b.money ++ [0]) k
    have hk : k < (b.came ++ [w]).length := hk
    rw [List.length_append] at hk
    by_cases z : k < b.came.length
    · rw [pAt_app (by omega)]
      exact M.nn k z
    · have e : k = b.came.length := by
        have : k < b.came.length + 1 := hk
        omega
      rw [e, last]
      exact Int.le_refl 0
  · have el : (b.add w).came.length = b.came.length + 1 := by
      show (b.came ++ [w]).length = _
      rw [List.length_append]
      rfl
    rw [el, sumTo_succ, sumTo_congr (g := signed b b.money) (fun j hj => by
      unfold signed
      show (if (wAt (b.came ++ [w]) j).buy = true then pAt (b.money ++ [0]) j else -pAt (b.money ++ [0]) j) = _
      rw [wAt_app hj, pAt_app (by omega)]), M.zero]
    unfold signed
    show 0 + (if (wAt (b.came ++ [w]) b.came.length).buy = true then pAt (b.money ++ [0]) b.came.length else -pAt (b.money ++ [0]) b.came.length) = 0
    rw [last]
    split <;> rfl
theorem Bk.drop_ok {b : Bk} {n : Nat} (h : b.ok) (hn : n < b.came.length) : (b.drop n).ok := by
  have h1 := h.rest
  refine ⟨⟨?_, h.money, h.few⟩, h.good, ?_, ?_, h.p0, h.p1⟩
  · show (b.rest.set n 0).length = b.came.length
    rw [List.length_set]
    exact h1
  · intro k hk
    show 0 ≤ pAt (b.rest.set n 0) k
    rw [pAt_set (by omega)]
    split
    · omega
    · exact h.low k hk
  · intro k hk
    show pAt (b.rest.set n 0) k ≤ amtAt b.came k
    rw [pAt_set (by omega)]
    split
    · have h2 : 1 ≤ amtAt b.came k := (h.good _ (wAt_mem hk)).2.2.1
      omega
    · exact h.most k hk
theorem stood_drop {b : Bk} {n : Nat} {dealt dropped : List Int} (h : b.wf) (hn : n < b.came.length) (S : Stood b dealt dropped) : Stood (b.drop n) dealt (dropped.set n (pAt dropped n + pAt b.rest n)) := by
  have h1 := h.rest
  have l2 := S.l2
  refine ⟨S.l1, by rw [List.length_set]; exact l2, fun k hk => ?_⟩
  show amtAt b.came k - pAt dealt k - pAt (dropped.set n (pAt dropped n + pAt b.rest n)) k = pAt (b.rest.set n 0) k
  rw [pAt_set (by omega), pAt_set (by omega)]
  by_cases z : k = n
  · subst z
    rw [if_pos rfl, if_pos rfl]
    have := S.eq k hn
    omega
  · rw [if_neg z, if_neg z]
    exact S.eq k hk
/-- all that stands behind n deeds -/
structure St (c : Cs) (μ : Store) (a ca de dr : Addr) (b : Bk) (dealt dropped : List Int) (n : Nat) : Prop where
  book : ∃ g, μ a = some (b.cell c g)
  came : μ ca = some (.lst (b.came.map wishD))
  deal : μ de = some (.lst (dealt.map PyData.int))
  drop : μ dr = some (.lst (dropped.map PyData.int))
  ok : b.ok
  stood : Stood b dealt dropped
  money : Money b
  few : b.came.length ≤ n
-- slots of law: 0 _law_script 1 _law_book 2 _law_cells 3 _law_cell 4 _law_many 5 _law_size 6 _law_k 7 _law_came 8 _law_dealt 9 _law_dropped 10 _law_stood_here 11 _law_number
def t_law (K : PySem.W.Frag) (c : Cs) (E : XK) : TS :=
  (tSeq (tAsg (tMake c.Book (spI K c.Book (R_checked_price c)) [] E0 (tCons (tOp rModI (tCall (spD K (R__law_cell_at c)) [] E0 (tCons (tVar 0) (tCons (tC (.int 1)) tNil))) (tC (.int 1000000001))) tNil)) (gName 1))
    (tSeq (tIfS (tTest (tOp rEq (tOp rModI (tCall (spD K (R__law_cell_at c)) [] E0 (tCons (tVar 0) (tCons (tC (.int 0)) tNil))) (tC (.int 2))) (tC (.int 1)))) (tAsg (tMake c.Book (spI K c.Book (R_checked_price c)) [] E0 (tCons (tOp rAddI (tC (.int 18)) (tOp rModI (tCall (spD K (R__law_cell_at c)) [] E0 (tCons (tVar 0) (tCons (tC (.int 1)) tNil))) (tC (.int 13)))) tNil)) (gName 1)) tNext)
    (tSeq (tAsg (tLc (iList K (tSl (rSlL K) (tVar 0) (tPart (tC (.int 3))) (tPart (tC (.int 13))))) (gName 3) tYes (tOp rMulI (tC (.int 6)) (tVar 3)) [3]) (gName 2))
    (tSeq (tAsg (tC (.int 40)) (gName 4))
    (tSeq (tIfS (tTest (tOp rGtI (tCB (rLenSq K) (tCons (tVar 0) tNil)) (tC (.int 63)))) (tAsg (tC (.int 100)) (gName 4)) tNext)
    (tSeq (tAsg (tC (.int 0)) (gName 5))
    (tSeq (tIfS (tTest (tOp rEq (tOp rModI (tOp rDivI (tCall (spD K (R__law_cell_at c)) [] E0 (tCons (tVar 0) (tCons (tC (.int 0)) tNil))) (tC (.int 2))) (tC (.int 6))) (tC (.int 1)))) (tAsg (tOp rAddI (tC (.int 10)) (tOp rModI (tCall (spD K (R__law_cell_at c)) [] E0 (tCons (tVar 0) (tCons (tC (.int 2)) tNil))) (tC (.int 30)))) (gName 5)) tNext)
    (tSeq (tIfS (tTest (tOp rEq (tOp rModI (tOp rDivI (tCall (spD K (R__law_cell_at c)) [] E0 (tCons (tVar 0) (tCons (tC (.int 0)) tNil))) (tC (.int 2))) (tC (.int 12))) (tC (.int 2)))) (tSeq (tAsg (tOp rAddI (tC (.int 160)) (tOp rModI (tCall (spD K (R__law_cell_at c)) [] E0 (tCons (tVar 0) (tCons (tC (.int 2)) tNil))) (tC (.int 20)))) (gName 5))
    (tAsg (tC (.int 8)) (gName 4))) tNext)
    (tSeq (tFor (iRng1 (tCons (tVar 5) tNil)) (gName 6) (tDrop (tBM K "list" rAppend (tVar 2) (tCons (tOp rMulI (tC (.int 6)) (tOp rAddI (tCall (spD K (R__law_cell_at c)) [] E0 (tCons (tVar 0) (tCons (tC (.int 2)) tNil))) (tOp rMulI (tC (.int 8191)) (tVar 6)))) tNil))))
    (tSeq (tAsg (tLst tNil) (gName 7))
    (tSeq (tAsg (tLst tNil) (gName 8))
    (tSeq (tAsg (tLst tNil) (gName 9))
    (tSeq (tFor (iList K (tOp rCat (tOp rCat (tVar 2) (tSl (rSlL K) (tVar 0) (tPart (tC (.int 13))) (tPart (tOp rAddI (tC (.int 13)) (tVar 4))))) (tLst (tCons (tC (.int 5)) tNil)))) (gName 3) (tIfS (tTest (tOp rLtI (tOp rModI (tVar 3) (tC (.int 6))) (tC (.int 4)))) (tSeq (tDrop (tBM K "list" rAppend (tVar 7) (tCons (tCall (spD K (R__law_wish_by c)) [] E0 (tCons (tOp rDivI (tVar 3) (tC (.int 6))) tNil)) tNil)))
    (tSeq (tDrop (tBM K "list" rAppend (tVar 8) (tCons (tC (.int 0)) tNil)))
    (tSeq (tDrop (tBM K "list" rAppend (tVar 9) (tCons (tC (.int 0)) tNil)))
    (tIfS (tTest (tOp rNe (tMeth c.Book "add" (spM K (R_Book_add c)) [] E0 (tVar 1) (tCons (tOp (rIxL K) (tVar 7) (tOp rSubI (tCB (rLenSq K) (tCons (tVar 7) tNil)) (tC (.int 1)))) tNil)) (tOp rSubI (tCB (rLenSq K) (tCons (tVar 7) tNil)) (tC (.int 1))))) (tRet (tC (.bl false))) tNext)))) (tIfS (tTest (tOp rEq (tOp rModI (tVar 3) (tC (.int 6))) (tC (.int 4)))) (tSeq (tAsg (tMeth c.Book "standing" (spD K (R_Book_standing c)) [] E0 (tVar 1) tNil) (gName 10))
    (tIfS (tTest (tOp rGtI (tCB (rLenSq K) (tCons (tVar 10) tNil)) (tC (.int 0)))) (tSeq (tAsg (tOp (rIxT K) (tOp (rIxL K) (tVar 10) (tOp rModI (tOp rDivI (tVar 3) (tC (.int 6))) (tCB (rLenSq K) (tCons (tVar 10) tNil)))) (tC (.int 0))) (gName 11))
    (tAsg (tOp rAddI (tOp (rIxL K) (tVar 9) (tVar 11)) (tMeth c.Book "drop" (spM K (R_Book_drop c)) [] E0 (tVar 1) (tCons (tVar 11) tNil))) (gSub (tVar 9) (tVar 11) rSetL))) tNext)) (tIfS (tNot (tB (tCall (spM K (R__law_ring c)) [] E0 (tCons (tVar 1) (tCons (tVar 7) (tCons (tVar 8) (tCons (tVar 9) tNil))))))) (tRet (tC (.bl false))) tNext))))
    (tRet (tCall (spD K (R__law_ended c)) [] E0 (tCons (tVar 1) (tCons (tVar 7) (tCons (tVar 8) (tCons (tVar 9) tNil)))))))))))))))))))
theorem len_law {c : Cs} : ∀ ds μ W, R_law c ds μ W → ds.length = 1 := by
  intro ds μ W h
  grind (ematch := 14) (gen := 20) [R_law]
theorem body_law {K : PySem.W.Frag} {c : Cs} {E : XK} (bk : BkOk K c.Book) : ∀ ds μ W, R_law c ds μ W → DM K E (t_law K c E) (slots 12 ds) μ (postM W) := by
  rintro _ μ _ ⟨ns, rfl, rfl, hl⟩
  show DM K E _ [.val (scrD ns), .no, .no, .no, .no, .no, .no, .no, .no, .no, .no, .no] μ _
  -- the book
  refine dm_seq (dm_asg (me_make bk ?_))
  refine ma_cons (me_de (d := .int (cellAt ns 1 % 1000000001)) (by walk_at "ev") ?_)
  refine ma_nil ⟨_, _, rfl, checked_price_int (by omega), fun a0 dx0 l10 l20 l30 n0 => ?_⟩
  show DM K E _ [.val (scrD ns), .val (rawD a0), .no, .no, .no, .no, .no, .no, .no, .no, .no, .no] _ _
  refine dm_seq (dm_post (P' := { nx := fun es' μ' => ∃ a g p, es' = [.val (scrD ns), .val (rawD a), .no, .no, .no, .no, .no, .no, .no, .no, .no, .no] ∧ μ' a = some (Bk.cell ⟨p, [], [], []⟩ c g) ∧ 0 ≤ p ∧ p ≤ 1000000000 }) ?_ ?_ (fun _ _ z => z.elim) (fun _ _ z => z.elim) (fun _ _ z => z.elim) (fun _ _ z => z.elim) (fun _ _ z => z.elim))
  · refine dm_if (mt_v Vw.see (b := decide (cellAt ns 0 % 2 = 1)) (by walk_at "ev") ⟨fun hz => ?_, fun hz => dm_next ⟨a0, ⟨dx0, l10, l20, l30⟩, _, rfl, mset_at, by omega, by omega⟩⟩)
    refine dm_asg (me_make bk ?_)
    refine ma_cons (me_de (d := .int (18 + cellAt ns 1 % 13)) (by walk_at "ev") ?_)
    exact ma_nil ⟨_, _, rfl, checked_price_int (by omega), fun a1 dx1 l11 l21 l31 n1 => ⟨a1, ⟨dx1, l11, l21, l31⟩, _, rfl, mset_at, by omega, by omega⟩⟩
  rintro _ μ1 ⟨a, g, p, rfl, hbk, p0, p1⟩
  -- the cells
  have hcl : (cut ns (some 3) (some 13)).length ≤ 10 := by
    unfold cut
    rw [List.length_take]
    have e1 : HT.sIx ns.length 0 (some 3) = min 3 ns.length := HT.sIx_nat _ _ 3
    have e2 : HT.sIx ns.length ns.length (some 13) = min 13 ns.length := HT.sIx_nat _ _ 13
    rw [e1, e2]
    omega
  refine dm_seq (dm_new (mn_dn (xs := ((cut ns (some 3) (some 13)).map fun i => 6 * i).map PyData.int) ?_ ?_))
  · have q := VS.dn_lcL (K := K) (ds := frz [.val (scrD ns), .val (rawD a), .no, .no, .no, .no, .no, .no, .no, .no, .no, .no]) (te := tOp rMulI (tC (.int 6)) (tVar 3)) (tl := tSl (rSlL K) (tVar 0) (tPart (tC (.int 3))) (tPart (tC (.int 13)))) (t := tYes) (j := 3) (xs := (cut ns (some 3) (some 13)).map PyData.int) (fun _ => true) (fun d => match d with | .int i => .int (6 * i) | _ => .none) (de_new (dn_slC (VS.de_var rfl) (do_some de_int) (do_some de_int))) (by rw [List.length_map]; omega) (fun x _ => VS.dt_yes) (fun x hx _ => by
      obtain ⟨i, _, rfl⟩ := List.mem_map.mp hx
      exact de_op de_int (de_var rfl) (d2_mulL (by decide) (by decide)))
    rw [VS.lcOf_all, List.map_map] at q
    rw [List.map_map]
    exact q
  have hcl2 : ((cut ns (some 3) (some 13)).map fun i => 6 * i).length ≤ 10 := by
    rw [List.length_map]
    exact hcl
  generalize (cut ns (some 3) (some 13)).map (fun i => 6 * i) = cells at hcl2
  show DM K E _ [.val (scrD ns), .val (rawD a), .own (cells.map PyData.int), .no, .no, .no, .no, .no, .no, .no, .no, .no] μ1 _
  -- how many
  refine dm_seq (dm_asg (me_de (d := .int 40) de_int ?_))
  refine dm_seq (dm_post (P' := { nx := fun es' μ' => μ' = μ1 ∧ ∃ m : Int, es' = [.val (scrD ns), .val (rawD a), .own (cells.map PyData.int), .no, .val (.int m), .no, .no, .no, .no, .no, .no, .no] }) ?_ ?_ (fun _ _ z => z.elim) (fun _ _ z => z.elim) (fun _ _ z => z.elim) (fun _ _ z => z.elim) (fun _ _ z => z.elim))
  · exact dm_if (mt_v Vw.see (b := decide (63 < (ns.length : Int))) (by walk_at "ev") ⟨fun hz => dm_asg (me_de (d := .int 100) de_int ⟨rfl, 100, rfl⟩), fun hz => dm_next ⟨rfl, 40, rfl⟩⟩)
  rintro _ μ0 ⟨e0, m, rfl⟩
  have e0 := e0.symm
  subst e0
  refine dm_seq (dm_asg (me_de (d := .int 0) de_int ?_))
  show DM K E _ [.val (scrD ns), .val (rawD a), .own (cells.map PyData.int), .no, .val (.int m), .val (.int 0), .no, .no, .no, .no, .no, .no] μ1 _
  refine dm_seq (dm_post (P' := { nx := fun es' μ' => μ' = μ1 ∧ ∃ z : Int, es' = [.val (scrD ns), .val (rawD a), .own (cells.map PyData.int), .no, .val (.int m), .val (.int z), .no, .no, .no, .no, .no, .no] ∧ 0 ≤ z ∧ z ≤ 200 }) ?_ ?_ (fun _ _ z => z.elim) (fun _ _ z => z.elim) (fun _ _ z => z.elim) (fun _ _ z => z.elim) (fun _ _ z => z.elim))
  · exact dm_if (mt_v Vw.see (b := decide (cellAt ns 0 / 2 % 6 = 1)) (by walk_at "ev") ⟨fun hz => dm_asg (me_de (d := .int (10 + cellAt ns 2 % 30)) (by walk_at "ev") ⟨rfl, _, rfl, by omega, by omega⟩), fun hz => dm_next ⟨rfl, 0, rfl, by omega, by omega⟩⟩)
  rintro _ μ0 ⟨e0, z, rfl, z0, z1⟩
  have e0 := e0.symm
  subst e0
  refine dm_seq (dm_post (P' := { nx := fun es' μ' => μ' = μ1 ∧ ∃ m z : Int, es' = [.val (scrD ns), .val (rawD a), .own (cells.map PyData.int), .no, .val (.int m), .val (.int z), .no, .no, .no, .no, .no, .no] ∧ 0 ≤ z ∧ z ≤ 200 }) ?_ ?_ (fun _ _ z => z.elim) (fun _ _ z => z.elim) (fun _ _ z => z.elim) (fun _ _ z => z.elim) (fun _ _ z => z.elim))
  · refine dm_if (mt_v Vw.see (b := decide (cellAt ns 0 / 2 % 12 = 2)) (by walk_at "ev") ⟨fun hz => ?_, fun hz => dm_next ⟨rfl, m, z, rfl, z0, z1⟩⟩)
    exact dm_seq (dm_asg (me_de (d := .int (160 + cellAt ns 2 % 20)) (by walk_at "ev") (dm_asg (me_de (d := .int 8) de_int ⟨rfl, 8, _, rfl, by omega, by omega⟩))))
  clear z0 z1
  rintro _ μ0 ⟨e0, m, z, rfl, z0, z1⟩
  have e0 := e0.symm
  subst e0
  -- more cells
  refine dm_seq (dm_forR1 (n := z) (W := fun k es μ' => μ' = μ1 ∧ ∃ (xs : List Int) (s6 : Slot), es = [.val (scrD ns), .val (rawD a), .own (xs.map PyData.int), .no, .val (.int m), .val (.int z), s6, .no, .no, .no, .no, .no] ∧ xs.length ≤ 10 + k) (ma_de (xs := [.int z]) (by walk_at "ev") ⟨rfl, rfl, cells, .no, rfl, by omega⟩) (by omega) ?_ ?_)
  · rintro k _ μ0 hk ⟨e0, xs, s6, rfl, hx⟩
    have e0 := e0.symm
    subst e0
    refine dm_appO (i := 2) (xs := xs.map PyData.int) rfl (by rw [List.length_map]; omega) (me_de (d := .int (6 * (cellAt ns 2 + 8191 * (k : Int)))) (by walk_at "ev") ⟨rfl, xs ++ [6 * (cellAt ns 2 + 8191 * (k : Int))], .val (.int (k : Int)), ?_, ?_⟩)
    · rw [List.map_append]
      rfl
    · rw [List.length_append]
      show xs.length + 1 ≤ _
      omega
  clear hcl2
  rintro _ μ0 ⟨e0, cells, s6, rfl, hcl2⟩
  have e0 := e0.symm
  subst e0
  -- came, dealt, dropped
  refine dm_seq (dm_new (mn_dn (xs := []) (by walk_at "ev") ?_))
  refine dm_cell 7 (xs := []) rfl fun ca nca => ?_
  refine dm_seq (dm_new (mn_dn (xs := []) (by walk_at "ev") ?_))
  refine dm_cell 8 (xs := []) rfl fun de nde => ?_
  refine dm_seq (dm_new (mn_dn (xs := []) (by walk_at "ev") ?_))
  refine dm_cell 9 (xs := []) rfl fun dr ndr => ?_
  show DM K E _ [.val (scrD ns), .val (rawD a), .own (cells.map PyData.int), .no, .val (.int m), .val (.int z), s6, .val (rawD ca), .val (rawD de), .val (rawD dr), .no, .no] _ _
  have aca : a ≠ ca := fun e => by rw [e, nca] at hbk; cases hbk
  have cade : ca ≠ de := fun e => by rw [← e, mset_at] at nde; cases nde
  have ade : a ≠ de := fun e => by rw [← e, mset_ne aca, hbk] at nde; cases nde
  have cadr : ca ≠ dr := fun e => by rw [← e, mset_ne cade, mset_at] at ndr; cases ndr
  have dedr : de ≠ dr := fun e => by rw [← e, mset_at] at ndr; cases ndr
  have adr : a ≠ dr := fun e => by rw [← e, mset_ne ade, mset_ne aca, hbk] at ndr; cases ndr
  have S0 : St c (mset (mset (mset μ1 ca (.lst [])) de (.lst [])) dr (.lst [])) a ca de dr ⟨p, [], [], []⟩ [] [] 0 := by
    refine ⟨⟨g, ?_⟩, ?_, ?_, mset_at, ⟨⟨rfl, rfl, by show 0 ≤ 5000; decide⟩, (fun w hw => by cases hw), (fun k hk => absurd hk (Nat.not_lt_zero k)), (fun k hk => absurd hk (Nat.not_lt_zero k)), p0, p1⟩, ⟨rfl, rfl, fun k hk => absurd hk (Nat.not_lt_zero k)⟩, ⟨fun k hk => absurd hk (Nat.not_lt_zero k), rfl⟩, Nat.le_refl 0⟩
    · rw [mset_ne adr, mset_ne ade, mset_ne aca]
      exact hbk
    · rw [mset_ne cadr, mset_ne cade]
      exact mset_at
    · rw [mset_ne dedr]
      exact mset_at
  generalize mset (mset (mset μ1 ca (.lst [])) de (.lst [])) dr (.lst []) = μ2 at S0
  have hcut : (cut ns (some 13) (some (13 + m))).length ≤ 63 := Nat.le_trans (cut_len _ _ _) hl
  refine dm_seq (dm_for (xs := (cells ++ cut ns (some 13) (some (13 + m)) ++ [5]).map PyData.int) (W := fun k es μ' => ∃ b dealt dropped s3 s10 s11, es = [.val (scrD ns), .val (rawD a), .own (cells.map PyData.int), s3, .val (.int m), .val (.int z), s6, .val (rawD ca), .val (rawD de), .val (rawD dr), s10, s11] ∧ St c μ' a ca de dr b dealt dropped k) ?_ ?_ ?_)
  · refine me_new (mn_v Vw.see (xs := (cells ++ cut ns (some 13) (some (13 + m)) ++ [5]).map PyData.int) ?_ (noLDs_ints _) ⟨rfl, _, [], [], .no, .no, .no, rfl, S0⟩)
    rw [List.map_append, List.map_append]
    refine dn_op (de_op (de_var rfl) (de_new (dn_slC (de_var rfl) (do_some de_int) (do_some (by walk_at "ev")))) (d2_cat (by rw [List.length_map, List.length_map]; omega))) (de_lst (xs := [.int 5]) (by walk_at "ev") (by show 1 ≤ 100000; decide)) (d2n_cat (by rw [List.length_append, List.length_map, List.length_map]; show _ + 1 ≤ 100000; omega))
  · rintro k x _ μ' hx ⟨b, dealt, dropped, s3, s10, s11, rfl, S⟩
    obtain ⟨cell, hc, rfl⟩ := map_at hx
    have hk : k < 300 := by
      have q := (List.getElem?_eq_some_iff.mp hc).1
      rw [List.length_append, List.length_append] at q
      have q : k < cells.length + (cut ns (some 13) (some (13 + m))).length + 1 := q
      omega
    have hfew := S.few
    have hok := S.ok
    have hw := hok.towf
    obtain ⟨g, hb⟩ := S.book
    have hcm := S.came
    have hde := S.deal
    have hdr := S.drop
    have h1 := hw.rest
    show DM K E _ [.val (scrD ns), .val (rawD a), .own (cells.map PyData.int), .val (.int cell), .val (.int m), .val (.int z), s6, .val (rawD ca), .val (rawD de), .val (rawD dr), s10, s11] μ' _
    refine dm_if (mt_v Vw.see (b := decide (cell % 6 < 4)) (by walk_at "ev") ⟨fun hz => ?_, fun hz => ?_⟩)
    · -- a wish comes
      have hg := wishBy_good (cell / 6)
      refine dm_seq (dm_capp (me_de (de_var rfl) ⟨ca, ca, _, _, _, rfl, hcm, inC_lst, me_de (d := wishD (wishBy (cell / 6))) (de_call (xs := [.int (cell / 6)]) (by walk_at "ev") ⟨_, rfl, rfl⟩) ⟨ca, _, _, _, hcm, inC_lst, by rw [List.length_map]; omega, ?_⟩⟩))
      generalize wishBy (cell / 6) = w at hg
      refine dm_seq (dm_capp (me_de (de_var rfl) ⟨de, de, _, _, _, rfl, (mset_ne cade.symm).trans hde, inC_lst, me_de (d := .int 0) de_int ⟨de, _, _, _, (mset_ne cade.symm).trans hde, inC_lst, by rw [List.length_map]; have := S.stood.l1; omega, ?_⟩⟩))
      have hdr2 : ∀ {x y : Cell}, mset (mset μ' ca x) de y dr = some (.lst (dropped.map PyData.int)) := fun {x y} => by rw [mset_ne dedr.symm, mset_ne cadr.symm]; exact hdr
      refine dm_seq (dm_capp (me_de (de_var rfl) ⟨dr, dr, _, _, _, rfl, hdr2, inC_lst, me_de (d := .int 0) de_int ⟨dr, _, _, _, hdr2, inC_lst, by rw [List.length_map]; have := S.stood.l2; omega, ?_⟩⟩))
      have c3 : mset (mset (mset μ' ca (.lst (b.came.map wishD ++ [wishD w]))) de (.lst (dealt.map PyData.int ++ [.int 0]))) dr (.lst (dropped.map PyData.int ++ [.int 0])) ca = some (.lst (b.came.map wishD ++ [wishD w])) := by
        rw [mset_ne cadr, mset_ne cade]
        exact mset_at
      have d3 : mset (mset (mset μ' ca (.lst (b.came.map wishD ++ [wishD w]))) de (.lst (dealt.map PyData.int ++ [.int 0]))) dr (.lst (dropped.map PyData.int ++ [.int 0])) de = some (.lst (dealt.map PyData.int ++ [.int 0])) := by
        rw [mset_ne dedr]
        exact mset_at
      have r3 : mset (mset (mset μ' ca (.lst (b.came.map wishD ++ [wishD w]))) de (.lst (dealt.map PyData.int ++ [.int 0]))) dr (.lst (dropped.map PyData.int ++ [.int 0])) dr = some (.lst (dropped.map PyData.int ++ [.int 0])) := mset_at
      have b3 : mset (mset (mset μ' ca (.lst (b.came.map wishD ++ [wishD w]))) de (.lst (dealt.map PyData.int ++ [.int 0]))) dr (.lst (dropped.map PyData.int ++ [.int 0])) a = some (b.cell c g) := by
        rw [mset_ne adr, mset_ne ade, mset_ne aca]
        exact hb
      show DM K E _ _ (mset (mset (mset μ' ca (.lst (b.came.map wishD ++ [wishD w]))) de (.lst (dealt.map PyData.int ++ [.int 0]))) dr (.lst (dropped.map PyData.int ++ [.int 0]))) _
      generalize mset (mset (mset μ' ca (.lst (b.came.map wishD ++ [wishD w]))) de (.lst (dealt.map PyData.int ++ [.int 0]))) dr (.lst (dropped.map PyData.int ++ [.int 0])) = μ3 at c3 d3 r3 b3
      have hlen : ((b.came.map wishD ++ [wishD w]).length : Int) - 1 = (b.came.length : Int) := by
        rw [List.length_append, List.length_map]
        simp
      have hat : (b.came.map wishD ++ [wishD w])[b.came.length]? = some (wishD w) := by
        rw [List.getElem?_append_right (by rw [List.length_map]; exact Nat.le_refl _), List.length_map, Nat.sub_self]
        rfl
      have V : ∀ {μ : Store}, μ ca = some (.lst (b.came.map wishD ++ [wishD w])) → Vw μ [.val (scrD ns), .val (rawD a), .own (cells.map PyData.int), .val (.int cell), .val (.int m), .val (.int z), s6, .val (rawD ca), .val (rawD de), .val (rawD dr), s10, s11] [none, none, none, none, none, none, none, some (.list (b.came.map wishD ++ [wishD w])), none, none, none, none] := fun h => by walk_at "vw"
      have dlen : DE K (tOp rSubI (tCB (rLenSq K) (tCons (tVar 7) tNil)) (tC (.int 1))) [none, none, none, none, none, none, none, some (.list (b.came.map wishD ++ [wishD w])), none, none, none, none] (.int (b.came.length : Int)) := VS.de_to (d := .int (((b.came.map wishD ++ [wishD w]).length : Int) - 1)) (de_op (de_cb (da_cons (de_var rfl) da_nil) dc_len) de_int d2_sub) (by rw [hlen])
      refine dm_if (mt_test (me_op (me_meth bkNo_add (me_de (de_var rfl) ⟨a, _, _, _, _, _, _, _, _, rfl, b3, ma_cons (me_v (V c3) (d := wishD w) (de_op (de_var rfl) dlen (VS.d2_ixL (atI_nat hat))) (noLD_wish w) (ma_nil ⟨_, ⟨a, g, b, wishD w, rfl, b3, hw, plainT_wish w, .inr ⟨w, rfl, hg, rfl⟩⟩, ?_⟩))⟩))))
      rintro o μ4 ⟨rfl, rfl⟩
      refine ⟨_, .inl ⟨rfl, ?_⟩⟩
      have c4 : mset μ3 a ((b.add w).cell c g) ca = some (.lst (b.came.map wishD ++ [wishD w])) := (mset_ne aca.symm).trans c3
      refine me_v (V c4) dlen rfl ⟨.bool (!decide ((b.came.length : Int) = (b.came.length : Int))), d2_neI, _, rfl, fun z => ?_, fun _ => dm_next ?_⟩
      · simp at z
      obtain ⟨okA, _⟩ := Bk.add_ok hok hg (by omega)
      refine ⟨b.add w, dealt ++ [0], dropped ++ [0], .val (.int cell), s10, s11, rfl, ⟨g, mset_at⟩, ?_, ?_, ?_, okA, stood_add hw S.stood, money_add hw S.money, ?_⟩
      · rw [c4]
        show _ = some (Cell.lst ((b.came ++ [w]).map wishD))
        rw [List.map_append]
        rfl
      · rw [mset_ne ade.symm, d3, List.map_append]
        rfl
      · rw [mset_ne adr.symm, r3, List.map_append]
        rfl
      · show (b.came ++ [w]).length ≤ k + 1
        rw [List.length_append]
        show b.came.length + 1 ≤ k + 1
        omega
    refine dm_if (mt_v Vw.see (b := decide (cell % 6 = 4)) (by walk_at "ev") ⟨fun hz => ?_, fun hz => ?_⟩)
    · -- one is dropped
      refine dm_seq (dm_new (mn_v (ds := [none, some (b.data c), none, none, none, none, none, none, none, none, none, none]) (by walk_at "vw") (xs := b.rows.map rowD) (dn_meth bkNo_standing (de_var rfl) da_nil ⟨b, rfl, hw, rfl⟩) (noLDs_map fun r _ => noLD_row r) ?_))
      show DM K E _ [.val (scrD ns), .val (rawD a), .own (cells.map PyData.int), .val (.int cell), .val (.int m), .val (.int z), s6, .val (rawD ca), .val (rawD de), .val (rawD dr), .own (b.rows.map rowD), s11] μ' _
      have lr : (((b.rows.map rowD).length : Nat) : Int) = (b.rows.length : Int) := by rw [List.length_map]
      refine dm_if (mt_v Vw.see (b := decide (0 < (b.rows.length : Int))) (VS.dt_to (b := decide (0 < (((b.rows.map rowD).length : Nat) : Int))) (by walk_at "ev") (by rw [lr])) ⟨fun hz2 => ?_, fun hz2 => dm_next ⟨b, dealt, dropped, _, _, _, rfl, S.book, hcm, hde, hdr, hok, S.stood, S.money, by omega⟩⟩)
      have hz2 := of_decide_eq_true hz2
      have i0 := Int.emod_nonneg (cell / 6) (b := (b.rows.length : Int)) (by omega)
      have i1 := Int.emod_lt_of_pos (cell / 6) hz2
      have hri : b.rows[(cell / 6 % (b.rows.length : Int)).toNat]? = some (b.rows[(cell / 6 % (b.rows.length : Int)).toNat]'(by omega)) := List.getElem?_eq_getElem (by omega)
      have hmem := List.mem_of_getElem? hri
      generalize b.rows[(cell / 6 % (b.rows.length : Int)).toNat]'(by omega) = r at hri hmem
      obtain ⟨n1, n2, _⟩ := row_mem hmem
      refine dm_seq (dm_asg (me_v Vw.see (d := .int (r.1 : Int)) (de_op (x := rowD r) (de_op (x := .list (b.rows.map rowD)) (y := .int (cell / 6 % (b.rows.length : Int))) (de_var rfl) (VS.de_to (d := .int (cell / 6 % (((b.rows.map rowD).length : Nat) : Int))) (de_op (by walk_at "ev") (by walk_at "ev") (d2_mod (by rw [lr]; exact hz2))) (by rw [lr])) (VS.d2_ixL (atI_mapI (by omega) hri))) de_int (VS.d2_ixT rfl)) rfl ?_))
      obtain ⟨n, rw'⟩ := r
      show DM K E _ [.val (scrD ns), .val (rawD a), .own (cells.map PyData.int), .val (.int cell), .val (.int m), .val (.int z), s6, .val (rawD ca), .val (rawD de), .val (rawD dr), .own (b.rows.map rowD), .val (.int (n : Int))] μ' _
      have n1 : n < b.came.length := n1
      have n2 : 0 < pAt b.rest n := n2
      have l2 := S.stood.l2
      have gd : dropped[n]? = some (pAt dropped n) := pAt_get (by omega)
      refine dm_cput (me_op (me_v (ds := [none, none, none, none, none, none, none, none, none, some (intsD dropped), none, some (.int (n : Int))]) (by walk_at "vw") (d := .int (pAt dropped n)) (de_op (de_var rfl) (de_var rfl) (VS.d2_ixL (atI_map gd))) rfl (me_meth bkNo_drop (me_de (de_var rfl) ⟨a, _, _, _, _, _, _, _, _, rfl, hb, ma_cons (me_de (de_var rfl) (ma_nil ⟨_, ⟨a, g, b, .int (n : Int), rfl, hb, hw, rfl, .inr ⟨n, rfl, n1, by omega, rfl⟩⟩, ?_⟩))⟩))))
      rintro o μ4 ⟨rfl, rfl⟩
      have r4 : mset μ' a ((b.drop n).cell c g) dr = some (.lst (dropped.map PyData.int)) := (mset_ne adr.symm).trans hdr
      refine ⟨_, .inl ⟨rfl, _, d2_add, me_de (de_var rfl) (me_de (de_var rfl) ⟨dr, (n : Int), dr, _, _, _, n, rfl, rfl, r4, inC_lst, Evl.ixN_nat (by rw [List.length_map]; omega), ?_⟩)⟩⟩
      refine ⟨b.drop n, dealt, dropped.set n (pAt dropped n + pAt b.rest n), _, _, _, rfl, ⟨g, (mset_ne adr).trans mset_at⟩, ?_, ?_, ?_, Bk.drop_ok hok n1, stood_drop hw n1 S.stood, ⟨S.money.nn, S.money.zero⟩, by show b.came.length ≤ k + 1; omega⟩
      · rw [mset_ne cadr, mset_ne aca.symm]
        exact hcm
      · rw [mset_ne dedr, mset_ne ade.symm]
        exact hde
      · rw [mset_at, ← List.map_set]
    · -- the bell rings
      obtain ⟨p, hr⟩ := Bk.ring_ex hok
      refine dm_if (mt_not (mt_B (me_call (ma_cons (me_de (de_var rfl) (ma_cons (me_de (de_var rfl) (ma_cons (me_de (de_var rfl) (ma_cons (me_de (de_var rfl) (ma_nil ⟨_, ⟨a, g, b, ca, de, dr, dealt, dropped, p, rfl, hb, hok, by omega, hcm, hde, hdr, S.stood, hr, rfl⟩, ?_⟩))))))))))) )
      rintro o μ4 ⟨rfl, k1, k2, k3⟩
      refine ⟨_, .inl ⟨rfl, true, rfl, (fun z => by cases z), fun _ => dm_next ?_⟩⟩
      refine ⟨b.rung p, _, dropped, _, _, _, rfl, ⟨g, k1⟩, ?_, k2, ?_, Bk.rung_ok hok hr, stood_rung hok p S.stood, money_rung hok hr S.money, by show b.came.length ≤ k + 1; omega⟩
      · rw [k3 ca aca.symm cade (by rw [hcm]; exact fun z => by cases z)]
        exact hcm
      · rw [k3 dr adr.symm dedr.symm (by rw [hdr]; exact fun z => by cases z)]
        exact hdr
  · rintro _ μ' ⟨b, dealt, dropped, s3, s10, s11, rfl, S⟩
    obtain ⟨g, hb⟩ := S.book
    have hcm := S.came
    have hde := S.deal
    have hdr := S.drop
    refine dm_ret (me_v (ds := [none, some (b.data c), none, none, none, none, none, some (wsD b.came), some (intsD dealt), some (intsD dropped), none, none]) (by walk_at "vw") (d := .bool true) (de_call (xs := [b.data c, wsD b.came, intsD dealt, intsD dropped]) (da_cons (de_var rfl) (da_cons (de_var rfl) (da_cons (de_var rfl) (da_cons (de_var rfl) da_nil)))) ⟨b, dealt, dropped, rfl, S.ok, S.stood, S.money, rfl⟩) rfl rfl)

theorem R_law_eq (c c' : Cs) : R_law c = R_law c' := rfl

end VS
namespace PW
open PySem PySem.Spec PyProof.Rows L2 VS
open Evl (Ex)
def topS (i : Nat) : Stmt := PySem.Challenge.pw_bidclear_k14_whole_rings.main.body.getD i (.Pass ⟨0, 0, 0, 0⟩)
abbrev s_whole_within : Stmt := topS 10
theorem sc_whole_within : FnScope ["thing", "low", "high"] ["thing", "low", "high"] (defScope s_whole_within) := ⟨rfl, rfl, rfl, by decide +kernel, rfl, by decide +kernel, by decide +kernel⟩
abbrev s_checked : Stmt := topS 11
theorem sc_checked : FnScope ["thing"] ["thing"] (defScope s_checked) := ⟨rfl, rfl, rfl, by decide +kernel, rfl, by decide +kernel, by decide +kernel⟩
abbrev s_checked_price : Stmt := topS 12
theorem sc_checked_price : FnScope ["price"] ["price"] (defScope s_checked_price) := ⟨rfl, rfl, rfl, by decide +kernel, rfl, by decide +kernel, by decide +kernel⟩
abbrev s_willing : Stmt := topS 13
theorem sc_willing : FnScope ["wish", "price"] ["wish", "price"] (defScope s_willing) := ⟨rfl, rfl, rfl, by decide +kernel, rfl, by decide +kernel, by decide +kernel⟩
abbrev s_amount_of : Stmt := topS 14
theorem sc_amount_of : FnScope ["wishes", "side", "price", "total", "wish"] ["wishes", "side", "price"] (defScope s_amount_of) := ⟨rfl, rfl, rfl, by decide +kernel, rfl, by decide +kernel, by decide +kernel⟩
abbrev s_wanted : Stmt := topS 15
theorem sc_wanted : FnScope ["wishes", "price"] ["wishes", "price"] (defScope s_wanted) := ⟨rfl, rfl, rfl, by decide +kernel, rfl, by decide +kernel, by decide +kernel⟩
abbrev s_offered : Stmt := topS 16
theorem sc_offered : FnScope ["wishes", "price"] ["wishes", "price"] (defScope s_offered) := ⟨rfl, rfl, rfl, by decide +kernel, rfl, by decide +kernel, by decide +kernel⟩
abbrev s_order_of : Stmt := topS 18
theorem sc_order_of : FnScope ["wishes", "side", "price", "rows", "number", "wish", "rank", "row"] ["wishes", "side", "price"] (defScope s_order_of) := ⟨rfl, rfl, rfl, by decide +kernel, rfl, by decide +kernel, by decide +kernel⟩
abbrev s_pieces_at : Stmt := topS 19
theorem sc_pieces_at : FnScope ["wishes", "price", "dealt", "found", "wish", "side", "left", "number"] ["wishes", "price"] (defScope s_pieces_at) := ⟨rfl, rfl, rfl, by decide +kernel, rfl, by decide +kernel, by decide +kernel⟩
abbrev s_checked_pieces : Stmt := topS 20
theorem sc_checked_pieces : FnScope ["wishes", "pieces", "number"] ["wishes", "pieces"] (defScope s_checked_pieces) := ⟨rfl, rfl, rfl, by decide +kernel, rfl, by decide +kernel, by decide +kernel⟩
abbrev s_of_side : Stmt := topS 21
theorem sc_of_side : FnScope ["wishes", "pieces", "side", "number"] ["wishes", "pieces", "side"] (defScope s_of_side) := ⟨rfl, rfl, rfl, by decide +kernel, rfl, by decide +kernel, by decide +kernel⟩
abbrev s_even : Stmt := topS 22
theorem sc_even : FnScope ["wishes", "pieces"] ["wishes", "pieces"] (defScope s_even) := ⟨rfl, rfl, rfl, by decide +kernel, rfl, by decide +kernel, by decide +kernel⟩
abbrev s_pairs : Stmt := topS 23
theorem sc_pairs : FnScope ["wishes", "pieces", "sellers", "number", "left", "found", "at", "buyer", "seller", "many"] ["wishes", "pieces"] (defScope s_pairs) := ⟨rfl, rfl, rfl, by decide +kernel, rfl, by decide +kernel, by decide +kernel⟩
abbrev s_covered : Stmt := topS 25
theorem sc_covered : FnScope ["wishes", "price"] ["wishes", "price"] (defScope s_covered) := ⟨rfl, rfl, rfl, by decide +kernel, rfl, by decide +kernel, by decide +kernel⟩
abbrev s_taken_up : Stmt := topS 26
theorem sc_taken_up : FnScope ["wishes", "price"] ["wishes", "price"] (defScope s_taken_up) := ⟨rfl, rfl, rfl, by decide +kernel, rfl, by decide +kernel, by decide +kernel⟩
abbrev s_lowest : Stmt := topS 27
theorem sc_lowest : FnScope ["wishes", "limits", "wish", "low", "high", "middle"] ["wishes"] (defScope s_lowest) := ⟨rfl, rfl, rfl, by decide +kernel, rfl, by decide +kernel, by decide +kernel⟩
abbrev s_highest : Stmt := topS 28
theorem sc_highest : FnScope ["wishes", "limits", "wish", "low", "high", "middle"] ["wishes"] (defScope s_highest) := ⟨rfl, rfl, rfl, by decide +kernel, rfl, by decide +kernel, by decide +kernel⟩
abbrev s_price_by : Stmt := topS 29
theorem sc_price_by : FnScope ["wishes", "old"] ["wishes", "old"] (defScope s_price_by) := ⟨rfl, rfl, rfl, by decide +kernel, rfl, by decide +kernel, by decide +kernel⟩
abbrev s_Book___init__ : Stmt := inClass (topS 31) 0
theorem sc_Book___init__ : FnScope ["self", "old"] ["self", "old"] (defScope s_Book___init__) := ⟨rfl, rfl, rfl, by decide +kernel, rfl, by decide +kernel, by decide +kernel⟩
abbrev s_Book_add : Stmt := inClass (topS 31) 1
theorem sc_Book_add : FnScope ["self", "wish"] ["self", "wish"] (defScope s_Book_add) := ⟨rfl, rfl, rfl, by decide +kernel, rfl, by decide +kernel, by decide +kernel⟩
abbrev s_Book_known : Stmt := inClass (topS 31) 2
theorem sc_Book_known : FnScope ["self", "number"] ["self", "number"] (defScope s_Book_known) := ⟨rfl, rfl, rfl, by decide +kernel, rfl, by decide +kernel, by decide +kernel⟩
abbrev s_Book_left : Stmt := inClass (topS 31) 3
theorem sc_Book_left : FnScope ["self", "number"] ["self", "number"] (defScope s_Book_left) := ⟨rfl, rfl, rfl, by decide +kernel, rfl, by decide +kernel, by decide +kernel⟩
abbrev s_Book_paid : Stmt := inClass (topS 31) 4
theorem sc_Book_paid : FnScope ["self", "number"] ["self", "number"] (defScope s_Book_paid) := ⟨rfl, rfl, rfl, by decide +kernel, rfl, by decide +kernel, by decide +kernel⟩
abbrev s_Book_drop : Stmt := inClass (topS 31) 5
theorem sc_Book_drop : FnScope ["self", "number", "many"] ["self", "number"] (defScope s_Book_drop) := ⟨rfl, rfl, rfl, by decide +kernel, rfl, by decide +kernel, by decide +kernel⟩
abbrev s_Book_standing : Stmt := inClass (topS 31) 6
theorem sc_Book_standing : FnScope ["self", "found", "number", "wish"] ["self"] (defScope s_Book_standing) := ⟨rfl, rfl, rfl, by decide +kernel, rfl, by decide +kernel, by decide +kernel⟩
abbrev s_Book_ring : Stmt := inClass (topS 31) 7
theorem sc_Book_ring : FnScope ["self", "rows", "wishes", "row", "found", "deal", "buyer", "seller", "number"] ["self"] (defScope s_Book_ring) := ⟨rfl, rfl, rfl, by decide +kernel, rfl, by decide +kernel, by decide +kernel⟩
abbrev s__law_cell_at : Stmt := topS 33
theorem sc__law_cell_at : FnScope ["_law_script", "_law_k"] ["_law_script", "_law_k"] (defScope s__law_cell_at) := ⟨rfl, rfl, rfl, by decide +kernel, rfl, by decide +kernel, by decide +kernel⟩
abbrev s__law_whole : Stmt := topS 34
theorem sc__law_whole : FnScope ["_law_thing"] ["_law_thing"] (defScope s__law_whole) := ⟨rfl, rfl, rfl, by decide +kernel, rfl, by decide +kernel, by decide +kernel⟩
abbrev s__law_wish_by : Stmt := topS 35
theorem sc__law_wish_by : FnScope ["_law_cell", "_law_side", "_law_far", "_law_limit", "_law_amount"] ["_law_cell"] (defScope s__law_wish_by) := ⟨rfl, rfl, rfl, by decide +kernel, rfl, by decide +kernel, by decide +kernel⟩
abbrev s__law_sum : Stmt := topS 36
theorem sc__law_sum : FnScope ["_law_rows", "_law_side", "_law_price", "_law_total", "_law_row"] ["_law_rows", "_law_side", "_law_price"] (defScope s__law_sum) := ⟨rfl, rfl, rfl, by decide +kernel, rfl, by decide +kernel, by decide +kernel⟩
abbrev s__law_clears : Stmt := topS 37
theorem sc__law_clears : FnScope ["_law_rows", "_law_price"] ["_law_rows", "_law_price"] (defScope s__law_clears) := ⟨rfl, rfl, rfl, by decide +kernel, rfl, by decide +kernel, by decide +kernel⟩
abbrev s__law_priced : Stmt := topS 38
theorem sc__law_priced : FnScope ["_law_rows", "_law_old", "_law_price"] ["_law_rows", "_law_old", "_law_price"] (defScope s__law_priced) := ⟨rfl, rfl, rfl, by decide +kernel, rfl, by decide +kernel, by decide +kernel⟩
abbrev s__law_deal_good : Stmt := topS 39
theorem sc__law_deal_good : FnScope ["_law_deal", "_law_stood_here", "_law_price", "_law_part", "_law_buyer", "_law_seller"] ["_law_deal", "_law_stood_here", "_law_price"] (defScope s__law_deal_good) := ⟨rfl, rfl, rfl, by decide +kernel, rfl, by decide +kernel, by decide +kernel⟩
abbrev s__law_quiet : Stmt := topS 40
theorem sc__law_quiet : FnScope ["_law_book", "_law_price", "_law_rows", "_law_buyers", "_law_row", "_law_sellers", "_law_most", "_law_least"] ["_law_book", "_law_price"] (defScope s__law_quiet) := ⟨rfl, rfl, rfl, by decide +kernel, rfl, by decide +kernel, by decide +kernel⟩
abbrev s__law_served : Stmt := topS 41
theorem sc__law_served : FnScope ["_law_rows", "_law_side", "_law_price", "_law_many", "_law_line", "_law_row", "_law_wish", "_law_found", "_law_one", "_law_got_here"] ["_law_rows", "_law_side", "_law_price", "_law_many"] (defScope s__law_served) := ⟨rfl, rfl, rfl, by decide +kernel, rfl, by decide +kernel, by decide +kernel⟩
abbrev s__law_got : Stmt := topS 42
theorem sc__law_got : FnScope ["_law_deals", "_law_at", "_law_found", "_law_deal"] ["_law_deals", "_law_at"] (defScope s__law_got) := ⟨rfl, rfl, rfl, by decide +kernel, rfl, by decide +kernel, by decide +kernel⟩
abbrev s__law_rising : Stmt := topS 43
theorem sc__law_rising : FnScope ["_law_deals", "_law_k", "_law_last"] ["_law_deals"] (defScope s__law_rising) := ⟨rfl, rfl, rfl, by decide +kernel, rfl, by decide +kernel, by decide +kernel⟩
abbrev s__law_stood : Stmt := topS 44
theorem sc__law_stood : FnScope ["_law_came", "_law_dealt", "_law_dropped", "_law_rows", "_law_k", "_law_many"] ["_law_came", "_law_dealt", "_law_dropped"] (defScope s__law_stood) := ⟨rfl, rfl, rfl, by decide +kernel, rfl, by decide +kernel, by decide +kernel⟩
abbrev s__law_ring : Stmt := topS 45
theorem sc__law_ring : FnScope ["_law_book", "_law_came", "_law_dealt", "_law_dropped", "_law_rows", "_law_stood_here", "_law_old", "_law_found", "_law_price", "_law_many", "_law_deal", "_law_number"] ["_law_book", "_law_came", "_law_dealt", "_law_dropped"] (defScope s__law_ring) := ⟨rfl, rfl, rfl, by decide +kernel, rfl, by decide +kernel, by decide +kernel⟩
abbrev s__law_ended : Stmt := topS 46
theorem sc__law_ended : FnScope ["_law_book", "_law_came", "_law_dealt", "_law_dropped", "_law_money", "_law_k"] ["_law_book", "_law_came", "_law_dealt", "_law_dropped"] (defScope s__law_ended) := ⟨rfl, rfl, rfl, by decide +kernel, rfl, by decide +kernel, by decide +kernel⟩
abbrev s_law : Stmt := topS 47
theorem sc_law : FnScope ["_law_script", "_law_book", "_law_cells", "_law_cell", "_law_many", "_law_size", "_law_k", "_law_came", "_law_dealt", "_law_dropped", "_law_stood_here", "_law_number"] ["_law_script"] (defScope s_law) := ⟨rfl, rfl, rfl, by decide +kernel, rfl, by decide +kernel, by decide +kernel⟩
structure Fs where
  f_whole_within : Addr
  d_whole_within : FuncData
  f_checked : Addr
  d_checked : FuncData
  f_checked_price : Addr
  d_checked_price : FuncData
  f_willing : Addr
  d_willing : FuncData
  f_amount_of : Addr
  d_amount_of : FuncData
  f_wanted : Addr
  d_wanted : FuncData
  f_offered : Addr
  d_offered : FuncData
  f_order_of : Addr
  d_order_of : FuncData
  f_pieces_at : Addr
  d_pieces_at : FuncData
  f_checked_pieces : Addr
  d_checked_pieces : FuncData
  f_of_side : Addr
  d_of_side : FuncData
  f_even : Addr
  d_even : FuncData
  f_pairs : Addr
  d_pairs : FuncData
  f_covered : Addr
  d_covered : FuncData
  f_taken_up : Addr
  d_taken_up : FuncData
  f_lowest : Addr
  d_lowest : FuncData
  f_highest : Addr
  d_highest : FuncData
  f_price_by : Addr
  d_price_by : FuncData
  f_Book___init__ : Addr
  d_Book___init__ : FuncData
  f_Book_add : Addr
  d_Book_add : FuncData
  f_Book_known : Addr
  d_Book_known : FuncData
  f_Book_left : Addr
  d_Book_left : FuncData
  f_Book_paid : Addr
  d_Book_paid : FuncData
  f_Book_drop : Addr
  d_Book_drop : FuncData
  f_Book_standing : Addr
  d_Book_standing : FuncData
  f_Book_ring : Addr
  d_Book_ring : FuncData
  f__law_cell_at : Addr
  d__law_cell_at : FuncData
  f__law_whole : Addr
  d__law_whole : FuncData
  f__law_wish_by : Addr
  d__law_wish_by : FuncData
  f__law_sum : Addr
  d__law_sum : FuncData
  f__law_clears : Addr
  d__law_clears : FuncData
  f__law_priced : Addr
  d__law_priced : FuncData
  f__law_deal_good : Addr
  d__law_deal_good : FuncData
  f__law_quiet : Addr
  d__law_quiet : FuncData
  f__law_served : Addr
  d__law_served : FuncData
  f__law_got : Addr
  d__law_got : FuncData
  f__law_rising : Addr
  d__law_rising : FuncData
  f__law_stood : Addr
  d__law_stood : FuncData
  f__law_ring : Addr
  d__law_ring : FuncData
  f__law_ended : Addr
  d__law_ended : FuncData
  dummy : Unit := ()
structure Txt (K : PySem.W.Frag) (mg : Str → Option Value) (c : Cs) (q : Fs) : Prop where
  F_whole_within : Fun K "whole_within" "whole_within" s_whole_within q.f_whole_within q.d_whole_within
  g_whole_within : mg "whole_within" = some (.ref q.f_whole_within)
  b_whole_within : Binds K q.d_whole_within ["thing", "low", "high"] []
  F_checked : Fun K "checked" "checked" s_checked q.f_checked q.d_checked
  g_checked : mg "checked" = some (.ref q.f_checked)
  b_checked : Binds K q.d_checked ["thing"] []
  F_checked_price : Fun K "checked_price" "checked_price" s_checked_price q.f_checked_price q.d_checked_price
  g_checked_price : mg "checked_price" = some (.ref q.f_checked_price)
  b_checked_price : Binds K q.d_checked_price ["price"] []
  F_willing : Fun K "willing" "willing" s_willing q.f_willing q.d_willing
  g_willing : mg "willing" = some (.ref q.f_willing)
  b_willing : Binds K q.d_willing ["wish", "price"] []
  F_amount_of : Fun K "amount_of" "amount_of" s_amount_of q.f_amount_of q.d_amount_of
  g_amount_of : mg "amount_of" = some (.ref q.f_amount_of)
  b_amount_of : Binds K q.d_amount_of ["wishes", "side", "price"] []
  F_wanted : Fun K "wanted" "wanted" s_wanted q.f_wanted q.d_wanted
  g_wanted : mg "wanted" = some (.ref q.f_wanted)
  b_wanted : Binds K q.d_wanted ["wishes", "price"] []
  F_offered : Fun K "offered" "offered" s_offered q.f_offered q.d_offered
  g_offered : mg "offered" = some (.ref q.f_offered)
  b_offered : Binds K q.d_offered ["wishes", "price"] []
  F_order_of : Fun K "order_of" "order_of" s_order_of q.f_order_of q.d_order_of
  g_order_of : mg "order_of" = some (.ref q.f_order_of)
  b_order_of : Binds K q.d_order_of ["wishes", "side", "price"] []
  F_pieces_at : Fun K "pieces_at" "pieces_at" s_pieces_at q.f_pieces_at q.d_pieces_at
  g_pieces_at : mg "pieces_at" = some (.ref q.f_pieces_at)
  b_pieces_at : Binds K q.d_pieces_at ["wishes", "price"] []
  F_checked_pieces : Fun K "checked_pieces" "checked_pieces" s_checked_pieces q.f_checked_pieces q.d_checked_pieces
  g_checked_pieces : mg "checked_pieces" = some (.ref q.f_checked_pieces)
  b_checked_pieces : Binds K q.d_checked_pieces ["wishes", "pieces"] []
  F_of_side : Fun K "of_side" "of_side" s_of_side q.f_of_side q.d_of_side
  g_of_side : mg "of_side" = some (.ref q.f_of_side)
  b_of_side : Binds K q.d_of_side ["wishes", "pieces", "side"] []
  F_even : Fun K "even" "even" s_even q.f_even q.d_even
  g_even : mg "even" = some (.ref q.f_even)
  b_even : Binds K q.d_even ["wishes", "pieces"] []
  F_pairs : Fun K "pairs" "pairs" s_pairs q.f_pairs q.d_pairs
  g_pairs : mg "pairs" = some (.ref q.f_pairs)
  b_pairs : Binds K q.d_pairs ["wishes", "pieces"] []
  F_covered : Fun K "covered" "covered" s_covered q.f_covered q.d_covered
  g_covered : mg "covered" = some (.ref q.f_covered)
  b_covered : Binds K q.d_covered ["wishes", "price"] []
  F_taken_up : Fun K "taken_up" "taken_up" s_taken_up q.f_taken_up q.d_taken_up
  g_taken_up : mg "taken_up" = some (.ref q.f_taken_up)
  b_taken_up : Binds K q.d_taken_up ["wishes", "price"] []
  F_lowest : Fun K "lowest" "lowest" s_lowest q.f_lowest q.d_lowest
  g_lowest : mg "lowest" = some (.ref q.f_lowest)
  b_lowest : Binds K q.d_lowest ["wishes"] []
  F_highest : Fun K "highest" "highest" s_highest q.f_highest q.d_highest
  g_highest : mg "highest" = some (.ref q.f_highest)
  b_highest : Binds K q.d_highest ["wishes"] []
  F_price_by : Fun K "price_by" "price_by" s_price_by q.f_price_by q.d_price_by
  g_price_by : mg "price_by" = some (.ref q.f_price_by)
  b_price_by : Binds K q.d_price_by ["wishes", "old"] []
  F_Book___init__ : Fun K "__init__" "Book.__init__" s_Book___init__ q.f_Book___init__ q.d_Book___init__
  mk_Book : Mk K c.Book q.f_Book___init__
  b_Book___init__ : Binds K q.d_Book___init__ ["self", "old"] []
  F_Book_add : Fun K "add" "Book.add" s_Book_add q.f_Book_add q.d_Book_add
  me_Book_add : Meth K c.Book "add" q.f_Book_add
  b_Book_add : Binds K q.d_Book_add ["self", "wish"] []
  F_Book_known : Fun K "known" "Book.known" s_Book_known q.f_Book_known q.d_Book_known
  me_Book_known : Meth K c.Book "known" q.f_Book_known
  b_Book_known : Binds K q.d_Book_known ["self", "number"] []
  F_Book_left : Fun K "left" "Book.left" s_Book_left q.f_Book_left q.d_Book_left
  me_Book_left : Meth K c.Book "left" q.f_Book_left
  b_Book_left : Binds K q.d_Book_left ["self", "number"] []
  F_Book_paid : Fun K "paid" "Book.paid" s_Book_paid q.f_Book_paid q.d_Book_paid
  me_Book_paid : Meth K c.Book "paid" q.f_Book_paid
  b_Book_paid : Binds K q.d_Book_paid ["self", "number"] []
  F_Book_drop : Fun K "drop" "Book.drop" s_Book_drop q.f_Book_drop q.d_Book_drop
  me_Book_drop : Meth K c.Book "drop" q.f_Book_drop
  b_Book_drop : Binds K q.d_Book_drop ["self", "number"] []
  F_Book_standing : Fun K "standing" "Book.standing" s_Book_standing q.f_Book_standing q.d_Book_standing
  me_Book_standing : Meth K c.Book "standing" q.f_Book_standing
  b_Book_standing : Binds K q.d_Book_standing ["self"] []
  F_Book_ring : Fun K "ring" "Book.ring" s_Book_ring q.f_Book_ring q.d_Book_ring
  me_Book_ring : Meth K c.Book "ring" q.f_Book_ring
  b_Book_ring : Binds K q.d_Book_ring ["self"] []
  F__law_cell_at : Fun K "_law_cell_at" "_law_cell_at" s__law_cell_at q.f__law_cell_at q.d__law_cell_at
  g__law_cell_at : mg "_law_cell_at" = some (.ref q.f__law_cell_at)
  b__law_cell_at : Binds K q.d__law_cell_at ["_law_script", "_law_k"] []
  F__law_whole : Fun K "_law_whole" "_law_whole" s__law_whole q.f__law_whole q.d__law_whole
  g__law_whole : mg "_law_whole" = some (.ref q.f__law_whole)
  b__law_whole : Binds K q.d__law_whole ["_law_thing"] []
  F__law_wish_by : Fun K "_law_wish_by" "_law_wish_by" s__law_wish_by q.f__law_wish_by q.d__law_wish_by
  g__law_wish_by : mg "_law_wish_by" = some (.ref q.f__law_wish_by)
  b__law_wish_by : Binds K q.d__law_wish_by ["_law_cell"] []
  F__law_sum : Fun K "_law_sum" "_law_sum" s__law_sum q.f__law_sum q.d__law_sum
  g__law_sum : mg "_law_sum" = some (.ref q.f__law_sum)
  b__law_sum : Binds K q.d__law_sum ["_law_rows", "_law_side", "_law_price"] []
  F__law_clears : Fun K "_law_clears" "_law_clears" s__law_clears q.f__law_clears q.d__law_clears
  g__law_clears : mg "_law_clears" = some (.ref q.f__law_clears)
  b__law_clears : Binds K q.d__law_clears ["_law_rows", "_law_price"] []
  F__law_priced : Fun K "_law_priced" "_law_priced" s__law_priced q.f__law_priced q.d__law_priced
  g__law_priced : mg "_law_priced" = some (.ref q.f__law_priced)
  b__law_priced : Binds K q.d__law_priced ["_law_rows", "_law_old", "_law_price"] []
  F__law_deal_good : Fun K "_law_deal_good" "_law_deal_good" s__law_deal_good q.f__law_deal_good q.d__law_deal_good
  g__law_deal_good : mg "_law_deal_good" = some (.ref q.f__law_deal_good)
  b__law_deal_good : Binds K q.d__law_deal_good ["_law_deal", "_law_stood_here", "_law_price"] []
  F__law_quiet : Fun K "_law_quiet" "_law_quiet" s__law_quiet q.f__law_quiet q.d__law_quiet
  g__law_quiet : mg "_law_quiet" = some (.ref q.f__law_quiet)
  b__law_quiet : Binds K q.d__law_quiet ["_law_book", "_law_price"] []
  F__law_served : Fun K "_law_served" "_law_served" s__law_served q.f__law_served q.d__law_served
  g__law_served : mg "_law_served" = some (.ref q.f__law_served)
  b__law_served : Binds K q.d__law_served ["_law_rows", "_law_side", "_law_price", "_law_many"] []
  F__law_got : Fun K "_law_got" "_law_got" s__law_got q.f__law_got q.d__law_got
  g__law_got : mg "_law_got" = some (.ref q.f__law_got)
  b__law_got : Binds K q.d__law_got ["_law_deals", "_law_at"] []
  F__law_rising : Fun K "_law_rising" "_law_rising" s__law_rising q.f__law_rising q.d__law_rising
  g__law_rising : mg "_law_rising" = some (.ref q.f__law_rising)
  b__law_rising : Binds K q.d__law_rising ["_law_deals"] []
  F__law_stood : Fun K "_law_stood" "_law_stood" s__law_stood q.f__law_stood q.d__law_stood
  g__law_stood : mg "_law_stood" = some (.ref q.f__law_stood)
  b__law_stood : Binds K q.d__law_stood ["_law_came", "_law_dealt", "_law_dropped"] []
  F__law_ring : Fun K "_law_ring" "_law_ring" s__law_ring q.f__law_ring q.d__law_ring
  g__law_ring : mg "_law_ring" = some (.ref q.f__law_ring)
  b__law_ring : Binds K q.d__law_ring ["_law_book", "_law_came", "_law_dealt", "_law_dropped"] []
  F__law_ended : Fun K "_law_ended" "_law_ended" s__law_ended q.f__law_ended q.d__law_ended
  g__law_ended : mg "_law_ended" = some (.ref q.f__law_ended)
  b__law_ended : Binds K q.d__law_ended ["_law_book", "_law_came", "_law_dealt", "_law_dropped"] []
  z_bool : mg "bool" = none
  z_dict : mg "dict" = none
  z_int : mg "int" = none
  z_isinstance : mg "isinstance" = none
  z_len : mg "len" = none
  z_list : mg "list" = none
  z_max : mg "max" = none
  z_min : mg "min" = none
  z_range : mg "range" = none
  z_sorted : mg "sorted" = none
  z_str : mg "str" = none
  z_sum : mg "sum" = none
  z_tuple : mg "tuple" = none
  m_TOP : ∃ t, mg "TOP" = some (.int 1000000000 t)
  m_MOST : ∃ t, mg "MOST" = some (.int 1000000 t)
  cc_BidError : ClsN K mg "BidError" c.BidError
  cc_BadWish : ClsN K mg "BadWish" c.BadWish
  cc_BadPrice : ClsN K mg "BadPrice" c.BadPrice
  cc_BadPieces : ClsN K mg "BadPieces" c.BadPieces
  cc_Uneven : ClsN K mg "Uneven" c.Uneven
  cc_NoSuch : ClsN K mg "NoSuch" c.NoSuch
  bk : BkOk K c.Book
  g_Book : mg "Book" = some (.ref c.Book)
  dummy : True := trivial
section
variable {P : Program} {w : World} {K : PySem.W.Frag} {mg : Str → Option Value} {base : Heap} {c : Cs} {q : Fs}
theorem ok_whole_within (T : Txt K mg c q) : FnOk P w K mg base CX0 1 q.f_whole_within q.d_whole_within ["thing", "low", "high"] (spD K (R_whole_within c)) := by
  refine T.F_whole_within.ok sc_whole_within (sp_len (len_whole_within (c := c))) (fun cdv A outer s H vs Q E hr h => ?_)
  refine ⟨t_whole_within K c E0, ?_, run_body h (body_whole_within)⟩
  exact (pss_one (ps_ret (pe_and (pe_callB call_isi (by rfl) T.z_isinstance (by decide +kernel) (pa_cons (pv 0) (pa_cons (pe_bltn (v := .ty "int") (by rfl) T.z_int (by decide +kernel) rfl) pa_nil))) (pe_and (pe_not (pe_callB call_isi (by rfl) T.z_isinstance (by decide +kernel) (pa_cons (pv 0) (pa_cons (pe_bltn (v := .ty "bool") (by rfl) T.z_bool (by decide +kernel) rfl) pa_nil)))) (pe_one (pe_chain op_le op_le (pv 1) (pv 0) (pv 2)))))))
theorem ok_checked (T : Txt K mg c q) : FnOk P w K mg base (L2N.CX P w) 2 q.f_checked q.d_checked ["thing"] (spD K (R_checked c)) := by
  refine T.F_checked.okN sc_checked (sp_len (len_checked (c := c))) (fun cdv A outer s H vs Q E hr h => ?_)
  obtain ⟨_, hm_TOP⟩ := T.m_TOP
  obtain ⟨_, hm_MOST⟩ := T.m_MOST
  refine ⟨t_checked K c E, ?_, run_body h (body_checked)⟩
  exact (pss_cons (ps_if (PW.pt (pw_or (pt_not (pt_val (pe_callB call_isi (by rfl) T.z_isinstance (by decide +kernel) (pa_cons (pv 0) (pa_cons (pe_bltn (v := .ty "tuple") (by rfl) T.z_tuple (by decide +kernel) rfl) pa_nil))))) (pw_or1 (pt_cmpR op_ne (pe_callB call_len_seq (by rfl) T.z_len (by decide +kernel) (pa_cons (pv 0) pa_nil)) pe_int (nomark _))))) (pss_one (ps_raiseN T.cc_BadWish rfl (L2N.takes_of rfl rfl rfl rfl) (by rfl))) pss_nil)
      (pss_cons (ps_if (PW.pt (pw_or (pt_not (pt_val (pe_callB call_isi (by rfl) T.z_isinstance (by decide +kernel) (pa_cons (pe_ix ix_tup (pv 0) pe_int (fun _ _ => rfl)) (pa_cons (pe_bltn (v := .ty "str") (by rfl) T.z_str (by decide +kernel) rfl) pa_nil))))) (pw_or1 (pt_cmpR op_notIn_seq (pe_ix ix_tup (pv 0) pe_int (fun _ _ => rfl)) (pe_tup (pa_cons pe_str (pa_cons pe_str pa_nil))) (by rfl))))) (pss_one (ps_raiseN T.cc_BadWish rfl (L2N.takes_of rfl rfl rfl rfl) (by rfl))) pss_nil)
      (pss_cons (ps_if (PW.pt (pw_or (pt_not (pt_val (pe_call (ok_whole_within T) (hr.mono (by decide)) (by rfl) T.g_whole_within T.F_whole_within.kp T.b_whole_within .nil pass0 (pa_cons (pe_ix ix_tup (pv 0) pe_int (fun _ _ => rfl)) (pa_cons pe_int (pa_cons (pe_glob rfl hm_TOP ⟨_, rfl⟩) pa_nil)))))) (pw_or1 (pt_not (pt_val (pe_call (ok_whole_within T) (hr.mono (by decide)) (by rfl) T.g_whole_within T.F_whole_within.kp T.b_whole_within .nil pass0 (pa_cons (pe_ix ix_tup (pv 0) pe_int (fun _ _ => rfl)) (pa_cons pe_int (pa_cons (pe_glob rfl hm_MOST ⟨_, rfl⟩) pa_nil))))))))) (pss_one (ps_raiseN T.cc_BadWish rfl (L2N.takes_of rfl rfl rfl rfl) (by rfl))) pss_nil)
      (pss_one (ps_ret (pv 0))))))
theorem ok_checked_price (T : Txt K mg c q) : FnOk P w K mg base (L2N.CX P w) 2 q.f_checked_price q.d_checked_price ["price"] (spD K (R_checked_price c)) := by
  refine T.F_checked_price.okN sc_checked_price (sp_len (len_checked_price (c := c))) (fun cdv A outer s H vs Q E hr h => ?_)
  obtain ⟨_, hm_TOP⟩ := T.m_TOP
  refine ⟨t_checked_price K c E, ?_, run_body h (body_checked_price)⟩
  exact (pss_cons (ps_if (pt_not (pt_val (pe_call (ok_whole_within T) (hr.mono (by decide)) (by rfl) T.g_whole_within T.F_whole_within.kp T.b_whole_within .nil pass0 (pa_cons (pv 0) (pa_cons pe_int (pa_cons (pe_glob rfl hm_TOP ⟨_, rfl⟩) pa_nil)))))) (pss_one (ps_raiseN T.cc_BadPrice rfl (L2N.takes_of rfl rfl rfl rfl) (by rfl))) pss_nil)
      (pss_one (ps_ret (pv 0))))
theorem ok_willing (T : Txt K mg c q) : FnOk P w K mg base CX0 1 q.f_willing q.d_willing ["wish", "price"] (spD K (R_willing c)) := by
  refine T.F_willing.ok sc_willing (sp_len (len_willing (c := c))) (fun cdv A outer s H vs Q E hr h => ?_)
  refine ⟨t_willing K c E0, ?_, run_body h (body_willing)⟩
  exact (pss_cons (ps_if (pt_cmpR op_eq (pe_ix ix_tup (pv 0) pe_int (fun _ _ => rfl)) pe_str (nomark _)) (pss_one (ps_ret (pe_cmpR op_ge (pe_ix ix_tup (pv 0) pe_int (fun _ _ => rfl)) (pv 1) (nomark _)))) pss_nil)
      (pss_one (ps_ret (pe_cmpR op_le (pe_ix ix_tup (pv 0) pe_int (fun _ _ => rfl)) (pv 1) (nomark _)))))
theorem ok_amount_of (T : Txt K mg c q) : FnOk P w K mg base CX0 2 q.f_amount_of q.d_amount_of ["wishes", "side", "price"] (spD K (R_amount_of c)) := by
  refine T.F_amount_of.ok sc_amount_of (sp_len (len_amount_of (c := c))) (fun cdv A outer s H vs Q E hr h => ?_)
  refine ⟨t_amount_of K c E0, ?_, run_body h (body_amount_of)⟩
  exact (pss_cons (ps_set (i := 3) sc_amount_of.nd rfl (by first | exact Or.inl rfl | exact Or.inr rfl) pe_int)
      (pss_cons (ps_for PassesOwn.never rfl (pi_list (pv 0)) (pg_name (i := 4) sc_amount_of.nd rfl (by first | exact Or.inl rfl | exact Or.inr rfl)) (pss_one (ps_if (PW.pt (pw_and (pt_cmpR op_eq (pe_ix ix_tup (pv 4) pe_int (fun _ _ => rfl)) (pv 1) (nomark _)) (pw_and1 (pt_val (pe_call (ok_willing T) (hr.mono (by decide)) (by rfl) T.g_willing T.F_willing.kp T.b_willing .nil pass0 (pa_cons (pv 4) (pa_cons (pv 2) pa_nil))))))) (pss_one (ps_set (i := 3) sc_amount_of.nd rfl (by first | exact Or.inl rfl | exact Or.inr rfl) (pe_op op_add (pv 3) (pe_ix ix_tup (pv 4) pe_int (fun _ _ => rfl))))) pss_nil)))
      (pss_one (ps_ret (pv 3)))))
theorem ok_wanted (T : Txt K mg c q) : FnOk P w K mg base CX0 3 q.f_wanted q.d_wanted ["wishes", "price"] (spD K (R_wanted c)) := by
  refine T.F_wanted.ok sc_wanted (sp_len (len_wanted (c := c))) (fun cdv A outer s H vs Q E hr h => ?_)
  refine ⟨t_wanted K c E0, ?_, run_body h (body_wanted)⟩
  exact (pss_one (ps_ret (pe_call (ok_amount_of T) (hr.mono (by decide)) (by rfl) T.g_amount_of T.F_amount_of.kp T.b_amount_of .nil pass0 (pa_cons (pv 0) (pa_cons pe_str (pa_cons (pv 1) pa_nil))))))
theorem ok_offered (T : Txt K mg c q) : FnOk P w K mg base CX0 3 q.f_offered q.d_offered ["wishes", "price"] (spD K (R_offered c)) := by
  refine T.F_offered.ok sc_offered (sp_len (len_offered (c := c))) (fun cdv A outer s H vs Q E hr h => ?_)
  refine ⟨t_offered K c E0, ?_, run_body h (body_offered)⟩
  exact (pss_one (ps_ret (pe_call (ok_amount_of T) (hr.mono (by decide)) (by rfl) T.g_amount_of T.F_amount_of.kp T.b_amount_of .nil pass0 (pa_cons (pv 0) (pa_cons pe_str (pa_cons (pv 1) pa_nil))))))
theorem ok_order_of (T : Txt K mg c q) : FnOk P w K mg base CX0 2 q.f_order_of q.d_order_of ["wishes", "side", "price"] (spD K (R_order_of c)) := by
  refine T.F_order_of.ok sc_order_of (sp_len (len_order_of (c := c))) (fun cdv A outer s H vs Q E hr h => ?_)
  refine ⟨t_order_of K c E0, ?_, run_body h (body_order_of)⟩
  exact (pss_cons (ps_set (i := 3) sc_order_of.nd rfl (by first | exact Or.inl rfl | exact Or.inr rfl) (pe_lst pa_nil))
      (pss_cons (ps_for PassesOwn.never rfl (pi_range1 (by rfl) T.z_range (pa_cons (pe_callB call_len_seq (by rfl) T.z_len (by decide +kernel) (pa_cons (pv 0) pa_nil)) pa_nil)) (pg_name (i := 4) sc_order_of.nd rfl (by first | exact Or.inl rfl | exact Or.inr rfl)) (pss_cons (ps_set (i := 5) sc_order_of.nd rfl (by first | exact Or.inl rfl | exact Or.inr rfl) (pe_ix ix_list (pv 0) (pv 4) (fun _ _ => rfl)))
      (pss_one (ps_if (PW.pt (pw_and (pt_cmpR op_eq (pe_ix ix_tup (pv 5) pe_int (fun _ _ => rfl)) (pv 1) (nomark _)) (pw_and1 (pt_val (pe_call (ok_willing T) (hr.mono (by decide)) (by rfl) T.g_willing T.F_willing.kp T.b_willing .nil pass0 (pa_cons (pv 5) (pa_cons (pv 2) pa_nil))))))) (pss_cons (ps_set (i := 6) sc_order_of.nd rfl (by first | exact Or.inl rfl | exact Or.inr rfl) (pe_ix ix_tup (pv 5) pe_int (fun _ _ => rfl)))
      (pss_cons (ps_if (pt_cmpR op_eq (pv 1) pe_str (nomark _)) (pss_one (ps_set (i := 6) sc_order_of.nd rfl (by first | exact Or.inl rfl | exact Or.inr rfl) (pe_un un_neg (pe_ix ix_tup (pv 5) pe_int (fun _ _ => rfl))))) pss_nil)
      (pss_one (ps_expr (pe_bm PySem.F.plainAttrs_list PySem.F.slot_list_append PySem.F.type_list_append mt_append (pv 3) (pa_cons (pe_tup (pa_cons (pv 6) (pa_cons (pv 4) pa_nil))) pa_nil)))))) pss_nil))))
      (pss_one (ps_ret (pe_lc (own := [("row", 7)]) (g := gName 7) (tt := tYes) rfl sc_order_of.nd (pi_list (pe_callB cr_sortedPO (by rfl) T.z_sorted (by decide +kernel) (pa_cons (pv 3) pa_nil))) (blkOk_by (N := ["wishes", "side", "price", "rows", "number", "wish", "rank", "row"]) (sc := defScope s_order_of) (by decide +kernel)) (fun _ _ _ _ _ => pg_name (i := 7) sc_order_of.nd rfl (Or.inl rfl)) (fun _ _ _ _ _ => pts_nil) (fun _ _ _ _ _ => (pe_ix ix_tup (pv 7) pe_int (fun _ _ => rfl))))))))
theorem ok_pieces_at (T : Txt K mg c q) : FnOk P w K mg base (L2N.CX P w) 4 q.f_pieces_at q.d_pieces_at ["wishes", "price"] (spD K (R_pieces_at c)) := by
  refine T.F_pieces_at.okN sc_pieces_at (sp_len (len_pieces_at (c := c))) (fun cdv A outer s H vs Q E hr h => ?_)
  refine ⟨t_pieces_at K c E, ?_, run_body h (body_pieces_at)⟩
  exact (pss_cons (ps_expr (pe_call (ok_checked_price T) (hr.mono (by decide)) (by rfl) T.g_checked_price T.F_checked_price.kp T.b_checked_price .nil (L2N.passes_call (L2N.takes_of rfl rfl rfl rfl) (fun _ _ _ _ h => h)) (pa_cons (pv 1) pa_nil)))
      (pss_cons (ps_set (i := 2) sc_pieces_at.nd rfl (by first | exact Or.inl rfl | exact Or.inr rfl) (pe_callB (call_min2 rfl) (by rfl) T.z_min (by decide +kernel) (pa_cons (pe_call (ok_wanted T) (hr.mono (by decide)) (by rfl) T.g_wanted T.F_wanted.kp T.b_wanted .nil pass0 (pa_cons (pv 0) (pa_cons (pv 1) pa_nil))) (pa_cons (pe_call (ok_offered T) (hr.mono (by decide)) (by rfl) T.g_offered T.F_offered.kp T.b_offered .nil pass0 (pa_cons (pv 0) (pa_cons (pv 1) pa_nil))) pa_nil))))
      (pss_cons (ps_setLc (i := 3) (own := [("wish", 4)]) (g := gName 4) (tt := tYes) rfl sc_pieces_at.nd rfl rfl (sw_true rfl rfl rfl (by decide +kernel)) (pi_list (pv 0)) (blkOk_by (N := ["wishes", "price", "dealt", "found", "wish", "side", "left", "number"]) (sc := defScope s_pieces_at) (by decide +kernel)) (fun _ _ _ _ _ => pg_name (i := 4) sc_pieces_at.nd rfl (Or.inl rfl)) (fun _ _ _ _ _ => pts_nil) (fun _ _ _ _ _ => pe_int))
      (pss_cons (ps_for (L2.passes_of rfl) rfl (pi_tup (pe_tup (pa_cons pe_str (pa_cons pe_str pa_nil)))) (pg_name (i := 5) sc_pieces_at.nd rfl (by first | exact Or.inl rfl | exact Or.inr rfl)) (pss_cons (ps_set (i := 6) sc_pieces_at.nd rfl (by first | exact Or.inl rfl | exact Or.inr rfl) (pv 2))
      (pss_one (ps_for (L2.passes_of rfl) rfl (pi_list (pe_call (ok_order_of T) (hr.mono (by decide)) (by rfl) T.g_order_of T.F_order_of.kp T.b_order_of .nil pass0 (pa_cons (pv 0) (pa_cons (pv 5) (pa_cons (pv 1) pa_nil))))) (pg_name (i := 7) sc_pieces_at.nd rfl (by first | exact Or.inl rfl | exact Or.inr rfl)) (pss_cons (ps_asg (pe_callB (call_min2 rfl) (by rfl) T.z_min (by decide +kernel) (pa_cons (pe_ix ix_tup (pe_ix ix_list (pv 0) (pv 7) (fun _ _ => rfl)) pe_int (fun _ _ => rfl)) (pa_cons (pv 6) pa_nil))) (pg_sub (pv 3) (pv 7) set_list))
      (pss_one (ps_set (i := 6) sc_pieces_at.nd rfl (by first | exact Or.inl rfl | exact Or.inr rfl) (pe_op op_sub (pv 6) (pe_ix ix_list (pv 3) (pv 7) (fun _ _ => rfl))))))))))
      (pss_one (ps_ret (pv 3)))))))
theorem ok_checked_pieces (T : Txt K mg c q) : FnOk P w K mg base (L2N.CX P w) 2 q.f_checked_pieces q.d_checked_pieces ["wishes", "pieces"] (spD K (R_checked_pieces c)) := by
  refine T.F_checked_pieces.okN sc_checked_pieces (sp_len (len_checked_pieces (c := c))) (fun cdv A outer s H vs Q E hr h => ?_)
  refine ⟨t_checked_pieces K c E, ?_, run_body h (body_checked_pieces)⟩
  exact (pss_cons (ps_if (pt_cmpR op_ne (pe_callB call_len_seq (by rfl) T.z_len (by decide +kernel) (pa_cons (pv 1) pa_nil)) (pe_callB call_len_seq (by rfl) T.z_len (by decide +kernel) (pa_cons (pv 0) pa_nil)) (nomark _)) (pss_one (ps_raiseN T.cc_BadPieces rfl (L2N.takes_of rfl rfl rfl rfl) (by rfl))) pss_nil)
      (pss_one (ps_for (L2.passes_of rfl) rfl (pi_range1 (by rfl) T.z_range (pa_cons (pe_callB call_len_seq (by rfl) T.z_len (by decide +kernel) (pa_cons (pv 0) pa_nil)) pa_nil)) (pg_name (i := 2) sc_checked_pieces.nd rfl (by first | exact Or.inl rfl | exact Or.inr rfl)) (pss_one (ps_if (pt_not (pt_val (pe_call (ok_whole_within T) (hr.mono (by decide)) (by rfl) T.g_whole_within T.F_whole_within.kp T.b_whole_within .nil pass0 (pa_cons (pe_ix ix_list (pv 1) (pv 2) (fun _ _ => rfl)) (pa_cons pe_int (pa_cons (pe_ix ix_tup (pe_ix ix_list (pv 0) (pv 2) (fun _ _ => rfl)) pe_int (fun _ _ => rfl)) pa_nil)))))) (pss_one (ps_raiseN T.cc_BadPieces rfl (L2N.takes_of rfl rfl rfl rfl) (by rfl))) pss_nil)))))
theorem ok_of_side (T : Txt K mg c q) : FnOk P w K mg base CX0 1 q.f_of_side q.d_of_side ["wishes", "pieces", "side"] (spD K (R_of_side c)) := by
  refine T.F_of_side.ok sc_of_side (sp_len (len_of_side (c := c))) (fun cdv A outer s H vs Q E hr h => ?_)
  refine ⟨t_of_side K c E0, ?_, run_body h (body_of_side)⟩
  exact (pss_one (ps_ret (pe_callB (cr_sum rfl) (by rfl) T.z_sum (by decide +kernel) (pa_cons (pe_lc (own := [("number", 3)]) (g := gName 3) (tt := (tTest (tOp rEq (tOp (rIxT K) (tOp (rIxL K) (tVar 0) (tVar 3)) (tC (.int 0))) (tVar 2)))) rfl sc_of_side.nd (pi_range1 (by rfl) T.z_range (pa_cons (pe_callB call_len_seq (by rfl) T.z_len (by decide +kernel) (pa_cons (pv 0) pa_nil)) pa_nil)) (blkOk_by (N := ["wishes", "pieces", "side", "number"]) (sc := defScope s_of_side) (by decide +kernel)) (fun _ _ _ _ _ => pg_name (i := 3) sc_of_side.nd rfl (Or.inl rfl)) (fun _ _ _ _ _ => (pts_one (pt_cmpR op_eq (pe_ix ix_tup (pe_ix ix_list (pv 0) (pv 3) (fun _ _ => rfl)) pe_int (fun _ _ => rfl)) (pv 2) (nomark _)))) (fun _ _ _ _ _ => (pe_ix ix_list (pv 1) (pv 3) (fun _ _ => rfl)))) pa_nil))))
theorem ok_even (T : Txt K mg c q) : FnOk P w K mg base (L2N.CX P w) 3 q.f_even q.d_even ["wishes", "pieces"] (spD K (R_even c)) := by
  refine T.F_even.okN sc_even (sp_len (len_even (c := c))) (fun cdv A outer s H vs Q E hr h => ?_)
  refine ⟨t_even K c E, ?_, run_body h (body_even)⟩
  exact (pss_cons (ps_expr (pe_call (ok_checked_pieces T) (hr.mono (by decide)) (by rfl) T.g_checked_pieces T.F_checked_pieces.kp T.b_checked_pieces .nil (L2N.passes_call (L2N.takes_of rfl rfl rfl rfl) (fun _ _ _ _ h => h)) (pa_cons (pv 0) (pa_cons (pv 1) pa_nil))))
      (pss_one (ps_ret (pe_cmpR op_eq (pe_call (ok_of_side T) (hr.mono (by decide)) (by rfl) T.g_of_side T.F_of_side.kp T.b_of_side .nil pass0 (pa_cons (pv 0) (pa_cons (pv 1) (pa_cons pe_str pa_nil)))) (pe_call (ok_of_side T) (hr.mono (by decide)) (by rfl) T.g_of_side T.F_of_side.kp T.b_of_side .nil pass0 (pa_cons (pv 0) (pa_cons (pv 1) (pa_cons pe_str pa_nil)))) (nomark _)))))
theorem ok_pairs (T : Txt K mg c q) : FnOk P w K mg base (L2N.CX P w) 4 q.f_pairs q.d_pairs ["wishes", "pieces"] (spD K (R_pairs c)) := by
  refine T.F_pairs.okN sc_pairs (sp_len (len_pairs (c := c))) (fun cdv A outer s H vs Q E hr h => ?_)
  refine ⟨t_pairs K c E, ?_, run_body h (body_pairs)⟩
  exact (pss_cons (ps_if (pt_not (pt_val (pe_call (ok_even T) (hr.mono (by decide)) (by rfl) T.g_even T.F_even.kp T.b_even .nil (L2N.passes_call (L2N.takes_of rfl rfl rfl rfl) (fun _ _ _ _ h => h)) (pa_cons (pv 0) (pa_cons (pv 1) pa_nil))))) (pss_one (ps_raiseN T.cc_Uneven rfl (L2N.takes_of rfl rfl rfl rfl) (by rfl))) pss_nil)
      (pss_cons (ps_setLc (i := 2) (own := [("number", 3)]) (g := gName 3) (tt := (tAnd (tTest (tOp rEq (tOp (rIxT K) (tOp (rIxL K) (tVar 0) (tVar 3)) (tC (.int 0))) (tC (.str "sell")))) (tTest (tOp (rI0 fun i j => .bl (decide (j < i))) (tOp (rIxL K) (tVar 1) (tVar 3)) (tC (.int 0)))))) rfl sc_pairs.nd rfl rfl (sw_true rfl rfl rfl (by decide +kernel)) (pi_range1 (by rfl) T.z_range (pa_cons (pe_callB call_len_seq (by rfl) T.z_len (by decide +kernel) (pa_cons (pv 0) pa_nil)) pa_nil)) (blkOk_by (N := ["wishes", "pieces", "sellers", "number", "left", "found", "at", "buyer", "seller", "many"]) (sc := defScope s_pairs) (by decide +kernel)) (fun _ _ _ _ _ => pg_name (i := 3) sc_pairs.nd rfl (Or.inl rfl)) (fun _ _ _ _ _ => (pts_one (PW.pt (pw_and (pt_cmpR op_eq (pe_ix ix_tup (pe_ix ix_list (pv 0) (pv 3) (fun _ _ => rfl)) pe_int (fun _ _ => rfl)) pe_str (nomark _)) (pw_and1 (pt_cmpR op_gt (pe_ix ix_list (pv 1) (pv 3) (fun _ _ => rfl)) pe_int (nomark _))))))) (fun _ _ _ _ _ => (pv 3)))
      (pss_cons (ps_set (i := 4) sc_pairs.nd rfl (by first | exact Or.inl rfl | exact Or.inr rfl) (pe_callTy call_list_of (by rfl) T.z_list (by decide +kernel) (pa_cons (pv 1) pa_nil)))
      (pss_cons (ps_set (i := 5) sc_pairs.nd rfl (by first | exact Or.inl rfl | exact Or.inr rfl) (pe_lst pa_nil))
      (pss_cons (ps_set (i := 6) sc_pairs.nd rfl (by first | exact Or.inl rfl | exact Or.inr rfl) pe_int)
      (pss_cons (ps_for (L2.passes_of rfl) rfl (pi_range1 (by rfl) T.z_range (pa_cons (pe_callB call_len_seq (by rfl) T.z_len (by decide +kernel) (pa_cons (pv 0) pa_nil)) pa_nil)) (pg_name (i := 7) sc_pairs.nd rfl (by first | exact Or.inl rfl | exact Or.inr rfl)) (pss_one (ps_while (L2.passes_of rfl) (PW.pt (pw_and (pt_cmpR op_eq (pe_ix ix_tup (pe_ix ix_list (pv 0) (pv 7) (fun _ _ => rfl)) pe_int (fun _ _ => rfl)) pe_str (nomark _)) (pw_and1 (pt_cmpR op_gt (pe_ix ix_list (pv 4) (pv 7) (fun _ _ => rfl)) pe_int (nomark _))))) (pss_cons (ps_set (i := 8) sc_pairs.nd rfl (by first | exact Or.inl rfl | exact Or.inr rfl) (pe_ix ix_list (pv 2) (pv 6) (fun _ _ => rfl)))
      (pss_cons (ps_set (i := 9) sc_pairs.nd rfl (by first | exact Or.inl rfl | exact Or.inr rfl) (pe_callB (call_min2 rfl) (by rfl) T.z_min (by decide +kernel) (pa_cons (pe_ix ix_list (pv 4) (pv 7) (fun _ _ => rfl)) (pa_cons (pe_ix ix_list (pv 4) (pv 8) (fun _ _ => rfl)) pa_nil))))
      (pss_cons (ps_expr (pe_bm PySem.F.plainAttrs_list PySem.F.slot_list_append PySem.F.type_list_append mt_append (pv 5) (pa_cons (pe_tup (pa_cons (pv 7) (pa_cons (pv 8) (pa_cons (pv 9) pa_nil)))) pa_nil)))
      (pss_cons (ps_asg (pe_op op_sub (pe_ix ix_list (pv 4) (pv 7) (fun _ _ => rfl)) (pv 9)) (pg_sub (pv 4) (pv 7) set_list))
      (pss_cons (ps_asg (pe_op op_sub (pe_ix ix_list (pv 4) (pv 8) (fun _ _ => rfl)) (pv 9)) (pg_sub (pv 4) (pv 8) set_list))
      (pss_one (ps_if (pt_cmpR op_eq (pe_ix ix_list (pv 4) (pv 8) (fun _ _ => rfl)) pe_int (nomark _)) (pss_one (ps_set (i := 6) sc_pairs.nd rfl (by first | exact Or.inl rfl | exact Or.inr rfl) (pe_op op_add (pv 6) pe_int))) pss_nil))))))))))
      (pss_one (ps_ret (pv 5)))))))))
theorem ok_covered (T : Txt K mg c q) : FnOk P w K mg base CX0 4 q.f_covered q.d_covered ["wishes", "price"] (spD K (R_covered c)) := by
  refine T.F_covered.ok sc_covered (sp_len (len_covered (c := c))) (fun cdv A outer s H vs Q E hr h => ?_)
  refine ⟨t_covered K c E0, ?_, run_body h (body_covered)⟩
  exact (pss_one (ps_ret (pe_cmpR op_le (pe_call (ok_wanted T) (hr.mono (by decide)) (by rfl) T.g_wanted T.F_wanted.kp T.b_wanted .nil pass0 (pa_cons (pv 0) (pa_cons (pe_op op_add (pv 1) pe_int) pa_nil))) (pe_call (ok_offered T) (hr.mono (by decide)) (by rfl) T.g_offered T.F_offered.kp T.b_offered .nil pass0 (pa_cons (pv 0) (pa_cons (pv 1) pa_nil))) (nomark _))))
theorem ok_taken_up (T : Txt K mg c q) : FnOk P w K mg base CX0 4 q.f_taken_up q.d_taken_up ["wishes", "price"] (spD K (R_taken_up c)) := by
  refine T.F_taken_up.ok sc_taken_up (sp_len (len_taken_up (c := c))) (fun cdv A outer s H vs Q E hr h => ?_)
  refine ⟨t_taken_up K c E0, ?_, run_body h (body_taken_up)⟩
  exact (pss_one (ps_ret (pe_cmpR op_le (pe_call (ok_offered T) (hr.mono (by decide)) (by rfl) T.g_offered T.F_offered.kp T.b_offered .nil pass0 (pa_cons (pv 0) (pa_cons (pe_op op_sub (pv 1) pe_int) pa_nil))) (pe_call (ok_wanted T) (hr.mono (by decide)) (by rfl) T.g_wanted T.F_wanted.kp T.b_wanted .nil pass0 (pa_cons (pv 0) (pa_cons (pv 1) pa_nil))) (nomark _))))
theorem ok_lowest (T : Txt K mg c q) : FnOk P w K mg base CX0 5 q.f_lowest q.d_lowest ["wishes"] (spD K (R_lowest c)) := by
  refine T.F_lowest.ok sc_lowest (sp_len (len_lowest (c := c))) (fun cdv A outer s H vs Q E hr h => ?_)
  refine ⟨t_lowest K c E0, ?_, run_body h (body_lowest)⟩
  exact (pss_cons (ps_set (i := 1) sc_lowest.nd rfl (by first | exact Or.inl rfl | exact Or.inr rfl) (pe_callB cr_sortedI (by rfl) T.z_sorted (by decide +kernel) (pa_cons (pe_op op_cat (pe_lst (pa_cons pe_int pa_nil)) (pe_lc (own := [("wish", 2)]) (g := gName 2) (tt := tYes) rfl sc_lowest.nd (pi_list (pv 0)) (blkOk_by (N := ["wishes", "limits", "wish", "low", "high", "middle"]) (sc := defScope s_lowest) (by decide +kernel)) (fun _ _ _ _ _ => pg_name (i := 2) sc_lowest.nd rfl (Or.inl rfl)) (fun _ _ _ _ _ => pts_nil) (fun _ _ _ _ _ => (pe_ix ix_tup (pv 2) pe_int (fun _ _ => rfl))))) pa_nil)))
      (pss_cons (ps_set (i := 3) sc_lowest.nd rfl (by first | exact Or.inl rfl | exact Or.inr rfl) pe_int)
      (pss_cons (ps_set (i := 4) sc_lowest.nd rfl (by first | exact Or.inl rfl | exact Or.inr rfl) (pe_op op_sub (pe_callB call_len_seq (by rfl) T.z_len (by decide +kernel) (pa_cons (pv 1) pa_nil)) pe_int))
      (pss_cons (ps_while PassesOwn.never (pt_cmpR op_lt (pv 3) (pv 4) (nomark _)) (pss_cons (ps_set (i := 5) sc_lowest.nd rfl (by first | exact Or.inl rfl | exact Or.inr rfl) (pe_op op_fdiv (pe_op op_add (pv 3) (pv 4)) pe_int))
      (pss_one (ps_if (pt_val (pe_call (ok_covered T) (hr.mono (by decide)) (by rfl) T.g_covered T.F_covered.kp T.b_covered .nil pass0 (pa_cons (pv 0) (pa_cons (pe_ix ix_list (pv 1) (pv 5) (fun _ _ => rfl)) pa_nil)))) (pss_one (ps_set (i := 4) sc_lowest.nd rfl (by first | exact Or.inl rfl | exact Or.inr rfl) (pv 5))) (pss_one (ps_set (i := 3) sc_lowest.nd rfl (by first | exact Or.inl rfl | exact Or.inr rfl) (pe_op op_add (pv 5) pe_int)))))))
      (pss_one (ps_ret (pe_ix ix_list (pv 1) (pv 3) (fun _ _ => rfl))))))))
theorem ok_highest (T : Txt K mg c q) : FnOk P w K mg base CX0 5 q.f_highest q.d_highest ["wishes"] (spD K (R_highest c)) := by
  refine T.F_highest.ok sc_highest (sp_len (len_highest (c := c))) (fun cdv A outer s H vs Q E hr h => ?_)
  obtain ⟨_, hm_TOP⟩ := T.m_TOP
  refine ⟨t_highest K c E0, ?_, run_body h (body_highest)⟩
  exact (pss_cons (ps_set (i := 1) sc_highest.nd rfl (by first | exact Or.inl rfl | exact Or.inr rfl) (pe_callB cr_sortedI (by rfl) T.z_sorted (by decide +kernel) (pa_cons (pe_op op_cat (pe_lc (own := [("wish", 2)]) (g := gName 2) (tt := tYes) rfl sc_highest.nd (pi_list (pv 0)) (blkOk_by (N := ["wishes", "limits", "wish", "low", "high", "middle"]) (sc := defScope s_highest) (by decide +kernel)) (fun _ _ _ _ _ => pg_name (i := 2) sc_highest.nd rfl (Or.inl rfl)) (fun _ _ _ _ _ => pts_nil) (fun _ _ _ _ _ => (pe_ix ix_tup (pv 2) pe_int (fun _ _ => rfl)))) (pe_lst (pa_cons (pe_glob rfl hm_TOP ⟨_, rfl⟩) pa_nil))) pa_nil)))
      (pss_cons (ps_set (i := 3) sc_highest.nd rfl (by first | exact Or.inl rfl | exact Or.inr rfl) pe_int)
      (pss_cons (ps_set (i := 4) sc_highest.nd rfl (by first | exact Or.inl rfl | exact Or.inr rfl) (pe_op op_sub (pe_callB call_len_seq (by rfl) T.z_len (by decide +kernel) (pa_cons (pv 1) pa_nil)) pe_int))
      (pss_cons (ps_while PassesOwn.never (pt_cmpR op_lt (pv 3) (pv 4) (nomark _)) (pss_cons (ps_set (i := 5) sc_highest.nd rfl (by first | exact Or.inl rfl | exact Or.inr rfl) (pe_op op_fdiv (pe_op op_add (pe_op op_add (pv 3) (pv 4)) pe_int) pe_int))
      (pss_one (ps_if (pt_val (pe_call (ok_taken_up T) (hr.mono (by decide)) (by rfl) T.g_taken_up T.F_taken_up.kp T.b_taken_up .nil pass0 (pa_cons (pv 0) (pa_cons (pe_ix ix_list (pv 1) (pv 5) (fun _ _ => rfl)) pa_nil)))) (pss_one (ps_set (i := 3) sc_highest.nd rfl (by first | exact Or.inl rfl | exact Or.inr rfl) (pv 5))) (pss_one (ps_set (i := 4) sc_highest.nd rfl (by first | exact Or.inl rfl | exact Or.inr rfl) (pe_op op_sub (pv 5) pe_int)))))))
      (pss_one (ps_ret (pe_ix ix_list (pv 1) (pv 3) (fun _ _ => rfl))))))))
theorem ok_price_by (T : Txt K mg c q) : FnOk P w K mg base (L2N.CX P w) 6 q.f_price_by q.d_price_by ["wishes", "old"] (spD K (R_price_by c)) := by
  refine T.F_price_by.okN sc_price_by (sp_len (len_price_by (c := c))) (fun cdv A outer s H vs Q E hr h => ?_)
  refine ⟨t_price_by K c E, ?_, run_body h (body_price_by)⟩
  exact (pss_cons (ps_expr (pe_call (ok_checked_price T) (hr.mono (by decide)) (by rfl) T.g_checked_price T.F_checked_price.kp T.b_checked_price .nil (L2N.passes_call (L2N.takes_of rfl rfl rfl rfl) (fun _ _ _ _ h => h)) (pa_cons (pv 1) pa_nil)))
      (pss_one (ps_ret (pe_callB (call_max2 rfl) (by rfl) T.z_max (by decide +kernel) (pa_cons (pe_call (ok_lowest T) (hr.mono (by decide)) (by rfl) T.g_lowest T.F_lowest.kp T.b_lowest .nil pass0 (pa_cons (pv 0) pa_nil)) (pa_cons (pe_callB (call_min2 rfl) (by rfl) T.z_min (by decide +kernel) (pa_cons (pv 1) (pa_cons (pe_call (ok_highest T) (hr.mono (by decide)) (by rfl) T.g_highest T.F_highest.kp T.b_highest .nil pass0 (pa_cons (pv 0) pa_nil)) pa_nil))) pa_nil))))))
theorem ok_Book___init__ (T : Txt K mg c q) : FnOk P w K mg base (L2N.CX P w) 3 q.f_Book___init__ q.d_Book___init__ ["self", "old"] (spI K c.Book (R_checked_price c)) := by
  refine T.F_Book___init__.okN sc_Book___init__ (spI_len) (fun cdv A outer s H vs Q E hr h => ?_)
  refine ⟨t_Book___init__ K c E, ?_, run_init init_res h⟩
  exact (pss_cons (ps_fld (pv 0) (pe_call (ok_checked_price T) (hr.mono (by decide)) (by rfl) T.g_checked_price T.F_checked_price.kp T.b_checked_price .nil (L2N.passes_call (L2N.takes_of rfl rfl rfl rfl) (fun _ _ _ _ h => h)) (pa_cons (pv 1) pa_nil)) rfl)
      (pss_cons (ps_fld (pv 0) (pe_lst pa_nil) rfl)
      (pss_cons (ps_fld (pv 0) (pe_lst pa_nil) rfl)
      (pss_one (ps_fld (pv 0) (pe_lst pa_nil) rfl)))))
theorem ok_Book_add (T : Txt K mg c q) : FnOk P w K mg base (L2N.CX P w) 3 q.f_Book_add q.d_Book_add ["self", "wish"] (spM K (R_Book_add c)) := by
  refine T.F_Book_add.okN sc_Book_add (spM_len (len_Book_add (c := c))) (fun cdv A outer s H vs Q E hr h => ?_)
  refine ⟨t_Book_add K c E, ?_, run_bodyM h (body_Book_add)⟩
  exact (pss_cons (ps_expr (pe_bm PySem.F.plainAttrs_list PySem.F.slot_list_append PySem.F.type_list_append mt_append (pe_fld (pv 0) rfl) (pa_cons (pe_call (ok_checked T) (hr.mono (by decide)) (by rfl) T.g_checked T.F_checked.kp T.b_checked .nil (L2N.passes_call (L2N.takes_of rfl rfl rfl rfl) (fun _ _ _ _ h => h)) (pa_cons (pv 1) pa_nil)) pa_nil)))
      (pss_cons (ps_expr (pe_bm PySem.F.plainAttrs_list PySem.F.slot_list_append PySem.F.type_list_append mt_append (pe_fld (pv 0) rfl) (pa_cons (pe_ix ix_tup (pv 1) pe_int (fun _ _ => rfl)) pa_nil)))
      (pss_cons (ps_expr (pe_bm PySem.F.plainAttrs_list PySem.F.slot_list_append PySem.F.type_list_append mt_append (pe_fld (pv 0) rfl) (pa_cons pe_int pa_nil)))
      (pss_one (ps_ret (pe_op op_sub (pe_callB call_len_seq (by rfl) T.z_len (by decide +kernel) (pa_cons (pe_fld (pv 0) rfl) pa_nil)) pe_int))))))
theorem ok_Book_known (T : Txt K mg c q) : FnOk P w K mg base (L2N.CX P w) 2 q.f_Book_known q.d_Book_known ["self", "number"] (spD K (R_Book_known c)) := by
  refine T.F_Book_known.okN sc_Book_known (sp_len (len_Book_known (c := c))) (fun cdv A outer s H vs Q E hr h => ?_)
  refine ⟨t_Book_known K c E, ?_, run_body h (body_Book_known)⟩
  exact (pss_cons (ps_if (pt_not (pt_val (pe_call (ok_whole_within T) (hr.mono (by decide)) (by rfl) T.g_whole_within T.F_whole_within.kp T.b_whole_within .nil pass0 (pa_cons (pv 1) (pa_cons pe_int (pa_cons (pe_op op_sub (pe_callB call_len_seq (by rfl) T.z_len (by decide +kernel) (pa_cons (pe_fld (pv 0) rfl) pa_nil)) pe_int) pa_nil)))))) (pss_one (ps_raiseN T.cc_NoSuch rfl (L2N.takes_of rfl rfl rfl rfl) (by rfl))) pss_nil)
      (pss_one (ps_ret (pv 1))))
theorem ok_Book_left (T : Txt K mg c q) : FnOk P w K mg base (L2N.CX P w) 3 q.f_Book_left q.d_Book_left ["self", "number"] (spD K (R_Book_left c)) := by
  refine T.F_Book_left.okN sc_Book_left (sp_len (len_Book_left (c := c))) (fun cdv A outer s H vs Q E hr h => ?_)
  refine ⟨t_Book_left K c E, ?_, run_body h (body_Book_left)⟩
  exact (pss_one (ps_ret (pe_ix ix_list (pe_fld (pv 0) rfl) (pe_meth (pv 0) T.bk.cls T.me_Book_known (ok_Book_known T) (hr.mono (by decide)) T.b_Book_known .nil (L2N.passes_call (L2N.takes_of rfl rfl rfl rfl) (fun _ _ _ _ h => h)) (pa_cons (pv 1) pa_nil)) (fun _ _ => rfl))))
theorem ok_Book_paid (T : Txt K mg c q) : FnOk P w K mg base (L2N.CX P w) 3 q.f_Book_paid q.d_Book_paid ["self", "number"] (spD K (R_Book_paid c)) := by
  refine T.F_Book_paid.okN sc_Book_paid (sp_len (len_Book_paid (c := c))) (fun cdv A outer s H vs Q E hr h => ?_)
  refine ⟨t_Book_paid K c E, ?_, run_body h (body_Book_paid)⟩
  exact (pss_one (ps_ret (pe_ix ix_list (pe_fld (pv 0) rfl) (pe_meth (pv 0) T.bk.cls T.me_Book_known (ok_Book_known T) (hr.mono (by decide)) T.b_Book_known .nil (L2N.passes_call (L2N.takes_of rfl rfl rfl rfl) (fun _ _ _ _ h => h)) (pa_cons (pv 1) pa_nil)) (fun _ _ => rfl))))
theorem ok_Book_drop (T : Txt K mg c q) : FnOk P w K mg base (L2N.CX P w) 4 q.f_Book_drop q.d_Book_drop ["self", "number"] (spM K (R_Book_drop c)) := by
  refine T.F_Book_drop.okN sc_Book_drop (spM_len (len_Book_drop (c := c))) (fun cdv A outer s H vs Q E hr h => ?_)
  refine ⟨t_Book_drop K c E, ?_, run_bodyM h (body_Book_drop)⟩
  exact (pss_cons (ps_set (i := 2) sc_Book_drop.nd rfl (by first | exact Or.inl rfl | exact Or.inr rfl) (pe_meth (pv 0) T.bk.cls T.me_Book_left (ok_Book_left T) (hr.mono (by decide)) T.b_Book_left .nil (L2N.passes_call (L2N.takes_of rfl rfl rfl rfl) (fun _ _ _ _ h => h)) (pa_cons (pv 1) pa_nil)))
      (pss_cons (ps_if (pt_cmpR op_eq (pv 2) pe_int (nomark _)) (pss_one (ps_raiseN T.cc_NoSuch rfl (L2N.takes_of rfl rfl rfl rfl) (by rfl))) pss_nil)
      (pss_cons (ps_asg pe_int (pg_sub (pe_fld (pv 0) rfl) (pv 1) set_list))
      (pss_one (ps_ret (pv 2))))))
theorem ok_Book_standing (T : Txt K mg c q) : FnOk P w K mg base CX0 1 q.f_Book_standing q.d_Book_standing ["self"] (spD K (R_Book_standing c)) := by
  refine T.F_Book_standing.ok sc_Book_standing (sp_len (len_Book_standing (c := c))) (fun cdv A outer s H vs Q E hr h => ?_)
  refine ⟨t_Book_standing K c E0, ?_, run_body h (body_Book_standing)⟩
  exact (pss_cons (ps_set (i := 1) sc_Book_standing.nd rfl (by first | exact Or.inl rfl | exact Or.inr rfl) (pe_lst pa_nil))
      (pss_cons (ps_for PassesOwn.never rfl (pi_range1 (by rfl) T.z_range (pa_cons (pe_callB call_len_seq (by rfl) T.z_len (by decide +kernel) (pa_cons (pe_fld (pv 0) rfl) pa_nil)) pa_nil)) (pg_name (i := 2) sc_Book_standing.nd rfl (by first | exact Or.inl rfl | exact Or.inr rfl)) (pss_one (ps_if (pt_cmpR op_gt (pe_ix ix_list (pe_fld (pv 0) rfl) (pv 2) (fun _ _ => rfl)) pe_int (nomark _)) (pss_cons (ps_set (i := 3) sc_Book_standing.nd rfl (by first | exact Or.inl rfl | exact Or.inr rfl) (pe_ix ix_list (pe_fld (pv 0) rfl) (pv 2) (fun _ _ => rfl)))
      (pss_one (ps_expr (pe_bm PySem.F.plainAttrs_list PySem.F.slot_list_append PySem.F.type_list_append mt_append (pv 1) (pa_cons (pe_tup (pa_cons (pv 2) (pa_cons (pe_tup (pa_cons (pe_ix ix_tup (pv 3) pe_int (fun _ _ => rfl)) (pa_cons (pe_ix ix_tup (pv 3) pe_int (fun _ _ => rfl)) (pa_cons (pe_ix ix_list (pe_fld (pv 0) rfl) (pv 2) (fun _ _ => rfl)) pa_nil)))) pa_nil))) pa_nil))))) pss_nil)))
      (pss_one (ps_ret (pv 1)))))
theorem ok_Book_ring (T : Txt K mg c q) : FnOk P w K mg base (L2N.CX P w) 7 q.f_Book_ring q.d_Book_ring ["self"] (spM K (R_Book_ring c)) := by
  refine T.F_Book_ring.okN sc_Book_ring (spM_len (len_Book_ring (c := c))) (fun cdv A outer s H vs Q E hr h => ?_)
  refine ⟨t_Book_ring K c E, ?_, run_bodyM h (body_Book_ring)⟩
  exact (pss_cons (ps_set (i := 1) sc_Book_ring.nd rfl (by first | exact Or.inl rfl | exact Or.inr rfl) (pe_meth0 (pv 0) T.bk.cls T.me_Book_standing (ok_Book_standing T) (hr.mono (by decide)) T.b_Book_standing .nil pass0))
      (pss_cons (ps_setLc (i := 2) (own := [("row", 3)]) (g := gName 3) (tt := tYes) rfl sc_Book_ring.nd rfl rfl (sw_true rfl rfl rfl (by decide +kernel)) (pi_list (pv 1)) (blkOk_by (N := ["self", "rows", "wishes", "row", "found", "deal", "buyer", "seller", "number"]) (sc := defScope s_Book_ring) (by decide +kernel)) (fun _ _ _ _ _ => pg_name (i := 3) sc_Book_ring.nd rfl (Or.inl rfl)) (fun _ _ _ _ _ => pts_nil) (fun _ _ _ _ _ => (pe_ix ix_tup (pv 3) pe_int (fun _ _ => rfl))))
      (pss_cons (ps_fld (pv 0) (pe_call (ok_price_by T) (hr.mono (by decide)) (by rfl) T.g_price_by T.F_price_by.kp T.b_price_by .nil (L2N.passes_call (L2N.takes_of rfl rfl rfl rfl) (fun _ _ _ _ h => h)) (pa_cons (pv 2) (pa_cons (pe_fld (pv 0) rfl) pa_nil))) rfl)
      (pss_cons (ps_set (i := 4) sc_Book_ring.nd rfl (by first | exact Or.inl rfl | exact Or.inr rfl) (pe_lst pa_nil))
      (pss_cons (ps_for (L2.passes_of rfl) rfl (pi_list (pe_call (ok_pairs T) (hr.mono (by decide)) (by rfl) T.g_pairs T.F_pairs.kp T.b_pairs .nil (L2N.passes_call (L2N.takes_of rfl rfl rfl rfl) (fun _ _ _ _ h => h)) (pa_cons (pv 2) (pa_cons (pe_call (ok_pieces_at T) (hr.mono (by decide)) (by rfl) T.g_pieces_at T.F_pieces_at.kp T.b_pieces_at .nil (L2N.passes_call (L2N.takes_of rfl rfl rfl rfl) (fun _ _ _ _ h => h)) (pa_cons (pv 2) (pa_cons (pe_fld (pv 0) rfl) pa_nil))) pa_nil)))) (pg_name (i := 5) sc_Book_ring.nd rfl (by first | exact Or.inl rfl | exact Or.inr rfl)) (pss_cons (ps_set (i := 6) sc_Book_ring.nd rfl (by first | exact Or.inl rfl | exact Or.inr rfl) (pe_ix ix_tup (pe_ix ix_list (pv 1) (pe_ix ix_tup (pv 5) pe_int (fun _ _ => rfl)) (fun _ _ => rfl)) pe_int (fun _ _ => rfl)))
      (pss_cons (ps_set (i := 7) sc_Book_ring.nd rfl (by first | exact Or.inl rfl | exact Or.inr rfl) (pe_ix ix_tup (pe_ix ix_list (pv 1) (pe_ix ix_tup (pv 5) pe_int (fun _ _ => rfl)) (fun _ _ => rfl)) pe_int (fun _ _ => rfl)))
      (pss_cons (ps_for (L2.passes_of rfl) rfl (pi_tup (pe_tup (pa_cons (pv 6) (pa_cons (pv 7) pa_nil)))) (pg_name (i := 8) sc_Book_ring.nd rfl (by first | exact Or.inl rfl | exact Or.inr rfl)) (pss_cons (ps_asg (pe_op op_sub (pe_ix ix_list (pe_fld (pv 0) rfl) (pv 8) (fun _ _ => rfl)) (pe_ix ix_tup (pv 5) pe_int (fun _ _ => rfl))) (pg_sub (pe_fld (pv 0) rfl) (pv 8) set_list))
      (pss_one (ps_asg (pe_op op_add (pe_ix ix_list (pe_fld (pv 0) rfl) (pv 8) (fun _ _ => rfl)) (pe_op op_mul (pe_fld (pv 0) rfl) (pe_ix ix_tup (pv 5) pe_int (fun _ _ => rfl)))) (pg_sub (pe_fld (pv 0) rfl) (pv 8) set_list)))))
      (pss_one (ps_expr (pe_bm PySem.F.plainAttrs_list PySem.F.slot_list_append PySem.F.type_list_append mt_append (pv 4) (pa_cons (pe_tup (pa_cons (pv 6) (pa_cons (pv 7) (pa_cons (pe_ix ix_tup (pv 5) pe_int (fun _ _ => rfl)) pa_nil)))) pa_nil))))))))
      (pss_one (ps_ret (pv 4))))))))
theorem ok__law_cell_at (T : Txt K mg c q) : FnOk P w K mg base CX0 1 q.f__law_cell_at q.d__law_cell_at ["_law_script", "_law_k"] (spD K (R__law_cell_at c)) := by
  refine T.F__law_cell_at.ok sc__law_cell_at (sp_len (len__law_cell_at (c := c))) (fun cdv A outer s H vs Q E hr h => ?_)
  refine ⟨t__law_cell_at K c E0, ?_, run_body h (body__law_cell_at)⟩
  exact (pss_cons (ps_if (pt_cmpR op_lt (pv 1) (pe_callB call_len_seq (by rfl) T.z_len (by decide +kernel) (pa_cons (pv 0) pa_nil)) (nomark _)) (pss_one (ps_ret (pe_ix ix_list (pv 0) (pv 1) (fun _ _ => rfl)))) pss_nil)
      (pss_one (ps_ret pe_int)))
theorem ok__law_whole (T : Txt K mg c q) : FnOk P w K mg base CX0 1 q.f__law_whole q.d__law_whole ["_law_thing"] (spD K (R__law_whole c)) := by
  refine T.F__law_whole.ok sc__law_whole (sp_len (len__law_whole (c := c))) (fun cdv A outer s H vs Q E hr h => ?_)
  refine ⟨t__law_whole K c E0, ?_, run_body h (body__law_whole)⟩
  exact (pss_one (ps_ret (pe_and (pe_callB call_isi (by rfl) T.z_isinstance (by decide +kernel) (pa_cons (pv 0) (pa_cons (pe_bltn (v := .ty "int") (by rfl) T.z_int (by decide +kernel) rfl) pa_nil))) (pe_one (pe_not (pe_callB call_isi (by rfl) T.z_isinstance (by decide +kernel) (pa_cons (pv 0) (pa_cons (pe_bltn (v := .ty "bool") (by rfl) T.z_bool (by decide +kernel) rfl) pa_nil))))))))
theorem ok__law_wish_by (T : Txt K mg c q) : FnOk P w K mg base CX0 1 q.f__law_wish_by q.d__law_wish_by ["_law_cell"] (spD K (R__law_wish_by c)) := by
  refine T.F__law_wish_by.ok sc__law_wish_by (sp_len (len__law_wish_by (c := c))) (fun cdv A outer s H vs Q E hr h => ?_)
  refine ⟨t__law_wish_by K c E0, ?_, run_body h (body__law_wish_by)⟩
  exact (pss_cons (ps_set (i := 1) sc__law_wish_by.nd rfl (by first | exact Or.inl rfl | exact Or.inr rfl) (pe_ix ix_list (pe_lst (pa_cons pe_str (pa_cons pe_str pa_nil))) (pe_op op_mod (pv 0) pe_int) (fun _ _ => rfl)))
      (pss_cons (ps_set (i := 2) sc__law_wish_by.nd rfl (by first | exact Or.inl rfl | exact Or.inr rfl) (pe_op op_mod (pe_op op_mul (pv 0) pe_int) pe_int))
      (pss_cons (ps_set (i := 3) sc__law_wish_by.nd rfl (by first | exact Or.inl rfl | exact Or.inr rfl) (pe_op op_add pe_int (pe_op op_mod (pe_op op_fdiv (pv 2) pe_int) pe_int)))
      (pss_cons (ps_if (pt_cmpR op_eq (pe_op op_mod (pv 2) pe_int) pe_int (nomark _)) (pss_one (ps_set (i := 3) sc__law_wish_by.nd rfl (by first | exact Or.inl rfl | exact Or.inr rfl) (pe_op op_mod (pe_op op_mod (pe_op op_mul (pv 0) pe_int) pe_int) pe_int))) pss_nil)
      (pss_cons (ps_if (pt_cmpR op_eq (pe_op op_mod (pv 2) pe_int) pe_int (nomark _)) (pss_one (ps_set (i := 3) sc__law_wish_by.nd rfl (by first | exact Or.inl rfl | exact Or.inr rfl) (pe_ix ix_list (pe_lst (pa_cons pe_int (pa_cons pe_int (pa_cons pe_int (pa_cons pe_int pa_nil))))) (pe_op op_mod (pe_op op_fdiv (pv 2) pe_int) pe_int) (fun _ _ => rfl)))) pss_nil)
      (pss_cons (ps_set (i := 4) sc__law_wish_by.nd rfl (by first | exact Or.inl rfl | exact Or.inr rfl) (pe_op op_add pe_int (pe_op op_mod (pe_op op_fdiv (pv 2) pe_int) pe_int)))
      (pss_cons (ps_if (pt_cmpR op_eq (pe_op op_mod (pe_op op_fdiv (pv 2) pe_int) pe_int) pe_int (nomark _)) (pss_one (ps_set (i := 4) sc__law_wish_by.nd rfl (by first | exact Or.inl rfl | exact Or.inr rfl) (pe_op op_add pe_int (pe_op op_mod (pe_op op_mod (pe_op op_mul (pv 0) pe_int) pe_int) pe_int)))) pss_nil)
      (pss_cons (ps_if (pt_cmpR op_eq (pe_op op_mod (pe_op op_fdiv (pv 2) pe_int) pe_int) pe_int (nomark _)) (pss_one (ps_set (i := 4) sc__law_wish_by.nd rfl (by first | exact Or.inl rfl | exact Or.inr rfl) pe_int)) pss_nil)
      (pss_one (ps_ret (pe_tup (pa_cons (pv 1) (pa_cons (pv 3) (pa_cons (pv 4) pa_nil))))))))))))))
theorem ok__law_sum (T : Txt K mg c q) : FnOk P w K mg base CX0 1 q.f__law_sum q.d__law_sum ["_law_rows", "_law_side", "_law_price"] (spD K (R__law_sum c)) := by
  refine T.F__law_sum.ok sc__law_sum (sp_len (len__law_sum (c := c))) (fun cdv A outer s H vs Q E hr h => ?_)
  refine ⟨t__law_sum K c E0, ?_, run_body h (body__law_sum)⟩
  exact (pss_cons (ps_set (i := 3) sc__law_sum.nd rfl (by first | exact Or.inl rfl | exact Or.inr rfl) pe_int)
      (pss_cons (ps_for PassesOwn.never rfl (pi_list (pv 0)) (pg_name (i := 4) sc__law_sum.nd rfl (by first | exact Or.inl rfl | exact Or.inr rfl)) (pss_cons (ps_if (PW.pt (pw_and (pt_cmpR op_eq (pv 1) pe_str (nomark _)) (pw_and (pt_cmpR op_eq (pe_ix ix_tup (pe_ix ix_tup (pv 4) pe_int (fun _ _ => rfl)) pe_int (fun _ _ => rfl)) pe_str (nomark _)) (pw_and1 (pt_cmpR op_ge (pe_ix ix_tup (pe_ix ix_tup (pv 4) pe_int (fun _ _ => rfl)) pe_int (fun _ _ => rfl)) (pv 2) (nomark _)))))) (pss_one (ps_set (i := 3) sc__law_sum.nd rfl (by first | exact Or.inl rfl | exact Or.inr rfl) (pe_op op_add (pv 3) (pe_ix ix_tup (pe_ix ix_tup (pv 4) pe_int (fun _ _ => rfl)) pe_int (fun _ _ => rfl))))) pss_nil)
      (pss_one (ps_if (PW.pt (pw_and (pt_cmpR op_eq (pv 1) pe_str (nomark _)) (pw_and (pt_cmpR op_eq (pe_ix ix_tup (pe_ix ix_tup (pv 4) pe_int (fun _ _ => rfl)) pe_int (fun _ _ => rfl)) pe_str (nomark _)) (pw_and1 (pt_cmpR op_le (pe_ix ix_tup (pe_ix ix_tup (pv 4) pe_int (fun _ _ => rfl)) pe_int (fun _ _ => rfl)) (pv 2) (nomark _)))))) (pss_one (ps_set (i := 3) sc__law_sum.nd rfl (by first | exact Or.inl rfl | exact Or.inr rfl) (pe_op op_add (pv 3) (pe_ix ix_tup (pe_ix ix_tup (pv 4) pe_int (fun _ _ => rfl)) pe_int (fun _ _ => rfl))))) pss_nil))))
      (pss_one (ps_ret (pv 3)))))
theorem ok__law_clears (T : Txt K mg c q) : FnOk P w K mg base CX0 2 q.f__law_clears q.d__law_clears ["_law_rows", "_law_price"] (spD K (R__law_clears c)) := by
  refine T.F__law_clears.ok sc__law_clears (sp_len (len__law_clears (c := c))) (fun cdv A outer s H vs Q E hr h => ?_)
  refine ⟨t__law_clears K c E0, ?_, run_body h (body__law_clears)⟩
  exact (pss_cons (ps_if (pt_cmpR op_gt (pe_call (ok__law_sum T) (hr.mono (by decide)) (by rfl) T.g__law_sum T.F__law_sum.kp T.b__law_sum .nil pass0 (pa_cons (pv 0) (pa_cons pe_str (pa_cons (pe_op op_add (pv 1) pe_int) pa_nil)))) (pe_call (ok__law_sum T) (hr.mono (by decide)) (by rfl) T.g__law_sum T.F__law_sum.kp T.b__law_sum .nil pass0 (pa_cons (pv 0) (pa_cons pe_str (pa_cons (pv 1) pa_nil)))) (nomark _)) (pss_one (ps_ret pe_bl)) pss_nil)
      (pss_one (ps_ret (pe_cmpR op_le (pe_call (ok__law_sum T) (hr.mono (by decide)) (by rfl) T.g__law_sum T.F__law_sum.kp T.b__law_sum .nil pass0 (pa_cons (pv 0) (pa_cons pe_str (pa_cons (pe_op op_sub (pv 1) pe_int) pa_nil)))) (pe_call (ok__law_sum T) (hr.mono (by decide)) (by rfl) T.g__law_sum T.F__law_sum.kp T.b__law_sum .nil pass0 (pa_cons (pv 0) (pa_cons pe_str (pa_cons (pv 1) pa_nil)))) (nomark _)))))
theorem ok__law_priced (T : Txt K mg c q) : FnOk P w K mg base CX0 3 q.f__law_priced q.d__law_priced ["_law_rows", "_law_old", "_law_price"] (spD K (R__law_priced c)) := by
  refine T.F__law_priced.ok sc__law_priced (sp_len (len__law_priced (c := c))) (fun cdv A outer s H vs Q E hr h => ?_)
  refine ⟨t__law_priced K c E0, ?_, run_body h (body__law_priced)⟩
  exact (pss_cons (ps_if (PW.pt (pw_or (pt_not (pt_val (pe_call (ok__law_whole T) (hr.mono (by decide)) (by rfl) T.g__law_whole T.F__law_whole.kp T.b__law_whole .nil pass0 (pa_cons (pv 2) pa_nil)))) (pw_or (pt_not (pt_chain op_le op_le pe_int (pv 2) pe_int)) (pw_or1 (pt_not (pt_val (pe_call (ok__law_clears T) (hr.mono (by decide)) (by rfl) T.g__law_clears T.F__law_clears.kp T.b__law_clears .nil pass0 (pa_cons (pv 0) (pa_cons (pv 2) pa_nil))))))))) (pss_one (ps_ret pe_bl)) pss_nil)
      (pss_cons (ps_if (PW.pt (pw_or (PW.pt (pw_and (pt_cmpR op_lt (pv 2) (pv 1) (nomark _)) (pw_and1 (pt_val (pe_call (ok__law_clears T) (hr.mono (by decide)) (by rfl) T.g__law_clears T.F__law_clears.kp T.b__law_clears .nil pass0 (pa_cons (pv 0) (pa_cons (pe_op op_add (pv 2) pe_int) pa_nil))))))) (pw_or1 (PW.pt (pw_and (pt_cmpR op_gt (pv 2) (pv 1) (nomark _)) (pw_and1 (pt_val (pe_call (ok__law_clears T) (hr.mono (by decide)) (by rfl) T.g__law_clears T.F__law_clears.kp T.b__law_clears .nil pass0 (pa_cons (pv 0) (pa_cons (pe_op op_sub (pv 2) pe_int) pa_nil)))))))))) (pss_one (ps_ret pe_bl)) pss_nil)
      (pss_one (ps_ret (pe_or (pe_cmpR op_eq (pv 2) (pv 1) (nomark _)) (pe_one (pe_not (pe_call (ok__law_clears T) (hr.mono (by decide)) (by rfl) T.g__law_clears T.F__law_clears.kp T.b__law_clears .nil pass0 (pa_cons (pv 0) (pa_cons (pv 1) pa_nil))))))))))
theorem ok__law_deal_good (T : Txt K mg c q) : FnOk P w K mg base CX0 2 q.f__law_deal_good q.d__law_deal_good ["_law_deal", "_law_stood_here", "_law_price"] (spM K (R__law_deal_good c)) := by
  refine T.F__law_deal_good.ok sc__law_deal_good (spM_len (len__law_deal_good (c := c))) (fun cdv A outer s H vs Q E hr h => ?_)
  refine ⟨t__law_deal_good K c E0, ?_, run_bodyM h (body__law_deal_good)⟩
  exact (pss_cons (ps_if (PW.pt (pw_or (pt_not (pt_val (pe_callB call_isi (by rfl) T.z_isinstance (by decide +kernel) (pa_cons (pv 0) (pa_cons (pe_bltn (v := .ty "tuple") (by rfl) T.z_tuple (by decide +kernel) rfl) pa_nil))))) (pw_or1 (pt_cmpR op_ne (pe_callB call_len_seq (by rfl) T.z_len (by decide +kernel) (pa_cons (pv 0) pa_nil)) pe_int (nomark _))))) (pss_one (ps_ret pe_bl)) pss_nil)
      (pss_cons (ps_for PassesOwn.never rfl (pi_tup (pv 0)) (pg_name (i := 3) sc__law_deal_good.nd rfl (by first | exact Or.inl rfl | exact Or.inr rfl)) (pss_one (ps_if (pt_not (pt_val (pe_call (ok__law_whole T) (hr.mono (by decide)) (by rfl) T.g__law_whole T.F__law_whole.kp T.b__law_whole .nil pass0 (pa_cons (pv 3) pa_nil)))) (pss_one (ps_ret pe_bl)) pss_nil)))
      (pss_cons (ps_if (PW.pt (pw_or (pt_cmp (pc_dnotin (hu_of hr) (pe_ix ix_tup (pv 0) pe_int (fun _ _ => rfl)) (pv 1))) (pw_or (pt_cmp (pc_dnotin (hu_of hr) (pe_ix ix_tup (pv 0) pe_int (fun _ _ => rfl)) (pv 1))) (pw_or1 (pt_cmpR op_lt (pe_ix ix_tup (pv 0) pe_int (fun _ _ => rfl)) pe_int (nomark _)))))) (pss_one (ps_ret pe_bl)) pss_nil)
      (pss_cons (ps_set (i := 4) sc__law_deal_good.nd rfl (by first | exact Or.inl rfl | exact Or.inr rfl) (pe_dget (hu_of hr) (pv 1) (pe_ix ix_tup (pv 0) pe_int (fun _ _ => rfl)) (fun _ _ => rfl)))
      (pss_cons (ps_set (i := 5) sc__law_deal_good.nd rfl (by first | exact Or.inl rfl | exact Or.inr rfl) (pe_dget (hu_of hr) (pv 1) (pe_ix ix_tup (pv 0) pe_int (fun _ _ => rfl)) (fun _ _ => rfl)))
      (pss_one (ps_ret (pe_and (pe_cmpR op_eq (pe_ix ix_tup (pv 4) pe_int (fun _ _ => rfl)) pe_str (nomark _)) (pe_and (pe_cmpR op_eq (pe_ix ix_tup (pv 5) pe_int (fun _ _ => rfl)) pe_str (nomark _)) (pe_one (pe_chain op_le op_le (pe_ix ix_tup (pv 5) pe_int (fun _ _ => rfl)) (pv 2) (pe_ix ix_tup (pv 4) pe_int (fun _ _ => rfl)))))))))))))
theorem ok__law_quiet (T : Txt K mg c q) : FnOk P w K mg base CX0 2 q.f__law_quiet q.d__law_quiet ["_law_book", "_law_price"] (spD K (R__law_quiet c)) := by
  refine T.F__law_quiet.ok sc__law_quiet (sp_len (len__law_quiet (c := c))) (fun cdv A outer s H vs Q E hr h => ?_)
  refine ⟨t__law_quiet K c E0, ?_, run_body h (body__law_quiet)⟩
  exact (pss_cons (ps_set (i := 2) sc__law_quiet.nd rfl (by first | exact Or.inl rfl | exact Or.inr rfl) (pe_meth0 (pv 0) T.bk.cls T.me_Book_standing (ok_Book_standing T) (hr.mono (by decide)) T.b_Book_standing .nil pass0))
      (pss_cons (ps_setLc (i := 3) (own := [("_law_row", 4)]) (g := gName 4) (tt := (tTest (tOp rEq (tOp (rIxT K) (tOp (rIxT K) (tVar 4) (tC (.int 1))) (tC (.int 0))) (tC (.str "buy"))))) rfl sc__law_quiet.nd rfl rfl (sw_true rfl rfl rfl (by decide +kernel)) (pi_list (pv 2)) (blkOk_by (N := ["_law_book", "_law_price", "_law_rows", "_law_buyers", "_law_row", "_law_sellers", "_law_most", "_law_least"]) (sc := defScope s__law_quiet) (by decide +kernel)) (fun _ _ _ _ _ => pg_name (i := 4) sc__law_quiet.nd rfl (Or.inl rfl)) (fun _ _ _ _ _ => (pts_one (pt_cmpR op_eq (pe_ix ix_tup (pe_ix ix_tup (pv 4) pe_int (fun _ _ => rfl)) pe_int (fun _ _ => rfl)) pe_str (nomark _)))) (fun _ _ _ _ _ => (pe_ix ix_tup (pe_ix ix_tup (pv 4) pe_int (fun _ _ => rfl)) pe_int (fun _ _ => rfl))))
      (pss_cons (ps_setLc (i := 5) (own := [("_law_row", 4)]) (g := gName 4) (tt := (tTest (tOp rEq (tOp (rIxT K) (tOp (rIxT K) (tVar 4) (tC (.int 1))) (tC (.int 0))) (tC (.str "sell"))))) rfl sc__law_quiet.nd rfl rfl (sw_true rfl rfl rfl (by decide +kernel)) (pi_list (pv 2)) (blkOk_by (N := ["_law_book", "_law_price", "_law_rows", "_law_buyers", "_law_row", "_law_sellers", "_law_most", "_law_least"]) (sc := defScope s__law_quiet) (by decide +kernel)) (fun _ _ _ _ _ => pg_name (i := 4) sc__law_quiet.nd rfl (Or.inl rfl)) (fun _ _ _ _ _ => (pts_one (pt_cmpR op_eq (pe_ix ix_tup (pe_ix ix_tup (pv 4) pe_int (fun _ _ => rfl)) pe_int (fun _ _ => rfl)) pe_str (nomark _)))) (fun _ _ _ _ _ => (pe_ix ix_tup (pe_ix ix_tup (pv 4) pe_int (fun _ _ => rfl)) pe_int (fun _ _ => rfl))))
      (pss_cons (ps_set (i := 6) sc__law_quiet.nd rfl (by first | exact Or.inl rfl | exact Or.inr rfl) (pe_callB (cr_max rfl) (by rfl) T.z_max (by decide +kernel) (pa_cons (pe_op op_cat (pv 3) (pe_lst (pa_cons (pe_un un_neg pe_int) pa_nil))) pa_nil)))
      (pss_cons (ps_set (i := 7) sc__law_quiet.nd rfl (by first | exact Or.inl rfl | exact Or.inr rfl) (pe_callB (cr_min rfl) (by rfl) T.z_min (by decide +kernel) (pa_cons (pe_op op_cat (pv 5) (pe_lst (pa_cons pe_int pa_nil))) pa_nil)))
      (pss_one (ps_ret (pe_and (pe_chain op_le op_le (pv 6) (pv 1) (pv 7)) (pe_one (pe_cmpR op_lt (pv 6) (pv 7) (nomark _)))))))))))
theorem ok__law_served (T : Txt K mg c q) : FnOk P w K mg base CX0 1 q.f__law_served q.d__law_served ["_law_rows", "_law_side", "_law_price", "_law_many"] (spD K (R__law_served c)) := by
  refine T.F__law_served.ok sc__law_served (sp_len (len__law_served (c := c))) (fun cdv A outer s H vs Q E hr h => ?_)
  refine ⟨t__law_served K c E0, ?_, run_body h (body__law_served)⟩
  exact (pss_cons (ps_set (i := 4) sc__law_served.nd rfl (by first | exact Or.inl rfl | exact Or.inr rfl) (pe_lst pa_nil))
      (pss_cons (ps_for PassesOwn.never rfl (pi_list (pv 0)) (pg_name (i := 5) sc__law_served.nd rfl (by first | exact Or.inl rfl | exact Or.inr rfl)) (pss_cons (ps_set (i := 6) sc__law_served.nd rfl (by first | exact Or.inl rfl | exact Or.inr rfl) (pe_ix ix_tup (pv 5) pe_int (fun _ _ => rfl)))
      (pss_cons (ps_if (PW.pt (pw_and (pt_cmpR op_eq (pv 1) pe_str (nomark _)) (pw_and (pt_cmpR op_eq (pe_ix ix_tup (pv 6) pe_int (fun _ _ => rfl)) pe_str (nomark _)) (pw_and1 (pt_cmpR op_ge (pe_ix ix_tup (pv 6) pe_int (fun _ _ => rfl)) (pv 2) (nomark _)))))) (pss_one (ps_expr (pe_bm PySem.F.plainAttrs_list PySem.F.slot_list_append PySem.F.type_list_append mt_append (pv 4) (pa_cons (pe_tup (pa_cons (pe_un un_neg (pe_ix ix_tup (pv 6) pe_int (fun _ _ => rfl))) (pa_cons (pe_ix ix_tup (pv 5) pe_int (fun _ _ => rfl)) (pa_cons (pe_ix ix_tup (pv 6) pe_int (fun _ _ => rfl)) pa_nil)))) pa_nil)))) pss_nil)
      (pss_one (ps_if (PW.pt (pw_and (pt_cmpR op_eq (pv 1) pe_str (nomark _)) (pw_and (pt_cmpR op_eq (pe_ix ix_tup (pv 6) pe_int (fun _ _ => rfl)) pe_str (nomark _)) (pw_and1 (pt_cmpR op_le (pe_ix ix_tup (pv 6) pe_int (fun _ _ => rfl)) (pv 2) (nomark _)))))) (pss_one (ps_expr (pe_bm PySem.F.plainAttrs_list PySem.F.slot_list_append PySem.F.type_list_append mt_append (pv 4) (pa_cons (pe_tup (pa_cons (pe_ix ix_tup (pv 6) pe_int (fun _ _ => rfl)) (pa_cons (pe_ix ix_tup (pv 5) pe_int (fun _ _ => rfl)) (pa_cons (pe_ix ix_tup (pv 6) pe_int (fun _ _ => rfl)) pa_nil)))) pa_nil)))) pss_nil)))))
      (pss_cons (ps_set (i := 7) sc__law_served.nd rfl (by first | exact Or.inl rfl | exact Or.inr rfl) (pe_lst pa_nil))
      (pss_cons (ps_for PassesOwn.never rfl (pi_list (pe_callB cr_sorted3 (by rfl) T.z_sorted (by decide +kernel) (pa_cons (pv 4) pa_nil))) (pg_name (i := 8) sc__law_served.nd rfl (by first | exact Or.inl rfl | exact Or.inr rfl)) (pss_cons (ps_set (i := 9) sc__law_served.nd rfl (by first | exact Or.inl rfl | exact Or.inr rfl) (pe_callB (call_min2 rfl) (by rfl) T.z_min (by decide +kernel) (pa_cons (pe_ix ix_tup (pv 8) pe_int (fun _ _ => rfl)) (pa_cons (pv 3) pa_nil))))
      (pss_cons (ps_set (i := 3) sc__law_served.nd rfl (by first | exact Or.inl rfl | exact Or.inr rfl) (pe_op op_sub (pv 3) (pv 9)))
      (pss_one (ps_if (pt_cmpR op_gt (pv 9) pe_int (nomark _)) (pss_one (ps_expr (pe_bm PySem.F.plainAttrs_list PySem.F.slot_list_append PySem.F.type_list_append mt_append (pv 7) (pa_cons (pe_tup (pa_cons (pe_ix ix_tup (pv 8) pe_int (fun _ _ => rfl)) (pa_cons (pv 9) pa_nil))) pa_nil)))) pss_nil)))))
      (pss_one (ps_ret (pe_callB cr_sortedPO (by rfl) T.z_sorted (by decide +kernel) (pa_cons (pv 7) pa_nil))))))))
theorem ok__law_got (T : Txt K mg c q) : FnOk P w K mg base CX0 1 q.f__law_got q.d__law_got ["_law_deals", "_law_at"] (spM K (R__law_got c)) := by
  refine T.F__law_got.ok sc__law_got (spM_len (len__law_got (c := c))) (fun cdv A outer s H vs Q E hr h => ?_)
  refine ⟨t__law_got K c E0, ?_, run_bodyM h (body__law_got)⟩
  exact (pss_cons (ps_set (i := 2) sc__law_got.nd rfl (by first | exact Or.inl rfl | exact Or.inr rfl) pe_dnewK)
      (pss_cons (ps_for PassesOwn.never rfl (pi_list (pv 0)) (pg_name (i := 3) sc__law_got.nd rfl (by first | exact Or.inl rfl | exact Or.inr rfl)) (pss_one (ps_dput (hu_of hr) (pv 2) (pe_ix ix_tup (pv 3) (pv 1) (fun _ _ => rfl)) (pe_op op_add (pe_dget2 (hu_of hr) (pv 2) (pe_ix ix_tup (pv 3) (pv 1) (fun _ _ => rfl)) pe_int ⟨rfl, rfl, rfl, rfl⟩) (pe_ix ix_tup (pv 3) pe_int (fun _ _ => rfl))) rfl)))
      (pss_one (ps_ret (pe_callB cr_sortedPO (by rfl) T.z_sorted (by decide +kernel) (pa_cons (LiI.pe_listItems rfl (pv 2) (by rfl) T.z_list (by decide +kernel)) pa_nil))))))
theorem ok__law_rising (T : Txt K mg c q) : FnOk P w K mg base CX0 1 q.f__law_rising q.d__law_rising ["_law_deals"] (spD K (R__law_rising c)) := by
  refine T.F__law_rising.ok sc__law_rising (sp_len (len__law_rising (c := c))) (fun cdv A outer s H vs Q E hr h => ?_)
  refine ⟨t__law_rising K c E0, ?_, run_body h (body__law_rising)⟩
  exact (pss_cons (ps_for PassesOwn.never rfl (pi_range2 (by rfl) T.z_range (pa_cons pe_int (pa_cons (pe_callB call_len_seq (by rfl) T.z_len (by decide +kernel) (pa_cons (pv 0) pa_nil)) pa_nil))) (pg_name (i := 1) sc__law_rising.nd rfl (by first | exact Or.inl rfl | exact Or.inr rfl)) (pss_cons (ps_set (i := 2) sc__law_rising.nd rfl (by first | exact Or.inl rfl | exact Or.inr rfl) (pe_ix ix_list (pv 0) (pe_op op_sub (pv 1) pe_int) (fun _ _ => rfl)))
      (pss_one (ps_if (PW.pt (pw_or (pt_cmpR op_lt (pe_ix ix_tup (pe_ix ix_list (pv 0) (pv 1) (fun _ _ => rfl)) pe_int (fun _ _ => rfl)) (pe_ix ix_tup (pv 2) pe_int (fun _ _ => rfl)) (nomark _)) (pw_or (pt_cmpR op_lt (pe_ix ix_tup (pe_ix ix_list (pv 0) (pv 1) (fun _ _ => rfl)) pe_int (fun _ _ => rfl)) (pe_ix ix_tup (pv 2) pe_int (fun _ _ => rfl)) (nomark _)) (pw_or1 (pt_cmpR (op_eqD hr.units) (pe_slice sl_tup (pe_ix ix_list (pv 0) (pv 1) (fun _ _ => rfl)) po_none (po_some pe_int)) (pe_slice sl_tup (pv 2) po_none (po_some pe_int)) (nomark _)))))) (pss_one (ps_ret pe_bl)) pss_nil))))
      (pss_one (ps_ret pe_bl)))
theorem ok__law_stood (T : Txt K mg c q) : FnOk P w K mg base CX0 1 q.f__law_stood q.d__law_stood ["_law_came", "_law_dealt", "_law_dropped"] (spD K (R__law_stood c)) := by
  refine T.F__law_stood.ok sc__law_stood (sp_len (len__law_stood (c := c))) (fun cdv A outer s H vs Q E hr h => ?_)
  refine ⟨t__law_stood K c E0, ?_, run_body h (body__law_stood)⟩
  exact (pss_cons (ps_set (i := 3) sc__law_stood.nd rfl (by first | exact Or.inl rfl | exact Or.inr rfl) (pe_lst pa_nil))
      (pss_cons (ps_for PassesOwn.never rfl (pi_range1 (by rfl) T.z_range (pa_cons (pe_callB call_len_seq (by rfl) T.z_len (by decide +kernel) (pa_cons (pv 0) pa_nil)) pa_nil)) (pg_name (i := 4) sc__law_stood.nd rfl (by first | exact Or.inl rfl | exact Or.inr rfl)) (pss_cons (ps_set (i := 5) sc__law_stood.nd rfl (by first | exact Or.inl rfl | exact Or.inr rfl) (pe_op op_sub (pe_op op_sub (pe_ix ix_tup (pe_ix ix_list (pv 0) (pv 4) (fun _ _ => rfl)) pe_int (fun _ _ => rfl)) (pe_ix ix_list (pv 1) (pv 4) (fun _ _ => rfl))) (pe_ix ix_list (pv 2) (pv 4) (fun _ _ => rfl))))
      (pss_one (ps_if (pt_cmpR op_gt (pv 5) pe_int (nomark _)) (pss_one (ps_expr (pe_bm PySem.F.plainAttrs_list PySem.F.slot_list_append PySem.F.type_list_append mt_append (pv 3) (pa_cons (pe_tup (pa_cons (pv 4) (pa_cons (pe_tup (pa_cons (pe_ix ix_tup (pe_ix ix_list (pv 0) (pv 4) (fun _ _ => rfl)) pe_int (fun _ _ => rfl)) (pa_cons (pe_ix ix_tup (pe_ix ix_list (pv 0) (pv 4) (fun _ _ => rfl)) pe_int (fun _ _ => rfl)) (pa_cons (pv 5) pa_nil)))) pa_nil))) pa_nil)))) pss_nil))))
      (pss_one (ps_ret (pv 3)))))
theorem ok__law_ring (T : Txt K mg c q) : FnOk P w K mg base CX0 8 q.f__law_ring q.d__law_ring ["_law_book", "_law_came", "_law_dealt", "_law_dropped"] (spM K (R__law_ring c)) := by
  refine T.F__law_ring.ok sc__law_ring (spM_len (len__law_ring (c := c))) (fun cdv A outer s H vs Q E hr h => ?_)
  refine ⟨t__law_ring K c E0, ?_, run_bodyM h (body__law_ring)⟩
  exact (pss_cons (ps_set (i := 4) sc__law_ring.nd rfl (by first | exact Or.inl rfl | exact Or.inr rfl) (pe_call (ok__law_stood T) (hr.mono (by decide)) (by rfl) T.g__law_stood T.F__law_stood.kp T.b__law_stood .nil pass0 (pa_cons (pv 1) (pa_cons (pv 2) (pa_cons (pv 3) pa_nil)))))
      (pss_cons (ps_if (pt_cmpR (op_neD hr.units) (pe_meth0 (pv 0) T.bk.cls T.me_Book_standing (ok_Book_standing T) (hr.mono (by decide)) T.b_Book_standing .nil pass0) (pv 4) (nomark _)) (pss_one (ps_ret pe_bl)) pss_nil)
      (pss_cons (ps_set (i := 5) sc__law_ring.nd rfl (by first | exact Or.inl rfl | exact Or.inr rfl) (pe_callTy (call_dictP rfl) (by rfl) T.z_dict (by decide +kernel) (pa_cons (pv 4) pa_nil)))
      (pss_cons (ps_set (i := 6) sc__law_ring.nd rfl (by first | exact Or.inl rfl | exact Or.inr rfl) (pe_fld (pv 0) rfl))
      (pss_cons (ps_set (i := 7) sc__law_ring.nd rfl (by first | exact Or.inl rfl | exact Or.inr rfl) (pe_meth0 (pv 0) T.bk.cls T.me_Book_ring (ok_Book_ring T) (hr.mono (by decide)) T.b_Book_ring .nil passLN))
      (pss_cons (ps_set (i := 8) sc__law_ring.nd rfl (by first | exact Or.inl rfl | exact Or.inr rfl) (pe_fld (pv 0) rfl))
      (pss_cons (ps_if (PW.pt (pw_or (pt_not (pt_val (pe_callB call_isi (by rfl) T.z_isinstance (by decide +kernel) (pa_cons (pv 7) (pa_cons (pe_bltn (v := .ty "list") (by rfl) T.z_list (by decide +kernel) rfl) pa_nil))))) (pw_or1 (pt_not (pt_val (pe_call (ok__law_priced T) (hr.mono (by decide)) (by rfl) T.g__law_priced T.F__law_priced.kp T.b__law_priced .nil pass0 (pa_cons (pv 4) (pa_cons (pv 6) (pa_cons (pv 8) pa_nil))))))))) (pss_one (ps_ret pe_bl)) pss_nil)
      (pss_cons (ps_set (i := 9) sc__law_ring.nd rfl (by first | exact Or.inl rfl | exact Or.inr rfl) (pe_callB (call_min2 rfl) (by rfl) T.z_min (by decide +kernel) (pa_cons (pe_call (ok__law_sum T) (hr.mono (by decide)) (by rfl) T.g__law_sum T.F__law_sum.kp T.b__law_sum .nil pass0 (pa_cons (pv 4) (pa_cons pe_str (pa_cons (pv 8) pa_nil)))) (pa_cons (pe_call (ok__law_sum T) (hr.mono (by decide)) (by rfl) T.g__law_sum T.F__law_sum.kp T.b__law_sum .nil pass0 (pa_cons (pv 4) (pa_cons pe_str (pa_cons (pv 8) pa_nil)))) pa_nil))))
      (pss_cons (ps_for PassesOwn.never rfl (pi_list (pv 7)) (pg_name (i := 10) sc__law_ring.nd rfl (by first | exact Or.inl rfl | exact Or.inr rfl)) (pss_cons (ps_if (pt_not (pt_val (pe_call (ok__law_deal_good T) (hr.mono (by decide)) (by rfl) T.g__law_deal_good T.F__law_deal_good.kp T.b__law_deal_good .nil pass0 (pa_cons (pv 10) (pa_cons (pv 5) (pa_cons (pv 8) pa_nil)))))) (pss_one (ps_ret pe_bl)) pss_nil)
      (pss_one (ps_for PassesOwn.never rfl (pi_tup (pe_slice sl_tup (pv 10) po_none (po_some pe_int))) (pg_name (i := 11) sc__law_ring.nd rfl (by first | exact Or.inl rfl | exact Or.inr rfl)) (pss_one (ps_asg (pe_op op_add (pe_ix ix_list (pv 2) (pv 11) (fun _ _ => rfl)) (pe_ix ix_tup (pv 10) pe_int (fun _ _ => rfl))) (pg_sub (pv 2) (pv 11) set_list)))))))
      (pss_cons (ps_if (PW.pt (pw_or (pt_not (pt_val (pe_call (ok__law_rising T) (hr.mono (by decide)) (by rfl) T.g__law_rising T.F__law_rising.kp T.b__law_rising .nil pass0 (pa_cons (pv 7) pa_nil)))) (pw_or1 (pt_not (pt_val (pe_call (ok__law_quiet T) (hr.mono (by decide)) (by rfl) T.g__law_quiet T.F__law_quiet.kp T.b__law_quiet .nil pass0 (pa_cons (pv 0) (pa_cons (pv 8) pa_nil)))))))) (pss_one (ps_ret pe_bl)) pss_nil)
      (pss_cons (ps_if (pt_cmpR (op_neD hr.units) (pe_call (ok__law_got T) (hr.mono (by decide)) (by rfl) T.g__law_got T.F__law_got.kp T.b__law_got .nil pass0 (pa_cons (pv 7) (pa_cons pe_int pa_nil))) (pe_call (ok__law_served T) (hr.mono (by decide)) (by rfl) T.g__law_served T.F__law_served.kp T.b__law_served .nil pass0 (pa_cons (pv 4) (pa_cons pe_str (pa_cons (pv 8) (pa_cons (pv 9) pa_nil))))) (nomark _)) (pss_one (ps_ret pe_bl)) pss_nil)
      (pss_cons (ps_if (pt_cmpR (op_neD hr.units) (pe_call (ok__law_got T) (hr.mono (by decide)) (by rfl) T.g__law_got T.F__law_got.kp T.b__law_got .nil pass0 (pa_cons (pv 7) (pa_cons pe_int pa_nil))) (pe_call (ok__law_served T) (hr.mono (by decide)) (by rfl) T.g__law_served T.F__law_served.kp T.b__law_served .nil pass0 (pa_cons (pv 4) (pa_cons pe_str (pa_cons (pv 8) (pa_cons (pv 9) pa_nil))))) (nomark _)) (pss_one (ps_ret pe_bl)) pss_nil)
      (pss_one (ps_ret (pe_and (pe_cmpR (op_eqD hr.units) (pe_meth0 (pv 0) T.bk.cls T.me_Book_ring (ok_Book_ring T) (hr.mono (by decide)) T.b_Book_ring .nil passLN) (pe_lst pa_nil) (nomark _)) (pe_and (pe_call (ok__law_whole T) (hr.mono (by decide)) (by rfl) T.g__law_whole T.F__law_whole.kp T.b__law_whole .nil pass0 (pa_cons (pe_fld (pv 0) rfl) pa_nil)) (pe_one (pe_cmpR op_eq (pe_fld (pv 0) rfl) (pv 8) (nomark _)))))))))))))))))))
theorem ok__law_ended (T : Txt K mg c q) : FnOk P w K mg base CX0 4 q.f__law_ended q.d__law_ended ["_law_book", "_law_came", "_law_dealt", "_law_dropped"] (spD K (R__law_ended c)) := by
  refine T.F__law_ended.ok sc__law_ended (sp_len (len__law_ended (c := c))) (fun cdv A outer s H vs Q E hr h => ?_)
  refine ⟨t__law_ended K c E0, ?_, run_body h (body__law_ended)⟩
  exact (pss_cons (ps_set (i := 4) sc__law_ended.nd rfl (by first | exact Or.inl rfl | exact Or.inr rfl) pe_int)
      (pss_cons (ps_for PassesOwn.never rfl (pi_range1 (by rfl) T.z_range (pa_cons (pe_callB call_len_seq (by rfl) T.z_len (by decide +kernel) (pa_cons (pv 1) pa_nil)) pa_nil)) (pg_name (i := 5) sc__law_ended.nd rfl (by first | exact Or.inl rfl | exact Or.inr rfl)) (pss_cons (ps_if (PW.pt (pw_or (pt_cmpR op_ne (pe_op op_add (pe_op op_add (pe_meth (pv 0) T.bk.cls T.me_Book_left (ok_Book_left T) (hr.mono (by decide)) T.b_Book_left .nil passLN (pa_cons (pv 5) pa_nil)) (pe_ix ix_list (pv 3) (pv 5) (fun _ _ => rfl))) (pe_ix ix_list (pv 2) (pv 5) (fun _ _ => rfl))) (pe_ix ix_tup (pe_ix ix_list (pv 1) (pv 5) (fun _ _ => rfl)) pe_int (fun _ _ => rfl)) (nomark _)) (pw_or (pt_cmpR op_lt (pe_meth (pv 0) T.bk.cls T.me_Book_left (ok_Book_left T) (hr.mono (by decide)) T.b_Book_left .nil passLN (pa_cons (pv 5) pa_nil)) pe_int (nomark _)) (pw_or1 (pt_cmpR op_lt (pe_meth (pv 0) T.bk.cls T.me_Book_paid (ok_Book_paid T) (hr.mono (by decide)) T.b_Book_paid .nil passLN (pa_cons (pv 5) pa_nil)) pe_int (nomark _)))))) (pss_one (ps_ret pe_bl)) pss_nil)
      (pss_one (ps_if (pt_cmpR op_eq (pe_ix ix_tup (pe_ix ix_list (pv 1) (pv 5) (fun _ _ => rfl)) pe_int (fun _ _ => rfl)) pe_str (nomark _)) (pss_one (ps_set (i := 4) sc__law_ended.nd rfl (by first | exact Or.inl rfl | exact Or.inr rfl) (pe_op op_add (pv 4) (pe_meth (pv 0) T.bk.cls T.me_Book_paid (ok_Book_paid T) (hr.mono (by decide)) T.b_Book_paid .nil passLN (pa_cons (pv 5) pa_nil))))) (pss_one (ps_set (i := 4) sc__law_ended.nd rfl (by first | exact Or.inl rfl | exact Or.inr rfl) (pe_op op_sub (pv 4) (pe_meth (pv 0) T.bk.cls T.me_Book_paid (ok_Book_paid T) (hr.mono (by decide)) T.b_Book_paid .nil passLN (pa_cons (pv 5) pa_nil)))))))))
      (pss_one (ps_ret (pe_cmpR op_eq (pv 4) pe_int (nomark _))))))
theorem ok_law {f : Addr} {fd : FuncData} (F : Fun K "law" "law" s_law f fd) (T : Txt K mg c q) : FnOk P w K mg base CX0 9 f fd ["_law_script"] (spM K (R_law c)) := by
  refine F.ok sc_law (spM_len (len_law (c := c))) (fun cdv A outer s H vs Q E hr h => ?_)
  refine ⟨t_law K c E0, ?_, run_bodyM h (body_law T.bk)⟩
  exact (pss_cons (ps_set (i := 1) sc_law.nd rfl (by first | exact Or.inl rfl | exact Or.inr rfl) (pe_make T.mk_Book (ok_Book___init__ T) (hr.mono (by decide)) (by rfl) T.g_Book T.b_Book___init__ .nil passLN (pa_cons (pe_op op_mod (pe_call (ok__law_cell_at T) (hr.mono (by decide)) (by rfl) T.g__law_cell_at T.F__law_cell_at.kp T.b__law_cell_at .nil pass0 (pa_cons (pv 0) (pa_cons pe_int pa_nil))) pe_int) pa_nil)))
      (pss_cons (ps_if (pt_cmpR op_eq (pe_op op_mod (pe_call (ok__law_cell_at T) (hr.mono (by decide)) (by rfl) T.g__law_cell_at T.F__law_cell_at.kp T.b__law_cell_at .nil pass0 (pa_cons (pv 0) (pa_cons pe_int pa_nil))) pe_int) pe_int (nomark _)) (pss_one (ps_set (i := 1) sc_law.nd rfl (by first | exact Or.inl rfl | exact Or.inr rfl) (pe_make T.mk_Book (ok_Book___init__ T) (hr.mono (by decide)) (by rfl) T.g_Book T.b_Book___init__ .nil passLN (pa_cons (pe_op op_add pe_int (pe_op op_mod (pe_call (ok__law_cell_at T) (hr.mono (by decide)) (by rfl) T.g__law_cell_at T.F__law_cell_at.kp T.b__law_cell_at .nil pass0 (pa_cons (pv 0) (pa_cons pe_int pa_nil))) pe_int)) pa_nil)))) pss_nil)
      (pss_cons (ps_setLc (i := 2) (own := [("_law_cell", 3)]) (g := gName 3) (tt := tYes) rfl sc_law.nd rfl rfl (sw_true rfl rfl rfl (by decide +kernel)) (pi_list (pe_slice sl_list (pv 0) (po_some pe_int) (po_some pe_int))) (blkOk_by (N := ["_law_script", "_law_book", "_law_cells", "_law_cell", "_law_many", "_law_size", "_law_k", "_law_came", "_law_dealt", "_law_dropped", "_law_stood_here", "_law_number"]) (sc := defScope s_law) (by decide +kernel)) (fun _ _ _ _ _ => pg_name (i := 3) sc_law.nd rfl (Or.inl rfl)) (fun _ _ _ _ _ => pts_nil) (fun _ _ _ _ _ => (pe_op op_mul pe_int (pv 3))))
      (pss_cons (ps_set (i := 4) sc_law.nd rfl (by first | exact Or.inl rfl | exact Or.inr rfl) pe_int)
      (pss_cons (ps_if (pt_cmpR op_gt (pe_callB call_len_seq (by rfl) T.z_len (by decide +kernel) (pa_cons (pv 0) pa_nil)) pe_int (nomark _)) (pss_one (ps_set (i := 4) sc_law.nd rfl (by first | exact Or.inl rfl | exact Or.inr rfl) pe_int)) pss_nil)
      (pss_cons (ps_set (i := 5) sc_law.nd rfl (by first | exact Or.inl rfl | exact Or.inr rfl) pe_int)
      (pss_cons (ps_if (pt_cmpR op_eq (pe_op op_mod (pe_op op_fdiv (pe_call (ok__law_cell_at T) (hr.mono (by decide)) (by rfl) T.g__law_cell_at T.F__law_cell_at.kp T.b__law_cell_at .nil pass0 (pa_cons (pv 0) (pa_cons pe_int pa_nil))) pe_int) pe_int) pe_int (nomark _)) (pss_one (ps_set (i := 5) sc_law.nd rfl (by first | exact Or.inl rfl | exact Or.inr rfl) (pe_op op_add pe_int (pe_op op_mod (pe_call (ok__law_cell_at T) (hr.mono (by decide)) (by rfl) T.g__law_cell_at T.F__law_cell_at.kp T.b__law_cell_at .nil pass0 (pa_cons (pv 0) (pa_cons pe_int pa_nil))) pe_int)))) pss_nil)
      (pss_cons (ps_if (pt_cmpR op_eq (pe_op op_mod (pe_op op_fdiv (pe_call (ok__law_cell_at T) (hr.mono (by decide)) (by rfl) T.g__law_cell_at T.F__law_cell_at.kp T.b__law_cell_at .nil pass0 (pa_cons (pv 0) (pa_cons pe_int pa_nil))) pe_int) pe_int) pe_int (nomark _)) (pss_cons (ps_set (i := 5) sc_law.nd rfl (by first | exact Or.inl rfl | exact Or.inr rfl) (pe_op op_add pe_int (pe_op op_mod (pe_call (ok__law_cell_at T) (hr.mono (by decide)) (by rfl) T.g__law_cell_at T.F__law_cell_at.kp T.b__law_cell_at .nil pass0 (pa_cons (pv 0) (pa_cons pe_int pa_nil))) pe_int)))
      (pss_one (ps_set (i := 4) sc_law.nd rfl (by first | exact Or.inl rfl | exact Or.inr rfl) pe_int))) pss_nil)
      (pss_cons (ps_for PassesOwn.never rfl (pi_range1 (by rfl) T.z_range (pa_cons (pv 5) pa_nil)) (pg_name (i := 6) sc_law.nd rfl (by first | exact Or.inl rfl | exact Or.inr rfl)) (pss_one (ps_expr (pe_bm PySem.F.plainAttrs_list PySem.F.slot_list_append PySem.F.type_list_append mt_append (pv 2) (pa_cons (pe_op op_mul pe_int (pe_op op_add (pe_call (ok__law_cell_at T) (hr.mono (by decide)) (by rfl) T.g__law_cell_at T.F__law_cell_at.kp T.b__law_cell_at .nil pass0 (pa_cons (pv 0) (pa_cons pe_int pa_nil))) (pe_op op_mul pe_int (pv 6)))) pa_nil)))))
      (pss_cons (ps_set (i := 7) sc_law.nd rfl (by first | exact Or.inl rfl | exact Or.inr rfl) (pe_lst pa_nil))
      (pss_cons (ps_set (i := 8) sc_law.nd rfl (by first | exact Or.inl rfl | exact Or.inr rfl) (pe_lst pa_nil))
      (pss_cons (ps_set (i := 9) sc_law.nd rfl (by first | exact Or.inl rfl | exact Or.inr rfl) (pe_lst pa_nil))
      (pss_cons (ps_for PassesOwn.never rfl (pi_list (pe_op op_cat (pe_op op_cat (pv 2) (pe_slice sl_list (pv 0) (po_some pe_int) (po_some (pe_op op_add pe_int (pv 4))))) (pe_lst (pa_cons pe_int pa_nil)))) (pg_name (i := 3) sc_law.nd rfl (by first | exact Or.inl rfl | exact Or.inr rfl)) (pss_one (ps_if (pt_cmpR op_lt (pe_op op_mod (pv 3) pe_int) pe_int (nomark _)) (pss_cons (ps_expr (pe_bm PySem.F.plainAttrs_list PySem.F.slot_list_append PySem.F.type_list_append mt_append (pv 7) (pa_cons (pe_call (ok__law_wish_by T) (hr.mono (by decide)) (by rfl) T.g__law_wish_by T.F__law_wish_by.kp T.b__law_wish_by .nil pass0 (pa_cons (pe_op op_fdiv (pv 3) pe_int) pa_nil)) pa_nil)))
      (pss_cons (ps_expr (pe_bm PySem.F.plainAttrs_list PySem.F.slot_list_append PySem.F.type_list_append mt_append (pv 8) (pa_cons pe_int pa_nil)))
      (pss_cons (ps_expr (pe_bm PySem.F.plainAttrs_list PySem.F.slot_list_append PySem.F.type_list_append mt_append (pv 9) (pa_cons pe_int pa_nil)))
      (pss_one (ps_if (pt_cmpR op_ne (pe_meth (pv 1) T.bk.cls T.me_Book_add (ok_Book_add T) (hr.mono (by decide)) T.b_Book_add .nil passLN (pa_cons (pe_ix ix_list (pv 7) (pe_op op_sub (pe_callB call_len_seq (by rfl) T.z_len (by decide +kernel) (pa_cons (pv 7) pa_nil)) pe_int) (fun _ _ => rfl)) pa_nil)) (pe_op op_sub (pe_callB call_len_seq (by rfl) T.z_len (by decide +kernel) (pa_cons (pv 7) pa_nil)) pe_int) (nomark _)) (pss_one (ps_ret pe_bl)) pss_nil))))) (pss_one (ps_if (pt_cmpR op_eq (pe_op op_mod (pv 3) pe_int) pe_int (nomark _)) (pss_cons (ps_set (i := 10) sc_law.nd rfl (by first | exact Or.inl rfl | exact Or.inr rfl) (pe_meth0 (pv 1) T.bk.cls T.me_Book_standing (ok_Book_standing T) (hr.mono (by decide)) T.b_Book_standing .nil pass0))
      (pss_one (ps_if (pt_cmpR op_gt (pe_callB call_len_seq (by rfl) T.z_len (by decide +kernel) (pa_cons (pv 10) pa_nil)) pe_int (nomark _)) (pss_cons (ps_set (i := 11) sc_law.nd rfl (by first | exact Or.inl rfl | exact Or.inr rfl) (pe_ix ix_tup (pe_ix ix_list (pv 10) (pe_op op_mod (pe_op op_fdiv (pv 3) pe_int) (pe_callB call_len_seq (by rfl) T.z_len (by decide +kernel) (pa_cons (pv 10) pa_nil))) (fun _ _ => rfl)) pe_int (fun _ _ => rfl)))
      (pss_one (ps_asg (pe_op op_add (pe_ix ix_list (pv 9) (pv 11) (fun _ _ => rfl)) (pe_meth (pv 1) T.bk.cls T.me_Book_drop (ok_Book_drop T) (hr.mono (by decide)) T.b_Book_drop .nil passLN (pa_cons (pv 11) pa_nil))) (pg_sub (pv 9) (pv 11) set_list)))) pss_nil))) (pss_one (ps_if (pt_not (pt_val (pe_call (ok__law_ring T) (hr.mono (by decide)) (by rfl) T.g__law_ring T.F__law_ring.kp T.b__law_ring .nil pass0 (pa_cons (pv 1) (pa_cons (pv 7) (pa_cons (pv 8) (pa_cons (pv 9) pa_nil))))))) (pss_one (ps_ret pe_bl)) pss_nil)))))))
      (pss_one (ps_ret (pe_call (ok__law_ended T) (hr.mono (by decide)) (by rfl) T.g__law_ended T.F__law_ended.kp T.b__law_ended .nil pass0 (pa_cons (pv 1) (pa_cons (pv 7) (pa_cons (pv 8) (pa_cons (pv 9) pa_nil))))))))))))))))))))
end
theorem all_mk {l : PySem.W.OpenLaw} {w : World} {K : PySem.W.Frag} {h : Heap} {mg : Str → Option Value} {fa : Addr} {f0 f1 f2 f3 f4 f5 f6 f7 f8 f9 f10 f11 f12 f13 f14 f15 f16 f17 f18 f19 f20 f21 f22 f23 f24 f25 f26 f27 f28 f29 f30 f31 f32 f33 f34 f35 f36 f37 f38 f39 f40 : Addr} (X : K.In h) (G : h.Ns mainGlobals mg) (hfa : mg "law" = some (.ref fa))
    {od0 an0 od1 an1 od2 an2 od3 an3 od4 an4 od5 an5 od6 an6 od7 an7 od8 an8 od9 an9 od10 an10 od11 an11 od12 an12 od13 an13 od14 an14 od15 an15 od16 an16 od17 an17 od18 an18 od19 an19 od20 an20 od21 an21 od22 an22 od23 an23 od24 an24 od25 an25 od26 an26 od27 an27 od28 an28 od29 an29 od30 an30 od31 an31 od32 an32 od33 an33 od34 an34 od35 an35 od36 an36 od37 an37 od38 an38 od39 an39 od40 an40 : Option Addr} {sl0 sl1 sl2 sl3 sl4 sl5 sl6 sl7 sl8 sl9 sl10 sl11 sl12 sl13 sl14 sl15 sl16 sl17 sl18 sl19 sl20 sl21 sl22 sl23 sl24 sl25 sl26 sl27 sl28 sl29 sl30 sl31 sl32 sl33 sl34 sl35 sl36 sl37 sl38 sl39 sl40 : Array (Option Value)} {oc0 kV0 dc0 pm0 cd0 ct0 oc1 kV1 dc1 pm1 cd1 ct1 oc2 kV2 dc2 pm2 cd2 ct2 oc3 kV3 dc3 pm3 cd3 ct3 oc4 kV4 dc4 pm4 cd4 ct4 oc5 kV5 dc5 pm5 cd5 ct5 oc6 kV6 dc6 pm6 cd6 ct6 oc7 kV7 dc7 pm7 cd7 ct7 oc8 kV8 dc8 pm8 cd8 ct8 oc9 kV9 dc9 pm9 cd9 ct9 oc10 kV10 dc10 pm10 cd10 ct10 oc11 kV11 dc11 pm11 cd11 ct11 oc12 kV12 dc12 pm12 cd12 ct12 oc13 kV13 dc13 pm13 cd13 ct13 oc14 kV14 dc14 pm14 cd14 ct14 oc15 kV15 dc15 pm15 cd15 ct15 oc16 kV16 dc16 pm16 cd16 ct16 oc17 kV17 dc17 pm17 cd17 ct17 oc18 kV18 dc18 pm18 cd18 ct18 oc19 kV19 dc19 pm19 cd19 ct19 oc20 kV20 dc20 pm20 cd20 ct20 oc21 kV21 dc21 pm21 cd21 ct21 oc22 kV22 dc22 pm22 cd22 ct22 oc23 kV23 dc23 pm23 cd23 ct23 oc24 kV24 dc24 pm24 cd24 ct24 oc25 kV25 dc25 pm25 cd25 ct25 oc26 kV26 dc26 pm26 cd26 ct26 oc27 kV27 dc27 pm27 cd27 ct27 oc28 kV28 dc28 pm28 cd28 ct28 oc29 kV29 dc29 pm29 cd29 ct29 oc30 kV30 dc30 pm30 cd30 ct30 oc31 kV31 dc31 pm31 cd31 ct31 oc32 kV32 dc32 pm32 cd32 ct32 oc33 kV33 dc33 pm33 cd33 ct33 oc34 kV34 dc34 pm34 cd34 ct34 oc35 kV35 dc35 pm35 cd35 ct35 oc36 kV36 dc36 pm36 cd36 ct36 oc37 kV37 dc37 pm37 cd37 ct37 oc38 kV38 dc38 pm38 cd38 ct38 oc39 kV39 dc39 pm39 cd39 ct39 oc40 kV40 dc40 pm40 cd40 ct40 : Value}
    {CBook : Addr} (gBook : PySem.W.nsIn K mainGlobals "Book" = some (some (.ref CBook))) (pgB : PySem.W.plainGet K CBook Str.empty = true) (hdB : PySem.W.hasDictIn K CBook = true) (poB : PySem.W.plainOver K CBook = true) (saB : PySem.W.findIn K (.ref CBook) "__setattr__" = some (some (.builtin "object.__setattr__"))) (mkB : PySem.W.makesIn K CBook = true) (kcB : PySem.W.keepIn K (.ref CBook) = true)
    (nP : PySem.W.findIn K (.ref CBook) "price" = some none) (nC : PySem.W.findIn K (.ref CBook) "came" = some none) (nR : PySem.W.findIn K (.ref CBook) "rest" = some none) (nM : PySem.W.findIn K (.ref CBook) "money" = some none)
    (a0 : PySem.W.nsIn K mainGlobals "whole_within" = some (some (.ref f0)))
    (l0 : K.lookup f0 = some ⟨oc0, od0, .func (PySem.W.fnOf "whole_within" "whole_within" (defArgs s_whole_within) (defBody s_whole_within) (defScope s_whole_within) .none kV0 dc0 pm0 an0 cd0 ct0), sl0⟩) (c0 : PySem.W.codeIn K cd0 "whole_within" = true) (k0 : PySem.W.keepIn K (.ref f0) = true)
    (a1 : PySem.W.nsIn K mainGlobals "checked" = some (some (.ref f1)))
    (l1 : K.lookup f1 = some ⟨oc1, od1, .func (PySem.W.fnOf "checked" "checked" (defArgs s_checked) (defBody s_checked) (defScope s_checked) .none kV1 dc1 pm1 an1 cd1 ct1), sl1⟩) (c1 : PySem.W.codeIn K cd1 "checked" = true) (k1 : PySem.W.keepIn K (.ref f1) = true)
    (a2 : PySem.W.nsIn K mainGlobals "checked_price" = some (some (.ref f2)))
    (l2 : K.lookup f2 = some ⟨oc2, od2, .func (PySem.W.fnOf "checked_price" "checked_price" (defArgs s_checked_price) (defBody s_checked_price) (defScope s_checked_price) .none kV2 dc2 pm2 an2 cd2 ct2), sl2⟩) (c2 : PySem.W.codeIn K cd2 "checked_price" = true) (k2 : PySem.W.keepIn K (.ref f2) = true)
    (a3 : PySem.W.nsIn K mainGlobals "willing" = some (some (.ref f3)))
    (l3 : K.lookup f3 = some ⟨oc3, od3, .func (PySem.W.fnOf "willing" "willing" (defArgs s_willing) (defBody s_willing) (defScope s_willing) .none kV3 dc3 pm3 an3 cd3 ct3), sl3⟩) (c3 : PySem.W.codeIn K cd3 "willing" = true) (k3 : PySem.W.keepIn K (.ref f3) = true)
    (a4 : PySem.W.nsIn K mainGlobals "amount_of" = some (some (.ref f4)))
    (l4 : K.lookup f4 = some ⟨oc4, od4, .func (PySem.W.fnOf "amount_of" "amount_of" (defArgs s_amount_of) (defBody s_amount_of) (defScope s_amount_of) .none kV4 dc4 pm4 an4 cd4 ct4), sl4⟩) (c4 : PySem.W.codeIn K cd4 "amount_of" = true) (k4 : PySem.W.keepIn K (.ref f4) = true)
    (a5 : PySem.W.nsIn K mainGlobals "wanted" = some (some (.ref f5)))
    (l5 : K.lookup f5 = some ⟨oc5, od5, .func (PySem.W.fnOf "wanted" "wanted" (defArgs s_wanted) (defBody s_wanted) (defScope s_wanted) .none kV5 dc5 pm5 an5 cd5 ct5), sl5⟩) (c5 : PySem.W.codeIn K cd5 "wanted" = true) (k5 : PySem.W.keepIn K (.ref f5) = true)
    (a6 : PySem.W.nsIn K mainGlobals "offered" = some (some (.ref f6)))
    (l6 : K.lookup f6 = some ⟨oc6, od6, .func (PySem.W.fnOf "offered" "offered" (defArgs s_offered) (defBody s_offered) (defScope s_offered) .none kV6 dc6 pm6 an6 cd6 ct6), sl6⟩) (c6 : PySem.W.codeIn K cd6 "offered" = true) (k6 : PySem.W.keepIn K (.ref f6) = true)
    (a7 : PySem.W.nsIn K mainGlobals "order_of" = some (some (.ref f7)))
    (l7 : K.lookup f7 = some ⟨oc7, od7, .func (PySem.W.fnOf "order_of" "order_of" (defArgs s_order_of) (defBody s_order_of) (defScope s_order_of) .none kV7 dc7 pm7 an7 cd7 ct7), sl7⟩) (c7 : PySem.W.codeIn K cd7 "order_of" = true) (k7 : PySem.W.keepIn K (.ref f7) = true)
    (a8 : PySem.W.nsIn K mainGlobals "pieces_at" = some (some (.ref f8)))
    (l8 : K.lookup f8 = some ⟨oc8, od8, .func (PySem.W.fnOf "pieces_at" "pieces_at" (defArgs s_pieces_at) (defBody s_pieces_at) (defScope s_pieces_at) .none kV8 dc8 pm8 an8 cd8 ct8), sl8⟩) (c8 : PySem.W.codeIn K cd8 "pieces_at" = true) (k8 : PySem.W.keepIn K (.ref f8) = true)
    (a9 : PySem.W.nsIn K mainGlobals "checked_pieces" = some (some (.ref f9)))
    (l9 : K.lookup f9 = some ⟨oc9, od9, .func (PySem.W.fnOf "checked_pieces" "checked_pieces" (defArgs s_checked_pieces) (defBody s_checked_pieces) (defScope s_checked_pieces) .none kV9 dc9 pm9 an9 cd9 ct9), sl9⟩) (c9 : PySem.W.codeIn K cd9 "checked_pieces" = true) (k9 : PySem.W.keepIn K (.ref f9) = true)
    (a10 : PySem.W.nsIn K mainGlobals "of_side" = some (some (.ref f10)))
    (l10 : K.lookup f10 = some ⟨oc10, od10, .func (PySem.W.fnOf "of_side" "of_side" (defArgs s_of_side) (defBody s_of_side) (defScope s_of_side) .none kV10 dc10 pm10 an10 cd10 ct10), sl10⟩) (c10 : PySem.W.codeIn K cd10 "of_side" = true) (k10 : PySem.W.keepIn K (.ref f10) = true)
    (a11 : PySem.W.nsIn K mainGlobals "even" = some (some (.ref f11)))
    (l11 : K.lookup f11 = some ⟨oc11, od11, .func (PySem.W.fnOf "even" "even" (defArgs s_even) (defBody s_even) (defScope s_even) .none kV11 dc11 pm11 an11 cd11 ct11), sl11⟩) (c11 : PySem.W.codeIn K cd11 "even" = true) (k11 : PySem.W.keepIn K (.ref f11) = true)
    (a12 : PySem.W.nsIn K mainGlobals "pairs" = some (some (.ref f12)))
    (l12 : K.lookup f12 = some ⟨oc12, od12, .func (PySem.W.fnOf "pairs" "pairs" (defArgs s_pairs) (defBody s_pairs) (defScope s_pairs) .none kV12 dc12 pm12 an12 cd12 ct12), sl12⟩) (c12 : PySem.W.codeIn K cd12 "pairs" = true) (k12 : PySem.W.keepIn K (.ref f12) = true)
    (a13 : PySem.W.nsIn K mainGlobals "covered" = some (some (.ref f13)))
    (l13 : K.lookup f13 = some ⟨oc13, od13, .func (PySem.W.fnOf "covered" "covered" (defArgs s_covered) (defBody s_covered) (defScope s_covered) .none kV13 dc13 pm13 an13 cd13 ct13), sl13⟩) (c13 : PySem.W.codeIn K cd13 "covered" = true) (k13 : PySem.W.keepIn K (.ref f13) = true)
    (a14 : PySem.W.nsIn K mainGlobals "taken_up" = some (some (.ref f14)))
    (l14 : K.lookup f14 = some ⟨oc14, od14, .func (PySem.W.fnOf "taken_up" "taken_up" (defArgs s_taken_up) (defBody s_taken_up) (defScope s_taken_up) .none kV14 dc14 pm14 an14 cd14 ct14), sl14⟩) (c14 : PySem.W.codeIn K cd14 "taken_up" = true) (k14 : PySem.W.keepIn K (.ref f14) = true)
    (a15 : PySem.W.nsIn K mainGlobals "lowest" = some (some (.ref f15)))
    (l15 : K.lookup f15 = some ⟨oc15, od15, .func (PySem.W.fnOf "lowest" "lowest" (defArgs s_lowest) (defBody s_lowest) (defScope s_lowest) .none kV15 dc15 pm15 an15 cd15 ct15), sl15⟩) (c15 : PySem.W.codeIn K cd15 "lowest" = true) (k15 : PySem.W.keepIn K (.ref f15) = true)
    (a16 : PySem.W.nsIn K mainGlobals "highest" = some (some (.ref f16)))
    (l16 : K.lookup f16 = some ⟨oc16, od16, .func (PySem.W.fnOf "highest" "highest" (defArgs s_highest) (defBody s_highest) (defScope s_highest) .none kV16 dc16 pm16 an16 cd16 ct16), sl16⟩) (c16 : PySem.W.codeIn K cd16 "highest" = true) (k16 : PySem.W.keepIn K (.ref f16) = true)
    (a17 : PySem.W.nsIn K mainGlobals "price_by" = some (some (.ref f17)))
    (l17 : K.lookup f17 = some ⟨oc17, od17, .func (PySem.W.fnOf "price_by" "price_by" (defArgs s_price_by) (defBody s_price_by) (defScope s_price_by) .none kV17 dc17 pm17 an17 cd17 ct17), sl17⟩) (c17 : PySem.W.codeIn K cd17 "price_by" = true) (k17 : PySem.W.keepIn K (.ref f17) = true)
    (a18 : PySem.W.findIn K (.ref CBook) "__init__" = some (some (.ref f18))) (i18 : PySem.W.isFn K (.ref f18) = true)
    (l18 : K.lookup f18 = some ⟨oc18, od18, .func (PySem.W.fnOf "__init__" "Book.__init__" (defArgs s_Book___init__) (defBody s_Book___init__) (defScope s_Book___init__) .none kV18 dc18 pm18 an18 cd18 ct18), sl18⟩) (c18 : PySem.W.codeIn K cd18 "Book.__init__" = true) (k18 : PySem.W.keepIn K (.ref f18) = true)
    (a19 : PySem.W.findIn K (.ref CBook) "add" = some (some (.ref f19))) (i19 : PySem.W.isFn K (.ref f19) = true)
    (l19 : K.lookup f19 = some ⟨oc19, od19, .func (PySem.W.fnOf "add" "Book.add" (defArgs s_Book_add) (defBody s_Book_add) (defScope s_Book_add) .none kV19 dc19 pm19 an19 cd19 ct19), sl19⟩) (c19 : PySem.W.codeIn K cd19 "Book.add" = true) (k19 : PySem.W.keepIn K (.ref f19) = true)
    (a20 : PySem.W.findIn K (.ref CBook) "known" = some (some (.ref f20))) (i20 : PySem.W.isFn K (.ref f20) = true)
    (l20 : K.lookup f20 = some ⟨oc20, od20, .func (PySem.W.fnOf "known" "Book.known" (defArgs s_Book_known) (defBody s_Book_known) (defScope s_Book_known) .none kV20 dc20 pm20 an20 cd20 ct20), sl20⟩) (c20 : PySem.W.codeIn K cd20 "Book.known" = true) (k20 : PySem.W.keepIn K (.ref f20) = true)
    (a21 : PySem.W.findIn K (.ref CBook) "left" = some (some (.ref f21))) (i21 : PySem.W.isFn K (.ref f21) = true)
    (l21 : K.lookup f21 = some ⟨oc21, od21, .func (PySem.W.fnOf "left" "Book.left" (defArgs s_Book_left) (defBody s_Book_left) (defScope s_Book_left) .none kV21 dc21 pm21 an21 cd21 ct21), sl21⟩) (c21 : PySem.W.codeIn K cd21 "Book.left" = true) (k21 : PySem.W.keepIn K (.ref f21) = true)
    (a22 : PySem.W.findIn K (.ref CBook) "paid" = some (some (.ref f22))) (i22 : PySem.W.isFn K (.ref f22) = true)
    (l22 : K.lookup f22 = some ⟨oc22, od22, .func (PySem.W.fnOf "paid" "Book.paid" (defArgs s_Book_paid) (defBody s_Book_paid) (defScope s_Book_paid) .none kV22 dc22 pm22 an22 cd22 ct22), sl22⟩) (c22 : PySem.W.codeIn K cd22 "Book.paid" = true) (k22 : PySem.W.keepIn K (.ref f22) = true)
    (a23 : PySem.W.findIn K (.ref CBook) "drop" = some (some (.ref f23))) (i23 : PySem.W.isFn K (.ref f23) = true)
    (l23 : K.lookup f23 = some ⟨oc23, od23, .func (PySem.W.fnOf "drop" "Book.drop" (defArgs s_Book_drop) (defBody s_Book_drop) (defScope s_Book_drop) .none kV23 dc23 pm23 an23 cd23 ct23), sl23⟩) (c23 : PySem.W.codeIn K cd23 "Book.drop" = true) (k23 : PySem.W.keepIn K (.ref f23) = true)
    (a24 : PySem.W.findIn K (.ref CBook) "standing" = some (some (.ref f24))) (i24 : PySem.W.isFn K (.ref f24) = true)
    (l24 : K.lookup f24 = some ⟨oc24, od24, .func (PySem.W.fnOf "standing" "Book.standing" (defArgs s_Book_standing) (defBody s_Book_standing) (defScope s_Book_standing) .none kV24 dc24 pm24 an24 cd24 ct24), sl24⟩) (c24 : PySem.W.codeIn K cd24 "Book.standing" = true) (k24 : PySem.W.keepIn K (.ref f24) = true)
    (a25 : PySem.W.findIn K (.ref CBook) "ring" = some (some (.ref f25))) (i25 : PySem.W.isFn K (.ref f25) = true)
    (l25 : K.lookup f25 = some ⟨oc25, od25, .func (PySem.W.fnOf "ring" "Book.ring" (defArgs s_Book_ring) (defBody s_Book_ring) (defScope s_Book_ring) .none kV25 dc25 pm25 an25 cd25 ct25), sl25⟩) (c25 : PySem.W.codeIn K cd25 "Book.ring" = true) (k25 : PySem.W.keepIn K (.ref f25) = true)
    (a26 : PySem.W.nsIn K mainGlobals "_law_cell_at" = some (some (.ref f26)))
    (l26 : K.lookup f26 = some ⟨oc26, od26, .func (PySem.W.fnOf "_law_cell_at" "_law_cell_at" (defArgs s__law_cell_at) (defBody s__law_cell_at) (defScope s__law_cell_at) .none kV26 dc26 pm26 an26 cd26 ct26), sl26⟩) (c26 : PySem.W.codeIn K cd26 "_law_cell_at" = true) (k26 : PySem.W.keepIn K (.ref f26) = true)
    (a27 : PySem.W.nsIn K mainGlobals "_law_whole" = some (some (.ref f27)))
    (l27 : K.lookup f27 = some ⟨oc27, od27, .func (PySem.W.fnOf "_law_whole" "_law_whole" (defArgs s__law_whole) (defBody s__law_whole) (defScope s__law_whole) .none kV27 dc27 pm27 an27 cd27 ct27), sl27⟩) (c27 : PySem.W.codeIn K cd27 "_law_whole" = true) (k27 : PySem.W.keepIn K (.ref f27) = true)
    (a28 : PySem.W.nsIn K mainGlobals "_law_wish_by" = some (some (.ref f28)))
    (l28 : K.lookup f28 = some ⟨oc28, od28, .func (PySem.W.fnOf "_law_wish_by" "_law_wish_by" (defArgs s__law_wish_by) (defBody s__law_wish_by) (defScope s__law_wish_by) .none kV28 dc28 pm28 an28 cd28 ct28), sl28⟩) (c28 : PySem.W.codeIn K cd28 "_law_wish_by" = true) (k28 : PySem.W.keepIn K (.ref f28) = true)
    (a29 : PySem.W.nsIn K mainGlobals "_law_sum" = some (some (.ref f29)))
    (l29 : K.lookup f29 = some ⟨oc29, od29, .func (PySem.W.fnOf "_law_sum" "_law_sum" (defArgs s__law_sum) (defBody s__law_sum) (defScope s__law_sum) .none kV29 dc29 pm29 an29 cd29 ct29), sl29⟩) (c29 : PySem.W.codeIn K cd29 "_law_sum" = true) (k29 : PySem.W.keepIn K (.ref f29) = true)
    (a30 : PySem.W.nsIn K mainGlobals "_law_clears" = some (some (.ref f30)))
    (l30 : K.lookup f30 = some ⟨oc30, od30, .func (PySem.W.fnOf "_law_clears" "_law_clears" (defArgs s__law_clears) (defBody s__law_clears) (defScope s__law_clears) .none kV30 dc30 pm30 an30 cd30 ct30), sl30⟩) (c30 : PySem.W.codeIn K cd30 "_law_clears" = true) (k30 : PySem.W.keepIn K (.ref f30) = true)
    (a31 : PySem.W.nsIn K mainGlobals "_law_priced" = some (some (.ref f31)))
    (l31 : K.lookup f31 = some ⟨oc31, od31, .func (PySem.W.fnOf "_law_priced" "_law_priced" (defArgs s__law_priced) (defBody s__law_priced) (defScope s__law_priced) .none kV31 dc31 pm31 an31 cd31 ct31), sl31⟩) (c31 : PySem.W.codeIn K cd31 "_law_priced" = true) (k31 : PySem.W.keepIn K (.ref f31) = true)
    (a32 : PySem.W.nsIn K mainGlobals "_law_deal_good" = some (some (.ref f32)))
    (l32 : K.lookup f32 = some ⟨oc32, od32, .func (PySem.W.fnOf "_law_deal_good" "_law_deal_good" (defArgs s__law_deal_good) (defBody s__law_deal_good) (defScope s__law_deal_good) .none kV32 dc32 pm32 an32 cd32 ct32), sl32⟩) (c32 : PySem.W.codeIn K cd32 "_law_deal_good" = true) (k32 : PySem.W.keepIn K (.ref f32) = true)
    (a33 : PySem.W.nsIn K mainGlobals "_law_quiet" = some (some (.ref f33)))
    (l33 : K.lookup f33 = some ⟨oc33, od33, .func (PySem.W.fnOf "_law_quiet" "_law_quiet" (defArgs s__law_quiet) (defBody s__law_quiet) (defScope s__law_quiet) .none kV33 dc33 pm33 an33 cd33 ct33), sl33⟩) (c33 : PySem.W.codeIn K cd33 "_law_quiet" = true) (k33 : PySem.W.keepIn K (.ref f33) = true)
    (a34 : PySem.W.nsIn K mainGlobals "_law_served" = some (some (.ref f34)))
    (l34 : K.lookup f34 = some ⟨oc34, od34, .func (PySem.W.fnOf "_law_served" "_law_served" (defArgs s__law_served) (defBody s__law_served) (defScope s__law_served) .none kV34 dc34 pm34 an34 cd34 ct34), sl34⟩) (c34 : PySem.W.codeIn K cd34 "_law_served" = true) (k34 : PySem.W.keepIn K (.ref f34) = true)
    (a35 : PySem.W.nsIn K mainGlobals "_law_got" = some (some (.ref f35)))
    (l35 : K.lookup f35 = some ⟨oc35, od35, .func (PySem.W.fnOf "_law_got" "_law_got" (defArgs s__law_got) (defBody s__law_got) (defScope s__law_got) .none kV35 dc35 pm35 an35 cd35 ct35), sl35⟩) (c35 : PySem.W.codeIn K cd35 "_law_got" = true) (k35 : PySem.W.keepIn K (.ref f35) = true)
    (a36 : PySem.W.nsIn K mainGlobals "_law_rising" = some (some (.ref f36)))
    (l36 : K.lookup f36 = some ⟨oc36, od36, .func (PySem.W.fnOf "_law_rising" "_law_rising" (defArgs s__law_rising) (defBody s__law_rising) (defScope s__law_rising) .none kV36 dc36 pm36 an36 cd36 ct36), sl36⟩) (c36 : PySem.W.codeIn K cd36 "_law_rising" = true) (k36 : PySem.W.keepIn K (.ref f36) = true)
    (a37 : PySem.W.nsIn K mainGlobals "_law_stood" = some (some (.ref f37)))
    (l37 : K.lookup f37 = some ⟨oc37, od37, .func (PySem.W.fnOf "_law_stood" "_law_stood" (defArgs s__law_stood) (defBody s__law_stood) (defScope s__law_stood) .none kV37 dc37 pm37 an37 cd37 ct37), sl37⟩) (c37 : PySem.W.codeIn K cd37 "_law_stood" = true) (k37 : PySem.W.keepIn K (.ref f37) = true)
    (a38 : PySem.W.nsIn K mainGlobals "_law_ring" = some (some (.ref f38)))
    (l38 : K.lookup f38 = some ⟨oc38, od38, .func (PySem.W.fnOf "_law_ring" "_law_ring" (defArgs s__law_ring) (defBody s__law_ring) (defScope s__law_ring) .none kV38 dc38 pm38 an38 cd38 ct38), sl38⟩) (c38 : PySem.W.codeIn K cd38 "_law_ring" = true) (k38 : PySem.W.keepIn K (.ref f38) = true)
    (a39 : PySem.W.nsIn K mainGlobals "_law_ended" = some (some (.ref f39)))
    (l39 : K.lookup f39 = some ⟨oc39, od39, .func (PySem.W.fnOf "_law_ended" "_law_ended" (defArgs s__law_ended) (defBody s__law_ended) (defScope s__law_ended) .none kV39 dc39 pm39 an39 cd39 ct39), sl39⟩) (c39 : PySem.W.codeIn K cd39 "_law_ended" = true) (k39 : PySem.W.keepIn K (.ref f39) = true)
    (a40 : PySem.W.nsIn K mainGlobals "law" = some (some (.ref f40)))
    (l40 : K.lookup f40 = some ⟨oc40, od40, .func (PySem.W.fnOf "law" "law" (defArgs s_law) (defBody s_law) (defScope s_law) .none kV40 dc40 pm40 an40 cd40 ct40), sl40⟩) (c40 : PySem.W.codeIn K cd40 "law" = true) (k40 : PySem.W.keepIn K (.ref f40) = true)
    (zbool : PySem.W.nsIn K mainGlobals "bool" = some none)
    (zdict : PySem.W.nsIn K mainGlobals "dict" = some none)
    (zint : PySem.W.nsIn K mainGlobals "int" = some none)
    (zisinstance : PySem.W.nsIn K mainGlobals "isinstance" = some none)
    (zlen : PySem.W.nsIn K mainGlobals "len" = some none)
    (zlist : PySem.W.nsIn K mainGlobals "list" = some none)
    (zmax : PySem.W.nsIn K mainGlobals "max" = some none)
    (zmin : PySem.W.nsIn K mainGlobals "min" = some none)
    (zrange : PySem.W.nsIn K mainGlobals "range" = some none)
    (zsorted : PySem.W.nsIn K mainGlobals "sorted" = some none)
    (zstr : PySem.W.nsIn K mainGlobals "str" = some none)
    (zsum : PySem.W.nsIn K mainGlobals "sum" = some none)
    (ztuple : PySem.W.nsIn K mainGlobals "tuple" = some none)
    {tkTOP : Tok} (mTOP : PySem.W.nsIn K mainGlobals "TOP" = some (some (.int 1000000000 tkTOP)))
    {tkMOST : Tok} (mMOST : PySem.W.nsIn K mainGlobals "MOST" = some (some (.int 1000000 tkMOST)))
    {CBidError : Addr} (gBidError : PySem.W.nsIn K mainGlobals "BidError" = some (some (.ref CBidError))) (xBidError : PySem.W.excIn K CBidError [.type "ValueError", .type "Exception", .type "BaseException", .type "object"] "ValueError.__new__" = true) (pBidError : PySem.W.keepIn K (.ref CBidError) = true) (eBidError : PySem.W.subIn K (.ref CBidError) (.type "BaseException") = some true) (tBidError : PySem.W.typeIn K (.ref CBidError) = some (.type "type"))
    {CBadWish : Addr} (gBadWish : PySem.W.nsIn K mainGlobals "BadWish" = some (some (.ref CBadWish))) (xBadWish : PySem.W.excIn K CBadWish [.type "ValueError", .type "Exception", .type "BaseException", .type "object"] "ValueError.__new__" = true) (pBadWish : PySem.W.keepIn K (.ref CBadWish) = true) (eBadWish : PySem.W.subIn K (.ref CBadWish) (.type "BaseException") = some true) (tBadWish : PySem.W.typeIn K (.ref CBadWish) = some (.type "type"))
    {CBadPrice : Addr} (gBadPrice : PySem.W.nsIn K mainGlobals "BadPrice" = some (some (.ref CBadPrice))) (xBadPrice : PySem.W.excIn K CBadPrice [.type "ValueError", .type "Exception", .type "BaseException", .type "object"] "ValueError.__new__" = true) (pBadPrice : PySem.W.keepIn K (.ref CBadPrice) = true) (eBadPrice : PySem.W.subIn K (.ref CBadPrice) (.type "BaseException") = some true) (tBadPrice : PySem.W.typeIn K (.ref CBadPrice) = some (.type "type"))
    {CBadPieces : Addr} (gBadPieces : PySem.W.nsIn K mainGlobals "BadPieces" = some (some (.ref CBadPieces))) (xBadPieces : PySem.W.excIn K CBadPieces [.type "ValueError", .type "Exception", .type "BaseException", .type "object"] "ValueError.__new__" = true) (pBadPieces : PySem.W.keepIn K (.ref CBadPieces) = true) (eBadPieces : PySem.W.subIn K (.ref CBadPieces) (.type "BaseException") = some true) (tBadPieces : PySem.W.typeIn K (.ref CBadPieces) = some (.type "type"))
    {CUneven : Addr} (gUneven : PySem.W.nsIn K mainGlobals "Uneven" = some (some (.ref CUneven))) (xUneven : PySem.W.excIn K CUneven [.type "ValueError", .type "Exception", .type "BaseException", .type "object"] "ValueError.__new__" = true) (pUneven : PySem.W.keepIn K (.ref CUneven) = true) (eUneven : PySem.W.subIn K (.ref CUneven) (.type "BaseException") = some true) (tUneven : PySem.W.typeIn K (.ref CUneven) = some (.type "type"))
    {CNoSuch : Addr} (gNoSuch : PySem.W.nsIn K mainGlobals "NoSuch" = some (some (.ref CNoSuch))) (xNoSuch : PySem.W.excIn K CNoSuch [.type "ValueError", .type "Exception", .type "BaseException", .type "object"] "ValueError.__new__" = true) (pNoSuch : PySem.W.keepIn K (.ref CNoSuch) = true) (eNoSuch : PySem.W.subIn K (.ref CNoSuch) (.type "BaseException") = some true) (tNoSuch : PySem.W.typeIn K (.ref CNoSuch) = some (.type "type"))
    : ∃ fd : FuncData, (∀ (s : Shared) (v : Value), BindsTo s fd ⟨[v], []⟩ [("_law_script", v)]) ∧ ∀ base : Heap, K.In base → base.Ns mainGlobals mg → FnOk l.prog w K mg base CX0 9 fa fd ["_law_script"] (spM K (R_law VS.c0)) := by
  have e := hfa.symm.trans (PySem.W.mg_of X G a40)
  cases e
  have F0 := fun_mk (st := s_whole_within) l0 c0 k0
  have F1 := fun_mk (st := s_checked) l1 c1 k1
  have F2 := fun_mk (st := s_checked_price) l2 c2 k2
  have F3 := fun_mk (st := s_willing) l3 c3 k3
  have F4 := fun_mk (st := s_amount_of) l4 c4 k4
  have F5 := fun_mk (st := s_wanted) l5 c5 k5
  have F6 := fun_mk (st := s_offered) l6 c6 k6
  have F7 := fun_mk (st := s_order_of) l7 c7 k7
  have F8 := fun_mk (st := s_pieces_at) l8 c8 k8
  have F9 := fun_mk (st := s_checked_pieces) l9 c9 k9
  have F10 := fun_mk (st := s_of_side) l10 c10 k10
  have F11 := fun_mk (st := s_even) l11 c11 k11
  have F12 := fun_mk (st := s_pairs) l12 c12 k12
  have F13 := fun_mk (st := s_covered) l13 c13 k13
  have F14 := fun_mk (st := s_taken_up) l14 c14 k14
  have F15 := fun_mk (st := s_lowest) l15 c15 k15
  have F16 := fun_mk (st := s_highest) l16 c16 k16
  have F17 := fun_mk (st := s_price_by) l17 c17 k17
  have F18 := fun_mk (st := s_Book___init__) l18 c18 k18
  have F19 := fun_mk (st := s_Book_add) l19 c19 k19
  have F20 := fun_mk (st := s_Book_known) l20 c20 k20
  have F21 := fun_mk (st := s_Book_left) l21 c21 k21
  have F22 := fun_mk (st := s_Book_paid) l22 c22 k22
  have F23 := fun_mk (st := s_Book_drop) l23 c23 k23
  have F24 := fun_mk (st := s_Book_standing) l24 c24 k24
  have F25 := fun_mk (st := s_Book_ring) l25 c25 k25
  have F26 := fun_mk (st := s__law_cell_at) l26 c26 k26
  have F27 := fun_mk (st := s__law_whole) l27 c27 k27
  have F28 := fun_mk (st := s__law_wish_by) l28 c28 k28
  have F29 := fun_mk (st := s__law_sum) l29 c29 k29
  have F30 := fun_mk (st := s__law_clears) l30 c30 k30
  have F31 := fun_mk (st := s__law_priced) l31 c31 k31
  have F32 := fun_mk (st := s__law_deal_good) l32 c32 k32
  have F33 := fun_mk (st := s__law_quiet) l33 c33 k33
  have F34 := fun_mk (st := s__law_served) l34 c34 k34
  have F35 := fun_mk (st := s__law_got) l35 c35 k35
  have F36 := fun_mk (st := s__law_rising) l36 c36 k36
  have F37 := fun_mk (st := s__law_stood) l37 c37 k37
  have F38 := fun_mk (st := s__law_ring) l38 c38 k38
  have F39 := fun_mk (st := s__law_ended) l39 c39 k39
  have F40 := fun_mk (st := s_law) l40 c40 k40
  have T : Txt K mg ⟨CBidError, CBadWish, CBadPrice, CBadPieces, CUneven, CNoSuch, 0, CBook⟩ ⟨f0, PySem.W.fnOf "whole_within" "whole_within" (defArgs s_whole_within) (defBody s_whole_within) (defScope s_whole_within) .none kV0 dc0 pm0 an0 cd0 ct0, f1, PySem.W.fnOf "checked" "checked" (defArgs s_checked) (defBody s_checked) (defScope s_checked) .none kV1 dc1 pm1 an1 cd1 ct1, f2, PySem.W.fnOf "checked_price" "checked_price" (defArgs s_checked_price) (defBody s_checked_price) (defScope s_checked_price) .none kV2 dc2 pm2 an2 cd2 ct2, f3, PySem.W.fnOf "willing" "willing" (defArgs s_willing) (defBody s_willing) (defScope s_willing) .none kV3 dc3 pm3 an3 cd3 ct3, f4, PySem.W.fnOf "amount_of" "amount_of" (defArgs s_amount_of) (defBody s_amount_of) (defScope s_amount_of) .none kV4 dc4 pm4 an4 cd4 ct4, f5, PySem.W.fnOf "wanted" "wanted" (defArgs s_wanted) (defBody s_wanted) (defScope s_wanted) .none kV5 dc5 pm5 an5 cd5 ct5, f6, PySem.W.fnOf "offered" "offered" (defArgs s_offered) (defBody s_offered) (defScope s_offered) .none kV6 dc6 pm6 an6 cd6 ct6, f7, PySem.W.fnOf "order_of" "order_of" (defArgs s_order_of) (defBody s_order_of) (defScope s_order_of) .none kV7 dc7 pm7 an7 cd7 ct7, f8, PySem.W.fnOf "pieces_at" "pieces_at" (defArgs s_pieces_at) (defBody s_pieces_at) (defScope s_pieces_at) .none kV8 dc8 pm8 an8 cd8 ct8, f9, PySem.W.fnOf "checked_pieces" "checked_pieces" (defArgs s_checked_pieces) (defBody s_checked_pieces) (defScope s_checked_pieces) .none kV9 dc9 pm9 an9 cd9 ct9, f10, PySem.W.fnOf "of_side" "of_side" (defArgs s_of_side) (defBody s_of_side) (defScope s_of_side) .none kV10 dc10 pm10 an10 cd10 ct10, f11, PySem.W.fnOf "even" "even" (defArgs s_even) (defBody s_even) (defScope s_even) .none kV11 dc11 pm11 an11 cd11 ct11, f12, PySem.W.fnOf "pairs" "pairs" (defArgs s_pairs) (defBody s_pairs) (defScope s_pairs) .none kV12 dc12 pm12 an12 cd12 ct12, f13, PySem.W.fnOf "covered" "covered" (defArgs s_covered) (defBody s_covered) (defScope s_covered) .none kV13 dc13 pm13 an13 cd13 ct13, f14, PySem.W.fnOf "taken_up" "taken_up" (defArgs s_taken_up) (defBody s_taken_up) (defScope s_taken_up) .none kV14 dc14 pm14 an14 cd14 ct14, f15, PySem.W.fnOf "lowest" "lowest" (defArgs s_lowest) (defBody s_lowest) (defScope s_lowest) .none kV15 dc15 pm15 an15 cd15 ct15, f16, PySem.W.fnOf "highest" "highest" (defArgs s_highest) (defBody s_highest) (defScope s_highest) .none kV16 dc16 pm16 an16 cd16 ct16, f17, PySem.W.fnOf "price_by" "price_by" (defArgs s_price_by) (defBody s_price_by) (defScope s_price_by) .none kV17 dc17 pm17 an17 cd17 ct17, f18, PySem.W.fnOf "__init__" "Book.__init__" (defArgs s_Book___init__) (defBody s_Book___init__) (defScope s_Book___init__) .none kV18 dc18 pm18 an18 cd18 ct18, f19, PySem.W.fnOf "add" "Book.add" (defArgs s_Book_add) (defBody s_Book_add) (defScope s_Book_add) .none kV19 dc19 pm19 an19 cd19 ct19, f20, PySem.W.fnOf "known" "Book.known" (defArgs s_Book_known) (defBody s_Book_known) (defScope s_Book_known) .none kV20 dc20 pm20 an20 cd20 ct20, f21, PySem.W.fnOf "left" "Book.left" (defArgs s_Book_left) (defBody s_Book_left) (defScope s_Book_left) .none kV21 dc21 pm21 an21 cd21 ct21, f22, PySem.W.fnOf "paid" "Book.paid" (defArgs s_Book_paid) (defBody s_Book_paid) (defScope s_Book_paid) .none kV22 dc22 pm22 an22 cd22 ct22, f23, PySem.W.fnOf "drop" "Book.drop" (defArgs s_Book_drop) (defBody s_Book_drop) (defScope s_Book_drop) .none kV23 dc23 pm23 an23 cd23 ct23, f24, PySem.W.fnOf "standing" "Book.standing" (defArgs s_Book_standing) (defBody s_Book_standing) (defScope s_Book_standing) .none kV24 dc24 pm24 an24 cd24 ct24, f25, PySem.W.fnOf "ring" "Book.ring" (defArgs s_Book_ring) (defBody s_Book_ring) (defScope s_Book_ring) .none kV25 dc25 pm25 an25 cd25 ct25, f26, PySem.W.fnOf "_law_cell_at" "_law_cell_at" (defArgs s__law_cell_at) (defBody s__law_cell_at) (defScope s__law_cell_at) .none kV26 dc26 pm26 an26 cd26 ct26, f27, PySem.W.fnOf "_law_whole" "_law_whole" (defArgs s__law_whole) (defBody s__law_whole) (defScope s__law_whole) .none kV27 dc27 pm27 an27 cd27 ct27, f28, PySem.W.fnOf "_law_wish_by" "_law_wish_by" (defArgs s__law_wish_by) (defBody s__law_wish_by) (defScope s__law_wish_by) .none kV28 dc28 pm28 an28 cd28 ct28, f29, PySem.W.fnOf "_law_sum" "_law_sum" (defArgs s__law_sum) (defBody s__law_sum) (defScope s__law_sum) .none kV29 dc29 pm29 an29 cd29 ct29, f30, PySem.W.fnOf "_law_clears" "_law_clears" (defArgs s__law_clears) (defBody s__law_clears) (defScope s__law_clears) .none kV30 dc30 pm30 an30 cd30 ct30, f31, PySem.W.fnOf "_law_priced" "_law_priced" (defArgs s__law_priced) (defBody s__law_priced) (defScope s__law_priced) .none kV31 dc31 pm31 an31 cd31 ct31, f32, PySem.W.fnOf "_law_deal_good" "_law_deal_good" (defArgs s__law_deal_good) (defBody s__law_deal_good) (defScope s__law_deal_good) .none kV32 dc32 pm32 an32 cd32 ct32, f33, PySem.W.fnOf "_law_quiet" "_law_quiet" (defArgs s__law_quiet) (defBody s__law_quiet) (defScope s__law_quiet) .none kV33 dc33 pm33 an33 cd33 ct33, f34, PySem.W.fnOf "_law_served" "_law_served" (defArgs s__law_served) (defBody s__law_served) (defScope s__law_served) .none kV34 dc34 pm34 an34 cd34 ct34, f35, PySem.W.fnOf "_law_got" "_law_got" (defArgs s__law_got) (defBody s__law_got) (defScope s__law_got) .none kV35 dc35 pm35 an35 cd35 ct35, f36, PySem.W.fnOf "_law_rising" "_law_rising" (defArgs s__law_rising) (defBody s__law_rising) (defScope s__law_rising) .none kV36 dc36 pm36 an36 cd36 ct36, f37, PySem.W.fnOf "_law_stood" "_law_stood" (defArgs s__law_stood) (defBody s__law_stood) (defScope s__law_stood) .none kV37 dc37 pm37 an37 cd37 ct37, f38, PySem.W.fnOf "_law_ring" "_law_ring" (defArgs s__law_ring) (defBody s__law_ring) (defScope s__law_ring) .none kV38 dc38 pm38 an38 cd38 ct38, f39, PySem.W.fnOf "_law_ended" "_law_ended" (defArgs s__law_ended) (defBody s__law_ended) (defScope s__law_ended) .none kV39 dc39 pm39 an39 cd39 ct39, ()⟩ := { F_whole_within := F0, g_whole_within := PySem.W.mg_of X G a0, b_whole_within := F0.binds (ps := ["thing", "low", "high"]) fun _ _ _ _ _ _ us hl => match us, hl with | [_, _, _], _ => rfl, F_checked := F1, g_checked := PySem.W.mg_of X G a1, b_checked := F1.binds (ps := ["thing"]) fun _ _ _ _ _ _ us hl => match us, hl with | [_], _ => rfl, F_checked_price := F2, g_checked_price := PySem.W.mg_of X G a2, b_checked_price := F2.binds (ps := ["price"]) fun _ _ _ _ _ _ us hl => match us, hl with | [_], _ => rfl, F_willing := F3, g_willing := PySem.W.mg_of X G a3, b_willing := F3.binds (ps := ["wish", "price"]) fun _ _ _ _ _ _ us hl => match us, hl with | [_, _], _ => rfl, F_amount_of := F4, g_amount_of := PySem.W.mg_of X G a4, b_amount_of := F4.binds (ps := ["wishes", "side", "price"]) fun _ _ _ _ _ _ us hl => match us, hl with | [_, _, _], _ => rfl, F_wanted := F5, g_wanted := PySem.W.mg_of X G a5, b_wanted := F5.binds (ps := ["wishes", "price"]) fun _ _ _ _ _ _ us hl => match us, hl with | [_, _], _ => rfl, F_offered := F6, g_offered := PySem.W.mg_of X G a6, b_offered := F6.binds (ps := ["wishes", "price"]) fun _ _ _ _ _ _ us hl => match us, hl with | [_, _], _ => rfl, F_order_of := F7, g_order_of := PySem.W.mg_of X G a7, b_order_of := F7.binds (ps := ["wishes", "side", "price"]) fun _ _ _ _ _ _ us hl => match us, hl with | [_, _, _], _ => rfl, F_pieces_at := F8, g_pieces_at := PySem.W.mg_of X G a8, b_pieces_at := F8.binds (ps := ["wishes", "price"]) fun _ _ _ _ _ _ us hl => match us, hl with | [_, _], _ => rfl, F_checked_pieces := F9, g_checked_pieces := PySem.W.mg_of X G a9, b_checked_pieces := F9.binds (ps := ["wishes", "pieces"]) fun _ _ _ _ _ _ us hl => match us, hl with | [_, _], _ => rfl, F_of_side := F10, g_of_side := PySem.W.mg_of X G a10, b_of_side := F10.binds (ps := ["wishes", "pieces", "side"]) fun _ _ _ _ _ _ us hl => match us, hl with | [_, _, _], _ => rfl, F_even := F11, g_even := PySem.W.mg_of X G a11, b_even := F11.binds (ps := ["wishes", "pieces"]) fun _ _ _ _ _ _ us hl => match us, hl with | [_, _], _ => rfl, F_pairs := F12, g_pairs := PySem.W.mg_of X G a12, b_pairs := F12.binds (ps := ["wishes", "pieces"]) fun _ _ _ _ _ _ us hl => match us, hl with | [_, _], _ => rfl, F_covered := F13, g_covered := PySem.W.mg_of X G a13, b_covered := F13.binds (ps := ["wishes", "price"]) fun _ _ _ _ _ _ us hl => match us, hl with | [_, _], _ => rfl, F_taken_up := F14, g_taken_up := PySem.W.mg_of X G a14, b_taken_up := F14.binds (ps := ["wishes", "price"]) fun _ _ _ _ _ _ us hl => match us, hl with | [_, _], _ => rfl, F_lowest := F15, g_lowest := PySem.W.mg_of X G a15, b_lowest := F15.binds (ps := ["wishes"]) fun _ _ _ _ _ _ us hl => match us, hl with | [_], _ => rfl, F_highest := F16, g_highest := PySem.W.mg_of X G a16, b_highest := F16.binds (ps := ["wishes"]) fun _ _ _ _ _ _ us hl => match us, hl with | [_], _ => rfl, F_price_by := F17, g_price_by := PySem.W.mg_of X G a17, b_price_by := F17.binds (ps := ["wishes", "old"]) fun _ _ _ _ _ _ us hl => match us, hl with | [_, _], _ => rfl, F_Book___init__ := F18, mk_Book := ⟨mkB, a18, i18, kcB⟩, b_Book___init__ := F18.binds (ps := ["self", "old"]) fun _ _ _ _ _ _ us hl => match us, hl with | [_, _], _ => rfl, F_Book_add := F19, me_Book_add := ⟨a19, i19, k19⟩, b_Book_add := F19.binds (ps := ["self", "wish"]) fun _ _ _ _ _ _ us hl => match us, hl with | [_, _], _ => rfl, F_Book_known := F20, me_Book_known := ⟨a20, i20, k20⟩, b_Book_known := F20.binds (ps := ["self", "number"]) fun _ _ _ _ _ _ us hl => match us, hl with | [_, _], _ => rfl, F_Book_left := F21, me_Book_left := ⟨a21, i21, k21⟩, b_Book_left := F21.binds (ps := ["self", "number"]) fun _ _ _ _ _ _ us hl => match us, hl with | [_, _], _ => rfl, F_Book_paid := F22, me_Book_paid := ⟨a22, i22, k22⟩, b_Book_paid := F22.binds (ps := ["self", "number"]) fun _ _ _ _ _ _ us hl => match us, hl with | [_, _], _ => rfl, F_Book_drop := F23, me_Book_drop := ⟨a23, i23, k23⟩, b_Book_drop := F23.binds (ps := ["self", "number"]) fun _ _ _ _ _ _ us hl => match us, hl with | [_, _], _ => rfl, F_Book_standing := F24, me_Book_standing := ⟨a24, i24, k24⟩, b_Book_standing := F24.binds (ps := ["self"]) fun _ _ _ _ _ _ us hl => match us, hl with | [_], _ => rfl, F_Book_ring := F25, me_Book_ring := ⟨a25, i25, k25⟩, b_Book_ring := F25.binds (ps := ["self"]) fun _ _ _ _ _ _ us hl => match us, hl with | [_], _ => rfl, F__law_cell_at := F26, g__law_cell_at := PySem.W.mg_of X G a26, b__law_cell_at := F26.binds (ps := ["_law_script", "_law_k"]) fun _ _ _ _ _ _ us hl => match us, hl with | [_, _], _ => rfl, F__law_whole := F27, g__law_whole := PySem.W.mg_of X G a27, b__law_whole := F27.binds (ps := ["_law_thing"]) fun _ _ _ _ _ _ us hl => match us, hl with | [_], _ => rfl, F__law_wish_by := F28, g__law_wish_by := PySem.W.mg_of X G a28, b__law_wish_by := F28.binds (ps := ["_law_cell"]) fun _ _ _ _ _ _ us hl => match us, hl with | [_], _ => rfl, F__law_sum := F29, g__law_sum := PySem.W.mg_of X G a29, b__law_sum := F29.binds (ps := ["_law_rows", "_law_side", "_law_price"]) fun _ _ _ _ _ _ us hl => match us, hl with | [_, _, _], _ => rfl, F__law_clears := F30, g__law_clears := PySem.W.mg_of X G a30, b__law_clears := F30.binds (ps := ["_law_rows", "_law_price"]) fun _ _ _ _ _ _ us hl => match us, hl with | [_, _], _ => rfl, F__law_priced := F31, g__law_priced := PySem.W.mg_of X G a31, b__law_priced := F31.binds (ps := ["_law_rows", "_law_old", "_law_price"]) fun _ _ _ _ _ _ us hl => match us, hl with | [_, _, _], _ => rfl, F__law_deal_good := F32, g__law_deal_good := PySem.W.mg_of X G a32, b__law_deal_good := F32.binds (ps := ["_law_deal", "_law_stood_here", "_law_price"]) fun _ _ _ _ _ _ us hl => match us, hl with | [_, _, _], _ => rfl, F__law_quiet := F33, g__law_quiet := PySem.W.mg_of X G a33, b__law_quiet := F33.binds (ps := ["_law_book", "_law_price"]) fun _ _ _ _ _ _ us hl => match us, hl with | [_, _], _ => rfl, F__law_served := F34, g__law_served := PySem.W.mg_of X G a34, b__law_served := F34.binds (ps := ["_law_rows", "_law_side", "_law_price", "_law_many"]) fun _ _ _ _ _ _ us hl => match us, hl with | [_, _, _, _], _ => rfl, F__law_got := F35, g__law_got := PySem.W.mg_of X G a35, b__law_got := F35.binds (ps := ["_law_deals", "_law_at"]) fun _ _ _ _ _ _ us hl => match us, hl with | [_, _], _ => rfl, F__law_rising := F36, g__law_rising := PySem.W.mg_of X G a36, b__law_rising := F36.binds (ps := ["_law_deals"]) fun _ _ _ _ _ _ us hl => match us, hl with | [_], _ => rfl, F__law_stood := F37, g__law_stood := PySem.W.mg_of X G a37, b__law_stood := F37.binds (ps := ["_law_came", "_law_dealt", "_law_dropped"]) fun _ _ _ _ _ _ us hl => match us, hl with | [_, _, _], _ => rfl, F__law_ring := F38, g__law_ring := PySem.W.mg_of X G a38, b__law_ring := F38.binds (ps := ["_law_book", "_law_came", "_law_dealt", "_law_dropped"]) fun _ _ _ _ _ _ us hl => match us, hl with | [_, _, _, _], _ => rfl, F__law_ended := F39, g__law_ended := PySem.W.mg_of X G a39, b__law_ended := F39.binds (ps := ["_law_book", "_law_came", "_law_dealt", "_law_dropped"]) fun _ _ _ _ _ _ us hl => match us, hl with | [_, _, _, _], _ => rfl, bk := ⟨⟨pgB, hdB, poB, saB⟩, nP, nC, nR, nM⟩, g_Book := PySem.W.mg_of X G gBook, z_bool := PySem.W.mg_none_of X G zbool, z_dict := PySem.W.mg_none_of X G zdict, z_int := PySem.W.mg_none_of X G zint, z_isinstance := PySem.W.mg_none_of X G zisinstance, z_len := PySem.W.mg_none_of X G zlen, z_list := PySem.W.mg_none_of X G zlist, z_max := PySem.W.mg_none_of X G zmax, z_min := PySem.W.mg_none_of X G zmin, z_range := PySem.W.mg_none_of X G zrange, z_sorted := PySem.W.mg_none_of X G zsorted, z_str := PySem.W.mg_none_of X G zstr, z_sum := PySem.W.mg_none_of X G zsum, z_tuple := PySem.W.mg_none_of X G ztuple, m_TOP := ⟨_, PySem.W.mg_of X G mTOP⟩, m_MOST := ⟨_, PySem.W.mg_of X G mMOST⟩, cc_BidError := ⟨PySem.W.mg_of X G gBidError, xBidError, pBidError, eBidError, tBidError⟩, cc_BadWish := ⟨PySem.W.mg_of X G gBadWish, xBadWish, pBadWish, eBadWish, tBadWish⟩, cc_BadPrice := ⟨PySem.W.mg_of X G gBadPrice, xBadPrice, pBadPrice, eBadPrice, tBadPrice⟩, cc_BadPieces := ⟨PySem.W.mg_of X G gBadPieces, xBadPieces, pBadPieces, eBadPieces, tBadPieces⟩, cc_Uneven := ⟨PySem.W.mg_of X G gUneven, xUneven, pUneven, eUneven, tUneven⟩, cc_NoSuch := ⟨PySem.W.mg_of X G gNoSuch, xNoSuch, pNoSuch, eNoSuch, tNoSuch⟩ }
  exact ⟨PySem.W.fnOf "law" "law" (defArgs s_law) (defBody s_law) (defScope s_law) .none kV40 dc40 pm40 an40 cd40 ct40, fun s v => .of_eq rfl, fun base _ _ => by
    have z := ok_law (P := l.prog) (w := w) (base := base) F40 T
    rw [R_law_eq _ VS.c0] at z
    exact z⟩
end PW
open PySem PySem.W PyProof.Rows in
set_option maxRecDepth 100000 in
set_option maxHeartbeats 0 in
theorem PySem.Challenge.cw_bidclear_k14_whole_rings_holds : PySem.Challenge.rw_bidclear_k14_whole_rings.Holds := by
  w_on; o_law; k_head; (case hw => w_witness2)
  k_fill
  refine L2.walk_ofB (l := PySem.Challenge.rw_bidclear_k14_whole_rings) (n := 63) (k := 9) (x := "_law_script") (CX := fun _ => L2.CX0) (sp := fun w => VS.spM _ (VS.R_law VS.c0)) rfl (by decide) rfl ⟨rfl, by decide, by decide⟩ (fun w h Y => PySem.W.kIn_of Y) ?F (fun w H a ns hl hb _ hS => VS.law_startM hS (VS.R_law_mk hl hb)) (fun _ _ _ _ _ h => h)
  case F =>
    intro w mg fa h KX G hmg
    refine' PW.all_mk KX G hmg ?gBook ?pgB ?hdB ?poB ?saB ?mkB ?kcB ?nP ?nC ?nR ?nM ?a0 ?l0 ?c0 ?k0 ?a1 ?l1 ?c1 ?k1 ?a2 ?l2 ?c2 ?k2 ?a3 ?l3 ?c3 ?k3 ?a4 ?l4 ?c4 ?k4 ?a5 ?l5 ?c5 ?k5 ?a6 ?l6 ?c6 ?k6 ?a7 ?l7 ?c7 ?k7 ?a8 ?l8 ?c8 ?k8 ?a9 ?l9 ?c9 ?k9 ?a10 ?l10 ?c10 ?k10 ?a11 ?l11 ?c11 ?k11 ?a12 ?l12 ?c12 ?k12 ?a13 ?l13 ?c13 ?k13 ?a14 ?l14 ?c14 ?k14 ?a15 ?l15 ?c15 ?k15 ?a16 ?l16 ?c16 ?k16 ?a17 ?l17 ?c17 ?k17 ?a18 ?i18 ?l18 ?c18 ?k18 ?a19 ?i19 ?l19 ?c19 ?k19 ?a20 ?i20 ?l20 ?c20 ?k20 ?a21 ?i21 ?l21 ?c21 ?k21 ?a22 ?i22 ?l22 ?c22 ?k22 ?a23 ?i23 ?l23 ?c23 ?k23 ?a24 ?i24 ?l24 ?c24 ?k24 ?a25 ?i25 ?l25 ?c25 ?k25 ?a26 ?l26 ?c26 ?k26 ?a27 ?l27 ?c27 ?k27 ?a28 ?l28 ?c28 ?k28 ?a29 ?l29 ?c29 ?k29 ?a30 ?l30 ?c30 ?k30 ?a31 ?l31 ?c31 ?k31 ?a32 ?l32 ?c32 ?k32 ?a33 ?l33 ?c33 ?k33 ?a34 ?l34 ?c34 ?k34 ?a35 ?l35 ?c35 ?k35 ?a36 ?l36 ?c36 ?k36 ?a37 ?l37 ?c37 ?k37 ?a38 ?l38 ?c38 ?k38 ?a39 ?l39 ?c39 ?k39 ?a40 ?l40 ?c40 ?k40 ?zbool ?zdict ?zint ?zisinstance ?zlen ?zlist ?zmax ?zmin ?zrange ?zsorted ?zstr ?zsum ?ztuple ?mTOP ?mMOST ?gBidError ?xBidError ?pBidError ?eBidError ?tBidError ?gBadWish ?xBadWish ?pBadWish ?eBadWish ?tBadWish ?gBadPrice ?xBadPrice ?pBadPrice ?eBadPrice ?tBadPrice ?gBadPieces ?xBadPieces ?pBadPieces ?eBadPieces ?tBadPieces ?gUneven ?xUneven ?pUneven ?eUneven ?tUneven ?gNoSuch ?xNoSuch ?pNoSuch ?eNoSuch ?tNoSuch
    (case gBook => k_is)
    (case pgB => k_is)
    (case hdB => k_is)
    (case poB => k_is)
    (case saB => k_is)
    (case mkB => k_is)
    (case kcB => k_is)
    (case nP => k_is)
    (case nC => k_is)
    (case nR => k_is)
    (case nM => k_is)
    (case a0 => k_is)
    (case l0 => k_is)
    (case c0 => k_is)
    (case k0 => k_is)
    (case a1 => k_is)
    (case l1 => k_is)
    (case c1 => k_is)
    (case k1 => k_is)
    (case a2 => k_is)
    (case l2 => k_is)
    (case c2 => k_is)
    (case k2 => k_is)
    (case a3 => k_is)
    (case l3 => k_is)
    (case c3 => k_is)
    (case k3 => k_is)
    (case a4 => k_is)
    (case l4 => k_is)
    (case c4 => k_is)
    (case k4 => k_is)
    (case a5 => k_is)
    (case l5 => k_is)
    (case c5 => k_is)
    (case k5 => k_is)
    (case a6 => k_is)
    (case l6 => k_is)
    (case c6 => k_is)
    (case k6 => k_is)
    (case a7 => k_is)
    (case l7 => k_is)
    (case c7 => k_is)
    (case k7 => k_is)
    (case a8 => k_is)
    (case l8 => k_is)
    (case c8 => k_is)
    (case k8 => k_is)
    (case a9 => k_is)
    (case l9 => k_is)
    (case c9 => k_is)
    (case k9 => k_is)
    (case a10 => k_is)
    (case l10 => k_is)
    (case c10 => k_is)
    (case k10 => k_is)
    (case a11 => k_is)
    (case l11 => k_is)
    (case c11 => k_is)
    (case k11 => k_is)
    (case a12 => k_is)
    (case l12 => k_is)
    (case c12 => k_is)
    (case k12 => k_is)
    (case a13 => k_is)
    (case l13 => k_is)
    (case c13 => k_is)
    (case k13 => k_is)
    (case a14 => k_is)
    (case l14 => k_is)
    (case c14 => k_is)
    (case k14 => k_is)
    (case a15 => k_is)
    (case l15 => k_is)
    (case c15 => k_is)
    (case k15 => k_is)
    (case a16 => k_is)
    (case l16 => k_is)
    (case c16 => k_is)
    (case k16 => k_is)
    (case a17 => k_is)
    (case l17 => k_is)
    (case c17 => k_is)
    (case k17 => k_is)
    (case a18 => k_is)
    (case i18 => k_is)
    (case l18 => k_is)
    (case c18 => k_is)
    (case k18 => k_is)
    (case a19 => k_is)
    (case i19 => k_is)
    (case l19 => k_is)
    (case c19 => k_is)
    (case k19 => k_is)
    (case a20 => k_is)
    (case i20 => k_is)
    (case l20 => k_is)
    (case c20 => k_is)
    (case k20 => k_is)
    (case a21 => k_is)
    (case i21 => k_is)
    (case l21 => k_is)
    (case c21 => k_is)
    (case k21 => k_is)
    (case a22 => k_is)
    (case i22 => k_is)
    (case l22 => k_is)
    (case c22 => k_is)
    (case k22 => k_is)
    (case a23 => k_is)
    (case i23 => k_is)
    (case l23 => k_is)
    (case c23 => k_is)
    (case k23 => k_is)
    (case a24 => k_is)
    (case i24 => k_is)
    (case l24 => k_is)
    (case c24 => k_is)
    (case k24 => k_is)
    (case a25 => k_is)
    (case i25 => k_is)
    (case l25 => k_is)
    (case c25 => k_is)
    (case k25 => k_is)
    (case a26 => k_is)
    (case l26 => k_is)
    (case c26 => k_is)
    (case k26 => k_is)
    (case a27 => k_is)
    (case l27 => k_is)
    (case c27 => k_is)
    (case k27 => k_is)
    (case a28 => k_is)
    (case l28 => k_is)
    (case c28 => k_is)
    (case k28 => k_is)
    (case a29 => k_is)
    (case l29 => k_is)
    (case c29 => k_is)
    (case k29 => k_is)
    (case a30 => k_is)
    (case l30 => k_is)
    (case c30 => k_is)
    (case k30 => k_is)
    (case a31 => k_is)
    (case l31 => k_is)
    (case c31 => k_is)
    (case k31 => k_is)
    (case a32 => k_is)
    (case l32 => k_is)
    (case c32 => k_is)
    (case k32 => k_is)
    (case a33 => k_is)
    (case l33 => k_is)
    (case c33 => k_is)
    (case k33 => k_is)
    (case a34 => k_is)
    (case l34 => k_is)
    (case c34 => k_is)
    (case k34 => k_is)
    (case a35 => k_is)
    (case l35 => k_is)
    (case c35 => k_is)
    (case k35 => k_is)
    (case a36 => k_is)
    (case l36 => k_is)
    (case c36 => k_is)
    (case k36 => k_is)
    (case a37 => k_is)
    (case l37 => k_is)
    (case c37 => k_is)
    (case k37 => k_is)
    (case a38 => k_is)
    (case l38 => k_is)
    (case c38 => k_is)
    (case k38 => k_is)
    (case a39 => k_is)
    (case l39 => k_is)
    (case c39 => k_is)
    (case k39 => k_is)
    (case a40 => k_is)
    (case l40 => k_is)
    (case c40 => k_is)
    (case k40 => k_is)
    (case zbool => k_is)
    (case zdict => k_is)
    (case zint => k_is)
    (case zisinstance => k_is)
    (case zlen => k_is)
    (case zlist => k_is)
    (case zmax => k_is)
    (case zmin => k_is)
    (case zrange => k_is)
    (case zsorted => k_is)
    (case zstr => k_is)
    (case zsum => k_is)
    (case ztuple => k_is)
    (case mTOP => k_is)
    (case mMOST => k_is)
    (case gBidError => k_is)
    (case xBidError => k_exc)
    (case pBidError => k_is)
    (case eBidError => k_is)
    (case tBidError => k_is)
    (case gBadWish => k_is)
    (case xBadWish => k_exc)
    (case pBadWish => k_is)
    (case eBadWish => k_is)
    (case tBadWish => k_is)
    (case gBadPrice => k_is)
    (case xBadPrice => k_exc)
    (case pBadPrice => k_is)
    (case eBadPrice => k_is)
    (case tBadPrice => k_is)
    (case gBadPieces => k_is)
    (case xBadPieces => k_exc)
    (case pBadPieces => k_is)
    (case eBadPieces => k_is)
    (case tBadPieces => k_is)
    (case gUneven => k_is)
    (case xUneven => k_exc)
    (case pUneven => k_is)
    (case eUneven => k_is)
    (case tUneven => k_is)
    (case gNoSuch => k_is)
    (case xNoSuch => k_exc)
    (case pNoSuch => k_is)
    (case eNoSuch => k_is)
    (case tNoSuch => k_is)
#print axioms PySem.Challenge.cw_bidclear_k14_whole_rings_holds
