import PyProof.Rows.All
import Wide.All
import OpenK.AllK
import Wide.FinOn
import HandS.ForMost
import HandS.AnyAll
import HandS.Lambda
import KE.KDictKeyed
import HandS.Flow
import HandS.TupAny
import HandS.IsInst
import HandS.Dict
import HandS.List
import HandS.Iter
import HandS.More
import KE.KeyNested
import HandS.Comp
import HandS.DictComp
import HandS.Words
import KE.GoesMore
import KE.GoesEnum
import HandS.Star
import KE.GoesZip
import KE.KDictZip
import HandS.TupLe
import KE.KSortTup
import HandS.SortOrd
import HandS.SortInts
import HandS.Sort
import HandS.SortRule
import HandS.GenList
import PyProof.SumAnyB
import PyProof.TupleOfGen
import HandS.TupSets
import HandS.SetBool
import KE.KSortKey
import HandS.Wide
import KE.KNestM
import HandS.HeadHook1
import HandS.EndTab
import HandS.EndBits
import PySem.Challenge.RW_conceptscript_k62_axioms_that_stand_apar
set_option Elab.async false
set_option linter.all false
set_option maxRecDepth 100000
set_option maxHeartbeats 4000000
/-! Z1: own values, own store, how they stand for HandS's; the readings made of an evaluator. -/
namespace Cs
open PySem PySem.Spec PyProof.Rows L2

/-! ### own values -/
inductive D where
  | non
  | int (i : Int)
  | str (l : List Nat)
  | tup (l : List D)
inductive A where
  | bl (b : Bool)
  | dat (d : D)
  | obj (n : Nat)
inductive O where
  | lst (l : List A)
  | dK (l : List (D × A))
  | dN (l : List (D × A))
  | ins (c : Nat) (l : List (Nat × A))

def sOf (l : List Nat) : Str := ⟨l.toArray⟩
theorem sOf_inj {a b : List Nat} (h : sOf a = sOf b) : a = b := by
  have h1 : a.toArray = b.toArray := congrArg Str.cps h
  simpa using congrArg Array.toList h1

def eqN : List Nat → List Nat → Bool
  | [], [] => true
  | a :: l, b :: r => cond (Nat.beq a b) (eqN l r) false
  | [], _ :: _ => false
  | _ :: _, [] => false
theorem eqN_iff : ∀ {a b : List Nat}, eqN a b = true ↔ a = b
  | [], [] => by simp [eqN]
  | a :: l, b :: r => by
    unfold eqN
    cases h : Nat.beq a b with
    | true =>
      have e := Nat.eq_of_beq_eq_true h
      subst e
      rw [cond_true, eqN_iff (a := l) (b := r)]
      simp
    | false =>
      have e : a ≠ b := fun e => by rw [e, Nat.beq_refl] at h; cases h
      simp [e]
  | [], _ :: _ => by simp [eqN]
  | _ :: _, [] => by simp [eqN]

mutual
def D.beq : D → D → Bool
  | .non, .non => true
  | .int a, .int b => decide (a = b)
  | .str a, .str b => eqN a b
  | .tup a, .tup b => D.beqs a b
  | .non, .int _ | .non, .str _ | .non, .tup _ => false
  | .int _, .non | .int _, .str _ | .int _, .tup _ => false
  | .str _, .non | .str _, .int _ | .str _, .tup _ => false
  | .tup _, .non | .tup _, .int _ | .tup _, .str _ => false
def D.beqs : List D → List D → Bool
  | [], [] => true
  | a :: l, b :: r => cond (D.beq a b) (D.beqs l r) false
  | [], _ :: _ => false
  | _ :: _, [] => false
end
mutual
theorem D.beq_iff : ∀ {a b : D}, D.beq a b = true ↔ a = b
  | .non, .non => by simp [D.beq]
  | .int a, .int b => by simp [D.beq]
  | .str a, .str b => by simp [D.beq, eqN_iff]
  | .tup a, .tup b => by simp [D.beq, D.beqs_iff (a := a) (b := b)]
  | .non, .int _ | .non, .str _ | .non, .tup _ => by simp [D.beq]
  | .int _, .non | .int _, .str _ | .int _, .tup _ => by simp [D.beq]
  | .str _, .non | .str _, .int _ | .str _, .tup _ => by simp [D.beq]
  | .tup _, .non | .tup _, .int _ | .tup _, .str _ => by simp [D.beq]
theorem D.beqs_iff : ∀ {a b : List D}, D.beqs a b = true ↔ a = b
  | [], [] => by simp [D.beqs]
  | a :: l, b :: r => by
    unfold D.beqs
    cases h : D.beq a b with
    | true =>
      have e := D.beq_iff.mp h
      subst e
      rw [cond_true, D.beqs_iff (a := l) (b := r)]
      simp
    | false =>
      have e : a ≠ b := fun e => by rw [D.beq_iff.mpr e] at h; cases h
      simp [e]
  | [], _ :: _ => by simp [D.beqs]
  | _ :: _, [] => by simp [D.beqs]
end

mutual
/-- at most n levels deep -/
def tall : D → Nat → Bool
  | .non, _ => true
  | .int _, _ => true
  | .str _, _ => true
  | .tup l, n => match n with
    | 0 => false
    | k + 1 => talls l k
def talls : List D → Nat → Bool
  | [], _ => true
  | d :: l, k => cond (tall d k) (talls l k) false
end
mutual
theorem tall_mono : ∀ {d : D} {n m : Nat}, tall d n = true → n ≤ m → tall d m = true
  | .non, _, _, _, _ => rfl
  | .int _, _, _, _, _ => rfl
  | .str _, _, _, _, _ => rfl
  | .tup l, 0, _, h, _ => by simp [tall] at h
  | .tup l, n + 1, 0, h, hm => by omega
  | .tup l, n + 1, m + 1, h, hm => by
    simp only [tall] at h ⊢
    exact talls_mono h (Nat.le_of_succ_le_succ hm)
theorem talls_mono : ∀ {l : List D} {n m : Nat}, talls l n = true → n ≤ m → talls l m = true
  | [], _, _, _, _ => rfl
  | d :: l, n, m, h, hm => by
    unfold talls at h ⊢
    cases q : tall d n with
    | false => rw [q] at h; cases h
    | true =>
      rw [q] at h
      rw [tall_mono q hm]
      exact talls_mono h hm
end

/-! ### own store -/
inductive Tr where
  | nil
  | node (v : Option O) (l r : Tr)
def Tr.get : Tr → Nat → Option O
  | .nil, _ => none
  | .node v l r, n => cond (Nat.beq n 0) v (cond (Nat.beq (n % 2) 1) (l.get (n / 2)) (r.get (n / 2 - 1)))
def Tr.set : Nat → Tr → Nat → O → Tr
  | 0, t, _, _ => t
  | f + 1, .nil, n, o => cond (Nat.beq n 0) (.node (some o) .nil .nil) (cond (Nat.beq (n % 2) 1) (.node none (Tr.set f .nil (n / 2) o) .nil) (.node none .nil (Tr.set f .nil (n / 2 - 1) o)))
  | f + 1, .node v l r, n, o => cond (Nat.beq n 0) (.node (some o) l r) (cond (Nat.beq (n % 2) 1) (.node v (Tr.set f l (n / 2) o) r) (.node v l (Tr.set f r (n / 2 - 1) o)))
theorem beqN (a b : Nat) : Nat.beq a b = decide (a = b) := by
  cases h : Nat.beq a b with
  | true => rw [Nat.eq_of_beq_eq_true h]; simp
  | false =>
    have e : a ≠ b := fun e => by rw [e, Nat.beq_refl] at h; cases h
    simp [e]
theorem cond_dec {α : Type} {p : Prop} [Decidable p] (x y : α) : cond (decide p) x y = if p then x else y := by
  by_cases h : p <;> simp [h]
theorem Tr.get_node (v : Option O) (l r : Tr) (n : Nat) : (Tr.node v l r).get n = if n = 0 then v else if n % 2 = 1 then l.get (n / 2) else r.get (n / 2 - 1) := by
  rw [Tr.get, beqN, beqN, cond_dec, cond_dec]
theorem Tr.set_node (f : Nat) (v : Option O) (l r : Tr) (n : Nat) (o : O) : Tr.set (f + 1) (.node v l r) n o =
    if n = 0 then .node (some o) l r else if n % 2 = 1 then .node v (Tr.set f l (n / 2) o) r else .node v l (Tr.set f r (n / 2 - 1) o) := by
  rw [Tr.set, beqN, beqN, cond_dec, cond_dec]
theorem Tr.set_nil (f : Nat) (n : Nat) (o : O) : Tr.set (f + 1) .nil n o =
    if n = 0 then .node (some o) .nil .nil else if n % 2 = 1 then .node none (Tr.set f .nil (n / 2) o) .nil else .node none .nil (Tr.set f .nil (n / 2 - 1) o) := by
  rw [Tr.set, beqN, beqN, cond_dec, cond_dec]
theorem Tr.get_nil (n : Nat) : Tr.nil.get n = none := rfl
theorem Tr.get_set : ∀ (f : Nat) (t : Tr) (n : Nat) (o : O) (k : Nat), n + 1 < 2 ^ f → (Tr.set f t n o).get k = if k = n then some o else t.get k := by
  intro f
  induction f with
  | zero => intro t n o k h; simp at h
  | succ f ih =>
    intro t n o k h
    have h2 : 2 ^ (f + 1) = 2 * 2 ^ f := by rw [Nat.pow_succ, Nat.mul_comm]
    rw [h2] at h
    have hl : n / 2 + 1 < 2 ^ f ∨ n = 0 ∨ n % 2 = 0 := by omega
    have hr : n / 2 - 1 + 1 < 2 ^ f ∨ n = 0 ∨ n % 2 = 1 := by omega
    cases t with
    | nil =>
      rw [Tr.set_nil, Tr.get_nil]
      by_cases h0 : n = 0
      · rw [if_pos h0, Tr.get_node]
        by_cases hk : k = 0
        · simp [hk, h0]
        · simp [hk, h0, Tr.get_nil]
      · rw [if_neg h0]
        by_cases h1 : n % 2 = 1
        · rw [if_pos h1, Tr.get_node]
          by_cases hk : k = 0
          · have : ¬ k = n := by omega
            simp [hk, this]
            omega
          · rw [if_neg hk]
            by_cases hk1 : k % 2 = 1
            · rw [if_pos hk1, ih .nil (n / 2) o (k / 2) (by omega), Tr.get_nil]
              have : (k / 2 = n / 2) = (k = n) := propext ⟨fun e => by omega, fun e => by rw [e]⟩
              simp only [this]
            · rw [if_neg hk1, Tr.get_nil]
              have : ¬ k = n := by omega
              simp [this]
        · rw [if_neg h1, Tr.get_node]
          by_cases hk : k = 0
          · have : ¬ k = n := by omega
            simp [hk, this]
            omega
          · rw [if_neg hk]
            by_cases hk1 : k % 2 = 1
            · rw [if_pos hk1, Tr.get_nil]
              have : ¬ k = n := by omega
              simp [this]
            · rw [if_neg hk1, ih .nil (n / 2 - 1) o (k / 2 - 1) (by omega), Tr.get_nil]
              have : (k / 2 - 1 = n / 2 - 1) = (k = n) := propext ⟨fun e => by omega, fun e => by rw [e]⟩
              simp only [this]
    | node v l r =>
      rw [Tr.set_node, Tr.get_node]
      by_cases h0 : n = 0
      · rw [if_pos h0, Tr.get_node]
        by_cases hk : k = 0
        · simp [hk, h0]
        · simp [hk, h0]
      · rw [if_neg h0]
        by_cases h1 : n % 2 = 1
        · rw [if_pos h1, Tr.get_node]
          by_cases hk : k = 0
          · have : ¬ k = n := by omega
            simp [hk, this]
            omega
          · rw [if_neg hk, if_neg hk]
            by_cases hk1 : k % 2 = 1
            · rw [if_pos hk1, if_pos hk1, ih l (n / 2) o (k / 2) (by omega)]
              have : (k / 2 = n / 2) = (k = n) := propext ⟨fun e => by omega, fun e => by rw [e]⟩
              simp only [this]
            · rw [if_neg hk1, if_neg hk1]
              have : ¬ k = n := by omega
              simp [this]
        · rw [if_neg h1, Tr.get_node]
          by_cases hk : k = 0
          · have : ¬ k = n := by omega
            simp [hk, this]
            omega
          · rw [if_neg hk, if_neg hk]
            by_cases hk1 : k % 2 = 1
            · rw [if_pos hk1, if_pos hk1]
              have : ¬ k = n := by omega
              simp [this]
            · rw [if_neg hk1, if_neg hk1, ih r (n / 2 - 1) o (k / 2 - 1) (by omega)]
              have : (k / 2 - 1 = n / 2 - 1) = (k = n) := propext ⟨fun e => by omega, fun e => by rw [e]⟩
              simp only [this]

structure Sto where
  m : Nat
  t : Tr
def Sto.get (S : Sto) (n : Nat) : Option O := S.t.get n
/-- the object n is changed -/
def Sto.put (S : Sto) (n : Nat) (o : O) : Sto := ⟨S.m, Tr.set 20 S.t n o⟩
/-- a new object; none where the store is full -/
def Sto.new (S : Sto) (o : O) : Option (A × Sto) := cond (Nat.blt S.m 1000000) (some (.obj S.m, ⟨Nat.succ S.m, Tr.set 20 S.t S.m o⟩)) none
theorem Sto.get_put {S : Sto} {n : Nat} (o : O) (h : n < 1000000) (k : Nat) : (S.put n o).get k = if k = n then some o else S.get k :=
  Tr.get_set 20 S.t n o k (Nat.lt_of_le_of_lt (Nat.succ_le_of_lt h) (by decide))
theorem Sto.new_eq {S S' : Sto} {o : O} {a : A} (h : S.new o = some (a, S')) : S.m < 1000000 ∧ a = .obj S.m ∧ S'.m = S.m + 1 ∧ ∀ k, S'.get k = if k = S.m then some o else S.get k := by
  unfold Sto.new at h
  cases q : Nat.blt S.m 1000000 with
  | false => rw [q] at h; cases h
  | true =>
    rw [q] at h
    have hlt : S.m < 1000000 := Nat.le_of_ble_eq_true q
    cases h
    exact ⟨hlt, rfl, rfl, fun k => Tr.get_set 20 S.t S.m o k (Nat.lt_of_le_of_lt (Nat.succ_le_of_lt hlt) (by decide))⟩
end Cs
/-! Z2: how own values and the own store stand for V and Hp; readings of evaluators. -/
namespace Cs
open PySem PySem.Spec PyProof.Rows L2
abbrev St := L2.St

structure Gb where
  P : Program
  w : World
  K : PySem.W.Frag
  cls : Nat → Addr
  fN : Nat → Str

mutual
inductive RD (K : PySem.W.Frag) (H : Hp) : D → V → Prop
  | non : RD K H .non .non
  | int (i : Int) : RD K H (.int i) (.int i)
  | str (l : List Nat) : PyData.strOk (sOf l) = true → RD K H (.str l) (.str (sOf l))
  | tup {p : Addr} {vs : List V} {l : List D} : SqT K H p vs → RDs K H l vs → tall (.tup l) 30 = true → RD K H (.tup l) (.ref p)
inductive RDs (K : PySem.W.Frag) (H : Hp) : List D → List V → Prop
  | nil : RDs K H [] []
  | cons {d : D} {v : V} {l : List D} {vs : List V} : RD K H d v → RDs K H l vs → RDs K H (d :: l) (v :: vs)
end

/-- tuples and frozen things stay -/
structure Kp (H H' : Hp) : Prop where
  tup : ∀ b xs, H b = some (.tup xs) → H' b = some (.tup xs)
  frz : ∀ b o u, H b = some (.frz o u) → H' b = some (.frz o u)
  tab : ∀ b, GxR.TabG H b → GxR.TabG H' b
  cod : ∀ c q, H c = some (LamX.CodeO c q) → H' c = some (LamX.CodeO c q)
theorem Kp.refl (H : Hp) : Kp H H := ⟨fun _ _ e => e, fun _ _ _ e => e, fun _ e => e, fun _ _ e => e⟩
theorem Kp.trans {H H1 H2 : Hp} (a : Kp H H1) (b : Kp H1 H2) : Kp H H2 := ⟨fun _ _ e => b.tup _ _ (a.tup _ _ e), fun _ _ _ e => b.frz _ _ _ (a.frz _ _ _ e), fun _ e => b.tab _ (a.tab _ e), fun _ _ e => b.cod _ _ (a.cod _ _ e)⟩
theorem Kp.sqT {K : PySem.W.Frag} {H H' : Hp} (k : Kp H H') {a : Addr} {xs : List V} (h : SqT K H a xs) : SqT K H' a xs := by
  rcases h with (h | ⟨o, h⟩) | h
  · exact .inl (.inl (k.tup _ _ h))
  · exact .inl (.inr ⟨o, k.frz _ _ _ h⟩)
  · exact .inr h
theorem Kp.fresh {H : Hp} {p : Addr} {o : HO} (n : H p = none) : Kp H (upd H p o) :=
  ⟨fun b xs e => by rw [upd_ne (ne_of_none e n)]; exact e, fun b ob u e => by rw [upd_ne (ne_of_none e n)]; exact e, fun b ⟨ps, e, t⟩ => ⟨ps, by rw [upd_ne (ne_of_none e n)]; exact e, t⟩, fun c q e => by rw [upd_ne (ne_of_none e n)]; exact e⟩
mutual
theorem RD.mono {K : PySem.W.Frag} {H H' : Hp} (k : Kp H H') : ∀ {d : D} {v : V}, RD K H d v → RD K H' d v
  | _, _, .non => .non
  | _, _, .int i => .int i
  | _, _, .str l h => .str l h
  | _, _, .tup h r t => .tup (k.sqT h) (RDs.mono k r) t
theorem RDs.mono {K : PySem.W.Frag} {H H' : Hp} (k : Kp H H') : ∀ {d : List D} {v : List V}, RDs K H d v → RDs K H' d v
  | _, _, .nil => .nil
  | _, _, .cons h r => .cons (RD.mono k h) (RDs.mono k r)
end

inductive RA (K : PySem.W.Frag) (ι : Nat → Addr) (m : Nat) (H : Hp) : A → V → Prop
  | bl (b : Bool) : RA K ι m H (.bl b) (.bl b)
  | dat {d : D} {v : V} : RD K H d v → RA K ι m H (.dat d) v
  | obj {n : Nat} : n < m → RA K ι m H (.obj n) (.ref (ι n))

/-- from a state to a later one -/
structure Ext (ι : Nat → Addr) (m : Nat) (H : Hp) (ι' : Nat → Addr) (m' : Nat) (H' : Hp) : Prop where
  le : m ≤ m'
  eq : ∀ n, n < m → ι' n = ι n
  kp : Kp H H'
theorem Ext.refl (ι : Nat → Addr) (m : Nat) (H : Hp) : Ext ι m H ι m H := ⟨Nat.le_refl _, fun _ _ => rfl, .refl H⟩
theorem Ext.trans {ι ι1 ι2 : Nat → Addr} {m m1 m2 : Nat} {H H1 H2 : Hp} (a : Ext ι m H ι1 m1 H1) (b : Ext ι1 m1 H1 ι2 m2 H2) : Ext ι m H ι2 m2 H2 :=
  ⟨Nat.le_trans a.le b.le, fun n h => (b.eq n (Nat.lt_of_lt_of_le h a.le)).trans (a.eq n h), a.kp.trans b.kp⟩
theorem RA.mono {K : PySem.W.Frag} {ι ι' : Nat → Addr} {m m' : Nat} {H H' : Hp} (x : Ext ι m H ι' m' H') {a : A} {v : V} (r : RA K ι m H a v) : RA K ι' m' H' a v := by
  cases r with
  | bl b => exact .bl b
  | dat h => exact .dat (h.mono x.kp)
  | @obj n h =>
    have q : RA K ι' m' H' (.obj n) (.ref (ι' n)) := .obj (Nat.lt_of_lt_of_le h x.le)
    rw [x.eq n h] at q
    exact q
abbrev RAs (K : PySem.W.Frag) (ι : Nat → Addr) (m : Nat) (H : Hp) : List A → List V → Prop := Paired (RA K ι m H)
theorem RAs.mono {K : PySem.W.Frag} {ι ι' : Nat → Addr} {m m' : Nat} {H H' : Hp} (x : Ext ι m H ι' m' H') {a : List A} {v : List V} (r : RAs K ι m H a v) : RAs K ι' m' H' a v :=
  Paired.mapP r fun _ _ q => q.mono x
theorem RDs.as {K : PySem.W.Frag} {ι : Nat → Addr} {m : Nat} {H : Hp} : ∀ {l : List D} {vs : List V}, RDs K H l vs → RAs K ι m H (l.map .dat) vs
  | _, _, .nil => .nil
  | _, _, .cons h r => .cons (.dat h) (RDs.as r)
theorem RDs.length {K : PySem.W.Frag} {H : Hp} : ∀ {l : List D} {vs : List V}, RDs K H l vs → l.length = vs.length
  | _, _, .nil => rfl
  | _, _, .cons _ r => by simp [RDs.length r]
theorem RDs.get {K : PySem.W.Frag} {H : Hp} : ∀ {l : List D} {vs : List V} {i : Nat} {d : D}, RDs K H l vs → l[i]? = some d → ∃ v, vs[i]? = some v ∧ RD K H d v
  | _, _, _, _, .nil, e => by simp at e
  | _, _, 0, _, .cons h _, e => by simp at e; subst e; exact ⟨_, rfl, h⟩
  | _, _, i + 1, d, .cons _ r, e => by
    obtain ⟨v, h1, h2⟩ := RDs.get (i := i) (d := d) r (by simpa using e)
    exact ⟨v, by simpa using h1, h2⟩
theorem Paired.get {α β : Type} {R : α → β → Prop} : ∀ {xs : List α} {us : List β} {i : Nat} {x : α}, Paired R xs us → xs[i]? = some x → ∃ u, us[i]? = some u ∧ R x u
  | _, _, _, _, .nil, e => by simp at e
  | _, _, 0, _, .cons r _, e => by simp at e; subst e; exact ⟨_, rfl, r⟩
  | _, _, i + 1, x, .cons _ t, e => by
    obtain ⟨u, h1, h2⟩ := Paired.get (i := i) (x := x) t (by simpa using e)
    exact ⟨u, by simpa using h1, h2⟩
theorem Paired.append {α β : Type} {R : α → β → Prop} : ∀ {xs ys : List α} {us ws : List β}, Paired R xs us → Paired R ys ws → Paired R (xs ++ ys) (us ++ ws)
  | _, _, _, _, .nil, s => s
  | _, _, _, _, .cons r t, s => .cons r (Paired.append t s)
theorem Paired.len {α β : Type} {R : α → β → Prop} : ∀ {xs : List α} {us : List β}, Paired R xs us → xs.length = us.length
  | _, _, .nil => rfl
  | _, _, .cons _ t => by simp [Paired.len t]

/-! ### objects -/
def keyOf : D → Option Key
  | .int i => some (.inl i)
  | .str l => some (.inr (sOf l))
  | .non => none
  | .tup _ => none
mutual
def nk : D → NestedKey
  | .non => .none
  | .int i => .num i
  | .str l => .text (sOf l)
  | .tup l => .tup (nks l)
def nks : List D → List NestedKey
  | [] => []
  | d :: l => nk d :: nks l
end
/-- the dict at a with such entries, its keys tuples -/
def rawN (P : Program) (w : World) (a : Addr) (xs : List (NestedKey × Addr × Value)) : HO :=
  .ext fun h => (a == sysModules) = false ∧ ∃ o es ep, h.get? a = some o ∧ o.ExactDict ∧ o.data = .dict es ep ∧ es.toList = xs.map (entryOfKey (nestedKind P w)) ∧ (xs.map (·.1)).Nodup
def ROb (g : Gb) (ι : Nat → Addr) (m : Nat) (H : Hp) (a : Addr) : O → Prop
  | .lst l => ∃ vs, H a = some (.lst vs) ∧ RAs g.K ι m H l vs
  | .dK l => ∃ kvs, H a = some (.dK kvs) ∧ Paired (fun (p : D × A) (q : Key × V) => keyOf p.1 = some q.1 ∧ RA g.K ι m H p.2 q.2) l kvs
  | .dN l => ∃ xs, H a = some (rawN g.P g.w a xs) ∧ Paired (fun (p : D × A) (q : NestedKey × Addr × Value) => nk p.1 = q.1 ∧ (tall p.1 8 = true ∧ RD g.K H p.1 (.ref q.2.1)) ∧ ∃ v, RelV v q.2.2 ∧ RA g.K ι m H p.2 v) l xs
  | .ins c l => ∃ dx fs, H a = some (.ins (g.cls c) dx fs) ∧ Paired (fun (p : Nat × A) (q : Str × V) => g.fN p.1 = q.1 ∧ RA g.K ι m H p.2 q.2) l fs
theorem ROb.mono {g : Gb} {ι ι' : Nat → Addr} {m m' : Nat} {H H' : Hp} (x : Ext ι m H ι' m' H') {a : Addr} (e : H' a = H a) : ∀ {o : O}, ROb g ι m H a o → ROb g ι' m' H' a o
  | .lst _, ⟨vs, h, r⟩ => ⟨vs, e.trans h, r.mono x⟩
  | .dK _, ⟨kvs, h, r⟩ => ⟨kvs, e.trans h, Paired.mapP r fun _ _ q => ⟨q.1, q.2.mono x⟩⟩
  | .dN _, ⟨xs, h, r⟩ => ⟨xs, e.trans h, Paired.mapP r fun _ _ q => ⟨q.1, ⟨q.2.1.1, q.2.1.2.mono x.kp⟩, let ⟨v, h1, h2⟩ := q.2.2; ⟨v, h1, h2.mono x⟩⟩⟩
  | .ins _ _, ⟨dx, fs, h, r⟩ => ⟨dx, fs, e.trans h, Paired.mapP r fun _ _ q => ⟨q.1, q.2.mono x⟩⟩
theorem rawN_code (P : Program) (w : World) (a : Addr) (xs : List (NestedKey × Addr × Value)) (c : Addr) (q : Str) : rawN P w a xs ≠ LamX.CodeO c q := fun z => by
  unfold rawN LamX.CodeO at z
  injection z with z
  have q1 := congrFun z { objs := Array.replicate (c + 1) { cls := .none, data := .fields #[.none, .str q 0] } }
  have at_ : ∀ b : Addr, ({ objs := Array.replicate (c + 1) { cls := .none, data := .fields #[.none, .str q 0] } } : Heap).get? b = if b < c + 1 then some { cls := .none, data := .fields #[.none, .str q 0] } else none := fun b => by
    unfold Heap.get?
    by_cases h : b < c + 1
    · simp [h, Array.getElem?_replicate]
    · simp [h, Array.getElem?_replicate]
  have q2 : ∃ (oc : Obj) (vs : Array Value) (t : Tok), ({ objs := Array.replicate (c + 1) { cls := .none, data := .fields #[.none, .str q 0] } } : Heap).get? c = some oc ∧ oc.data = .fields vs ∧ vs[1]? = some (.str q t) :=
    ⟨_, _, 0, by rw [at_, if_pos (Nat.lt_succ_self c)], rfl, rfl⟩
  rw [← q1] at q2
  obtain ⟨_, o, es, ep, ho, _, hd, _⟩ := q2
  rw [at_] at ho
  split at ho
  · cases ho
    cases hd
  · cases ho
/-- the lambda's name -/
def lamQ : Str := "Search.__init__.<locals>.<lambda>"
theorem ROb.there {g : Gb} {ι : Nat → Addr} {m : Nat} {H : Hp} {a : Addr} : ∀ {o : O}, ROb g ι m H a o → ∃ u, H a = some u ∧ (∀ xs, u ≠ .tup xs) ∧ (∀ ob w, u ≠ .frz ob w) ∧ (∀ ps, u ≠ .tbl ps) ∧ ∀ c q, u ≠ LamX.CodeO c q
  | .lst _, ⟨vs, h, _⟩ => ⟨_, h, fun _ e => (by cases e), fun _ _ e => (by cases e), fun _ e => (by cases e), fun _ _ e => (by unfold LamX.CodeO at e; cases e)⟩
  | .dK _, ⟨kvs, h, _⟩ => ⟨_, h, fun _ e => (by cases e), fun _ _ e => (by cases e), fun _ e => (by cases e), fun _ _ e => (by unfold LamX.CodeO at e; cases e)⟩
  | .dN _, ⟨xs, h, _⟩ => ⟨_, h, fun _ e => (by cases e), fun _ _ e => (by cases e), fun _ e => (by cases e), fun c q => rawN_code _ _ _ _ c q⟩
  | .ins _ _, ⟨dx, fs, h, _⟩ => ⟨_, h, fun _ e => (by cases e), fun _ _ e => (by cases e), fun _ e => (by cases e), fun _ _ e => (by unfold LamX.CodeO at e; cases e)⟩

structure RS (g : Gb) (ι : Nat → Addr) (S : Sto) (H : Hp) : Prop where
  ob : ∀ n o, S.get n = some o → n < S.m ∧ ROb g ι S.m H (ι n) o
  live : ∀ n, n < S.m → ∃ o, S.get n = some o
  inj : ∀ a b, a < S.m → b < S.m → ι a = ι b → a = b
  cap : S.m ≤ 1000000
  tb : ∀ i, i < 3 → GxR.TabG H (g.cls (3 + i))
  tk : LamX.TabS H (g.cls 5) lamQ

section
variable {g : Gb} {ι ι' : Nat → Addr} {S S' : Sto} {H H' : Hp}
theorem RS.there (R : RS g ι S H) {n : Nat} (h : n < S.m) : ∃ u, H (ι n) = some u ∧ (∀ xs, u ≠ .tup xs) ∧ (∀ ob w, u ≠ .frz ob w) ∧ (∀ ps, u ≠ .tbl ps) ∧ ∀ c q, u ≠ LamX.CodeO c q :=
  let ⟨_, e⟩ := R.live n h; (R.ob n _ e).2.there
/-- the heap grew, or something else changed -/
theorem RS.ext (R : RS g ι S H) (k : Kp H H') (e : ∀ n, n < S.m → H' (ι n) = H (ι n)) (t : LamX.TabS H' (g.cls 5) lamQ) : RS g ι S H' ∧ Ext ι S.m H ι S.m H' := by
  have x : Ext ι S.m H ι S.m H' := ⟨Nat.le_refl _, fun _ _ => rfl, k⟩
  exact ⟨⟨fun n o q => ⟨(R.ob n o q).1, (R.ob n o q).2.mono x (e n (R.ob n o q).1)⟩, R.live, R.inj, R.cap, fun i h => k.tab _ (R.tb i h), t⟩, x⟩
/-- a fresh thing is laid that is none of the objects -/
theorem RS.fresh (R : RS g ι S H) {p : Addr} {o : HO} (n : H p = none) : RS g ι S (upd H p o) ∧ Ext ι S.m H ι S.m (upd H p o) :=
  R.ext (.fresh n) (fun k h => by
    obtain ⟨u, e, _⟩ := R.there h
    rw [upd_ne (ne_of_none e n)]) (R.tk.ext fun b u e => by rw [upd_ne (ne_of_none e n)]; exact e)
/-- an object is written -/
theorem RS.write (R : RS g ι S H) {n : Nat} {o : O} {ho : HO} (h : n < S.m) (new : ∀ H', Ext ι S.m H ι S.m H' → H' (ι n) = some ho → ROb g ι S.m H' (ι n) o) :
    RS g ι (S.put n o) (upd H (ι n) ho) ∧ Ext ι S.m H ι S.m (upd H (ι n) ho) := by
  obtain ⟨u, e, h1, h2, h3, h4⟩ := R.there h
  have k : Kp H (upd H (ι n) ho) := ⟨fun b xs q => by
      rw [upd_ne (fun z => by rw [z, e] at q; exact h1 xs (Option.some.inj q))]; exact q,
    fun b ob w q => by
      rw [upd_ne (fun z => by rw [z, e] at q; exact h2 ob w (Option.some.inj q))]; exact q, fun b ⟨ps, q, t⟩ => ⟨ps, by
      rw [upd_ne (fun z => by rw [z, e] at q; exact h3 ps (Option.some.inj q))]; exact q, t⟩, fun c q e9 => by
      rw [upd_ne (fun z => by rw [z, e] at e9; exact h4 _ _ (Option.some.inj e9))]; exact e9⟩
  have x : Ext ι S.m H ι S.m (upd H (ι n) ho) := ⟨Nat.le_refl _, fun _ _ => rfl, k⟩
  have hl : n < 1000000 := Nat.lt_of_lt_of_le h R.cap
  have tk : LamX.TabS (upd H (ι n) ho) (g.cls 5) lamQ := by
    obtain ⟨ps, t1, t2, t3⟩ := R.tk
    refine ⟨ps, by rw [upd_ne (fun z => by rw [z, e] at t1; exact h3 ps (Option.some.inj t1))]; exact t1, t2, fun pos cv hc => ?_⟩
    obtain ⟨c0, e0, e1⟩ := t3 pos cv hc
    exact ⟨c0, e0, by rw [upd_ne (fun z => by rw [z, e] at e1; exact h4 _ _ (Option.some.inj e1))]; exact e1⟩
  refine ⟨⟨fun j o' q => ?_, fun j hj => ?_, R.inj, R.cap, fun i h => k.tab _ (R.tb i h), tk⟩, x⟩
  · rw [Sto.get_put o hl] at q
    by_cases hj : j = n
    · subst hj
      rw [if_pos rfl] at q
      cases q
      exact ⟨h, new _ x upd_same⟩
    · rw [if_neg hj] at q
      obtain ⟨q1, q2⟩ := R.ob j o' q
      exact ⟨q1, q2.mono x (upd_ne fun z => hj (R.inj _ _ q1 h z))⟩
  · rw [Sto.get_put o hl]
    by_cases hjn : j = n
    · exact ⟨o, if_pos hjn⟩
    · rw [if_neg hjn]
      exact R.live j hj
/-- a new object at p; H1: the heap with it -/
theorem RS.new (R : RS g ι S H) {a : A} {o : O} {p : Addr} {H1 : Hp} (hn : S.new o = some (a, S')) (n : H p = none) (k : Kp H H1) (e : ∀ b u, H b = some u → H1 b = some u)
    (new : ∀ ι', Ext ι S.m H ι' S'.m H1 → ROb g ι' S'.m H1 p o) : ∃ ι', RS g ι' S' H1 ∧ Ext ι S.m H ι' S'.m H1 ∧ RA g.K ι' S'.m H1 a (.ref p) := by
  obtain ⟨hl, rfl, hm, hg⟩ := Sto.new_eq hn
  have x : Ext ι S.m H (fun j => if j = S.m then p else ι j) S'.m H1 := ⟨by omega, fun j hj => if_neg (by omega), k⟩
  have old : ∀ j, j < S.m → (fun j => if j = S.m then p else ι j) j = ι j := fun j hj => if_neg (by omega)
  refine ⟨fun j => if j = S.m then p else ι j, ⟨fun j o' q => ?_, fun j hj => ?_, fun a b ha hb q => ?_, by omega, fun i h => k.tab _ (R.tb i h), R.tk.ext e⟩, x, ?_⟩
  · rw [hg] at q
    by_cases hj : j = S.m
    · rw [if_pos hj] at q
      cases q
      refine ⟨by omega, ?_⟩
      show ROb g _ S'.m H1 (if j = S.m then p else ι j) _
      rw [if_pos hj]
      exact new _ x
    · rw [if_neg hj] at q
      obtain ⟨q1, q2⟩ := R.ob j o' q
      refine ⟨by omega, ?_⟩
      show ROb g _ S'.m H1 (if j = S.m then p else ι j) _
      rw [if_neg hj]
      obtain ⟨u, eu, _⟩ := R.there q1
      exact q2.mono x ((e _ _ eu).trans eu.symm)
  · rw [hg]
    by_cases hjn : j = S.m
    · exact ⟨o, if_pos hjn⟩
    · rw [if_neg hjn]
      exact R.live j (by omega)
  · have q' : (if a = S.m then p else ι a) = if b = S.m then p else ι b := q
    have no : ∀ j, j < S.m → ι j ≠ p := fun j hj z => by
      obtain ⟨u, eu, _⟩ := R.there hj
      rw [z, n] at eu
      cases eu
    by_cases h1 : a = S.m
    · by_cases h2 : b = S.m
      · omega
      · rw [if_pos h1, if_neg h2] at q'
        exact absurd q'.symm (no b (by omega))
    · by_cases h2 : b = S.m
      · rw [if_neg h1, if_pos h2] at q'
        exact absurd q' (no a (by omega))
      · rw [if_neg h1, if_neg h2] at q'
        exact R.inj a b (by omega) (by omega) q'
  · have q : RA g.K (fun j => if j = S.m then p else ι j) S'.m H1 (.obj S.m) (.ref ((fun j => if j = S.m then p else ι j) S.m)) := .obj (by omega)
    have e1 : (fun j => if j = S.m then p else ι j) S.m = p := if_pos rfl
    rw [e1] at q
    exact q
/-- the same, one object laid -/
theorem RS.new1 (R : RS g ι S H) {a : A} {o : O} {p : Addr} {ho : HO} (hn : S.new o = some (a, S')) (n : H p = none)
    (new : ∀ ι', Ext ι S.m H ι' S'.m (upd H p ho) → ROb g ι' S'.m (upd H p ho) p o) : ∃ ι', RS g ι' S' (upd H p ho) ∧ Ext ι S.m H ι' S'.m (upd H p ho) ∧ RA g.K ι' S'.m (upd H p ho) a (.ref p) :=
  R.new hn n (.fresh n) (fun b u e => by rw [upd_ne (ne_of_none e n)]; exact e) new
end

/-! ### evaluators and their readings -/
abbrev Sl := List (Option A)
abbrev Ev := Sl → Sto → Option (A × Sto)
abbrev Tv := Sl → Sto → Option (Bool × Sto)
abbrev Av := Sl → Sto → Option (List A × Sto)
inductive Out where
  | nx | bk | ct
  | rt (a : A)
abbrev Sv := Sl → Sto → Option (Out × Sl × Sto)
abbrev Call := Nat → List A → Sto → Option (A × Sto)

def RO1 (K : PySem.W.Frag) (ι : Nat → Addr) (m : Nat) (H : Hp) (a : Option A) (v : Option V) : Prop := ∀ x, a = some x → ∃ y, v = some y ∧ RA K ι m H x y
abbrev RL (K : PySem.W.Frag) (ι : Nat → Addr) (m : Nat) (H : Hp) : Sl → Cs.St → Prop := Paired (RO1 K ι m H)
theorem RL.mono {K : PySem.W.Frag} {ι ι' : Nat → Addr} {m m' : Nat} {H H' : Hp} (x : Ext ι m H ι' m' H') {a : Sl} {v : Cs.St} (r : RL K ι m H a v) : RL K ι' m' H' a v :=
  Paired.mapP r fun _ _ q y e => let ⟨z, h1, h2⟩ := q y e; ⟨z, h1, h2.mono x⟩
theorem RL.get {K : PySem.W.Frag} {ι : Nat → Addr} {m : Nat} {H : Hp} {σa : Sl} {σ : Cs.St} {i : Nat} {x : A} (r : RL K ι m H σa σ) (e : σa[i]? = some (some x)) : ∃ y, σ[i]? = some (some y) ∧ RA K ι m H x y := by
  obtain ⟨u, h1, h2⟩ := Paired.get r e
  obtain ⟨y, h3, h4⟩ := h2 x rfl
  rw [h3] at h1
  exact ⟨y, h1, h4⟩
theorem RL.set {K : PySem.W.Frag} {ι : Nat → Addr} {m : Nat} {H : Hp} {x : A} {y : V} (q : RA K ι m H x y) : ∀ {σa : Sl} {σ : Cs.St} (i : Nat), RL K ι m H σa σ → RL K ι m H (σa.set i (some x)) (σ.set i (some y))
  | _, _, _, .nil => .nil
  | _, _, 0, .cons _ t => .cons (fun z e => by cases e; exact ⟨y, rfl, q⟩) t
  | _, _, i + 1, .cons r t => .cons r (RL.set q i t)

/-- what is wanted behind an evaluation to a -/
def Wa (g : Gb) (ι : Nat → Addr) (S : Sto) (H : Hp) (a : A) (S' : Sto) (Q : VK) : Prop := ∀ ι' H' v, Ext ι S.m H ι' S'.m H' → RS g ι' S' H' → RA g.K ι' S'.m H' a v → Q v H'
def Wt (g : Gb) (ι : Nat → Addr) (S : Sto) (H : Hp) (S' : Sto) (Q : Hp → Prop) : Prop := ∀ ι' H', Ext ι S.m H ι' S'.m H' → RS g ι' S' H' → Q H'
def Wl (g : Gb) (ι : Nat → Addr) (S : Sto) (H : Hp) (a : List A) (S' : Sto) (Q : List V → Hp → Prop) : Prop := ∀ ι' H' v, Ext ι S.m H ι' S'.m H' → RS g ι' S' H' → RAs g.K ι' S'.m H' a v → Q v H'
def Ws (g : Gb) (ι : Nat → Addr) (S : Sto) (H : Hp) (o : Out) (σa' : Sl) (S' : Sto) (E : Ends) : Prop := match o with
  | .nx => ∀ ι' H' σ', Ext ι S.m H ι' S'.m H' → RS g ι' S' H' → RL g.K ι' S'.m H' σa' σ' → E.nx σ' H'
  | .bk => ∀ ι' H' σ', Ext ι S.m H ι' S'.m H' → RS g ι' S' H' → RL g.K ι' S'.m H' σa' σ' → E.bk σ' H'
  | .ct => ∀ ι' H' σ', Ext ι S.m H ι' S'.m H' → RS g ι' S' H' → RL g.K ι' S'.m H' σa' σ' → E.ct σ' H'
  | .rt a => Wa g ι S H a S' E.rt
def teOf (g : Gb) (ev : Ev) : TE := fun σ H Q => ∃ ι σa S a S', RL g.K ι S.m H σa σ ∧ RS g ι S H ∧ ev σa S = some (a, S') ∧ Wa g ι S H a S' Q
def ttOf (g : Gb) (ev : Tv) : TT := fun σ H Q => ∃ ι σa S a S', RL g.K ι S.m H σa σ ∧ RS g ι S H ∧ ev σa S = some (a, S') ∧ Wt g ι S H S' (Q a)
def taOf (g : Gb) (ev : Av) : TA := fun σ H Q => ∃ ι σa S a S', RL g.K ι S.m H σa σ ∧ RS g ι S H ∧ ev σa S = some (a, S') ∧ Wl g ι S H a S' Q
def tsOf (g : Gb) (ev : Sv) : TS := fun E σ H => ∃ ι σa S o σa' S', RL g.K ι S.m H σa σ ∧ RS g ι S H ∧ ev σa S = some (o, σa', S') ∧ Ws g ι S H o σa' S' E
def spOf (g : Gb) (call : Call) (f : Nat) : Sp := fun vs H Q _ => ∃ ι as S a S', RAs g.K ι S.m H as vs ∧ RS g ι S H ∧ call f as S = some (a, S') ∧ Wa g ι S H a S' Q

theorem PE.imp {X : Cx} {e : Expr} {t t' : TE} (h : PE X e t) (k : ∀ σ H Q, t' σ H Q → t σ H Q) : PE X e t' := ⟨fun pins s σ H Q I q => h.run pins s σ H Q I (k _ _ _ q)⟩
theorem PT.imp {X : Cx} {e : Expr} {t t' : TT} (h : PT X e t) (k : ∀ σ H Q, t' σ H Q → t σ H Q) : PT X e t' := ⟨fun pins s σ H Q I q => h.run pins s σ H Q I (k _ _ _ q)⟩
theorem PW.imp {X : Cx} {e : Expr} {t t' : TT} (h : PW X e t) (k : ∀ σ H Q, t' σ H Q → t σ H Q) : PW X e t' := ⟨fun wh pins s σ H Q I q => h.run wh pins s σ H Q I (k _ _ _ q)⟩
theorem PA.imp {X : Cx} {e : List Expr} {t t' : TA} (h : PA X e t) (k : ∀ σ H Q, t' σ H Q → t σ H Q) : PA X e t' := ⟨fun pos pins s σ H Q I q => h.run pos pins s σ H Q I (k _ _ _ q)⟩
theorem PS.imp {X : Cx} {e : Stmt} {t t' : TS} (h : PS X e t) (k : ∀ E σ H, t' E σ H → t E σ H) : PS X e t' := ⟨fun pins s σ H E I q => h.run pins s σ H E I (k _ _ _ q)⟩
theorem PSs.imp {X : Cx} {e : List Stmt} {t t' : TS} (h : PSs X e t) (k : ∀ E σ H, t' E σ H → t E σ H) : PSs X e t' := ⟨fun pins s σ H E I q => h.run pins s σ H E I (k _ _ _ q)⟩
theorem Wa.from {g : Gb} {ι ι1 : Nat → Addr} {S S1 S' : Sto} {H H1 : Hp} {a : A} {Q : VK} (x : Ext ι S.m H ι1 S1.m H1) (h : Wa g ι S H a S' Q) : Wa g ι1 S1 H1 a S' Q :=
  fun ι' H' v x' R r => h ι' H' v (x.trans x') R r
theorem Wt.from {g : Gb} {ι ι1 : Nat → Addr} {S S1 S' : Sto} {H H1 : Hp} {Q : Hp → Prop} (x : Ext ι S.m H ι1 S1.m H1) (h : Wt g ι S H S' Q) : Wt g ι1 S1 H1 S' Q :=
  fun ι' H' x' R => h ι' H' (x.trans x') R
theorem Wl.from {g : Gb} {ι ι1 : Nat → Addr} {S S1 S' : Sto} {H H1 : Hp} {a : List A} {Q : List V → Hp → Prop} (x : Ext ι S.m H ι1 S1.m H1) (h : Wl g ι S H a S' Q) : Wl g ι1 S1 H1 a S' Q :=
  fun ι' H' v x' R r => h ι' H' v (x.trans x') R r
theorem Ws.from {g : Gb} {ι ι1 : Nat → Addr} {S S1 S' : Sto} {H H1 : Hp} {o : Out} {σa' : Sl} {E : Ends} (x : Ext ι S.m H ι1 S1.m H1) (h : Ws g ι S H o σa' S' E) : Ws g ι1 S1 H1 o σa' S' E := by
  cases o with
  | nx => exact fun ι' H' v x' R r => h ι' H' v (x.trans x') R r
  | bk => exact fun ι' H' v x' R r => h ι' H' v (x.trans x') R r
  | ct => exact fun ι' H' v x' R r => h ι' H' v (x.trans x') R r
  | rt a => exact Wa.from x h
theorem Wa.here {g : Gb} {ι : Nat → Addr} {S : Sto} {H : Hp} {a : A} {Q : VK} {v : V} (R : RS g ι S H) (h : Wa g ι S H a S Q) (r : RA g.K ι S.m H a v) : Q v H := h ι H v (.refl ..) R r
end Cs
/-! Z3: expressions. -/
namespace Cs
open PySem PySem.Spec PyProof.Rows L2

def fTab : List Str := ["lines", "places", "proof", "condition", "ledger", "kept", "lifted", "parts", "broken", "strength", "known"]
def fNm (n : Nat) : Str := fTab.getD n "?"
abbrev gX (X : Cx) (c : Nat → Addr) : Gb := ⟨X.prog, X.w, X.K, c, fNm⟩
abbrev EE (X : Cx) (c : Nat → Addr) (e : Expr) (ev : Ev) : Prop := PE X e (teOf (gX X c) ev)
abbrev ET (X : Cx) (c : Nat → Addr) (e : Expr) (ev : Tv) : Prop := PT X e (ttOf (gX X c) ev)
abbrev EW (X : Cx) (c : Nat → Addr) (e : Expr) (ev : Tv) : Prop := PW X e (ttOf (gX X c) ev)
abbrev EA (X : Cx) (c : Nat → Addr) (es : List Expr) (ev : Av) : Prop := PA X es (taOf (gX X c) ev)

/-! ### small evaluators -/
def cNo : Ev := fun _ _ => none
def cVar (i : Nat) : Ev := fun σ S => match σ[i]? with
  | some (some a) => some (a, S)
  | _ => none
def cC (a : A) : Ev := fun _ S => some (a, S)
abbrev cInt (i : Int) : Ev := cC (.dat (.int i))
abbrev cStr (l : List Nat) : Ev := cC (.dat (.str l))
abbrev cNon : Ev := cC (.dat .non)
abbrev cBl (b : Bool) : Ev := cC (.bl b)
/-- two, then an operation -/
def cBin (o : A → A → Sto → Option (A × Sto)) (a b : Ev) : Ev := fun σ S => match a σ S with
  | some (x, S1) => match b σ S1 with
    | some (y, S2) => o x y S2
    | none => none
  | none => none
def cUn (o : A → Sto → Option (A × Sto)) (a : Ev) : Ev := fun σ S => match a σ S with
  | some (x, S1) => o x S1
  | none => none
def cArgs (o : List A → Sto → Option (A × Sto)) (a : Av) : Ev := fun σ S => match a σ S with
  | some (x, S1) => o x S1
  | none => none
def cIf (t : Tv) (a b : Ev) : Ev := fun σ S => match t σ S with
  | some (true, S1) => a σ S1
  | some (false, S1) => b σ S1
  | none => none
def aNil : Av := fun _ S => some ([], S)
def aCons (a : Ev) (r : Av) : Av := fun σ S => match a σ S with
  | some (x, S1) => match r σ S1 with
    | some (xs, S2) => some (x :: xs, S2)
    | none => none
  | none => none
/-- tests -/
def bV (a : Ev) : Tv := fun σ S => match a σ S with
  | some (.bl b, S1) => some (b, S1)
  | _ => none
def bNot (a : Tv) : Tv := fun σ S => match a σ S with
  | some (b, S1) => some (not b, S1)
  | none => none
def bAnd (a b : Tv) : Tv := fun σ S => match a σ S with
  | some (true, S1) => b σ S1
  | some (false, S1) => some (false, S1)
  | none => none
def bOr (a b : Tv) : Tv := fun σ S => match a σ S with
  | some (true, S1) => some (true, S1)
  | some (false, S1) => b σ S1
  | none => none

section
variable {X : Cx} {c : Nat → Addr} {pos : Pos} {a b : Expr} {ea eb : Ev}

theorem e_no (e : Expr) : EE X c e cNo := ⟨fun _ _ _ _ _ _ h => by
  obtain ⟨_, _, _, _, _, _, _, h, _⟩ := h
  cases h⟩
theorem e_var (i : Nat) {x : Str} (hN : X.N[i]? = some x := by rfl) (hv : Vis X.env.scope x := by first | exact Or.inl rfl | exact Or.inr (Or.inl rfl) | exact Or.inr (Or.inr rfl)) (hd : (x == ("__debug__" : Str)) = false := by decide)
    (hcd : (x == ("__classdict__" : Str)) = false := by decide) : EE X c (.Name x pos) (cVar i) := PE.imp (pe_var (i := i) hN hv hd hcd) fun σ H Q h => by
  obtain ⟨ι, σa, S, z, S', hL, hS, e, k⟩ := h
  unfold cVar at e
  split at e
  · rename_i q
    cases e
    obtain ⟨y, h1, h2⟩ := hL.get q
    exact ⟨y, h1, k.here hS h2⟩
  · cases e
theorem e_c {e : Expr} {v : V} {x : A} (h : PE X e (tC v)) (r : ∀ ι m H, RA X.K ι m H x v) : EE X c e (cC x) := PE.imp h fun σ H Q h => by
  obtain ⟨ι, σa, S, z, S', hL, hS, e, k⟩ := h
  cases e
  exact k.here hS (r _ _ _)
theorem e_int {i : Int} {j : Nat} : EE X c (.Constant (.int i) j pos) (cInt i) := e_c pe_int fun _ _ _ => .dat (.int i)
theorem e_bl {i : Bool} {j : Nat} : EE X c (.Constant (.bool i) j pos) (cBl i) := e_c pe_bl fun _ _ _ => .bl i
theorem e_non {j : Nat} : EE X c (.Constant .none j pos) cNon := e_c pe_non fun _ _ _ => .dat .non
theorem e_str (l : List Nat) {x : Str} {j : Nat} (h : x = sOf l := by first | rfl | decide +kernel) (ho : PyData.strOk (sOf l) = true := by decide +kernel) : EE X c (.Constant (.str x) j pos) (cStr l) := by
  subst h
  exact e_c pe_str fun _ _ _ => .dat (.str l ho)

/-! ### two parts -/
/-- the operation does what the reading asks -/
def OpOk (g : Gb) (r : R2) (o : A → A → Sto → Option (A × Sto)) : Prop := ∀ ι S H x y v u z S' Q, RS g ι S H → RA g.K ι S.m H x v → RA g.K ι S.m H y u → o x y S = some (z, S') → Wa g ι S H z S' Q → r v u H Q
def UnOk (g : Gb) (r : V → Hp → VK → Prop) (o : A → Sto → Option (A × Sto)) : Prop := ∀ ι S H x v z S' Q, RS g ι S H → RA g.K ι S.m H x v → o x S = some (z, S') → Wa g ι S H z S' Q → r v H Q
def ArOk (g : Gb) (r : List V → Hp → VK → Prop) (o : List A → Sto → Option (A × Sto)) : Prop := ∀ ι S H x v z S' Q, RS g ι S H → RAs g.K ι S.m H x v → o x S = some (z, S') → Wa g ι S H z S' Q → r v H Q
theorem bin_tOp {g : Gb} {r : R2} {o : A → A → Sto → Option (A × Sto)} (ho : OpOk g r o) (σ : St) (H : Hp) (Q : VK) (h : teOf g (cBin o ea eb) σ H Q) : tOp r (teOf g ea) (teOf g eb) σ H Q := by
  obtain ⟨ι, σa, S, z, S', hL, hS, e, k⟩ := h
  unfold cBin at e
  cases h1 : ea σa S with
  | none => rw [h1] at e; cases e
  | some p =>
    obtain ⟨x, S1⟩ := p
    rw [h1] at e
    dsimp only at e
    cases h2 : eb σa S1 with
    | none => rw [h2] at e; cases e
    | some p =>
      obtain ⟨y, S2⟩ := p
      rw [h2] at e
      exact ⟨ι, σa, S, x, S1, hL, hS, h1, fun ι1 H1 v x1 R1 r1 => ⟨ι1, σa, S1, y, S2, hL.mono x1, R1, h2, fun ι2 H2 u x2 R2 r2 =>
        ho ι2 S2 H2 x y v u z S' Q R2 (r1.mono x2) r2 e (Wa.from (x1.trans x2) k)⟩⟩
theorem e_op {op : Operator} {r : R2} {o : A → A → Sto → Option (A × Sto)} (hr : OpR X (binaryOp op) r) (ho : OpOk (gX X c) r o) (ha : EE X c a ea) (hb : EE X c b eb) : EE X c (.BinOp a op b pos) (cBin o ea eb) :=
  PE.imp (pe_op hr ha hb) (bin_tOp ho)
theorem e_cmp {op : CmpOp} {r : R2} {o : A → A → Sto → Option (A × Sto)} (hr : OpR X (compareOp op) r) (ho : OpOk (gX X c) r o) (ha : EE X c a ea) (hb : EE X c b eb) (hm : behindInMarks op b = false) : EE X c (.Compare a [op] [b] pos) (cBin o ea eb) :=
  PE.imp (pe_cmpR hr ha hb hm) (bin_tOp ho)
theorem b_cmp {op : CmpOp} {r : R2} {o : A → A → Sto → Option (A × Sto)} (hr : OpR X (compareOp op) r) (ho : OpOk (gX X c) r o) (ha : EE X c a ea) (hb : EE X c b eb) (hm : behindInMarks op b = false) : ET X c (.Compare a [op] [b] pos) (bV (cBin o ea eb)) :=
  PT.imp (pt_cmpR hr ha hb hm) fun σ H Q h => by
    obtain ⟨ι, σa, S, z, S', hL, hS, e, k⟩ := h
    refine bin_tOp ho σ H _ ?_
    unfold bV at e
    split at e
    · rename_i w S1 q
      cases e
      exact ⟨ι, σa, S, _, _, hL, hS, q, fun ι1 H1 v x1 R1 r1 => by
        cases r1
        exact ⟨_, rfl, k ι1 H1 x1 R1⟩⟩
    · cases e
theorem e_ix {r : R2} {o : A → A → Sto → Option (A × Sto)} (hr : IxR X r) (ho : OpOk (gX X c) r o) (ha : EE X c a ea) (hb : EE X c b eb) (hs : PlainIx b) : EE X c (.Subscript a b pos) (cBin o ea eb) :=
  PE.imp (pe_ix hr ha hb hs) (bin_tOp ho)
/-- a value that is a bool, as a test -/
theorem b_val {e : Expr} {ev : Ev} (h : EE X c e ev) (he : ∀ whole, isTrue e X.env whole = (do let v ← whole; standAt e.pos; holding [v] (truthy v)) := by intro _; rfl) : ET X c e (bV ev) :=
  PT.imp (pt_val h he) fun σ H Q h => by
    obtain ⟨ι, σa, S, z, S', hL, hS, e, k⟩ := h
    unfold bV at e
    split at e
    · rename_i w S1 q
      cases e
      exact ⟨ι, σa, S, _, _, hL, hS, q, fun ι1 H1 v x1 R1 r1 => by
        cases r1
        exact ⟨_, rfl, k ι1 H1 x1 R1⟩⟩
    · cases e
theorem b_not {ta : Tv} (ha : ET X c a ta) : ET X c (.UnaryOp .Not a pos) (bNot ta) := PT.imp (pt_not ha) fun σ H Q h => by
  obtain ⟨ι, σa, S, z, S', hL, hS, e, k⟩ := h
  unfold bNot at e
  split at e
  · rename_i w S1 q
    cases e
    exact ⟨ι, σa, S, _, _, hL, hS, q, fun ι1 H1 x1 R1 => k ι1 H1 x1 R1⟩
  · cases e
theorem w_and1 {ta : Tv} (ha : ET X c a ta) : EW X c (.BoolOp .And [a] pos) ta := pw_and1 ha
theorem w_or1 {ta : Tv} (ha : ET X c a ta) : EW X c (.BoolOp .Or [a] pos) ta := pw_or1 ha
theorem w_and {rest : List Expr} {ta tb : Tv} (ha : ET X c a ta) (hb : EW X c (.BoolOp .And (b :: rest) pos) tb) : EW X c (.BoolOp .And (a :: b :: rest) pos) (bAnd ta tb) := PW.imp (pw_and ha hb) fun σ H Q h => by
  obtain ⟨ι, σa, S, z, S', hL, hS, e, k⟩ := h
  unfold bAnd at e
  split at e
  · rename_i S1 q
    exact ⟨ι, σa, S, true, S1, hL, hS, q, fun ι1 H1 x1 R1 => iteT (by
      exact ⟨ι1, σa, S1, z, S', hL.mono x1, R1, e, Wt.from x1 k⟩)⟩
  · rename_i S1 q
    cases e
    exact ⟨ι, σa, S, false, _, hL, hS, q, fun ι1 H1 x1 R1 => iteF (by
      exact k ι1 H1 x1 R1)⟩
  · cases e
theorem w_or {rest : List Expr} {ta tb : Tv} (ha : ET X c a ta) (hb : EW X c (.BoolOp .Or (b :: rest) pos) tb) : EW X c (.BoolOp .Or (a :: b :: rest) pos) (bOr ta tb) := PW.imp (pw_or ha hb) fun σ H Q h => by
  obtain ⟨ι, σa, S, z, S', hL, hS, e, k⟩ := h
  unfold bOr at e
  split at e
  · rename_i S1 q
    cases e
    exact ⟨ι, σa, S, true, _, hL, hS, q, fun ι1 H1 x1 R1 => iteT (by
      exact k ι1 H1 x1 R1)⟩
  · rename_i S1 q
    exact ⟨ι, σa, S, false, S1, hL, hS, q, fun ι1 H1 x1 R1 => iteF (by
      exact ⟨ι1, σa, S1, z, S', hL.mono x1, R1, e, Wt.from x1 k⟩)⟩
  · cases e
theorem b_w {e : Expr} {t : Tv} (h : EW X c e t) : ET X c e t := PW.pt h
theorem e_if {t : Expr} {tt : Tv} (ht : ET X c t tt) (ha : EE X c a ea) (hb : EE X c b eb) : EE X c (.IfExp t a b pos) (cIf tt ea eb) := PE.imp (pe_ifExp ht ha hb) fun σ H Q h => by
  obtain ⟨ι, σa, S, z, S', hL, hS, e, k⟩ := h
  unfold cIf at e
  split at e
  · rename_i S1 q
    exact ⟨ι, σa, S, true, S1, hL, hS, q, fun ι1 H1 x1 R1 => iteT (by
      exact ⟨ι1, σa, S1, z, S', hL.mono x1, R1, e, Wa.from x1 k⟩)⟩
  · rename_i S1 q
    exact ⟨ι, σa, S, false, S1, hL, hS, q, fun ι1 H1 x1 R1 => iteF (by
      exact ⟨ι1, σa, S1, z, S', hL.mono x1, R1, e, Wa.from x1 k⟩)⟩
  · cases e

/-! ### argument lists, displays -/
theorem a_nil : EA X c [] aNil := PA.imp pa_nil fun σ H Q h => by
  obtain ⟨ι, σa, S, z, S', hL, hS, e, k⟩ := h
  cases e
  exact k ι H [] (.refl ..) hS .nil
theorem a_cons {es : List Expr} {er : Av} (ha : EE X c a ea) (hr : EA X c es er) (hs : starEach (a :: es) X.env = (false, eval a X.env) :: starEach es X.env := by rfl) : EA X c (a :: es) (aCons ea er) := PA.imp (pa_cons ha hr hs) fun σ H Q h => by
  obtain ⟨ι, σa, S, z, S', hL, hS, e, k⟩ := h
  unfold aCons at e
  cases h1 : ea σa S with
  | none => rw [h1] at e; cases e
  | some p =>
    obtain ⟨x, S1⟩ := p
    rw [h1] at e
    dsimp only at e
    cases h2 : er σa S1 with
    | none => rw [h2] at e; cases e
    | some p =>
      obtain ⟨xs, S2⟩ := p
      rw [h2] at e
      cases e
      exact ⟨ι, σa, S, x, S1, hL, hS, h1, fun ι1 H1 v x1 R1 r1 => ⟨ι1, σa, S1, xs, _, hL.mono x1, R1, h2, fun ι2 H2 u x2 R2 r2 => k ι2 H2 (v :: u) (x1.trans x2) R2 (.cons (r1.mono x2) r2)⟩⟩
theorem args_t {g : Gb} {av : Av} {o : List A → Sto → Option (A × Sto)} {r : List V → Hp → VK → Prop} (ho : ArOk g r o) (σ : St) (H : Hp) (Q : VK) (h : teOf g (cArgs o av) σ H Q) : taOf g av σ H fun vs H1 => r vs H1 Q := by
  obtain ⟨ι, σa, S, z, S', hL, hS, e, k⟩ := h
  unfold cArgs at e
  cases h1 : av σa S with
  | none => rw [h1] at e; cases e
  | some p =>
    obtain ⟨xs, S1⟩ := p
    rw [h1] at e
    exact ⟨ι, σa, S, xs, S1, hL, hS, h1, fun ι1 H1 v x1 R1 r1 => ho ι1 S1 H1 xs v z S' Q R1 r1 e (Wa.from x1 k)⟩
theorem un_t {g : Gb} {ev : Ev} {o : A → Sto → Option (A × Sto)} {r : V → Hp → VK → Prop} (ho : UnOk g r o) (σ : St) (H : Hp) (Q : VK) (h : teOf g (cUn o ev) σ H Q) : teOf g ev σ H fun v H1 => r v H1 Q := by
  obtain ⟨ι, σa, S, z, S', hL, hS, e, k⟩ := h
  unfold cUn at e
  cases h1 : ev σa S with
  | none => rw [h1] at e; cases e
  | some p =>
    obtain ⟨xs, S1⟩ := p
    rw [h1] at e
    exact ⟨ι, σa, S, xs, S1, hL, hS, h1, fun ι1 H1 v x1 R1 r1 => ho ι1 S1 H1 xs v z S' Q R1 r1 e (Wa.from x1 k)⟩
/-- all of it data -/
def datas : List A → Option (List D)
  | [] => some []
  | .dat d :: r => match datas r with
    | some l => some (d :: l)
    | none => none
  | _ :: _ => none
theorem datas_rd {K : PySem.W.Frag} {ι : Nat → Addr} {m : Nat} {H : Hp} : ∀ {as : List A} {l : List D} {vs : List V}, datas as = some l → RAs K ι m H as vs → RDs K H l vs
  | [], l, vs, e, r => by cases e; cases r; exact .nil
  | .dat d :: t, l, vs, e, r => by
    unfold datas at e
    cases q : datas t with
    | none => rw [q] at e; cases e
    | some l' =>
      rw [q] at e
      cases e
      cases r with
      | cons r1 r2 =>
        cases r1 with
        | dat h => exact .cons h (datas_rd q r2)
  | .bl b :: t, l, vs, e, r => by cases e
  | .obj n :: t, l, vs, e, r => by cases e
/-- few enough -/
def few {α : Type} (l : List α) : Bool := Nat.ble l.length 100000
theorem few_le {α : Type} {l : List α} (h : few l = true) : l.length ≤ 100000 := Nat.le_of_ble_eq_true h
theorem line_le : 100000 ≤ sizeLine := by decide
def oTup (l : List A) (S : Sto) : Option (A × Sto) := match datas l with
  | some d => cond (few l) (cond (tall (.tup d) 30) (some (.dat (.tup d), S)) none) none
  | none => none
theorem tup_ok {g : Gb} : ArOk g (fun vs H Q => vs.length ≤ sizeLine ∧ ∀ p, H p = none → Q (.ref p) (upd H p (.tup vs))) oTup := by
  intro ι S H x v z S' Q R r e k
  unfold oTup at e
  cases q : datas x with
  | none => rw [q] at e; cases e
  | some d =>
    rw [q] at e
    dsimp only at e
    cases hf : few x with
    | false => rw [hf] at e; cases e
    | true =>
      rw [hf] at e
      cases ht : tall (.tup d) 30 with
      | false => rw [ht] at e; cases e
      | true =>
        rw [ht] at e
        cases e
        have hl : v.length ≤ sizeLine := by
          rw [← Paired.len r]
          exact Nat.le_trans (few_le hf) line_le
        refine ⟨hl, fun p hp => ?_⟩
        obtain ⟨R1, x1⟩ := R.fresh (o := .tup v) hp
        refine k ι _ _ x1 R1 (.dat (.tup (SqT.of upd_same) ?_ ht))
        exact RDs.mono x1.kp (datas_rd q r)
theorem e_tup {es : List Expr} {k : Nat} {av : Av} (h : EA X c es av) : EE X c (.Tuple es k pos) (cArgs oTup av) := PE.imp (pe_tup h) (args_t (r := fun vs H Q => vs.length ≤ sizeLine ∧ ∀ p, H p = none → Q (.ref p) (upd H p (.tup vs))) tup_ok)
def oLst (l : List A) (S : Sto) : Option (A × Sto) := cond (few l) (S.new (.lst l)) none
theorem lst_ok {g : Gb} : ArOk g (fun vs H Q => vs.length ≤ sizeLine ∧ ∀ p, H p = none → Q (.ref p) (upd H p (.lst vs))) oLst := by
  intro ι S H x v z S' Q R r e k
  unfold oLst at e
  cases hf : few x with
  | false => rw [hf] at e; cases e
  | true =>
    rw [hf] at e
    have hl : v.length ≤ sizeLine := by
      rw [← Paired.len r]
      exact Nat.le_trans (few_le hf) line_le
    refine ⟨hl, fun p hp => ?_⟩
    obtain ⟨ι', R1, x1, r1⟩ := R.new1 (ho := .lst v) e hp fun ι' x' => ⟨v, upd_same, r.mono x'⟩
    exact k ι' _ _ x1 R1 r1
theorem e_lst {es : List Expr} {av : Av} (h : EA X c es av) : EE X c (.List es pos) (cArgs oLst av) := PE.imp (pe_lst h) (args_t (r := fun vs H Q => vs.length ≤ sizeLine ∧ ∀ p, H p = none → Q (.ref p) (upd H p (.lst vs))) lst_ok)
end
end Cs
/-! Z4: operations by values. -/
namespace Cs
open PySem PySem.Spec PyProof.Rows L2

/-! ### data as PyData -/
mutual
def toP : D → PyData
  | .non => .none
  | .int i => .int i
  | .str l => .str (sOf l)
  | .tup l => .tuple (toPs l)
def toPs : List D → List PyData
  | [] => []
  | d :: l => toP d :: toPs l
end
theorem sOf_beq (a b : List Nat) : (sOf a == sOf b) = eqN a b := by
  rw [Bool.eq_iff_iff, beq_iff_eq, eqN_iff]
  exact ⟨sOf_inj, fun e => by rw [e]⟩
mutual
theorem eqv_beq : ∀ (a b : D), PyData.eqv (toP a) (toP b) = D.beq a b
  | .non, .non => by simp [toP, PyData.eqv, D.beq]
  | .int a, .int b => by simp [toP, PyData.eqv, D.beq, Bool.beq_eq_decide_eq]
  | .str a, .str b => by simp [toP, PyData.eqv, D.beq, sOf_beq]
  | .tup a, .tup b => by simp only [toP, PyData.eqv, D.beq]; exact eqv_beqs a b
  | .non, .int _ | .non, .str _ | .non, .tup _ => by simp [toP, PyData.eqv, D.beq]
  | .int _, .non | .int _, .str _ | .int _, .tup _ => by simp [toP, PyData.eqv, D.beq]
  | .str _, .non | .str _, .int _ | .str _, .tup _ => by simp [toP, PyData.eqv, D.beq]
  | .tup _, .non | .tup _, .int _ | .tup _, .str _ => by simp [toP, PyData.eqv, D.beq]
theorem eqv_beqs : ∀ (a b : List D), PyData.eqvAll (toPs a) (toPs b) = D.beqs a b
  | [], [] => by simp [toPs, PyData.eqvAll, D.beqs]
  | x :: a, y :: b => by
    simp only [toPs, PyData.eqvAll, D.beqs, eqv_beq x y, eqv_beqs a b]
    cases D.beq x y <;> rfl
  | [], _ :: _ => by simp [toPs, PyData.eqvAll, D.beqs]
  | _ :: _, [] => by simp [toPs, PyData.eqvAll, D.beqs]
end
mutual
theorem depth_tall : ∀ (d : D) (n : Nat), tall d n = true → (toP d).depth ≤ n
  | .non, n, _ => by simp [toP, PyData.depth]
  | .int _, n, _ => by simp [toP, PyData.depth]
  | .str _, n, _ => by simp [toP, PyData.depth]
  | .tup l, 0, h => by simp [tall] at h
  | .tup l, n + 1, h => by
    simp only [tall] at h
    simp only [toP, PyData.depth]
    exact Nat.succ_le_succ (depth_talls l n h)
theorem depth_talls : ∀ (l : List D) (n : Nat), talls l n = true → PyData.depthAll (toPs l) ≤ n
  | [], n, _ => by simp [toPs, PyData.depthAll]
  | d :: l, n, h => by
    unfold talls at h
    cases q : tall d n with
    | false => rw [q] at h; cases h
    | true =>
      rw [q] at h
      have h1 := depth_tall d n q
      have h2 := depth_talls l n h
      simp only [toPs, PyData.depthAll]
      omega
end
mutual
theorem nk_depth : ∀ (d : D) (n : Nat), tall d n = true → (nk d).depth ≤ n
  | .non, n, _ => by simp [nk, NestedKey.depth]
  | .int _, n, _ => by simp [nk, NestedKey.depth]
  | .str _, n, _ => by simp [nk, NestedKey.depth]
  | .tup l, 0, h => by simp [tall] at h
  | .tup l, n + 1, h => by
    simp only [tall] at h
    simp only [nk, NestedKey.depth]
    exact Nat.succ_le_succ (nk_depths l n h)
theorem nk_depths : ∀ (l : List D) (n : Nat), talls l n = true → NestedKey.depthAll (nks l) ≤ n
  | [], n, _ => by simp [nks, NestedKey.depthAll]
  | d :: l, n, h => by
    unfold talls at h
    cases q : tall d n with
    | false => rw [q] at h; cases h
    | true =>
      rw [q] at h
      have h1 := nk_depth d n q
      have h2 := nk_depths l n h
      simp only [nks, NestedKey.depthAll]
      omega
end
section
variable {K : PySem.W.Frag} {H : Hp}
theorem RD.tall : ∀ {d : D} {v : V}, RD K H d v → tall d 30 = true
  | _, _, .non => rfl
  | _, _, .int _ => rfl
  | _, _, .str _ _ => rfl
  | _, _, .tup _ _ h => h
mutual
theorem RD.dp : ∀ {d : D} {v : V}, RD K H d v → Dp K H v (toP d) ∧ PyData.canLay0 (toP d) = true
  | _, _, .non => ⟨.non, by simp [toP, PyData.canLay0]⟩
  | _, _, .int i => ⟨.int i, by simp [toP, PyData.canLay0]⟩
  | _, _, .str l h => ⟨.str _, by simpa [toP, PyData.canLay0] using h⟩
  | _, _, .tup h r _ => by
    obtain ⟨h1, h2⟩ := RDs.dp r
    refine ⟨.tup h h1, ?_⟩
    simpa [toP, PyData.canLay0] using h2
theorem RDs.dp : ∀ {d : List D} {v : List V}, RDs K H d v → DpAll K H v (toPs d) ∧ PyData.canLayAll0 (toPs d) = true
  | _, _, .nil => ⟨.nil, by simp [toPs, PyData.canLayAll0]⟩
  | _, _, .cons h r => by
    obtain ⟨h1, h2⟩ := RD.dp h
    obtain ⟨h3, h4⟩ := RDs.dp r
    refine ⟨.cons h1 h3, ?_⟩
    simp [toPs, PyData.canLayAll0, h2, h4]
end
theorem RD.shaped {d : D} {v : V} (r : RD K H d v) : SeqAt.shaped (toP d) = true := by
  unfold SeqAt.shaped
  rw [r.dp.2, Bool.true_and, decide_eq_true_eq]
  exact Nat.le_trans (depth_tall d 30 r.tall) (by decide)
end

/-! ### equality -/
def oEq : A → A → Sto → Option (A × Sto)
  | .dat a, .dat b, S => some (.bl (D.beq a b), S)
  | _, _, _ => none
def oNe : A → A → Sto → Option (A × Sto)
  | .dat a, .dat b, S => some (.bl (not (D.beq a b)), S)
  | _, _, _ => none
theorem eq_ok {g : Gb} : OpOk g (rEqD g.K) oEq := by
  intro ι S H x y v u z S' Q R rx ry e k
  unfold oEq at e
  split at e
  · rename_i a b
    cases e
    cases rx with | dat ra => cases ry with | dat rb =>
    refine ⟨toP a, toP b, ra.dp.1, rb.dp.1, ra.shaped, rb.shaped, ?_⟩
    rw [eqv_beq]
    exact k.here R (.bl _)
  · cases e
theorem ne_ok {g : Gb} : OpOk g (rNeD g.K) oNe := by
  intro ι S H x y v u z S' Q R rx ry e k
  unfold oNe at e
  split at e
  · rename_i a b
    cases e
    cases rx with | dat ra => cases ry with | dat rb =>
    refine ⟨toP a, toP b, ra.dp.1, rb.dp.1, ra.shaped, rb.shaped, ?_⟩
    rw [eqv_beq]
    exact k.here R (.bl _)
  · cases e

/-! ### ints -/
def oInt (f : Int → Int → Int) : A → A → Sto → Option (A × Sto)
  | .dat (.int i), .dat (.int j), S => some (.dat (.int (f i j)), S)
  | _, _, _ => none
def oCmp (f : Int → Int → Bool) : A → A → Sto → Option (A × Sto)
  | .dat (.int i), .dat (.int j), S => some (.bl (f i j), S)
  | _, _, _ => none
theorem int_ok {g : Gb} {f : Int → Int → Int} : OpOk g (rI0 fun i j => .int (f i j)) (oInt f) := by
  intro ι S H x y v u z S' Q R rx ry e k
  unfold oInt at e
  split at e
  · rename_i i j
    cases e
    cases rx with | dat ra => cases ry with | dat rb =>
    cases ra
    cases rb
    exact ⟨i, j, rfl, rfl, k.here R (.dat (.int _))⟩
  · cases e
theorem cmp_ok {g : Gb} {f : Int → Int → Bool} : OpOk g (rI0 fun i j => .bl (f i j)) (oCmp f) := by
  intro ι S H x y v u z S' Q R rx ry e k
  unfold oCmp at e
  split at e
  · rename_i i j
    cases e
    cases rx with | dat ra => cases ry with | dat rb =>
    cases ra
    cases rb
    exact ⟨i, j, rfl, rfl, k.here R (.bl _)⟩
  · cases e
abbrev oAdd := oInt fun i j => i + j
abbrev oSub := oInt fun i j => i - j
abbrev oLt := oCmp fun i j => decide (i < j)
abbrev oLe := oCmp fun i j => decide (i ≤ j)
abbrev oGt := oCmp fun i j => decide (j < i)
abbrev oGe := oCmp fun i j => decide (j ≤ i)

/-! ### is None -/
def isNonA : A → Bool
  | .dat .non => true
  | _ => false
def oIsN : A → A → Sto → Option (A × Sto)
  | x, .dat .non, S => some (.bl (isNonA x), S)
  | _, _, _ => none
def oNotN : A → A → Sto → Option (A × Sto)
  | x, .dat .non, S => some (.bl (not (isNonA x)), S)
  | _, _, _ => none
theorem RA.non {K : PySem.W.Frag} {ι : Nat → Addr} {m : Nat} {H : Hp} {x : A} {v : V} (r : RA K ι m H x v) : decide (v = .non) = isNonA x := by
  cases r with
  | bl b => rfl
  | dat h => cases h <;> rfl
  | obj h => rfl
theorem isN_ok {g : Gb} : OpOk g (fun x y H Q => y = .non ∧ Q (.bl (decide (x = .non))) H) oIsN := by
  intro ι S H x y v u z S' Q R rx ry e k
  unfold oIsN at e
  split at e
  · cases e
    cases ry with | dat rb =>
    cases rb
    refine ⟨rfl, ?_⟩
    rw [rx.non]
    exact k.here R (.bl _)
  · cases e
theorem notN_ok {g : Gb} : OpOk g (fun x y H Q => y = .non ∧ Q (.bl (!decide (x = .non))) H) oNotN := by
  intro ι S H x y v u z S' Q R rx ry e k
  unfold oNotN at e
  split at e
  · cases e
    cases ry with | dat rb =>
    cases rb
    refine ⟨rfl, ?_⟩
    rw [rx.non]
    exact k.here R (.bl _)
  · cases e

/-! ### in a list or a tuple of flat things -/
def flatD : D → Bool
  | .tup _ => false
  | .non => true
  | .int _ => true
  | .str _ => true
def inD (x : D) : List D → Bool
  | [] => false
  | y :: l => cond (D.beq y x) true (inD x l)
def flatDs : List D → Bool
  | [] => true
  | d :: l => cond (flatD d) (flatDs l) false
/-- the items of a list or tuple of data -/
def itemsOf (y : A) (S : Sto) : Option (List D) := match y with
  | .dat (.tup l) => some l
  | .obj n => match S.get n with
    | some (.lst l) => datas l
    | _ => none
  | _ => none
def inS (x y : A) (S : Sto) : Option Bool := match x with
  | .dat d => match itemsOf y S with
    | some l => cond (flatD d) (cond (flatDs l) (some (inD d l)) none) none
    | none => none
  | _ => none
def oIn (x y : A) (S : Sto) : Option (A × Sto) := match inS x y S with
  | some b => some (.bl b, S)
  | none => none
def oNotIn (x y : A) (S : Sto) : Option (A × Sto) := match inS x y S with
  | some b => some (.bl (not b), S)
  | none => none
section
variable {g : Gb} {ι : Nat → Addr} {S : Sto} {H : Hp}
theorem itemsOf_rd (R : RS g ι S H) {y : A} {l : List D} {v : V} (e : itemsOf y S = some l) (r : RA g.K ι S.m H y v) : ∃ p vs, v = .ref p ∧ (SqL g.K H p vs ∨ SqT g.K H p vs) ∧ RDs g.K H l vs := by
  unfold itemsOf at e
  split at e
  · cases e
    cases r with | dat h => cases h with | tup h1 h2 _ =>
    exact ⟨_, _, rfl, .inr h1, h2⟩
  · rename_i n
    split at e
    · rename_i l' q
      cases r with | obj h =>
      obtain ⟨vs, h1, h2⟩ := (R.ob n _ q).2
      exact ⟨_, vs, rfl, .inl (SqL.of h1), datas_rd e h2⟩
    · cases e
  · cases e
theorem RD.flat {K : PySem.W.Frag} {H : Hp} {d : D} {v : V} (r : RD K H d v) (f : flatD d = true) : flatV v = true := by
  cases r with
  | tup _ _ _ => cases f
  | _ => rfl
theorem RD.eqV {K : PySem.W.Frag} {H : Hp} {a b : D} {v u : V} (r : RD K H a v) (r' : RD K H b u) (f : flatD a = true) (f' : flatD b = true) : eqV v u = D.beq a b := by
  cases r with
  | tup _ _ _ => cases f
  | non => cases r' <;> first | rfl | cases f'
  | int i => cases r' with
    | int j => simp [L2.eqV, D.beq, Bool.beq_eq_decide_eq]
    | tup _ _ _ => cases f'
    | _ => rfl
  | str l h => cases r' with
    | str l' h' => simp [L2.eqV, D.beq, sOf_beq]
    | tup _ _ _ => cases f'
    | _ => rfl
theorem flatDs_v {K : PySem.W.Frag} {H : Hp} : ∀ {l : List D} {vs : List V}, RDs K H l vs → flatDs l = true → vs.all flatV = true
  | _, _, .nil, _ => rfl
  | _, _, .cons (d := d) h r, f => by
    unfold flatDs at f
    cases q : flatD d with
    | false => rw [q] at f; cases f
    | true =>
      rw [q] at f
      rw [List.all_cons, h.flat q, flatDs_v r f]
      rfl
theorem inD_v {K : PySem.W.Frag} {H : Hp} {x : D} {v : V} (rx : RD K H x v) (fx : flatD x = true) : ∀ {l : List D} {vs : List V}, RDs K H l vs → flatDs l = true → inV v vs = inD x l
  | _, _, .nil, _ => rfl
  | _, _, .cons (d := d) h r, f => by
    unfold flatDs at f
    cases q : flatD d with
    | false => rw [q] at f; cases f
    | true =>
      rw [q] at f
      have ih := inD_v rx fx r f
      unfold inV at ih ⊢
      rw [List.any_cons, ih, h.eqV rx q fx, inD]
      cases D.beq d x <;> rfl
theorem inS_ok {x y : A} {v u : V} {b : Bool} (R : RS g ι S H) (rx : RA g.K ι S.m H x v) (ry : RA g.K ι S.m H y u) (e : inS x y S = some b) :
    ∃ p xs, u = .ref p ∧ (SqL g.K H p xs ∨ SqT g.K H p xs) ∧ flatV v = true ∧ xs.all flatV = true ∧ inV v xs = b := by
  unfold inS at e
  split at e
  · rename_i d
    cases q : itemsOf y S with
    | none => rw [q] at e; cases e
    | some l =>
      rw [q] at e
      dsimp only at e
      cases f1 : flatD d with
      | false => rw [f1] at e; cases e
      | true =>
        rw [f1] at e
        cases f2 : flatDs l with
        | false => rw [f2] at e; cases e
        | true =>
          rw [f2] at e
          cases e
          cases rx with | dat rd =>
          obtain ⟨p, xs, h1, h2, h3⟩ := itemsOf_rd R q ry
          exact ⟨p, xs, h1, h2, rd.flat f1, flatDs_v h3 f2, inD_v rd f1 h3 f2⟩
  · cases e
theorem in_ok : OpOk g (rIn g.K false) oIn := by
  intro ι S H x y v u z S' Q R rx ry e k
  unfold oIn at e
  split at e
  · rename_i b q
    cases e
    obtain ⟨p, xs, h1, h2, h3, h4, h5⟩ := inS_ok R rx ry q
    refine ⟨p, xs, h1, h2, h3, h4, ?_⟩
    rw [if_neg Bool.false_ne_true, h5]
    exact k.here R (.bl _)
  · cases e
theorem notIn_ok : OpOk g (rIn g.K true) oNotIn := by
  intro ι S H x y v u z S' Q R rx ry e k
  unfold oNotIn at e
  split at e
  · rename_i b q
    cases e
    obtain ⟨p, xs, h1, h2, h3, h4, h5⟩ := inS_ok R rx ry q
    refine ⟨p, xs, h1, h2, h3, h4, ?_⟩
    rw [if_pos rfl, h5]
    exact k.here R (.bl _)
  · cases e
end

/-! ### places -/
def ixD {α : Type} (l : List α) : Int → Option α
  | .ofNat n => l[n]?
  | .negSucc n => l.reverse[n]?
theorem ixD_at {α : Type} {l : List α} {i : Int} {x : α} (h : ixD l i = some x) : atI l i = some x := by
  cases i with
  | ofNat n => exact atI_nat h
  | negSucc n =>
    have h' : l.reverse[n]? = some x := h
    have hn : n < l.length := by
      have := (List.getElem?_eq_some_iff.mp h').1
      simpa using this
    rw [List.getElem?_reverse hn] at h'
    unfold atI ixN
    rw [if_neg (by omega), if_pos (by omega)]
    have e : (Int.negSucc n + (l.length : Int)).toNat = l.length - 1 - n := by omega
    rw [e]
    exact h'
theorem atI_rel {α β : Type} {R : α → β → Prop} {l : List α} {vs : List β} {i : Int} {x : α} (hl : l.length = vs.length) (hg : ∀ (j : Nat) x, l[j]? = some x → ∃ y, vs[j]? = some y ∧ R x y) (h : atI l i = some x) : ∃ y, atI vs i = some y ∧ R x y := by
  unfold atI at h ⊢
  rw [← hl]
  cases q : ixN l.length i with
  | none => rw [q] at h; cases h
  | some j =>
    rw [q] at h
    exact hg j x h
def oIx (x y : A) (S : Sto) : Option (A × Sto) := match y with
  | .dat (.int i) => match x with
    | .dat (.tup l) => match ixD l i with
      | some d => some (.dat d, S)
      | none => none
    | .obj n => match S.get n with
      | some (.lst l) => match ixD l i with
        | some a => some (a, S)
        | none => none
      | _ => none
    | _ => none
  | _ => none
def rIxA (K : PySem.W.Frag) : R2 := fun x y H Q => rIxL K x y H Q ∨ rIxT K x y H Q
theorem ix_any {X : Cx} : IxR X (rIxA X.K) := ix_list.or ix_tup
theorem ix_ok {g : Gb} : OpOk g (rIxA g.K) oIx := by
  intro ι S H x y v u z S' Q R rx ry e k
  unfold oIx at e
  split at e
  · rename_i i
    cases ry with | dat rb =>
    cases rb
    split at e
    · rename_i l
      split at e
      · rename_i d q
        cases e
        cases rx with | dat ra => cases ra with | tup h1 h2 _ =>
        obtain ⟨w, h3, h4⟩ := atI_rel h2.length (fun j x hx => h2.get hx) (ixD_at q)
        exact .inr ⟨_, _, i, w, rfl, rfl, h1, h3, k.here R (.dat h4)⟩
      · cases e
    · rename_i n
      split at e
      · rename_i l q
        split at e
        · rename_i a q2
          cases e
          cases rx with | obj h =>
          obtain ⟨vs, h1, h2⟩ := (R.ob n _ q).2
          obtain ⟨w, h3, h4⟩ := atI_rel (Paired.len h2) (fun j x hx => Paired.get h2 hx) (ixD_at q2)
          exact .inl ⟨_, vs, i, w, rfl, rfl, SqL.of h1, h3, k.here R h4⟩
        · cases e
      · cases e
    · cases e
  · cases e

/-! ### + of lists, of tuples -/
def oCatL (x y : A) (S : Sto) : Option (A × Sto) := match x with
  | .obj n => match y with
    | .obj m => match S.get n with
      | some (.lst a) => match S.get m with
        | some (.lst b) => cond (few a) (cond (few b) (S.new (.lst (a ++ b))) none) none
        | _ => none
      | _ => none
    | _ => none
  | _ => none
theorem line_le2 : 100000 + 100000 ≤ sizeLine := by decide
theorem catL_ok {g : Gb} : OpOk g rCat oCatL := by
  intro ι S H x y v u z S' Q R rx ry e k
  unfold oCatL at e
  split at e
  · rename_i n
    split at e
    · rename_i m
      split at e
      · rename_i a q1
        split at e
        · rename_i b q2
          cases f1 : few a with
          | false => rw [f1] at e; cases e
          | true =>
            cases f2 : few b with
            | false => rw [f1, f2] at e; cases e
            | true =>
              rw [f1, f2] at e
              cases rx with | obj h =>
              cases ry with | obj h' =>
              obtain ⟨vs, h1, h2⟩ := (R.ob n _ q1).2
              obtain ⟨us, h3, h4⟩ := (R.ob m _ q2).2
              have l1 := few_le f1
              have l2 := few_le f2
              rw [Paired.len h2] at l1
              rw [Paired.len h4] at l2
              refine ⟨_, _, vs, us, rfl, rfl, h1, h3, Nat.le_trans (Nat.add_le_add l1 l2) line_le2, fun p hp => ?_⟩
              obtain ⟨ι', R1, x1, r1⟩ := R.new1 (ho := .lst (vs ++ us)) e hp fun ι' x' => ⟨vs ++ us, upd_same, Paired.append (RAs.mono x' h2) (RAs.mono x' h4)⟩
              exact k ι' _ _ x1 R1 r1
        · cases e
      · cases e
    · cases e
  · cases e
theorem RDs.append {K : PySem.W.Frag} {H : Hp} : ∀ {a b : List D} {vs us : List V}, RDs K H a vs → RDs K H b us → RDs K H (a ++ b) (vs ++ us)
  | _, _, _, _, .nil, s => s
  | _, _, _, _, .cons h r, s => .cons h (RDs.append r s)
theorem RDs.nil_iff {K : PySem.W.Frag} {H : Hp} {a : List D} {vs : List V} (r : RDs K H a vs) : vs = [] → a = [] := by
  cases r with
  | nil => exact fun _ => rfl
  | cons _ _ => intro h; cases h
def oCatT (x y : A) (S : Sto) : Option (A × Sto) := match x with
  | .dat (.tup a) => match y with
    | .dat (.tup b) => cond (few a) (cond (few b) (cond (tall (.tup (a ++ b)) 30) (some (.dat (.tup (a ++ b)), S)) none) none) none
    | _ => none
  | _ => none
theorem catT_ok {g : Gb} : OpOk g (rCatA g.K) oCatT := by
  intro ι S H x y v u z S' Q R rx ry e k
  unfold oCatT at e
  split at e
  · rename_i a
    split at e
    · rename_i b
      cases f1 : few a with
      | false => rw [f1] at e; cases e
      | true =>
        cases f2 : few b with
        | false => rw [f1, f2] at e; cases e
        | true =>
          cases f3 : tall (.tup (a ++ b)) 30 with
          | false => rw [f1, f2, f3] at e; cases e
          | true =>
            rw [f1, f2, f3] at e
            cases e
            cases rx with | dat ra =>
            cases ry with | dat rb =>
            have hb := rb
            have ha := ra
            cases ra with | tup h1 h2 t1 =>
            cases rb with | tup h3 h4 t2 =>
            have l1 := few_le f1
            have l2 := few_le f2
            rw [h2.length] at l1
            rw [h4.length] at l2
            refine ⟨_, _, _, _, rfl, rfl, h1, h3, Nat.le_trans (Nat.add_le_add l1 l2) line_le2, fun q => ?_, fun q1 q2 => ?_, fun q1 q2 p hp => ?_⟩
            · have ea := h2.nil_iff q
              subst ea
              exact k.here R (.dat hb)
            · have eb := h4.nil_iff q2
              subst eb
              rw [List.append_nil] at k
              exact k.here R (.dat ha)
            · obtain ⟨R1, x1⟩ := R.fresh (o := .tup (_ ++ _)) hp
              exact k ι _ _ x1 R1 (.dat (.tup (SqT.of upd_same) (RDs.append (RDs.mono x1.kp h2) (RDs.mono x1.kp h4)) f3))
    · cases e
  · cases e
end Cs
/-! Z5: statements, targets, what is walked, loops, list comprehensions. -/
namespace Cs
open PySem PySem.Spec PyProof.Rows L2

abbrev ES (X : Cx) (c : Nat → Addr) (s : Stmt) (ev : Sv) : Prop := PS X s (tsOf (gX X c) ev)
abbrev EB (X : Cx) (c : Nat → Addr) (s : List Stmt) (ev : Sv) : Prop := PSs X s (tsOf (gX X c) ev)

def sNil : Sv := fun σ S => some (.nx, σ, S)
def sNo : Sv := fun _ _ => none
def sSeq (a b : Sv) : Sv := fun σ S => match a σ S with
  | some (.nx, σ1, S1) => b σ1 S1
  | r => r
def sRet (e : Ev) : Sv := fun σ S => match e σ S with
  | some (a, S1) => some (.rt a, σ, S1)
  | none => none
def sDrop (e : Ev) : Sv := fun σ S => match e σ S with
  | some (_, S1) => some (.nx, σ, S1)
  | none => none
def sIf (t : Tv) (a b : Sv) : Sv := fun σ S => match t σ S with
  | some (true, S1) => a σ S1
  | some (false, S1) => b σ S1
  | none => none
def sBrk : Sv := fun σ S => some (.bk, σ, S)

section
variable {X : Cx} {c : Nat → Addr} {pos : Pos} {e : Expr} {ev : Ev}
theorem s_no (s : Stmt) : ES X c s sNo := ⟨fun _ _ _ _ _ _ h => by
  obtain ⟨_, _, _, _, _, _, _, _, h, _⟩ := h
  cases h⟩
theorem b_no (s : List Stmt) : EB X c s sNo := ⟨fun _ _ _ _ _ _ h => by
  obtain ⟨_, _, _, _, _, _, _, _, h, _⟩ := h
  cases h⟩
theorem b_nil : EB X c [] sNil := PSs.imp pss_nil fun E σ H h => by
  obtain ⟨ι, σa, S, o, σa', S', hL, hS, e, k⟩ := h
  cases e
  exact k ι H σ (.refl ..) hS hL
theorem b_seq {s : Stmt} {rest : List Stmt} {a b : Sv} (h1 : ES X c s a) (h2 : EB X c rest b) : EB X c (s :: rest) (sSeq a b) := PSs.imp (pss_cons h1 h2) fun E σ H h => by
  obtain ⟨ι, σa, S, o, σa', S', hL, hS, e, k⟩ := h
  unfold sSeq at e
  split at e
  · rename_i σ1 S1 q
    exact ⟨ι, σa, S, .nx, σ1, S1, hL, hS, q, fun ι1 H1 σ2 x1 R1 L1 => ⟨ι1, σ1, S1, o, σa', S', L1, R1, e, Ws.from x1 k⟩⟩
  · rename_i hne
    cases o with
    | nx => exact (hne _ _ e).elim
    | bk => exact ⟨ι, σa, S, .bk, σa', S', hL, hS, e, k⟩
    | ct => exact ⟨ι, σa, S, .ct, σa', S', hL, hS, e, k⟩
    | rt a => exact ⟨ι, σa, S, .rt a, σa', S', hL, hS, e, k⟩
theorem b_one {s : Stmt} {a : Sv} (h1 : ES X c s a) : EB X c [s] a := pss_one h1
theorem s_ret (h : EE X c e ev) : ES X c (.Return (some e) pos) (sRet ev) := PS.imp (ps_ret h) fun E σ H h => by
  obtain ⟨ι, σa, S, o, σa', S', hL, hS, e, k⟩ := h
  unfold sRet at e
  split at e
  · rename_i a S1 q
    cases e
    exact ⟨ι, σa, S, a, _, hL, hS, q, k⟩
  · cases e
theorem s_retN : ES X c (.Return none pos) (sRet cNon) := PS.imp ps_retN fun E σ H h => by
  obtain ⟨ι, σa, S, o, σa', S', hL, hS, e, k⟩ := h
  cases e
  exact Wa.here (v := .non) hS k (.dat .non)
theorem s_expr (h : EE X c e ev) (hs : swapsWith e none pos.line X.env = pure false := by rfl) : ES X c (.Expr e pos) (sDrop ev) := PS.imp (ps_expr h hs) fun E σ H h => by
  obtain ⟨ι, σa, S, o, σa', S', hL, hS, e, k⟩ := h
  unfold sDrop at e
  split at e
  · rename_i a S1 q
    cases e
    exact ⟨ι, σa, S, a, _, hL, hS, q, fun ι1 H1 v x1 R1 r1 => k ι1 H1 σ x1 R1 (hL.mono x1)⟩
  · cases e
theorem s_if {t : Expr} {a b : List Stmt} {tt : Tv} {ea eb : Sv} (ht : ET X c t tt) (ha : EB X c a ea) (hb : EB X c b eb) : ES X c (.If t a b pos) (sIf tt ea eb) := PS.imp (ps_if ht ha hb) fun E σ H h => by
  obtain ⟨ι, σa, S, o, σa', S', hL, hS, e, k⟩ := h
  unfold sIf at e
  split at e
  · rename_i S1 q
    exact ⟨ι, σa, S, true, S1, hL, hS, q, fun ι1 H1 x1 R1 => iteT (by
      exact ⟨ι1, σa, S1, o, σa', S', hL.mono x1, R1, e, Ws.from x1 k⟩)⟩
  · rename_i S1 q
    exact ⟨ι, σa, S, false, S1, hL, hS, q, fun ι1 H1 x1 R1 => iteF (by
      exact ⟨ι1, σa, S1, o, σa', S', hL.mono x1, R1, e, Ws.from x1 k⟩)⟩
  · cases e
theorem s_brk : ES X c (.Break pos) sBrk := PS.imp ps_break fun E σ H h => by
  obtain ⟨ι, σa, S, o, σa', S', hL, hS, e, k⟩ := h
  cases e
  exact k ι H σ (.refl ..) hS hL
end

/-! ### targets -/
abbrev Gv := A → Sl → Option Sl
abbrev Gvs := List A → Sl → Option Sl
def tgOf (g : Gb) (ev : Gv) : TG := fun v σ H Q => ∃ ι S a σa σa', RS g ι S H ∧ RL g.K ι S.m H σa σ ∧ RA g.K ι S.m H a v ∧ ev a σa = some σa' ∧ ∀ σ', RL g.K ι S.m H σa' σ' → Q σ' H
def tgsOf (g : Gb) (ev : Gvs) : TGs := fun v σ H Q => ∃ ι S a σa σa', RS g ι S H ∧ RL g.K ι S.m H σa σ ∧ RAs g.K ι S.m H a v ∧ ev a σa = some σa' ∧ ∀ σ', RL g.K ι S.m H σa' σ' → Q σ' H
def gNm (i : Nat) : Gv := fun a σ => some (σ.set i (some a))
def gsNil : Gvs := fun l σ => match l with
  | [] => some σ
  | _ :: _ => none
def gsCons (a : Gv) (r : Gvs) : Gvs := fun l σ => match l with
  | x :: xs => match a x σ with
    | some σ1 => r xs σ1
    | none => none
  | [] => none
def gTp (n : Nat) (r : Gvs) : Gv := fun a σ => match a with
  | .dat (.tup l) => cond (Nat.beq l.length n) (r (l.map .dat) σ) none
  | _ => none
theorem PG.imp {X : Cx} {e : Expr} {t t' : TG} (h : PG X e t) (k : ∀ v σ H Q, t' v σ H Q → t v σ H Q) : PG X e t' := ⟨fun pins s σ H v u Q I r q => h.run pins s σ H v u Q I r (k _ _ _ _ q)⟩
theorem PGs.imp {X : Cx} {e : List Expr} {t t' : TGs} (h : PGs X e t) (k : ∀ v σ H Q, t' v σ H Q → t v σ H Q) : PGs X e t' := ⟨fun pins s σ H v u Q I r q => h.run pins s σ H v u Q I r (k _ _ _ _ q)⟩
abbrev EG (X : Cx) (c : Nat → Addr) (e : Expr) (ev : Gv) : Prop := PG X e (tgOf (gX X c) ev)
abbrev EGs (X : Cx) (c : Nat → Addr) (e : List Expr) (ev : Gvs) : Prop := PGs X e (tgsOf (gX X c) ev)
section
variable {X : Cx} {c : Nat → Addr} {pos : Pos}
theorem g_nm {i : Nat} {x : Str} (hN : X.N.Nodup) (hi : X.N[i]? = some x) (hx : Loc X.env.scope x) (hf : X.fn x = true ∨ X.env.scope.names.lookup x = some .local := by first | exact .inl rfl | exact .inr rfl | assumption) : EG X c (.Name x pos) (gNm i) :=
  PG.imp (pg_name hN hi hx hf) fun v σ H Q h => by
    obtain ⟨ι, S, a, σa, σa', hS, hL, ha, e, k⟩ := h
    cases e
    exact k _ (RL.set ha i hL)
theorem gs_nil : EGs X c [] gsNil := PGs.imp pgs_nil fun v σ H Q h => by
  obtain ⟨ι, S, a, σa, σa', hS, hL, ha, e, k⟩ := h
  cases ha with
  | nil =>
    cases e
    exact ⟨rfl, k σ hL⟩
  | cons _ _ => cases e
theorem gs_cons {e : Expr} {es : List Expr} {a : Gv} {r : Gvs} (h1 : EG X c e a) (h2 : EGs X c es r) (hs : (assignEach (e :: es) X.env).map (·.2) = assign e X.env :: (assignEach es X.env).map (·.2) := by rfl) : EGs X c (e :: es) (gsCons a r) :=
  PGs.imp (pgs_cons h1 h2 hs) fun v σ H Q h => by
    obtain ⟨ι, S, l, σa, σa', hS, hL, ha, e, k⟩ := h
    cases ha with
    | nil => cases e
    | cons r1 r2 =>
      unfold gsCons at e
      dsimp only at e
      split at e
      · rename_i σ1 q
        exact ⟨_, _, rfl, ι, S, _, σa, σ1, hS, hL, r1, q, fun σ2 L2 => ⟨ι, S, _, σ1, σa', hS, L2, r2, e, k⟩⟩
      · cases e
theorem g_tup {es : List Expr} {kk n : Nat} {r : Gvs} (hc : X.calm = true) (h : EGs X c es r) (hn : (assignEach es X.env).length = n := by rfl) (hst : (assignEach es X.env).findIdx? (·.1) = none := by rfl) : EG X c (.Tuple es kk pos) (gTp n r) :=
  PG.imp (pg_tup hc h hn hst) fun v σ H Q h => by
    obtain ⟨ι, S, a, σa, σa', hS, hL, ha, e, k⟩ := h
    unfold gTp at e
    split at e
    · rename_i l
      cases ha with | dat hd =>
      cases hd with | tup h1 h2 _ =>
      rw [beqN, cond_dec] at e
      by_cases hn : l.length = n
      · rw [if_pos hn] at e
        exact ⟨_, _, rfl, h1, h2.length.symm.trans hn, ι, S, _, σa, σa', hS, hL, h2.as, e, k⟩
      · rw [if_neg hn] at e
        cases e
    · cases e
def sAsg (e : Ev) (t : Gv) : Sv := fun σ S => match e σ S with
  | some (a, S1) => match t a σ with
    | some σ1 => some (.nx, σ1, S1)
    | none => none
  | none => none
theorem asg_t {g : Gb} {ev : Ev} {t : Gv} (E : Ends) (σ : St) (H : Hp) (h : tsOf g (sAsg ev t) E σ H) : teOf g ev σ H fun x H1 => tgOf g t x σ H1 E.nx := by
  obtain ⟨ι, σa, S, o, σa', S', hL, hS, e, k⟩ := h
  unfold sAsg at e
  split at e
  · rename_i a S1 q
    split at e
    · rename_i σ1 q1
      cases e
      exact ⟨ι, σa, S, a, _, hL, hS, q, fun ι1 H1 v x1 R1 r1 => ⟨ι1, _, a, σa, _, R1, hL.mono x1, r1, q1, fun σ' L' => k ι1 H1 σ' x1 R1 L'⟩⟩
    · cases e
  · cases e
theorem s_asg {tg e : Expr} {ev : Ev} {t : Gv} (he : EE X c e ev) (hg : EG X c tg t) (hs : swapsWithSole [tg] e pos.line X.env = pure false := by rfl) (hw : swappedStores [tg] e X.env = pure none := by rfl)
    (h1 : (assignEach [tg] X.env).map (·.2) = [assign tg X.env] := by rfl) : ES X c (.Assign [tg] e pos) (sAsg ev t) := PS.imp (ps_asg he hg hs hw h1) asg_t
theorem s_set {i : Nat} {x : Str} {e : Expr} {ev : Ev} {pos' : Pos} (hN : X.N.Nodup) (hi : X.N[i]? = some x) (hx : Loc X.env.scope x) (he : EE X c e ev) (hs : swapsWith e (some (.Name x pos')) pos.line X.env = pure false := by rfl)
    (hf : X.fn x = true ∨ X.env.scope.names.lookup x = some .local := by first | exact .inl rfl | exact .inr rfl | assumption) : ES X c (.Assign [.Name x pos'] e pos) (sAsg ev (gNm i)) := PS.imp (ps_set hN hi hx he hs hf) fun E σ H h => by
  obtain ⟨ι, σa, S, z, S', hL, hS, e, k⟩ := asg_t E σ H h
  exact ⟨ι, σa, S, z, S', hL, hS, e, fun ι1 H1 v x1 R1 r1 => by
    obtain ⟨ι2, S2, a, σ1, σ2, R2, L2, r2, e2, k2⟩ := k ι1 H1 v x1 R1 r1
    cases e2
    exact k2 _ (RL.set r2 i L2)⟩
end

/-! ### what is walked -/
inductive Iv where
  | lst (n : Nat)
  | tup (l : List D)
  | rng (lo st : Int) (n : Nat)
  | enl (n : Nat)
  | ent (l : List D)
def pairD (i : Nat) (d : D) : A := .dat (.tup [.int (.ofNat i), d])
def nxt (it : Iv) (i : Nat) (S : Sto) : Option (Option A) := match it with
  | .lst n => match S.get n with
    | some (.lst l) => some l[i]?
    | _ => none
  | .tup l => match l[i]? with
    | some d => some (some (.dat d))
    | none => some none
  | .rng lo st n => cond (Nat.blt i n) (some (some (.dat (.int (lo + (.ofNat i) * st))))) (some none)
  | .enl n => match S.get n with
    | some (.lst l) => match l[i]? with
      | some (.dat d) => cond (tall d 29) (some (some (pairD i d))) none
      | some _ => none
      | none => some none
    | _ => none
  | .ent l => match l[i]? with
    | some d => cond (tall d 29) (some (some (pairD i d))) none
    | none => some none
/-- the iterator J gives what it says, from here on -/
def ItOk (g : Gb) (it : Iv) (J : It) (ι : Nat → Addr) (S : Sto) (H : Hp) : Prop := ∀ ι' S' H' i, Ext ι S.m H ι' S'.m H' → RS g ι' S' H' →
  (nxt it i S' = some none → J.stop i H') ∧ ∀ a, nxt it i S' = some (some a) → J.go i H' ∧ ∀ x H2, J.yld i H' x H2 → Ext ι' S'.m H' ι' S'.m H2 ∧ RS g ι' S' H2 ∧ RA g.K ι' S'.m H2 a x
abbrev Nv := Sl → Sto → Option (Iv × Sto)
def tiOf (g : Gb) (ei : Nv) : TI := fun σ H R => ∃ ι σa S it S', RL g.K ι S.m H σa σ ∧ RS g ι S H ∧ ei σa S = some (it, S') ∧ ∀ ι' H' J, Ext ι S.m H ι' S'.m H' → RS g ι' S' H' → ItOk g it J ι' S' H' → R J H'
theorem PI.imp {X : Cx} {tg e : Expr} {t t' : TI} (h : PI X tg e t) (k : ∀ σ H Q, t' σ H Q → t σ H Q) : PI X tg e t' := ⟨fun pins s σ H Q I q => h.run pins s σ H Q I (k _ _ _ q)⟩
abbrev EI (X : Cx) (c : Nat → Addr) (tg e : Expr) (ev : Nv) : Prop := PI X tg e (tiOf (gX X c) ev)
def nLst (e : Ev) : Nv := fun σ S => match e σ S with
  | some (.obj n, S1) => match S1.get n with
    | some (.lst _) => some (.lst n, S1)
    | _ => none
  | _ => none
def nTup (e : Ev) : Nv := fun σ S => match e σ S with
  | some (.dat (.tup l), S1) => some (.tup l, S1)
  | _ => none
section
variable {g : Gb} {ι : Nat → Addr} {S : Sto} {H : Hp}
theorem itok_lst (R : RS g ι S H) {n : Nat} (hn : n < S.m) : ItOk g (.lst n) (Itl g.K (ι n)) ι S H := by
  intro ι' S' H' i x R'
  have e0 := x.eq n hn
  refine ⟨fun e => ?_, fun a e => ?_⟩
  · unfold nxt at e
    dsimp only at e
    split at e
    · rename_i l q
      obtain ⟨vs, h1, h2⟩ := (R'.ob n _ q).2
      rw [e0] at h1
      have e' := Option.some.inj e
      have hl := List.getElem?_eq_none_iff.mp e'
      refine ⟨vs, SqL.of h1, ?_⟩
      rw [← Paired.len h2]
      exact hl
    · cases e
  · unfold nxt at e
    dsimp only at e
    split at e
    · rename_i l q
      obtain ⟨vs, h1, h2⟩ := (R'.ob n _ q).2
      rw [e0] at h1
      obtain ⟨y, h3, h4⟩ := Paired.get h2 (Option.some.inj e)
      refine ⟨⟨vs, y, SqL.of h1, h3⟩, fun z H2 hy => ?_⟩
      obtain ⟨rfl, hz⟩ := hy
      have := hz vs (SqL.of h1)
      rw [h3] at this
      cases this
      exact ⟨.refl .., R', h4⟩
    · cases e
theorem itok_tup {p : Addr} {vs : List V} {l : List D} (h1 : SqT g.K H p vs) (h2 : RDs g.K H l vs) : ItOk g (.tup l) (Itt g.K p) ι S H := by
  intro ι' S' H' i x R'
  have h1' := x.kp.sqT h1
  have h2' := RDs.mono x.kp h2
  refine ⟨fun e => ?_, fun a e => ?_⟩
  · unfold nxt at e
    dsimp only at e
    split at e
    · cases e
    · rename_i q
      refine ⟨vs, h1', ?_⟩
      rw [← h2.length]
      exact List.getElem?_eq_none_iff.mp q
  · unfold nxt at e
    dsimp only at e
    split at e
    · rename_i d q
      cases e
      obtain ⟨y, h3, h4⟩ := h2'.get q
      refine ⟨⟨vs, y, h1', h3⟩, fun z H2 hy => ?_⟩
      obtain ⟨rfl, hz⟩ := hy
      have := hz vs h1'
      rw [h3] at this
      cases this
      exact ⟨.refl .., R', .dat h4⟩
    · cases e
theorem itok_rng {lo st : Int} {n : Nat} (J : It) (hs : ∀ i H, n ≤ i → J.stop i H) (hg : ∀ i H, i < n → J.go i H) (hy : ∀ i H x H', J.yld i H x H' → H' = H ∧ x = .int (lo + (i : Nat) * st)) : ItOk g (.rng lo st n) J ι S H := by
  intro ι' S' H' i x R'
  unfold nxt
  dsimp only
  cases q : Nat.blt i n with
  | true =>
    have hlt : i < n := Nat.le_of_ble_eq_true q
    refine ⟨fun e => (by cases e), fun a e => ?_⟩
    cases e
    refine ⟨hg i H' hlt, fun z H2 h => ?_⟩
    obtain ⟨rfl, rfl⟩ := hy i H' z H2 h
    exact ⟨.refl .., R', .dat (.int _)⟩
  | false =>
    have hle : n ≤ i := by
      refine Nat.le_of_not_lt fun h => ?_
      have q2 : Nat.blt i n = true := Nat.ble_eq_true_of_le h
      rw [q] at q2
      cases q2
    exact ⟨fun _ => hs i H' hle, fun a e => (by cases e)⟩
end
section
variable {X : Cx} {c : Nat → Addr} {pos : Pos} {tg : Expr}
theorem i_lst {e : Expr} {ev : Ev} (h : EE X c e ev) : EI X c tg e (nLst ev) := PI.imp (pi_list h) fun σ H Q h => by
  obtain ⟨ι, σa, S, it, S', hL, hS, e, k⟩ := h
  unfold nLst at e
  split at e
  · rename_i n S1 q
    split at e
    · rename_i l q1
      cases e
      refine ⟨ι, σa, S, _, _, hL, hS, q, fun ι1 H1 v x1 R1 r1 => ?_⟩
      cases r1 with | obj hn =>
      obtain ⟨vs, h1, h2⟩ := (R1.ob n _ q1).2
      exact ⟨_, rfl, ⟨vs, SqL.of h1⟩, k ι1 H1 _ x1 R1 (itok_lst R1 hn)⟩
    · cases e
  · cases e
theorem i_tup {e : Expr} {ev : Ev} (h : EE X c e ev) : EI X c tg e (nTup ev) := PI.imp (pi_tup h) fun σ H Q h => by
  obtain ⟨ι, σa, S, it, S', hL, hS, e, k⟩ := h
  unfold nTup at e
  split at e
  · rename_i l S1 q
    cases e
    refine ⟨ι, σa, S, _, _, hL, hS, q, fun ι1 H1 v x1 R1 r1 => ?_⟩
    cases r1 with | dat hd =>
    cases hd with | tup h1 h2 _ =>
    exact ⟨_, rfl, ⟨_, h1⟩, k ι1 H1 _ x1 R1 (itok_tup h1 h2)⟩
  · cases e
/-- a small int -/
def small (i : Int) : Bool := cond (decide (-1000000 ≤ i)) (decide (i ≤ 1000000)) false
theorem small_of {i : Int} (h : small i = true) : -1000000 ≤ i ∧ i ≤ 1000000 := by
  unfold small at h
  cases q : decide (-1000000 ≤ i) with
  | false => rw [q] at h; cases h
  | true =>
    rw [q] at h
    exact ⟨of_decide_eq_true q, of_decide_eq_true h⟩
def nR1 (a : Av) : Nv := fun σ S => match a σ S with
  | some ([.dat (.int j)], S1) => cond (small j) (some (.rng 0 1 j.toNat, S1)) none
  | _ => none
def nR2 (a : Av) : Nv := fun σ S => match a σ S with
  | some ([.dat (.int i), .dat (.int j)], S1) => cond (small i) (cond (small j) (some (.rng i 1 (j - i).toNat, S1)) none) none
  | _ => none
theorem i_r1 {a : Expr} {av : Av} {p : Pos} (hg : Gl X "range") (hm : X.mg "range" = none) (ha : EA X c [a] av) (hs : starEach [a] X.env = [(false, eval a X.env)] := by rfl) : EI X c tg (.Call (.Name "range" p) [a] [] pos) (nR1 av) :=
  PI.imp (pi_range1 hg hm ha hs) fun σ H Q h => by
    obtain ⟨ι, σa, S, it, S', hL, hS, e, k⟩ := h
    unfold nR1 at e
    split at e
    · rename_i j S1 q
      cases f : small j with
      | false => rw [f] at e; cases e
      | true =>
        rw [f] at e
        cases e
        refine ⟨ι, σa, S, _, _, hL, hS, q, fun ι1 H1 v x1 R1 r1 => ?_⟩
        cases r1 with | cons r2 r3 =>
        cases r3
        cases r2 with | dat rd =>
        cases rd
        obtain ⟨b1, b2⟩ := small_of f
        exact ⟨j, rfl, by omega, by omega, k ι1 H1 _ x1 R1 (itok_rng _ (fun _ _ h => h) (fun _ _ h => h) fun i H x H' h => ⟨h.1, by rw [h.2, Int.mul_one]⟩)⟩
    · cases e
theorem i_r2 {a b : Expr} {av : Av} {p : Pos} (hg : Gl X "range") (hm : X.mg "range" = none) (ha : EA X c [a, b] av) (hs : starEach [a, b] X.env = [(false, eval a X.env), (false, eval b X.env)] := by rfl) (hs2 : starEach [b] X.env = [(false, eval b X.env)] := by rfl) :
    EI X c tg (.Call (.Name "range" p) [a, b] [] pos) (nR2 av) := PI.imp (pi_range2 hg hm ha hs hs2) fun σ H Q h => by
  obtain ⟨ι, σa, S, it, S', hL, hS, e, k⟩ := h
  unfold nR2 at e
  split at e
  · rename_i i j S1 q
    cases f1 : small i with
    | false => rw [f1] at e; cases e
    | true =>
      cases f : small j with
      | false => rw [f1, f] at e; cases e
      | true =>
        rw [f1, f] at e
        cases e
        refine ⟨ι, σa, S, _, _, hL, hS, q, fun ι1 H1 v x1 R1 r1 => ?_⟩
        cases r1 with | cons r2 r3 =>
        cases r3 with | cons r4 r5 =>
        cases r5
        cases r2 with | dat rd =>
        cases rd
        cases r4 with | dat rd =>
        cases rd
        obtain ⟨b1, b2⟩ := small_of f
        obtain ⟨b3, b4⟩ := small_of f1
        exact ⟨i, j, rfl, ⟨by omega, by omega, by omega, by omega⟩, k ι1 H1 _ x1 R1 (itok_rng _ (fun _ _ h => h) (fun _ _ h => h) fun n H x H' h => ⟨h.1, by rw [h.2, Int.mul_one]⟩)⟩
  · cases e
end

/-! ### for -/
def forL (t : Gv) (body : Sv) (it : Iv) : Nat → Nat → Sl → Sto → Option (Out × Sl × Sto)
  | 0, _, _, _ => none
  | f + 1, i, σ, S => match nxt it i S with
    | some none => some (.nx, σ, S)
    | some (some a) => match t a σ with
      | some σ1 => match body σ1 S with
        | some (.nx, σ2, S2) => forL t body it f (Nat.succ i) σ2 S2
        | some (.ct, σ2, S2) => forL t body it f (Nat.succ i) σ2 S2
        | some (.bk, σ2, S2) => some (.nx, σ2, S2)
        | some (.rt a, σ2, S2) => some (.rt a, σ2, S2)
        | none => none
      | none => none
    | none => none
def sFor (n : Nv) (t : Gv) (body : Sv) : Sv := fun σ S => match n σ S with
  | some (it, S1) => forL t body it 5000 0 σ S1
  | none => none
theorem s_for {X : Cx} {c : Nat → Addr} {pos : Pos} {tg iter : Expr} {body : List Stmt} {n : Nv} {t : Gv} {eb : Sv} (hp : PassesOwn (model X.prog X.w) X.A X.env X.xe) (hc : X.calm = true) (hi : EI X c tg iter n) (hg : EG X c tg t) (hb : EB X c body eb)
    (hs : ∀ x, foldedSetIterable iter X.env x = pure x := by intro _; rfl) : ES X c (.For tg iter body [] pos) (sFor n t eb) := PS.imp (ps_for hp hc hi hg hb hs) fun E σ H h => by
  obtain ⟨ι, σa, S, o, σa', S', hL, hS, e, k⟩ := h
  unfold sFor at e
  split at e
  · rename_i it S1 q
    refine ⟨ι, σa, S, it, S1, hL, hS, q, fun ι1 H1 J x1 R1 ok => ?_⟩
    refine ⟨fun i m σ2 H2 => ∃ ι2 σa2 S2, Ext ι1 S1.m H1 ι2 S2.m H2 ∧ RS (gX X c) ι2 S2 H2 ∧ RL X.K ι2 S2.m H2 σa2 σ2 ∧ forL t eb it m i σa2 S2 = some (o, σa', S'), ⟨5000, ι1, σa, S1, .refl .., R1, hL.mono x1, e⟩, ?_⟩
    rintro i m σ2 H2 ⟨ι2, σa2, S2, x2, R2, L2, e2⟩
    have k2 : Ws (gX X c) ι2 S2 H2 o σa' S' E := Ws.from (x1.trans x2) k
    cases m with
    | zero => cases e2
    | succ m =>
      unfold forL at e2
      split at e2
      · rename_i q2
        cases e2
        exact .inl ⟨(ok ι2 _ H2 i x2 R2).1 q2, k2 ι2 H2 σ2 (.refl ..) R2 L2⟩
      · rename_i a q2
        obtain ⟨go, yl⟩ := (ok ι2 S2 H2 i x2 R2).2 a q2
        refine .inr ⟨go, fun σ3 H3 => ∃ ι3 σa3 S3, Ext ι1 S1.m H1 ι3 S3.m H3 ∧ RS (gX X c) ι3 S3 H3 ∧ RL X.K ι3 S3.m H3 σa3 σ3 ∧ forL t eb it m (i + 1) σa3 S3 = some (o, σa', S'), fun σ3 H3 h => ⟨m, Nat.lt_succ_self m, h⟩, fun v H3 hy => ?_⟩
        obtain ⟨x3, R3, r3⟩ := yl v H3 hy
        split at e2
        · rename_i σ4 q4
          refine ⟨ι2, S2, a, σa2, σ4, R3, L2.mono x3, r3, q4, fun σ5 L5 => ?_⟩
          split at e2
          · rename_i σ6 S6 q6
            exact ⟨ι2, σ4, S2, .nx, σ6, S6, L5, R3, q6, fun ι7 H7 σ7 x7 R7 L7 => ⟨ι7, σ6, S6, (x2.trans x3).trans x7, R7, L7, e2⟩⟩
          · rename_i σ6 S6 q6
            exact ⟨ι2, σ4, S2, .ct, σ6, S6, L5, R3, q6, fun ι7 H7 σ7 x7 R7 L7 => ⟨ι7, σ6, S6, (x2.trans x3).trans x7, R7, L7, e2⟩⟩
          · rename_i σ6 S6 q6
            cases e2
            exact ⟨ι2, σ4, S2, .bk, _, _, L5, R3, q6, fun ι7 H7 σ7 x7 R7 L7 => k2 ι7 H7 σ7 (x3.trans x7) R7 L7⟩
          · rename_i b σ6 S6 q6
            cases e2
            exact ⟨ι2, σ4, S2, .rt b, _, _, L5, R3, q6, Wa.from x3 k2⟩
          · cases e2
        · cases e2
      · cases e2
  · cases e

/-! ### while -/
def whL (t : Tv) (body : Sv) : Nat → Sl → Sto → Option (Out × Sl × Sto)
  | 0, _, _ => none
  | f + 1, σ, S => match t σ S with
    | some (false, S1) => some (.nx, σ, S1)
    | some (true, S1) => match body σ S1 with
      | some (.nx, σ2, S2) => whL t body f σ2 S2
      | some (.ct, σ2, S2) => whL t body f σ2 S2
      | some (.bk, σ2, S2) => some (.nx, σ2, S2)
      | some (.rt a, σ2, S2) => some (.rt a, σ2, S2)
      | none => none
    | none => none
def sWh (t : Tv) (body : Sv) : Sv := fun σ S => whL t body 1000 σ S
theorem s_wh {X : Cx} {c : Nat → Addr} {pos : Pos} {te : Expr} {body : List Stmt} {t : Tv} {eb : Sv} (hp : PassesOwn (model X.prog X.w) X.A X.env X.xe) (ht : ET X c te t) (hb : EB X c body eb) : ES X c (.While te body [] pos) (sWh t eb) :=
  PS.imp (ps_while hp ht hb) fun E σ H h => by
    obtain ⟨ι, σa, S, o, σa', S', hL, hS, e, k⟩ := h
    refine ⟨fun m σ2 H2 => ∃ ι2 σa2 S2, Ext ι S.m H ι2 S2.m H2 ∧ RS (gX X c) ι2 S2 H2 ∧ RL X.K ι2 S2.m H2 σa2 σ2 ∧ whL t eb m σa2 S2 = some (o, σa', S'), ⟨1000, ι, σa, S, .refl .., hS, hL, e⟩, ?_⟩
    rintro m σ2 H2 ⟨ι2, σa2, S2, x2, R2, L2, e2⟩
    have k2 : Ws (gX X c) ι2 S2 H2 o σa' S' E := Ws.from x2 k
    cases m with
    | zero => cases e2
    | succ m =>
      unfold whL at e2
      split at e2
      · rename_i S3 q3
        cases e2
        exact ⟨ι2, _, S2, false, _, L2, R2, q3, fun ι4 H4 x4 R4 => iteF (k2 ι4 H4 σ2 x4 R4 (L2.mono x4))⟩
      · rename_i S3 q3
        refine ⟨ι2, σa2, S2, true, S3, L2, R2, q3, fun ι4 H4 x4 R4 => iteT ⟨fun σ3 H3 => ∃ ι3 σa3 S3, Ext ι S.m H ι3 S3.m H3 ∧ RS (gX X c) ι3 S3 H3 ∧ RL X.K ι3 S3.m H3 σa3 σ3 ∧ whL t eb m σa3 S3 = some (o, σa', S'), fun σ3 H3 h => ⟨m, Nat.lt_succ_self m, h⟩, ?_⟩⟩
        split at e2
        · rename_i σ6 S6 q6
          exact ⟨ι4, σa2, S3, .nx, σ6, S6, L2.mono x4, R4, q6, fun ι7 H7 σ7 x7 R7 L7 => ⟨ι7, σ6, S6, (x2.trans x4).trans x7, R7, L7, e2⟩⟩
        · rename_i σ6 S6 q6
          exact ⟨ι4, σa2, S3, .ct, σ6, S6, L2.mono x4, R4, q6, fun ι7 H7 σ7 x7 R7 L7 => ⟨ι7, σ6, S6, (x2.trans x4).trans x7, R7, L7, e2⟩⟩
        · rename_i σ6 S6 q6
          cases e2
          exact ⟨ι4, σa2, S3, .bk, _, _, L2.mono x4, R4, q6, fun ι7 H7 σ7 x7 R7 L7 => k2 ι7 H7 σ7 (x4.trans x7) R7 L7⟩
        · rename_i b σ6 S6 q6
          cases e2
          exact ⟨ι4, σa2, S3, .rt b, _, _, L2.mono x4, R4, q6, Wa.from x4 k2⟩
        · cases e2
      · cases e2
end Cs
/-! Z6: fields, lists, lengths, slices, chains, or, isinstance, more walks. -/
namespace Cs
open PySem PySem.Spec PyProof.Rows L2

/-! ### fields -/
def clsF (i j : Nat) : Bool := cond (Nat.blt i 3) (cond (Nat.beq i 2) (cond (Nat.beq j 2) false (Nat.blt j 11)) (Nat.blt j 11)) false
structure CK (K : PySem.W.Frag) (c : Nat → Addr) : Prop where
  cls : ∀ i, i < 3 → Cls K (c i)
  no : ∀ i j, clsF i j = true → NoAttr K (c i) (fNm j)
theorem fNm_inj : ∀ i, i < 11 → ∀ j, j < 11 → fNm i = fNm j → i = j := by decide +kernel
def lkF (f : Nat) : List (Nat × A) → Option A
  | [] => none
  | (g, a) :: r => cond (Nat.beq g f) (some a) (cond (Nat.blt g 11) (lkF f r) none)
def ptF (f : Nat) (a : A) : List (Nat × A) → Option (List (Nat × A))
  | [] => some [(f, a)]
  | (g, x) :: r => cond (Nat.beq g f) (some ((g, a) :: r)) (cond (Nat.blt g 11) (match ptF f a r with
    | some r' => some ((g, x) :: r')
    | none => none) none)
abbrev FR (K : PySem.W.Frag) (ι : Nat → Addr) (m : Nat) (H : Hp) : List (Nat × A) → List (Str × V) → Prop := Paired (fun (p : Nat × A) (q : Str × V) => fNm p.1 = q.1 ∧ RA K ι m H p.2 q.2)
theorem blt_lt {a b : Nat} (h : Nat.blt a b = true) : a < b := Nat.le_of_ble_eq_true h
theorem clsF_ok {i j : Nat} (h : clsF i j = true) : i < 3 ∧ j < 11 := by
  unfold clsF at h
  cases a : Nat.blt i 3 with
  | false => rw [a] at h; cases h
  | true =>
    rw [a] at h
    refine ⟨blt_lt a, ?_⟩
    cases b : Nat.beq i 2 with
    | false => rw [b] at h; exact blt_lt h
    | true =>
      rw [b] at h
      cases d : Nat.beq j 2 with
      | true => rw [d] at h; cases h
      | false => rw [d] at h; exact blt_lt h
theorem lkF_rel {K : PySem.W.Frag} {ι : Nat → Addr} {m : Nat} {H : Hp} {f : Nat} (hf : f < 11) : ∀ {l : List (Nat × A)} {fs : List (Str × V)} {a : A}, FR K ι m H l fs → lkF f l = some a → ∃ v, fs.lookup (fNm f) = some v ∧ RA K ι m H a v
  | [], _, _, .nil, e => by cases e
  | (g, x) :: r, (h, y) :: fs, a, .cons h1 h2, e => by
    obtain ⟨q1, q2⟩ := h1
    unfold lkF at e
    rw [beqN, cond_dec] at e
    have q1' : fNm g = h := q1
    by_cases hg : g = f
    · rw [if_pos hg] at e
      cases e
      refine ⟨y, ?_, q2⟩
      rw [← q1', hg, List.lookup_cons_self]
    · rw [if_neg hg] at e
      cases b : Nat.blt g 11 with
      | false => rw [b] at e; cases e
      | true =>
        rw [b] at e
        obtain ⟨v, h3, h4⟩ := lkF_rel hf h2 e
        refine ⟨v, ?_, h4⟩
        have ne : (fNm f == h) = false := by
          rw [beq_eq_false_iff_ne, ← q1']
          exact fun z => hg (fNm_inj g (blt_lt b) f hf z.symm)
        rw [List.lookup_cons, ne]
        exact h3
theorem ptF_rel {K : PySem.W.Frag} {ι : Nat → Addr} {m : Nat} {H : Hp} {f : Nat} (hf : f < 11) {a : A} {v : V} (ra : RA K ι m H a v) : ∀ {l l' : List (Nat × A)} {fs : List (Str × V)}, FR K ι m H l fs → ptF f a l = some l' → FR K ι m H l' (putF (fNm f) v fs)
  | [], _, _, .nil, e => by
    cases e
    exact .cons ⟨rfl, ra⟩ .nil
  | (g, x) :: r, l', (h, y) :: fs, .cons h1 h2, e => by
    obtain ⟨q1, q2⟩ := h1
    unfold ptF at e
    rw [beqN, cond_dec] at e
    have q1' : fNm g = h := q1
    unfold putF
    by_cases hg : g = f
    · rw [if_pos hg] at e
      cases e
      rw [if_pos (by rw [← q1', hg])]
      exact .cons ⟨q1, ra⟩ h2
    · rw [if_neg hg] at e
      cases b : Nat.blt g 11 with
      | false => rw [b] at e; cases e
      | true =>
        rw [b] at e
        have ne : ¬ h = fNm f := by
          rw [← q1']
          exact fun z => hg (fNm_inj g (blt_lt b) f hf z)
        rw [if_neg ne]
        cases q : ptF f a r with
        | none => rw [q] at e; cases e
        | some r' =>
          rw [q] at e
          cases e
          exact .cons ⟨q1, q2⟩ (ptF_rel hf ra h2 q)
def oFld (f : Nat) (x : A) (S : Sto) : Option (A × Sto) := match x with
  | .obj n => match S.get n with
    | some (.ins ci l) => cond (clsF ci f) (match lkF f l with
      | some a => some (a, S)
      | none => none) none
    | _ => none
  | _ => none
section
variable {X : Cx} {c : Nat → Addr} {pos : Pos}
theorem e_fld (ck : CK X.K c) (k : Nat) {e : Expr} {ev : Ev} {f : Str} (he : EE X c e ev) (hf : f = fNm k := by rfl) (hb : attributeBase e f X.env (eval e X.env) = eval e X.env := by rfl) : EE X c (.Attribute e f pos) (cUn (oFld k) ev) := by
  subst hf
  refine PE.imp (pe_fld he hb) (un_t (g := gX X c) (r := fun x H1 Q => ∃ a C dx fs v, x = .ref a ∧ H1 a = some (.ins C dx fs) ∧ Cls X.K C ∧ NoAttr X.K C (fNm k) ∧ fs.lookup (fNm k) = some v ∧ Q v H1) ?_)
  intro ι S H x v z S' Q R r e k2
  unfold oFld at e
  split at e
  · rename_i n
    split at e
    · rename_i c' l q
      cases b : clsF c' k with
      | false => rw [b] at e; cases e
      | true =>
        rw [b] at e
        cases q2 : lkF k l with
        | none => rw [q2] at e; cases e
        | some a =>
          rw [q2] at e
          cases e
          cases r with | obj hn =>
          obtain ⟨dx, fs, h1, h2⟩ := (R.ob n _ q).2
          obtain ⟨v, h3, h4⟩ := lkF_rel (clsF_ok b).2 h2 q2
          exact ⟨_, _, dx, fs, v, rfl, h1, ck.cls _ (clsF_ok b).1, ck.no _ _ b, h3, k2.here R h4⟩
    · cases e
  · cases e
def sFd (f : Nat) (eo ev : Ev) : Sv := fun σ S => match ev σ S with
  | some (a, S1) => match eo σ S1 with
    | some (.obj n, S2) => match S2.get n with
      | some (.ins c l) => cond (clsF c f) (cond (Nat.blt l.length 500) (match ptF f a l with
        | some l' => some (.nx, σ, S2.put n (.ins c l'))
        | none => none) none) none
      | _ => none
    | _ => none
  | none => none
theorem s_fld (ck : CK X.K c) (k : Nat) {o value : Expr} {eo ev : Ev} {f : Str} {pos' : Pos} (ho : EE X c o eo) (hv : EE X c value ev) (hf : f = fNm k := by rfl) (hs : swapsWith value (some (.Attribute o f pos')) pos.line X.env = pure false := by rfl) :
    ES X c (.Assign [.Attribute o f pos'] value pos) (sFd k eo ev) := by
  subst hf
  refine PS.imp (ps_fld ho hv hs) fun E σ H h => ?_
  obtain ⟨ι, σa, S, o, σa', S', hL, hS, e, k2⟩ := h
  unfold sFd at e
  split at e
  · rename_i a S1 q1
    split at e
    · rename_i n S2 q2
      split at e
      · rename_i c' l q3
        cases b : clsF c' k with
        | false => rw [b] at e; cases e
        | true =>
          rw [b] at e
          cases b2 : Nat.blt l.length 500 with
          | false => rw [b2] at e; cases e
          | true =>
            rw [b2] at e
            cases q4 : ptF k a l with
            | none => rw [q4] at e; cases e
            | some l' =>
              rw [q4] at e
              cases e
              refine ⟨ι, σa, S, a, S1, hL, hS, q1, fun ι1 H1 y x1 R1 r1 => ⟨ι1, σa, S1, _, S2, hL.mono x1, R1, q2, fun ι2 H2 x x2 R2 r2 => ?_⟩⟩
              cases r2 with | obj hn =>
              obtain ⟨dx, fs, h1, h2⟩ := (R2.ob n _ q3).2
              have hl := Paired.len h2
              refine ⟨_, _, dx, fs, rfl, h1, ck.cls _ (clsF_ok b).1, ck.no _ _ b, by have := blt_lt b2; omega, ?_⟩
              obtain ⟨R3, x3⟩ := R2.write (o := .ins c' l') (ho := .ins (c c') dx (putF (fNm k) y fs)) hn fun H' x' e' =>
                ⟨dx, _, e', ptF_rel (clsF_ok b).2 (r1.mono (x2.trans x')) (Paired.mapP h2 fun _ _ q => ⟨q.1, q.2.mono x'⟩) q4⟩
              exact k2 ι2 _ σ ((x1.trans x2).trans x3) R3 (hL.mono ((x1.trans x2).trans x3))
      · cases e
    · cases e
  · cases e
end

/-! ### lists -/
def oApp (x : A) (l : List A) (S : Sto) : Option (A × Sto) := match x with
  | .obj n => match S.get n with
    | some (.lst xs) => match l with
      | [y] => cond (few xs) (some (.dat .non, S.put n (.lst (xs ++ [y])))) none
      | _ => none
    | _ => none
  | _ => none
/-- an object, then arguments -/
def cMt (o : A → List A → Sto → Option (A × Sto)) (a : Ev) (l : Av) : Ev := fun σ S => match a σ S with
  | some (x, S1) => match l σ S1 with
    | some (xs, S2) => o x xs S2
    | none => none
  | none => none
section
variable {X : Cx} {c : Nat → Addr} {pos : Pos}
/-- the object is a list -/
def cLst (a : Ev) : Ev := fun σ S => match a σ S with
  | some (.obj n, S1) => match S1.get n with
    | some (.lst _) => some (.obj n, S1)
    | _ => none
  | _ => none
theorem line_lt : 100000 < sizeLine := by decide
theorem e_app {o e : Expr} {eo : Ev} {av : Av} {apos cpos : Pos} (ho : EE X c o eo) (ha : EA X c [e] av)
    (hbase : attributeBase o "append" X.env (eval o X.env) = eval o X.env := by rfl)
    (hfew : ((backTo cpos (starEach [e] X.env)).all (fun x => !x.1) && (backToKw cpos (keywordEach [] X.env)).all (fun x => x.1.isSome)
      && decide (([e] : List Expr).length + ([] : List Keyword).length + (if ([] : List Keyword).isEmpty then 0 else 1) < 30)) = true := by rfl)
    (hline : (apos.endLine == cpos.line) = true := by rfl) (hs : starEach [e] X.env = (false, eval e X.env) :: starEach [] X.env := by rfl) (hplain : (backTo cpos (starEach [] X.env)).any (·.1) = false := by rfl) :
    EE X c (.Call (.Attribute o "append" apos) [e] [] cpos) (cMt oApp (cLst eo) av) := by
  refine PE.imp (pe_bm PySem.F.plainAttrs_list PySem.F.slot_list_append PySem.F.type_list_append mt_append ho ha hbase hfew hline hs hplain) fun σ H Q h => ?_
  obtain ⟨ι, σa, S, z, S', hL, hS, e, k⟩ := h
  unfold cMt cLst at e
  split at e
  · rename_i x S1 q1
    split at q1
    · rename_i n S1' q1'
      split at q1
      · rename_i xs0 q0
        cases q1
        split at e
        · rename_i ys S2 q2
          refine ⟨ι, σa, S, _, _, hL, hS, q1', fun ι1 H1 v x1 R1 r1 => ?_⟩
          cases r1 with | obj hn =>
          obtain ⟨vs0, h1, _⟩ := (R1.ob n _ q0).2
          refine ⟨.inl ⟨rfl, vs0, SqL.of h1⟩, ι1, σa, _, ys, S2, hL.mono x1, R1, q2, fun ι2 H2 us x2 R2 r2 => ?_⟩
          unfold oApp at e
          dsimp only at e
          split at e
          · rename_i xs q3
            split at e
            · rename_i y
              cases b : few xs with
              | false => rw [b] at e; cases e
              | true =>
                rw [b] at e
                cases e
                cases r2 with | cons ry r0 =>
                cases r0
                obtain ⟨vs, h3, h4⟩ := (R2.ob n _ q3).2
                rw [x2.eq n hn] at h3
                have hl := Paired.len h4
                refine ⟨_, vs, _, rfl, rfl, h3, by have := few_le b; have := line_lt; omega, ?_⟩
                have hn2 : n < S2.m := (R2.ob n _ q3).1
                obtain ⟨R3, x3⟩ := R2.write (o := .lst (xs ++ [y])) (ho := .lst (vs ++ [_])) hn2 fun H' x' e' => ⟨_, e', Paired.append (RAs.mono x' h4) (.cons (ry.mono x') .nil)⟩
                rw [x2.eq n hn] at R3 x3
                exact k ι2 _ .non ((x1.trans x2).trans x3) R3 (.dat .non)
            · cases e
          · cases e
        · cases e
      · cases q1
    · cases q1
  · cases e
end
end Cs
/-! Z7: lengths, slices, chains, or, isinstance, tuple(..), int(..), more walks. -/
namespace Cs
open PySem PySem.Spec PyProof.Rows L2

/-- the items' number -/
def lenA (x : A) (S : Sto) : Option Nat := match x with
  | .dat (.tup l) => some l.length
  | .obj n => match S.get n with
    | some (.lst l) => some l.length
    | _ => none
  | _ => none
theorem lenA_ok {g : Gb} {ι : Nat → Addr} {S : Sto} {H : Hp} (R : RS g ι S H) {x : A} {v : V} {n : Nat} (r : RA g.K ι S.m H x v) (e : lenA x S = some n) : ∃ p ys, v = .ref p ∧ (SqL g.K H p ys ∨ SqT g.K H p ys) ∧ ys.length = n := by
  unfold lenA at e
  split at e
  · cases e
    cases r with | dat h => cases h with | tup h1 h2 _ =>
    exact ⟨_, _, rfl, .inr h1, h2.length.symm⟩
  · rename_i k
    split at e
    · rename_i l q
      cases e
      cases r with | obj h =>
      obtain ⟨vs, h1, h2⟩ := (R.ob k _ q).2
      exact ⟨_, vs, rfl, .inl (SqL.of h1), (Paired.len h2).symm⟩
    · cases e
  · cases e
def oLen (l : List A) (S : Sto) : Option (A × Sto) := match l with
  | [x] => match lenA x S with
    | some n => some (.dat (.int (.ofNat n)), S)
    | none => none
  | _ => none
section
variable {X : Cx} {c : Nat → Addr} {pos p : Pos}
theorem e_len {a : Expr} {av : Av} (hg : Gl X "len") (hm : X.mg "len" = none) (ha : EA X c [a] av) (he : starEach [a] X.env = (false, eval a X.env) :: starEach [] X.env := by rfl) (hpl : (backTo pos (starEach [] X.env)).any (·.1) = false := by rfl) :
    EE X c (.Call (.Name "len" p) [a] [] pos) (cArgs oLen av) := PE.imp (pe_callB call_len_seq hg hm boot_len ha (by decide) (by decide) he hpl) (args_t (r := fun xs H Q => ∃ p ys, xs = [.ref p] ∧ (SqL X.K H p ys ∨ SqT X.K H p ys) ∧ Q (.int ys.length) H) (by
  intro ι S H x v z S' Q R r e k
  unfold oLen at e
  split at e
  · rename_i a
    split at e
    · rename_i n q
      cases e
      cases r with | cons r1 r2 =>
      cases r2
      obtain ⟨p, ys, h1, h2, h3⟩ := lenA_ok R r1 q
      subst h1 h3
      exact ⟨p, ys, rfl, h2, k.here R (.dat (.int _))⟩
    · cases e
  · cases e))

/-! ### slices -/
/-- t[1:], a tuple of one thing at least -/
def oTl (x : A) (S : Sto) : Option (A × Sto) := match x with
  | .dat (.tup (_ :: l)) => cond (tall (.tup l) 30) (some (.dat (.tup l), S)) none
  | _ => none
theorem e_tl {e : Expr} {ev : Ev} {p1 p2 : Pos} {j : Nat} (he : EE X c e ev) : EE X c (.Subscript e (.Slice (some (.Constant (.int 1) j p1)) none none p2) pos) (cUn oTl ev) :=
  PE.imp (pe_slice sl_tup he (po_some pe_int) po_none) (un_t (g := gX X c) (r := fun x H1 Q => ∃ i, V.int 1 = .int i ∧ rSlT X.K x (some i) none H1 Q) (by
    intro ι S H x v z S' Q R r e k
    unfold oTl at e
    split at e
    · rename_i d l
      cases f : tall (.tup l) 30 with
      | false => rw [f] at e; cases e
      | true =>
        rw [f] at e
        cases e
        cases r with | dat h => cases h with | tup h1 h2 ht =>
        cases h2 with | @cons _ w _ ws hd hr =>
        have e1 : HT.sIx (w :: ws).length 0 (some ((1 : Nat) : Int)) = 1 := by rw [HT.sIx_nat, List.length_cons]; omega
        refine ⟨1, rfl, _, _, rfl, h1, fun h => ?_, fun p hp => ?_⟩
        · have e1' : HT.sIx (w :: ws).length 0 (some 1) = 1 := e1
          rw [e1'] at h
          exact absurd h.1 (by omega)
        · have e2 : cutV (w :: ws) (some 1) none = ws := by
            unfold cutV
            have e1' : HT.sIx (w :: ws).length 0 (some 1) = 1 := e1
            rw [e1', HT.sIx_none, List.drop_one, List.tail_cons, List.length_cons]
            exact List.take_of_length_le (by omega)
          rw [e2]
          obtain ⟨R1, x1⟩ := R.fresh (o := .tup ws) hp
          exact k ι _ _ x1 R1 (.dat (.tup (SqT.of upd_same) (RDs.mono x1.kp hr) f))
    · cases e))
/-- xs[:n] -/
def oHd (x y : A) (S : Sto) : Option (A × Sto) := match x with
  | .obj n => match S.get n with
    | some (.lst l) => match y with
      | .dat (.int (.ofNat i)) => S.new (.lst (l.take i))
      | _ => none
    | _ => none
  | _ => none
theorem Paired.take {α β : Type} {R : α → β → Prop} : ∀ {xs : List α} {us : List β} (n : Nat), Paired R xs us → Paired R (xs.take n) (us.take n)
  | _, _, 0, _ => by simp; exact .nil
  | _, _, _ + 1, .nil => .nil
  | _, _, n + 1, .cons r t => .cons r (Paired.take n t)
theorem e_hd {e i : Expr} {ev iv : Ev} {p2 : Pos} (he : EE X c e ev) (hi : EE X c i iv) : EE X c (.Subscript e (.Slice none (some i) none p2) pos) (cBin oHd ev iv) :=
  PE.imp (pe_slice sl_list he po_none (po_some hi)) fun σ H Q h => by
    have h' := bin_tOp (g := gX X c) (r := fun x y H1 Q => ∃ i, y = .int i ∧ rSlL X.K x none (some i) H1 Q) (o := oHd) (by
      intro ι S H x y v u z S' Q R rx ry e k
      unfold oHd at e
      split at e
      · rename_i n
        split at e
        · rename_i l q
          split at e
          · rename_i i
            cases ry with | dat rb =>
            cases rb
            cases rx with | obj hn =>
            obtain ⟨vs, h1, h2⟩ := (R.ob n _ q).2
            refine ⟨_, rfl, _, vs, rfl, SqL.of h1, fun p hp => ?_⟩
            have e2 : cutV vs none (some (Int.ofNat i)) = vs.take i := by
              unfold cutV
              have e1 : HT.sIx vs.length vs.length (some (Int.ofNat i)) = min i vs.length := HT.sIx_nat ..
              rw [HT.sIx_none, e1, List.drop_zero, Nat.sub_zero]
              rw [← List.take_eq_take_min]
            rw [e2]
            obtain ⟨ι', R1, x1, r1⟩ := R.new1 (ho := .lst (vs.take i)) e hp fun ι' x' => ⟨_, upd_same, RAs.mono x' (Paired.take i h2)⟩
            exact k ι' _ _ x1 R1 r1
          · cases e
        · cases e
      · cases e) σ H Q h
    exact h'

/-! ### a op b op c -/
def cCh (o o' : A → A → Sto → Option (A × Sto)) (a b d : Ev) : Ev := fun σ S => match a σ S with
  | some (x, S1) => match b σ S1 with
    | some (y, S2) => match o x y S2 with
      | some (.bl true, S3) => match d σ S3 with
        | some (w, S4) => o' y w S4
        | none => none
      | some (.bl false, S3) => some (.bl false, S3)
      | _ => none
    | none => none
  | none => none
theorem ch_t {g : Gb} {r r' : R2} {o o' : A → A → Sto → Option (A × Sto)} {ea eb ed : Ev} (ho : OpOk g r o) (ho' : OpOk g r' o') (σ : St) (H : Hp) (Q : VK) (h : teOf g (cCh o o' ea eb ed) σ H Q) : tChain r r' (teOf g ea) (teOf g eb) (teOf g ed) σ H Q := by
  obtain ⟨ι, σa, S, z, S', hL, hS, e, k⟩ := h
  unfold cCh at e
  split at e
  · rename_i x S1 q1
    split at e
    · rename_i y S2 q2
      refine ⟨ι, σa, S, x, S1, hL, hS, q1, fun ι1 H1 v x1 R1 r1 => ⟨ι1, σa, S1, y, S2, hL.mono x1, R1, q2, fun ι2 H2 u x2 R2 r2 => ?_⟩⟩
      split at e
      · rename_i S3 q3
        split at e
        · rename_i w' S4 q4
          refine ho ι2 S2 H2 x y v u _ S3 _ R2 (r1.mono x2) r2 q3 fun ι3 H3 v3 x3 R3 r3 => ?_
          cases r3
          refine ⟨true, rfl, iteT ?_⟩
          exact ⟨ι3, σa, S3, w', S4, hL.mono ((x1.trans x2).trans x3), R3, q4, fun ι4 H4 v4 x4 R4 r4 => ho' ι4 S4 H4 y w' u v4 z S' Q R4 (r2.mono (x3.trans x4)) r4 e (Wa.from (((x1.trans x2).trans x3).trans x4) k)⟩
        · cases e
      · rename_i S3 q3
        cases e
        refine ho ι2 S2 H2 x y v u _ _ _ R2 (r1.mono x2) r2 q3 fun ι3 H3 v3 x3 R3 r3 => ?_
        cases r3
        exact ⟨false, rfl, iteF (k ι3 H3 _ ((x1.trans x2).trans x3) R3 (.bl false))⟩
      · cases e
    · cases e
  · cases e
theorem e_ch {op op' : CmpOp} {r r' : R2} {o o' : A → A → Sto → Option (A × Sto)} {a b d : Expr} {ea eb ed : Ev} (hr : OpR X (compareOp op) r) (ho : OpOk (gX X c) r o) (hr' : OpR X (compareOp op') r') (ho' : OpOk (gX X c) r' o') (ha : EE X c a ea) (hb : EE X c b eb) (hd : EE X c d ed)
    (hm : lastMarks [op, op'] [b, d] = false := by with_unfolding_all rfl) : EE X c (.Compare a [op, op'] [b, d] pos) (cCh o o' ea eb ed) := PE.imp (pe_chain hr hr' ha hb hd hm) (ch_t ho ho')
theorem b_ch {op op' : CmpOp} {r r' : R2} {o o' : A → A → Sto → Option (A × Sto)} {a b d : Expr} {ea eb ed : Ev} (hr : OpR X (compareOp op) r) (ho : OpOk (gX X c) r o) (hr' : OpR X (compareOp op') r') (ho' : OpOk (gX X c) r' o') (ha : EE X c a ea) (hb : EE X c b eb) (hd : EE X c d ed)
    (hm : lastMarks [op, op'] [b, d] = false := by with_unfolding_all rfl) : ET X c (.Compare a [op, op'] [b, d] pos) (bV (cCh o o' ea eb ed)) := PT.imp (pt_chain hr hr' ha hb hd hm) fun σ H Q h => by
  obtain ⟨ι, σa, S, z, S', hL, hS, e, k⟩ := h
  refine ch_t (g := gX X c) ho ho' σ H _ ?_
  unfold bV at e
  split at e
  · rename_i w S1 q
    cases e
    exact ⟨ι, σa, S, _, _, hL, hS, q, fun ι1 H1 v x1 R1 r1 => by
      cases r1
      exact ⟨_, rfl, k ι1 H1 x1 R1⟩⟩
  · cases e

/-! ### a or b: None or a tuple -/
def cOr (a b : Ev) : Ev := fun σ S => match a σ S with
  | some (.dat .non, S1) => b σ S1
  | some (.dat (.tup (d :: l)), S1) => some (.dat (.tup (d :: l)), S1)
  | _ => none
theorem e_or {a b : Expr} {ea eb : Ev} (ha : EE X c a ea) (hb : EE X c b eb) : EE X c (.BoolOp .Or [a, b] pos) (cOr ea eb) := PE.imp (pe_orT ha (pe_one hb)) fun σ H Q h => by
  obtain ⟨ι, σa, S, z, S', hL, hS, e, k⟩ := h
  unfold cOr at e
  split at e
  · rename_i S1 q
    refine ⟨ι, σa, S, _, S1, hL, hS, q, fun ι1 H1 v x1 R1 r1 => ?_⟩
    cases r1 with | dat h =>
    cases h
    exact ⟨false, rfl, iteF ⟨ι1, σa, S1, z, S', hL.mono x1, R1, e, Wa.from x1 k⟩⟩
  · rename_i d l S1 q
    cases e
    refine ⟨ι, σa, S, _, _, hL, hS, q, fun ι1 H1 v x1 R1 r1 => ?_⟩
    have k' := k ι1 H1 v x1 R1 r1
    cases r1 with | dat h =>
    cases h with | @tup p vs _ h1 h2 h3 =>
    refine ⟨true, .inr (.inl ⟨vs, h1, ?_⟩), iteT k'⟩
    cases h2
    rfl
  · cases e

/-! ### tuple(xs), int(b) -/
def oTof (l : List A) (S : Sto) : Option (A × Sto) := match l with
  | [.obj n] => match S.get n with
    | some (.lst xs) => match datas xs with
      | some d => cond (tall (.tup d) 30) (some (.dat (.tup d), S)) none
      | none => none
    | _ => none
  | [.dat (.tup d)] => some (.dat (.tup d), S)
  | _ => none
theorem e_tof {a : Expr} {av : Av} (hg : Gl X "tuple") (hm : X.mg "tuple" = none) (ha : EA X c [a] av) (he : starEach [a] X.env = (false, eval a X.env) :: starEach [] X.env := by rfl) (hpl : (backTo pos (starEach [] X.env)).any (·.1) = false := by rfl) :
    EE X c (.Call (.Name "tuple" p) [a] [] pos) (cArgs oTof av) := PE.imp (pe_callTy call_tuple_of hg hm PyProof.Rows.boot_tuple ha (by decide) (by decide) he hpl)
  (args_t (r := fun xs H Q => ∃ p ys, xs = [.ref p] ∧ ((SqL X.K H p ys ∧ ∀ l, H l = none → Q (.ref l) (upd H l (.tup ys))) ∨ (SqT X.K H p ys ∧ Q (.ref p) H))) (by
  intro ι S H x v z S' Q R r e k
  unfold oTof at e
  split at e
  · rename_i n
    split at e
    · rename_i xs q
      split at e
      · rename_i d q2
        cases f : tall (.tup d) 30 with
        | false => rw [f] at e; cases e
        | true =>
          rw [f] at e
          cases e
          cases r with | cons r1 r2 =>
          cases r2
          cases r1 with | obj hn =>
          obtain ⟨vs, h1, h2⟩ := (R.ob n _ q).2
          refine ⟨_, vs, rfl, .inl ⟨SqL.of h1, fun p hp => ?_⟩⟩
          obtain ⟨R1, x1⟩ := R.fresh (o := .tup vs) hp
          exact k ι _ _ x1 R1 (.dat (.tup (SqT.of upd_same) (RDs.mono x1.kp (datas_rd q2 h2)) f))
      · cases e
    · cases e
  · rename_i d
    cases e
    cases r with | cons r1 r2 =>
    cases r2
    have k' := k.here R r1
    cases r1 with | dat h =>
    cases h with | tup h1 h2 ht =>
    exact ⟨_, _, rfl, .inr ⟨h1, k'⟩⟩
  · cases e))
def oI1 (l : List A) (S : Sto) : Option (A × Sto) := match l with
  | [.bl true] => some (.dat (.int 1), S)
  | [.bl false] => some (.dat (.int 0), S)
  | [.dat (.int i)] => some (.dat (.int i), S)
  | _ => none
theorem e_i1 {a : Expr} {av : Av} (hg : Gl X "int") (hm : X.mg "int" = none) (ha : EA X c [a] av) (he : starEach [a] X.env = (false, eval a X.env) :: starEach [] X.env := by rfl) (hpl : (backTo pos (starEach [] X.env)).any (·.1) = false := by rfl) :
    EE X c (.Call (.Name "int" p) [a] [] pos) (cArgs oI1 av) := PE.imp (pe_callTy call_int1 hg hm PyProof.Rows.boot_int ha (by decide) (by decide) he hpl)
  (args_t (r := fun xs H Q => (∃ i, xs = [.int i] ∧ Q (.int i) H) ∨ ∃ k, xs = [.bl k] ∧ Q (.int (if k then 1 else 0)) H) (by
  intro ι S H x v z S' Q R r e k
  unfold oI1 at e
  split at e
  · cases e
    cases r with | cons r1 r2 =>
    cases r2
    cases r1
    exact .inr ⟨true, rfl, k.here R (.dat (.int 1))⟩
  · cases e
    cases r with | cons r1 r2 =>
    cases r2
    cases r1
    exact .inr ⟨false, rfl, k.here R (.dat (.int 0))⟩
  · cases e
    cases r with | cons r1 r2 =>
    cases r2
    cases r1 with | dat h =>
    cases h
    exact .inl ⟨_, rfl, k.here R (.dat (.int _))⟩
  · cases e))

/-! ### isinstance -/
/-- 0: tuple, 1: int, 2: bool -/
def isiA (T : Nat) : A → Option Bool
  | .bl _ => some (not (Nat.beq T 0))
  | .dat .non => some false
  | .dat (.int _) => some (Nat.beq T 1)
  | .dat (.str _) => some false
  | .dat (.tup _) => some (Nat.beq T 0)
  | .obj _ => none
def isiT : Nat → String
  | 0 => "tuple"
  | 1 => "int"
  | _ => "bool"
def oIsi (T : Nat) (x : A) (S : Sto) : Option (A × Sto) := match isiA T x with
  | some b => some (.bl b, S)
  | none => none
theorem kit_all : ∀ T, T < 3 → kitB "bool" (isiT T) = some (not (Nat.beq T 0)) ∧ kitB "NoneType" (isiT T) = some false ∧ kitB "int" (isiT T) = some (Nat.beq T 1) ∧ kitB "str" (isiT T) = some false ∧ kitB "tuple" (isiT T) = some (Nat.beq T 0) := by decide +kernel
theorem isi_ok {g : Gb} {T : Nat} (hT : T < 3) : UnOk g (fun x H Q => rIsi g.K [x, .ty (isiT T)] H Q) (oIsi T) := by
  intro ι S H x v z S' Q R r e k
  obtain ⟨k1, k2, k3, k4, k5⟩ := kit_all T hT
  unfold oIsi at e
  split at e
  · rename_i b q
    cases e
    have fin : ∀ {t}, TyX g.K H v (.type t) → kitB t (isiT T) = some b → rIsi g.K [v, .ty (isiT T)] H Q := fun h1 h2 => ⟨v, .ty (isiT T), _, _, b, rfl, .ty _, h1, kit_ty h2, k.here R (.bl b)⟩
    unfold isiA at q
    split at q
    · cases q
      cases r
      exact fin (.base (.bl _)) k1
    · cases q
      cases r with | dat h =>
      cases h
      exact fin (.base .non) k2
    · cases q
      cases r with | dat h =>
      cases h
      exact fin (.base (.int _)) k3
    · cases q
      cases r with | dat h =>
      cases h
      exact fin (.base (.str _)) k4
    · cases q
      cases r with | dat h =>
      cases h with | tup h1 h2 h3 =>
      rcases h1 with (h | ⟨o, h⟩) | ⟨o, its, n, h, h', _⟩
      · exact fin (.base (.tup h)) k5
      · exact fin (.fTuple h) k5
      · exact fin (.kTuple h h') k5
    · cases q
  · cases e
theorem e_isi (T : Nat) {x : Str} {a : Expr} {ev : Ev} {p2 : Pos} (hT : T < 3) (hx : bootBuiltins x = some (.type (isiT T))) (hg : Gl X "isinstance") (hm : X.mg "isinstance" = none) (hgx : Gl X x) (hmx : X.mg x = none) (ha : EE X c a ev)
    (hn : x ≠ "__name__" := by decide) (hd : (x == ("__debug__" : Str)) = false := by decide)
    (he : starEach [a, .Name x p2] X.env = (false, eval a X.env) :: starEach [.Name x p2] X.env := by rfl) (hpl : (backTo pos (starEach [.Name x p2] X.env)).any (·.1) = false := by rfl)
    (he2 : starEach [.Name x p2] X.env = (false, eval (.Name x p2) X.env) :: starEach [] X.env := by rfl) :
    EE X c (.Call (.Name "isinstance" p) [a, .Name x p2] [] pos) (cUn (oIsi T) ev) :=
  PE.imp (pe_callB call_isi hg hm boot_isinstance (pa_cons ha (pa_cons (pe_bltn (v := .ty (isiT T)) hgx hmx hx rfl hn hd) pa_nil he2) he) (by decide) (by decide) he hpl) (un_t (g := gX X c) (isi_ok hT))
end

/-! ### range(a, b, -1), enumerate(list) -/
def nR3 (a : Av) : Nv := fun σ S => match a σ S with
  | some ([.dat (.int i), .dat (.int j), .dat (.int (-1))], S1) => cond (small i) (cond (small j) (some (.rng i (-1) (i - j).toNat, S1)) none) none
  | _ => none
section
variable {X : Cx} {c : Nat → Addr} {pos p tpos : Pos} {tg : Expr}
theorem i_r3 {a b d : Expr} {av : Av} (hg : Gl X "range") (hm : X.mg "range" = none) (ha : EA X c [a, b, d] av)
    (hs : starEach [a, b, d] X.env = (false, eval a X.env) :: starEach [b, d] X.env := by rfl) (hpl : (backTo pos (starEach [b, d] X.env)).any (·.1) = false := by rfl) :
    EI X c tg (.Call (.Name "range" p) [a, b, d] [] pos) (nR3 av) := PI.imp (pi_range3 hg hm ha hs hpl) fun σ H Q h => by
  obtain ⟨ι, σa, S, it, S', hL, hS, e, k⟩ := h
  unfold nR3 at e
  split at e
  · rename_i i j S1 q
    cases f1 : small i with
    | false => rw [f1] at e; cases e
    | true =>
      cases f : small j with
      | false => rw [f1, f] at e; cases e
      | true =>
        rw [f1, f] at e
        cases e
        refine ⟨ι, σa, S, _, _, hL, hS, q, fun ι1 H1 v x1 R1 r1 => ?_⟩
        cases r1 with | cons r2 r3 =>
        cases r3 with | cons r4 r5 =>
        cases r5 with | cons r6 r7 =>
        cases r7
        cases r2 with | dat rd =>
        cases rd
        cases r4 with | dat rd =>
        cases rd
        cases r6 with | dat rd =>
        cases rd
        obtain ⟨b1, b2⟩ := small_of f
        obtain ⟨b3, b4⟩ := small_of f1
        exact ⟨i, j, -1, (i - j).toNat, rfl, RgC.neg (by omega) (by omega) (by omega) (by omega), k ι1 H1 _ x1 R1 (itok_rng _ (fun _ _ h => h) (fun _ _ h => h) fun n H x H' h => h)⟩
  · cases e
def nEl (a : Av) : Nv := fun σ S => match a σ S with
  | some ([.obj n], S1) => match S1.get n with
    | some (.lst _) => some (.enl n, S1)
    | _ => none
  | _ => none
theorem itok_enl {g : Gb} {ι : Nat → Addr} {S : Sto} {H : Hp} (R : RS g ι S H) {n : Nat} (hn : n < S.m) : ItOk g (.enl n) (Ite g.K (ι n)) ι S H := by
  intro ι' S' H' i x R'
  have e0 := x.eq n hn
  refine ⟨fun e => ?_, fun a e => ?_⟩
  · unfold nxt at e
    dsimp only at e
    split at e
    · rename_i l q
      obtain ⟨vs, h1, h2⟩ := (R'.ob n _ q).2
      rw [e0] at h1
      split at e
      · rename_i d q2
        cases f : tall d 29 with
        | false => rw [f] at e; cases e
        | true => rw [f] at e; cases e
      · cases e
      · rename_i q2
        refine ⟨vs, SqL.of h1, ?_⟩
        rw [← Paired.len h2]
        exact List.getElem?_eq_none_iff.mp q2
    · cases e
  · unfold nxt at e
    dsimp only at e
    split at e
    · rename_i l q
      obtain ⟨vs, h1, h2⟩ := (R'.ob n _ q).2
      rw [e0] at h1
      split at e
      · rename_i d q2
        cases f : tall d 29 with
        | false => rw [f] at e; cases e
        | true =>
          rw [f] at e
          cases e
          obtain ⟨y, h3, h4⟩ := Paired.get h2 q2
          refine ⟨⟨vs, y, SqL.of h1, h3⟩, fun z H2 hy => ?_⟩
          obtain ⟨T, y', rfl, hT, rfl, hz⟩ := hy
          have e3 := hz vs (SqL.of h1)
          rw [h3] at e3
          cases e3
          obtain ⟨R1, x1⟩ := R'.fresh (o := .tup [.int (i : Nat), y]) hT
          refine ⟨x1, R1, .dat (.tup (SqT.of upd_same) (.cons (.int _) (.cons ?_ .nil)) ?_)⟩
          · cases h4 with | dat rd => exact RD.mono x1.kp rd
          · show talls [.int (.ofNat i), d] 29 = true
            unfold talls talls talls
            rw [f]
            rfl
      · cases e
      · cases e
    · cases e
theorem i_el {e : Expr} {av : Av} {elts : List Expr} {kk : Nat} (hg : Gl X "enumerate") (hm : X.mg "enumerate" = none) (ha : EA X c [e] av) (hs : starEach [e] X.env = [(false, eval e X.env)] := by rfl) :
    EI X c (.Tuple elts kk tpos) (.Call (.Name "enumerate" p) [e] [] pos) (nEl av) := PI.imp (pi_enum hg hm ha hs) fun σ H Q h => by
  obtain ⟨ι, σa, S, it, S', hL, hS, e, k⟩ := h
  unfold nEl at e
  split at e
  · rename_i n S1 q
    split at e
    · rename_i l q1
      cases e
      refine ⟨ι, σa, S, _, _, hL, hS, q, fun ι1 H1 v x1 R1 r1 => ?_⟩
      cases r1 with | cons r2 r3 =>
      cases r3
      cases r2 with | obj hn =>
      obtain ⟨vs, h1, h2⟩ := (R1.ob n _ q1).2
      exact ⟨_, vs, rfl, SqL.of h1, k ι1 H1 _ x1 R1 (itok_enl R1 hn)⟩
    · cases e
  · cases e
end
end Cs
/-! Z8: dicts. -/
namespace Cs
open PySem PySem.Spec PyProof.Rows L2

/-! ### tables of data -/
def lkD (d : D) : List (D × A) → Option A
  | [] => none
  | (k, a) :: r => cond (D.beq k d) (some a) (lkD d r)
def rpD (d : D) (a : A) : List (D × A) → List (D × A)
  | [] => []
  | (k, x) :: r => cond (D.beq k d) ((k, a) :: rpD d a r) ((k, x) :: rpD d a r)
def ptD (d : D) (a : A) (l : List (D × A)) : List (D × A) := match lkD d l with
  | some _ => rpD d a l
  | none => l ++ [(d, a)]
theorem keyOf_inj {a b : D} {k : Key} (h : keyOf a = some k) (h' : keyOf b = some k) : a = b := by
  cases a with
  | non => cases h
  | tup l => cases h
  | int i => cases b with
    | non => cases h'
    | tup l => cases h'
    | int j =>
      cases h
      cases h'
      rfl
    | str r =>
      cases h
      cases h'
  | str l => cases b with
    | non => cases h'
    | tup l => cases h'
    | int j =>
      cases h
      cases h'
    | str r =>
      cases h
      have e : sOf r = sOf l := Sum.inr.inj (Option.some.inj h')
      rw [sOf_inj e]
mutual
theorem nk_inj : ∀ {a b : D}, nk a = nk b → a = b
  | .non, .non, _ => rfl
  | .int i, .int j, h => by simp [nk] at h; rw [h]
  | .str l, .str r, h => by
    have e : sOf l = sOf r := by simpa [nk] using h
    rw [sOf_inj e]
  | .tup l, .tup r, h => by
    have e : nks l = nks r := by simpa [nk] using h
    rw [nks_inj e]
  | .non, .int _, h | .non, .str _, h | .non, .tup _, h => by simp [nk] at h
  | .int _, .non, h | .int _, .str _, h | .int _, .tup _, h => by simp [nk] at h
  | .str _, .non, h | .str _, .int _, h | .str _, .tup _, h => by simp [nk] at h
  | .tup _, .non, h | .tup _, .int _, h | .tup _, .str _, h => by simp [nk] at h
theorem nks_inj : ∀ {a b : List D}, nks a = nks b → a = b
  | [], [], _ => rfl
  | x :: a, y :: b, h => by
    simp only [nks] at h
    injection h with h1 h2
    rw [nk_inj h1, nks_inj h2]
  | [], _ :: _, h => by simp [nks] at h
  | _ :: _, [], h => by simp [nks] at h
end
theorem beq_f {a b : D} (h : a ≠ b) : D.beq a b = false := by
  cases q : D.beq a b with
  | false => rfl
  | true => exact absurd (D.beq_iff.mp q) h
theorem beq_t (a : D) : D.beq a a = true := D.beq_iff.mpr rfl

section
variable {K : PySem.W.Frag} {ι : Nat → Addr} {m : Nat} {H : Hp}
abbrev KR (K : PySem.W.Frag) (ι : Nat → Addr) (m : Nat) (H : Hp) : List (D × A) → List (Key × V) → Prop := Paired (fun (p : D × A) (q : Key × V) => keyOf p.1 = some q.1 ∧ RA K ι m H p.2 q.2)
abbrev NR (K : PySem.W.Frag) (ι : Nat → Addr) (m : Nat) (H : Hp) : List (D × A) → List (NestedKey × Addr × Value) → Prop :=
  Paired (fun (p : D × A) (q : NestedKey × Addr × Value) => nk p.1 = q.1 ∧ (tall p.1 8 = true ∧ RD K H p.1 (.ref q.2.1)) ∧ ∃ v, RelV v q.2.2 ∧ RA K ι m H p.2 v)
theorem KR.lk {d : D} {k : Key} (hd : keyOf d = some k) : ∀ {l : List (D × A)} {kvs : List (Key × V)}, KR K ι m H l kvs → (∃ a v, lkD d l = some a ∧ valV kvs k = some v ∧ RA K ι m H a v) ∨ (lkD d l = none ∧ valV kvs k = none)
  | _, _, .nil => .inr ⟨rfl, rfl⟩
  | (j, a) :: r, (j', v) :: s, .cons h t => by
    obtain ⟨h1, h2⟩ := h
    by_cases e : j = d
    · subst e
      have e' : j' = k := by
        have : some j' = some k := h1.symm.trans hd
        exact Option.some.inj this
      refine .inl ⟨a, v, ?_, valV_pos e', h2⟩
      rw [lkD, beq_t]
      rfl
    · have e' : ¬ j' = k := fun z => e (keyOf_inj (by rw [h1, z]) hd)
      rw [lkD, beq_f e, valV_neg e']
      exact KR.lk hd t
theorem KR.rp {d : D} {k : Key} (hd : keyOf d = some k) {a : A} {v : V} (ra : RA K ι m H a v) : ∀ {l : List (D × A)} {kvs : List (Key × V)}, KR K ι m H l kvs → KR K ι m H (rpD d a l) (kvs.map fun kv => if kv.1 = k then (kv.1, v) else kv)
  | _, _, .nil => .nil
  | (j, x) :: r, (j', y) :: s, .cons h t => by
    obtain ⟨h1, h2⟩ := h
    rw [List.map_cons]
    by_cases e : j = d
    · subst e
      have e' : j' = k := by
        have : some j' = some k := h1.symm.trans hd
        exact Option.some.inj this
      rw [rpD, beq_t, cond_true, if_pos e']
      exact .cons ⟨h1, ra⟩ (KR.rp hd ra t)
    · have e' : ¬ j' = k := fun z => e (keyOf_inj (by rw [h1, z]) hd)
      rw [rpD, beq_f e, cond_false, if_neg e']
      exact .cons ⟨h1, h2⟩ (KR.rp hd ra t)
theorem KR.put {d : D} {k : Key} (hd : keyOf d = some k) {a : A} {v : V} (ra : RA K ι m H a v) {l : List (D × A)} {kvs : List (Key × V)} (h : KR K ι m H l kvs) : KR K ι m H (ptD d a l) (putK kvs k v) := by
  unfold ptD putK
  rw [valV_any]
  rcases h.lk hd with ⟨a', v', e1, e2, _⟩ | ⟨e1, e2⟩
  · rw [e1, e2, if_pos (by rfl)]
    exact h.rp hd ra
  · rw [e1, e2, if_neg (by simp)]
    exact Paired.append h (.cons ⟨hd, ra⟩ .nil)
theorem NR.lk {d : D} : ∀ {l : List (D × A)} {xs : List (NestedKey × Addr × Value)}, NR K ι m H l xs → (∃ a p u v, lkD d l = some a ∧ atKey xs (nk d) = some (p, u) ∧ RelV v u ∧ RA K ι m H a v) ∨ (lkD d l = none ∧ atKey xs (nk d) = none)
  | _, _, .nil => .inr ⟨rfl, rfl⟩
  | (j, a) :: r, (j', p, u) :: s, .cons h t => by
    obtain ⟨h1, h2, v, h3, h4⟩ := h
    by_cases e : j = d
    · subst e
      have e' : j' = nk j := h1.symm
      refine .inl ⟨a, p, u, v, ?_, ?_, h3, h4⟩
      · rw [lkD, beq_t]
        rfl
      · simp [atKey, e']
    · have e' : ¬ j' = nk d := fun z => e (nk_inj (by rw [← z]; exact h1))
      have e2 : atKey ((j', p, u) :: s) (nk d) = atKey s (nk d) := by simp [atKey, List.find?_cons, e']
      rw [lkD, beq_f e, e2]
      exact NR.lk t
theorem NR.rp {d : D} {a : A} {u : Value} {v : V} (hv : RelV v u) (ra : RA K ι m H a v) : ∀ {l : List (D × A)} {xs : List (NestedKey × Addr × Value)}, NR K ι m H l xs → NR K ι m H (rpD d a l) (xs.map (putAt (nk d) u))
  | _, _, .nil => .nil
  | (j, x) :: r, (j', p, w') :: s, .cons h t => by
    obtain ⟨h1, h2, h3⟩ := h
    rw [List.map_cons]
    by_cases e : j = d
    · subst e
      have e' : j' = nk j := h1.symm
      rw [rpD, beq_t, cond_true, putAt, if_pos e']
      exact .cons ⟨h1, h2, v, hv, ra⟩ (NR.rp hv ra t)
    · have e' : ¬ j' = nk d := fun z => e (nk_inj (by rw [← z]; exact h1))
      rw [rpD, beq_f e, cond_false, putAt, if_neg e']
      exact .cons ⟨h1, h2, h3⟩ (NR.rp hv ra t)
theorem NR.put {d : D} {q : Addr} {a : A} {u : Value} {v : V} (t8 : tall d 8 = true) (hq : RD K H d (.ref q)) (hv : RelV v u) (ra : RA K ι m H a v) {l : List (D × A)} {xs : List (NestedKey × Addr × Value)} (h : NR K ι m H l xs) : NR K ι m H (ptD d a l) (storedH xs (nk d) q u) := by
  unfold ptD storedH
  rcases h.lk (d := d) with ⟨a', p', u', v', e1, e2, _⟩ | ⟨e1, e2⟩
  · rw [e1, e2, if_pos (by rfl)]
    exact h.rp hv ra
  · rw [e1, e2, if_neg (by simp)]
    exact Paired.append h (.cons ⟨rfl, ⟨t8, hq⟩, v, hv, ra⟩ .nil)
/-- the keys are in place -/
def KeysOk (K : PySem.W.Frag) (H : Hp) (xs : List (NestedKey × Addr × Value)) : Prop := ∀ x ∈ xs, ∃ d, nk d = x.1 ∧ tall d 8 = true ∧ RD K H d (.ref x.2.1)
theorem NR.keys : ∀ {l : List (D × A)} {xs : List (NestedKey × Addr × Value)}, NR K ι m H l xs → KeysOk K H xs
  | _, _, .nil => fun x hx => (by simp at hx)
  | (j, a) :: r, y :: s, .cons h t => fun x hx => by
    rcases List.mem_cons.mp hx with e | e
    · subst e
      exact ⟨j, h.1, h.2.1.1, h.2.1.2⟩
    · exact NR.keys t x e
end

/-! ### keys, in the machine -/
section
variable {X : Cx} {pins : List (Addr × Obj)} {σ : St} {H : Hp} {s : Shared}
mutual
theorem nested_is (I : Inv X pins σ H s) : ∀ {d : D} {v : V} {u : Value}, RD X.K H d v → RelV v u → NestedIs s.heap (nk d) u
  | .non, _, _, .non, e => by
    cases e
    exact .none
  | .int i, _, _, .int _, e => by
    obtain ⟨t, rfl⟩ := e
    exact .int i t
  | .str l, _, _, .str _ _, e => by
    obtain ⟨t, rfl⟩ := e
    exact .text _ t
  | .tup l, .ref p, _, .tup h r _, e => by
    cases e
    obtain ⟨its, rv, ⟨o, h1, h2, n, h3⟩, _⟩ := I.tuple h
    exact .tup h1 h2 h3 (by
      have e : its.toArray.toList = its := by simp
      rw [e]
      exact nested_all I r rv)
theorem nested_all (I : Inv X pins σ H s) : ∀ {l : List D} {vs : List V} {us : List Value}, RDs X.K H l vs → Vals vs us → NestedAll s.heap (nks l) us
  | _, _, _, .nil, .nil => .nil
  | _, _, _, .cons h r, .cons e t => .cons (nested_is I h e) (nested_all I r t)
end
theorem key_is (I : Inv X pins σ H s) {d : D} {p : Addr} (h : RD X.K H d (.ref p)) (t : tall d 8 = true) : (nestedKind X.prog X.w).is s.heap (nk d) p := ⟨nested_is I h rfl, nk_depth d 8 t⟩
theorem dictN (I : Inv X pins σ H s) {a : Addr} {xs : List (NestedKey × Addr × Value)} (e : H a = some (rawN X.prog X.w a xs)) (k : KeysOk X.K H xs) : (a == sysModules) = false ∧ s.heap.DictOfH (nestedKind X.prog X.w) a xs := by
  obtain ⟨⟨h1, o, es, ep, h2, h3, h4, h5, h6⟩, _, _⟩ := I.hok a _ e
  refine ⟨h1, o, es, ep, h2, h3, h4, h5, fun x hx => ?_, h6⟩
  obtain ⟨d, e1, e2, e3⟩ := k x hx
  rw [← e1]
  exact key_is I e3 e2
theorem rawN_ok {P : Program} {w : World} {H : Hp} {h : Heap} {a : Addr} {xs : List (NestedKey × Addr × Value)} (h1 : (a == sysModules) = false) (d : h.DictOfH (nestedKind P w) a xs) : ObjOk P w H h a (rawN P w a xs) := by
  obtain ⟨o, es, ep, h2, h3, h4, h5, h6, h7⟩ := d
  refine ⟨⟨h1, o, es, ep, h2, h3, h4, h5, h7⟩, ⟨o, h2⟩, ?_⟩
  rintro g1 g2 ⟨q1, o, es, ep, q2, q⟩ k
  exact ⟨q1, o, es, ep, k o q2, q⟩

/-! ### readings: keys that are tuples -/
def rNGet (K : PySem.W.Frag) (P : Program) (w : World) : R2 := fun x y H Q => ∃ a p d xs q u v, x = .ref a ∧ y = .ref p ∧ H a = some (rawN P w a xs) ∧ KeysOk K H xs ∧ RD K H d (.ref p) ∧ tall d 8 = true ∧ atKey xs (nk d) = some (q, u) ∧ RelV v u ∧ Q v H
def rNIn (K : PySem.W.Frag) (P : Program) (w : World) (neg : Bool) : R2 := fun y x H Q => ∃ a p d xs, x = .ref a ∧ y = .ref p ∧ H a = some (rawN P w a xs) ∧ KeysOk K H xs ∧ RD K H d (.ref p) ∧ tall d 8 = true ∧ Q (.bl (if neg then !(atKey xs (nk d)).isSome else (atKey xs (nk d)).isSome)) H
theorem room8 (hu : X.A.units + 64 < cLine) : (nestedKind X.prog X.w).room X.A.in1 := by
  show X.A.in1.units + 8 < cLine
  have e : X.A.in1.units = X.A.units + 1 := rfl
  omega
theorem op_inN (hu : X.A.units + 64 < cLine) : OpR X (compareOp .In) (rNIn X.K X.prog X.w false) := by
  intro pins s σ H x y v u Q I rx ry h
  obtain ⟨a, p, d, xs, rfl, rfl, e, k, hd, t, q⟩ := h
  cases rx
  cases ry
  obtain ⟨h1, dd⟩ := dictN I e k
  exact wpAny_in_heap (room8 hu) (key_is I hd t) h1 dd ⟨.bl (atKey xs (nk d)).isSome, H, I.tok _, rfl, q⟩
theorem op_notInN (hu : X.A.units + 64 < cLine) : OpR X (compareOp .NotIn) (rNIn X.K X.prog X.w true) := by
  intro pins s σ H x y v u Q I rx ry h
  obtain ⟨a, p, d, xs, rfl, rfl, e, k, hd, t, q⟩ := h
  cases rx
  cases ry
  obtain ⟨h1, dd⟩ := dictN I e k
  refine notIn_keyed (room8 hu) (key_is I hd t) h1 ⟨xs, dd, rfl⟩ ?_
  rw [valueAt_pairsH, Option.isSome_map]
  exact ⟨.bl (!(atKey xs (nk d)).isSome), H, I.tok _, rfl, q⟩
theorem ix_N (hu : X.A.units + 64 < cLine) : IxR X (rNGet X.K X.prog X.w) := by
  intro value slice pins s σ H x y v u Q I rx ry h hs
  obtain ⟨a, p, d, xs, q, u', v', rfl, rfl, e, k, hd, t, ha, rv, hq⟩ := h
  cases rx
  cases ry
  obtain ⟨h1, dd⟩ := dictN I e k
  exact tail_any dd.typeIs slot_dict_getitem.lookup (wpAny_getItem_heap (room8 hu) (key_is I hd t) dd ha ⟨v', H, I.tok _, rv, hq⟩) hs

/-! ### readings: keys that are ints and texts -/
def rKGet : R2 := fun x y H Q => ∃ a v, x = .ref a ∧ DGet H a y (some v) ∧ Q v H
def rKIn (neg : Bool) : R2 := fun y x H Q => ∃ a o, x = .ref a ∧ DGet H a y o ∧ Q (.bl (if neg then !o.isSome else o.isSome)) H
theorem hu1 (hu : X.A.units + 64 < cLine) : X.A.units + 1 < cLine := by omega
theorem op_inK (hu : X.A.units + 64 < cLine) : OpR X (compareOp .In) (rKIn false) := by
  intro pins s σ H x y v u Q I rx ry h
  obtain ⟨a, o, rfl, g, q⟩ := h
  cases ry
  exact d_in (hu1 hu) I g rx fun s3 I3 => ⟨.bl o.isSome, H, I3, rfl, q⟩
theorem op_notInK (hu : X.A.units + 64 < cLine) : OpR X (compareOp .NotIn) (rKIn true) := by
  intro pins s σ H x y v u Q I rx ry h
  obtain ⟨a, o, rfl, g, q⟩ := h
  cases ry
  exact d_notIn (hu1 hu) I g rx fun s3 I3 => ⟨.bl (!o.isSome), H, I3, rfl, q⟩
theorem ix_K (hu : X.A.units + 64 < cLine) : IxR X rKGet := by
  intro value slice pins s σ H x y v u Q I rx ry h hs
  obtain ⟨a, v', rfl, g, hq⟩ := h
  cases rx
  exact tail_any (dict_typeIs I g) slot_dict_getitem.lookup (d_getItem (hu1 hu) I g ry fun w' s3 I3 rw' => ⟨v', H, I3, rw', hq⟩) hs
end

/-! ### in, not in: all kinds -/
/-- d in the dict n; none: not a dict, or no key of its kind -/
def inDict (x y : A) (S : Sto) : Option Bool := match x with
  | .dat d => match y with
    | .obj n => match S.get n with
      | some (.dK l) => match keyOf d with
        | some _ => some (lkD d l).isSome
        | none => none
      | some (.dN l) => match d with
        | .tup _ => cond (tall d 8) (some (lkD d l).isSome) none
        | _ => none
      | _ => none
    | _ => none
  | _ => none
def oInA (x y : A) (S : Sto) : Option (A × Sto) := match inDict x y S with
  | some b => some (.bl b, S)
  | none => oIn x y S
def oNotInA (x y : A) (S : Sto) : Option (A × Sto) := match inDict x y S with
  | some b => some (.bl (not b), S)
  | none => oNotIn x y S
/-- one look into a dict -/
theorem dict_look {g : Gb} {ι : Nat → Addr} {S : Sto} {H : Hp} {n : Nat} {d : D} {v : V} (R : RS g ι S H) (rx : RD g.K H d v) :
    (∀ l k, S.get n = some (.dK l) → keyOf d = some k → (∃ a u, lkD d l = some a ∧ DGet H (ι n) v (some u) ∧ RA g.K ι S.m H a u) ∨ (lkD d l = none ∧ DGet H (ι n) v none)) := by
  intro l k q hk
  obtain ⟨kvs, h1, h2⟩ := (R.ob n _ q).2
  have ev : v = kV k := by
    cases rx with
    | non => simp [keyOf] at hk
    | int i => rw [keyOf] at hk; cases hk; rfl
    | str l' _ => rw [keyOf] at hk; cases hk; rfl
    | tup _ _ _ => simp [keyOf] at hk
  rcases KR.lk hk h2 with ⟨a, u, e1, e2, e3⟩ | ⟨e1, e2⟩
  · exact .inl ⟨a, u, e1, .inl ⟨kvs, k, Rd.of h1, ev, e2.symm⟩, e3⟩
  · exact .inr ⟨e1, .inl ⟨kvs, k, Rd.of h1, ev, e2.symm⟩⟩
theorem RD.tupv {K : PySem.W.Frag} {H : Hp} {l : List D} {v : V} (r : RD K H (.tup l) v) : ∃ p, v = .ref p := by
  cases r
  exact ⟨_, rfl⟩
theorem inDict_ok {g : Gb} {ι : Nat → Addr} {S : Sto} {H : Hp} {x y : A} {v u : V} {b : Bool} (R : RS g ι S H) (rx : RA g.K ι S.m H x v) (ry : RA g.K ι S.m H y u) (e : inDict x y S = some b) :
    (∃ a o, u = .ref a ∧ DGet H a v o ∧ o.isSome = b) ∨ (∃ a p d xs, u = .ref a ∧ v = .ref p ∧ H a = some (rawN g.P g.w a xs) ∧ KeysOk g.K H xs ∧ RD g.K H d (.ref p) ∧ tall d 8 = true ∧ (atKey xs (nk d)).isSome = b) := by
  unfold inDict at e
  split at e
  · rename_i d
    cases rx with | dat rd =>
    split at e
    · rename_i n
      cases ry with | obj hn =>
      split at e
      · rename_i l q
        cases hk : keyOf d with
        | none => rw [hk] at e; cases e
        | some k =>
          rw [hk] at e
          cases e
          rcases dict_look R rd l k q hk with ⟨a, w', e1, e2, e3⟩ | ⟨e1, e2⟩
          · exact .inl ⟨_, _, rfl, e2, by rw [e1]; rfl⟩
          · exact .inl ⟨_, _, rfl, e2, by rw [e1]; rfl⟩
      · rename_i l q
        split at e
        · rename_i l'
          cases t : tall (.tup l') 8 with
          | false => rw [t] at e; cases e
          | true =>
            rw [t] at e
            cases e
            obtain ⟨xs, h1, h2⟩ := (R.ob n _ q).2
            obtain ⟨p, rfl⟩ := rd.tupv
            refine .inr ⟨_, p, _, xs, rfl, rfl, h1, NR.keys h2, rd, t, ?_⟩
            rcases NR.lk (d := .tup l') h2 with ⟨a, p', u', v', e1, e2, _⟩ | ⟨e1, e2⟩
            · rw [e1, e2]; rfl
            · rw [e1, e2]; rfl
        · cases e
      · cases e
    · cases e
  · cases e
def rInA (K : PySem.W.Frag) (P : Program) (w : World) (neg : Bool) : R2 := fun x y H Q => (rIn K neg x y H Q ∨ rKIn neg x y H Q) ∨ rNIn K P w neg x y H Q
theorem op_inA {X : Cx} (hu : X.A.units + 64 < cLine) : OpR X (compareOp .In) (rInA X.K X.prog X.w false) := (op_in_seq.or (op_inK hu)).or (op_inN hu)
theorem op_notInA {X : Cx} (hu : X.A.units + 64 < cLine) : OpR X (compareOp .NotIn) (rInA X.K X.prog X.w true) := (op_notIn_seq.or (op_notInK hu)).or (op_notInN hu)
theorem inA_ok {g : Gb} : OpOk g (rInA g.K g.P g.w false) oInA := by
  intro ι S H x y v u z S' Q R rx ry e k
  unfold oInA at e
  split at e
  · rename_i b q
    cases e
    rcases inDict_ok R rx ry q with ⟨a, o, h1, h2, h3⟩ | ⟨a, p, d, xs, h1, h2, h3, h4, h5, h6, h7⟩
    · refine .inl (.inr ⟨a, o, h1, h2, ?_⟩)
      rw [if_neg Bool.false_ne_true, h3]
      exact k.here R (.bl _)
    · refine .inr ⟨a, p, d, xs, h1, h2, h3, h4, h5, h6, ?_⟩
      rw [if_neg Bool.false_ne_true, h7]
      exact k.here R (.bl _)
  · exact .inl (.inl (in_ok ι S H x y v u z S' Q R rx ry e k))
theorem notInA_ok {g : Gb} : OpOk g (rInA g.K g.P g.w true) oNotInA := by
  intro ι S H x y v u z S' Q R rx ry e k
  unfold oNotInA at e
  split at e
  · rename_i b q
    cases e
    rcases inDict_ok R rx ry q with ⟨a, o, h1, h2, h3⟩ | ⟨a, p, d, xs, h1, h2, h3, h4, h5, h6, h7⟩
    · refine .inl (.inr ⟨a, o, h1, h2, ?_⟩)
      rw [if_pos rfl, h3]
      exact k.here R (.bl _)
    · refine .inr ⟨a, p, d, xs, h1, h2, h3, h4, h5, h6, ?_⟩
      rw [if_pos rfl, h7]
      exact k.here R (.bl _)
  · exact .inl (.inl (notIn_ok ι S H x y v u z S' Q R rx ry e k))

/-! ### x[y]: all kinds -/
def getDict (x y : A) (S : Sto) : Option A := match y with
  | .dat d => match x with
    | .obj n => match S.get n with
      | some (.dK l) => match keyOf d with
        | some _ => lkD d l
        | none => none
      | some (.dN l) => match d with
        | .tup _ => cond (tall d 8) (lkD d l) none
        | _ => none
      | _ => none
    | _ => none
  | _ => none
def oIxA (x y : A) (S : Sto) : Option (A × Sto) := match getDict x y S with
  | some a => some (a, S)
  | none => oIx x y S
def rIxAll (K : PySem.W.Frag) (P : Program) (w : World) : R2 := fun x y H Q => (rIxA K x y H Q ∨ rKGet x y H Q) ∨ rNGet K P w x y H Q
theorem ix_all {X : Cx} (hu : X.A.units + 64 < cLine) : IxR X (rIxAll X.K X.prog X.w) := (ix_any.or (ix_K hu)).or (ix_N hu)
theorem getDict_ok {g : Gb} {ι : Nat → Addr} {S : Sto} {H : Hp} {x y : A} {v u : V} {z : A} (R : RS g ι S H) (rx : RA g.K ι S.m H x v) (ry : RA g.K ι S.m H y u) (e : getDict x y S = some z) :
    (∃ a v', v = .ref a ∧ DGet H a u (some v') ∧ RA g.K ι S.m H z v') ∨
    (∃ a p d xs q w v', v = .ref a ∧ u = .ref p ∧ H a = some (rawN g.P g.w a xs) ∧ KeysOk g.K H xs ∧ RD g.K H d (.ref p) ∧ tall d 8 = true ∧ atKey xs (nk d) = some (q, w) ∧ RelV v' w ∧ RA g.K ι S.m H z v') := by
  unfold getDict at e
  split at e
  · rename_i d
    cases ry with | dat rd =>
    split at e
    · rename_i n
      cases rx with | obj hn =>
      split at e
      · rename_i l q
        cases hk : keyOf d with
        | none => rw [hk] at e; cases e
        | some k =>
          rw [hk] at e
          rcases dict_look R rd l k q hk with ⟨a, w', e1, e2, e3⟩ | ⟨e1, e2⟩
          · rw [e1] at e
            cases e
            exact .inl ⟨_, w', rfl, e2, e3⟩
          · rw [e1] at e
            cases e
      · rename_i l q
        split at e
        · rename_i l'
          cases t : tall (.tup l') 8 with
          | false => rw [t] at e; cases e
          | true =>
            rw [t] at e
            obtain ⟨xs, h1, h2⟩ := (R.ob n _ q).2
            obtain ⟨p, rfl⟩ := rd.tupv
            rcases NR.lk (d := .tup l') h2 with ⟨a, p', u', v', e1, e2, e3, e4⟩ | ⟨e1, e2⟩
            · have e' : lkD (.tup l') l = some z := e
              rw [e1] at e'
              cases e'
              exact .inr ⟨_, p, _, xs, p', u', v', rfl, rfl, h1, NR.keys h2, rd, t, e2, e3, e4⟩
            · have e' : lkD (.tup l') l = some z := e
              rw [e1] at e'
              cases e'
        · cases e
      · cases e
    · cases e
  · cases e
theorem ixA_ok {g : Gb} : OpOk g (rIxAll g.K g.P g.w) oIxA := by
  intro ι S H x y v u z S' Q R rx ry e k
  unfold oIxA at e
  split at e
  · rename_i a q
    cases e
    rcases getDict_ok R rx ry q with ⟨b, v', h1, h2, h3⟩ | ⟨b, p, d, xs, q', w', v', h1, h2, h3, h4, h5, h6, h7, h8, h9⟩
    · exact .inl (.inr ⟨b, v', h1, h2, k.here R h3⟩)
    · exact .inr ⟨b, p, d, xs, q', w', v', h1, h2, h3, h4, h5, h6, h7, h8, k.here R h9⟩
  · exact .inl (.inl (ix_ok ι S H x y v u z S' Q R rx ry e k))
section
variable {X : Cx} {c : Nat → Addr} {pos : Pos}
theorem e_ixA {a b : Expr} {ea eb : Ev} (hu : X.A.units + 64 < cLine) (ha : EE X c a ea) (hb : EE X c b eb) (hs : PlainIx b := by intro _ _; rfl) : EE X c (.Subscript a b pos) (cBin oIxA ea eb) := e_ix (ix_all hu) ixA_ok ha hb hs
end
end Cs
/-! Z9: dicts: stores, get, setdefault, displays, copies. -/
namespace Cs
open PySem PySem.Spec PyProof.Rows L2

def rStA (K : PySem.W.Frag) (P : Program) (w : World) (x y v : V) (H : Hp) (Q : Hp → Prop) : Prop := (∃ a H4, x = .ref a ∧ DPut H a y v H4 ∧ Q H4) ∨
  (∃ a p d xs, x = .ref a ∧ y = .ref p ∧ H a = some (rawN P w a xs) ∧ KeysOk K H xs ∧ RD K H d (.ref p) ∧ tall d 8 = true ∧ xs.length ≤ sizeLine ∧ ∀ u, RelV v u → Q (upd H a (rawN P w a (storedH xs (nk d) p u))))
section
variable {X : Cx} {pins : List (Addr × Obj)} {σ : St} {H : Hp} {s : Shared}
theorem writeN {h' : Heap} {t' : Nat} {a : Addr} {xs ys : List (NestedKey × Addr × Value)} (I : Inv X pins σ H s) (e : H a = some (rawN X.prog X.w a xs)) (lo : (a == sysModules) = false) (dd : h'.DictOfH (nestedKind X.prog X.w) a ys) (hs : Heap.SameBut a s.heap h') :
    Inv X pins σ (upd H a (rawN X.prog X.w a ys)) { s with heap := h', toks := t' } :=
  d_write I (by rw [e]; exact True.intro) hs (let ⟨q, _, _, hq, _⟩ := dd; ⟨q, hq⟩) (rawN_ok lo dd)
theorem stA_ok (hu : X.A.units + 64 < cLine) {x y v : V} {u iv r : Value} {Q : Hp → Prop} (I : Inv X pins σ H s) (rx : RelV x u) (ry : RelV y iv) (rv : RelV v r) (h : rStA X.K X.prog X.w x y v H Q) :
    wpAny (model X.prog X.w) X.A (setItem u iv r) (fun _ s' => ∃ H', Inv X pins σ H' s' ∧ Q H') X.xe s := by
  rcases h with ⟨a, H4, rfl, g, q⟩ | ⟨a, p, d, xs, rfl, rfl, e, k, hd, t, hz, q⟩
  · cases rx
    exact d_setItem (hu1 hu) I g ry rv fun s' I' => ⟨H4, I', q⟩
  · cases rx
    cases ry
    obtain ⟨lo, dd⟩ := dictN I e k
    exact wpAny_setItem_heap (hsz := hz) (room8 hu) (key_is I hd t) dd fun h' dd' hs => ⟨_, writeN I e lo dd' hs, q r rv⟩
theorem ps_stA {o i value : Expr} {to ti tv : TE} {pos pos' : Pos} (hu : X.A.units + 64 < cLine) (ho : PE X o to) (hi : PE X i ti) (hv : PE X value tv) (hs : swapsWith value (some (.Subscript o i pos')) pos.line X.env = pure false) :
    PS X (.Assign [.Subscript o i pos'] value pos) (fun D σ H => tv σ H fun v H1 => to σ H1 fun x H2 => ti σ H2 fun y H3 => rStA X.K X.prog X.w x y v H3 (D.nx σ)) := by
  refine ⟨fun pins s σ H D I h => ?_⟩
  refine wpAny_Assign_Subscript (thn (hv.run pins s σ H _ I h) fun r s1 ⟨v, H1, I1, rv, q1⟩ => thn (ho.run pins s1 σ H1 _ I1 q1) fun u s2 ⟨x, H2, I2, rx, q2⟩ => thn (hi.run pins s2 σ H2 _ I2 q2) fun iv s3 ⟨y, H3, I3, ry, q3⟩ => ?_) hs
  exact thn (stA_ok hu I3 rx ry rv q3) fun _ s4 ⟨H4, I4, q4⟩ => ⟨σ, H4, I4, q4⟩
end
/-- the object x with y bound to a -/
def putA (x y : A) (a : A) (S : Sto) : Option Sto := match x with
  | .obj n => match y with
    | .dat d => match S.get n with
      | some (.dK l) => match keyOf d with
        | some _ => cond (few l) (some (S.put n (.dK (ptD d a l)))) none
        | none => none
      | some (.dN l) => match d with
        | .tup t => cond (tall (.tup t) 8) (cond (few l) (some (S.put n (.dN (ptD (.tup t) a l)))) none) none
        | _ => none
      | _ => none
    | _ => none
  | _ => none
theorem few_line {α β : Type} {l : List α} {r : List β} (f : few l = true) (e : l.length = r.length) : r.length < sizeLine := by
  have := few_le f
  have := line_lt
  omega
theorem RD.kv {K : PySem.W.Frag} {H : Hp} {d : D} {v : V} {k : Key} (r : RD K H d v) (h : keyOf d = some k) : v = kV k := by
  cases r with
  | non => simp [keyOf] at h
  | int i => rw [keyOf] at h; cases h; rfl
  | str l' _ => rw [keyOf] at h; cases h; rfl
  | tup _ _ _ => simp [keyOf] at h
theorem putA_ok {g : Gb} {ι : Nat → Addr} {S S' : Sto} {H : Hp} {x y a : A} {v u t : V} {Q : Hp → Prop} (R : RS g ι S H) (rx : RA g.K ι S.m H x v) (ry : RA g.K ι S.m H y u) (ra : RA g.K ι S.m H a t) (e : putA x y a S = some S')
    (q : ∀ H', Ext ι S.m H ι S'.m H' → RS g ι S' H' → Q H') : rStA g.K g.P g.w v u t H Q := by
  unfold putA at e
  split at e
  · rename_i n
    split at e
    · rename_i d
      cases rx with | obj hn =>
      cases ry with | dat rd =>
      split at e
      · rename_i l q1
        cases hk : keyOf d with
        | none => rw [hk] at e; cases e
        | some k =>
          rw [hk] at e
          cases f : few l with
          | false => rw [f] at e; cases e
          | true =>
            rw [f] at e
            cases e
            obtain ⟨kvs, h1, h2⟩ := (R.ob n _ q1).2
            obtain ⟨R3, x3⟩ := R.write (o := .dK (ptD d a l)) (ho := .dK (putK kvs k t)) hn fun H' x' e' =>
              ⟨_, e', KR.put hk (ra.mono x') (Paired.mapP h2 fun _ _ q => ⟨q.1, q.2.mono x'⟩)⟩
            exact .inl ⟨_, _, rfl, .inl ⟨kvs, k, h1, rd.kv hk, few_line f (Paired.len h2), rfl⟩, q _ x3 R3⟩
      · rename_i l q1
        split at e
        · rename_i t'
          cases t8 : tall (.tup t') 8 with
          | false => rw [t8] at e; cases e
          | true =>
            cases f : few l with
            | false => rw [t8, f] at e; cases e
            | true =>
              rw [t8, f] at e
              cases e
              obtain ⟨xs, h1, h2⟩ := (R.ob n _ q1).2
              obtain ⟨p, rfl⟩ := rd.tupv
              refine .inr ⟨_, p, _, xs, rfl, rfl, h1, NR.keys h2, rd, t8, Nat.le_of_lt (few_line f (Paired.len h2)), fun w' hw => ?_⟩
              obtain ⟨R3, x3⟩ := R.write (o := .dN (ptD (.tup t') a l)) (ho := rawN g.P g.w (ι n) (storedH xs (nk (.tup t')) p w')) hn fun H' x' e' =>
                ⟨_, e', NR.put t8 (rd.mono x'.kp) hw (ra.mono x') (Paired.mapP h2 fun _ _ q => ⟨q.1, ⟨q.2.1.1, q.2.1.2.mono x'.kp⟩, let ⟨v, h1, h2⟩ := q.2.2; ⟨v, h1, h2.mono x'⟩⟩)⟩
              exact q _ x3 R3
        · cases e
      · cases e
    · cases e
  · cases e
/-- o[i] = v -/
def sPut (eo ei ev : Ev) : Sv := fun σ S => match ev σ S with
  | some (a, S1) => match eo σ S1 with
    | some (x, S2) => match ei σ S2 with
      | some (y, S3) => match putA x y a S3 with
        | some S4 => some (.nx, σ, S4)
        | none => none
      | none => none
    | none => none
  | none => none
section
variable {X : Cx} {c : Nat → Addr} {pos : Pos}
theorem s_put {o i value : Expr} {eo ei ev : Ev} {pos' : Pos} (hu : X.A.units + 64 < cLine) (ho : EE X c o eo) (hi : EE X c i ei) (hv : EE X c value ev) (hs : swapsWith value (some (.Subscript o i pos')) pos.line X.env = pure false := by rfl) :
    ES X c (.Assign [.Subscript o i pos'] value pos) (sPut eo ei ev) := PS.imp (ps_stA hu ho hi hv hs) fun E σ H h => by
  obtain ⟨ι, σa, S, o, σa', S', hL, hS, e, k⟩ := h
  unfold sPut at e
  split at e
  · rename_i a S1 q1
    split at e
    · rename_i x S2 q2
      split at e
      · rename_i y S3 q3
        split at e
        · rename_i S4 q4
          cases e
          exact ⟨ι, σa, S, a, S1, hL, hS, q1, fun ι1 H1 t x1 R1 r1 => ⟨ι1, σa, S1, x, S2, hL.mono x1, R1, q2, fun ι2 H2 v x2 R2 r2 => ⟨ι2, σa, S2, y, S3, hL.mono (x1.trans x2), R2, q3, fun ι3 H3 u x3 R3 r3 =>
            putA_ok R3 (r2.mono x3) r3 (r1.mono (x2.trans x3)) q4 fun H4 x4 R4 => k ι3 H4 σ (((x1.trans x2).trans x3).trans x4) R4 (hL.mono (((x1.trans x2).trans x3).trans x4))⟩⟩⟩
        · cases e
      · cases e
    · cases e
  · cases e

/-! ### d.get(k, x) -/
def cGet2 (eo ei ex : Ev) : Ev := fun σ S => match eo σ S with
  | some (.obj n, S1) => match S1.get n with
    | some (.dK _) => match ei σ S1 with
      | some (.dat d, S2) => match ex σ S2 with
        | some (z, S3) => match S3.get n with
          | some (.dK l) => match keyOf d with
            | some _ => match lkD d l with
              | some a => some (a, S3)
              | none => some (z, S3)
            | none => none
          | _ => none
        | none => none
      | _ => none
    | _ => none
  | _ => none
theorem e_get2 {o e f : Expr} {eo ee ef : Ev} {apos cpos : Pos} (hu : X.A.units + 64 < cLine) (ho : EE X c o eo) (he : EE X c e ee) (hf : EE X c f ef) (m : M2 X o "get" apos e f cpos) : EE X c (.Call (.Attribute o "get" apos) [e, f] [] cpos) (cGet2 eo ee ef) :=
  PE.imp (pe_dget2 (hu1 hu) ho he hf m) fun σ H Q h => by
    obtain ⟨ι, σa, S, z, S', hL, hS, e, k⟩ := h
    unfold cGet2 at e
    split at e
    · rename_i n S1 q1
      split at e
      · rename_i l0 q0
        split at e
        · rename_i d S2 q2
          split at e
          · rename_i w' S3 q3
            refine ⟨ι, σa, S, _, S1, hL, hS, q1, fun ι1 H1 v x1 R1 r1 => ?_⟩
            cases r1 with | obj hn =>
            obtain ⟨kvs0, h1, h2⟩ := (R1.ob n _ q0).2
            refine ⟨_, rfl, .inl ⟨kvs0, Rd.of h1⟩, ι1, σa, S1, _, S2, hL.mono x1, R1, q2, fun ι2 H2 u x2 R2 r2 => ⟨ι2, σa, S2, w', S3, hL.mono (x1.trans x2), R2, q3, fun ι3 H3 t x3 R3 r3 => ?_⟩⟩
            split at e
            · rename_i l q4
              cases hk : keyOf d with
              | none => rw [hk] at e; cases e
              | some kk =>
                rw [hk] at e
                have r2' := r2.mono x3
                cases r2' with | dat rd =>
                rcases dict_look R3 rd l kk q4 hk with ⟨a, w2, e1, e2, e3⟩ | ⟨e1, e2⟩
                · dsimp only at e
                  rw [e1] at e
                  cases e
                  rw [(x2.trans x3).eq n hn] at e2
                  exact ⟨_, e2, k ι3 H3 _ ((x1.trans x2).trans x3) R3 e3⟩
                · dsimp only at e
                  rw [e1] at e
                  cases e
                  rw [(x2.trans x3).eq n hn] at e2
                  exact ⟨_, e2, k ι3 H3 _ ((x1.trans x2).trans x3) R3 r3⟩
            · cases e
          · cases e
        · cases e
      · cases e
    · cases e

/-! ### displays -/
def cNewK : Ev := fun _ S => S.new (.dK [])
theorem e_newK : EE X c (.Dict [] [] pos) cNewK := PE.imp pe_dnewK fun σ H Q h => by
  obtain ⟨ι, σa, S, z, S', hL, hS, e, k⟩ := h
  intro p hp
  obtain ⟨ι', R1, x1, r1⟩ := hS.new1 (ho := .dK []) e hp fun ι' x' => ⟨[], upd_same, .nil⟩
  exact k ι' _ _ x1 R1 r1
def cNewN : Ev := fun _ S => S.new (.dN [])
theorem pe_dnewN : PE X (.Dict [] [] pos) (fun _ H Q => ∀ p, H p = none → Q (.ref p) (upd H p (rawN X.prog X.w p []))) := ⟨fun pins s σ H Q I h =>
  wpAny_Dict_empty ⟨.ref s.heap.objs.size, _, I.laid (a := s.heap.objs.size) (o := rawN X.prog X.w s.heap.objs.size []) (t' := s.toks) (fun _ _ q => Heap.get?_push_of_some _ q) (Nat.le_refl _)
    (rawN_ok (beq_eq_false_iff_ne.mpr (Ne.symm (Nat.ne_of_lt I.big))) (Heap.DictOfH.new s.heap)), rfl, h _ (I.hok.fresh (Nat.le_refl _))⟩⟩
theorem e_newN : EE X c (.Dict [] [] pos) cNewN := PE.imp pe_dnewN fun σ H Q h => by
  obtain ⟨ι, σa, S, z, S', hL, hS, e, k⟩ := h
  intro p hp
  obtain ⟨ι', R1, x1, r1⟩ := hS.new1 (ho := rawN X.prog X.w p []) e hp fun ι' x' => ⟨[], upd_same, .nil⟩
  exact k ι' _ _ x1 R1 r1
/-- {k: v} -/
def cDisp (ek ev : Ev) : Ev := fun σ S => match S.new (.dK []) with
  | some (.obj n, S1) => match ek σ S1 with
    | some (.dat d, S2) => match ev σ S2 with
      | some (a, S3) => match S3.get n with
        | some (.dK []) => match keyOf d with
          | some _ => some (.obj n, S3.put n (.dK [(d, a)]))
          | none => none
        | _ => none
      | none => none
    | _ => none
  | _ => none
theorem e_disp {k v : Expr} {ek ev : Ev} (hk : EE X c k ek) (hv : EE X c v ev) : EE X c (.Dict [some k] [v] pos) (cDisp ek ev) := PE.imp (pe_disp (pps_cons hk hv pps_nil) rfl rfl (by simp) (by show 1 ≤ 15; decide)) fun σ H Q h => by
  obtain ⟨ι, σa, S, z, S', hL, hS, e, k⟩ := h
  unfold cDisp at e
  split at e
  · rename_i n S1 q1
    split at e
    · rename_i d S2 q2
      split at e
      · rename_i a S3 q3
        split at e
        · rename_i q4
          cases hk : keyOf d with
          | none => rw [hk] at e; cases e
          | some kk =>
            rw [hk] at e
            cases e
            intro p hp
            obtain ⟨ι', R1, x1, r1⟩ := hS.new1 (ho := .dK []) q1 hp fun ι' x' => ⟨[], upd_same, .nil⟩
            have ep : ι' n = p := by
              have := r1
              cases this
              rfl
            have hn : n < S1.m := by
              have := r1
              cases this
              assumption
            refine ⟨ι', σa, S1, _, S2, hL.mono x1, R1, q2, fun ι2 H2 u x2 R2 r2 => ⟨ι2, σa, S2, a, S3, hL.mono (x1.trans x2), R2, q3, fun ι3 H3 t x3 R3 r3 => ?_⟩⟩
            obtain ⟨kvs, h1, h2⟩ := (R3.ob n _ q4).2
            cases h2
            rw [(x2.trans x3).eq n hn, ep] at h1
            cases r2 with | dat rd =>
            have eu := rd.kv hk
            subst eu
            refine ⟨h1, [(kk, t)], rfl, by show 1 ≤ 15; decide, ?_⟩
            have e1 : mergeK [] [(kk, t)] = [(kk, t)] := rfl
            rw [e1]
            have hn3 : n < S3.m := (R3.ob n _ q4).1
            obtain ⟨R4, x4⟩ := R3.write (o := .dK [(d, a)]) (ho := .dK [(kk, t)]) hn3 fun H' x' e' => ⟨_, e', .cons ⟨hk, r3.mono x'⟩ .nil⟩
            have e0 : ι3 n = p := ((x2.trans x3).eq n hn).trans ep
            rw [e0] at R4 x4
            refine k ι3 _ _ (((x1.trans x2).trans x3).trans x4) R4 ?_
            have q : RA X.K ι3 (S3.put n (.dK [(d, a)])).m (upd H3 p (.dK [(kk, t)])) (.obj n) (.ref (ι3 n)) := .obj hn3
            rw [e0] at q
            exact q
        · cases e
      · cases e
    · cases e
  · cases e

/-! ### dict(d) -/
def oDic (l : List A) (S : Sto) : Option (A × Sto) := match l with
  | [.obj n] => match S.get n with
    | some (.dK l) => S.new (.dK l)
    | _ => none
  | _ => none
theorem e_dic {a : Expr} {av : Av} {p : Pos} (hg : Gl X "dict") (hm : X.mg "dict" = none) (ha : EA X c [a] av) (he : starEach [a] X.env = (false, eval a X.env) :: starEach [] X.env := by rfl) (hpl : (backTo pos (starEach [] X.env)).any (·.1) = false := by rfl) :
    EE X c (.Call (.Name "dict" p) [a] [] pos) (cArgs oDic av) := PE.imp (pe_callTy call_dictD hg hm PyProof.Rows.boot_dict ha (by decide) (by decide) he hpl)
  (args_t (r := fun xs H Q => ∃ (a : Addr) (kvs : List (Key × V)), xs = [.ref a] ∧ Rd H a (.dK kvs) ∧ ∀ p, H p = none → Q (.ref p) (upd H p (.dK kvs))) (by
  intro ι S H x v z S' Q R r e k
  unfold oDic at e
  split at e
  · rename_i n
    split at e
    · rename_i l q
      cases r with | cons r1 r2 =>
      cases r2
      cases r1 with | obj hn =>
      obtain ⟨kvs, h1, h2⟩ := (R.ob n _ q).2
      refine ⟨_, kvs, rfl, Rd.of h1, fun p hp => ?_⟩
      obtain ⟨ι', R1, x1, r1⟩ := R.new1 (ho := .dK kvs) e hp fun ι' x' => ⟨kvs, upd_same, Paired.mapP h2 fun _ _ q => ⟨q.1, q.2.mono x'⟩⟩
      exact k ι' _ _ x1 R1 r1
    · cases e
  · cases e))

/-! ### d.setdefault(k, x), keys tuples -/
theorem pe_setdN {o e f : Expr} {td ty tx : TE} {apos cpos : Pos} (hu : X.A.units + 64 < cLine) (ho : PE X o td) (he : PE X e ty) (hf : PE X f tx) (m : M2 X o "setdefault" apos e f cpos) :
    PE X (.Call (.Attribute o "setdefault" apos) [e, f] [] cpos) (fun σ H Q => td σ H fun x H1 => ∃ a, x = .ref a ∧ (∃ xs, H1 a = some (rawN X.prog X.w a xs) ∧ KeysOk X.K H1 xs) ∧ ty σ H1 fun y H2 => tx σ H2 fun z H3 =>
      ∃ p d xs, y = .ref p ∧ H3 a = some (rawN X.prog X.w a xs) ∧ KeysOk X.K H3 xs ∧ RD X.K H3 d (.ref p) ∧ tall d 8 = true ∧ xs.length ≤ sizeLine ∧
        ((∃ q u v, atKey xs (nk d) = some (q, u) ∧ RelV v u ∧ Q v H3) ∨ (atKey xs (nk d) = none ∧ ∀ u, RelV z u → Q z (upd H3 a (rawN X.prog X.w a (storedH xs (nk d) p u)))))) := by
  refine ⟨fun pins s σ H Q I h => ?_⟩
  refine wpAny_Call_method m.base m.few m.line PySem.F.plainAttrs_dict PySem.F.slot_dict_setdefault PySem.F.type_dict_setdefault (thn (ho.run pins s σ H _ I h) fun u s1 ⟨x, H1, I1, rx, a, ex, ⟨xs0, d1, d2⟩, q1⟩ => ?_)
  subst ex
  obtain rfl : u = Value.ref a := rx
  obtain ⟨lo, dd⟩ := dictN I1 d1 d2
  refine ⟨dd.typeIs, fun b q => ?_, ?_⟩
  · cases q
    obtain ⟨ob, _, _, h1, h2, _⟩ := dd
    exact ⟨ob, h1, h2.2.1⟩
  rw [m.trees]
  refine Calls.callWith_builtin rfl (Calls.evalArgs_plain (Calls.spliced_cons (thn (he.run pins s1 σ H1 _ I1 q1) fun iv s2 ⟨y, H2, I2, ry, q2⟩ =>
    Calls.spliced_cons (thn (hf.run pins s2 σ H2 _ I2 q2) fun fv s3 ⟨z, H3, I3, rz, p, d, xs, ey, e3, k3, hd, t, hz, q3⟩ => Calls.spliced_nil ?_))))
  subst ey
  cases ry
  obtain ⟨lo, dd⟩ := dictN I3 e3 k3
  refine call_setdefault_heap (hsz := hz) (room8 hu) (key_is I3 hd t) lo dd (fun w' hw => ?_) fun hn h' dd' hs => ?_
  · rcases q3 with ⟨q, u, v, h1, h2, h3⟩ | ⟨h1, _⟩
    · rw [h1] at hw
      cases hw
      exact ⟨v, H3, I3.tok _, h2, h3⟩
    · rw [h1] at hw
      cases hw
  · rcases q3 with ⟨q, u, v, h1, h2, h3⟩ | ⟨h1, h2⟩
    · rw [h1] at hn
      cases hn
    · exact ⟨z, _, writeN I3 e3 lo dd' hs, rz, h2 _ rz⟩
def cSetd (eo ei ex : Ev) : Ev := fun σ S => match eo σ S with
  | some (.obj n, S1) => match S1.get n with
    | some (.dN _) => match ei σ S1 with
      | some (.dat (.tup t), S2) => match ex σ S2 with
        | some (z, S3) => match S3.get n with
          | some (.dN l) => cond (tall (.tup t) 8) (cond (few l) (match lkD (.tup t) l with
            | some a => some (a, S3)
            | none => some (z, S3.put n (.dN (l ++ [(.tup t, z)])))) none) none
          | _ => none
        | none => none
      | _ => none
    | _ => none
  | _ => none
theorem e_setd {o e f : Expr} {eo ee ef : Ev} {apos cpos : Pos} (hu : X.A.units + 64 < cLine) (ho : EE X c o eo) (he : EE X c e ee) (hf : EE X c f ef) (m : M2 X o "setdefault" apos e f cpos) : EE X c (.Call (.Attribute o "setdefault" apos) [e, f] [] cpos) (cSetd eo ee ef) :=
  PE.imp (pe_setdN hu ho he hf m) fun σ H Q h => by
    obtain ⟨ι, σa, S, z, S', hL, hS, e, k⟩ := h
    unfold cSetd at e
    split at e
    · rename_i n S1 q1
      split at e
      · rename_i l0 q0
        split at e
        · rename_i tt S2 q2
          split at e
          · rename_i w' S3 q3
            refine ⟨ι, σa, S, _, S1, hL, hS, q1, fun ι1 H1 v x1 R1 r1 => ?_⟩
            cases r1 with | obj hn =>
            obtain ⟨xs0, h1, h2⟩ := (R1.ob n _ q0).2
            refine ⟨_, rfl, ⟨xs0, h1, NR.keys h2⟩, ι1, σa, S1, _, S2, hL.mono x1, R1, q2, fun ι2 H2 u x2 R2 r2 => ⟨ι2, σa, S2, w', S3, hL.mono (x1.trans x2), R2, q3, fun ι3 H3 t x3 R3 r3 => ?_⟩⟩
            split at e
            · rename_i l q4
              cases t8 : tall (.tup tt) 8 with
              | false => rw [t8] at e; cases e
              | true =>
                cases f8 : few l with
                | false => rw [t8, f8] at e; cases e
                | true =>
                  rw [t8, f8] at e
                  have r2' := r2.mono x3
                  cases r2' with | dat rd =>
                  obtain ⟨xs, h3, h4⟩ := (R3.ob n _ q4).2
                  have h3' := h3
                  rw [(x2.trans x3).eq n hn] at h3'
                  obtain ⟨p, rfl⟩ := rd.tupv
                  refine ⟨p, _, xs, rfl, h3', NR.keys h4, rd, t8, Nat.le_of_lt (few_line f8 (Paired.len h4)), ?_⟩
                  rcases NR.lk (d := .tup tt) h4 with ⟨a, p', u', v', e1, e2, e3, e4⟩ | ⟨e1, e2⟩
                  · have e' : (match lkD (.tup tt) l with | some a => some (a, S3) | none => some (w', S3.put n (.dN (l ++ [(.tup tt, w')])))) = some (z, S') := e
                    rw [e1] at e'
                    cases e'
                    exact .inl ⟨_, _, v', e2, e3, k ι3 H3 _ ((x1.trans x2).trans x3) R3 e4⟩
                  · have e' : (match lkD (.tup tt) l with | some a => some (a, S3) | none => some (w', S3.put n (.dN (l ++ [(.tup tt, w')])))) = some (z, S') := e
                    rw [e1] at e'
                    cases e'
                    refine .inr ⟨e2, fun u hu' => ?_⟩
                    have hn3 : n < S3.m := (R3.ob n _ q4).1
                    obtain ⟨R4, x4⟩ := R3.write (o := .dN (l ++ [(.tup tt, z)])) (ho := rawN X.prog X.w (ι3 n) (storedH xs (nk (.tup tt)) p u)) hn3 fun H' x' e' => by
                      refine ⟨_, e', ?_⟩
                      have := NR.put t8 (rd.mono x'.kp) hu' (r3.mono x') (Paired.mapP h4 fun _ _ q => ⟨q.1, ⟨q.2.1.1, q.2.1.2.mono x'.kp⟩, let ⟨v, h1, h2⟩ := q.2.2; ⟨v, h1, h2.mono x'⟩⟩)
                      unfold ptD at this
                      rw [e1] at this
                      exact this
                    rw [(x2.trans x3).eq n hn] at R4 x4
                    exact k ι3 _ _ (((x1.trans x2).trans x3).trans x4) R4 (r3.mono x4)
            · cases e
          · cases e
        · cases e
      · cases e
    · cases e
end
end Cs
/-! Z10: comprehensions. -/
namespace Cs
open PySem PySem.Spec PyProof.Rows L2

/-! ### own slots -/
theorem wipe_in {σ : St} {j : Nat} : ∀ {vs : List Nat}, j ∈ vs → (wipe σ vs)[j]? = σ[j]?.map fun _ => none
  | [], h => by simp at h
  | v :: vs, h => by
    unfold wipe
    rw [List.getElem?_set]
    by_cases e : v = j
    · subst e
      rw [if_pos rfl, wipe_length]
      by_cases l : v < σ.length
      · rw [if_pos l, List.getElem?_eq_getElem l]
        rfl
      · rw [if_neg l, List.getElem?_eq_none (by omega)]
        rfl
    · rw [if_neg e]
      rcases List.mem_cons.mp h with z | z
      · exact absurd z.symm e
      · exact wipe_in z
theorem wipe_eq {σ σ' : St} {vs : List Nat} (h : ∀ j, j ∉ vs → σ'[j]? = σ[j]?) (hl : σ'.length = σ.length) : wipe σ' vs = wipe σ vs := by
  refine List.ext_getElem? fun j => ?_
  by_cases e : j ∈ vs
  · rw [wipe_in e, wipe_in e]
    by_cases l : j < σ.length
    · rw [List.getElem?_eq_getElem l, List.getElem?_eq_getElem (by omega)]
      rfl
    · rw [List.getElem?_eq_none (by omega), List.getElem?_eq_none (by omega)]
  · rw [wipe_out e, wipe_out e]
    exact h j e
def wipeA (σ : Sl) : List Nat → Sl
  | [] => σ
  | v :: vs => (wipeA σ vs).set v none
theorem RL.none {K : PySem.W.Frag} {ι : Nat → Addr} {m : Nat} {H : Hp} : ∀ {σa : Sl} {σ : St} (i : Nat), RL K ι m H σa σ → RL K ι m H (σa.set i none) (σ.set i none)
  | _, _, _, .nil => .nil
  | _, _, 0, .cons _ t => .cons (fun z e => by cases e) t
  | _, _, i + 1, .cons r t => .cons r (RL.none i t)
theorem RL.wipe {K : PySem.W.Frag} {ι : Nat → Addr} {m : Nat} {H : Hp} {σa : Sl} {σ : St} (h : RL K ι m H σa σ) : ∀ vs : List Nat, RL K ι m H (wipeA σa vs) (L2.wipe σ vs)
  | [] => h
  | v :: vs => RL.none v (RL.wipe h vs)

/-! ### targets within -/
/-- what may change is among vs -/
def Only (vs : List Nat) (σ σ' : St) : Prop := σ'.length = σ.length ∧ ∀ j, j ∉ vs → σ'[j]? = σ[j]?
def gvOf (g : Gb) (vs : List Nat) (ev : Gv) : TG := fun v σ H Q => ∃ ι S a σa σa', RS g ι S H ∧ RL g.K ι S.m H σa σ ∧ RA g.K ι S.m H a v ∧ ev a σa = some σa' ∧ ∀ σ', RL g.K ι S.m H σa' σ' → Only vs σ σ' → Q σ' H
def gvsOf (g : Gb) (vs : List Nat) (ev : Gvs) : TGs := fun v σ H Q => ∃ ι S a σa σa', RS g ι S H ∧ RL g.K ι S.m H σa σ ∧ RAs g.K ι S.m H a v ∧ ev a σa = some σa' ∧ ∀ σ', RL g.K ι S.m H σa' σ' → Only vs σ σ' → Q σ' H
abbrev VG (X : Cx) (c : Nat → Addr) (vs : List Nat) (e : Expr) (ev : Gv) : Prop := PG X e (gvOf (gX X c) vs ev)
abbrev VGs (X : Cx) (c : Nat → Addr) (vs : List Nat) (e : List Expr) (ev : Gvs) : Prop := PGs X e (gvsOf (gX X c) vs ev)
section
variable {X : Cx} {c : Nat → Addr} {pos : Pos} {vs : List Nat}
theorem v_nm {i : Nat} {x : Str} (hv : i ∈ vs) (hN : X.N.Nodup) (hi : X.N[i]? = some x) (hx : Loc X.env.scope x) (hf : X.fn x = true ∨ X.env.scope.names.lookup x = some .local := by first | exact .inl rfl | exact .inr rfl | assumption) : VG X c vs (.Name x pos) (gNm i) :=
  PG.imp (pg_name hN hi hx hf) fun v σ H Q h => by
    obtain ⟨ι, S, a, σa, σa', hS, hL, ha, e, k⟩ := h
    cases e
    exact k _ (RL.set ha i hL) ⟨List.length_set, fun j hj => List.getElem?_set_ne fun z => hj (by rw [← z]; exact hv)⟩
theorem vs_nil : VGs X c vs [] gsNil := PGs.imp pgs_nil fun v σ H Q h => by
  obtain ⟨ι, S, a, σa, σa', hS, hL, ha, e, k⟩ := h
  cases ha with
  | nil =>
    cases e
    exact ⟨rfl, k σ hL ⟨rfl, fun _ _ => rfl⟩⟩
  | cons _ _ => cases e
theorem vs_cons {e : Expr} {es : List Expr} {a : Gv} {r : Gvs} (h1 : VG X c vs e a) (h2 : VGs X c vs es r) (hs : (assignEach (e :: es) X.env).map (·.2) = assign e X.env :: (assignEach es X.env).map (·.2) := by rfl) : VGs X c vs (e :: es) (gsCons a r) :=
  PGs.imp (pgs_cons h1 h2 hs) fun v σ H Q h => by
    obtain ⟨ι, S, l, σa, σa', hS, hL, ha, e, k⟩ := h
    cases ha with
    | nil => cases e
    | cons r1 r2 =>
      unfold gsCons at e
      dsimp only at e
      split at e
      · rename_i σ1 q
        exact ⟨_, _, rfl, ι, S, _, σa, σ1, hS, hL, r1, q, fun σ2 L2 o2 => ⟨ι, S, _, σ1, σa', hS, L2, r2, e, fun σ3 L3 o3 => k σ3 L3 ⟨o3.1.trans o2.1, fun j hj => (o3.2 j hj).trans (o2.2 j hj)⟩⟩⟩
      · cases e
theorem v_tup {es : List Expr} {kk n : Nat} {r : Gvs} (hc : X.calm = true) (h : VGs X c vs es r) (hn : (assignEach es X.env).length = n := by rfl) (hst : (assignEach es X.env).findIdx? (·.1) = none := by rfl) : VG X c vs (.Tuple es kk pos) (gTp n r) :=
  PG.imp (pg_tup hc h hn hst) fun v σ H Q h => by
    obtain ⟨ι, S, a, σa, σa', hS, hL, ha, e, k⟩ := h
    unfold gTp at e
    split at e
    · rename_i l
      cases ha with | dat hd =>
      cases hd with | tup h1 h2 _ =>
      rw [beqN, cond_dec] at e
      by_cases hn : l.length = n
      · rw [if_pos hn] at e
        exact ⟨_, _, rfl, h1, h2.length.symm.trans hn, ι, S, _, σa, σa', hS, hL, h2.as, e, k⟩
      · rw [if_neg hn] at e
        cases e
    · cases e
end

/-! ### tests within -/
abbrev ETs (X : Cx) (c : Nat → Addr) (ifs : List Expr) (ev : Tv) : Prop := PTs X ifs (ttOf (gX X c) ev)
def bYes : Tv := fun _ S => some (true, S)
theorem ts_nil {X : Cx} {c : Nat → Addr} : ETs X c [] bYes := ⟨fun pins s σ H Q I h => pts_nil.run pins s σ H Q I (by
  obtain ⟨ι, σa, S, a, S', hL, hS, e, k⟩ := h
  cases e
  exact k ι H (.refl ..) hS)⟩
theorem ts_one {X : Cx} {c : Nat → Addr} {e : Expr} {ev : Tv} (h : ET X c e ev) : ETs X c [e] ev := pts_one h

/-! ### [e for x in xs if t] -/
def lcL (g : Gv) (t : Tv) (e : Ev) (σ : Sl) (vs : List Nat) (it : Iv) (d : Nat) : Nat → Nat → Sto → Option Sto
  | 0, _, _ => none
  | f + 1, i, S => match nxt it i S with
    | some none => some S
    | some (some a) => match g a (wipeA σ vs) with
      | some σ1 => match t σ1 S with
        | some (true, S1) => match e σ1 S1 with
          | some (y, S2) => match S2.get d with
            | some (.lst acc) => cond (few acc) (lcL g t e σ vs it d f (Nat.succ i) (S2.put d (.lst (acc ++ [y])))) none
            | _ => none
          | none => none
        | some (false, S1) => lcL g t e σ vs it d f (Nat.succ i) S1
        | none => none
      | none => none
    | none => none
def cLc (n : Nv) (g : Gv) (t : Tv) (e : Ev) (vs : List Nat) : Ev := fun σ S => match n σ S with
  | some (it, S1) => match S1.new (.lst []) with
    | some (.obj d, S2) => match lcL g t e σ vs it d 5000 0 S2 with
      | some S3 => some (.obj d, S3)
      | none => none
    | _ => none
  | none => none
theorem ItOk.mono {g : Gb} {it : Iv} {J : It} {ι ι' : Nat → Addr} {S S' : Sto} {H H' : Hp} (h : ItOk g it J ι S H) (x : Ext ι S.m H ι' S'.m H') : ItOk g it J ι' S' H' := fun ι2 S2 H2 i x2 R2 => h ι2 S2 H2 i (x.trans x2) R2
theorem RA.objn {K : PySem.W.Frag} {ι : Nat → Addr} {m : Nat} {H : Hp} {d : Nat} {v : V} (r : RA K ι m H (.obj d) v) : d < m ∧ v = .ref (ι d) := by
  cases r
  exact ⟨by assumption, rfl⟩
theorem lc_t {G : Gb} {n : Nv} {g : Gv} {t : Tv} {e : Ev} {vs : List Nat} (σ : St) (H : Hp) (Q : VK) (h : teOf G (cLc n g t e vs) σ H Q) : tLc (tiOf G n) (gvOf G vs g) (ttOf G t) (teOf G e) vs σ H Q := by
  obtain ⟨ι, σa, S, z, S', hL, hS, e0, k⟩ := h
  unfold cLc at e0
  split at e0
  · rename_i it S1 q1
    split at e0
    · rename_i d S2 q2
      split at e0
      · rename_i S3 q3
        cases e0
        refine ⟨ι, σa, S, it, S1, hL, hS, q1, fun ι1 H1 J x1 R1 ok p hp => ?_⟩
        obtain ⟨ι2, R2, x2, r2⟩ := R1.new1 (ho := .lst []) q2 hp fun ι' x' => ⟨[], upd_same, .nil⟩
        obtain ⟨hd, e2⟩ := r2.objn
        have ep : ι2 d = p := by injection e2.symm
        have x12 := x1.trans x2
        refine ⟨fun i m H' => ∃ ι3 Sc, Ext ι2 S2.m (upd H1 p (.lst [])) ι3 Sc.m H' ∧ RS G ι3 Sc H' ∧ lcL g t e σa vs it d m i Sc = some S', ⟨5000, ι2, S2, .refl .., R2, q3⟩, ?_⟩
        rintro i m H3 ⟨ι3, Sc, x3, R3, e3⟩
        have x13 := x12.trans x3
        have ep3 : ι3 d = p := (x3.eq d hd).trans ep
        cases m with
        | zero => cases e3
        | succ m =>
          unfold lcL at e3
          split at e3
          · rename_i q4
            cases e3
            refine .inl ⟨(ok ι3 _ H3 i (x2.trans x3) R3).1 q4, k ι3 H3 _ x13 R3 ?_⟩
            have q : RA G.K ι3 S'.m H3 (.obj d) (.ref (ι3 d)) := .obj (Nat.lt_of_lt_of_le hd x3.le)
            rw [ep3] at q
            exact q
          · rename_i a q4
            obtain ⟨go, yl⟩ := (ok ι3 _ H3 i (x2.trans x3) R3).2 a q4
            refine .inr ⟨go, fun H' => ∃ ι4 S4, Ext ι2 S2.m (upd H1 p (.lst [])) ι4 S4.m H' ∧ RS G ι4 S4 H' ∧ lcL g t e σa vs it d m (i + 1) S4 = some S', fun H' h => ⟨m, Nat.lt_succ_self m, h⟩, fun v H4 hy => ?_⟩
            obtain ⟨x4, R4, r4⟩ := yl v H4 hy
            split at e3
            · rename_i σ1 q5
              refine ⟨ι3, Sc, a, wipeA σa vs, σ1, R4, (RL.mono (x13.trans x4) hL).wipe vs, r4, q5, fun σ2 M2 o2 => ⟨?_, ?_⟩⟩
              · have hw : L2.wipe (L2.wipe σ vs) vs = L2.wipe σ vs := wipe_eq (fun j hj => wipe_out hj) (wipe_length _ _)
                exact (wipe_eq o2.2 o2.1).trans hw
              · split at e3
                · rename_i S5 q6
                  refine ⟨ι3, σ1, Sc, true, S5, M2, R4, q6, fun ι5 H5 x5 R5 => iteT ?_⟩
                  split at e3
                  · rename_i y S6 q7
                    refine ⟨ι5, σ1, S5, y, S6, M2.mono x5, R5, q7, fun ι6 H6 w x6 R6 r6 => ?_⟩
                    split at e3
                    · rename_i acc q8
                      cases f : few acc with
                      | false => rw [f] at e3; cases e3
                      | true =>
                        rw [f] at e3
                        obtain ⟨us, h1, h2⟩ := (R6.ob d _ q8).2
                        have x36 := (x4.trans x5).trans x6
                        have hd6 : d < S6.m := (R6.ob d _ q8).1
                        have ep6 : ι6 d = p := (x36.eq d (Nat.lt_of_lt_of_le hd x3.le)).trans ep3
                        obtain ⟨R7, x7⟩ := R6.write (o := .lst (acc ++ [y])) (ho := .lst (us ++ [w])) hd6 fun H' x' e' => ⟨_, e', Paired.append (RAs.mono x' h2) (.cons (r6.mono x') .nil)⟩
                        rw [ep6] at h1 R7 x7
                        exact ⟨us, h1, few_line f (Paired.len h2), ι6, S6.put d (.lst (acc ++ [y])), (x3.trans x36).trans x7, R7, e3⟩
                    · cases e3
                  · cases e3
                · rename_i S5 q6
                  refine ⟨ι3, σ1, Sc, false, S5, M2, R4, q6, fun ι5 H5 x5 R5 => iteF ⟨ι5, S5, (x3.trans x4).trans x5, R5, e3⟩⟩
                · cases e3
            · cases e3
          · cases e3
      · cases e0
    · cases e0
  · cases e0

/-! ### [e for x in xs for y in ys] -/
def lcI (g : Gv) (t : Tv) (e : Ev) (σ : Sl) (vs : List Nat) (it : Iv) (d : Nat) : Nat → Nat → Sto → Option Sto := lcL g t e σ vs it d
def lcL2 (g : Gv) (t : Tv) (n1 : Nv) (g1 : Gv) (t1 : Tv) (e : Ev) (σ : Sl) (vs vs1 : List Nat) (it : Iv) (d : Nat) : Nat → Nat → Sto → Option Sto
  | 0, _, _ => none
  | f + 1, i, S => match nxt it i S with
    | some none => some S
    | some (some a) => match g a (wipeA σ vs) with
      | some σ1 => match t σ1 S with
        | some (true, S1) => match n1 σ1 S1 with
          | some (it1, S2) => match lcL g1 t1 e σ1 vs1 it1 d 5000 0 S2 with
            | some S3 => lcL2 g t n1 g1 t1 e σ vs vs1 it d f (Nat.succ i) S3
            | none => none
          | none => none
        | some (false, S1) => lcL2 g t n1 g1 t1 e σ vs vs1 it d f (Nat.succ i) S1
        | none => none
      | none => none
    | none => none
def cLc2 (n : Nv) (g : Gv) (t : Tv) (n1 : Nv) (g1 : Gv) (t1 : Tv) (e : Ev) (vs vs1 : List Nat) : Ev := fun σ S => match n σ S with
  | some (it, S1) => match S1.new (.lst []) with
    | some (.obj d, S2) => match lcL2 g t n1 g1 t1 e σ vs vs1 it d 5000 0 S2 with
      | some S3 => some (.obj d, S3)
      | none => none
    | _ => none
  | none => none
theorem lc2_t {G : Gb} {n n1 : Nv} {g g1 : Gv} {t t1 : Tv} {e : Ev} {vs vs1 : List Nat} (σ : St) (H : Hp) (Q : VK) (h : teOf G (cLc2 n g t n1 g1 t1 e vs vs1) σ H Q) :
    tLc2 (tiOf G n) (gvOf G vs g) (ttOf G t) (tiOf G n1) (gvOf G vs1 g1) (ttOf G t1) (teOf G e) vs vs1 σ H Q := by
  obtain ⟨ι, σa, S, z, S', hL, hS, e0, k⟩ := h
  unfold cLc2 at e0
  split at e0
  · rename_i it S1 q1
    split at e0
    · rename_i d S2 q2
      split at e0
      · rename_i S3 q3
        cases e0
        refine ⟨ι, σa, S, it, S1, hL, hS, q1, fun ι1 H1 J x1 R1 ok p hp => ?_⟩
        obtain ⟨ι2, R2, x2, r2⟩ := R1.new1 (ho := .lst []) q2 hp fun ι' x' => ⟨[], upd_same, .nil⟩
        obtain ⟨hd, e2⟩ := r2.objn
        have ep : ι2 d = p := by injection e2.symm
        have x12 := x1.trans x2
        refine ⟨fun i m H' => ∃ ι3 Sc, Ext ι2 S2.m (upd H1 p (.lst [])) ι3 Sc.m H' ∧ RS G ι3 Sc H' ∧ lcL2 g t n1 g1 t1 e σa vs vs1 it d m i Sc = some S', ⟨5000, ι2, S2, .refl .., R2, q3⟩, ?_⟩
        rintro i m H3 ⟨ι3, Sc, x3, R3, e3⟩
        have x13 := x12.trans x3
        have ep3 : ι3 d = p := (x3.eq d hd).trans ep
        cases m with
        | zero => cases e3
        | succ m =>
          unfold lcL2 at e3
          split at e3
          · rename_i q4
            cases e3
            refine .inl ⟨(ok ι3 _ H3 i (x2.trans x3) R3).1 q4, k ι3 H3 _ x13 R3 ?_⟩
            have q : RA G.K ι3 S'.m H3 (.obj d) (.ref (ι3 d)) := .obj (Nat.lt_of_lt_of_le hd x3.le)
            rw [ep3] at q
            exact q
          · rename_i a q4
            obtain ⟨go, yl⟩ := (ok ι3 _ H3 i (x2.trans x3) R3).2 a q4
            refine .inr ⟨go, fun H' => ∃ ι4 S4, Ext ι2 S2.m (upd H1 p (.lst [])) ι4 S4.m H' ∧ RS G ι4 S4 H' ∧ lcL2 g t n1 g1 t1 e σa vs vs1 it d m (i + 1) S4 = some S', fun H' h => ⟨m, Nat.lt_succ_self m, h⟩, fun v H4 hy => ?_⟩
            obtain ⟨x4, R4, r4⟩ := yl v H4 hy
            split at e3
            · rename_i σ1 q5
              refine ⟨ι3, Sc, a, wipeA σa vs, σ1, R4, (RL.mono (x13.trans x4) hL).wipe vs, r4, q5, fun σ2 M2 o2 => ⟨?_, ?_⟩⟩
              · have hw : L2.wipe (L2.wipe σ vs) vs = L2.wipe σ vs := wipe_eq (fun j hj => wipe_out hj) (wipe_length _ _)
                exact (wipe_eq o2.2 o2.1).trans hw
              · split at e3
                · rename_i S5 q6
                  refine ⟨ι3, σ1, Sc, true, S5, M2, R4, q6, fun ι5 H5 x5 R5 => iteT ?_⟩
                  split at e3
                  · rename_i it1 S6 q7
                    split at e3
                    · rename_i S7 q8
                      refine ⟨ι5, σ1, S5, it1, S6, M2.mono x5, R5, q7, fun ι6 H6 J1 x6 R6 ok1 => ?_⟩
                      have x36 := (x4.trans x5).trans x6
                      refine ⟨fun j m1 H' => ∃ ι7 Sd, Ext ι6 S6.m H6 ι7 Sd.m H' ∧ RS G ι7 Sd H' ∧ lcL g1 t1 e σ1 vs1 it1 d m1 j Sd = some S7, ⟨5000, ι6, S6, .refl .., R6, q8⟩, ?_⟩
                      rintro j m1 H7 ⟨ι7, Sd, x7, R7, e7⟩
                      have x37 := x36.trans x7
                      cases m1 with
                      | zero => cases e7
                      | succ m1 =>
                        unfold lcL at e7
                        split at e7
                        · rename_i q9
                          cases e7
                          exact .inl ⟨(ok1 ι7 _ H7 j x7 R7).1 q9, ι7, _, x3.trans x37, R7, e3⟩
                        · rename_i a1 q9
                          obtain ⟨go1, yl1⟩ := (ok1 ι7 _ H7 j x7 R7).2 a1 q9
                          refine .inr ⟨go1, fun H' => ∃ ι8 S8, Ext ι6 S6.m H6 ι8 S8.m H' ∧ RS G ι8 S8 H' ∧ lcL g1 t1 e σ1 vs1 it1 d m1 (j + 1) S8 = some S7, fun H' h => ⟨m1, Nat.lt_succ_self m1, h⟩, fun v8 H8 hy8 => ?_⟩
                          obtain ⟨x8, R8, r8⟩ := yl1 v8 H8 hy8
                          split at e7
                          · rename_i σ3 q10
                            refine ⟨ι7, Sd, a1, wipeA σ1 vs1, σ3, R8, (RL.mono ((((x5.trans x6).trans x7)).trans x8) M2).wipe vs1, r8, q10, fun σ4 L4 o4 => ⟨?_, ?_⟩⟩
                            · have hw : L2.wipe (L2.wipe σ2 vs1) vs1 = L2.wipe σ2 vs1 := wipe_eq (fun j hj => wipe_out hj) (wipe_length _ _)
                              exact (wipe_eq o4.2 o4.1).trans hw
                            · split at e7
                              · rename_i S9 q11
                                refine ⟨ι7, σ3, Sd, true, S9, L4, R8, q11, fun ι9 H9 x9 R9 => iteT ?_⟩
                                split at e7
                                · rename_i y S10 q12
                                  refine ⟨ι9, σ3, S9, y, S10, L4.mono x9, R9, q12, fun ι10 H10 w x10 R10 r10 => ?_⟩
                                  split at e7
                                  · rename_i acc q13
                                    cases f : few acc with
                                    | false => rw [f] at e7; cases e7
                                    | true =>
                                      rw [f] at e7
                                      obtain ⟨us, h1, h2⟩ := (R10.ob d _ q13).2
                                      have xx := ((x37.trans x8).trans x9).trans x10
                                      have hd10 : d < S10.m := (R10.ob d _ q13).1
                                      have ep10 : ι10 d = p := (xx.eq d (Nat.lt_of_lt_of_le hd x3.le)).trans ep3
                                      obtain ⟨R11, x11⟩ := R10.write (o := .lst (acc ++ [y])) (ho := .lst (us ++ [w])) hd10 fun H' x' e' => ⟨_, e', Paired.append (RAs.mono x' h2) (.cons (r10.mono x') .nil)⟩
                                      rw [ep10] at h1 R11 x11
                                      exact ⟨us, h1, few_line f (Paired.len h2), ι10, S10.put d (.lst (acc ++ [y])), (((x7.trans x8).trans x9).trans x10).trans x11, R11, e7⟩
                                  · cases e7
                                · cases e7
                              · rename_i S9 q11
                                exact ⟨ι7, σ3, Sd, false, S9, L4, R8, q11, fun ι9 H9 x9 R9 => iteF ⟨ι9, S9, (x7.trans x8).trans x9, R9, e7⟩⟩
                              · cases e7
                          · cases e7
                        · cases e7
                    · cases e3
                  · cases e3
                · rename_i S5 q6
                  refine ⟨ι3, σ1, Sc, false, S5, M2, R4, q6, fun ι5 H5 x5 R5 => iteF ⟨ι5, S5, (x3.trans x4).trans x5, R5, e3⟩⟩
                · cases e3
            · cases e3
          · cases e3
      · cases e0
    · cases e0
  · cases e0

/-! ### {k: v for x in xs if t}, keys ints and texts -/
def dcL (g : Gv) (t : Tv) (ek ev : Ev) (σ : Sl) (vs : List Nat) (it : Iv) (d : Nat) : Nat → Nat → Sto → Option Sto
  | 0, _, _ => none
  | f + 1, i, S => match nxt it i S with
    | some none => some S
    | some (some a) => match g a (wipeA σ vs) with
      | some σ1 => match t σ1 S with
        | some (true, S1) => match ek σ1 S1 with
          | some (.dat kd, S2) => match ev σ1 S2 with
            | some (y, S3) => match S3.get d with
              | some (.dK l) => match keyOf kd with
                | some _ => cond (few l) (dcL g t ek ev σ vs it d f (Nat.succ i) (S3.put d (.dK (ptD kd y l)))) none
                | none => none
              | _ => none
            | none => none
          | _ => none
        | some (false, S1) => dcL g t ek ev σ vs it d f (Nat.succ i) S1
        | none => none
      | none => none
    | none => none
def cDc (n : Nv) (g : Gv) (t : Tv) (ek ev : Ev) (vs : List Nat) : Ev := fun σ S => match n σ S with
  | some (it, S1) => match S1.new (.dK []) with
    | some (.obj d, S2) => match dcL g t ek ev σ vs it d 5000 0 S2 with
      | some S3 => some (.obj d, S3)
      | none => none
    | _ => none
  | none => none
theorem dc_t {G : Gb} {n : Nv} {g : Gv} {t : Tv} {ek ev : Ev} {vs : List Nat} (σ : St) (H : Hp) (Q : VK) (h : teOf G (cDc n g t ek ev vs) σ H Q) : tDc (tiOf G n) (gvOf G vs g) (ttOf G t) (teOf G ek) (teOf G ev) vs σ H Q := by
  obtain ⟨ι, σa, S, z, S', hL, hS, e0, k⟩ := h
  unfold cDc at e0
  split at e0
  · rename_i it S1 q1
    split at e0
    · rename_i d S2 q2
      split at e0
      · rename_i S3 q3
        cases e0
        refine ⟨ι, σa, S, it, S1, hL, hS, q1, fun ι1 H1 J x1 R1 ok p hp => ?_⟩
        obtain ⟨ι2, R2, x2, r2⟩ := R1.new1 (ho := .dK []) q2 hp fun ι' x' => ⟨[], upd_same, .nil⟩
        obtain ⟨hd, e2⟩ := r2.objn
        have ep : ι2 d = p := by injection e2.symm
        have x12 := x1.trans x2
        refine ⟨fun i m H' => ∃ ι3 Sc, Ext ι2 S2.m (upd H1 p (.dK [])) ι3 Sc.m H' ∧ RS G ι3 Sc H' ∧ dcL g t ek ev σa vs it d m i Sc = some S', ⟨5000, ι2, S2, .refl .., R2, q3⟩, ?_⟩
        rintro i m H3 ⟨ι3, Sc, x3, R3, e3⟩
        have x13 := x12.trans x3
        have ep3 : ι3 d = p := (x3.eq d hd).trans ep
        cases m with
        | zero => cases e3
        | succ m =>
          unfold dcL at e3
          split at e3
          · rename_i q4
            cases e3
            refine .inl ⟨(ok ι3 _ H3 i (x2.trans x3) R3).1 q4, k ι3 H3 _ x13 R3 ?_⟩
            have q : RA G.K ι3 S'.m H3 (.obj d) (.ref (ι3 d)) := .obj (Nat.lt_of_lt_of_le hd x3.le)
            rw [ep3] at q
            exact q
          · rename_i a q4
            obtain ⟨go, yl⟩ := (ok ι3 _ H3 i (x2.trans x3) R3).2 a q4
            refine .inr ⟨go, fun H' => ∃ ι4 S4, Ext ι2 S2.m (upd H1 p (.dK [])) ι4 S4.m H' ∧ RS G ι4 S4 H' ∧ dcL g t ek ev σa vs it d m (i + 1) S4 = some S', fun H' h => ⟨m, Nat.lt_succ_self m, h⟩, fun v H4 hy => ?_⟩
            obtain ⟨x4, R4, r4⟩ := yl v H4 hy
            split at e3
            · rename_i σ1 q5
              refine ⟨ι3, Sc, a, wipeA σa vs, σ1, R4, (RL.mono (x13.trans x4) hL).wipe vs, r4, q5, fun σ2 M2 o2 => ⟨?_, ?_⟩⟩
              · have hw : L2.wipe (L2.wipe σ vs) vs = L2.wipe σ vs := wipe_eq (fun j hj => wipe_out hj) (wipe_length _ _)
                exact (wipe_eq o2.2 o2.1).trans hw
              · split at e3
                · rename_i S5 q6
                  refine ⟨ι3, σ1, Sc, true, S5, M2, R4, q6, fun ι5 H5 x5 R5 => iteT ?_⟩
                  split at e3
                  · rename_i kd S6 q7
                    refine ⟨ι5, σ1, S5, _, S6, M2.mono x5, R5, q7, fun ι6 H6 w x6 R6 r6 => ?_⟩
                    split at e3
                    · rename_i y S7 q8
                      refine ⟨ι6, σ1, S6, y, S7, M2.mono (x5.trans x6), R6, q8, fun ι7 H7 w7 x7 R7 r7 => ?_⟩
                      split at e3
                      · rename_i l q9
                        cases hk : keyOf kd with
                        | none => rw [hk] at e3; cases e3
                        | some kk =>
                          rw [hk] at e3
                          cases f : few l with
                          | false => rw [f] at e3; cases e3
                          | true =>
                            rw [f] at e3
                            obtain ⟨kvs, h1, h2⟩ := (R7.ob d _ q9).2
                            have x37 := ((x4.trans x5).trans x6).trans x7
                            have hd7 : d < S7.m := (R7.ob d _ q9).1
                            have ep7 : ι7 d = p := (x37.eq d (Nat.lt_of_lt_of_le hd x3.le)).trans ep3
                            obtain ⟨R8, x8⟩ := R7.write (o := .dK (ptD kd y l)) (ho := .dK (putK kvs kk w7)) hd7 fun H' x' e' =>
                              ⟨_, e', KR.put hk (r7.mono x') (Paired.mapP h2 fun _ _ q => ⟨q.1, q.2.mono x'⟩)⟩
                            rw [ep7] at h1 R8 x8
                            cases r6 with | dat rd =>
                            exact ⟨kvs, kk, rd.kv hk, h1, few_line f (Paired.len h2), ι7, S7.put d (.dK (ptD kd y l)), (x3.trans x37).trans x8, R8, e3⟩
                      · cases e3
                    · cases e3
                  · cases e3
                · rename_i S5 q6
                  refine ⟨ι3, σ1, Sc, false, S5, M2, R4, q6, fun ι5 H5 x5 R5 => iteF ⟨ι5, S5, (x3.trans x4).trans x5, R5, e3⟩⟩
                · cases e3
            · cases e3
          · cases e3
      · cases e0
    · cases e0
  · cases e0

section
variable {X : Cx} {c : Nat → Addr} {pos : Pos}
abbrev Blk (X : Cx) (scope : Scope) (R : Cx → Prop) : Prop := ∀ (s : Shared) (H : Hp) (C : Addr) (cl : List (Str × Addr)) (fp : List Addr), R (X.blk s H scope (compEnvC scope cl C X.env) fp)
theorem e_lc {elt tg iter : Expr} {ifs : List Expr} {scope : Scope} {n : Nv} {g : Gv} {t : Tv} {ev : Ev} (own : List (Str × Nat)) (hc : X.calm = true) (hN : X.N.Nodup) (hi : EI X c tg iter n) (ok : BlkOk X.N X.env.scope scope own)
    (hg : Blk X scope fun Y => VG Y c (own.map (·.2)) tg g) (ht : Blk X scope fun Y => ETs Y c ifs t) (he : Blk X scope fun Y => EE Y c elt ev) (hs : ∀ x, foldedSetIterable iter X.env x = pure x := by intro _; rfl) :
    EE X c (.ListComp elt [⟨tg, iter, ifs, 0⟩] scope pos) (cLc n g t ev (own.map (·.2))) := PE.imp (pe_lc hc hN hi ok hg ht he hs) lc_t
theorem s_lc {elt tg iter : Expr} {ifs : List Expr} {scope : Scope} {n : Nv} {g : Gv} {t : Tv} {ev : Ev} {i : Nat} {y : Str} {py spos : Pos} (own : List (Str × Nat)) (hc : X.calm = true) (hN : X.N.Nodup) (hy : X.N[i]? = some y) (hyl : X.env.scope.names.lookup y = some .local)
    (hsw : swapsWith (.ListComp elt [⟨tg, iter, ifs, 0⟩] scope pos) (some (.Name y py)) spos.line X.env = pure true) (hi : EI X c tg iter n) (ok : BlkOk X.N X.env.scope scope own)
    (hg : Blk X scope fun Y => VG Y c (own.map (·.2)) tg g) (ht : Blk X scope fun Y => ETs Y c ifs t) (he : Blk X scope fun Y => EE Y c elt ev) (hs : ∀ x, foldedSetIterable iter X.env x = pure x := by intro _; rfl) :
    ES X c (.Assign [.Name y py] (.ListComp elt [⟨tg, iter, ifs, 0⟩] scope pos) spos) (sAsg (cLc n g t ev (own.map (·.2))) (gNm i)) := PS.imp (ps_setLc hc hN hy hyl hsw hi ok hg ht he hs) fun E σ H h => by
  obtain ⟨ι, σa, S, z, S', hL, hS, e, k⟩ := asg_t E σ H h
  exact lc_t (G := gX X c) σ H _ ⟨ι, σa, S, z, S', hL, hS, e, fun ι1 H1 v x1 R1 r1 => by
    obtain ⟨ι2, S2, a, σ1, σ2, R2, L2, r2, e2, k2⟩ := k ι1 H1 v x1 R1 r1
    cases e2
    exact k2 _ (RL.set r2 i L2)⟩
theorem e_lc2 {elt tg iter tg1 iter1 : Expr} {ifs ifs1 : List Expr} {scope : Scope} {n n1 : Nv} {g g1 : Gv} {t t1 : Tv} {ev : Ev} (own : List (Str × Nat)) (vs1 : List Nat) (hv : ∀ i ∈ vs1, i ∈ own.map (·.2)) (hc : X.calm = true) (hN : X.N.Nodup) (hi : EI X c tg iter n) (ok : BlkOk X.N X.env.scope scope own)
    (hg : Blk X scope fun Y => VG Y c (own.map (·.2)) tg g) (ht : Blk X scope fun Y => ETs Y c ifs t) (hi1 : Blk X scope fun Y => EI Y c tg1 iter1 n1) (hg1 : Blk X scope fun Y => VG Y c vs1 tg1 g1) (ht1 : Blk X scope fun Y => ETs Y c ifs1 t1)
    (he : Blk X scope fun Y => EE Y c elt ev) (hs : ∀ x, foldedSetIterable iter X.env x = pure x := by intro _; rfl) (hs1 : ∀ env x, foldedSetIterable iter1 env x = pure x := by intro _ _; rfl) :
    EE X c (.ListComp elt [⟨tg, iter, ifs, 0⟩, ⟨tg1, iter1, ifs1, 0⟩] scope pos) (cLc2 n g t n1 g1 t1 ev (own.map (·.2)) vs1) := PE.imp (pe_lc2 hc hN hi ok hv hg ht hi1 hg1 ht1 he hs hs1) lc2_t
theorem s_lc2 {elt tg iter tg1 iter1 : Expr} {ifs ifs1 : List Expr} {scope : Scope} {n n1 : Nv} {g g1 : Gv} {t t1 : Tv} {ev : Ev} {i : Nat} {y : Str} {py spos : Pos} (own : List (Str × Nat)) (vs1 : List Nat) (hv : ∀ i ∈ vs1, i ∈ own.map (·.2)) (hc : X.calm = true) (hN : X.N.Nodup) (hy : X.N[i]? = some y) (hyl : X.env.scope.names.lookup y = some .local)
    (hsw : swapsWith (.ListComp elt [⟨tg, iter, ifs, 0⟩, ⟨tg1, iter1, ifs1, 0⟩] scope pos) (some (.Name y py)) spos.line X.env = pure true) (hi : EI X c tg iter n) (ok : BlkOk X.N X.env.scope scope own)
    (hg : Blk X scope fun Y => VG Y c (own.map (·.2)) tg g) (ht : Blk X scope fun Y => ETs Y c ifs t) (hi1 : Blk X scope fun Y => EI Y c tg1 iter1 n1) (hg1 : Blk X scope fun Y => VG Y c vs1 tg1 g1) (ht1 : Blk X scope fun Y => ETs Y c ifs1 t1)
    (he : Blk X scope fun Y => EE Y c elt ev) (hs : ∀ x, foldedSetIterable iter X.env x = pure x := by intro _; rfl) (hs1 : ∀ env x, foldedSetIterable iter1 env x = pure x := by intro _ _; rfl) :
    ES X c (.Assign [.Name y py] (.ListComp elt [⟨tg, iter, ifs, 0⟩, ⟨tg1, iter1, ifs1, 0⟩] scope pos) spos) (sAsg (cLc2 n g t n1 g1 t1 ev (own.map (·.2)) vs1) (gNm i)) := PS.imp (ps_setLc2 hc hN hy hyl hsw hi ok hv hg ht hi1 hg1 ht1 he hs hs1) fun E σ H h => by
  obtain ⟨ι, σa, S, z, S', hL, hS, e, k⟩ := asg_t E σ H h
  exact lc2_t (G := gX X c) σ H _ ⟨ι, σa, S, z, S', hL, hS, e, fun ι1 H1 v x1 R1 r1 => by
    obtain ⟨ι2, S2, a, σ1, σ2, R2, L2, r2, e2, k2⟩ := k ι1 H1 v x1 R1 r1
    cases e2
    exact k2 _ (RL.set r2 i L2)⟩
end
end Cs
/-! Z11: calls, methods, instances, defs; dict comprehensions as statements. -/
namespace Cs
open PySem PySem.Spec PyProof.Rows L2

abbrev Fv := List A → Sto → Option (A × Sto)
def spR (g : Gb) (ev : Fv) : Sp := fun vs H Q _ => ∃ ι as S a S', RAs g.K ι S.m H as vs ∧ RS g ι S H ∧ ev as S = some (a, S') ∧ Wa g ι S H a S' Q
def sl0 (n k : Nat) (args : List A) : Sl := args.map some ++ List.replicate (n - k) none
def runB (n k : Nat) (body : Sv) : Fv := fun args S => cond (Nat.beq args.length k) (match body (sl0 n k args) S with
  | some (.rt a, _, S') => some (a, S')
  | some (.nx, _, S') => some (.dat .non, S')
  | _ => none) none
theorem RL.start {K : PySem.W.Frag} {ι : Nat → Addr} {m : Nat} {H : Hp} : ∀ {as : List A} {vs : List V}, RAs K ι m H as vs → RL K ι m H (as.map some) (vs.map some)
  | _, _, .nil => .nil
  | _, _, .cons r t => .cons (fun x e => by cases e; exact ⟨_, rfl, r⟩) (RL.start t)
theorem RL.blank {K : PySem.W.Frag} {ι : Nat → Addr} {m : Nat} {H : Hp} : ∀ n : Nat, RL K ι m H (List.replicate n Option.none) (List.replicate n Option.none)
  | 0 => .nil
  | n + 1 => .cons (fun x e => by cases e) (RL.blank n)
section
variable {P : Program} {w : World} {K : PySem.W.Frag} {mg : Str → Option Value} {base : Heap} {c : Nat → Addr}
abbrev gB (P : Program) (w : World) (K : PySem.W.Frag) (c : Nat → Addr) : Gb := ⟨P, w, K, c, fNm⟩
theorem fn_ok {x qual : Str} {st : Stmt} {f : Addr} {fd : FuncData} {N ps : List Str} {k : Nat} {body : Sv} (F : Fun K x qual st f fd) (S : FnScope N ps (defScope st))
    (hb : ∀ (cdv : Value) (A : Around) (outer : List Env) (s : Shared) (H : Hp) (E : XK), Room k (A.deeper (envOfC qual (defScope st) s.heap.objs.size f cdv)) → EB (cxOf CX0 P w K mg base N qual (defScope st) f cdv A outer s H E).nox c (defBody st) body) :
    FnOk P w K mg base CX0 (k + 1) f fd ps (spR (gB P w K c) (runB N.length ps.length body)) := by
  have len : ∀ vs H Q E, spR (gB P w K c) (runB N.length ps.length body) vs H Q E → vs.length = ps.length := by
    rintro vs H Q E ⟨ι, as, S, a, S', r, R, e, k⟩
    unfold runB at e
    rw [beqN, cond_dec] at e
    by_cases h : as.length = ps.length
    · exact (Paired.len r).symm.trans h
    · rw [if_neg h] at e
      cases e
  refine F.ok S len fun cdv A outer s H vs Q E hr hsp => ⟨_, hb cdv A outer s H E hr, ?_⟩
  obtain ⟨ι, as, S0, a, S', r, R, e, kk⟩ := hsp
  unfold runB at e
  rw [beqN, cond_dec] at e
  by_cases h : as.length = ps.length
  · rw [if_pos h] at e
    have hv : vs.length = ps.length := (Paired.len r).symm.trans h
    have L : RL K ι S0.m H (sl0 N.length ps.length as) (L2.start N vs) := by
      unfold sl0 L2.start
      rw [hv]
      exact Paired.append (RL.start r) (RL.blank _)
    split at e
    · rename_i a' σ' S1 q
      cases e
      exact ⟨ι, _, S0, .rt a, σ', S', L, R, q, kk⟩
    · rename_i σ' S1 q
      cases e
      exact ⟨ι, _, S0, .nx, σ', S', L, R, q, fun ι' H' σ2 x' R' L' => kk ι' H' .non x' R' (.dat .non)⟩
    · cases e
  · rw [if_neg h] at e
    cases e
end

/-! ### calls -/
section
variable {X : Cx} {c : Nat → Addr} {pos p apos : Pos} {k : Nat} {f : Addr} {fd : FuncData} {ps : List Str} {x m : Str} {ev : Fv} {e o : Expr} {es : List Expr} {av : Av}
theorem app_nilV (vs : List V) : vs ++ [] = vs := List.append_nil vs
theorem call_t {g : Gb} {av : Av} {ev : Fv} (σ : St) (H : Hp) (Q : VK) (h : teOf g (cArgs ev av) σ H Q) : tCall (spR g ev) [] (fun _ _ _ => False) (taOf g av) σ H Q := by
  have h' := args_t (r := fun vs H1 Q => spR g ev (vs ++ []) H1 Q (fun _ _ _ => False)) (o := ev) (fun ι S H x v z S' Q R r e k => by
    show spR g ev (v ++ []) H Q _
    rw [List.append_nil]
    exact ⟨ι, x, S, z, S', r, R, e, k⟩) σ H Q h
  exact h'
theorem e_call (F : FnOk X.prog X.w X.K X.mg X.base CX0 k f fd ps (spR (gX X c) ev)) (hr : Room k X.A) (hg : Gl X x) (hm : X.mg x = some (.ref f)) (hk : PySem.W.keepIn X.K (.ref f) = true) (hb : Binds X.K fd ps [])
    (ha : EA X c (e :: es) av) (hdb : (x == ("__debug__" : Str)) = false := by decide) (he : starEach (e :: es) X.env = (false, eval e X.env) :: starEach es X.env := by rfl) (hpl : (backTo pos (starEach es X.env)).any (·.1) = false := by rfl) :
    EE X c (.Call (.Name x p) (e :: es) [] pos) (cArgs ev av) := PE.imp (pe_call F hr hg hm hk hb .nil pass0 ha hdb he hpl) call_t
/-- no field has the name -/
def NoF (m : Str) : Bool := (fTab.all fun x => !(x == m)) && !(("?" : Str) == m)
theorem fNm_ne {m : Str} (h : NoF m = true) (j : Nat) : fNm j ≠ m := by
  unfold NoF at h
  rw [Bool.and_eq_true, List.all_eq_true] at h
  obtain ⟨h1, h2⟩ := h
  unfold fNm
  by_cases hj : j < fTab.length
  · have := h1 _ (List.getElem_mem hj)
    rw [List.getD_eq_getElem?_getD, List.getElem?_eq_getElem hj]
    intro z
    rw [Option.getD_some] at z
    rw [z] at this
    simp at this
  · rw [List.getD_eq_getElem?_getD, List.getElem?_eq_none (by omega)]
    intro z
    rw [Option.getD_none] at z
    rw [z] at h2
    simp at h2
theorem FR.no {K : PySem.W.Frag} {ι : Nat → Addr} {n : Nat} {H : Hp} {m : Str} (h : NoF m = true) : ∀ {l : List (Nat × A)} {fs : List (Str × V)}, FR K ι n H l fs → fs.lookup m = none
  | _, _, .nil => rfl
  | (j, a) :: l, (g, y) :: fs, .cons r t => by
    have e : fNm j = g := r.1
    have ne : (m == g) = false := by
      rw [beq_eq_false_iff_ne, ← e]
      exact fun z => fNm_ne h j z.symm
    rw [List.lookup_cons, ne]
    exact FR.no h t
/-- o.m(..): o an instance of the class ci -/
def cMe (ci : Nat) (ev : Fv) (eo : Ev) (av : Av) : Ev := fun σ S => match eo σ S with
  | some (.obj n, S1) => match S1.get n with
    | some (.ins cj _) => cond (Nat.beq cj ci) (match av σ S1 with
      | some (as, S2) => ev (.obj n :: as) S2
      | none => none) none
    | _ => none
  | _ => none
theorem meth_t {g : Gb} {ci : Nat} {eo : Ev} {av : Av} {ev : Fv} {m : Str} (hf : NoF m = true) (hn : g.fN = fNm) (σ : St) (H : Hp) (Q : VK) (h : teOf g (cMe ci ev eo av) σ H Q) : tMeth (g.cls ci) m (spR g ev) [] (fun _ _ _ => False) (teOf g eo) (taOf g av) σ H Q := by
  obtain ⟨ι, σa, S, z, S', hL, hS, e, k⟩ := h
  unfold cMe at e
  split at e
  · rename_i n S1 q1
    split at e
    · rename_i cj l q2
      rw [beqN, cond_dec] at e
      by_cases hc : cj = ci
      · rw [if_pos hc] at e
        subst hc
        split at e
        · rename_i as S2 q3
          refine ⟨ι, σa, S, _, S1, hL, hS, q1, fun ι1 H1 v x1 R1 r1 => ?_⟩
          have r1' := r1
          cases r1 with | obj hn' =>
          obtain ⟨dx, fs, h1, h2⟩ := (R1.ob n _ q2).2
          rw [hn] at h2
          refine ⟨_, dx, fs, rfl, h1, FR.no hf h2, ι1, σa, S1, as, S2, hL.mono x1, R1, q3, fun ι2 H2 vs x2 R2 r2 => ?_⟩
          show spR g ev (V.ref (ι1 n) :: (vs ++ [])) H2 Q _
          rw [List.append_nil]
          exact ⟨ι2, _, S2, z, S', .cons (r1'.mono x2) r2, R2, e, Wa.from (x1.trans x2) k⟩
        · cases e
      · rw [if_neg hc] at e
        cases e
    · cases e
  · cases e
theorem e_meth {pl : Sem Bool} {ci : Nat} {eo : Ev} (ck : CK X.K c) (ho : EE X c o eo) (hm : Meth X.K (c ci) m f) (hf : NoF m = true) (F : FnOk X.prog X.w X.K X.mg X.base CX0 k f fd ps (spR (gX X c) ev)) (hr : Room k X.A) (hb : Binds X.K fd ps [])
    (ha : EA X c (e :: es) av)
    (hst : starEach (e :: es) X.env = (false, eval e X.env) :: starEach es X.env := by rfl) (hpl : (backTo pos (starEach es X.env)).any (·.1) = false := by rfl)
    (ht : eval (.Call (.Attribute o m apos) (e :: es) [] pos) X.env = (do
      let ov ← eval o X.env
      standAt apos.atName
      let (f, first) ← holding [ov] (getMethod ov m pl)
      callWith pos f first (backTo pos (starEach (e :: es) X.env)) (backToKw pos (keywordEach [] X.env))) := by rfl) (hci : ci < 3 := by decide) :
    EE X c (.Call (.Attribute o m apos) (e :: es) [] pos) (cMe ci ev eo av) := PE.imp (pe_meth (pl := pl) ho (ck.cls ci hci) hm F hr hb .nil pass0 ha hst hpl ht) (meth_t hf rfl)
theorem e_meth0 {pl : Sem Bool} {ci : Nat} {eo : Ev} (ck : CK X.K c) (ho : EE X c o eo) (hm : Meth X.K (c ci) m f) (hf : NoF m = true) (F : FnOk X.prog X.w X.K X.mg X.base CX0 k f fd ps (spR (gX X c) ev)) (hr : Room k X.A) (hb : Binds X.K fd ps [])
    (ht : eval (.Call (.Attribute o m apos) [] [] pos) X.env = (do
      let ov ← eval o X.env
      standAt apos.atName
      let (f, first) ← holding [ov] (getMethod ov m pl)
      callWith pos f first (backTo pos (starEach [] X.env)) (backToKw pos (keywordEach [] X.env))) := by rfl) (hci : ci < 3 := by decide) :
    EE X c (.Call (.Attribute o m apos) [] [] pos) (cMe ci ev eo aNil) := PE.imp (pe_meth0 (pl := pl) ho (ck.cls ci hci) hm F hr hb .nil pass0 ht) fun σ H Q h => by
  have h' := meth_t (g := gX X c) (ci := ci) (m := m) hf rfl σ H Q h
  obtain ⟨ι, σa, S, z, S', hL, hS, e1, k1⟩ := h'
  refine ⟨ι, σa, S, z, S', hL, hS, e1, fun ι1 H1 v x1 R1 r1 => ?_⟩
  obtain ⟨a, dx, fs, h1, h2, h3, h4⟩ := k1 ι1 H1 v x1 R1 r1
  refine ⟨a, dx, fs, h1, h2, h3, ?_⟩
  obtain ⟨ι2, σb, S2, l, S3, hL2, hS2, e2, k2⟩ := h4
  cases e2
  exact k2 ι2 H1 [] (.refl ..) hS2 .nil
/-- C(..) -/
def cMk (ci : Nat) (ev : Fv) (av : Av) : Ev := fun σ S => match av σ S with
  | some (as, S1) => match S1.new (.ins ci []) with
    | some (.obj n, S2) => match ev (.obj n :: as) S2 with
      | some (.dat .non, S3) => some (.obj n, S3)
      | _ => none
    | _ => none
  | none => none
theorem make_t {g : Gb} {ci : Nat} {av : Av} {ev : Fv} (σ : St) (H : Hp) (Q : VK) (h : teOf g (cMk ci ev av) σ H Q) : tMake (g.cls ci) (spR g ev) [] (fun _ _ _ => False) (taOf g av) σ H Q := by
  obtain ⟨ι, σa, S, z, S', hL, hS, e, k⟩ := h
  unfold cMk at e
  split at e
  · rename_i as S1 q1
    split at e
    · rename_i n S2 q2
      split at e
      · rename_i S3 q3
        cases e
        refine ⟨ι, σa, S, as, S1, hL, hS, q1, fun ι1 H1 vs x1 R1 r1 x dx nx ndx nex => ?_⟩
        have kp : Kp H1 (upd (upd H1 dx (.own x)) x (.ins (g.cls ci) dx [])) := by
          have k1 : Kp H1 (upd H1 dx (.own x)) := .fresh ndx
          have k2 : Kp (upd H1 dx (.own x)) (upd (upd H1 dx (.own x)) x (.ins (g.cls ci) dx [])) := .fresh (by rw [upd_ne (Ne.symm nex)]; exact nx)
          exact k1.trans k2
        obtain ⟨ι2, R2, x2, r2⟩ := R1.new (H1 := upd (upd H1 dx (.own x)) x (.ins (g.cls ci) dx [])) q2 nx kp (fun b u e => by rw [upd_ne (ne_of_none e nx), upd_ne (ne_of_none e ndx)]; exact e)
          fun ι' x' => ⟨dx, [], upd_same, .nil⟩
        rw [List.append_nil]
        refine ⟨ι2, _, S2, _, S', .cons r2 (RAs.mono x2 r1), R2, q3, fun ι3 H3 v x3 R3 r3 => ?_⟩
        cases r3 with | dat rd =>
        cases rd
        exact ⟨rfl, k ι3 H3 _ ((x1.trans x2).trans x3) R3 (r2.mono x3)⟩
      · cases e
    · cases e
  · cases e
theorem e_make {ci : Nat} (M : Mk X.K (c ci) f) (F : FnOk X.prog X.w X.K X.mg X.base CX0 k f fd ps (spR (gX X c) ev)) (hr : Room (k + 1) X.A) (hg : Gl X x) (hm : X.mg x = some (.ref (c ci))) (hb : Binds X.K fd ps [])
    (ha : EA X c (e :: es) av) (hdb : (x == ("__debug__" : Str)) = false := by decide) (he : starEach (e :: es) X.env = (false, eval e X.env) :: starEach es X.env := by rfl) (hpl : (backTo pos (starEach es X.env)).any (·.1) = false := by rfl) :
    EE X c (.Call (.Name x p) (e :: es) [] pos) (cMk ci ev av) := PE.imp (pe_make M F hr hg hm hb .nil pass0 ha hdb he hpl) make_t
theorem e_make0 {ci : Nat} (M : Mk X.K (c ci) f) (F : FnOk X.prog X.w X.K X.mg X.base CX0 k f fd ps (spR (gX X c) ev)) (hr : Room (k + 1) X.A) (hg : Gl X x) (hm : X.mg x = some (.ref (c ci))) (hb : Binds X.K fd ps [])
    (hdb : (x == ("__debug__" : Str)) = false := by decide) : EE X c (.Call (.Name x p) [] [] pos) (cMk ci ev aNil) := PE.imp (pe_make0 M F hr hg hm hb .nil pass0 hdb) fun σ H Q h => by
  have h' := make_t (g := gX X c) (ci := ci) σ H Q h
  obtain ⟨ι2, σb, S2, l, S3, hL2, hS2, e2, k2⟩ := h'
  cases e2
  exact k2 ι2 H [] (.refl ..) hS2 .nil

/-! ### {..} of a comprehension -/
theorem e_dc {kx vx tg iter : Expr} {ifs : List Expr} {scope : Scope} {n : Nv} {g : Gv} {t : Tv} {ek ev : Ev} (own : List (Str × Nat)) (hc : X.calm = true) (hN : X.N.Nodup) (hi : EI X c tg iter n) (ok : BlkOk X.N X.env.scope scope own)
    (hg : Blk X scope fun Y => VG Y c (own.map (·.2)) tg g) (ht : Blk X scope fun Y => ETs Y c ifs t) (hk : Blk X scope fun Y => EE Y c kx ek) (he : Blk X scope fun Y => EE Y c vx ev) (hs : ∀ x, foldedSetIterable iter X.env x = pure x := by intro _; rfl) :
    EE X c (.DictComp kx vx [⟨tg, iter, ifs, 0⟩] scope pos) (cDc n g t ek ev (own.map (·.2))) := PE.imp (pe_dc hc hN hi ok hg ht hk he hs) dc_t
theorem s_dc {kx vx tg iter : Expr} {ifs : List Expr} {scope : Scope} {n : Nv} {g : Gv} {t : Tv} {ek ev : Ev} {i : Nat} {y : Str} {py spos : Pos} (own : List (Str × Nat)) (hc : X.calm = true) (hN : X.N.Nodup) (hy : X.N[i]? = some y) (hyl : X.env.scope.names.lookup y = some .local)
    (hsw : swapsWith (.DictComp kx vx [⟨tg, iter, ifs, 0⟩] scope pos) (some (.Name y py)) spos.line X.env = pure true) (hi : EI X c tg iter n) (ok : BlkOk X.N X.env.scope scope own)
    (hg : Blk X scope fun Y => VG Y c (own.map (·.2)) tg g) (ht : Blk X scope fun Y => ETs Y c ifs t) (hk : Blk X scope fun Y => EE Y c kx ek) (he : Blk X scope fun Y => EE Y c vx ev) (hs : ∀ x, foldedSetIterable iter X.env x = pure x := by intro _; rfl) :
    ES X c (.Assign [.Name y py] (.DictComp kx vx [⟨tg, iter, ifs, 0⟩] scope pos) spos) (sAsg (cDc n g t ek ev (own.map (·.2))) (gNm i)) := by
  refine ⟨fun pins s σ H D I h => ?_⟩
  have h2 : tDc (tiOf (gX X c) n) (gvOf (gX X c) (own.map (·.2)) g) (ttOf (gX X c) t) (teOf (gX X c) ek) (teOf (gX X c) ev) (own.map (·.2)) σ H (fun v H1 => D.nx (σ.set i (some v)) H1) := by
    obtain ⟨ι, σa, S, z, S', hL, hS, e, k⟩ := asg_t D σ H h
    refine dc_t (G := gX X c) σ H _ ⟨ι, σa, S, z, S', hL, hS, e, fun ι1 H1 v x1 R1 r1 => ?_⟩
    obtain ⟨ι2, S2, a, σ1, σ2, R2, M2, r2, e2, k2⟩ := k ι1 H1 v x1 R1 r1
    cases e2
    exact k2 _ (RL.set r2 i M2)
  rw [exec_Assign_Name_used _ _ _ _ hsw]
  refine wpAny_bind (wpAny_standAt (wpAny_bind ?_))
  show wpAny _ X.A (do let _ ← comprehension (.DictComp kx vx [⟨tg, iter, ifs, 0⟩] scope pos) scope X.env (firstIterPos [⟨tg, iter, ifs, 0⟩] pos) newDict false (eval iter X.env) (some (assign (.Name y py) X.env))) _ _ s
  have core := dc_core (Qf := fun _ s' => SP X pins D .next s') (use := some (assign (.Name y py) X.env)) (pos := pos) (pos' := firstIterPos [⟨tg, iter, ifs, 0⟩] pos) hc hN I hi ok hg ht hk he hs h2 fun Lv C s' m H' I' q hn fp => by
    show wpAny _ _ (assign (.Name y py) X.env (.ref Lv)) _ _ _
    refine wpAny_assign_Name (store_ok2 (v := V.ref Lv) I' hN hy (.inl hyl) rfl (fun s2 I2 ⟨a, sb, ha⟩ => ?_) (.inr hyl))
    have haC : C ≠ a := ha.elim (fun z => by rw [z]; exact fp.2.1) fun z e => fp.2.2.2.2.1 y a z e.symm
    exact ⟨m, hn.sameBut sb haC, fun h3 sb3 => ⟨_, H', I2.turned (t' := s2.toks) (fun b o hb e => (sb3.2 b hb).trans e) fp.1 fp.2.1 fp.2.2.2.1 fp.2.2.2.2.1 fp.2.2.2.2.2, q⟩⟩
  exact wpAny_bind (thn core fun _ s' hq => wpAny_pure (wpAny_pure hq))
end
end Cs
/-! Z12: -x, not x, + of all kinds; what sorts and generators give. -/
namespace Cs
open PySem PySem.Spec PyProof.Rows L2

def oNeg (x : A) (S : Sto) : Option (A × Sto) := match x with
  | .dat (.int i) => some (.dat (.int (-i)), S)
  | _ => none
def oNot (x : A) (S : Sto) : Option (A × Sto) := match x with
  | .bl b => some (.bl (not b), S)
  | _ => none
def oAddA (x y : A) (S : Sto) : Option (A × Sto) := match x with
  | .dat (.int _) => oAdd x y S
  | .dat (.tup _) => oCatT x y S
  | .obj _ => oCatL x y S
  | _ => none
section
variable {X : Cx} {c : Nat → Addr} {pos : Pos} {a b : Expr} {ea eb : Ev}
theorem e_neg (ha : EE X c a ea) : EE X c (.UnaryOp .USub a pos) (cUn oNeg ea) := PE.imp (pe_un un_neg ha) (un_t (g := gX X c) (r := rU fun i => .int (-i)) (by
  intro ι S H x v z S' Q R r e k
  unfold oNeg at e
  split at e
  · cases e
    cases r with | dat h =>
    cases h
    exact ⟨_, rfl, k.here R (.dat (.int _))⟩
  · cases e))
theorem e_not (ha : EE X c a ea) : EE X c (.UnaryOp .Not a pos) (cUn oNot ea) := PE.imp (pe_not ha) (un_t (g := gX X c) (r := fun x H1 Q => ∃ c, x = .bl c ∧ Q (.bl (!c)) H1) (by
  intro ι S H x v z S' Q R r e k
  unfold oNot at e
  split at e
  · cases e
    cases r
    exact ⟨_, rfl, k.here R (.bl _)⟩
  · cases e))
def rAddA (K : PySem.W.Frag) : R2 := fun x y H Q => (rI0 (fun i j => .int (i + j)) x y H Q ∨ rCat x y H Q) ∨ rCatA K x y H Q
theorem op_addA : OpR X (binaryOp .Add) (rAddA X.K) := (op_add.or op_cat).or op_catA
theorem addA_ok {g : Gb} : OpOk g (rAddA g.K) oAddA := by
  intro ι S H x y v u z S' Q R rx ry e k
  unfold oAddA at e
  split at e
  · exact .inl (.inl (int_ok (f := fun i j => i + j) ι S H _ y v u z S' Q R rx ry e k))
  · exact .inr (catT_ok ι S H _ y v u z S' Q R rx ry e k)
  · exact .inl (.inr (catL_ok ι S H _ y v u z S' Q R rx ry e k))
  · cases e
end

/-! ### the order -/
def ltN : List Nat → List Nat → Bool
  | [], [] => false
  | [], _ :: _ => true
  | _ :: _, [] => false
  | a :: l, b :: r => cond (Nat.blt a b) true (cond (Nat.beq a b) (ltN l r) false)
mutual
def ltD : D → D → Option Bool
  | .int a, .int b => some (decide (a < b))
  | .str a, .str b => some (ltN a b)
  | .tup a, .tup b => ltDs a b
  | .non, _ => none
  | .int _, .non | .int _, .str _ | .int _, .tup _ => none
  | .str _, .non | .str _, .int _ | .str _, .tup _ => none
  | .tup _, .non | .tup _, .int _ | .tup _, .str _ => none
def ltDs : List D → List D → Option Bool
  | [], [] => some false
  | [], _ :: _ => some true
  | _ :: _, [] => some false
  | a :: l, b :: r => cond (D.beq a b) (ltDs l r) (ltD a b)
end
/-- x put into the rising list -/
def insD (x : D) : List D → Option (List D)
  | [] => some [x]
  | y :: l => match ltD y x with
    | some true => match insD x l with
      | some r => some (y :: r)
      | none => none
    | some false => match ltD x y with
      | some true => some (x :: y :: l)
      | _ => none
    | none => none
def srtD : List D → Option (List D)
  | [] => some []
  | x :: l => match srtD l with
    | some r => insD x r
    | none => none
/-- each once -/
def onceD : List D → List D
  | [] => []
  | x :: l => cond (inD x l) (onceD l) (x :: onceD l)
def allInt : List D → Bool
  | [] => true
  | .int _ :: l => allInt l
  | .non :: _ => false
  | .str _ :: _ => false
  | .tup _ :: _ => false
/-- the keys, all ints -/
def intKeys : List (D × A) → Option (List D)
  | [] => some []
  | (.int i, _) :: r => match intKeys r with
    | some l => some (.int i :: l)
    | none => none
  | _ :: _ => none
/-- x below all of them -/
def pairOk (x : D) : List D → Bool
  | [] => true
  | y :: l => match ltD x y with
    | some true => match ltD y x with
      | some false => pairOk x l
      | _ => false
    | _ => false
/-- strictly rising, any two of it compare -/
def chkR : List D → Bool
  | [] => true
  | x :: l => match ltD x x with
    | some false => cond (pairOk x l) (chkR l) false
    | _ => false
def subD : List D → List D → Bool
  | [], _ => true
  | x :: l, r => cond (inD x r) (subD l r) false
def nodupD : List D → Bool
  | [] => true
  | x :: l => cond (inD x l) false (nodupD l)
/-- 0: ints, 1: texts, 2: tuples with an int ahead, 3: tuples with a text ahead -/
def kindD : D → Nat
  | .int _ => 0
  | .str _ => 1
  | .tup (.int _ :: _) => 2
  | .tup (.str _ :: _) => 3
  | _ => 4
def allKind (k : Nat) : List D → Bool
  | [] => true
  | x :: l => cond (Nat.beq (kindD x) k) (allKind k l) false
def kindOk : List D → Bool
  | [] => true
  | x :: l => cond (Nat.blt (kindD x) 4) (allKind (kindD x) l) false
def srtU (d : List D) : Option (List D) := match srtD (onceD d) with
  | some r => cond (chkR r) (cond (subD d r) (cond (subD r d) (cond (kindOk r) (some r) none) none) none) none
  | none => none
def srtL (d : List D) : Option (List D) := cond (nodupD d) (srtU d) none
/-- few enough for one pass of the sort -/
def brief {α : Type} (l : List α) : Bool := Nat.blt l.length 64
/-- sorted(x), different ints -/
def oSrt (l : List A) (S : Sto) : Option (A × Sto) := match l with
  | [.dat (.tup d)] => cond (allInt d) (cond (brief d) (match srtL d with
    | some r => S.new (.lst (r.map .dat))
    | none => none) none) none
  | [.obj n] => match S.get n with
    | some (.dK l) => match intKeys l with
      | some d => cond (brief d) (match srtL d with
        | some r => S.new (.lst (r.map .dat))
        | none => none) none
      | none => none
    | _ => none
  | _ => none
/-- all tuples, at most 8 deep; all texts -/
def allTup8 : List D → Bool
  | [] => true
  | .tup l :: r => cond (tall (.tup l) 8) (allTup8 r) false
  | .non :: _ => false
  | .int _ :: _ => false
  | .str _ :: _ => false
def allStr : List D → Bool
  | [] => true
  | .str _ :: r => allStr r
  | .non :: _ => false
  | .int _ :: _ => false
  | .tup _ :: _ => false
/-- sorted(set(x)) -/
def oSrtSet (x : A) (S : Sto) : Option (A × Sto) := match x with
  | .obj n => match S.get n with
    | some (.lst xs) => match datas xs with
      | some d => cond (cond (allTup8 d) true (allStr d)) (cond (brief d) (match srtU d with
        | some r => S.new (.lst (r.map .dat))
        | none => none) none) none
      | none => none
    | _ => none
  | _ => none
/-- sorted({.. for .. in ()}) -/
def oSrtNo (x : A) (S : Sto) : Option (A × Sto) := match x with
  | .dat (.tup []) => S.new (.lst [])
  | _ => none
/-- the keys, each with its item behind -/
def keysL (eb : Ev) (σ : Sl) (i : Nat) : List D → Sto → Option (List D × Sto)
  | [], S => some ([], S)
  | d :: l, S => match eb ((wipeA σ [i]).set i (some (.dat d))) S with
    | some (.dat (.tup [.int n, e]), S1) => cond (D.beq e d) (match keysL eb σ i l S1 with
      | some (r, S2) => some (.tup [.int n, e] :: r, S2)
      | none => none) none
    | _ => none
def sndD : D → Option D
  | .tup [_, d] => some d
  | _ => none
def sndDs : List D → Option (List A)
  | [] => some []
  | x :: l => match sndD x with
    | some d => match sndDs l with
      | some r => some (.dat d :: r)
      | none => none
    | none => none
/-- sorted(x, key = lambda: e) -/
def cSrtKey (n : Ev) (eb : Ev) (i : Nat) : Ev := fun σ S => match n σ S with
  | some (.obj n, S0) => match S0.get n with
    | some (.lst xs) => match datas xs with
      | some d => cond (brief d) (match keysL eb σ i d S0 with
        | some (ks, S1) => match srtL ks with
          | some r => match sndDs r with
            | some ys => S1.new (.lst ys)
            | none => none
          | none => none
        | none => none) none
      | none => none
    | _ => none
  | _ => none

/-! ### generators, each asked to its end at once -/
def gnL (g : Gv) (e : Ev) (σ : Sl) (vs : List Nat) : List D → Sto → Option (List A × Sto)
  | [], S => some ([], S)
  | d :: l, S => match g (.dat d) (wipeA σ vs) with
    | some σ1 => match e σ1 S with
      | some (y, S1) => match gnL g e σ vs l S1 with
        | some (r, S2) => some (y :: r, S2)
        | none => none
      | none => none
    | none => none
def sumA : List A → Option Int
  | [] => some 0
  | .dat (.int i) :: l => match sumA l with
    | some j => some (i + j)
    | none => none
  | _ :: _ => none
/-- sum(e for x in t) -/
def cSumG (n : Ev) (g : Gv) (e : Ev) (vs : List Nat) : Ev := fun σ S => match n σ S with
  | some (.dat (.tup l), S1) => match gnL g e σ vs l S1 with
    | some (ys, S2) => match sumA ys with
      | some i => some (.dat (.int i), S2)
      | none => none
    | none => none
  | _ => none
/-- tuple(e for x in t) -/
def cTupG (n : Ev) (g : Gv) (e : Ev) (vs : List Nat) : Ev := fun σ S => match n σ S with
  | some (.dat (.tup l), S1) => match gnL g e σ vs l S1 with
    | some (ys, S2) => oTup ys S2
    | none => none
  | _ => none

/-! ### dict(zip('abcd', t)) -/
def zipA : List Nat → List D → List (D × A)
  | c :: cs, d :: ds => (.str [c], .dat d) :: zipA cs ds
  | [], _ => []
  | _ :: _, [] => []
def oZip (cs : List Nat) (x : A) (S : Sto) : Option (A × Sto) := match x with
  | .dat (.tup l) => S.new (.dK (zipA cs l))
  | _ => none
/-- a def with *parts behind k parameters -/
def runStar (n k : Nat) (body : Sv) : Fv := fun args S => match oTup (args.drop k) S with
  | some (t, S1) => runB n (Nat.succ k) body (args.take k ++ [t]) S1
  | none => none

/-! ### dict comprehensions, keys tuples -/
def dnL (g : Gv) (t : Tv) (ek ev : Ev) (σ : Sl) (vs : List Nat) (it : Iv) (d : Nat) : Nat → Nat → Sto → Option Sto
  | 0, _, _ => none
  | f + 1, i, S => match nxt it i S with
    | some none => some S
    | some (some a) => match g a (wipeA σ vs) with
      | some σ1 => match t σ1 S with
        | some (true, S1) => match ek σ1 S1 with
          | some (.dat kd, S2) => match ev σ1 S2 with
            | some (y, S3) => match S3.get d with
              | some (.dN _) => match putA (.obj d) (.dat kd) y S3 with
                | some S4 => dnL g t ek ev σ vs it d f (Nat.succ i) S4
                | none => none
              | _ => none
            | none => none
          | _ => none
        | some (false, S1) => dnL g t ek ev σ vs it d f (Nat.succ i) S1
        | none => none
      | none => none
    | none => none
def cDn (n : Nv) (g : Gv) (t : Tv) (ek ev : Ev) (vs : List Nat) : Ev := fun σ S => match n σ S with
  | some (it, S1) => match S1.new (.dN []) with
    | some (.obj d, S2) => match dnL g t ek ev σ vs it d 5000 0 S2 with
      | some S3 => some (.obj d, S3)
      | none => none
    | _ => none
  | none => none

/-! ### tables of the top -/
def lkT (i : Int) : List (Int × D) → Option D
  | [] => none
  | (j, d) :: r => cond (decide (j = i)) (some d) (lkT i r)
def oTab (t : List (Int × D)) (x : A) (S : Sto) : Option (A × Sto) := match x with
  | .dat (.int i) => match lkT i t with
    | some d => some (.dat d, S)
    | none => none
  | _ => none
def oInTab (t : List (Int × D)) (x : A) (S : Sto) : Option (A × Sto) := match x with
  | .dat (.int i) => match lkT i t with
    | some _ => some (.bl true, S)
    | none => some (.bl false, S)
  | _ => none
/-- o.m(..), a field may bear the method's name: none is set -/
def cMeF (ci kf : Nat) (ev : Fv) (eo : Ev) (av : Av) : Ev := fun σ S => match eo σ S with
  | some (.obj n, S1) => match S1.get n with
    | some (.ins cj l) => cond (Nat.beq cj ci) (match lkF kf l with
      | some _ => none
      | none => cond (l.all fun p => Nat.blt p.1 11) (match av σ S1 with
        | some (as, S2) => ev (.obj n :: as) S2
        | none => none) none) none
    | _ => none
  | _ => none
end Cs
/-! Z13: the evaluators of the defs (printed by gen.py). -/
namespace Cs
open PySem PySem.Spec PyProof.Rows L2
def nEt (a : Av) : Nv := fun σ S => match a σ S with
  | some ([.dat (.tup l)], S1) => some (.ent l, S1)
  | _ => none
def tAx : List (Int × D) := [(1, .tup [.str [105, 102], .tup [.str [108, 101, 116, 116, 101, 114], .str [97]], .tup [.str [105, 102], .tup [.str [108, 101, 116, 116, 101, 114], .str [98]], .tup [.str [108, 101, 116, 116, 101, 114], .str [97]]]]),
  (2, .tup [.str [105, 102], .tup [.str [105, 102], .tup [.str [108, 101, 116, 116, 101, 114], .str [99]], .tup [.str [105, 102], .tup [.str [108, 101, 116, 116, 101, 114], .str [98]], .tup [.str [108, 101, 116, 116, 101, 114], .str [97]]]], .tup [.str [105, 102], .tup [.str [105, 102], .tup [.str [108, 101, 116, 116, 101, 114], .str [99]], .tup [.str [108, 101, 116, 116, 101, 114], .str [98]]], .tup [.str [105, 102], .tup [.str [108, 101, 116, 116, 101, 114], .str [99]], .tup [.str [108, 101, 116, 116, 101, 114], .str [97]]]]]),
  (3, .tup [.str [105, 102], .tup [.str [105, 102], .tup [.str [108, 101, 116, 116, 101, 114], .str [100]], .tup [.str [105, 102], .tup [.str [108, 101, 116, 116, 101, 114], .str [98]], .tup [.str [108, 101, 116, 116, 101, 114], .str [97]]]], .tup [.str [105, 102], .tup [.str [108, 101, 116, 116, 101, 114], .str [98]], .tup [.str [105, 102], .tup [.str [108, 101, 116, 116, 101, 114], .str [100]], .tup [.str [108, 101, 116, 116, 101, 114], .str [97]]]]]),
  (4, .tup [.str [105, 102], .tup [.str [105, 102], .tup [.str [108, 101, 116, 116, 101, 114], .str [98]], .tup [.str [108, 101, 116, 116, 101, 114], .str [97]]], .tup [.str [105, 102], .tup [.str [110, 111, 116], .tup [.str [108, 101, 116, 116, 101, 114], .str [97]]], .tup [.str [110, 111, 116], .tup [.str [108, 101, 116, 116, 101, 114], .str [98]]]]]),
  (5, .tup [.str [105, 102], .tup [.str [110, 111, 116], .tup [.str [110, 111, 116], .tup [.str [108, 101, 116, 116, 101, 114], .str [97]]]], .tup [.str [108, 101, 116, 116, 101, 114], .str [97]]]),
  (6, .tup [.str [105, 102], .tup [.str [108, 101, 116, 116, 101, 114], .str [97]], .tup [.str [110, 111, 116], .tup [.str [110, 111, 116], .tup [.str [108, 101, 116, 116, 101, 114], .str [97]]]]])]
def tAp : List (Int × D) := [(1, .tup [.str [116, 97, 98, 108, 101], .int 3, .tup [.int 1, .int 2], .tup [.int 2, .int 1, .int 0], .tup [.tup [.int 2, .int 2, .int 2], .tup [.int 0, .int 1, .int 2], .tup [.int 0, .int 0, .int 2]]]),
  (2, .tup [.str [116, 97, 98, 108, 101], .int 3, .tup [.int 2], .tup [.int 2, .int 1, .int 0], .tup [.tup [.int 2, .int 2, .int 2], .tup [.int 1, .int 2, .int 2], .tup [.int 0, .int 1, .int 2]]]),
  (4, .tup [.str [116, 97, 98, 108, 101], .int 2, .tup [.int 1], .tup [.int 0, .int 1], .tup [.tup [.int 1, .int 1], .tup [.int 0, .int 1]]]),
  (5, .tup [.str [116, 97, 98, 108, 101], .int 2, .tup [.int 1], .tup [.int 1, .int 1], .tup [.tup [.int 1, .int 1], .tup [.int 0, .int 1]]]),
  (6, .tup [.str [116, 97, 98, 108, 101], .int 2, .tup [.int 1], .tup [.int 0, .int 0], .tup [.tup [.int 1, .int 1], .tup [.int 0, .int 1]]])]
/-- size -/
def b_0 (call : Nat → Fv) : Sv := sSeq (sIf (bV (cBin oEq (cBin oIxA (cVar 0) (cInt 0)) (cStr [108, 101, 116, 116, 101, 114]))) (sRet (cInt 1)) (sNil)) (sRet (cBin oAddA (cInt 1) (cSumG (cUn oTl (cVar 0)) (gNm 1) (cArgs (call 0) (aCons (cVar 1) (aNil))) [1])))
/-- put -/
def b_1 (call : Nat → Fv) : Sv := sSeq (sIf (bV (cBin oEq (cBin oIxA (cVar 0) (cInt 0)) (cStr [108, 101, 116, 116, 101, 114]))) (sRet (cGet2 (cVar 1) (cBin oIxA (cVar 0) (cInt 1)) (cVar 0))) (sNil)) (sRet (cBin oAddA (cArgs oTup (aCons (cBin oIxA (cVar 0) (cInt 0)) (aNil))) (cTupG (cUn oTl (cVar 0)) (gNm 2) (cArgs (call 1) (aCons (cVar 2) (aCons (cVar 1) (aNil)))) [2])))
/-- the axiom formulas -/
def b_2 (call : Nat → Fv) : Sv := sRet (cUn (oTab tAx) (cVar 0))
/-- Ledger.__init__ -/
def b_3 (call : Nat → Fv) : Sv := sSeq (sFd 0 (cVar 0) (cArgs oLst (aNil))) (sFd 1 (cVar 0) (cNewN))
/-- Ledger.add -/
def b_4 (call : Nat → Fv) : Sv := sSeq (sIf (bV (cBin oNotInA (cVar 1) (cUn (oFld 1) (cVar 0)))) (sSeq (sPut (cUn (oFld 1) (cVar 0)) (cVar 1) (cArgs oLen (aCons (cUn (oFld 0) (cVar 0)) (aNil)))) (sDrop (cMt oApp (cLst (cUn (oFld 0) (cVar 0))) (aCons (cArgs oTup (aCons (cVar 1) (aCons (cVar 2) (aNil)))) (aNil))))) (sNil)) (sRet (cBin oIxA (cUn (oFld 1) (cVar 0)) (cVar 1)))
/-- Ledger.hypothesis -/
def b_5 (call : Nat → Fv) : Sv := sRet (cMe 0 (call 4) (cVar 0) (aCons (cVar 1) (aCons (cArgs oTup (aCons (cStr [104, 121, 112, 111, 116, 104, 101, 115, 105, 115]) (aNil))) (aNil))))
/-- an axiom line -/
def b_6 (call : Nat → Fv) : Sv := sRet (cMe 0 (call 4) (cVar 0) (aCons (cArgs (call 1) (aCons (cArgs (call 2) (aCons (cVar 1) (aNil))) (aCons (cUn (oZip [97, 98, 99, 100]) (cVar 2)) (aNil)))) (aCons (cArgs oTup (aCons (cStr [97, 120, 105, 111, 109]) (aCons (cVar 1) (aNil)))) (aNil))))
/-- Ledger.detach -/
def b_7 (call : Nat → Fv) : Sv := sRet (cMe 0 (call 4) (cVar 0) (aCons (cBin oIxA (cBin oIxA (cBin oIxA (cUn (oFld 0) (cVar 0)) (cVar 1)) (cInt 0)) (cInt 2)) (aCons (cArgs oTup (aCons (cStr [100, 101, 116, 97, 99, 104]) (aCons (cVar 1) (aCons (cVar 2) (aNil))))) (aNil))))
/-- Ledger.include -/
def b_8 (call : Nat → Fv) : Sv := sSeq (sAsg (cArgs oLst (aNil)) (gNm 2)) (sSeq (sFor (nTup (cVar 1)) (gTp 2 (gsCons (gNm 3) (gsCons (gNm 4) (gsNil)))) (sSeq (sIf (bV (cBin oEq (cBin oIxA (cVar 4) (cInt 0)) (cStr [100, 101, 116, 97, 99, 104]))) (sAsg (cArgs oTup (aCons (cStr [100, 101, 116, 97, 99, 104]) (aCons (cBin oIxA (cVar 2) (cBin oIxA (cVar 4) (cInt 1))) (aCons (cBin oIxA (cVar 2) (cBin oIxA (cVar 4) (cInt 2))) (aNil))))) (gNm 4)) (sNil)) (sDrop (cMt oApp (cLst (cVar 2)) (aCons (cMe 0 (call 4) (cVar 0) (aCons (cVar 3) (aCons (cVar 4) (aNil)))) (aNil)))))) (sRet (cBin oIxA (cVar 2) (cUn oNeg (cInt 1)))))
/-- Ledger.upto -/
def b_9 (call : Nat → Fv) : Sv := sRet (cArgs oTof (aCons (cBin oHd (cUn (oFld 0) (cVar 0)) (cBin oAddA (cVar 1) (cInt 1))) (aNil)))
/-- first_lines -/
def b_10 (call : Nat → Fv) : Sv := sSeq (sAsg (cNewN) (gNm 1)) (sSeq (sFor (nEt (aCons (cVar 0) (aNil))) (gTp 2 (gsCons (gNm 2) (gsCons (gTp 2 (gsCons (gNm 3) (gsCons (gNm 4) (gsNil)))) (gsNil)))) (sDrop (cSetd (cVar 1) (cVar 3) (cVar 2)))) (sRet (cLc (nTup (cVar 0)) (gTp 2 (gsCons (gNm 3) (gsCons (gNm 4) (gsNil)))) (bYes) (cBin oIxA (cVar 1) (cVar 3)) [3, 4])))
/-- trimmed -/
def b_11 (call : Nat → Fv) : Sv := sSeq (sAsg (cArgs (call 10) (aCons (cVar 0) (aNil))) (gNm 1)) (sSeq (sAsg (cDisp (cBin oIxA (cVar 1) (cUn oNeg (cInt 1))) (cBl true)) (gNm 2)) (sSeq (sFor (nR3 (aCons (cBin oIxA (cVar 1) (cUn oNeg (cInt 1))) (aCons (cUn oNeg (cInt 1)) (aCons (cUn oNeg (cInt 1)) (aNil))))) (gNm 3) (sSeq (sAsg (cBin oIxA (cBin oIxA (cVar 0) (cVar 3)) (cInt 1)) (gNm 4)) (sIf (bAnd (bV (cBin oInA (cVar 3) (cVar 2))) (bV (cBin oEq (cBin oIxA (cVar 4) (cInt 0)) (cStr [100, 101, 116, 97, 99, 104])))) (sSeq (sPut (cVar 2) (cBin oIxA (cVar 1) (cBin oIxA (cVar 4) (cInt 1))) (cBl true)) (sPut (cVar 2) (cBin oIxA (cVar 1) (cBin oIxA (cVar 4) (cInt 2))) (cBl true))) (sNil)))) (sSeq (sAsg (cArgs oSrt (aCons (cVar 2) (aNil))) (gNm 5)) (sSeq (sAsg (cDc (nEl (aCons (cVar 5) (aNil))) (gTp 2 (gsCons (gNm 7) (gsCons (gNm 3) (gsNil)))) (bYes) (cVar 3) (cVar 7) [7, 3]) (gNm 6)) (sSeq (sAsg (cArgs oLst (aNil)) (gNm 8)) (sSeq (sFor (nLst (cVar 5)) (gNm 3) (sSeq (sAsg (cBin oIxA (cVar 0) (cVar 3)) (gTp 2 (gsCons (gNm 9) (gsCons (gNm 4) (gsNil))))) (sSeq (sIf (bV (cBin oEq (cBin oIxA (cVar 4) (cInt 0)) (cStr [100, 101, 116, 97, 99, 104]))) (sAsg (cArgs oTup (aCons (cStr [100, 101, 116, 97, 99, 104]) (aCons (cBin oIxA (cVar 6) (cBin oIxA (cVar 1) (cBin oIxA (cVar 4) (cInt 1)))) (aCons (cBin oIxA (cVar 6) (cBin oIxA (cVar 1) (cBin oIxA (cVar 4) (cInt 2)))) (aNil))))) (gNm 4)) (sNil)) (sDrop (cMt oApp (cLst (cVar 8)) (aCons (cArgs oTup (aCons (cVar 9) (aCons (cVar 4) (aNil)))) (aNil))))))) (sRet (cArgs oTof (aCons (cVar 8) (aNil))))))))))
/-- Discharge.__init__ -/
def b_12 (call : Nat → Fv) : Sv := sSeq (sFd 2 (cVar 0) (cVar 1)) (sSeq (sFd 3 (cVar 0) (cVar 2)) (sSeq (sFd 4 (cVar 0) (cMk 0 (call 3) (aNil))) (sSeq (sFd 5 (cVar 0) (cNewK)) (sFd 6 (cVar 0) (cNewK)))))
/-- Discharge.is_condition -/
def b_13 (call : Nat → Fv) : Sv := sRet (cBin oEq (cBin oIxA (cUn (oFld 2) (cVar 0)) (cVar 1)) (cArgs oTup (aCons (cUn (oFld 3) (cVar 0)) (aCons (cArgs oTup (aCons (cStr [104, 121, 112, 111, 116, 104, 101, 115, 105, 115]) (aNil))) (aNil)))))
/-- Discharge.identity -/
def b_14 (call : Nat → Fv) : Sv := sSeq (sAsg (cUn (oFld 3) (cVar 0)) (gNm 1)) (sSeq (sAsg (cMe 0 (call 6) (cUn (oFld 4) (cVar 0)) (aCons (cInt 2) (aCons (cVar 1) (aCons (cArgs oTup (aCons (cStr [105, 102]) (aCons (cVar 1) (aCons (cVar 1) (aNil))))) (aCons (cVar 1) (aNil)))))) (gNm 2)) (sSeq (sAsg (cMe 0 (call 7) (cUn (oFld 4) (cVar 0)) (aCons (cVar 2) (aCons (cMe 0 (call 6) (cUn (oFld 4) (cVar 0)) (aCons (cInt 1) (aCons (cVar 1) (aCons (cArgs oTup (aCons (cStr [105, 102]) (aCons (cVar 1) (aCons (cVar 1) (aNil))))) (aNil))))) (aNil)))) (gNm 2)) (sRet (cMe 0 (call 7) (cUn (oFld 4) (cVar 0)) (aCons (cVar 2) (aCons (cMe 0 (call 6) (cUn (oFld 4) (cVar 0)) (aCons (cInt 1) (aCons (cVar 1) (aCons (cVar 1) (aNil))))) (aNil)))))))
/-- Discharge.lift -/
def b_15 (call : Nat → Fv) : Sv := sSeq (sIf (bV (cBin oNotInA (cVar 1) (cUn (oFld 6) (cVar 0)))) (sSeq (sAsg (cMe 0 (call 6) (cUn (oFld 4) (cVar 0)) (aCons (cInt 1) (aCons (cBin oIxA (cBin oIxA (cUn (oFld 2) (cVar 0)) (cVar 1)) (cInt 0)) (aCons (cUn (oFld 3) (cVar 0)) (aNil))))) (gNm 2)) (sPut (cUn (oFld 6) (cVar 0)) (cVar 1) (cMe 0 (call 7) (cUn (oFld 4) (cVar 0)) (aCons (cVar 2) (aCons (cBin oIxA (cUn (oFld 5) (cVar 0)) (cVar 1)) (aNil)))))) (sNil)) (sRet (cBin oIxA (cUn (oFld 6) (cVar 0)) (cVar 1)))
/-- Discharge.under -/
def b_16 (call : Nat → Fv) : Sv := sSeq (sIf (bAnd (bV (cBin oInA (cVar 2) (cUn (oFld 5) (cVar 0)))) (bV (cMe 1 (call 13) (cVar 0) (aCons (cVar 3) (aNil))))) (sRet (cBin oIxA (cUn (oFld 5) (cVar 0)) (cVar 2))) (sNil)) (sSeq (sAsg (cBin oIxA (cBin oIxA (cUn (oFld 2) (cVar 0)) (cVar 2)) (cInt 0)) (gTp 3 (gsCons (gNm 4) (gsCons (gNm 5) (gsCons (gNm 6) (gsNil)))))) (sSeq (sAsg (cMe 0 (call 6) (cUn (oFld 4) (cVar 0)) (aCons (cInt 2) (aCons (cVar 6) (aCons (cVar 5) (aCons (cUn (oFld 3) (cVar 0)) (aNil)))))) (gNm 7)) (sSeq (sAsg (cMe 0 (call 7) (cUn (oFld 4) (cVar 0)) (aCons (cVar 7) (aCons (cMe 1 (call 15) (cVar 0) (aCons (cVar 2) (aNil))) (aNil)))) (gNm 7)) (sRet (cMe 0 (call 7) (cUn (oFld 4) (cVar 0)) (aCons (cVar 7) (aCons (cMe 1 (call 15) (cVar 0) (aCons (cVar 3) (aNil))) (aNil))))))))
/-- Discharge.take -/
def b_17 (call : Nat → Fv) : Sv := sSeq (sAsg (cBin oIxA (cUn (oFld 2) (cVar 0)) (cVar 1)) (gTp 2 (gsCons (gNm 2) (gsCons (gNm 3) (gsNil))))) (sIf (bV (cMe 1 (call 13) (cVar 0) (aCons (cVar 1) (aNil)))) (sPut (cUn (oFld 6) (cVar 0)) (cVar 1) (cMe 1 (call 14) (cVar 0) (aNil))) (sIf (bV (cBin oNe (cBin oIxA (cVar 3) (cInt 0)) (cStr [100, 101, 116, 97, 99, 104]))) (sPut (cUn (oFld 5) (cVar 0)) (cVar 1) (cMe 0 (call 4) (cUn (oFld 4) (cVar 0)) (aCons (cVar 2) (aCons (cVar 3) (aNil))))) (sIf (bAnd (bV (cBin oInA (cBin oIxA (cVar 3) (cInt 1)) (cUn (oFld 5) (cVar 0)))) (bV (cBin oInA (cBin oIxA (cVar 3) (cInt 2)) (cUn (oFld 5) (cVar 0))))) (sPut (cUn (oFld 5) (cVar 0)) (cVar 1) (cMe 0 (call 4) (cUn (oFld 4) (cVar 0)) (aCons (cVar 2) (aCons (cArgs oTup (aCons (cStr [100, 101, 116, 97, 99, 104]) (aCons (cBin oIxA (cUn (oFld 5) (cVar 0)) (cBin oIxA (cVar 3) (cInt 1))) (aCons (cBin oIxA (cUn (oFld 5) (cVar 0)) (cBin oIxA (cVar 3) (cInt 2))) (aNil))))) (aNil))))) (sPut (cUn (oFld 6) (cVar 0)) (cVar 1) (cMe 1 (call 16) (cVar 0) (aCons (cVar 1) (aCons (cBin oIxA (cVar 3) (cInt 1)) (aCons (cBin oIxA (cVar 3) (cInt 2)) (aNil)))))))))
/-- Discharge.whole -/
def b_18 (call : Nat → Fv) : Sv := sSeq (sFor (nR1 (aCons (cArgs oLen (aCons (cUn (oFld 2) (cVar 0)) (aNil))) (aNil))) (gNm 1) (sDrop (cMe 1 (call 17) (cVar 0) (aCons (cVar 1) (aNil))))) (sRet (cArgs (call 11) (aCons (cMe 0 (call 9) (cUn (oFld 4) (cVar 0)) (aCons (cMe 1 (call 15) (cVar 0) (aCons (cBin oSub (cArgs oLen (aCons (cUn (oFld 2) (cVar 0)) (aNil))) (cInt 1)) (aNil))) (aNil))) (aNil))))
/-- discharged -/
def b_19 (call : Nat → Fv) : Sv := sRet (cMe 1 (call 18) (cMk 1 (call 12) (aCons (cVar 0) (aCons (cVar 1) (aNil)))) (aNil))
/-- parts_of -/
def b_20 (call : Nat → Fv) : Sv := sSeq (sIf (bOr (bV (cBin oEq (cBin oIxA (cVar 0) (cInt 0)) (cStr [108, 101, 116, 116, 101, 114]))) (bAnd (bV (cBin oEq (cBin oIxA (cVar 0) (cInt 0)) (cStr [110, 111, 116]))) (bV (cBin oEq (cVar 1) (cStr [112, 111, 115, 105, 116, 105, 118, 101]))))) (sRet (cArgs oLst (aCons (cVar 0) (aNil)))) (sNil)) (sRet (cBin oAddA (cLc2 (nTup (cUn oTl (cVar 0))) (gNm 2) (bYes) (nLst (cArgs (call 20) (aCons (cVar 2) (aCons (cVar 1) (aNil))))) (gNm 3) (bYes) (cVar 3) [2, 3] [3]) (cArgs oLst (aCons (cVar 0) (aNil)))))
/-- Search.__init__ -/
def b_21 (call : Nat → Fv) : Sv := sSeq (sAsg (cLc2 (nTup (cVar 1)) (gNm 4) (bYes) (nLst (cArgs (call 20) (aCons (cVar 4) (aCons (cVar 2) (aNil))))) (gNm 5) (bYes) (cVar 5) [4, 5] [5]) (gNm 3)) (sSeq (sAsg (cUn oSrtSet (cVar 3)) (gNm 6)) (sSeq (sFd 7 (cVar 0) (cSrtKey (cVar 6) (cArgs oTup (aCons (cArgs (call 0) (aCons (cVar 5) (aNil))) (aCons (cVar 5) (aNil)))) 5)) (sSeq (sFd 1 (cVar 0) (cDn (nEl (aCons (cUn (oFld 7) (cVar 0)) (aNil))) (gTp 2 (gsCons (gNm 7) (gsCons (gNm 5) (gsNil)))) (bYes) (cVar 5) (cVar 7) [7, 5])) (sSeq (sFd 8 (cVar 0) (cArgs oLen (aCons (cUn (oFld 7) (cVar 0)) (aNil)))) (sSeq (sFd 9 (cVar 0) (cVar 2)) (sFd 10 (cVar 0) (cNewN)))))))
/-- Search.goals -/
def b_22 (call : Nat → Fv) : Sv := sSeq (sAsg (cBin oIxA (cUn (oFld 7) (cVar 0)) (cVar 1)) (gNm 2)) (sSeq (sIf (bV (cBin oEq (cBin oIxA (cVar 2) (cInt 0)) (cStr [105, 102]))) (sRet (cArgs oTup (aCons (cBin oIxA (cUn (oFld 1) (cVar 0)) (cBin oIxA (cVar 2) (cInt 1))) (aCons (cBin oIxA (cUn (oFld 1) (cVar 0)) (cBin oIxA (cVar 2) (cInt 2))) (aNil))))) (sNil)) (sSeq (sIf (bAnd (bV (cBin oEq (cBin oIxA (cVar 2) (cInt 0)) (cStr [110, 111, 116]))) (bV (cBin oEq (cUn (oFld 9) (cVar 0)) (cStr [109, 105, 110, 105, 109, 97, 108])))) (sRet (cArgs oTup (aCons (cBin oIxA (cUn (oFld 1) (cVar 0)) (cBin oIxA (cVar 2) (cInt 1))) (aCons (cUn (oFld 8) (cVar 0)) (aNil))))) (sNil)) (sRet (cNon))))
/-- Search.next_near -/
def b_23 (call : Nat → Fv) : Sv := sSeq (sFor (nR1 (aCons (cArgs oLen (aCons (cUn (oFld 7) (cVar 0)) (aNil))) (aNil))) (gNm 2) (sSeq (sAsg (cMe 2 (call 22) (cVar 0) (aCons (cVar 2) (aNil))) (gNm 3)) (sIf (bV (cBin oNotN (cVar 3) (cNon))) (sSeq (sAsg (cVar 3) (gTp 2 (gsCons (gNm 4) (gsCons (gNm 5) (gsNil))))) (sSeq (sIf (bAnd (bV (cBin oInA (cVar 2) (cVar 1))) (bAnd (bV (cBin oInA (cVar 4) (cVar 1))) (bV (cBin oNotInA (cVar 5) (cVar 1))))) (sRet (cArgs oTup (aCons (cVar 5) (aCons (cArgs oTup (aCons (cStr [97, 112, 112, 108, 121]) (aCons (cVar 2) (aCons (cVar 4) (aNil))))) (aNil))))) (sNil)) (sIf (bAnd (bV (cBin oInA (cVar 5) (cVar 1))) (bV (cBin oNotInA (cVar 2) (cVar 1)))) (sRet (cArgs oTup (aCons (cVar 2) (aCons (cArgs oTup (aCons (cStr [97, 98, 111, 118, 101]) (aCons (cVar 5) (aNil)))) (aNil))))) (sNil)))) (sNil)))) (sRet (cNon))
/-- Search.next_far -/
def b_24 (call : Nat → Fv) : Sv := sSeq (sFor (nR1 (aCons (cArgs oLen (aCons (cUn (oFld 7) (cVar 0)) (aNil))) (aNil))) (gNm 3) (sSeq (sAsg (cMe 2 (call 22) (cVar 0) (aCons (cVar 3) (aNil))) (gNm 4)) (sIf (bAnd (bV (cBin oNotN (cVar 4) (cNon))) (bAnd (bV (cBin oNotInA (cVar 3) (cVar 2))) (bV (cBin oNotInA (cBin oIxA (cVar 4) (cInt 0)) (cVar 2))))) (sIf (bV (cBin oInA (cBin oIxA (cVar 4) (cInt 1)) (cMe 2 (call 26) (cVar 0) (aCons (cMe 2 (call 25) (cVar 0) (aCons (cVar 1) (aCons (cBin oIxA (cVar 4) (cInt 0)) (aNil)))) (aNil))))) (sRet (cArgs oTup (aCons (cVar 3) (aCons (cArgs oTup (aCons (cStr [117, 110, 100, 101, 114]) (aCons (cBin oIxA (cVar 4) (cInt 0)) (aCons (cBin oIxA (cVar 4) (cInt 1)) (aNil))))) (aNil))))) (sNil)) (sNil)))) (sRet (cNon))
/-- Search.with_more -/
def b_25 (call : Nat → Fv) : Sv := sRet (cArgs oTof (aCons (cArgs oSrt (aCons (cBin oAddA (cVar 1) (cArgs oTup (aCons (cVar 2) (aNil)))) (aNil))) (aNil)))
/-- Search.closure -/
def b_26 (call : Nat → Fv) : Sv := sSeq (sIf (bV (cBin oNotInA (cVar 1) (cUn (oFld 10) (cVar 0)))) (sSeq (sAsg (cDc (nTup (cVar 1)) (gNm 3) (bYes) (cVar 3) (cArgs oTup (aCons (cStr [103, 105, 118, 101, 110]) (aNil))) [3]) (gNm 2)) (sSeq (sWh (bV (cBl true)) (sSeq (sAsg (cOr (cMe 2 (call 23) (cVar 0) (aCons (cVar 2) (aNil))) (cMe 2 (call 24) (cVar 0) (aCons (cVar 1) (aCons (cVar 2) (aNil))))) (gNm 4)) (sSeq (sIf (bV (cBin oIsN (cVar 4) (cNon))) (sBrk) (sNil)) (sPut (cVar 2) (cBin oIxA (cVar 4) (cInt 0)) (cBin oIxA (cVar 4) (cInt 1)))))) (sPut (cUn (oFld 10) (cVar 0)) (cVar 1) (cVar 2)))) (sNil)) (sRet (cBin oIxA (cUn (oFld 10) (cVar 0)) (cVar 1)))
/-- Search.formula -/
def b_27 (call : Nat → Fv) : Sv := sRet (cIf (bV (cBin oEq (cVar 1) (cUn (oFld 8) (cVar 0)))) (cNo) (cBin oIxA (cUn (oFld 7) (cVar 0)) (cVar 1)))
/-- Search.derive -/
def b_28 (call : Nat → Fv) : Sv := sSeq (sAsg (cMe 2 (call 27) (cVar 0) (aCons (cVar 2) (aNil))) (gNm 4)) (sSeq (sIf (bV (cBin oInA (cVar 4) (cUn (oFld 1) (cVar 3)))) (sRet (cBin oIxA (cUn (oFld 1) (cVar 3)) (cVar 4))) (sNil)) (sSeq (sAsg (cBin oIxA (cMe 2 (call 26) (cVar 0) (aCons (cVar 1) (aNil))) (cVar 2)) (gNm 5)) (sSeq (sIf (bV (cBin oEq (cBin oIxA (cVar 5) (cInt 0)) (cStr [103, 105, 118, 101, 110]))) (sRet (cMe 0 (call 5) (cVar 3) (aCons (cVar 4) (aNil)))) (sNil)) (sSeq (sIf (bV (cBin oEq (cBin oIxA (cVar 5) (cInt 0)) (cStr [97, 112, 112, 108, 121]))) (sRet (cMe 2 (call 29) (cVar 0) (aCons (cVar 1) (aCons (cVar 5) (aCons (cVar 3) (aNil)))))) (sNil)) (sSeq (sIf (bV (cBin oEq (cBin oIxA (cVar 5) (cInt 0)) (cStr [97, 98, 111, 118, 101]))) (sSeq (sAsg (cMe 2 (call 28) (cVar 0) (aCons (cVar 1) (aCons (cBin oIxA (cVar 5) (cInt 1)) (aCons (cVar 3) (aNil))))) (gNm 6)) (sAsg (cMe 0 (call 7) (cVar 3) (aCons (cMe 0 (call 6) (cVar 3) (aCons (cInt 1) (aCons (cMe 2 (call 27) (cVar 0) (aCons (cBin oIxA (cVar 5) (cInt 1)) (aNil))) (aCons (cBin oIxA (cVar 4) (cInt 1)) (aNil))))) (aCons (cVar 6) (aNil)))) (gNm 7))) (sSeq (sAsg (cMk 0 (call 3) (aNil)) (gNm 8)) (sSeq (sAsg (cMe 2 (call 28) (cVar 0) (aCons (cMe 2 (call 25) (cVar 0) (aCons (cVar 1) (aCons (cBin oIxA (cVar 5) (cInt 1)) (aNil)))) (aCons (cBin oIxA (cVar 5) (cInt 2)) (aCons (cVar 8) (aNil))))) (gNm 6)) (sAsg (cMe 0 (call 8) (cVar 3) (aCons (cArgs (call 19) (aCons (cMe 0 (call 9) (cVar 8) (aCons (cVar 6) (aNil))) (aCons (cBin oIxA (cVar 4) (cInt 1)) (aNil)))) (aNil))) (gNm 7))))) (sSeq (sIf (bV (cBin oEq (cBin oIxA (cVar 4) (cInt 0)) (cStr [110, 111, 116]))) (sRet (cMe 0 (call 7) (cVar 3) (aCons (cMe 0 (call 8) (cVar 3) (aCons (cNo) (aNil))) (aCons (cVar 7) (aNil))))) (sNil)) (sRet (cVar 7))))))))
/-- Search.apply -/
def b_29 (call : Nat → Fv) : Sv := sSeq (sAsg (cMe 2 (call 28) (cVar 0) (aCons (cVar 1) (aCons (cBin oIxA (cVar 2) (cInt 1)) (aCons (cVar 3) (aNil))))) (gNm 4)) (sSeq (sAsg (cMe 2 (call 28) (cVar 0) (aCons (cVar 1) (aCons (cBin oIxA (cVar 2) (cInt 2)) (aCons (cVar 3) (aNil))))) (gNm 5)) (sSeq (sAsg (cMe 2 (call 27) (cVar 0) (aCons (cBin oIxA (cVar 2) (cInt 1)) (aNil))) (gNm 6)) (sSeq (sIf (bV (cBin oEq (cBin oIxA (cVar 6) (cInt 0)) (cStr [110, 111, 116]))) (sAsg (cMe 0 (call 7) (cVar 3) (aCons (cMe 0 (call 8) (cVar 3) (aCons (cNo) (aNil))) (aCons (cVar 4) (aNil)))) (gNm 4)) (sNil)) (sRet (cMe 0 (call 7) (cVar 3) (aCons (cVar 4) (aCons (cVar 5) (aNil))))))))
/-- Search.proof -/
def b_30 (call : Nat → Fv) : Sv := sSeq (sAsg (cMk 0 (call 3) (aNil)) (gNm 3)) (sRet (cArgs (call 11) (aCons (cMe 0 (call 9) (cVar 3) (aCons (cMe 2 (call 28) (cVar 0) (aCons (cVar 1) (aCons (cVar 2) (aCons (cVar 3) (aNil))))) (aNil))) (aNil))))
/-- decide_from -/
def b_31 (call : Nat → Fv) : Sv := sSeq (sAsg (cMk 2 (call 21) (aCons (cBin oAddA (cVar 0) (cArgs oTup (aCons (cVar 1) (aNil)))) (aCons (cVar 2) (aNil)))) (gNm 3)) (sSeq (sAsg (cArgs oTof (aCons (cUn oSrtNo (cVar 0)) (aNil))) (gNm 4)) (sSeq (sAsg (cBin oIxA (cUn (oFld 1) (cVar 3)) (cVar 1)) (gNm 6)) (sSeq (sIf (bV (cBin oInA (cVar 6) (cMe 2 (call 26) (cVar 3) (aCons (cVar 4) (aNil))))) (sRet (cArgs oTup (aCons (cStr [112, 114, 111, 111, 102]) (aCons (cMeF 2 2 (call 30) (cVar 3) (aCons (cVar 4) (aCons (cVar 6) (aNil)))) (aNil))))) (sNil)) (sRet (cArgs oTup (aCons (cStr [99, 111, 117, 110, 116, 101, 114]) (aCons (cNo) (aNil))))))))
/-- decide -/
def b_32 (call : Nat → Fv) : Sv := sRet (cArgs (call 31) (aCons (cArgs oTup (aNil)) (aCons (cVar 0) (aCons (cVar 1) (aNil)))))
/-- why_apart -/
def b_33 (call : Nat → Fv) : Sv := sRet (cIf (bV (cUn (oInTab tAp) (cVar 0))) (cUn (oTab tAp) (cVar 0)) (cBin oIxA (cArgs (call 32) (aCons (cArgs (call 2) (aCons (cVar 0) (aNil))) (aCons (cStr [112, 111, 115, 105, 116, 105, 118, 101]) (aNil)))) (cInt 1)))
/-- _law_matches -/
def b_34 (call : Nat → Fv) : Sv := sSeq (sIf (bV (cBin oEq (cBin oIxA (cVar 0) (cInt 0)) (cStr [108, 101, 116, 116, 101, 114]))) (sSeq (sIf (bV (cBin oNotInA (cBin oIxA (cVar 0) (cInt 1)) (cVar 2))) (sPut (cVar 2) (cBin oIxA (cVar 0) (cInt 1)) (cVar 1)) (sNil)) (sRet (cBin oEq (cBin oIxA (cVar 2) (cBin oIxA (cVar 0) (cInt 1))) (cVar 1)))) (sNil)) (sSeq (sIf (bV (cBin oNe (cBin oIxA (cVar 0) (cInt 0)) (cBin oIxA (cVar 1) (cInt 0)))) (sRet (cBl false)) (sNil)) (sSeq (sFor (nR2 (aCons (cInt 1) (aCons (cArgs oLen (aCons (cVar 0) (aNil))) (aNil)))) (gNm 3) (sIf (bNot (bV (cArgs (call 34) (aCons (cBin oIxA (cVar 0) (cVar 3)) (aCons (cBin oIxA (cVar 1) (cVar 3)) (aCons (cVar 2) (aNil))))))) (sRet (cBl false)) (sNil))) (sRet (cBl true))))
/-- _law_if -/
def b_35 (call : Nat → Fv) : Sv := sSeq (sAsg (cBin oIxA (cVar 0) (cBin oSub (cArgs oLen (aCons (cVar 0) (aNil))) (cInt 1))) (gNm 1)) (sSeq (sFor (nR2 (aCons (cInt 1) (aCons (cArgs oLen (aCons (cVar 0) (aNil))) (aNil)))) (gNm 2) (sAsg (cArgs oTup (aCons (cStr [105, 102]) (aCons (cBin oIxA (cVar 0) (cBin oSub (cBin oSub (cArgs oLen (aCons (cVar 0) (aNil))) (cInt 1)) (cVar 2))) (aCons (cVar 1) (aNil))))) (gNm 1))) (sRet (cVar 1)))
/-- the law: axioms -/
def b_36 (call : Nat → Fv) : Sv := sSeq (sAsg (cArgs oTup (aCons (cStr [108, 101, 116, 116, 101, 114]) (aCons (cStr [97]) (aNil)))) (gNm 1)) (sSeq (sAsg (cArgs oTup (aCons (cStr [108, 101, 116, 116, 101, 114]) (aCons (cStr [98]) (aNil)))) (gNm 2)) (sSeq (sAsg (cArgs oTup (aCons (cStr [108, 101, 116, 116, 101, 114]) (aCons (cStr [99]) (aNil)))) (gNm 3)) (sSeq (sAsg (cArgs oTup (aCons (cStr [108, 101, 116, 116, 101, 114]) (aCons (cStr [100]) (aNil)))) (gNm 4)) (sSeq (sAsg (cArgs oLst (aCons (cArgs (call 35) (aCons (cArgs oLst (aCons (cVar 1) (aCons (cVar 2) (aCons (cVar 1) (aNil))))) (aNil))) (aCons (cArgs (call 35) (aCons (cArgs oLst (aCons (cArgs (call 35) (aCons (cArgs oLst (aCons (cVar 3) (aCons (cVar 2) (aCons (cVar 1) (aNil))))) (aNil))) (aCons (cArgs (call 35) (aCons (cArgs oLst (aCons (cVar 3) (aCons (cVar 2) (aNil)))) (aNil))) (aCons (cVar 3) (aCons (cVar 1) (aNil)))))) (aNil))) (aNil)))) (gNm 5)) (sSeq (sDrop (cMt oApp (cLst (cVar 5)) (aCons (cArgs (call 35) (aCons (cArgs oLst (aCons (cArgs (call 35) (aCons (cArgs oLst (aCons (cVar 4) (aCons (cVar 2) (aCons (cVar 1) (aNil))))) (aNil))) (aCons (cVar 2) (aCons (cVar 4) (aCons (cVar 1) (aNil)))))) (aNil))) (aNil)))) (sSeq (sDrop (cMt oApp (cLst (cVar 5)) (aCons (cArgs (call 35) (aCons (cArgs oLst (aCons (cArgs (call 35) (aCons (cArgs oLst (aCons (cVar 2) (aCons (cVar 1) (aNil)))) (aNil))) (aCons (cArgs oTup (aCons (cStr [110, 111, 116]) (aCons (cVar 1) (aNil)))) (aCons (cArgs oTup (aCons (cStr [110, 111, 116]) (aCons (cVar 2) (aNil)))) (aNil))))) (aNil))) (aNil)))) (sRet (cBin oIxA (cBin oAddA (cVar 5) (cArgs oLst (aCons (cArgs (call 35) (aCons (cArgs oLst (aCons (cArgs oTup (aCons (cStr [110, 111, 116]) (aCons (cArgs oTup (aCons (cStr [110, 111, 116]) (aCons (cVar 1) (aNil)))) (aNil)))) (aCons (cVar 1) (aNil)))) (aNil))) (aCons (cArgs (call 35) (aCons (cArgs oLst (aCons (cVar 1) (aCons (cArgs oTup (aCons (cStr [110, 111, 116]) (aCons (cArgs oTup (aCons (cStr [110, 111, 116]) (aCons (cVar 1) (aNil)))) (aNil)))) (aNil)))) (aNil))) (aNil))))) (cBin oSub (cVar 0) (cInt 1))))))))))
/-- _law_line_fault -/
def b_37 (call : Nat → Fv) : Sv := sSeq (sAsg (cBin oIxA (cBin oIxA (cVar 0) (cVar 1)) (cInt 0)) (gNm 2)) (sSeq (sAsg (cBin oIxA (cBin oIxA (cVar 0) (cVar 1)) (cInt 1)) (gNm 3)) (sSeq (sIf (bV (cBin oEq (cBin oIxA (cVar 3) (cInt 0)) (cStr [97, 120, 105, 111, 109]))) (sSeq (sIf (bOr (bV (cBin oLt (cBin oIxA (cVar 3) (cInt 1)) (cInt 1))) (bV (cBin oGt (cBin oIxA (cVar 3) (cInt 1)) (cInt 6)))) (sRet (cStr [117, 110, 107, 110, 111, 119, 110, 32, 97, 120, 105, 111, 109])) (sNil)) (sIf (bNot (bV (cArgs (call 34) (aCons (cArgs (call 36) (aCons (cBin oIxA (cVar 3) (cInt 1)) (aNil))) (aCons (cVar 2) (aCons (cNewK) (aNil))))))) (sRet (cStr [110, 111, 32, 105, 110, 115, 116, 97, 110, 99, 101])) (sNil))) (sNil)) (sSeq (sIf (bV (cBin oEq (cBin oIxA (cVar 3) (cInt 0)) (cStr [100, 101, 116, 97, 99, 104]))) (sSeq (sIf (bOr (bNot (bV (cCh oLe oLt (cInt 0) (cBin oIxA (cVar 3) (cInt 1)) (cVar 1)))) (bNot (bV (cCh oLe oLt (cInt 0) (cBin oIxA (cVar 3) (cInt 2)) (cVar 1))))) (sRet (cStr [108, 105, 110, 101, 32, 110, 111, 116, 32, 98, 101, 102, 111, 114, 101])) (sNil)) (sSeq (sAsg (cBin oIxA (cBin oIxA (cVar 0) (cBin oIxA (cVar 3) (cInt 1))) (cInt 0)) (gNm 4)) (sSeq (sIf (bV (cBin oNe (cBin oIxA (cVar 4) (cInt 0)) (cStr [105, 102]))) (sRet (cStr [110, 111, 32, 99, 111, 110, 100, 105, 116, 105, 111, 110, 97, 108])) (sNil)) (sSeq (sIf (bV (cBin oNe (cBin oIxA (cVar 4) (cInt 1)) (cBin oIxA (cBin oIxA (cVar 0) (cBin oIxA (cVar 3) (cInt 2))) (cInt 0)))) (sRet (cStr [111, 116, 104, 101, 114, 32, 99, 111, 110, 100, 105, 116, 105, 111, 110])) (sNil)) (sIf (bV (cBin oNe (cBin oIxA (cVar 4) (cInt 2)) (cVar 2))) (sRet (cStr [111, 116, 104, 101, 114, 32, 99, 111, 110, 115, 101, 113, 117, 101, 110, 99, 101])) (sNil)))))) (sNil)) (sRet (cNon)))))
/-- _law_fault -/
def b_38 (call : Nat → Fv) : Sv := sSeq (sIf (bV (cBin oEq (cArgs oLen (aCons (cVar 0) (aNil))) (cInt 0))) (sRet (cArgs oTup (aCons (cInt 0) (aCons (cStr [101, 109, 112, 116, 121]) (aNil))))) (sNil)) (sSeq (sFor (nR1 (aCons (cArgs oLen (aCons (cVar 0) (aNil))) (aNil))) (gNm 1) (sSeq (sAsg (cArgs (call 37) (aCons (cVar 0) (aCons (cVar 1) (aNil)))) (gNm 2)) (sIf (bV (cBin oNotN (cVar 2) (cNon))) (sRet (cArgs oTup (aCons (cVar 1) (aCons (cVar 2) (aNil))))) (sNil)))) (sRet (cNon)))
/-- _law_hypotheses -/
def b_39 (call : Nat → Fv) : Sv := sSeq (sAsg (cArgs oLst (aNil)) (gNm 1)) (sSeq (sFor (nTup (cVar 0)) (gNm 2) (sIf (bAnd (bV (cBin oEq (cBin oIxA (cBin oIxA (cVar 2) (cInt 1)) (cInt 0)) (cStr [104, 121, 112, 111, 116, 104, 101, 115, 105, 115]))) (bV (cBin oNotInA (cBin oIxA (cVar 2) (cInt 0)) (cVar 1)))) (sDrop (cMt oApp (cLst (cVar 1)) (aCons (cBin oIxA (cVar 2) (cInt 0)) (aNil)))) (sNil))) (sRet (cVar 1)))
/-- _law_plain_why -/
def b_40 (call : Nat → Fv) : Sv := sSeq (sIf (bV (cBin oEq (cVar 0) (cArgs oTup (aCons (cStr [104, 121, 112, 111, 116, 104, 101, 115, 105, 115]) (aNil))))) (sRet (cBl true)) (sNil)) (sSeq (sIf (bOr (bV (cBin oEq (cArgs oLen (aCons (cVar 0) (aNil))) (cInt 0))) (bOr (bV (cBin oNotInA (cBin oIxA (cVar 0) (cInt 0)) (cArgs oLst (aCons (cStr [97, 120, 105, 111, 109]) (aCons (cStr [100, 101, 116, 97, 99, 104]) (aNil)))))) (bV (cBin oNe (cArgs oLen (aCons (cVar 0) (aNil))) (cBin oAddA (cInt 2) (cArgs oI1 (aCons (cBin oEq (cBin oIxA (cVar 0) (cInt 0)) (cStr [100, 101, 116, 97, 99, 104])) (aNil)))))))) (sRet (cBl false)) (sNil)) (sRet (cBin oEq (cArgs oLen (aCons (cLc (nTup (cUn oTl (cVar 0))) (gNm 1) (bOr (bNot (bV (cUn (oIsi 1) (cVar 1)))) (bV (cUn (oIsi 2) (cVar 1)))) (cVar 1) [1]) (aNil))) (cInt 0))))
/-- _law_right -/
def b_41 (call : Nat → Fv) : Sv := sSeq (sIf (bOr (bNot (bV (cUn (oIsi 0) (cVar 0)))) (bV (cBin oEq (cArgs oLen (aCons (cVar 0) (aNil))) (cInt 0)))) (sRet (cBl false)) (sNil)) (sSeq (sFor (nTup (cVar 0)) (gNm 4) (sSeq (sIf (bOr (bNot (bV (cUn (oIsi 0) (cVar 4)))) (bOr (bV (cBin oNe (cArgs oLen (aCons (cVar 4) (aNil))) (cInt 2))) (bOr (bNot (bV (cUn (oIsi 0) (cBin oIxA (cVar 4) (cInt 1))))) (bNot (bV (cArgs (call 40) (aCons (cBin oIxA (cVar 4) (cInt 1)) (aNil)))))))) (sRet (cBl false)) (sNil)) (sIf (bAnd (bV (cBin oEq (cBin oIxA (cBin oIxA (cVar 4) (cInt 1)) (cInt 0)) (cStr [97, 120, 105, 111, 109]))) (bV (cBin oNotInA (cBin oIxA (cBin oIxA (cVar 4) (cInt 1)) (cInt 1)) (cVar 3)))) (sRet (cBl false)) (sNil)))) (sSeq (sIf (bOr (bV (cBin oNotN (cArgs (call 38) (aCons (cVar 0) (aNil))) (cNon))) (bV (cBin oNe (cBin oIxA (cBin oIxA (cVar 0) (cBin oSub (cArgs oLen (aCons (cVar 0) (aNil))) (cInt 1))) (cInt 0)) (cVar 2)))) (sRet (cBl false)) (sNil)) (sRet (cBin oEq (cArgs oLen (aCons (cLc (nLst (cArgs (call 39) (aCons (cVar 0) (aNil)))) (gNm 5) (bV (cBin oNotInA (cVar 5) (cVar 1))) (cVar 5) [5]) (aNil))) (cInt 0)))))
/-- _law_rising -/
def b_42 (call : Nat → Fv) : Sv := sSeq (sIf (bNot (bV (cUn (oIsi 0) (cVar 0)))) (sRet (cBl false)) (sNil)) (sSeq (sFor (nR1 (aCons (cArgs oLen (aCons (cVar 0) (aNil))) (aNil))) (gNm 2) (sSeq (sIf (bOr (bNot (bV (cUn (oIsi 1) (cBin oIxA (cVar 0) (cVar 2))))) (bOr (bV (cUn (oIsi 2) (cBin oIxA (cVar 0) (cVar 2)))) (bNot (bV (cCh oLe oLt (cInt 0) (cBin oIxA (cVar 0) (cVar 2)) (cVar 1)))))) (sRet (cBl false)) (sNil)) (sIf (bAnd (bV (cBin oGt (cVar 2) (cInt 0))) (bV (cBin oLe (cBin oIxA (cVar 0) (cVar 2)) (cBin oIxA (cVar 0) (cBin oSub (cVar 2) (cInt 1)))))) (sRet (cBl false)) (sNil)))) (sRet (cBl true)))
/-- _law_row_of_values -/
def b_43 (call : Nat → Fv) : Sv := sSeq (sIf (bOr (bNot (bV (cUn (oIsi 0) (cVar 0)))) (bV (cBin oNe (cArgs oLen (aCons (cVar 0) (aNil))) (cVar 1)))) (sRet (cBl false)) (sNil)) (sSeq (sFor (nTup (cVar 0)) (gNm 2) (sIf (bOr (bNot (bV (cUn (oIsi 1) (cVar 2)))) (bOr (bV (cUn (oIsi 2) (cVar 2))) (bNot (bV (cCh oLe oLt (cInt 0) (cVar 2) (cVar 1)))))) (sRet (cBl false)) (sNil))) (sRet (cBl true)))
/-- _law_is_table -/
def b_44 (call : Nat → Fv) : Sv := sSeq (sIf (bOr (bNot (bV (cUn (oIsi 0) (cVar 0)))) (bOr (bV (cBin oNe (cArgs oLen (aCons (cVar 0) (aNil))) (cInt 5))) (bV (cBin oNe (cBin oIxA (cVar 0) (cInt 0)) (cStr [116, 97, 98, 108, 101]))))) (sRet (cBl false)) (sNil)) (sSeq (sAsg (cBin oIxA (cVar 0) (cInt 1)) (gNm 1)) (sSeq (sIf (bOr (bNot (bV (cUn (oIsi 1) (cVar 1)))) (bOr (bV (cUn (oIsi 2) (cVar 1))) (bOr (bNot (bV (cCh oLe oLe (cInt 1) (cVar 1) (cInt 4)))) (bNot (bV (cArgs (call 42) (aCons (cBin oIxA (cVar 0) (cInt 2)) (aCons (cVar 1) (aNil))))))))) (sRet (cBl false)) (sNil)) (sSeq (sIf (bOr (bNot (bV (cArgs (call 43) (aCons (cBin oIxA (cVar 0) (cInt 3)) (aCons (cVar 1) (aNil)))))) (bOr (bNot (bV (cUn (oIsi 0) (cBin oIxA (cVar 0) (cInt 4))))) (bV (cBin oNe (cArgs oLen (aCons (cBin oIxA (cVar 0) (cInt 4)) (aNil))) (cVar 1))))) (sRet (cBl false)) (sNil)) (sRet (cBin oEq (cArgs oLen (aCons (cLc (nTup (cBin oIxA (cVar 0) (cInt 4))) (gNm 2) (bNot (bV (cArgs (call 43) (aCons (cVar 2) (aCons (cVar 1) (aNil)))))) (cVar 2) [2]) (aNil))) (cInt 0))))))
/-- _law_keeps_rule -/
def b_45 (call : Nat → Fv) : Sv := sSeq (sFor (nR1 (aCons (cBin oIxA (cVar 0) (cInt 1)) (aNil))) (gNm 1) (sFor (nR1 (aCons (cBin oIxA (cVar 0) (cInt 1)) (aNil))) (gNm 2) (sIf (bAnd (bV (cBin oInA (cVar 1) (cBin oIxA (cVar 0) (cInt 2)))) (bAnd (bV (cBin oInA (cBin oIxA (cBin oIxA (cBin oIxA (cVar 0) (cInt 4)) (cVar 1)) (cVar 2)) (cBin oIxA (cVar 0) (cInt 2)))) (bV (cBin oNotInA (cVar 2) (cBin oIxA (cVar 0) (cInt 2)))))) (sRet (cBl false)) (sNil)))) (sRet (cBl true))
/-- _law_ways -/
def b_46 (call : Nat → Fv) : Sv := sSeq (sAsg (cArgs oLst (aCons (cNewK) (aNil))) (gNm 2)) (sSeq (sFor (nLst (cVar 0)) (gNm 3) (sSeq (sAsg (cArgs oLst (aNil)) (gNm 4)) (sSeq (sFor (nLst (cVar 2)) (gNm 5) (sFor (nR1 (aCons (cVar 1) (aNil))) (gNm 6) (sSeq (sAsg (cArgs oDic (aCons (cVar 5) (aNil))) (gNm 7)) (sSeq (sPut (cVar 7) (cVar 3) (cVar 6)) (sDrop (cMt oApp (cLst (cVar 4)) (aCons (cVar 7) (aNil)))))))) (sAsg (cVar 4) (gNm 2))))) (sRet (cVar 2)))
/-- _law_parts -/
def b_47 (call : Nat → Fv) : Sv := sSeq (sAsg (cArgs oLst (aCons (cVar 0) (aNil))) (gNm 1)) (sSeq (sFor (nTup (cUn oTl (cVar 0))) (gNm 2) (sIf (bV (cBin oNe (cBin oIxA (cVar 0) (cInt 0)) (cStr [108, 101, 116, 116, 101, 114]))) (sAsg (cBin oAddA (cVar 1) (cArgs (call 47) (aCons (cVar 2) (aNil)))) (gNm 1)) (sNil))) (sRet (cVar 1)))
/-- _law_names -/
def b_48 (call : Nat → Fv) : Sv := sRet (cUn oSrtSet (cLc (nLst (cArgs (call 47) (aCons (cVar 0) (aNil)))) (gNm 1) (bV (cBin oEq (cBin oIxA (cVar 1) (cInt 0)) (cStr [108, 101, 116, 116, 101, 114]))) (cBin oIxA (cVar 1) (cInt 1)) [1]))
/-- _law_value -/
def b_49 (call : Nat → Fv) : Sv := sSeq (sIf (bV (cBin oEq (cBin oIxA (cVar 1) (cInt 0)) (cStr [108, 101, 116, 116, 101, 114]))) (sRet (cBin oIxA (cVar 2) (cBin oIxA (cVar 1) (cInt 1)))) (sNil)) (sSeq (sIf (bV (cBin oEq (cBin oIxA (cVar 1) (cInt 0)) (cStr [110, 111, 116]))) (sRet (cBin oIxA (cBin oIxA (cVar 0) (cInt 3)) (cArgs (call 49) (aCons (cVar 0) (aCons (cBin oIxA (cVar 1) (cInt 1)) (aCons (cVar 2) (aNil))))))) (sNil)) (sRet (cBin oIxA (cBin oIxA (cBin oIxA (cVar 0) (cInt 4)) (cArgs (call 49) (aCons (cVar 0) (aCons (cBin oIxA (cVar 1) (cInt 1)) (aCons (cVar 2) (aNil)))))) (cArgs (call 49) (aCons (cVar 0) (aCons (cBin oIxA (cVar 1) (cInt 2)) (aCons (cVar 2) (aNil))))))))
/-- _law_kept -/
def b_50 (call : Nat → Fv) : Sv := sSeq (sFor (nLst (cArgs (call 46) (aCons (cArgs (call 48) (aCons (cVar 1) (aNil))) (aCons (cBin oIxA (cVar 0) (cInt 1)) (aNil))))) (gNm 2) (sIf (bV (cBin oNotInA (cArgs (call 49) (aCons (cVar 0) (aCons (cVar 1) (aCons (cVar 2) (aNil))))) (cBin oIxA (cVar 0) (cInt 2)))) (sRet (cBl false)) (sNil))) (sRet (cBl true))
/-- _law_parts_by -/
def b_51 (call : Nat → Fv) : Sv := sSeq (sIf (bOr (bNot (bV (cArgs (call 44) (aCons (cVar 0) (aNil))))) (bNot (bV (cArgs (call 45) (aCons (cVar 0) (aNil)))))) (sRet (cBl false)) (sNil)) (sSeq (sFor (nLst (cVar 1)) (gNm 3) (sIf (bNot (bV (cArgs (call 50) (aCons (cVar 0) (aCons (cArgs (call 36) (aCons (cVar 3) (aNil))) (aNil)))))) (sRet (cBl false)) (sNil))) (sRet (cUn oNot (cArgs (call 50) (aCons (cVar 0) (aCons (cVar 2) (aNil)))))))
def bd (call : Nat → Fv) (f : Nat) : Fv := match f with
  | 0 => runB 2 1 (b_0 call)
  | 1 => runB 3 2 (b_1 call)
  | 2 => runB 1 1 (b_2 call)
  | 3 => runB 1 1 (b_3 call)
  | 4 => runB 3 3 (b_4 call)
  | 5 => runB 2 2 (b_5 call)
  | 6 => runStar 3 2 (b_6 call)
  | 7 => runB 3 3 (b_7 call)
  | 8 => runB 5 2 (b_8 call)
  | 9 => runB 2 2 (b_9 call)
  | 10 => runB 5 1 (b_10 call)
  | 11 => runB 10 1 (b_11 call)
  | 12 => runB 3 3 (b_12 call)
  | 13 => runB 2 2 (b_13 call)
  | 14 => runB 3 1 (b_14 call)
  | 15 => runB 3 2 (b_15 call)
  | 16 => runB 8 4 (b_16 call)
  | 17 => runB 4 2 (b_17 call)
  | 18 => runB 2 1 (b_18 call)
  | 19 => runB 2 2 (b_19 call)
  | 20 => runB 4 2 (b_20 call)
  | 21 => runB 8 3 (b_21 call)
  | 22 => runB 3 2 (b_22 call)
  | 23 => runB 6 2 (b_23 call)
  | 24 => runB 5 3 (b_24 call)
  | 25 => runB 3 3 (b_25 call)
  | 26 => runB 5 2 (b_26 call)
  | 27 => runB 2 2 (b_27 call)
  | 28 => runB 9 4 (b_28 call)
  | 29 => runB 7 4 (b_29 call)
  | 30 => runB 4 3 (b_30 call)
  | 31 => runB 7 3 (b_31 call)
  | 32 => runB 2 2 (b_32 call)
  | 33 => runB 1 1 (b_33 call)
  | 34 => runB 4 3 (b_34 call)
  | 35 => runB 3 1 (b_35 call)
  | 36 => runB 6 1 (b_36 call)
  | 37 => runB 5 2 (b_37 call)
  | 38 => runB 3 1 (b_38 call)
  | 39 => runB 3 1 (b_39 call)
  | 40 => runB 2 1 (b_40 call)
  | 41 => runB 6 4 (b_41 call)
  | 42 => runB 3 2 (b_42 call)
  | 43 => runB 3 2 (b_43 call)
  | 44 => runB 3 1 (b_44 call)
  | 45 => runB 3 1 (b_45 call)
  | 46 => runB 8 2 (b_46 call)
  | 47 => runB 3 1 (b_47 call)
  | 48 => runB 2 1 (b_48 call)
  | 49 => runB 3 3 (b_49 call)
  | 50 => runB 3 2 (b_50 call)
  | 51 => runB 4 3 (b_51 call)
  | _ => fun _ _ => none
def callN : Nat → Nat → Fv
  | 0 => fun _ _ _ => none
  | k + 1 => bd (callN k)
end Cs
/-! Z14: tables of the top; enumerate(tuple); a method whose name is a field's too. -/
namespace Cs
open PySem PySem.Spec PyProof.Rows L2
/-- the name x holds a written dict, keys ints -/
structure KTab (P : Program) (w : World) (K : PySem.W.Frag) (mg : Str → Option Value) (x : Str) (t : List (Int × D)) : Prop where
  ex : ∃ (a : Addr) (vs : List (Key × Value)), mg x = some (.ref a) ∧ (a == sysModules) = false ∧ (∀ h : Heap, K.In h → h.DictOf (mixKind P w) a vs) ∧
    Paired (fun (p : Int × D) (q : Key × Value) => Sum.inl p.1 = q.1 ∧ ∃ v, RelV v q.2 ∧ ∀ H, RD K H p.2 v) t vs
theorem lkT_rel {K : PySem.W.Frag} (i : Int) : ∀ {t : List (Int × D)} {vs : List (Key × Value)}, Paired (fun (p : Int × D) (q : Key × Value) => Sum.inl p.1 = q.1 ∧ ∃ v, RelV v q.2 ∧ ∀ H, RD K H p.2 v) t vs →
    (∃ d u v, lkT i t = some d ∧ valueAt vs (Sum.inl i) = some u ∧ RelV v u ∧ ∀ H, RD K H d v) ∨ (lkT i t = none ∧ valueAt vs (Sum.inl i) = none)
  | _, _, .nil => .inr ⟨rfl, rfl⟩
  | (j, d) :: t, (k, u) :: vs, .cons h r => by
    obtain ⟨h1, v, h2, h3⟩ := h
    have e1 : k = Sum.inl j := h1.symm
    subst e1
    unfold lkT
    rw [cond_dec]
    by_cases e : j = i
    · subst e
      exact .inl ⟨d, u, v, if_pos rfl, by simp [valueAt], h2, h3⟩
    · rw [if_neg e]
      have e2 : valueAt ((Sum.inl j, u) :: vs) (Sum.inl i) = valueAt vs (Sum.inl i) := by
        have ne : ¬ ((Sum.inl j : Key) = Sum.inl i) := fun z => e (Sum.inl.inj z)
        simp [valueAt, List.find?_cons, ne]
      rw [e2]
      exact lkT_rel i r
section
variable {X : Cx} {c : Nat → Addr} {pos p : Pos} {x : Str} {t : List (Int × D)}
def rTab (a : Addr) (vs : List (Key × Value)) : R2 := fun x y H Q => ∃ i v u, x = .ref a ∧ y = .int i ∧ valueAt vs (Sum.inl i) = some u ∧ RelV v u ∧ Q v H
theorem ix_tab {a : Addr} {vs : List (Key × Value)} (hd : ∀ h : Heap, X.K.In h → h.DictOf (mixKind X.prog X.w) a vs) : IxR X (rTab a vs) := by
  intro value slice pins s σ H x y v u Q I rx ry h hs
  obtain ⟨i, v', u', rfl, rfl, e, r, q⟩ := h
  cases rx
  have dd := hd s.heap I.kIn
  exact tail_any dd.typeIs slot_dict_getitem.lookup (wpAny_getItem_of (kV_is (k := Sum.inl i) ry) dd.mapOf e ⟨v', H, I.tok _, r, q⟩) hs
def rInTab (a : Addr) (vs : List (Key × Value)) : R2 := fun x y H Q => ∃ i, y = .ref a ∧ x = .int i ∧ Q (.bl (valueAt vs (Sum.inl i)).isSome) H
theorem op_intab {a : Addr} {vs : List (Key × Value)} (lo : (a == sysModules) = false) (hd : ∀ h : Heap, X.K.In h → h.DictOf (mixKind X.prog X.w) a vs) : OpR X (compareOp .In) (rInTab a vs) := by
  intro pins s σ H x y v u Q I rx ry h
  obtain ⟨i, rfl, rfl, q⟩ := h
  cases ry
  have dd := hd s.heap I.kIn
  exact wpAny_in_of (kV_is (k := Sum.inl i) rx) lo dd.mapOf ⟨.bl (valueAt vs (Sum.inl i)).isSome, H, I.tok _, rfl, q⟩
theorem e_tab {sl : Expr} {es : Ev} (T : KTab X.prog X.w X.K X.mg x t) (hg : Gl X x) (hs : EE X c sl es) (hp : PlainIx sl := by intro _ _; rfl) (hdb : (x == ("__debug__" : Str)) = false := by decide) : EE X c (.Subscript (.Name x p) sl pos) (cUn (oTab t) es) := by
  obtain ⟨a, vs, hm, lo, hd, rel⟩ := T.ex
  refine PE.imp (pe_ix (ix_tab hd) (pe_glob (v := .ref a) hg hm rfl hdb) hs hp) (un_t (g := gX X c) (r := fun y H2 Q => rTab a vs (.ref a) y H2 Q) ?_)
  intro ι S H y v z S' Q R r e k
  unfold oTab at e
  split at e
  · rename_i i
    cases r with | dat rd =>
    cases rd
    rcases lkT_rel i rel with ⟨d, u, v, e1, e2, e3, e4⟩ | ⟨e1, e2⟩
    · rw [e1] at e
      cases e
      exact ⟨i, v, u, rfl, rfl, e2, e3, k.here R (.dat (e4 H))⟩
    · rw [e1] at e
      cases e
  · cases e
theorem intab_ok {a : Addr} {vs : List (Key × Value)} {g : Gb} (rel : Paired (fun (p : Int × D) (q : Key × Value) => Sum.inl p.1 = q.1 ∧ ∃ v, RelV v q.2 ∧ ∀ H, RD g.K H p.2 v) t vs) : UnOk g (fun x H Q => rInTab a vs x (.ref a) H Q) (oInTab t) := by
  intro ι S H y v z S' Q R r e k
  unfold oInTab at e
  split at e
  · rename_i i
    cases r with | dat rd =>
    cases rd
    refine ⟨i, rfl, rfl, ?_⟩
    rcases lkT_rel i rel with ⟨d, u, v, e1, e2, e3, e4⟩ | ⟨e1, e2⟩
    · rw [e1] at e
      cases e
      rw [e2]
      exact k.here R (.bl true)
    · rw [e1] at e
      cases e
      rw [e2]
      exact k.here R (.bl false)
  · cases e
theorem e_intab {l : Expr} {el : Ev} (T : KTab X.prog X.w X.K X.mg x t) (hg : Gl X x) (hl : EE X c l el) (hdb : (x == ("__debug__" : Str)) = false := by decide) : EE X c (.Compare l [.In] [.Name x p] pos) (cUn (oInTab t) el) := by
  obtain ⟨a, vs, hm, lo, hd, rel⟩ := T.ex
  exact PE.imp (pe_cmpR (op_intab lo hd) hl (pe_glob (v := .ref a) hg hm rfl hdb) rfl) (un_t (g := gX X c) (intab_ok rel))
theorem b_intab {l : Expr} {el : Ev} (T : KTab X.prog X.w X.K X.mg x t) (hg : Gl X x) (hl : EE X c l el) (hdb : (x == ("__debug__" : Str)) = false := by decide) : ET X c (.Compare l [.In] [.Name x p] pos) (bV (cUn (oInTab t) el)) := by
  obtain ⟨a, vs, hm, lo, hd, rel⟩ := T.ex
  refine PT.imp (pt_cmpR (op_intab lo hd) hl (pe_glob (v := .ref a) hg hm rfl hdb) rfl) fun σ H Q h => ?_
  obtain ⟨ι, σa, S, z, S', hL, hS, e, k⟩ := h
  unfold bV at e
  split at e
  · rename_i w S1 q
    cases e
    show teOf (gX X c) el σ H fun v H1 => rInTab a vs v (.ref a) H1 (fun x H' => ∃ k, x = .bl k ∧ Q k H')
    refine un_t (g := gX X c) (r := fun v H1 Q => rInTab a vs v (.ref a) H1 Q) (intab_ok (a := a) rel) σ H _ ⟨ι, σa, S, _, _, hL, hS, q, fun ι1 H1 v x1 R1 r1 => by
      cases r1
      exact ⟨_, rfl, k ι1 H1 x1 R1⟩⟩
  · cases e

/-! ### a name for a comprehension's dict -/
theorem swD_true {kx vx : Expr} {gs : List Comprehension} {scope : Scope} {pos py : Pos} {y : Str} {l : Nat} {env : Env} (hk : env.scope.kind = .function) (hy : env.scope.names.lookup y = some .local) (hl : (py.line == pos.line) = true)
    (ha : (scope.names.any fun (n, k) => n == y && (k == .local || k == .cell)) = false) : swapsWith (.DictComp kx vx gs scope pos) (some (.Name y py)) l env = pure true := by
  have k1 : env.kindOf y = some .local := hy
  have k2 : env.blockKind = .function := by
    unfold Env.blockKind
    rw [hk]
    rfl
  unfold swapsWith
  simp only [k2, k1, ha, Expr.pos, hl]
  rfl

/-! ### a method that has a field's name -/
theorem FR.none {K : PySem.W.Frag} {ι : Nat → Addr} {n : Nat} {H : Hp} {kf : Nat} (hk : kf < 11) : ∀ {l : List (Nat × A)} {fs : List (Str × V)}, FR K ι n H l fs → lkF kf l = Option.none → (l.all fun p => Nat.blt p.1 11) = true → fs.lookup (fNm kf) = Option.none
  | _, _, .nil, _, _ => rfl
  | (j, a) :: l, (g, y) :: fs, .cons r t, e, b => by
    rw [List.all_cons, Bool.and_eq_true] at b
    obtain ⟨b1, b2⟩ := b
    have eg : fNm j = g := r.1
    unfold lkF at e
    rw [beqN, cond_dec] at e
    by_cases h : j = kf
    · rw [if_pos h] at e
      cases e
    · rw [if_neg h, b1] at e
      have ne : (fNm kf == g) = false := by
        rw [beq_eq_false_iff_ne, ← eg]
        exact fun z => h (fNm_inj j (blt_lt b1) kf hk z.symm)
      rw [List.lookup_cons, ne]
      exact FR.none hk t e b2
theorem methF_t {g : Gb} {ci kf : Nat} {eo : Ev} {av : Av} {ev : Fv} (hk : kf < 11) (hn : g.fN = fNm) (σ : St) (H : Hp) (Q : VK) (h : teOf g (cMeF ci kf ev eo av) σ H Q) : tMeth (g.cls ci) (fNm kf) (spR g ev) [] (fun _ _ _ => False) (teOf g eo) (taOf g av) σ H Q := by
  obtain ⟨ι, σa, S, z, S', hL, hS, e, k⟩ := h
  unfold cMeF at e
  split at e
  · rename_i n S1 q1
    split at e
    · rename_i cj l q2
      rw [beqN, cond_dec] at e
      by_cases hc : cj = ci
      · rw [if_pos hc] at e
        subst hc
        split at e
        · cases e
        · rename_i q4
          cases b : (l.all fun p => Nat.blt p.1 11) with
          | false => rw [b] at e; cases e
          | true =>
            rw [b] at e
            dsimp only [cond] at e
            split at e
            · rename_i as S2 q3
              refine ⟨ι, σa, S, _, S1, hL, hS, q1, fun ι1 H1 v x1 R1 r1 => ?_⟩
              have r1' := r1
              cases r1 with | obj hn' =>
              obtain ⟨dx, fs, h1, h2⟩ := (R1.ob n _ q2).2
              rw [hn] at h2
              refine ⟨_, dx, fs, rfl, h1, FR.none hk h2 q4 b, ι1, σa, S1, as, S2, hL.mono x1, R1, q3, fun ι2 H2 vs x2 R2 r2 => ?_⟩
              show spR g ev (V.ref (ι1 n) :: (vs ++ [])) H2 Q _
              rw [List.append_nil]
              exact ⟨ι2, _, S2, z, S', .cons (r1'.mono x2) r2, R2, e, Wa.from (x1.trans x2) k⟩
            · cases e
      · rw [if_neg hc] at e
        cases e
    · cases e
  · cases e
theorem e_methF {pl : Sem Bool} {ci : Nat} {eo : Ev} {k : Nat} {f : Addr} {fd : FuncData} {ps : List Str} {m : Str} {ev : Fv} {o e : Expr} {es : List Expr} {av : Av} {apos : Pos} (kf : Nat) (ck : CK X.K c) (ho : EE X c o eo) (hm : Meth X.K (c ci) m f) (F : FnOk X.prog X.w X.K X.mg X.base CX0 k f fd ps (spR (gX X c) ev)) (hr : Room k X.A) (hb : Binds X.K fd ps [])
    (ha : EA X c (e :: es) av) (hk : kf < 11 := by decide) (hf : m = fNm kf := by rfl)
    (hst : starEach (e :: es) X.env = (false, eval e X.env) :: starEach es X.env := by rfl) (hpl : (backTo pos (starEach es X.env)).any (·.1) = false := by rfl)
    (ht : eval (.Call (.Attribute o m apos) (e :: es) [] pos) X.env = (do
      let ov ← eval o X.env
      standAt apos.atName
      let (f, first) ← holding [ov] (getMethod ov m pl)
      callWith pos f first (backTo pos (starEach (e :: es) X.env)) (backToKw pos (keywordEach [] X.env))) := by rfl) (hci : ci < 3 := by decide) :
    EE X c (.Call (.Attribute o m apos) (e :: es) [] pos) (cMeF ci kf ev eo av) := by
  refine PE.imp (pe_meth (pl := pl) ho (ck.cls ci hci) hm F hr hb .nil pass0 ha hst hpl ht) fun σ H Q h => ?_
  have h' := methF_t (g := gX X c) hk rfl σ H Q h
  rw [← hf] at h'
  exact h'
end
def BindsStar (K : PySem.W.Frag) (fd : FuncData) (n : Nat) (ps : List Str) : Prop := True
end Cs
/-! Z16: enumerate(tuple). -/
namespace Cs
open PySem PySem.Spec PyProof.Rows L2

/-! ### enumerate(v), whatever v -/
set_option maxHeartbeats 1000000 in
theorem enum_new {v : Value} {o : Obj} {HH : Heap → Prop} (B : Begins v o HH) : Meets (Builtin.«enumerate.__new__» ⟨[.type "enumerate", v], []⟩) (fun _ R s => HH s.heap ∧ R (.ok (.ret (.ref (s.heap.push o).objs.size)))
      { s with heap := (s.heap.push o).push { cls := .type "enumerate", data := .fields #[.none, .bool false, .ref s.heap.objs.size, rawInt 0, .none, .none] } }) := .of_wp fun prog w A R s hq => by
  have su := sub_enumerate
  obtain ⟨hp, gs, dd, tk, os⟩ := s
  obtain ⟨hv, fin⟩ := hq
  have go : ∀ {A2 : Around} {EE : Value → Shared → Prop} {QQ : Value → Shared → Prop}, QQ (.ref hp.objs.size) ⟨hp.push o, gs, dd, tk, os⟩ → wpAny (model prog w) A2 (pyIter v) QQ EE ⟨hp, gs, dd, tk, os⟩ := fun z => B.iter prog w _ _ ⟨hp, gs, dd, tk, os⟩ _ hv z
  wp_walk using go
  refine wpAny_stack_any fun stk => wpAny_pure ?_
  split
  · rename_i cc _ _ _ _ _
    cases (cc == Value.type "enumerate") <;> (wp_walk using go; exact ⟨_, rfl, fin⟩)
  · wp_walk using go
    exact ⟨_, rfl, fin⟩
theorem enum_made {prog : Program} {w : World} {A : Around} {E : Value → Shared → Prop} {s : Shared} {v : Value} {o : Obj} {HH : Heap → Prop} {Q : Value → Shared → Prop} (B : Begins v o HH) (hv : HH s.heap)
    (fin : ∀ h', IsEnum h' (s.heap.objs.size + 1) s.heap.objs.size 0 .none → h'.get? s.heap.objs.size = some o → (∀ b ob, s.heap.get? b = some ob → h'.get? b = some ob) → Q (.ref (s.heap.objs.size + 1)) { s with heap := h' }) :
    wpAny (model prog w) A (call (.type "enumerate") [v]) Q E s := by
  refine callType_new F.called_enumerate (by decide) (F.typeCall_enumerate_1 _) (F.newCall_enumerate_1 _) (fun ob => F.args_object_init_2 ob _) F.entry_enumerate_new (enum_new B) ⟨hv, ?_⟩
  have sz : (s.heap.push o).objs.size = s.heap.objs.size + 1 := Heap.size_push ..
  have last := Heap.get?_push_size (s.heap.push o) (o := { cls := .type "enumerate", data := .fields #[.none, .bool false, .ref s.heap.objs.size, rawInt 0, .none, .none] }) rfl
  rw [sz] at last
  show _ ∧ _
  rw [sz]
  exact ⟨⟨_, last, rfl⟩, fin _ last (Heap.get?_push_of_some _ (Heap.get?_push_size _ B.free)) fun b ob q => Heap.get?_push_of_some _ (Heap.get?_push_of_some _ q)⟩

/-! ### its turns -/
def Itet (K : PySem.W.Frag) (a : Addr) (xs : List V) : It :=
  ⟨fun i H => SqT K H a xs ∧ i < xs.length, fun i H v H' => ∃ T x, v = .ref T ∧ H T = none ∧ H' = upd H T (.tup [.int (i : Nat), x]) ∧ xs[i]? = some x, fun i H => SqT K H a xs ∧ xs.length ≤ i⟩
theorem tup_ne_iter {h : Heap} {a it : Addr} {items : Array Value} {i : Nat} (x : h.IsTuple a items) (y : h.IsTupleIter it a i) : a ≠ it := fun z => by
  obtain ⟨o, h1, h2, _⟩ := x
  obtain ⟨o', h3, h4, _⟩ := y
  rw [z, h3] at h1
  cases h1
  rw [h4] at h2
  exact absurd h2 (by decide)
theorem turn_et {P : Program} {w : World} {K : PySem.W.Frag} {elts : List Expr} {kk : Nat} {tpos : Pos} (a e it : Addr) (xs : List V) :
    Turn P w K (.Tuple elts kk tpos) (Itet K a xs) [e, it] e (fun i h => (∃ old, IsEnum h e it ((i : Nat) : Int) old) ∧ h.IsTupleIter it a i ∧ e ≠ it ∧ i ≤ xs.length) where
  mem := List.mem_cons_self ..
  obj := fun i h st b hb => by
    obtain ⟨⟨old, he⟩, ⟨o, ho, _, hd⟩, _⟩ := st
    rcases List.mem_cons.mp hb with z | z
    · subst z
      exact ⟨_, he, fun v q => nomatch q⟩
    · have z' : b = it := by simpa using z
      subst z'
      exact ⟨o, ho, fun v q => by rw [hd] at q; cases q⟩
  keep := fun i h h' st k => ⟨let ⟨old, he⟩ := st.1; ⟨old, k e (List.mem_cons_self ..) _ he⟩, st.2.1.at fun o q => k it (by simp) o q, st.2.2⟩
  item := by
    rintro X rfl rfl rfl hc i pins s σ H E I hf ⟨⟨old, he⟩, hit, hne, _⟩ ⟨hq, hlt⟩
    obtain ⟨its, rv, p, hz⟩ := I.tuple hq
    have pt : s.heap.IsTuple a its.toArray := p
    have hl := rv.length
    have hel : e < s.heap.objs.size := Heap.lt_size he
    have hil : it < s.heap.objs.size := by obtain ⟨_, q, _⟩ := hit; exact Heap.lt_size q
    have hea : e ∉ [it, a] := by
      have n1 : e ≠ a := fun z => by
        obtain ⟨o, h1, h2, _⟩ := pt
        rw [← z, he] at h1
        cases h1
        exact absurd (show Value.type "enumerate" = Value.type "tuple" from h2) (by decide)
      simp [hne, n1]
    refine wpAny_pyNext_enum_itemD (Draws.tuple (A := X.A.in1) (show X.A.in1.handled = none from I.ok.hd hc) it a (tup_ne_iter pt hit) its.toArray) he ⟨hit, pt⟩ (by simp; omega) hne hea fun u h' tk hu ho st' hT hsz hk => ?_
    have hu' : its[i]? = some u := by simpa using hu
    obtain ⟨x, hx, rx⟩ : ∃ x, xs[i]? = some x ∧ RelV x u := by
      obtain ⟨w', hw, rw'⟩ := rv.get (List.getElem?_eq_getElem hlt)
      rw [hw] at hu'
      cases hu'
      exact ⟨_, List.getElem?_eq_getElem hlt, rw'⟩
    refine ⟨_, rfl, wpAny_letOwnedTupleGo_enum (s := { s with heap := h', toks := tk + 1 }) ho fun h2 he2 sb => ?_⟩
    have hT2 : h2.get? s.heap.objs.size = some { cls := .type "tuple", data := .seq #[.int i tk, u] } := (sb.2 _ (Nat.ne_of_gt hel)).trans hT
    have nw : ObjOk X.prog X.w (upd H s.heap.objs.size (.tup [.int (i : Nat), x])) h2 s.heap.objs.size (.tup [.int (i : Nat), x]) :=
      ⟨by show 2 ≤ sizeLine; decide, [.int i tk, u], .cons ⟨_, rfl⟩ (.cons rx .nil), ⟨_, hT2, rfl, _, rfl⟩⟩
    have I1 : Inv X pins σ (upd H s.heap.objs.size (.tup [.int (i : Nat), x])) { s with heap := h2, toks := tk + 1 } :=
      I.turnedNew (ch := [e, it]) (fun b ob hb q => (sb.2 b (fun z => hb (by simp [z]))).trans (hk b ob (fun z => hb (by simp [z])) (fun z => hb (by simp [z])) q)) hf (Nat.le_refl _) nw
    have ei : ((i + 1 : Nat) : Int) = (i : Int) + 1 := by omega
    refine ⟨.ref s.heap.objs.size, _, I1, rfl, ⟨_, x, rfl, I.hok.fresh (Nat.le_refl _), rfl, hx⟩, ⟨⟨u, by rw [ei]; exact he2⟩, st'.1.at fun o q => (sb.2 it (Ne.symm hne)).trans q, hne, hlt⟩, fun b hb => ?_⟩
    have hb' : b < s.heap.objs.size := by
      rcases List.mem_cons.mp hb with z | z
      · rw [z]; exact hel
      · have z' : b = it := by simpa using z
        rw [z']; exact hil
    rw [upd_ne (Nat.ne_of_lt hb')]
    exact (hf b hb).1
  done := by
    rintro X rfl rfl rfl hc i pins s σ H E I hf ⟨⟨old, he⟩, hit, hne, hle⟩ ⟨hq, hlen⟩
    obtain ⟨its, rv, p, hz⟩ := I.tuple hq
    have pt : s.heap.IsTuple a its.toArray := p
    have hl := rv.length
    have ei : i = its.toArray.size := by rw [List.size_toArray]; omega
    obtain ⟨f0, f1, f2, f3, f4, f5⟩ := hf it (by simp)
    refine wpAny_pyNext_enum_endD (Draws.tuple (A := X.A.in1) (show X.A.in1.handled = none from I.ok.hd hc) it a (tup_ne_iter pt hit) its.toArray) he ⟨by rw [← ei]; exact hit, pt⟩ fun h' eb => ⟨rfl, I.turned (t' := s.toks) (fun b o hb q => eb b o hb q) f0 f1 f3 f4 f5⟩
  self := fun A i s Q E st fin => let ⟨⟨_, he⟩, _⟩ := st; wpAny_pyIter_enum he fin
def iEnumT (K : PySem.W.Frag) (ta : TA) : TI := fun σ H R => ta σ H fun vs H1 => ∃ a xs, vs = [.ref a] ∧ SqT K H1 a xs ∧ R (Itet K a xs) H1
theorem pi_enumT {X : Cx} {e : Expr} {ta : TA} {p pos tpos : Pos} {elts : List Expr} {kk : Nat} (hg : Gl X "enumerate") (hm : X.mg "enumerate" = none) (ha : PA X [e] ta) (hs : starEach [e] X.env = [(false, eval e X.env)] := by rfl) :
    PI X (.Tuple elts kk tpos) (.Call (.Name "enumerate" p) [e] [] pos) (iEnumT X.K ta) := ⟨fun pins s σ H R I hw => by
  refine Call_ (ld_blt I hg hm boot_enumerate (PyProof.Rows.callWith_type1 (thn (ha.run pos pins s σ H _ I hw) fun us s1 ⟨vs, H1, I1, r1, a, xs, ex, hq, q⟩ => ?_) hs rfl))
  subst ex
  cases r1 with | cons r rr =>
  cases rr
  cases r
  obtain ⟨its, rv, p', hz⟩ := I1.tuple hq
  have pt : s1.heap.IsTuple a its.toArray := p'
  refine enum_made (begins_tuple a its.toArray) pt fun h' he hit hk => wpAny_pyIter_enum he ?_
  have I2 : Inv X pins σ H1 { s1 with heap := h' } := I1.kept (t' := s1.toks) hk
  have hti : h'.IsTupleIter s1.heap.objs.size a 0 := ⟨_, hit, rfl, rfl⟩
  refine ⟨s1.heap.objs.size + 1, [s1.heap.objs.size + 1, s1.heap.objs.size], _, _, H1, rfl, I2, turn_et a (s1.heap.objs.size + 1) s1.heap.objs.size xs, ⟨⟨.none, he⟩, hti, Nat.succ_ne_self _, Nat.zero_le _⟩, fun b hb => ?_, q⟩
  have hle : s1.heap.objs.size ≤ b := by
    rcases List.mem_cons.mp hb with z | z
    · rw [z]; exact Nat.le_succ _
    · have z' : b = s1.heap.objs.size := by simpa using z
      rw [z']
      exact Nat.le_refl _
  have I2' := I1.fpOk (b := b) hle (I1.hok.fresh hle)
  exact I2'⟩
theorem itok_ent {g : Gb} {ι : Nat → Addr} {S : Sto} {H : Hp} {p : Addr} {vs : List V} {l : List D} (h1 : SqT g.K H p vs) (h2 : RDs g.K H l vs) : ItOk g (.ent l) (Itet g.K p vs) ι S H := by
  intro ι' S' H' i x R'
  have h1' := x.kp.sqT h1
  have h2' := RDs.mono x.kp h2
  have hl := h2.length
  refine ⟨fun e => ?_, fun a e => ?_⟩
  · unfold nxt at e
    dsimp only at e
    split at e
    · rename_i d q
      cases f : tall d 29 with
      | false => rw [f] at e; cases e
      | true => rw [f] at e; cases e
    · rename_i q
      refine ⟨h1', ?_⟩
      rw [← hl]
      exact List.getElem?_eq_none_iff.mp q
  · unfold nxt at e
    dsimp only at e
    split at e
    · rename_i d q
      cases f : tall d 29 with
      | false => rw [f] at e; cases e
      | true =>
        rw [f] at e
        cases e
        obtain ⟨y, h3, h4⟩ := h2'.get q
        refine ⟨⟨h1', (List.getElem?_eq_some_iff.mp h3).1⟩, fun z H2 hy => ?_⟩
        obtain ⟨T, y', rfl, hT, rfl, hz⟩ := hy
        rw [h3] at hz
        cases hz
        obtain ⟨R1, x1⟩ := R'.fresh (o := .tup [.int (i : Nat), y]) hT
        refine ⟨x1, R1, .dat (.tup (SqT.of upd_same) (.cons (.int _) (.cons (RD.mono x1.kp h4) .nil)) ?_)⟩
        show talls [.int (.ofNat i), d] 29 = true
        unfold talls talls talls
        rw [f]
        rfl
    · cases e
theorem i_et {X : Cx} {c : Nat → Addr} {e : Expr} {av : Av} {elts : List Expr} {kk : Nat} {p pos tpos : Pos} (hg : Gl X "enumerate") (hm : X.mg "enumerate" = none) (ha : EA X c [e] av) (hs : starEach [e] X.env = [(false, eval e X.env)] := by rfl) :
    EI X c (.Tuple elts kk tpos) (.Call (.Name "enumerate" p) [e] [] pos) (nEt av) := PI.imp (pi_enumT hg hm ha hs) fun σ H Q h => by
  obtain ⟨ι, σa, S, it, S', hL, hS, e, k⟩ := h
  unfold nEt at e
  split at e
  · rename_i l S1 q
    cases e
    refine ⟨ι, σa, S, _, _, hL, hS, q, fun ι1 H1 v x1 R1 r1 => ?_⟩
    cases r1 with | cons r2 r3 =>
    cases r3
    cases r2 with | dat rd =>
    cases rd with | tup h1 h2 ht =>
    exact ⟨_, _, rfl, h1, k ι1 H1 _ x1 R1 (itok_ent h1 h2)⟩
  · cases e
end Cs
/-! Z17: {k: v for ..}, keys tuples. -/
namespace Cs
open PySem PySem.Spec PyProof.Rows L2

/-- a key bound by a comprehension -/
def rSetN (K : PySem.W.Frag) (P : Program) (w : World) (a : Addr) (y v : V) (H : Hp) (Q : Hp → Prop) : Prop :=
  ∃ p d xs, y = .ref p ∧ H a = some (rawN P w a xs) ∧ KeysOk K H xs ∧ RD K H d (.ref p) ∧ tall d 8 = true ∧ xs.length ≤ sizeLine ∧ ∀ u, RelV v u → Q (upd H a (rawN P w a (storedH xs (nk d) p u)))
def tDn (K : PySem.W.Frag) (P : Program) (w : World) (wi : TI) (g : TG) (tt : TT) (tk tv : TE) (vs : List Nat) : TE := fun σ H Q => wi σ H fun J Ha => ∀ a, Ha a = none → ∃ W : Nat → Nat → Hp → Prop, (∃ m, W 0 m (upd Ha a (rawN P w a []))) ∧ ∀ i m Hb, W i m Hb →
  (J.stop i Hb ∧ Q (.ref a) Hb) ∨ (J.go i Hb ∧ ∃ N : Hp → Prop, (∀ Hc, N Hc → ∃ j, j < m ∧ W (i + 1) j Hc) ∧ ∀ x Hc, J.yld i Hb x Hc → g x (wipe σ vs) Hc fun τ Hd => wipe τ vs = wipe σ vs ∧ tt τ Hd fun b He =>
    if b = true then tk τ He fun y Hf => tv τ Hf fun z Hg => rSetN K P w a y z Hg N else N He)
section
variable {X : Cx}
theorem room8' {A : Around} (hu : A.units + 64 < cLine) (P : Program) (w : World) : (nestedKind P w).room A := by
  show A.units + 8 < cLine
  omega
theorem dictSetN {pins : List (Addr × Obj)} {σ : St} {H : Hp} {s : Shared} {E : Value → Shared → Prop} {a : Addr} {y v : V} {u r : Value} {N : Hp → Prop} {Q : Unit → Shared → Prop} (hu : X.A.units + 64 < cLine) (I : Inv X pins σ H s) (ry : RelV y u) (rv : RelV v r)
    (h : rSetN X.K X.prog X.w a y v H N) (k : ∀ s' H', Inv X pins σ H' s' → N H' → Q () s') : wpAny (model X.prog X.w) X.A (dictSet a u r) Q E s := by
  obtain ⟨p, d, xs, rfl, e, kk, hd, t, hz, q⟩ := h
  cases ry
  obtain ⟨lo, dd⟩ := dictN I e kk
  exact wpAny_dictSet_heap (hsz := hz) (room8' hu _ _) (key_is I hd t) dd fun h' dd' hs => k _ _ (writeN I e lo dd' hs) (q r rv)
theorem dn_run {pins : List (Addr × Obj)} {s : Shared} {σ : St} {H : Hp} {Q : VK} {kx vx tg iter : Expr} {ifs : List Expr} {scope : Scope} {own : List (Str × Nat)} {pos pos' : Pos} {wi : TI} {g : TG} {tt : TT} {tk tv : TE} {use : Option (Value → Sem Unit)} {Qf : Value → Shared → Prop}
    (hu : X.A.units + 64 < cLine) (hc : X.calm = true) (hN : X.N.Nodup) (I : Inv X pins σ H s) (hi : PI X tg iter wi) (ok : BlkOk X.N X.env.scope scope own)
    (hg : Blk X scope fun Y => PG Y tg g) (ht : Blk X scope fun Y => PTs Y ifs tt) (hk : Blk X scope fun Y => PE Y kx tk) (he : Blk X scope fun Y => PE Y vx tv) (hs : ∀ x, foldedSetIterable iter X.env x = pure x)
    (h : tDn X.K X.prog X.w wi g tt tk tv (own.map (·.2)) σ H Q)
    (post : ∀ a C s' m H', Inv X pins σ H' s' → Q (.ref a) H' → s'.heap.Ns C m → FpOk X pins H' C → compPost (model X.prog X.w) X.A X.xe use Qf (.ref a) C (.ok .next) s') :
    wpAny (model X.prog X.w) X.A (comprehension (.DictComp kx vx [⟨tg, iter, ifs, 0⟩] scope pos) scope X.env pos' newDict false (eval iter X.env) use) Qf X.xe s := by
  have cells : ∀ y ∈ scope.names, y.2 = .free → ∃ c, X.env.cells.lookup y.1 = some c := fun y hy e => I.ok.has _ (ok.free y hy e)
  refine wpAny_comprehension_free (use := use) rfl hs (closure_ok cells) ok.kind (fun y hy e => (ok.uniq y hy).trans (congrArg some e)) (thn (hi.run pins s σ H _ I h) fun xv sa ha => thn ha fun itv sb hb => ?_)
  obtain ⟨it, fp, tn, J, Hb, rfl, Ib, T, tb, fb, q⟩ := hb
  refine wpAny_newObj_type (newEnv_comp ?_)
  have an : Hb sb.heap.objs.size = none := Ib.hok.fresh (Nat.le_refl _)
  obtain ⟨W, ⟨m0, w0⟩, turn⟩ := q _ an
  have lo : (sb.heap.objs.size == sysModules) = false := beq_eq_false_iff_ne.mpr (Ne.symm (Nat.ne_of_lt Ib.big))
  have Ic : Inv X pins σ (upd Hb sb.heap.objs.size (rawN X.prog X.w sb.heap.objs.size [])) { sb with heap := sb.heap.push { cls := .type "dict", data := .dict #[] } } :=
    Ib.laid (t' := sb.toks) (fun _ _ z => Heap.get?_push_of_some _ z) (Nat.le_refl _) (rawN_ok lo (Heap.DictOfH.new sb.heap))
  have low : ∀ b ∈ fp, b < sb.heap.objs.size := fun b hb => let ⟨_, z, _⟩ := T.obj _ _ tb b hb; Heap.lt_size z
  have fc : ∀ b ∈ fp, FpOk X pins (upd Hb sb.heap.objs.size (rawN X.prog X.w sb.heap.objs.size [])) b ∧ b < (sb.heap.push { cls := .type "dict", data := .dict #[] }).objs.size := fun b hb =>
    ⟨⟨(upd_ne (Nat.ne_of_lt (low b hb))).trans (fb b hb).1, (fb b hb).2⟩, by rw [Heap.size_push]; exact Nat.lt_succ_of_lt (low b hb)⟩
  have tc : tn 0 (sb.heap.push { cls := .type "dict", data := .dict #[] }) := T.keep _ _ _ tb fun b _ o z => Heap.get?_push_of_some _ z
  revert w0 turn Ic fc tc an
  generalize sb.heap.objs.size = a
  generalize hHc : upd Hb a (rawN X.prog X.w a []) = Hc
  generalize hsc : ({ sb with heap := sb.heap.push { cls := .type "dict", data := .dict #[] } } : Shared) = sc
  have eqh : sb.heap.push { cls := .type "dict", data := .dict #[] } = sc.heap := by rw [← hsc]
  rw [eqh]
  intro an turn w0 Ic fc tc
  have Id := block_start Ic ok hN fc
  have pg := hg sc Hc sc.heap.objs.size (cellsFrom (sc.heap.objs.size + 1) scope.names (cloFrom X.env.cells scope.names [])) fp
  have pt := ht sc Hc sc.heap.objs.size (cellsFrom (sc.heap.objs.size + 1) scope.names (cloFrom X.env.cells scope.names [])) fp
  have pk := hk sc Hc sc.heap.objs.size (cellsFrom (sc.heap.objs.size + 1) scope.names (cloFrom X.env.cells scope.names [])) fp
  have pv := he sc Hc sc.heap.objs.size (cellsFrom (sc.heap.objs.size + 1) scope.names (cloFrom X.env.cells scope.names [])) fp
  show codeAny _ _ (.compStart (.DictComp kx vx [⟨tg, iter, ifs, 0⟩] scope pos) 0 (.ref it) (.ref a) (compEnvC scope (cellsFrom (sc.heap.objs.size + 1) scope.names (cloFrom X.env.cells scope.names [])) sc.heap.objs.size X.env)) (compPost (model X.prog X.w) X.A X.xe use Qf (.ref a) sc.heap.objs.size) { sc with heap := pushCells (sc.heap.push { cls := .type "dict", data := .dict #[] }) scope.names }
  have td : tn 0 (pushCells (sc.heap.push { cls := .type "dict", data := .dict #[] }) scope.names) := T.keep _ _ _ tc fun b _ o z => pushCells_keeps _ _ _ _ (Heap.get?_push_of_some _ z)
  revert Id pg pt pk pv td
  generalize hce : compEnvC scope (cellsFrom (sc.heap.objs.size + 1) scope.names (cloFrom X.env.cells scope.names [])) sc.heap.objs.size X.env = ce
  generalize hsd : ({ sc with heap := pushCells (sc.heap.push { cls := .type "dict", data := .dict #[] }) scope.names } : Shared) = sd
  have eqd : pushCells (sc.heap.push { cls := .type "dict", data := .dict #[] }) scope.names = sd.heap := by rw [← hsd]
  rw [eqd]
  intro Id pg pt pk pv td
  have loc : ce.locals = sc.heap.objs.size := by rw [← hce]; rfl
  have fpok : ∀ {τ : St} {Hx : Hp} {sx : Shared}, Inv (X.blk sc Hc scope ce fp) [] τ Hx sx → (∀ b ∈ fp, Hx b = none) → ∀ b ∈ fp, FpOk (X.blk sc Hc scope ce fp) [] Hx b := fun Ix nx b hb =>
    ⟨nx b hb, (Ix.ok.exf b hb).1, Ix.ok.exfs b hb, .inl hb, (Ix.ok.exf b hb).2, fun p hp => absurd (show p ∈ ([] : List (Addr × Obj)) from hp) (by simp)⟩
  refine codeAny_compStart_dict ?loop (T.self X.A 0 _ _ _ td ?loop)
  case loop =>
  refine compLoop_anyD (fun n sx => ∃ i Hx, Inv (X.blk sc Hc scope ce fp) [] (wipe σ (own.map (·.2))) Hx sx ∧ tn i sx.heap ∧ (∀ b ∈ fp, Hx b = none) ∧ W i n Hx) ?_ m0 ⟨0, Hc, Id, td, fun b hb => (fc b hb).1.1, w0⟩
  rintro n sx ⟨i, Hx, Ix, tx, nx, wx⟩
  rcases turn i n Hx wx with ⟨stop, qq⟩ | ⟨go, N, hNx, step⟩
  · refine thnF (T.done (X.blk sc Hc scope ce fp) rfl rfl rfl hc i [] sx _ Hx (fun _ _ => False) Ix (fpok Ix nx) tx stop) fun r sy ⟨hr, Iy⟩ => ?_
    subst hr
    have Iz : Inv X pins σ Hx sy := Ic.call' (ch := fp) Iy.os Iy.base Iy.hok Iy.bare fun b hb => ⟨(fc b hb).1.2.2.2.1, (fc b hb).1.2.1, (fc b hb).1.2.2.2.2.1, (fc b hb).1.2.2.2.2.2⟩
    obtain ⟨m, hm, _⟩ := Iy.loc
    have nC : Hx sc.heap.objs.size = none := by rw [← loc]; exact Iy.free
    have hm' : sy.heap.Ns sc.heap.objs.size m := by rw [← loc]; exact hm
    exact post a sc.heap.objs.size sy m Hx Iz qq hm' (Ic.fpOk (Nat.le_refl _) nC)
  · refine thnF (T.item (X.blk sc Hc scope ce fp) rfl rfl rfl hc i [] sx _ Hx (fun _ _ => False) Ix (fpok Ix nx) tx go) fun r sy ⟨u, hr, hy⟩ => ?_
    subst hr
    refine thnF hy fun _ sz ⟨x, Hz, Iz, rz, yz, tz, nz⟩ => thnF (pg.run _ sz _ Hz x u _ (Iz.pinned (fpok Iz nz) (T.obj _ _ tz)) rz (step x Hz yz)) fun _ s1 ⟨τ, H1, I1, hw, q1⟩ => thnF (pt.run _ s1 τ H1 _ I1 q1) fun b s2 ⟨H2, I2, q2⟩ => ?_
    have fin : ∀ {s' : Shared} {H' : Hp}, Inv (X.blk sc Hc scope ce fp) ([] ++ pinsAt fp sz.heap) τ H' s' → N H' → ∃ m, m < n ∧ ∃ i H', Inv (X.blk sc Hc scope ce fp) [] (wipe σ (own.map (·.2))) H' s' ∧ tn i s'.heap ∧ (∀ b ∈ fp, H' b = none) ∧ W i m H' := by
      intro s' H' I' nn
      obtain ⟨j, hj, wj⟩ := hNx H' nn
      have stays : ∀ b ∈ fp, ∀ o, sz.heap.get? b = some o → s'.heap.get? b = some o ∧ H' b = none := fun b hb o e => by
        have z := I'.pin (b, o) (List.mem_append_right _ (List.mem_append_right _ (mem_pinsAt hb e)))
        exact ⟨z.1, z.2.1⟩
      refine ⟨j, hj, i + 1, H', I'.unpinned (pins := []) |>.weak ?_ ?_, T.keep _ _ _ tz fun b hb o e => (stays b hb o e).1, fun b hb => ?_, wj⟩
      · rw [← hw, wipe_length]
      · intro j v e
        rw [← hw] at e
        exact (wipe_some e).1
      · obtain ⟨o, e, _⟩ := T.obj _ _ tz b hb
        exact (stays b hb o e).2
    cases b with
    | false => exact (if_neg Bool.false_ne_true).mpr (fin I2 ((if_neg Bool.false_ne_true).mp q2))
    | true =>
      have q3 := (if_pos rfl).mp q2
      refine (if_pos rfl).mpr (thnF (pk.run _ s2 τ H2 _ I2 q3) fun z1 s3 ⟨y1, H3, I3, r3, q4⟩ => thnF (pv.run _ s3 τ H3 _ I3 q4) fun z2 s4 ⟨y2, H4, I4, r4, q5⟩ => ?_)
      exact dictSetN (X := X.blk sc Hc scope ce fp) hu I4 r3 r4 q5 fun s5 H5 I5 n5 => fin I5 n5
theorem pe_dn {kx vx tg iter : Expr} {ifs : List Expr} {scope : Scope} {own : List (Str × Nat)} {pos : Pos} {wi : TI} {g : TG} {tt : TT} {tk tv : TE} (hu : X.A.units + 64 < cLine) (hc : X.calm = true) (hN : X.N.Nodup) (hi : PI X tg iter wi) (ok : BlkOk X.N X.env.scope scope own)
    (hg : Blk X scope fun Y => PG Y tg g) (ht : Blk X scope fun Y => PTs Y ifs tt) (hk : Blk X scope fun Y => PE Y kx tk) (he : Blk X scope fun Y => PE Y vx tv) (hs : ∀ x, foldedSetIterable iter X.env x = pure x := by intro _; rfl) :
    PE X (.DictComp kx vx [⟨tg, iter, ifs, 0⟩] scope pos) (tDn X.K X.prog X.w wi g tt tk tv (own.map (·.2))) := ⟨fun pins s σ H Q I hq => by
  rw [arm_eval_DictComp]
  exact dn_run hu hc hN I hi ok hg ht hk he hs hq fun a C s' m H' I' q hn f => ⟨m, hn, fun h2 sb => ⟨.ref a, H', I'.turned (t' := s'.toks) (fun b o hb e => (sb.2 b hb).trans e) f.1 f.2.1 f.2.2.2.1 f.2.2.2.2.1 f.2.2.2.2.2, rfl, q⟩⟩⟩
end
theorem dn_t {G : Gb} {n : Nv} {g : Gv} {t : Tv} {ek ev : Ev} {vs : List Nat} (σ : St) (H : Hp) (Q : VK) (h : teOf G (cDn n g t ek ev vs) σ H Q) : tDn G.K G.P G.w (tiOf G n) (gvOf G vs g) (ttOf G t) (teOf G ek) (teOf G ev) vs σ H Q := by
  obtain ⟨ι, σa, S, z, S', hL, hS, e0, k⟩ := h
  unfold cDn at e0
  split at e0
  · rename_i it S1 q1
    split at e0
    · rename_i d S2 q2
      split at e0
      · rename_i S3 q3
        cases e0
        refine ⟨ι, σa, S, it, S1, hL, hS, q1, fun ι1 H1 J x1 R1 ok p hp => ?_⟩
        obtain ⟨ι2, R2, x2, r2⟩ := R1.new1 (ho := rawN G.P G.w p []) q2 hp fun ι' x' => ⟨[], upd_same, .nil⟩
        obtain ⟨hd, e2⟩ := r2.objn
        have ep : ι2 d = p := by injection e2.symm
        have x12 := x1.trans x2
        refine ⟨fun i m H' => ∃ ι3 Sc, Ext ι2 S2.m (upd H1 p (rawN G.P G.w p [])) ι3 Sc.m H' ∧ RS G ι3 Sc H' ∧ dnL g t ek ev σa vs it d m i Sc = some S', ⟨5000, ι2, S2, .refl .., R2, q3⟩, ?_⟩
        rintro i m H3 ⟨ι3, Sc, x3, R3, e3⟩
        have x13 := x12.trans x3
        have ep3 : ι3 d = p := (x3.eq d hd).trans ep
        cases m with
        | zero => cases e3
        | succ m =>
          unfold dnL at e3
          split at e3
          · rename_i q4
            cases e3
            refine .inl ⟨(ok ι3 _ H3 i (x2.trans x3) R3).1 q4, k ι3 H3 _ x13 R3 ?_⟩
            have q : RA G.K ι3 S'.m H3 (.obj d) (.ref (ι3 d)) := .obj (Nat.lt_of_lt_of_le hd x3.le)
            rw [ep3] at q
            exact q
          · rename_i a q4
            obtain ⟨go, yl⟩ := (ok ι3 _ H3 i (x2.trans x3) R3).2 a q4
            refine .inr ⟨go, fun H' => ∃ ι4 S4, Ext ι2 S2.m (upd H1 p (rawN G.P G.w p [])) ι4 S4.m H' ∧ RS G ι4 S4 H' ∧ dnL g t ek ev σa vs it d m (i + 1) S4 = some S', fun H' h => ⟨m, Nat.lt_succ_self m, h⟩, fun v H4 hy => ?_⟩
            obtain ⟨x4, R4, r4⟩ := yl v H4 hy
            split at e3
            · rename_i σ1 q5
              refine ⟨ι3, Sc, a, wipeA σa vs, σ1, R4, (RL.mono (x13.trans x4) hL).wipe vs, r4, q5, fun σ2 M2 o2 => ⟨?_, ?_⟩⟩
              · have hw : L2.wipe (L2.wipe σ vs) vs = L2.wipe σ vs := wipe_eq (fun j hj => wipe_out hj) (wipe_length _ _)
                exact (wipe_eq o2.2 o2.1).trans hw
              · split at e3
                · rename_i S5 q6
                  refine ⟨ι3, σ1, Sc, true, S5, M2, R4, q6, fun ι5 H5 x5 R5 => iteT ?_⟩
                  split at e3
                  · rename_i kd S6 q7
                    refine ⟨ι5, σ1, S5, _, S6, M2.mono x5, R5, q7, fun ι6 H6 w x6 R6 r6 => ?_⟩
                    split at e3
                    · rename_i y S7 q8
                      refine ⟨ι6, σ1, S6, y, S7, M2.mono (x5.trans x6), R6, q8, fun ι7 H7 w7 x7 R7 r7 => ?_⟩
                      split at e3
                      · rename_i l q9
                        split at e3
                        · rename_i S8 q10
                          have x37 := ((x4.trans x5).trans x6).trans x7
                          have hd7 : d < S7.m := (R7.ob d _ q9).1
                          have ep7 : ι7 d = p := (x37.eq d (Nat.lt_of_lt_of_le hd x3.le)).trans ep3
                          have fin := putA_ok (g := G) (Q := fun H' => ∃ ι4 S4, Ext ι2 S2.m (upd H1 p (rawN G.P G.w p [])) ι4 S4.m H' ∧ RS G ι4 S4 H' ∧ dnL g t ek ev σa vs it d m (i + 1) S4 = some S') R7 (.obj hd7) (r6.mono x7) r7 q10
                            fun H8 x8 R8 => ⟨ι7, S8, (x3.trans x37).trans x8, R8, e3⟩
                          rw [ep7] at fin
                          obtain ⟨xs, h1, _⟩ := (R7.ob d _ q9).2
                          rw [ep7] at h1
                          rcases fin with ⟨a', H9, e9, g9, _⟩ | ⟨a', p', d', xs', e9, b2, b3, b4, b5, b6, b7, b8⟩
                          · cases e9
                            rcases g9 with ⟨_, _, z9, _⟩ | ⟨_, _, _, z9, _⟩
                            · rw [h1] at z9
                              cases z9
                            · rw [h1] at z9
                              cases z9
                          · cases e9
                            exact ⟨p', d', xs', b2, b3, b4, b5, b6, b7, b8⟩
                        · cases e3
                      · cases e3
                    · cases e3
                  · cases e3
                · rename_i S5 q6
                  refine ⟨ι3, σ1, Sc, false, S5, M2, R4, q6, fun ι5 H5 x5 R5 => iteF ⟨ι5, S5, (x3.trans x4).trans x5, R5, e3⟩⟩
                · cases e3
            · cases e3
          · cases e3
      · cases e0
    · cases e0
  · cases e0
theorem e_dn {X : Cx} {c : Nat → Addr} {pos : Pos} {kx vx tg iter : Expr} {ifs : List Expr} {scope : Scope} {n : Nv} {g : Gv} {t : Tv} {ek ev : Ev} (hu : X.A.units + 64 < cLine) (own : List (Str × Nat)) (hc : X.calm = true) (hN : X.N.Nodup) (hi : EI X c tg iter n) (ok : BlkOk X.N X.env.scope scope own)
    (hg : Blk X scope fun Y => VG Y c (own.map (·.2)) tg g) (ht : Blk X scope fun Y => ETs Y c ifs t) (hk : Blk X scope fun Y => EE Y c kx ek) (he : Blk X scope fun Y => EE Y c vx ev) (hs : ∀ x, foldedSetIterable iter X.env x = pure x := by intro _; rfl) :
    EE X c (.DictComp kx vx [⟨tg, iter, ifs, 0⟩] scope pos) (cDn n g t ek ev (own.map (·.2))) := PE.imp (pe_dn hu hc hN hi ok hg ht hk he hs) dn_t
end Cs
/-! Z18: a method with *parts. -/
namespace Cs
open PySem PySem.Spec PyProof.Rows L2
theorem Paired.drop {α β : Type} {R : α → β → Prop} : ∀ {xs : List α} {us : List β} (n : Nat), Paired R xs us → Paired R (xs.drop n) (us.drop n)
  | _, _, 0, r => r
  | _, _, _ + 1, .nil => .nil
  | _, _, n + 1, .cons _ t => Paired.drop n t
section
variable {P : Program} {w : World} {K : PySem.W.Frag} {mg : Str → Option Value} {base : Heap} {c : Nat → Addr}
theorem fn_okS {x qual pv : Str} {st : Stmt} {f : Addr} {fd : FuncData} {N ps : List Str} {k : Nat} {body : Sv} (F : Fun K x qual st f fd) (S : FnScope N (ps ++ [pv]) (defScope st))
    (hbind : ∀ (kV doc pm : Value) (an : Option Addr) (cdv ct : Value) (us rest : List Value), us.length = ps.length →
      bindArgs (PySem.W.fnOf x qual (defArgs st) (defBody st) (defScope st) .none kV doc pm an cdv ct) ⟨us ++ rest, []⟩ = (newTuple rest >>= fun t => pure (ps.zip us ++ [(pv, t)])))
    (hb : ∀ (cdv : Value) (A : Around) (outer : List Env) (s : Shared) (H : Hp) (E : XK), Room k (A.deeper (envOfC qual (defScope st) s.heap.objs.size f cdv)) → EB (cxOf CX0 P w K mg base N qual (defScope st) f cdv A outer s H E).nox c (defBody st) body) :
    FnR P w K mg base CX0 (k + 1) f (spR (gB P w K c) (runStar N.length ps.length body)) := by
  obtain ⟨oc, od, kV, doc, pm, an, cdv, ct, osl, rfl, lk, hcd⟩ := F.ex
  refine FnR.imp (StX.fn_star (sp := spR (gB P w K c) (runB N.length (ps.length + 1) body)) lk hcd S StX.cxUp_none (hbind kV doc pm an cdv ct) fun A outer s H vs Q E hr hsp => ?_) ?_
  · refine ⟨_, (hb cdv A outer s H E hr).nox, ?_⟩
    obtain ⟨ι, as, S0, a, S', r, R, e, kk⟩ := hsp
    unfold runB at e
    rw [beqN, cond_dec] at e
    by_cases h : as.length = ps.length + 1
    · rw [if_pos h] at e
      have hv : vs.length = ps.length + 1 := (Paired.len r).symm.trans h
      have L : RL K ι S0.m H (sl0 N.length (ps.length + 1) as) (L2.start N vs) := by
        unfold sl0 L2.start
        rw [hv]
        exact Paired.append (RL.start r) (RL.blank _)
      split at e
      · rename_i a' σ' S1 q
        cases e
        exact ⟨ι, _, S0, .rt a, σ', S', L, R, q, kk⟩
      · rename_i σ' S1 q
        cases e
        exact ⟨ι, _, S0, .nx, σ', S', L, R, q, fun ι' H' σ2 x' R' L' => kk ι' H' .non x' R' (.dat .non)⟩
      · cases e
    · rw [if_neg h] at e
      cases e
  · rintro vs H Q E ⟨ι, as, S0, a, S', r, R, e, kk⟩
    unfold runStar at e
    split at e
    · rename_i t S1 q
      have hlen : (as.take ps.length).length = ps.length := by
        unfold runB at e
        rw [beqN, cond_dec] at e
        by_cases h : (as.take ps.length ++ [t]).length = Nat.succ ps.length
        · rw [List.length_append, List.length_singleton] at h
          omega
        · rw [if_neg h] at e
          cases e
      have r1 := Paired.take ps.length r
      have r2 := Paired.drop ps.length r
      have hz : (vs.drop ps.length).length ≤ sizeLine ∧ ∀ p, H p = none → spR (gB P w K c) (runB N.length (ps.length + 1) body) (vs.take ps.length ++ [V.ref p]) (upd H p (.tup (vs.drop ps.length))) Q E := by
        refine ⟨?_, fun p hp => ?_⟩
        · unfold oTup at q
          split at q
          · cases f : few (as.drop ps.length) with
            | false => rw [f] at q; cases q
            | true => exact Nat.le_of_lt (few_line f (Paired.len r2))
          · cases q
        · unfold oTup at q
          split at q
          · rename_i d qd
            cases f : few (as.drop ps.length) with
            | false => rw [f] at q; cases q
            | true =>
              cases ht : tall (.tup d) 30 with
              | false => rw [f, ht] at q; cases q
              | true =>
                rw [f, ht] at q
                cases q
                obtain ⟨R1, x1⟩ := R.fresh (o := .tup (vs.drop ps.length)) hp
                have rt : RA K ι S0.m (upd H p (.tup (vs.drop ps.length))) (.dat (.tup d)) (.ref p) := .dat (.tup (SqT.of upd_same) (RDs.mono x1.kp (datas_rd qd r2)) ht)
                exact ⟨ι, _, S0, a, S', Paired.append (RAs.mono x1 r1) (.cons rt .nil), R1, e, Wa.from x1 kk⟩
          · cases q
      exact ⟨vs.take ps.length, vs.drop ps.length, (List.take_append_drop ..).symm, (Paired.len r1).symm.trans hlen, hz.1, hz.2⟩
    · cases e
end
theorem methR_t {g : Gb} {ci : Nat} {eo : Ev} {av : Av} {ev : Fv} {m : Str} (hf : NoF m = true) (hn : g.fN = fNm) (σ : St) (H : Hp) (Q : VK) (h : teOf g (cMe ci ev eo av) σ H Q) : tMethR (g.cls ci) m (spR g ev) (fun _ _ _ => False) (teOf g eo) (taOf g av) σ H Q := by
  obtain ⟨ι, σa, S, z, S', hL, hS, e1, k1⟩ := meth_t (ci := ci) hf hn σ H Q h
  refine ⟨ι, σa, S, z, S', hL, hS, e1, fun ι1 H1 v x1 R1 r1 => ?_⟩
  obtain ⟨a, dx, fs, h1, h2, h3, ι2, σb, S2, l, S3, hL2, hS2, e2, k2⟩ := k1 ι1 H1 v x1 R1 r1
  refine ⟨a, dx, fs, h1, h2, h3, ι2, σb, S2, l, S3, hL2, hS2, e2, fun ι3 H3 vs x3 R3 r3 => ?_⟩
  have z : spR g ev (v :: (vs ++ [])) H3 Q (fun _ _ _ => False) := k2 ι3 H3 vs x3 R3 r3
  rw [List.append_nil] at z
  exact z
theorem e_methS {X : Cx} {c : Nat → Addr} {pos apos : Pos} {k : Nat} {f : Addr} {m : Str} {ev : Fv} {e o : Expr} {es : List Expr} {av : Av} {pl : Sem Bool} {ci : Nat} {eo : Ev} (ck : CK X.K c) (ho : EE X c o eo) (hm : Meth X.K (c ci) m f) (hf : NoF m = true) (F : FnR X.prog X.w X.K X.mg X.base CX0 k f (spR (gX X c) ev)) (hr : Room k X.A)
    (ha : EA X c (e :: es) av)
    (hst : starEach (e :: es) X.env = (false, eval e X.env) :: starEach es X.env := by rfl) (hpl : (backTo pos (starEach es X.env)).any (·.1) = false := by rfl)
    (ht : eval (.Call (.Attribute o m apos) (e :: es) [] pos) X.env = (do
      let ov ← eval o X.env
      standAt apos.atName
      let (f, first) ← holding [ov] (getMethod ov m pl)
      callWith pos f first (backTo pos (starEach (e :: es) X.env)) (backToKw pos (keywordEach [] X.env))) := by rfl) (hci : ci < 3 := by decide) :
    EE X c (.Call (.Attribute o m apos) (e :: es) [] pos) (cMe ci ev eo av) := PE.imp (pe_methR (pl := pl) ho (ck.cls ci hci) hm F hr pass0 ha hst hpl ht) (methR_t hf rfl)
end Cs
/-! Z19: dict(zip('abcd', t)). -/
namespace Cs
open PySem PySem.Spec PyProof.Rows L2

section
variable {prog : Program} {w : World} {A : Around} {E : Value → Shared → Prop} {s : Shared} {z TI TO T i1 i2 : Addr} {fp1 fp2 : List Addr} {n1 n2 i : Nat} {P1 P2 : Nat → Value → Prop} {St1 St2 : Nat → Heap → Prop} {f : Bool} {oT : Obj}
/-- zip's next while the tuple T is out: an item -/
theorem held_item {Q : Value → Shared → Prop} (S : ZipSep2 z TI TO i1 i2 fp1 fp2) (D1 : Draws prog w A i1 fp1 n1 P1 St1) (D2 : Draws prog w A i2 fp2 n2 P2 St2)
    (hz : IsZipHeld s.heap z TI TO T f) (hT : s.heap.get? T = some oT) (hTI : IsTupOf2 s.heap TI (.ref i1) (.ref i2)) (a1 : St1 i s.heap) (a2 : St2 i s.heap) (l1 : i < n1) (l2 : i < n2)
    (fin : ∀ x y h' tk, P1 i x → P2 i y → IsZipHeld h' z TI TO T true → St1 (i + 1) h' → St2 (i + 1) h' → IsTupOf2 h' s.heap.objs.size x y →
      (∀ c o, c ≠ z → c ≠ i1 → c ≠ i2 → s.heap.get? c = some o → h'.get? c = some o) → Q (.ref s.heap.objs.size) { s with heap := h', toks := tk }) :
    wpAny (model prog w) A (Builtin.«zip.__next__» ⟨[.ref z], []⟩) (fun r s' => ∃ v, r = .done (.ret v) ∧ Q v s') E s := by
  obtain ⟨hp, gs, dd, tk, os⟩ := s
  show wpAny _ _ (field (.ref z) 2 >>= _) _ _ _
  refine wpAny_bind (wpAny_field hz rfl (x := .bool false) rfl ?_)
  show wpAny _ _ (field (.ref z) 3 >>= _) _ _ _
  refine wpAny_bind (wpAny_field hz rfl (x := .ref TI) rfl (wpAny_bind (wpAny_seqItems hTI rfl ?_)))
  show wpAny _ _ (Builtin.SmallTypes.ownedTupleIsFree (.ref z) >>= _) _ _ _
  refine wpAny_bind (wpAny_tupleHeld_zip hz hT fun ha za ka => ?_)
  replace ka : Heap.SameBut z hp ha := ka
  rw [if_neg Bool.false_ne_true]
  refine wpAny_bind ?_
  rw [← Array.forIn_toList]
  simp only [List.forIn_cons, List.forIn_nil]
  refine wpAny_bind (wpAny_bind (wpAny_holding ?_))
  show wpAny _ _ (Builtin.SmallTypes.nextOf (.ref i1) >>= _) _ _ ⟨ha, gs, dd, tk, os⟩
  refine wpAny_bind (D1.item i _ _ _ l1 (D1.over a1 ka S.zf1) fun x hb tb px sb kb => wpAny_pure (wpAny_pure (wpAny_bind (wpAny_bind (wpAny_holding ?_)))))
  replace kb : Heap.SameBut i1 ha hb := kb
  show wpAny _ _ (Builtin.SmallTypes.nextOf (.ref i2) >>= _) _ _ ⟨hb, gs, dd, tb, os⟩
  refine wpAny_bind (D2.item i _ _ _ l2 (D2.over (D2.over a2 ka S.zf2) kb S.sep1_2) fun y hc tc py sc kc => wpAny_pure (wpAny_pure (wpAny_pure ?_)))
  replace kc : Heap.SameBut i2 hb hc := kc
  show wpAny _ _ (newTuple [x, y] >>= _) _ _ ⟨hc, gs, dd, tc, os⟩
  refine wpAny_bind (wpAny_newTuple ?_)
  have sz : hc.objs.size = hp.objs.size := kc.1.trans (kb.1.trans ka.1)
  have zc : IsZipHeld hc z TI TO T true := kc.extBut _ _ S.zi2 (kb.extBut _ _ S.zi1 za)
  have kk : ∀ c o, c ≠ z → c ≠ i1 → c ≠ i2 → hp.get? c = some o → hc.get? c = some o := fun c o e1 e2 e3 q => kc.extBut _ _ e3 (kb.extBut _ _ e2 (ka.extBut _ _ e1 q))
  have pr : IsTupOf2 (hc.push { cls := .type "tuple", data := .seq #[x, y] }) hc.objs.size x y := Heap.get?_push_size _ rfl
  have up : ∀ c o, hc.get? c = some o → (hc.push { cls := .type "tuple", data := .seq #[x, y] }).get? c = some o := fun c o q => Heap.get?_push_of_some _ q
  refine wpAny_pure ⟨_, rfl, ?_⟩
  show Q (.ref hc.objs.size) _
  rw [sz] at pr ⊢
  exact fin x y _ tc px py (up _ _ zc) (D1.frame _ _ _ (D1.over sb kc S.sep2_1) fun b _ o q => up b o q) (D2.frame _ _ _ sc fun b _ o q => up b o q) pr fun c o e1 e2 e3 q => up c o (kk c o e1 e2 e3 q)
/-- the end -/
theorem held_end {Q : Fin → Shared → Prop} (S : ZipSep2 z TI TO i1 i2 fp1 fp2) (D1 : Draws prog w A i1 fp1 n1 P1 St1) (D2 : Draws prog w A i2 fp2 n2 P2 St2)
    (hz : IsZipHeld s.heap z TI TO T f) (hT : s.heap.get? T = some oT) (hTI : IsTupOf2 s.heap TI (.ref i1) (.ref i2)) (a1 : St1 i s.heap) (a2 : St2 i s.heap) (l1 : i ≤ n1) (l2 : i ≤ n2) (le : i = n1 ∨ i = n2)
    (fin : ∀ h' tk e, (∀ c o, c ≠ z → c ≠ i1 → c ≠ i2 → s.heap.get? c = some o → h'.get? c = some o) → (∃ o, h'.get? e = some o ∧ o.cls = .type "StopIteration") → E (.ref e) { s with heap := h', toks := tk }) :
    wpAny (model prog w) A (Builtin.«zip.__next__» ⟨[.ref z], []⟩) Q E s := by
  obtain ⟨hp, gs, dd, tk, os⟩ := s
  show wpAny _ _ (field (.ref z) 2 >>= _) _ _ _
  refine wpAny_bind (wpAny_field hz rfl (x := .bool false) rfl ?_)
  show wpAny _ _ (field (.ref z) 3 >>= _) _ _ _
  refine wpAny_bind (wpAny_field hz rfl (x := .ref TI) rfl (wpAny_bind (wpAny_seqItems hTI rfl ?_)))
  show wpAny _ _ (Builtin.SmallTypes.ownedTupleIsFree (.ref z) >>= _) _ _ _
  refine wpAny_bind (wpAny_tupleHeld_zip hz hT fun ha za ka => ?_)
  replace ka : Heap.SameBut z hp ha := ka
  rw [if_neg Bool.false_ne_true]
  refine wpAny_bind ?_
  rw [← Array.forIn_toList]
  simp only [List.forIn_cons, List.forIn_nil]
  refine wpAny_bind (wpAny_bind (wpAny_holding ?_))
  show wpAny _ _ (Builtin.SmallTypes.nextOf (.ref i1) >>= _) _ _ ⟨ha, gs, dd, tk, os⟩
  by_cases lt : i < n1
  · have e2 : i = n2 := by omega
    refine wpAny_bind (D1.item i _ _ _ lt (D1.over a1 ka S.zf1) fun x hb tb px sb kb => wpAny_pure (wpAny_pure (wpAny_bind (wpAny_bind (wpAny_holding ?_)))))
    replace kb : Heap.SameBut i1 ha hb := kb
    show wpAny _ _ (Builtin.SmallTypes.nextOf (.ref i2) >>= _) _ _ ⟨hb, gs, dd, tb, os⟩
    refine wpAny_bind (D2.done ⟨hb, gs, dd, tb, os⟩ _ _ (by rw [← e2]; exact D2.over (D2.over a2 ka S.zf2) kb S.sep1_2) fun hc e kc he => ?_)
    exact fin hc tb e (fun c o c1 c2 c3 q => kc _ _ c3 (kb.extBut _ _ c2 (ka.extBut _ _ c1 q))) he
  · have e1 : i = n1 := by omega
    refine wpAny_bind (D1.done ⟨ha, gs, dd, tk, os⟩ _ _ (by rw [← e1]; exact D1.over a1 ka S.zf1) fun hc e kc he => ?_)
    exact fin hc tk e (fun c o c1 c2 c3 q => kc _ _ c2 (ka.extBut _ _ c1 q)) he
theorem held_next {Q : Option Value → Shared → Prop} (S : ZipSep2 z TI TO i1 i2 fp1 fp2) (D1 : Draws prog w A.in1 i1 fp1 n1 P1 St1) (D2 : Draws prog w A.in1 i2 fp2 n2 P2 St2)
    (hz : IsZipHeld s.heap z TI TO T f) (hT : s.heap.get? T = some oT) (hTI : IsTupOf2 s.heap TI (.ref i1) (.ref i2)) (a1 : St1 i s.heap) (a2 : St2 i s.heap) (l1 : i < n1) (l2 : i < n2)
    (fin : ∀ x y h' tk, P1 i x → P2 i y → IsZipHeld h' z TI TO T true → St1 (i + 1) h' → St2 (i + 1) h' → IsTupOf2 h' s.heap.objs.size x y →
      (∀ c o, c ≠ z → c ≠ i1 → c ≠ i2 → s.heap.get? c = some o → h'.get? c = some o) → Q (some (.ref s.heap.objs.size)) { s with heap := h', toks := tk }) :
    wpAny (model prog w) A (pyNext (.ref z)) Q E s := by
  have ty : s.TypeIs (.ref z) "zip" := ⟨_, hz, rfl⟩
  unfold pyNext
  refine wpAny_bind (wpAny_attempt (wpAny_callSpecial?_slot (name := Str.ofString "__next__") ty F.slot_zip_next (wpAny_call_entry F.slot_zip_next ty F.entry_zip_next ?_ (F.args_zip_next_1 _))))
  exact held_item S D1 D2 hz hT hTI a1 a2 l1 l2 fun x y h' tk b1 b2 b3 b4 b5 b6 b7 => wpAny_pure (fin x y h' tk b1 b2 b3 b4 b5 b6 b7)
theorem held_stop {Q : Option Value → Shared → Prop} (S : ZipSep2 z TI TO i1 i2 fp1 fp2) (D1 : Draws prog w A.in1 i1 fp1 n1 P1 St1) (D2 : Draws prog w A.in1 i2 fp2 n2 P2 St2)
    (hz : IsZipHeld s.heap z TI TO T f) (hT : s.heap.get? T = some oT) (hTI : IsTupOf2 s.heap TI (.ref i1) (.ref i2)) (a1 : St1 i s.heap) (a2 : St2 i s.heap) (l1 : i ≤ n1) (l2 : i ≤ n2) (le : i = n1 ∨ i = n2)
    (fin : ∀ h' tk, (∀ c o, c ≠ z → c ≠ i1 → c ≠ i2 → s.heap.get? c = some o → h'.get? c = some o) → Q none { s with heap := h', toks := tk }) : wpAny (model prog w) A (pyNext (.ref z)) Q E s := by
  have ty : s.TypeIs (.ref z) "zip" := ⟨_, hz, rfl⟩
  unfold pyNext
  refine wpAny_bind (wpAny_attempt (wpAny_callSpecial?_slot (name := Str.ofString "__next__") ty F.slot_zip_next (wpAny_call_entry F.slot_zip_next ty F.entry_zip_next ?_ (F.args_zip_next_1 _))))
  refine held_end S D1 D2 hz hT hTI a1 a2 l1 l2 le fun h' tk e kk he => ?_
  obtain ⟨o, ho, hc⟩ := he
  exact wpAny_bind (wpAny_isInstance (T := "StopIteration") (b := true) ⟨o, ho, hc⟩ isSubtype_stop (wpAny_pure (fin _ _ kk)))
/-- zip over any two, as pairs for a dict -/
theorem zip_arg (S : ZipSep2 z TI TO i1 i2 fp1 fp2) (D1 : ∀ A : Around, A.handled = none → Draws prog w A i1 fp1 n1 P1 St1) (D2 : ∀ A : Around, A.handled = none → Draws prog w A i2 fp2 n2 P2 St2) (live : ∀ h, St1 0 h → St2 0 h → ∀ b ∈ fp1 ++ fp2, ∃ o, h.get? b = some o) :
    PairArg prog w "zip" z (z :: TI :: TO :: (fp1 ++ fp2)) [z, TO, i1, i2] (min n1 n2) (fun i k v => P1 i k ∧ P2 i v)
      (fun h => IsZip h z TI TO .none ∧ IsTupOf2 h TI (.ref i1) (.ref i2) ∧ (∃ a b, IsTupOf2 h TO a b) ∧ St1 0 h ∧ St2 0 h) where
  type := fun s ok => ⟨_, ok.1, rfl⟩
  notDict := by decide
  keep := fun h h' ok k => ⟨k _ _ ok.1, k _ _ ok.2.1, let ⟨a, b, e⟩ := ok.2.2.1; ⟨a, b, k _ _ e⟩, (D1 callerA rfl).frame _ _ _ ok.2.2.2.1 fun b _ o e => k b o e, (D2 callerA rfl).frame _ _ _ ok.2.2.2.2 fun b _ o e => k b o e⟩
  there := fun h ok b hb => by
    obtain ⟨q1, q2, ⟨a, c, q3⟩, q4, q5⟩ := ok
    rcases List.mem_cons.mp hb with e | hb
    · rw [e]; exact ⟨_, q1⟩
    · rcases List.mem_cons.mp hb with e | hb
      · rw [e]; exact ⟨_, q2⟩
      · rcases List.mem_cons.mp hb with e | hb
        · rw [e]; exact ⟨_, q3⟩
        · exact live h q4 q5 b hb
  sub := fun b hb => by
    have m1 := S.mem1
    have m2 := S.mem2
    simp only [List.mem_cons, List.not_mem_nil, or_false] at hb
    rcases hb with e | e | e | e <;> simp [e, m1, m2]
  noKeys := fun A s Q E hA ok q => getAttrOr_miss_zip ok.1 rfl rfl rfl zip_no_keys (by decide +kernel) hA q
  iter := fun A s d Q E hA ok hd hdf q => by
    obtain ⟨q1, q2, ⟨ta, tb, q3⟩, q4, q5⟩ := ok
    have dz : d ≠ z := fun e => hdf (by simp [e])
    have dTI : d ≠ TI := fun e => hdf (by simp [e])
    have dTO : d ≠ TO := fun e => hdf (by simp [e])
    have df1 : d ∉ fp1 := fun e => hdf (by simp [e])
    have df2 : d ∉ fp2 := fun e => hdf (by simp [e])
    have di1 : d ≠ i1 := fun e => df1 (by rw [e]; exact S.mem1)
    have di2 : d ≠ i2 := fun e => df2 (by rw [e]; exact S.mem2)
    have E1 := D1 A.in1 hA
    have E2 := D2 A.in1 hA
    refine wpAny_pyIter_zip q1 (q z [z, TO, i1, i2] (fun i h => IsTupOf2 h TI (.ref i1) (.ref i2) ∧ St1 i h ∧ St2 i h ∧
      ((IsZip h z TI TO .none ∧ ∃ a b, IsTupOf2 h TO a b) ∨ ∃ T f oT, IsZipHeld h z TI TO T f ∧ h.get? T = some oT ∧ T ≠ z ∧ T ≠ i1 ∧ T ≠ i2 ∧ T ≠ d)) s.heap s.toks ?_ ⟨q2, q4, q5, .inl ⟨q1, ta, tb, q3⟩⟩ (fun _ _ e => e) fun b hb => .inl hb)
    have keepTI : ∀ {h h' : Heap}, IsTupOf2 h TI (.ref i1) (.ref i2) → (∀ c o, c ≠ z → c ≠ i1 → c ≠ i2 → h.get? c = some o → h'.get? c = some o) → IsTupOf2 h' TI (.ref i1) (.ref i2) := fun a k => k _ _ S.TIz S.TIi1 S.TIi2 a
    refine { off := ?_, frame := ?_, item := ?_, done := ?_ }
    · intro hm
      simp only [List.mem_cons, List.not_mem_nil, or_false] at hm
      rcases hm with e | e | e | e
      · exact dz e
      · exact dTO e
      · exact di1 e
      · exact di2 e
    · rintro i h1 h2 ⟨b1, b2, b3, b4⟩ k
      refine ⟨k _ _ (Ne.symm dTI) b1, E1.frame _ _ _ b2 fun b hb o e => k b o (fun q => df1 (by rw [← q]; exact hb)) e, E2.frame _ _ _ b3 fun b hb o e => k b o (fun q => df2 (by rw [← q]; exact hb)) e, ?_⟩
      rcases b4 with ⟨e1, a, b, e2⟩ | ⟨T, f, oT, e1, e2, r1, r2, r3, r4⟩
      · exact .inl ⟨k _ _ (Ne.symm dz) e1, a, b, k _ _ (Ne.symm dTO) e2⟩
      · exact .inr ⟨T, f, oT, k _ _ (Ne.symm dz) e1, k _ _ r4 e2, r1, r2, r3, r4⟩
    · rintro i s1 Q1 X1 hi ⟨b1, b2, b3, b4⟩ hds fin
      have li1 : i < n1 := Nat.lt_of_lt_of_le hi (Nat.min_le_left ..)
      have li2 : i < n2 := Nat.lt_of_lt_of_le hi (Nat.min_le_right ..)
      have ni1 : s1.heap.objs.size ≠ i1 := let ⟨_, e⟩ := E1.live _ _ b2; Nat.ne_of_gt (Heap.lt_size e)
      have ni2 : s1.heap.objs.size ≠ i2 := let ⟨_, e⟩ := E2.live _ _ b3; Nat.ne_of_gt (Heap.lt_size e)
      rcases b4 with ⟨e1, a, b, e2⟩ | ⟨T, f, oT, e1, e2, r1, r2, r3, r4⟩
      · refine wpAny_pyNext_zipD2_item S E1 E2 e1 b1 e2 b2 b3 li1 li2 fun x y h' tk p1 p2 c1 c2 c3 c4 c5 c6 k => ?_
        refine fin s1.heap.objs.size x y h' tk ⟨p1, p2⟩ (.inl ⟨_, c5, rfl, _, rfl⟩) ⟨k _ _ S.TIz S.TITO S.TIi1 S.TIi2 b1, c3, c4, .inr ⟨s1.heap.objs.size, false, _, c1, c5, Nat.ne_of_gt (Heap.lt_size e1), ni1, ni2, Nat.ne_of_gt hds⟩⟩ fun c o hc e => ?_
        simp only [List.mem_cons, List.not_mem_nil, or_false, not_or] at hc
        exact k c o hc.1 hc.2.1 hc.2.2.1 hc.2.2.2 e
      · refine held_next S E1 E2 e1 e2 b1 b2 b3 li1 li2 fun x y h' tk p1 p2 c1 c3 c4 c5 k => ?_
        refine fin s1.heap.objs.size x y h' tk ⟨p1, p2⟩ (.inl ⟨_, c5, rfl, _, rfl⟩) ⟨keepTI b1 k, c3, c4, .inr ⟨T, true, oT, c1, k _ _ r1 r2 r3 e2, r1, r2, r3, r4⟩⟩ fun c o hc e => ?_
        simp only [List.mem_cons, List.not_mem_nil, or_false, not_or] at hc
        exact k c o hc.1 hc.2.2.1 hc.2.2.2 e
    · rintro s1 Q1 X1 ⟨b1, b2, b3, b4⟩ fin
      have le : min n1 n2 = n1 ∨ min n1 n2 = n2 := by omega
      rcases b4 with ⟨e1, a, b, e2⟩ | ⟨T, f, oT, e1, e2, r1, r2, r3, r4⟩
      · refine wpAny_pyNext_zipD2_end S E1 E2 e1 b1 e2 b2 b3 (Nat.min_le_left ..) (Nat.min_le_right ..) le fun h' tk k => fin h' tk fun c o hc e => ?_
        simp only [List.mem_cons, List.not_mem_nil, or_false, not_or] at hc
        exact k c o hc.1 hc.2.1 hc.2.2.1 hc.2.2.2 e
      · refine held_stop S E1 E2 e1 e2 b1 b2 b3 (Nat.min_le_left ..) (Nat.min_le_right ..) le fun h' tk k => fin h' tk fun c o hc e => ?_
        simp only [List.mem_cons, List.not_mem_nil, or_false, not_or] at hc
        exact k c o hc.1 hc.2.2.1 hc.2.2.2 e
end
end Cs
/-! Z20: dict(zip('abcd', t)), the rule. -/
namespace Cs
open PySem PySem.Spec PyProof.Rows L2
def zipK {α : Type} : List Nat → List α → List (Key × α)
  | c :: cs, u :: us => (Sum.inr (sOf [c]), u) :: zipK cs us
  | [], _ => []
  | _ :: _, [] => []
theorem zipK_get {α : Type} : ∀ {cs : List Nat} {us : List α} {i c : Nat} {u : α}, cs[i]? = some c → us[i]? = some u → (zipK cs us)[i]? = some (Sum.inr (sOf [c]), u)
  | c :: cs, u :: us, 0, _, _, h1, h2 => by
    simp at h1 h2
    simp [zipK, h1, h2]
  | c :: cs, u :: us, i + 1, _, _, h1, h2 => by
    simp at h1 h2
    simpa [zipK] using zipK_get h1 h2
  | [], _, _, _, _, h1, _ => by simp at h1
  | _ :: _, [], _, _, _, _, h2 => by simp at h2
theorem zipK_len {α : Type} : ∀ (cs : List Nat) (us : List α), (zipK cs us).length = min cs.length us.length
  | [], us => by simp [zipK]
  | _ :: _, [] => by simp [zipK]
  | c :: cs, u :: us => by
    simp only [zipK, List.length_cons, zipK_len cs us]
    omega
theorem zipK_keys {α : Type} : ∀ (cs : List Nat) (us : List α) (k : Key), k ∈ (zipK cs us).map (·.1) → ∃ c ∈ cs, k = Sum.inr (sOf [c])
  | [], us, k, h => by simp [zipK] at h
  | _ :: _, [], k, h => by simp [zipK] at h
  | c :: cs, u :: us, k, h => by
    simp only [zipK, List.map_cons, List.mem_cons] at h
    rcases h with h | h
    · exact ⟨c, List.mem_cons_self .., h⟩
    · obtain ⟨c', h1, h2⟩ := zipK_keys cs us k h
      exact ⟨c', List.mem_cons_of_mem _ h1, h2⟩
theorem zipK_nodup {α : Type} : ∀ (cs : List Nat) (us : List α), cs.Nodup → ((zipK cs us).map (·.1)).Nodup
  | [], us, _ => by simp [zipK]
  | _ :: _, [], _ => by simp [zipK]
  | c :: cs, u :: us, h => by
    rw [List.nodup_cons] at h
    simp only [zipK, List.map_cons, List.nodup_cons]
    refine ⟨fun z => ?_, zipK_nodup cs us h.2⟩
    obtain ⟨c', h1, h2⟩ := zipK_keys cs us _ z
    have e : [c] = [c'] := sOf_inj (Sum.inr.inj h2)
    injection e with e _
    exact h.1 (by rw [e]; exact h1)
theorem merged_new : ∀ (more acc : List (Key × Value)), ((acc ++ more).map (·.1)).Nodup → merged acc more = acc ++ more
  | [], acc, _ => by simp [merged]
  | p :: more, acc, h => by
    have ne : (acc.any fun kv => decide (kv.1 = p.1)) = false := by
      rw [List.any_eq_false]
      intro q hq
      rw [decide_eq_true_eq]
      intro e
      rw [List.map_append, List.nodup_append] at h
      exact h.2.2 q.1 (List.mem_map.mpr ⟨q, hq, rfl⟩) p.1 (by simp) e
    have e1 : stored acc p.1 p.2 = acc ++ [p] := by
      unfold stored
      rw [if_neg (by rw [ne]; exact Bool.false_ne_true)]
    have e2 : merged acc (p :: more) = merged (stored acc p.1 p.2) more := rfl
    rw [e2, e1, merged_new more (acc ++ [p]) (by simpa using h)]
    simp
theorem zipK_kv : ∀ {cs : List Nat} {vs : List V} {us : List Value}, Vals vs us → KV (zipK cs vs) (zipK cs us)
  | [], _, _, _ => by
    rw [zipK, zipK]
    exact .nil
  | _ :: _, _, _, .nil => .nil
  | c :: cs, _, _, .cons r t => .cons ⟨rfl, r⟩ (zipK_kv t)
theorem zipA_kr {K : PySem.W.Frag} {ι : Nat → Addr} {m : Nat} {H : Hp} : ∀ {cs : List Nat} {l : List D} {vs : List V}, RDs K H l vs → KR K ι m H (zipA cs l) (zipK cs vs)
  | [], _, _, _ => by
    rw [zipA, zipK]
    exact .nil
  | _ :: _, _, _, .nil => .nil
  | c :: cs, _, _, .cons r t => .cons ⟨rfl, .dat r⟩ (zipA_kr t)
def rZip (K : PySem.W.Frag) (cs : List Nat) : List V → Hp → VK → Prop := fun vs H Q => ∃ a xs, vs = [.str (sOf cs), .ref a] ∧ SqT K H a xs ∧ ∀ p, H p = none → Q (.ref p) (upd H p (.dK (zipK cs xs)))
theorem pe_zipD {X : Cx} {cs : List Nat} {e0 e : Expr} {ta : TA} {p p2 pos pos2 : Pos} (hc : X.calm = true) (hg : Gl X "dict") (hm : X.mg "dict" = none) (hg2 : Gl X "zip") (hm2 : X.mg "zip" = none) (ha : PA X [e0, e] ta) (nd : cs.Nodup) (hl : cs.length ≤ 100)
    (hs : starEach [e0, e] X.env = (false, eval e0 X.env) :: starEach [e] X.env := by rfl) (hpl : (backTo pos2 (starEach [e] X.env)).any (·.1) = false := by rfl)
    (hs2 : starEach [.Call (.Name "zip" p2) [e0, e] [] pos2] X.env = (false, eval (.Call (.Name "zip" p2) [e0, e] [] pos2) X.env) :: starEach [] X.env := by rfl) :
    PE X (.Call (.Name "dict" p) [.Call (.Name "zip" p2) [e0, e] [] pos2] [] pos) (fun σ H Q => ta σ H fun vs H1 => rZip X.K cs vs H1 Q) := ⟨fun pins s σ H Q I hw => by
  refine Call_ (ld_blt I hg hm PyProof.Rows.boot_dict (PyProof.Rows.callWith_type1 (args_cons (Call_ (ld_blt I hg2 hm2 boot_zip (PyProof.Rows.callWith_type1 (thn (ha.run pos2 pins s σ H _ I hw) fun us s1 ⟨vs, H1, I1, r1, a, xs, ev, hq, q⟩ => ?_) hs hpl))) hs2) hs2 rfl))
  subst ev
  obtain ⟨u1, u2, rfl, ⟨t, rfl⟩, r2⟩ := vals2 r1
  cases r2
  obtain ⟨its, rv, p', hz⟩ := I1.tuple hq
  have pt : s1.heap.IsTuple a its.toArray := p'
  have alt : a < s1.heap.objs.size := let ⟨_, z, _⟩ := pt; Heap.lt_size z
  refine zip_begins2 (begins_text (sOf cs) t) (begins_tuple a its.toArray) True.intro pt fun h' hz' hTI hTO ho1 ho2 hsz hk => args_nil ?_
  have I2 : Inv X pins σ H1 { s1 with heap := h' } := I1.kept (t' := s1.toks) hk
  have S : ZipSep2 (s1.heap.objs.size + 4) (s1.heap.objs.size + 2) (s1.heap.objs.size + 3) s1.heap.objs.size (s1.heap.objs.size + 1) [s1.heap.objs.size] [s1.heap.objs.size + 1, a] :=
    zip_sep2 (fp1 := []) (fp2 := [a]) (by simp) (by simpa using alt)
  have ne : a ≠ s1.heap.objs.size + 1 := Nat.ne_of_lt (Nat.lt_succ_of_lt alt)
  have hti : h'.IsTupleIter (s1.heap.objs.size + 1) a 0 := ⟨_, ho2, rfl, rfl⟩
  have hsi : h'.IsStrIter s1.heap.objs.size (strIterType (sOf cs)) (sOf cs) t 0 := ⟨_, ho1, rfl, rfl⟩
  have pt' : h'.IsTuple a its.toArray := pt.at fun o z => hk a o z
  have P := zip_arg (prog := X.prog) (w := X.w) S (fun A hA => Draws.text hA s1.heap.objs.size (sOf cs) t) (fun A hA => Draws.tuple hA (s1.heap.objs.size + 1) a ne its.toArray) (fun h b1 b2 b hb => by
    obtain ⟨o1, q1, _⟩ := b1
    obtain ⟨⟨o2, q2, _⟩, ⟨o3, q3, _⟩⟩ := b2
    simp only [List.mem_append, List.mem_cons, List.not_mem_nil, or_false] at hb
    rcases hb with e | e | e
    · rw [e]; exact ⟨_, q1⟩
    · rw [e]; exact ⟨_, q2⟩
    · rw [e]; exact ⟨_, q3⟩)
  have hn : (sOf cs).cps.size = cs.length := by simp [sOf]
  have hlen := rv.length
  refine call_dict_pairs (s := { s1 with heap := h' }) (knd := mixKind X.prog X.w) (kvs := zipK cs its) P (I1.ok.hd hc) ⟨hz', hTI, ⟨_, _, hTO⟩, hsi, hti, pt'⟩ ⟨?_, fun i key v hr => ?_⟩ ?_ fun h2 tk dd kk => ?_
  · rw [zipK_len, hn]
    simp
  · obtain ⟨⟨c, u, h1, rfl⟩, h3⟩ := hr
    refine ⟨_, zipK_get (c := c) (u := v) (by simpa [sOf] using h1) (by simpa using h3), ?_⟩
    exact mixKind_str X.prog X.w (sOf [c]) u
  · rw [hn, sizeLine_eq]
    omega
  · rw [merged_new _ [] (by simpa using zipK_nodup cs its nd), List.nil_append] at dd
    have fok : ∀ b, s1.heap.objs.size ≤ b → FpOk X pins H1 b := fun b hb => I1.fpOk (b := b) hb (I1.hok.fresh hb)
    have lo : (h'.objs.size == sysModules) = false := beq_eq_false_iff_ne.mpr (Ne.symm (Nat.ne_of_lt I2.big))
    have lz : (zipK cs xs).length ≤ sizeLine := by rw [zipK_len, sizeLine_eq]; omega
    have I3 : Inv X pins σ (upd H1 h'.objs.size (.dK (zipK cs xs))) { s1 with heap := h2, toks := tk } :=
      I2.turnedNew (ch := [s1.heap.objs.size + 4, s1.heap.objs.size + 3, s1.heap.objs.size, s1.heap.objs.size + 1]) (fun b o hb z => kk b o hb z) (fun b hb => fok b (by
        simp only [List.mem_cons, List.not_mem_nil, or_false] at hb
        rcases hb with e | e | e | e <;> rw [e]
        · exact Nat.le_add_right _ _
        · exact Nat.le_add_right _ _
        · exact Nat.le_refl _
        · exact Nat.le_add_right _ _)) (Nat.le_refl _) (dk_new lz lo (zipK_kv rv) dd)
    exact ⟨.ref h'.objs.size, _, I3, rfl, q _ (I2.hok.fresh (Nat.le_refl _))⟩⟩
theorem zip_ok {g : Gb} {cs : List Nat} (σ : L2.St) (H : Hp) (Q : VK) {ev : Ev} (h : teOf g (cUn (oZip cs) ev) σ H Q) : taOf g (aCons (cStr cs) (aCons ev aNil)) σ H fun vs H1 => rZip g.K cs vs H1 Q := by
  obtain ⟨ι, σa, S, z, S', hL, hS, e, k⟩ := h
  unfold cUn at e
  split at e
  · rename_i x S1 q1
    refine ⟨ι, σa, S, [.dat (.str cs), x], S1, hL, hS, by simp [aCons, aNil, cC, q1], fun ι1 H1 v x1 R1 r1 => ?_⟩
    unfold oZip at e
    split at e
    · rename_i l
      cases r1 with | cons ra rb =>
      cases rb with | cons rc rd =>
      cases rd
      cases ra with | dat ra =>
      cases ra
      cases rc with | dat rt =>
      cases rt with | tup h1 h2 h3 =>
      refine ⟨_, _, rfl, h1, fun p hp => ?_⟩
      obtain ⟨ι', R2, x2, r2⟩ := R1.new1 (ho := .dK (zipK cs _)) e hp fun ι' x' => ⟨_, upd_same, zipA_kr (RDs.mono x'.kp h2)⟩
      exact k ι' _ _ (x1.trans x2) R2 r2
    · cases e
  · cases e
theorem e_zip {X : Cx} {c : Nat → Addr} {cs : List Nat} {x : Str} {j : Nat} {e : Expr} {ev : Ev} {p p2 p3 pos pos2 : Pos} (hc : X.calm = true) (hg : Gl X "dict") (hm : X.mg "dict" = none) (hg2 : Gl X "zip") (hm2 : X.mg "zip" = none) (he : EE X c e ev)
    (hx : x = sOf cs := by first | rfl | decide +kernel) (nd : cs.Nodup := by decide) (hl : cs.length ≤ 100 := by decide) (ho : PyData.strOk (sOf cs) = true := by decide +kernel)
    (hs : starEach [.Constant (.str x) j p3, e] X.env = (false, eval (.Constant (.str x) j p3) X.env) :: starEach [e] X.env := by rfl) (hpl : (backTo pos2 (starEach [e] X.env)).any (·.1) = false := by rfl)
    (hs2 : starEach [.Call (.Name "zip" p2) [.Constant (.str x) j p3, e] [] pos2] X.env = (false, eval (.Call (.Name "zip" p2) [.Constant (.str x) j p3, e] [] pos2) X.env) :: starEach [] X.env := by rfl)
    (hs3 : starEach [e] X.env = (false, eval e X.env) :: starEach [] X.env := by rfl) :
    EE X c (.Call (.Name "dict" p) [.Call (.Name "zip" p2) [.Constant (.str x) j p3, e] [] pos2] [] pos) (cUn (oZip cs) ev) :=
  PE.imp (pe_zipD (cs := cs) hc hg hm hg2 hm2 (a_cons (e_str cs hx ho) (a_cons he a_nil hs3) hs) nd hl hs hpl hs2) fun σ H Q h => zip_ok (g := gX X c) σ H Q h
end Cs
/-! Z21: data in the machine's heap; their order; list.sort. -/
namespace Cs
open PySem PySem.Spec PyProof.Rows L2 PySem.SeqAt

mutual
/-- the value stands for the data -/
inductive CD (h : Heap) : D → Value → Prop
  | non : CD h .non .none
  | int (i : Int) (t : Tok) : CD h (.int i) (.int i t)
  | str (l : List Nat) (t : Tok) : CD h (.str l) (.str (sOf l) t)
  | tup {p : Addr} {o : Obj} {xs : Array Value} {n : Nat} {l : List D} : h.get? p = some o → o.cls = .type "tuple" → o.data = .seq xs n → CDs h l xs.toList → CD h (.tup l) (.ref p)
inductive CDs (h : Heap) : List D → List Value → Prop
  | nil : CDs h [] []
  | cons {d : D} {v : Value} {l : List D} {vs : List Value} : CD h d v → CDs h l vs → CDs h (d :: l) (v :: vs)
end
mutual
theorem CD.key {h : Heap} : ∀ {d : D} {v : Value}, CD h d v → NestedIs h (nk d) v
  | _, _, .non => .none
  | _, _, .int i t => .int i t
  | _, _, .str l t => .text _ t
  | _, _, .tup a b c r => .tup a b c (CDs.keys r)
theorem CDs.keys {h : Heap} : ∀ {l : List D} {vs : List Value}, CDs h l vs → NestedAll h (nks l) vs
  | _, _, .nil => .nil
  | _, _, .cons a r => .cons (CD.key a) (CDs.keys r)
end
mutual
theorem CD.keep {h h' : Heap} (k : ∀ b o, h.get? b = some o → o.cls = .type "tuple" → h'.get? b = some o) : ∀ {d : D} {v : Value}, CD h d v → CD h' d v
  | _, _, .non => .non
  | _, _, .int i t => .int i t
  | _, _, .str l t => .str l t
  | _, _, .tup a b c r => .tup (k _ _ a b) b c (CDs.keep k r)
theorem CDs.keep {h h' : Heap} (k : ∀ b o, h.get? b = some o → o.cls = .type "tuple" → h'.get? b = some o) : ∀ {l : List D} {vs : List Value}, CDs h l vs → CDs h' l vs
  | _, _, .nil => .nil
  | _, _, .cons a r => .cons (CD.keep k a) (CDs.keep k r)
end
theorem CD.inj {h : Heap} {d e : D} {v : Value} (a : CD h d v) (b : CD h e v) : d = e := nk_inj (NestedIs.inj _ _ _ a.key b.key)
section
variable {X : Cx} {pins : List (Addr × Obj)} {σ : L2.St} {H : Hp} {s : Shared}
mutual
theorem cd_of (I : Inv X pins σ H s) : ∀ {d : D} {v : V} {u : Value}, RD X.K H d v → RelV v u → CD s.heap d u
  | .non, _, _, .non, e => by
    cases e
    exact .non
  | .int i, _, _, .int _, e => by
    obtain ⟨t, rfl⟩ := e
    exact .int i t
  | .str l, _, _, .str _ _, e => by
    obtain ⟨t, rfl⟩ := e
    exact .str l t
  | .tup l, .ref p, _, .tup h r _, e => by
    cases e
    obtain ⟨its, rv, ⟨o, h1, h2, n, h3⟩, _⟩ := I.tuple h
    exact .tup h1 h2 h3 (by
      have e : its.toArray.toList = its := by simp
      rw [e]
      exact cds_of I r rv)
theorem cds_of (I : Inv X pins σ H s) : ∀ {l : List D} {vs : List V} {us : List Value}, RDs X.K H l vs → Vals vs us → CDs s.heap l us
  | _, _, _, .nil, .nil => .nil
  | _, _, _, .cons h r, .cons e t => .cons (cd_of I h e) (cds_of I r t)
end
end
theorem CDs.len {h : Heap} : ∀ {l : List D} {vs : List Value}, CDs h l vs → l.length = vs.length
  | _, _, .nil => rfl
  | _, _, .cons _ r => by simp [CDs.len r]
theorem CDs.mem {h : Heap} : ∀ {l : List D} {vs : List Value} {v : Value}, CDs h l vs → v ∈ vs → ∃ d ∈ l, CD h d v
  | _, _, _, .nil, m => by simp at m
  | _, _, _, .cons a r, m => by
    rcases List.mem_cons.mp m with e | m
    · rw [e]; exact ⟨_, List.mem_cons_self .., a⟩
    · obtain ⟨d, h1, h2⟩ := CDs.mem r m
      exact ⟨d, List.mem_cons_of_mem _ h1, h2⟩

/-! ### t < u -/
inductive Lx (A : Around) (s : Shared) : List Value → List Value → Bool → Prop
  | nn : Lx A s [] [] false
  | nc {q : Value} {qs : List Value} : Lx A s [] (q :: qs) true
  | cn {p : Value} {ps : List Value} : Lx A s (p :: ps) [] false
  | eq {p q : Value} {ps qs : List Value} {r : Bool} : EqAt A s p q true → Lx A s ps qs r → Lx A s (p :: ps) (q :: qs) r
  | ne {p q : Value} {ps qs : List Value} {r : Bool} : EqAt A s p q false → Ob.RcOp .Lt A s p q r → Lx A s (p :: ps) (q :: qs) r
section
open PySem.AutoSeq1 (wpAny_loadPart')
theorem tup_less (a b : Addr) (xs ys : Array Value) (n m : Nat) (da db : Option Addr) (sa sb : Array (Option Value)) (r : Bool) :
    Meets (Builtin.«tuple.__lt__» ⟨[.ref a, .ref b], []⟩) (fun A R s => s.heap.get? a = some { cls := .type "tuple", dict := da, data := .seq xs n, slots := sa } ∧ s.heap.get? b = some { cls := .type "tuple", dict := db, data := .seq ys m, slots := sb } ∧
      Lx A.in1 s xs.toList ys.toList r ∧ R (.ok (.ret (.bool r))) s) := .of_wp fun prog w A R s hq => by
  obtain ⟨hp, gs, dd, tk, os⟩ := s
  obtain ⟨ha, hb, hx, fin⟩ := hq
  have su := AutoSeq1.sub_tuple_tuple
  wp_walk using wpAny_loadPart' ha, wpAny_loadPart' hb, wpAny_forIn_list _ (fun rest st s' => st.1 = none ∧ s' = ⟨hp, gs, dd, tk, os⟩ ∧ ∃ ps qs, rest = ps.zip qs ∧ Lx A.in1 ⟨hp, gs, dd, tk, os⟩ ps qs r ∧ decide (xs.size < ys.size) = decide (ps.length < qs.length)) _
  case turn =>
    rintro ⟨y, x⟩ rest st s' ⟨e0, rfl, ps, qs, ez, lx, le⟩
    cases lx with
    | nn => cases ez
    | nc => cases ez
    | cn => cases ez
    | eq h1 h2 =>
      rw [List.zip_cons_cons] at ez
      injection ez with e1 e2
      injection e1 with e3 e4
      subst e3 e4
      refine wpAny_bind (h1 prog w _ _ ?_)
      wp_walk
      exact ⟨rfl, rfl, _, _, e2, h2, by simpa using le⟩
    | ne h1 h2 =>
      rw [List.zip_cons_cons] at ez
      injection ez with e1 e2
      injection e1 with e3 e4
      subst e3 e4
      refine wpAny_bind (h1 prog w _ _ ?_)
      have h3 := h2 prog w
      wp_walk using h3
      exact ⟨_, rfl, fin⟩
  case fin =>
    rintro ⟨b1, b2⟩ s' ⟨e0, rfl, ps, qs, ez, lx, le⟩
    simp only at e0
    subst e0
    have er : r = decide (xs.size < ys.size) := by
      rw [le]
      cases lx with
      | nn => rfl
      | nc => rfl
      | cn => rfl
      | eq _ _ => cases ez
      | ne _ _ => cases ez
    wp_walk
    exact ⟨_, rfl, by simpa [Builtin.Tuple.tupleCompareSizes, er] using fin⟩
  case h => exact ⟨rfl, rfl, xs.toList, ys.toList, rfl, hx, by simp⟩
end
theorem rc_tup {A : Around} {s : Shared} {a b : Addr} {oa ob : Obj} {xs ys : Array Value} {n m : Nat} {r : Bool} (ha : s.heap.get? a = some oa) (ca : oa.cls = .type "tuple") (da : oa.data = .seq xs n) (hb : s.heap.get? b = some ob) (cb : ob.cls = .type "tuple") (db : ob.data = .seq ys m)
    (hu : A.units < cLine) (hx : Lx A.in1 s xs.toList ys.toList r) : Ob.RcOp .Lt A s (.ref a) (.ref b) r := fun prog w E Q q => by
  obtain ⟨c1, d1, t1, s1⟩ := oa
  obtain ⟨c2, d2, t2, s2⟩ := ob
  simp only at ca da cb db
  subst ca da cb db
  exact richCompare_meets_room (op := .Lt) ⟨_, ha, rfl⟩ ⟨_, hb, rfl⟩ F.slot_tuple_lt F.entry_tuple_lt (F.args_tuple_lt_2 _ _) (tup_less a b xs ys n m d1 d2 s1 s2 r) ⟨ha, hb, hx, ⟨(fun z => nomatch z), q⟩⟩ hu
theorem ltN_lt : ∀ (a b : List Nat), ltN a b = decide (a < b)
  | [], [] => by simp [ltN]
  | [], _ :: _ => by simp [ltN]
  | _ :: _, [] => by simp [ltN]
  | x :: a, y :: b => by
    unfold ltN
    cases h1 : Nat.blt x y with
    | true =>
      have : x < y := blt_lt h1
      simp [List.cons_lt_cons_iff, this]
    | false =>
      have h2 : ¬ x < y := fun z => by
        have : Nat.blt x y = true := Nat.ble_eq_true_of_le z
        rw [h1] at this
        cases this
      rw [beqN, cond_dec]
      by_cases e : x = y
      · simp [List.cons_lt_cons_iff, h2, e, ltN_lt a b]
      · simp [List.cons_lt_cons_iff, h2, e]
theorem beq_nk (a b : D) : NestedKey.beq (nk a) (nk b) = D.beq a b := by
  rw [← NestedKey.decide_eq]
  cases h : D.beq a b with
  | true => rw [D.beq_iff.mp h]; simp
  | false =>
    have ne : a ≠ b := fun e => by rw [e, beq_t] at h; cases h
    simp
    exact fun z => ne (nk_inj z)
theorem cd_eq {A : Around} {s : Shared} {d e : D} {v u : Value} {n : Nat} (a : CD s.heap d v) (b : CD s.heap e u) (t : tall d n = true) (hu : A.units + n < cLine) : EqAt A s v u (D.beq d e) := by
  have h := eqAt_key (nk d) (nk e) A s v u a.key b.key (by
    have := nk_depth d n t
    omega)
  rw [beq_nk] at h
  exact h
mutual
theorem cd_lt : ∀ (d : D) {e : D} {r : Bool} {A : Around} {s : Shared} {v u : Value} (n : Nat), ltD d e = some r → CD s.heap d v → CD s.heap e u → tall d n = true → A.units + n < cLine → Ob.RcOp .Lt A s v u r
  | .int i, .int j, r, A, s, _, _, n, h, .int _ t, .int _ t', _, _ => by
    have e : r = decide (i < j) := by simpa [ltD] using h.symm
    rw [e]
    exact Ob.RcOp.lt_int i j t t'
  | .str l, .str m, r, A, s, _, _, n, h, .str _ t, .str _ t', _, _ => by
    have e : r = decide (l < m) := by
      rw [ltD, ltN_lt] at h
      exact (Option.some.inj h).symm
    rw [e]
    intro prog w E Q q
    refine PyProof.Rows.lt_str ?_
    have e2 : decide ((sOf l).cps.toList < (sOf m).cps.toList) = decide (l < m) := decide_eq_decide.mpr (by simp [sOf])
    rw [e2]
    exact q
  | .tup l, .tup m, r, A, s, _, _, 0, h, _, _, ht, _ => by simp [tall] at ht
  | .tup l, .tup m, r, A, s, _, _, n + 1, h, .tup a1 a2 a3 ra, .tup b1 b2 b3 rb, ht, hu => by
    rw [ltD] at h
    simp only [tall] at ht
    exact rc_tup a1 a2 a3 b1 b2 b3 (by omega) (cds_lt l n h ra rb ht (by
      have : A.in1.units = A.units + 1 := rfl
      omega))
  | .non, _, _, _, _, _, _, _, h, _, _, _, _ => by simp [ltD] at h
  | .int _, .non, _, _, _, _, _, _, h, _, _, _, _ => by simp [ltD] at h
  | .int _, .str _, _, _, _, _, _, _, h, _, _, _, _ => by simp [ltD] at h
  | .int _, .tup _, _, _, _, _, _, _, h, _, _, _, _ => by simp [ltD] at h
  | .str _, .non, _, _, _, _, _, _, h, _, _, _, _ => by simp [ltD] at h
  | .str _, .int _, _, _, _, _, _, _, h, _, _, _, _ => by simp [ltD] at h
  | .str _, .tup _, _, _, _, _, _, _, h, _, _, _, _ => by simp [ltD] at h
  | .tup _, .non, _, _, _, _, _, _, h, _, _, _, _ => by simp [ltD] at h
  | .tup _, .int _, _, _, _, _, _, _, h, _, _, _, _ => by simp [ltD] at h
  | .tup _, .str _, _, _, _, _, _, _, h, _, _, _, _ => by simp [ltD] at h
theorem cds_lt : ∀ (a : List D) {b : List D} {r : Bool} {A : Around} {s : Shared} {vs us : List Value} (n : Nat), ltDs a b = some r → CDs s.heap a vs → CDs s.heap b us → talls a n = true → A.units + n < cLine → Lx A s vs us r
  | [], [], r, A, s, _, _, n, h, .nil, .nil, _, _ => by
    have e : r = false := by simpa [ltDs] using h.symm
    rw [e]
    exact .nn
  | [], _ :: _, r, A, s, _, _, n, h, .nil, .cons _ _, _, _ => by
    have e : r = true := by simpa [ltDs] using h.symm
    rw [e]
    exact .nc
  | _ :: _, [], r, A, s, _, _, n, h, .cons _ _, .nil, _, _ => by
    have e : r = false := by simpa [ltDs] using h.symm
    rw [e]
    exact .cn
  | d :: a, e :: b, r, A, s, _, _, n, h, .cons h1 h2, .cons h3 h4, ht, hu => by
    unfold talls at ht
    cases q : tall d n with
    | false => rw [q] at ht; cases ht
    | true =>
      rw [q] at ht
      rw [ltDs] at h
      have eq := cd_eq h1 h3 q hu
      cases f : D.beq d e with
      | true =>
        rw [f] at h eq
        exact .eq eq (cds_lt a n h h2 h4 ht hu)
      | false =>
        rw [f] at h eq
        exact .ne eq (cd_lt d n h h1 h3 q hu)
end
end Cs
/-! Z22: list.sort of data, sorted(..). -/
namespace Cs
open PySem PySem.Spec PyProof.Rows L2 PySem.SeqAt Srt

/-! ### ranks -/
def idxD (x : D) : List D → Nat
  | [] => 0
  | y :: l => cond (D.beq y x) 0 (Nat.succ (idxD x l))
theorem inD_iff {x : D} : ∀ {l : List D}, inD x l = true ↔ x ∈ l
  | [] => by simp [inD]
  | y :: l => by
    unfold inD
    cases h : D.beq y x with
    | true => simp [D.beq_iff.mp h]
    | false =>
      have ne : ¬ x = y := fun e => by rw [e, beq_t] at h; cases h
      simp only [cond_false, List.mem_cons, ne, false_or]
      exact inD_iff
theorem subD_mem : ∀ {a b : List D}, subD a b = true → ∀ x ∈ a, x ∈ b
  | [], _, _, _, h => by simp at h
  | y :: a, b, h, x, m => by
    unfold subD at h
    cases q : inD y b with
    | false => rw [q] at h; cases h
    | true =>
      rw [q] at h
      rcases List.mem_cons.mp m with e | m
      · rw [e]; exact inD_iff.mp q
      · exact subD_mem h x m
theorem nodupD_ok : ∀ {l : List D}, nodupD l = true → l.Nodup
  | [], _ => List.nodup_nil
  | x :: l, h => by
    unfold nodupD at h
    cases q : inD x l with
    | true => rw [q] at h; cases h
    | false =>
      rw [q] at h
      refine List.nodup_cons.mpr ⟨fun m => ?_, nodupD_ok h⟩
      rw [inD_iff.mpr m] at q
      cases q
theorem pairOk_mem {x : D} : ∀ {l : List D}, pairOk x l = true → ∀ y ∈ l, ltD x y = some true ∧ ltD y x = some false
  | [], _, _, h => by simp at h
  | z :: l, h, y, m => by
    unfold pairOk at h
    split at h
    · rename_i q1
      split at h
      · rename_i q2
        rcases List.mem_cons.mp m with e | m
        · rw [e]; exact ⟨q1, q2⟩
        · exact pairOk_mem h y m
      · cases h
    · cases h
theorem chkR_cons {x : D} {l : List D} (h : chkR (x :: l) = true) : ltD x x = some false ∧ pairOk x l = true ∧ chkR l = true := by
  unfold chkR at h
  split at h
  · rename_i q1
    cases q2 : pairOk x l with
    | false => rw [q2] at h; cases h
    | true =>
      rw [q2] at h
      exact ⟨q1, rfl, h⟩
  · cases h
theorem idxD_self (x : D) (l : List D) : idxD x (x :: l) = 0 := by
  rw [idxD, beq_t]
  rfl
theorem idxD_ne {x y : D} (h : y ≠ x) (l : List D) : idxD x (y :: l) = idxD x l + 1 := by
  rw [idxD, beq_f h]
  rfl
theorem chkR_lt : ∀ {r : List D}, chkR r = true → ∀ x ∈ r, ∀ y ∈ r, ltD x y = some (decide (idxD x r < idxD y r))
  | [], _, _, m, _, _ => by simp at m
  | z :: l, h, x, mx, y, my => by
    obtain ⟨h1, h2, h3⟩ := chkR_cons h
    have nz : z ∉ l := fun m => by
      have := (pairOk_mem h2 z m).1
      rw [h1] at this
      cases this
    rcases List.mem_cons.mp mx with ex | mx
    · rcases List.mem_cons.mp my with ey | my
      · rw [ex, ey, h1]
        simp
      · have ny : z ≠ y := fun e => nz (by rw [e]; exact my)
        rw [ex, (pairOk_mem h2 y my).1, idxD_self, idxD_ne ny]
        simp
    · have nx : z ≠ x := fun e => nz (by rw [e]; exact mx)
      rcases List.mem_cons.mp my with ey | my
      · rw [ey, (pairOk_mem h2 x mx).2, idxD_self, idxD_ne nx]
        simp
      · have ny : z ≠ y := fun e => nz (by rw [e]; exact my)
        rw [chkR_lt h3 x mx y my, idxD_ne nx, idxD_ne ny]
        simp
theorem chkR_nodup : ∀ {r : List D}, chkR r = true → r.Nodup ∧ r.Pairwise (fun x y => idxD x r < idxD y r)
  | [], _ => ⟨List.nodup_nil, List.Pairwise.nil⟩
  | z :: l, h => by
    obtain ⟨h1, h2, h3⟩ := chkR_cons h
    have nz : z ∉ l := fun m => by
      have := (pairOk_mem h2 z m).1
      rw [h1] at this
      cases this
    obtain ⟨i1, i2⟩ := chkR_nodup h3
    refine ⟨List.nodup_cons.mpr ⟨nz, i1⟩, List.pairwise_cons.mpr ⟨fun y my => ?_, ?_⟩⟩
    · rw [idxD_self, idxD_ne (fun e => nz (by rw [e]; exact my))]
      omega
    · refine List.Pairwise.imp_of_mem (fun {x y} mx my hxy => ?_) i2
      rw [idxD_ne (fun e => nz (by rw [e]; exact mx)), idxD_ne (fun e => nz (by rw [e]; exact my))]
      omega
theorem sort_uniq {f : D → Nat} : ∀ {r l : List D}, l.Perm r → l.Pairwise (fun x y => f x ≤ f y) → r.Pairwise (fun x y => f x < f y) → l = r
  | [], l, p, _, _ => p.eq_nil
  | x :: r, [], p, _, _ => absurd p.symm.eq_nil (by simp)
  | x :: r, y :: l, p, h1, h2 => by
    have e : y = x := by
      rcases List.mem_cons.mp (p.mem_iff.mp (List.mem_cons_self ..)) with e | m
      · exact e
      · have a := (List.pairwise_cons.mp h2).1 y m
        rcases List.mem_cons.mp (p.mem_iff.mpr (List.mem_cons_self (a := x) (l := r))) with e | m2
        · exact e.symm
        · have b := (List.pairwise_cons.mp h1).1 x m2
          omega
    subst e
    rw [sort_uniq (List.Perm.cons_inv p) (List.pairwise_cons.mp h1).2 (List.pairwise_cons.mp h2).2]

/-! ### what a value stands for -/
open Classical in
noncomputable def datOf (h : Heap) (v : Value) : D := if e : ∃ d, CD h d v then e.choose else .non
theorem datOf_eq {h : Heap} {d : D} {v : Value} (c : CD h d v) : datOf h v = d := by
  have e : ∃ d, CD h d v := ⟨d, c⟩
  unfold datOf
  rw [dif_pos e]
  exact e.choose_spec.inj c
theorem datOf_map {h : Heap} : ∀ {l : List D} {vs : List Value}, CDs h l vs → vs.map (datOf h) = l
  | _, _, .nil => rfl
  | _, _, .cons a r => by rw [List.map_cons, datOf_eq a, datOf_map r]
noncomputable def ltR (h : Heap) (r : List D) (v u : Value) : Bool := decide (idxD (datOf h v) r < idxD (datOf h u) r)
theorem ltR_swo (h : Heap) (r : List D) : SrtO.Swo (ltR h r) := by
  refine ⟨fun x y q => ?_, fun x y z q1 q2 => ?_⟩
  · have a := of_decide_eq_true q
    exact decide_eq_false (by omega)
  · have a := of_decide_eq_false q1
    have b := of_decide_eq_false q2
    exact decide_eq_false (by omega)
/-- every value stands for something among r -/
def AllIn (h : Heap) (r : List D) (vs : List Value) : Prop := ∀ v ∈ vs, ∃ d ∈ r, CD h d v

/-! ### two compared -/
section
variable {prog : Program} {w : World} {A : Around} {E : Value → Shared → Prop} {s : Shared}
theorem kat_of {fin : Bool} {Q : Bool → Shared → Prop} : ∀ {ps qs : List Value} {r : Bool} (i : Nat), Lx A s ps qs r → fin = decide (ps.length < qs.length) → Q r s → PySem.W.KatLex prog w A true fin Q (ps.zip qs) (i + 1) s
  | _, _, _, _, .nn, e, q => by
    rw [e]
    exact PySem.W.kat_nil q
  | _, _, _, _, .nc, e, q => by
    rw [e]
    exact PySem.W.kat_nil q
  | _, _, _, _, .cn, e, q => by
    rw [e]
    exact PySem.W.kat_nil q
  | _, _, _, i, .eq h1 h2, e, q => by
    rw [List.zip_cons_cons]
    exact PySem.W.kat_cons (h1 prog w _ _ (PySem.W.kat_yes (kat_of (i + 1) h2 (by simpa using e) q)))
  | _, _, _, i, .ne h1 h2, e, q => by
    rw [List.zip_cons_cons]
    refine PySem.W.kat_cons (h1 prog w _ _ (PySem.W.kat_no ?_))
    have e0 : (true && i + 1 == 0) = false := by simp
    rw [e0]
    exact PySem.W.kat_one _ _ (h2 prog w _ _ q)
theorem one_lt {d e : D} {b : Bool} {v u : Value} {Q : Bool → Shared → Prop} (hk : kindD d = kindD e) (h4 : kindD d < 2) (h : ltD d e = some b) (a : CD s.heap d v) (c : CD s.heap e u) (q : Q b s) : wpAny (model prog w) A (oneLt' true v u) Q E s := by
  cases a with
  | non => exact absurd h4 (by show ¬ 4 < 2; decide)
  | int i t =>
    cases c with
    | int j t' =>
      have e1 : b = decide (i < j) := by simpa [ltD] using h.symm
      rw [e1] at q
      exact oneLt_int q
    | non => simp [ltD] at h
    | str _ _ => simp [ltD] at h
    | tup _ _ _ _ => simp [ltD] at h
  | str l t =>
    cases c with
    | str m t' =>
      have e1 : b = decide (l < m) := by
        rw [ltD, ltN_lt] at h
        exact (Option.some.inj h).symm
      refine oneLt_str ?_
      have e2 : decide ((sOf l).cps.toList < (sOf m).cps.toList) = decide (l < m) := decide_eq_decide.mpr (by simp [sOf])
      rw [e2, ← e1]
      exact q
    | non => simp [ltD] at h
    | int _ _ => simp [ltD] at h
    | tup _ _ _ _ => simp [ltD] at h
  | @tup p o xs n l h1 h2 h3 h5 =>
    exfalso
    cases l with
    | nil => exact absurd h4 (by show ¬ 4 < 2; decide)
    | cons x l => cases x <;> exact absurd h4 (by first | (show ¬ 2 < 2; decide) | (show ¬ 3 < 2; decide) | (show ¬ 4 < 2; decide))
/-- tuples with heads of one kind, as the sort compares them -/
theorem tups_lt {d e x y : D} {a b : List D} {r : Bool} {v u : Value} {Q : Bool → Shared → Prop} {n : Nat} (hd : d = .tup (x :: a)) (he : e = .tup (y :: b)) (hk : kindD x = kindD y) (h2 : kindD x < 2) (h : ltD d e = some r) (c1 : CD s.heap d v) (c2 : CD s.heap e u)
    (ht : tall d n = true) (hu : A.units + n < cLine) (q : Q r s) : wpAny (model prog w) A (keyLt' (tuples' true) v u) Q E s := by
  subst hd he
  cases c1 with | @tup p1 o1 xs m1 _ g1 g2 g3 ra =>
  cases c2 with | @tup p2 o2 ys m2 _ k1 k2 k3 rb =>
  cases n with
  | zero => simp [tall] at ht
  | succ n =>
    simp only [tall] at ht
    rw [ltD, ltDs] at h
    refine PySem.W.kat_lt g1 g3 k1 k3 ?_
    have sx : decide (xs.size < ys.size) = decide (xs.toList.length < ys.toList.length) := by simp
    rw [sx]
    generalize xs.toList = us at ra
    generalize ys.toList = ws at rb
    cases ra with | cons a1 a2 =>
    cases rb with | cons b1 b2 =>
    rw [List.zip_cons_cons]
    unfold talls at ht
    cases tx : tall x n with
    | false => rw [tx] at ht; cases ht
    | true =>
      rw [tx] at ht
      have eq := cd_eq a1 b1 tx (by omega : A.units + n < cLine)
      refine PySem.W.kat_cons (eq prog w _ _ ?_)
      cases f : D.beq x y with
      | true =>
        rw [f] at h
        exact PySem.W.kat_yes (kat_of 0 (cds_lt a n h a2 b2 ht (by omega)) (by simp) q)
      | false =>
        rw [f] at h
        refine PySem.W.kat_no ?_
        exact one_lt hk h2 h a1 b1 q
end

/-! ### the kind of a list of values -/
theorem allKind_mem {k : Nat} : ∀ {l : List D}, allKind k l = true → ∀ x ∈ l, kindD x = k
  | [], _, _, m => by simp at m
  | y :: l, h, x, m => by
    unfold allKind at h
    rw [beqN, cond_dec] at h
    by_cases e : kindD y = k
    · rw [if_pos e] at h
      rcases List.mem_cons.mp m with e2 | m
      · rw [e2]; exact e
      · exact allKind_mem h x m
    · rw [if_neg e] at h
      cases h
theorem kindOk_mem : ∀ {r : List D}, kindOk r = true → ∃ k, k < 4 ∧ ∀ x ∈ r, kindD x = k
  | [], _ => ⟨0, by decide, fun x m => by simp at m⟩
  | y :: l, h => by
    unfold kindOk at h
    dsimp only at h
    cases b : Nat.blt (kindD y) 4 with
    | false => rw [b] at h; cases h
    | true =>
      rw [b] at h
      refine ⟨kindD y, blt_lt b, fun x m => ?_⟩
      rcases List.mem_cons.mp m with e | m
      · rw [e]
      · exact allKind_mem h x m
theorem kind0 {d : D} (h : kindD d = 0) : ∃ i, d = .int i := by
  cases d with
  | int i => exact ⟨i, rfl⟩
  | non => exact absurd h (by show ¬ 4 = 0; decide)
  | str l => exact absurd h (by show ¬ 1 = 0; decide)
  | tup l =>
    cases l with
    | nil => exact absurd h (by show ¬ 4 = 0; decide)
    | cons x l => cases x <;> exact absurd h (by first | (show ¬ 2 = 0; decide) | (show ¬ 3 = 0; decide) | (show ¬ 4 = 0; decide))
theorem kind1 {d : D} (h : kindD d = 1) : ∃ l, d = .str l := by
  cases d with
  | str l => exact ⟨l, rfl⟩
  | non => exact absurd h (by show ¬ 4 = 1; decide)
  | int l => exact absurd h (by show ¬ 0 = 1; decide)
  | tup l =>
    cases l with
    | nil => exact absurd h (by show ¬ 4 = 1; decide)
    | cons x l => cases x <;> exact absurd h (by first | (show ¬ 2 = 1; decide) | (show ¬ 3 = 1; decide) | (show ¬ 4 = 1; decide))
theorem kind2 {d : D} {k : Nat} (h : kindD d = k + 2) (hk : k < 2) : ∃ x l, d = .tup (x :: l) ∧ kindD x = k := by
  cases d with
  | str l => exact absurd (show 1 = k + 2 from h) (by omega)
  | non => exact absurd (show 4 = k + 2 from h) (by omega)
  | int l => exact absurd (show 0 = k + 2 from h) (by omega)
  | tup l =>
    cases l with
    | nil => exact absurd (show 4 = k + 2 from h) (by omega)
    | cons x l =>
      refine ⟨x, l, rfl, ?_⟩
      cases x with
      | int i =>
        have e : 2 = k + 2 := h
        show 0 = k
        omega
      | str i =>
        have e : 3 = k + 2 := h
        show 1 = k
        omega
      | non => exact absurd (show 4 = k + 2 from h) (by omega)
      | tup _ => exact absurd (show 4 = k + 2 from h) (by omega)
section
variable {prog : Program} {w : World} {A : Around} {E : Value → Shared → Prop} {s : Shared}
theorem ints_all {h : Heap} {r : List D} (hk : ∀ x ∈ r, kindD x = 0) : ∀ {vs : List Value}, AllIn h r vs → ∃ ns, IntsAre vs ns
  | [], _ => ⟨[], .nil⟩
  | v :: vs, a => by
    obtain ⟨d, m, c⟩ := a v (List.mem_cons_self ..)
    obtain ⟨i, rfl⟩ := kind0 (hk d m)
    obtain ⟨ns, q⟩ := ints_all hk fun u mu => a u (List.mem_cons_of_mem _ mu)
    cases c with | int _ t =>
    exact ⟨i :: ns, .cons i t q⟩
theorem strs_all {h : Heap} {r : List D} (hk : ∀ x ∈ r, kindD x = 1) : ∀ {vs : List Value}, AllIn h r vs → ∃ ss, StrsAre vs ss
  | [], _ => ⟨[], .nil⟩
  | v :: vs, a => by
    obtain ⟨d, m, c⟩ := a v (List.mem_cons_self ..)
    obtain ⟨l, rfl⟩ := kind1 (hk d m)
    obtain ⟨ss, q⟩ := strs_all hk fun u mu => a u (List.mem_cons_of_mem _ mu)
    cases c with | str _ t =>
    exact ⟨sOf l :: ss, .cons (sOf l) t q⟩
theorem tups_all {h : Heap} {r : List D} {k : Nat} (h2 : k < 2) (hk : ∀ x ∈ r, kindD x = k + 2) : ∀ {vs : List Value}, AllIn h r vs → ∃ fs, PySem.W.KatTups h vs fs ∧ fs.length = vs.length ∧ ∀ f ∈ fs, ∃ x, CD h x f ∧ kindD x = k
  | [], _ => ⟨[], PySem.W.KatTups.nil, rfl, fun f m => by simp at m⟩
  | v :: vs, a => by
    obtain ⟨d, m, c⟩ := a v (List.mem_cons_self ..)
    obtain ⟨x, l, rfl, kx⟩ := kind2 (hk d m) h2
    obtain ⟨fs, q1, q2, q3⟩ := tups_all h2 hk fun u mu => a u (List.mem_cons_of_mem _ mu)
    cases c with | @tup p o xs n _ g1 g2 g3 ra =>
    have e0 : ∃ f, xs[0]? = some f ∧ CD h x f := by
      cases hx : xs.toList with
      | nil => rw [hx] at ra; cases ra
      | cons f fr =>
        rw [hx] at ra
        cases ra with | cons r1 r2 =>
        refine ⟨f, ?_, r1⟩
        rw [← Array.getElem?_toList, hx]
        rfl
    obtain ⟨f, e1, e2⟩ := e0
    refine ⟨f :: fs, PySem.W.KatTups.cons g1 g2 g3 e1 q1, by simp [q2], fun f' m' => ?_⟩
    rcases List.mem_cons.mp m' with e | m'
    · rw [e]; exact ⟨x, e2, kx⟩
    · exact q3 f' m'
/-- THE ITEMS CAN BE SORTED -/
theorem data_sortable {a : Addr} {vs : List Value} {r : List D} (h2 : 2 ≤ vs.length) (hc : chkR r = true) (hk : kindOk r = true) (ht : ∀ x ∈ r, tall x 30 = true) (hu : A.units + 40 < cLine) (hin : AllIn s.heap r vs) (ha : ∀ o, s.heap.get? a = some o → o.cls ≠ .type "tuple") :
    SrtO.SortableO prog w A s a vs (ltR s.heap r) := by
  intro h' keep
  have kp : ∀ b o, s.heap.get? b = some o → o.cls = .type "tuple" → h'.get? b = some o := fun b o e c => keep b o (fun z => by subst z; exact ha o e c) e
  have hin' : AllIn h' r vs := fun v m => let ⟨d, m1, c⟩ := hin v m; ⟨d, m1, c.keep kp⟩
  have val : ∀ {d e : D} {v u : Value}, d ∈ r → e ∈ r → CD s.heap d v → CD s.heap e u → ltD d e = some (ltR s.heap r v u) := fun md me c1 c2 => by
    unfold ltR
    rw [datOf_eq c1, datOf_eq c2]
    exact chkR_lt hc _ md _ me
  obtain ⟨k, k4, hkk⟩ := kindOk_mem hk
  have k_cases : k = 0 ∨ k = 1 ∨ ∃ j, j < 2 ∧ k = j + 2 := by
    rcases Nat.lt_or_ge k 2 with z | z
    · omega
    · exact .inr (.inr ⟨k - 2, by omega, by omega⟩)
  match vs, h2 with
  | v1 :: v2 :: rest, _ =>
  rcases k_cases with z | z | ⟨j, j2, z⟩
  · subst z
    obtain ⟨ns, q⟩ := ints_all hkk hin'
    refine ⟨oneType', fun Q E hq => ?_, fun p q' m1 m2 => ?_⟩
    · rw [keyKind_ints q]
      exact wpAny_pure hq
    · obtain ⟨d, md, c1⟩ := hin _ m1
      obtain ⟨e, me, c2⟩ := hin _ m2
      rw [keyLt'_oneType]
      exact one_lt (s := { s with heap := h' }) (by rw [hkk d md, hkk e me]) (by rw [hkk d md]; decide) (val md me c1 c2) (c1.keep kp) (c2.keep kp) ⟨rfl, rfl⟩
  · subst z
    obtain ⟨ns, q⟩ := strs_all hkk hin'
    refine ⟨oneType', fun Q E hq => ?_, fun p q' m1 m2 => ?_⟩
    · rw [keyKind_strs q]
      exact wpAny_pure hq
    · obtain ⟨d, md, c1⟩ := hin _ m1
      obtain ⟨e, me, c2⟩ := hin _ m2
      rw [keyLt'_oneType]
      exact one_lt (s := { s with heap := h' }) (by rw [hkk d md, hkk e me]) (by rw [hkk d md]; decide) (val md me c1 c2) (c1.keep kp) (c2.keep kp) ⟨rfl, rfl⟩
  · subst z
    obtain ⟨fs, q1, q2, q3⟩ := tups_all j2 hkk hin'
    refine ⟨tuples' true, fun Q E hq => ?_, fun p q' m1 m2 => ?_⟩
    · have T : ∃ T : String, (Value.type T == Value.type T) = true ∧ (Value.type T != Value.type "tuple") = true ∧ ∀ f ∈ fs, PySem.W.Looks (model prog w) h' (typeOf f) (Value.type T) := by
        have jc : j = 0 ∨ j = 1 := by omega
        rcases jc with z | z
        · refine ⟨"int", by decide, by decide, fun f m => ?_⟩
          obtain ⟨x, c, kx⟩ := q3 f m
          obtain ⟨i, rfl⟩ := kind0 (by rw [kx, z])
          cases c
          exact PySem.W.Looks.now
        · refine ⟨"str", by decide, by decide, fun f m => ?_⟩
          obtain ⟨x, c, kx⟩ := q3 f m
          obtain ⟨i, rfl⟩ := kind1 (by rw [kx, z])
          cases c
          exact PySem.W.Looks.now
      obtain ⟨T, t1, t2, t3⟩ := T
      refine PySem.W.kat_kind (s := { s with heap := h' }) (T := .type T) q1 (by rw [q2]; simp) t3 t1 ?_
      rw [t2]
      exact hq
    · obtain ⟨d, md, c1⟩ := hin _ m1
      obtain ⟨e, me, c2⟩ := hin _ m2
      obtain ⟨x, l, ed, kx⟩ := kind2 (hkk d md) j2
      obtain ⟨y, m, ee, ky⟩ := kind2 (hkk e me) j2
      exact tups_lt (s := { s with heap := h' }) (n := 30) ed ee (by rw [kx, ky]) (by rw [kx]; exact j2) (val md me c1 c2) (c1.keep kp) (c2.keep kp) (ht d md) (by omega) ⟨rfl, rfl⟩
/-- what the sort gives -/
theorem data_out {h : Heap} {ds r : List D} {vs out : List Value} (hc : chkR r = true) (c : CDs h ds vs) (hp : ds.Perm r) (hs : SrtO.Srtd (ltR h r) out) (hb : SrtO.Stb (ltR h r) out vs) : CDs h r out := by
  have pm := hb.perm.map (datOf h)
  rw [datOf_map c] at pm
  have e : out.map (datOf h) = r := by
    refine sort_uniq (f := fun x => idxD x r) (pm.trans hp) ?_ (chkR_nodup hc).2
    refine List.pairwise_map.mpr (hs.imp fun {x y} q => ?_)
    exact Nat.le_of_not_lt (of_decide_eq_false q)
  have all : ∀ v ∈ out, ∃ d, CD h d v := fun v m => let ⟨d, _, q⟩ := c.mem (hb.perm.mem_iff.mp m); ⟨d, q⟩
  rw [← e]
  clear pm hs hb e
  induction out with
  | nil => exact .nil
  | cons v out ih =>
    obtain ⟨d, q⟩ := all v (List.mem_cons_self ..)
    rw [List.map_cons, datOf_eq q]
    exact .cons q (ih fun u m => all u (List.mem_cons_of_mem _ m))
end
theorem srtU_ok {d r : List D} (h : srtU d = some r) : chkR r = true ∧ kindOk r = true ∧ (∀ x ∈ d, x ∈ r) ∧ ∀ x ∈ r, x ∈ d := by
  unfold srtU at h
  split at h
  · rename_i r' q
    cases h1 : chkR r' with
    | false => rw [h1] at h; cases h
    | true =>
      cases h2 : subD d r' with
      | false => rw [h1, h2] at h; cases h
      | true =>
        cases h3 : subD r' d with
        | false => rw [h1, h2, h3] at h; cases h
        | true =>
          cases h4 : kindOk r' with
          | false => rw [h1, h2, h3, h4] at h; cases h
          | true =>
            rw [h1, h2, h3, h4] at h
            cases h
            exact ⟨h1, h4, subD_mem h2, subD_mem h3⟩
  · cases h
theorem srtL_ok {d r : List D} (h : srtL d = some r) : chkR r = true ∧ kindOk r = true ∧ d.Perm r := by
  unfold srtL at h
  cases q : nodupD d with
  | false => rw [q] at h; cases h
  | true =>
    rw [q] at h
    obtain ⟨h1, h2, h3, h4⟩ := srtU_ok h
    exact ⟨h1, h2, (List.perm_ext_iff_of_nodup (nodupD_ok q) (chkR_nodup h1).1).mpr fun x => ⟨h3 x, h4 x⟩⟩
end Cs
/-! Z23: sorted(..) of tuples and dicts of ints. -/
namespace Cs
open PySem PySem.Spec PyProof.Rows L2 PySem.SeqAt Srt

section
variable {prog : Program} {w : World} {A : Around} {E : Value → Shared → Prop} {s : Shared}
/-- the items of a tuple, gathered -/
theorem gather_tup {t : Addr} {vs : List Value} {Q : List Value → Shared → Prop} (ht : s.heap.IsTuple t vs.toArray) (hz : vs.length ≤ sizeLine)
    (fin : ∀ h', (∀ b o, s.heap.get? b = some o → h'.get? b = some o) → s.heap.objs.size ≤ h'.objs.size → Q vs { s with heap := h' }) : wpAny (model prog w) A (collect (.ref t)) Q E s := by
  obtain ⟨o, ho, hc, n, hd⟩ := id ht
  unfold collect
  refine wpAny_bind (wpAny_runValue (codeAny_builtin entry_proto_collect' ?_))
  show wpAny _ _ (do again (.builtin "list.__iadd__" ⟨[← newList [], .ref t], []⟩)) _ _ s
  refine wpAny_bind (wpAny_newList (wpAny_pure ⟨Code.quiet_builtin _ (by decide +kernel), codeAny_builtin entry_list_iadd' ?_⟩))
  show wpAny _ _ (Builtin.List.listExtendWith (.ref s.heap.objs.size) (.ref t) (.ref s.heap.objs.size)) _ _ { s with heap := s.heap.push (seqObj "list" #[] 0) }
  unfold Builtin.List.listExtendWith
  have o1 : (s.heap.push (seqObj "list" #[] 0)).get? t = some o := Heap.get?_push_of_some _ ho
  have o2 : (s.heap.push (seqObj "list" #[] 0)).get? s.heap.objs.size = some (seqObj "list" #[] 0) := Heap.get?_push_size _ rfl
  refine wpAny_bind (wpAny_typeOf (T := "tuple") ⟨o, o1, hc⟩ ?_)
  have e1 : (Value.type "tuple" == Value.type "tuple") = true := by rfl
  rw [if_pos (by rw [e1]; simp)]
  refine wpAny_bind (listItems_at o1 hd (wpAny_bind (listItems_at (xs := #[]) (n := 0) o2 rfl ?_)))
  rw [if_neg (by simp)]
  have sz : ((#[] : Array Value) ++ vs.toArray).size ≤ sizeLine + 1 := by
    rw [Array.size_append, List.size_toArray]
    show 0 + vs.length ≤ sizeLine + 1
    omega
  refine wpAny_bind (listUpdate_at (xs := #[]) (n := 0) o2 rfl (wpAny_pure ?_) (Nat.zero_le _) sz)
  show wpAny (model prog w) A (do
      let o ← load s.heap.objs.size
      match o.data with
      | .seq xs _ => pure xs.toList
      | _ => unsupported "internal:collect") Q E { s with heap := (s.heap.push (seqObj "list" #[] 0)).update s.heap.objs.size (Obj.mapSeq (· ++ vs.toArray)) }
  refine wpAny_bind (wpAny_load (get?_update_seq o2 _) ?_)
  have e2 : ((#[] : Array Value) ++ vs.toArray).toList = vs := by simp
  show wpAny _ _ (pure ((#[] : Array Value) ++ vs.toArray).toList) Q E _
  rw [e2]
  refine wpAny_pure (fin _ (fun b ob q => ?_) ?_)
  · rw [Heap.get?_update_ne _ _ _ _ (Nat.ne_of_lt (Heap.lt_size q))]
    exact Heap.get?_push_of_some _ q
  · rw [Heap.size_update, size_push']
    exact Nat.le_succ _
/-- sorted(u), whatever gathers u -/
theorem sorted_data {u : Value} {r : List D} (G : List Value → Prop) {Q : Value → Shared → Prop} (hc : chkR r = true) (hk : kindOk r = true) (ht : ∀ x ∈ r, tall x 30 = true) (hl : r.length < 64) (hu : A.units + 64 < cLine)
    (hcol : ∀ (Q' : List Value → Shared → Prop), (∀ vs ds s1, (∀ b o, s.heap.get? b = some o → s1.heap.get? b = some o) → s.heap.objs.size ≤ s1.heap.objs.size → s1.gens = s.gens → s1.os = s.os → CDs s.heap ds vs → ds.Perm r → G vs → Q' vs s1) →
      wpAny (model prog w) A.in1 (collect u) Q' E s)
    (fin : ∀ s' p out c vs, (∀ b o, s.heap.get? b = some o → s'.heap.get? b = some o) → s'.gens = s.gens → s'.os = s.os → s.heap.objs.size ≤ p → s'.heap.get? p = some (seqObj "list" out c) → CDs s.heap r out.toList → out.toList.Perm vs → G vs → Q (.ref p) s') :
    wpAny (model prog w) A (call (.builtin "sorted") [u]) Q E s := by
  refine Calls.call_function_entry kind_sorted plain_sorted entry_sorted (args_sorted1 _) ?_
  unfold Builtin.«sorted»
  refine wpAny_bind (m := checkCount "sorted" 1 1 _) (wpAny_pure (wpAny_bind (hcol _ fun vs ds s1 k1 z1 g1 o1 c1 p1 gv => ?_)))
  have lv : vs.length < 64 := by rw [← c1.len, p1.length_eq]; exact hl
  refine wpAny_bind (wpAny_newList ?_ (by rw [sizeLine_eq]; omega))
  have at_ : (s1.heap.push (seqObj "list" vs.toArray 0)).get? s1.heap.objs.size = some (seqObj "list" vs.toArray 0) := Heap.get?_push_size _ rfl
  have kk : ∀ b o, s.heap.get? b = some o → (s1.heap.push (seqObj "list" vs.toArray 0)).get? b = some o := fun b o e => Heap.get?_push_of_some _ (k1 b o e)
  have c2 : CDs (s1.heap.push (seqObj "list" vs.toArray 0)) ds vs := c1.keep fun b o e _ => kk b o e
  have ain : AllIn (s1.heap.push (seqObj "list" vs.toArray 0)) r vs := fun v m => let ⟨d, m1, q⟩ := c2.mem m; ⟨d, p1.mem_iff.mp m1, q⟩
  show wpAny (model prog w) A.in1 _ _ _ { s1 with heap := s1.heap.push (seqObj "list" vs.toArray 0) }
  refine wpAny_bind (wpAny_holding (wpAny_call_entry slot_list_sort ⟨_, at_, rfl⟩ entry_list_sort (SrtO.list_sort_ord (ltR_swo (s1.heap.push (seqObj "list" vs.toArray 0)) r) at_ (by rw [sizeLine_eq]; omega) (fun h2 => ?_) fun out hs hb => ⟨_, rfl, ?_⟩) (args_list_sort _)))
  · refine data_sortable (s := { s1 with heap := s1.heap.push (seqObj "list" vs.toArray 0) }) h2 hc hk ht (by show A.in1.in1.units + 40 < cLine; have e1 : A.in1.in1.units = A.units + 2 := rfl; omega) ain fun o e => ?_
    rw [at_] at e
    cases e
    show Value.type "list" ≠ Value.type "tuple"
    decide
  · have q := data_out hc c2 p1 hs hb
    obtain ⟨c, hcc⟩ := sortedHeap_at (vs := vs) (out := out.toArray) at_
    refine wpAny_pure ⟨_, rfl, fin _ s1.heap.objs.size out.toArray c vs (fun b o e => ?_) g1 o1 z1 hcc ?_ (by simpa using hb.perm) gv⟩
    · have lt := Heap.lt_size (k1 b o e)
      show (sortedHeap (s1.heap.push (seqObj "list" vs.toArray 0)) s1.heap.objs.size vs out.toArray).get? b = some o
      rw [sortedHeap_old (Nat.ne_of_lt lt) (by rw [size_push']; exact Nat.lt_succ_of_lt lt)]
      exact kk b o e
    · have all : ∀ v ∈ out, ∃ d, CD s.heap d v := fun v m => let ⟨d, _, z⟩ := c1.mem (hb.perm.mem_iff.mp m); ⟨d, z⟩
      have back : ∀ {l : List D} {us : List Value}, CDs (s1.heap.push (seqObj "list" vs.toArray 0)) l us → (∀ v ∈ us, ∃ d, CD s.heap d v) → CDs s.heap l us := by
        intro l us
        induction us generalizing l with
        | nil => intro q _; cases q; exact .nil
        | cons v us ih =>
          intro q a
          cases q with | cons q1 q2 =>
          obtain ⟨d, z⟩ := a v (List.mem_cons_self ..)
          have e := (z.keep fun b o e _ => kk b o e).inj q1
          rw [← e]
          exact .cons z (ih q2 fun u m => a u (List.mem_cons_of_mem _ m))
      simpa using back q all
end
/-- from the machine's values back -/
theorem back_vals {K : PySem.W.Frag} {H : Hp} {h : Heap} : ∀ {r : List D} {out : List Value}, CDs h r out → (∀ v ∈ out, ∃ d x, RelV x v ∧ RD K H d x ∧ CD h d v) → ∃ xs, Vals xs out ∧ RDs K H r xs
  | _, _, .nil, _ => ⟨[], .nil, .nil⟩
  | _, _, .cons a r, q => by
    obtain ⟨xs, h1, h2⟩ := back_vals r fun v m => q v (List.mem_cons_of_mem _ m)
    obtain ⟨d, x, q1, q2, q3⟩ := q _ (List.mem_cons_self ..)
    rw [q3.inj a] at q2
    exact ⟨x :: xs, .cons q1 h1, .cons q2 h2⟩
theorem all_vals {X : Cx} {pins : List (Addr × Obj)} {σ : L2.St} {H : Hp} {s : Shared} (I : Inv X pins σ H s) : ∀ {l : List D} {xs : List V} {us : List Value}, RDs X.K H l xs → Vals xs us → ∀ v ∈ us, ∃ d x, RelV x v ∧ RD X.K H d x ∧ CD s.heap d v
  | _, _, _, .nil, .nil, v, m => by simp at m
  | _, _, _, .cons h r, .cons e t, v, m => by
    rcases List.mem_cons.mp m with z | m
    · rw [z]
      exact ⟨_, _, e, h, cd_of I h e⟩
    · exact all_vals I r t v m
/-- a new list behind a call that kept everything -/
theorem new_list {X : Cx} {pins : List (Addr × Obj)} {σ : L2.St} {H : Hp} {s s' : Shared} {p c : Nat} {out : Array Value} {xs : List V} {Q : VK} (I : Inv X pins σ H s) (k : ∀ b o, s.heap.get? b = some o → s'.heap.get? b = some o) (g : s'.gens = s.gens) (o : s'.os = s.os) (hp : s.heap.objs.size ≤ p)
    (hg : s'.heap.get? p = some (seqObj "list" out c)) (hv : Vals xs out.toList) (hz : xs.length ≤ sizeLine) (q : H p = none → Q (.ref p) (upd H p (.lst xs))) : EP X pins σ Q (.ref p) s' := by
  have hn : H p = none := I.hok.fresh hp
  have J : Inv X pins σ (upd H p (.lst xs)) { s with heap := s'.heap, gens := s'.gens, drawn := s'.drawn, toks := s'.toks } :=
    I.call (ch := []) (Un.laid k hp hn) (I.hok.laid k hp ⟨hz, out.toList, c, hv, hg⟩) (by rw [g]; exact I.bare) (fun _ z => nomatch z)
  obtain ⟨h1, g1, d1, t1, os1⟩ := s'
  obtain rfl : os1 = s.os := o
  exact ⟨.ref p, _, J, rfl, q hn⟩

/-! ### sorted(t), t a tuple of data -/
def rSrtT (K : PySem.W.Frag) : List V → Hp → VK → Prop := fun vs H Q => ∃ a xs ds r, vs = [.ref a] ∧ SqT K H a xs ∧ RDs K H ds xs ∧ ds.length < 64 ∧ (∀ x ∈ ds, tall x 30 = true) ∧ chkR r = true ∧ kindOk r = true ∧ ds.Perm r ∧ ∀ p ys, H p = none → RDs K H r ys → Q (.ref p) (upd H p (.lst ys))
theorem cr_srtT {X : Cx} (hu : X.A.units + 64 < cLine) : CallR X (.builtin "sorted") (rSrtT X.K) := by
  intro pins s σ H vs us Q I r0 q
  obtain ⟨a, xs, ds, r, rfl, ht, rd, hl, hta, hc, hk, hp, q⟩ := q
  rw [Vals.ref1 r0]
  obtain ⟨its, rv, pt, hz⟩ := I.tuple ht
  have cds := cds_of I rd rv
  have pt' : s.heap.IsTuple a its.toArray := pt
  refine sorted_data (u := .ref a) (fun vs => vs = its) hc hk (fun x m => hta x (hp.mem_iff.mpr m)) (by rw [← hp.length_eq]; exact hl) hu (fun Q' fin => ?_) fun s' p out c vs k g o z e cd pm _ => ?_
  · exact gather_tup pt' (by rw [← rv.length]; exact hz) fun h' k z => fin its ds { s with heap := h' } k z rfl rfl cds hp rfl
  · obtain ⟨ys, h1, h2⟩ := back_vals cd fun v m => all_vals I rd rv v (by rw [← ‹vs = its›]; exact pm.mem_iff.mp m)
    refine new_list I k g o z e h1 ?_ fun hn => q p ys hn h2
    have := h2.length
    have := hp.length_eq
    rw [sizeLine_eq]
    omega
theorem talls_mem : ∀ {l : List D} {n : Nat}, talls l n = true → ∀ x ∈ l, tall x n = true
  | [], _, _, x, m => by simp at m
  | d :: l, n, h, x, m => by
    unfold talls at h
    cases q : tall d n with
    | false => rw [q] at h; cases h
    | true =>
      rw [q] at h
      rcases List.mem_cons.mp m with e | m
      · rw [e]; exact q
      · exact talls_mem h x m
theorem brief_lt {α : Type} {l : List α} (h : brief l = true) : l.length < 64 := blt_lt h
/-! ### sorted(d), d a dict, its keys ints -/
theorem intKeys_rel {K : PySem.W.Frag} {ι : Nat → Addr} {m : Nat} {H : Hp} : ∀ {l : List (D × A)} {d : List D} {kvs : List (Key × V)}, intKeys l = some d → KR K ι m H l kvs → ∃ ks : List Int, d = ks.map .int ∧ kvs.map (·.1) = ks.map Sum.inl
  | [], d, _, e, .nil => by
    cases e
    exact ⟨[], rfl, rfl⟩
  | (k, a) :: l, d, (j, v) :: kvs, e, .cons h t => by
    unfold intKeys at e
    split at e
    · rename_i heq
      cases heq
    · rename_i i a' r heq
      cases heq
      split at e
      · rename_i d' q
        cases e
        obtain ⟨ks, e1, e2⟩ := intKeys_rel q t
        have e3 : some (Sum.inl i) = some j := h.1
        refine ⟨i :: ks, by rw [e1]; rfl, ?_⟩
        rw [List.map_cons, List.map_cons, e2, ← Option.some.inj e3]
      · cases e
    · cases e
theorem rds_ints {K : PySem.W.Frag} {H : Hp} : ∀ ns : List Int, RDs K H (ns.map .int) (ns.map V.int)
  | [] => .nil
  | i :: ns => .cons (.int i) (rds_ints ns)
theorem ints_sorted {r : List D} {ks ys : List Int} (hc : chkR r = true) (hp : (ks.map D.int).Perm r) (py : ys.Perm ks) (pw : ys.Pairwise (· ≤ ·)) : ys.map D.int = r := by
  have pr : (ys.map D.int).Perm r := (py.map D.int).trans hp
  refine sort_uniq (f := fun x => idxD x r) pr ?_ (chkR_nodup hc).2
  refine List.pairwise_map.mpr (List.Pairwise.imp_of_mem (fun {x y} mx my hxy => ?_) pw)
  have m1 : D.int x ∈ r := pr.mem_iff.mp (List.mem_map.mpr ⟨x, mx, rfl⟩)
  have m2 : D.int y ∈ r := pr.mem_iff.mp (List.mem_map.mpr ⟨y, my, rfl⟩)
  have e := chkR_lt hc _ m2 _ m1
  rw [ltD, decide_eq_false (by omega)] at e
  have e' := Option.some.inj e
  exact Nat.le_of_not_lt (of_decide_eq_false e'.symm)
def rSrt (K : PySem.W.Frag) : List V → Hp → VK → Prop := fun xs H Q => rSrtT K xs H Q ∨ ∃ (a : Addr) (kvs : List (Key × V)) (ks : List Int), xs = [.ref a] ∧ Rd H a (.dK kvs) ∧ kvs.map (·.1) = ks.map Sum.inl ∧ ks.length < 64 ∧
    ∀ (ys : List Int) (p : Addr), ys.Perm ks → ys.Pairwise (· ≤ ·) → H p = none → Q (.ref p) (upd H p (.lst (ys.map V.int)))
theorem e_srt {X : Cx} {c : Nat → Addr} {a : Expr} {av : Av} {p pos : Pos} (hu : X.A.units + 64 < cLine) (hcalm : X.calm = true) (hg : Gl X "sorted") (hm : X.mg "sorted" = none) (ha : EA X c [a] av) (he : starEach [a] X.env = (false, eval a X.env) :: starEach [] X.env := by rfl) (hpl : (backTo pos (starEach [] X.env)).any (·.1) = false := by rfl) :
    EE X c (.Call (.Name "sorted" p) [a] [] pos) (cArgs oSrt av) := PE.imp (pe_callB (r := rSrt X.K) (by
      intro pins s σ H xs us Q I r h
      rcases h with h | h
      · exact cr_srtT hu pins s σ H xs us Q I r h
      · exact call_sortedDI hcalm pins s σ H xs us Q I r h) hg hm boot_sorted ha (by decide) (by decide) he hpl) (args_t (r := rSrt X.K) (by
  intro ι S H x v z S' Q R r e k
  unfold oSrt at e
  split at e
  · rename_i d
    cases h1 : allInt d with
    | false => rw [h1] at e; cases e
    | true =>
      cases h2 : brief d with
      | false => rw [h1, h2] at e; cases e
      | true =>
        cases h3 : srtL d with
        | none => rw [h1, h2, h3] at e; cases e
        | some rr =>
          rw [h1, h2, h3] at e
          have e : S.new (.lst (rr.map .dat)) = some (z, S') := e
          obtain ⟨c1, c2, c3⟩ := srtL_ok h3
          cases r with | cons r1 r2 =>
          cases r2
          cases r1 with | dat rd =>
          cases rd with | tup g1 g2 g3 =>
          refine .inl ⟨_, _, d, rr, rfl, g1, g2, brief_lt h2, fun x m => ?_, c1, c2, c3, fun p ys hp hy => ?_⟩
          · refine tall_mono (talls_mem (n := 29) g3 x m) (by decide)
          · obtain ⟨ι', R1, x1, r1⟩ := R.new1 (ho := .lst ys) e hp fun ι' x' => ⟨ys, upd_same, RDs.as (RDs.mono x'.kp hy)⟩
            exact k ι' _ _ x1 R1 r1
  · rename_i n
    split at e
    · rename_i l q
      split at e
      · rename_i d hd
        cases h2 : brief d with
        | false => rw [h2] at e; cases e
        | true =>
          cases h3 : srtL d with
          | none => rw [h2, h3] at e; cases e
          | some rr =>
            rw [h2, h3] at e
            have e : S.new (.lst (rr.map .dat)) = some (z, S') := e
            obtain ⟨c1, c2, c3⟩ := srtL_ok h3
            cases r with | cons r1 r2 =>
            cases r2
            cases r1 with | obj hn =>
            obtain ⟨kvs, g1, g2⟩ := (R.ob n _ q).2
            obtain ⟨ks, e1, e2⟩ := intKeys_rel hd g2
            refine .inr ⟨_, kvs, ks, rfl, Rd.of g1, e2, ?_, fun ys p py pw hp => ?_⟩
            · have := brief_lt h2
              rw [e1, List.length_map] at this
              exact this
            · rw [e1] at c3
              have er := ints_sorted c1 c3 py pw
              subst er
              obtain ⟨ι', R1, x1, r1⟩ := R.new1 (ho := .lst (ys.map V.int)) e hp fun ι' x' => ⟨_, upd_same, RDs.as (rds_ints ys)⟩
              exact k ι' _ _ x1 R1 r1
      · cases e
    · cases e
  · cases e))
end Cs
/-! Z24: a generator expression's own frame; its code run from wish to wish. -/
namespace Cs
open PySem PySem.Spec PyProof.Rows L2 GenW

/-! ### the frame -/
abbrev gEnv (X : Cx) (scope : Scope) (C : Addr) (code : Value) : Env := genEnv scope (cloFrom X.env.cells scope.names []) C code builtinsNs X.env
def gCx (X : Cx) (A : Around) (s : Shared) (H : Hp) (scope : Scope) (C : Addr) (code : Value) : Cx :=
  { X with A := A.deeper (gEnv X scope C code), s_0 := s, H_0 := H, env := gEnv X scope C code, outer := X.stack, stack := gEnv X scope C code :: X.stack, ex := [], fn := fun _ => false, calm := true, pn := [], xe := fun _ _ => False }
/-- the generator's names -/
structure GnS (X : Cx) (scope : Scope) (own : List (Str × Nat)) : Prop where
  blk : BlkOk X.N X.env.scope scope own
  cell : ∀ y ∈ scope.names, y.2 ≠ .cell
  dot : scope.names.lookup (".0" : Str) = some NameKind.local
  co : scope.isCoroutine = false
  loc : ∀ p ∈ own, scope.names.lookup p.1 = some .local
def gnB (N : List Str) (scope : Scope) (own : List (Str × Nat)) : Bool :=
  (scope.names.all fun y => !decide (y.2 = .cell)) && decide (scope.names.lookup (".0" : Str) = some NameKind.local) && !scope.isCoroutine && own.all fun p => decide (scope.names.lookup p.1 = some .local)
theorem gnS_by {X : Cx} {scope : Scope} {own : List (Str × Nat)} (b : BlkOk X.N X.env.scope scope own) (h : gnB X.N scope own = true) : GnS X scope own := by
  unfold gnB at h
  simp only [Bool.and_eq_true, Bool.not_eq_true', decide_eq_true_eq, decide_eq_false_iff_not, List.all_eq_true] at h
  exact ⟨b, h.1.1.1, h.1.1.2, h.1.2, h.2⟩
section
variable {X : Cx} {pins : List (Addr × Obj)} {σ : L2.St} {H1 H5 : Hp} {s1 s5 : Shared} {A : Around} {scope : Scope} {own : List (Str × Nat)} {C it : Addr} {code : Value}
theorem GnS.has (S : GnS X scope own) (ok : X.Ok) : ∀ y ∈ scope.names, y.2 = .free → ∃ c, X.env.cells.lookup y.1 = some c := fun y hy e => by
  rcases S.blk.free y hy e with k | k
  · exact ok.has _ (.inl k)
  · exact ok.has _ (.inr k)
theorem GnS.cm (S : GnS X scope own) (ok : X.Ok) {y : Str} {c : Addr} (e : (cloFrom X.env.cells scope.names []).lookup y = some c) : X.env.cells.lookup y = some c := by
  rcases cloFrom_mem (PySem.mem_of_lookup e) with hm | ⟨h1, h2⟩
  · cases hm
  · obtain ⟨c1, hc⟩ := S.has ok _ h1 rfl
    have hc : X.env.cells.lookup y = some c1 := hc
    have e2 : c = c1 := by
      rw [h2, hc] <;> rfl
    rw [e2]
    exact hc
theorem gen_start (I : Inv X pins σ H1 s1) (S : GnS X scope own) (hN : X.N.Nodup) (hd : A.handled = none) (fr : A.frames = some X.stack) (os : s5.os = s1.os) (bare : AllBare s5.gens) (un : Un (frs X.stack) [] H1 H5 s1.heap s5.heap) (hok : HOk X.prog X.w H5 s5.heap)
    (hC : s1.heap.objs.size ≤ C) (hns : s5.heap.Ns C fun y => if y = ".0" then some (.ref it) else none) (nC : H5 C = none) :
    Inv (gCx X A s1 H1 scope C code) [] (wipe σ (own.map (·.2))) H5 s5 := by
  have cm := fun {y c} => S.cm (y := y) (c := c) I.ok
  have look : ∀ {y}, scope.names.lookup y = some .free → ∃ c, (cloFrom X.env.cells scope.names []).lookup y = some c := fun {y} hl => by
    have hy : (y, NameKind.free) ∈ scope.names := PySem.mem_of_lookup hl
    exact mem_lookup (cloFrom_has (cells := X.env.cells) (acc := []) hy)
  have cellK : ∀ {c : Addr} {v : Option Value}, H1 c = none → s1.heap.IsCell c v → s5.heap.IsCell c v := fun {c v} n ⟨o, ho, hd⟩ => by
    obtain ⟨sl, q⟩ := un.any ho n (by simp)
    exact ⟨_, q, hd⟩
  have noA : ∀ b : Addr, b ∉ (gCx X A s1 H1 scope C code).ex := fun b z => absurd (show b ∈ ([] : List Addr) from z) (by simp)
  refine ⟨⟨I.ok.mod, S.blk.kind, I.ok.glob, rfl, hC, fun y z c e1 e2 => I.ok.inj y z c (cm e1) (cm e2), fun y hy => ?_, fun y c z _ => ?_, fun _ => hd, Around.frames_deeper fr, .inr ⟨rfl, rfl⟩, fun b z => absurd z (noA b), I.bs, Nat.le_trans I.ok.bsz I.sz, fun b _ _ => noA b,
      fun b z => absurd z (noA b), I.stack, I.stkFree⟩,
    os, bare, un, ⟨_, hns, fun i y v e1 e2 e3 => ?_⟩, fun y c e => ?_, nC, fun y c e => ?_, fun q hq => absurd (show q ∈ ([] : List (Addr × Obj)) ++ [] from hq) (by simp), hok, ?_⟩
  · have hy : scope.names.lookup y = some .cell ∨ scope.names.lookup y = some .free := hy
    rcases hy with hy | hy
    · exact absurd rfl (S.cell _ (PySem.mem_of_lookup hy))
    · exact look hy
  · have z : false = true := z
    cases z
  · have e3 : Vis scope y := e3
    have e1 : X.N[i]? = some y := e1
    obtain ⟨e2', hi⟩ := wipe_some e2
    rcases e3 with k | k | k
    · rcases S.blk.own _ (PySem.mem_of_lookup k) (.inl rfl) with z | z
      · obtain ⟨p, hp, ep⟩ := List.mem_map.mp z
        have q := S.blk.ix p hp
        rw [ep] at q
        have : p.2 = i := nodup_ix hN q e1
        exact absurd (List.mem_map.mpr ⟨p, hp, this⟩) hi
      · exact absurd (List.mem_of_getElem? e1) z
    · exact absurd rfl (S.cell _ (PySem.mem_of_lookup k))
    · obtain ⟨m, hn, hl⟩ := I.loc
      have hvis : Vis X.env.scope y := (S.blk.free _ (PySem.mem_of_lookup k) rfl).elim (fun k => .inr (.inl k)) (fun k => .inr (.inr k))
      obtain ⟨w', r, q⟩ := hl i y v e1 e2' hvis
      obtain ⟨c2, h2⟩ := look k
      refine ⟨w', r, .inr ⟨.inr k, c2, h2, ?_⟩⟩
      have c1 := cm h2
      rcases q with ⟨k', _⟩ | ⟨_, c3, e', z⟩
      · have k' : X.env.scope.names.lookup y = some .local := k'
        rcases S.blk.free _ (PySem.mem_of_lookup k) rfl with k2 | k2 <;> rw [show X.env.scope.names.lookup y = _ from k2] at k' <;> cases k'
      · rw [c1] at e'
        cases e'
        exact cellK (I.freeC y _ c1) z
  · obtain ⟨w', z⟩ := I.cell y c (cm e)
    exact ⟨w', cellK (I.freeC y c (cm e)) z⟩
  · obtain ⟨v, o, ho, hd⟩ := I.cell y c (cm e)
    exact un.free c o ho (I.freeC y c (cm e)) (by simp)
  · show (wipe σ _).length = X.N.length
    rw [wipe_length]
    exact I.len
end
/-- the generators' table alone changes -/
theorem invGens {X : Cx} {pins : List (Addr × Obj)} {σ : L2.St} {H : Hp} {s : Shared} {g' : Array GenState} (I : Inv X pins σ H s) (h : AllBare g') : Inv X pins σ H { s with gens := g' } :=
  ⟨I.ok, I.os, h, I.base, I.loc, I.cell, I.free, I.freeC, I.pin, I.hok, I.len⟩

/-! ### the run -/
/-- while it sleeps its consumer changes its list at S alone -/
structure SlpG (S : Addr) (s s' : Shared) : Prop where
  os : s'.os = s.os
  bare : AllBare s'.gens
  keep : ∀ b o, b ≠ S → s.heap.get? b = some o → s'.heap.get? b = some o
/-- the data of one run: the consumer's list at S, the generator's object oa at a, its iterator at it over the tuple l -/
structure GD where
  Y : Cx
  c : Nat → Addr
  S : Addr
  a : Addr
  it : Addr
  l : Addr
  oa : Obj
  i : Nat
  x : Str
  ee : Ev
  σ0 : L2.St
  σa : Sl
  ι0 : Nat → Addr
  m0 : Nat
  H0 : Hp
  items : List D
  us : List V
  outs : List A
  Sf : Sto
  W : List V → Array Value → Prop
structure GDok (d : GD) : Prop where
  tup : SqT d.Y.K d.H0 d.l d.us
  rd : RDs d.Y.K d.H0 d.items d.us
  rl : RL d.Y.K d.ι0 d.m0 d.H0 (wipeA d.σa [d.i]) d.σ0
  nd : d.Y.N.Nodup
  ix : d.Y.N[d.i]? = some d.x
  loc : d.Y.env.scope.names.lookup d.x = some .local
  emp : ∀ v, d.σ0[d.i]? ≠ some (some v)
  pn : d.Y.pn = []
  cl : ∀ y c, d.Y.env.cells.lookup y = some c → c < d.Y.s_0.heap.objs.size
  sS : d.Y.s_0.heap.objs.size ≤ d.S
  sI : d.Y.s_0.heap.objs.size ≤ d.it
  Sa : d.S ≠ d.a
  Si : d.S ≠ d.it
  ai : d.a ≠ d.it
  xe : ∀ e s, d.Y.xe e s → False
  hd : d.Y.A.handled = none
  frm : d.Y.env.scope.kind = .function
  co : d.Y.env.scope.isCoroutine = false
  wx : ∀ ys acc y v, d.W ys acc → RelV y v → ∃ acc', d.W (ys ++ [y]) acc'
  pl : (d.Y.env.scope.kind == .class || (d.Y.env.scope.kind == .module && d.Y.env.locals != d.Y.env.globals)) = false
def itO (d : GD) (n : Nat) (o : Obj) : Prop := o.cls = .type "tuple_iterator" ∧ o.data = .fields #[.ref d.l, .int n 0]
def GAt (d : GD) (j : Nat) (ys : List V) (s : Shared) : Prop := ∃ ι Sc H dn rem acc cc oi, Ext d.ι0 d.m0 d.H0 ι Sc.m H ∧ RS (gX d.Y d.c) ι Sc H ∧ RAs d.Y.K ι Sc.m H dn ys ∧
  gnL (gNm d.i) d.ee d.σa [d.i] (d.items.drop j) Sc = some (rem, d.Sf) ∧ dn ++ rem = d.outs ∧ ys.length = j ∧ itO d j oi ∧ d.W ys acc ∧ Inv d.Y [(d.S, lstObj acc cc), (d.a, d.oa), (d.it, oi)] d.σ0 H s
/-- a value y, v, is handed out: the one at j -/
def GOut (d : GD) (j : Nat) (ys : List V) (y : V) (v : Value) (s : Shared) : Prop := ∃ ι Sc H dn b rem acc cc oi, Ext d.ι0 d.m0 d.H0 ι Sc.m H ∧ RS (gX d.Y d.c) ι Sc H ∧ RAs d.Y.K ι Sc.m H dn ys ∧ RA d.Y.K ι Sc.m H b y ∧ RelV y v ∧
  gnL (gNm d.i) d.ee d.σa [d.i] (d.items.drop (j + 1)) Sc = some (rem, d.Sf) ∧ dn ++ b :: rem = d.outs ∧ ys.length = j ∧ itO d (j + 1) oi ∧ d.W ys acc ∧ Inv d.Y [(d.S, lstObj acc cc), (d.a, d.oa), (d.it, oi)] d.σ0 H s
def GFin (d : GD) (s : Shared) : Prop := ∃ ι H ys acc cc, Ext d.ι0 d.m0 d.H0 ι d.Sf.m H ∧ RS (gX d.Y d.c) ι d.Sf H ∧ RAs d.Y.K ι d.Sf.m H d.outs ys ∧ ys.length = d.items.length ∧ d.W ys acc ∧ Inv d.Y [(d.S, lstObj acc cc), (d.a, d.oa)] d.σ0 H s
def GNext (d : GD) (ys : List V) (y : V) (s s' : Shared) : Prop := SlpG d.S s s' ∧ ∃ acc cc, s'.heap.get? d.S = some (lstObj acc cc) ∧ d.W (ys ++ [y]) acc
def GYp (d : GD) : Protocol := fun n s₀ v s kap => ∃ j ys y, n + j + 1 = d.items.length ∧ GOut d j ys y v s ∧ s.heap.get? d.S = s₀.heap.get? d.S ∧ ∀ s', GNext d ys y s s' → kap (.send .none) s'
def GRp (d : GD) : GenEnd := fun n s₀ r s => ((r = .ok (.ret .none) ∨ r = .ok .next) ∧ (n = 0 ∧ GFin d s ∧ s.heap.get? d.S = s₀.heap.get? d.S)) ∨ ∃ e, r = .error e ∧ (fun (_ : Value) (_ : Shared) => False) e s

section
variable {d : GD}
theorem GOut.wake (D : GDok d) {j : Nat} {ys : List V} {y : V} {v : Value} {s s' : Shared} (h : GOut d j ys y v s) (z : GNext d ys y s s') : GAt d (j + 1) (ys ++ [y]) s' := by
  obtain ⟨ι, Sc, H, dn, b, rem, acc, cc, oi, x, R, r1, r2, rv, e1, e2, el, io, w, I⟩ := h
  obtain ⟨⟨os, bare, keep⟩, acc', cc', eS, w'⟩ := z
  refine ⟨ι, Sc, H, dn ++ [b], rem, acc', cc', oi, x, R, Paired.append r1 (.cons r2 .nil), e1, by rw [List.append_assoc]; exact e2, by rw [List.length_append, el]; rfl, io, w', ?_⟩
  obtain ⟨hS, hS0, hSL, hSf, _⟩ := I.pin (d.S, lstObj acc cc) (List.mem_append_right _ List.mem_cons_self)
  have I0 : Inv d.Y [(d.a, d.oa), (d.it, oi)] d.σ0 H s := I.pins_of fun p hp => I.pin p (List.mem_append_right _ (List.mem_cons_of_mem _ hp))
  have nt : ∀ b u, H b = some u → b ≠ d.S := fun b u q hb => by rw [hb, hS0] at q; cases q
  obtain ⟨hh, g, dd, t, o⟩ := s'
  have ho : o = s.os := os
  subst ho
  have nc : ∀ b, b ∉ [d.S] → b ≠ d.S := fun b hb e => hb (by rw [e]; exact List.mem_singleton.mpr rfl)
  have J : Inv d.Y [(d.a, d.oa), (d.it, oi)] d.σ0 H { s with heap := hh, gens := g, drawn := dd, toks := t } := by
    refine I0.step (g' := g) (t' := t) (d' := dd) (ch := [d.S]) (fun b hb => ?_)
      (fun b ob _ _ hc q _ => keep b ob (nc b hc) q) (fun b ob _ _ hc q _ => ⟨ob.slots, keep b ob (nc b hc) q⟩) (fun _ _ _ _ n => n) (fun b ob hc q => ⟨ob, keep b ob (nc b hc) q⟩)
      (fun _ _ q => q) (fun _ _ _ q => q) (fun b ps q => ⟨#[], by rw [q]; simp⟩) (fun m hm => ?_) (fun b u q => ?_) bare
    · rw [List.mem_singleton.mp hb]
      refine ⟨.inr D.sS, hSL, fun y c e z => ?_, fun p hp => ?_⟩
      · have := D.cl y c e
        rw [z] at this
        exact Nat.lt_irrefl _ (Nat.lt_of_lt_of_le this D.sS)
      · rw [D.pn, List.nil_append] at hp
        rcases List.mem_cons.mp hp with hp | hp
        · rw [hp]; exact D.Sa.symm
        · rw [List.mem_singleton.mp hp]; exact D.Si.symm
    · obtain ⟨ob, es, ep, ho, r⟩ := hm
      exact ⟨ob, es, ep, keep _ ob (Ne.symm hSL) ho, r⟩
    · refine (I0.hok b u q).stay (fun c v hc y => keep c v ?_ y) (fun _ y => y) fun _ _ y => y
      rcases hc with y | y
      · rw [y]; exact nt b u q
      · exact nt c _ y
  refine J.pins_of fun p hp => ?_
  rcases List.mem_cons.mp hp with hp | hp
  · rw [hp]
    exact ⟨eS, hS0, hSL, hSf, fun v q => by cases q⟩
  · exact J.pin p (List.mem_append_right _ hp)
end
end Cs
/-! Z25: the loop of a generator expression. -/
namespace Cs
open PySem PySem.Spec PyProof.Rows L2 GenW

section
variable {d : GD} {A : Around} {elt iter : Expr} {px pos : Pos} {scope : Scope}
theorem drop_at {α : Type} {l : List α} {j : Nat} (h : j < l.length) : l.drop j = l[j] :: l.drop (j + 1) := List.drop_eq_getElem_cons h
theorem set_back {σ : L2.St} {i : Nat} {y : V} (h : ∀ v, σ[i]? ≠ some (some v)) : ∀ (j : Nat) (v : V), σ[j]? = some (some v) → (σ.set i (some y))[j]? = some (some v) := fun j v e => by
  by_cases z : j = i
  · rw [z] at e
    exact absurd e (h v)
  · rw [List.getElem?_set_ne (Ne.symm z)]
    exact e
/-- the iterator turns -/
theorem turnI (D : GDok d) {σ : L2.St} {H : Hp} {s : Shared} {o oi : Obj} {h' : Heap} (I : Inv d.Y [(d.S, o), (d.a, d.oa), (d.it, oi)] σ H s) (k : Heap.ExtBut d.it s.heap h') :
    Inv d.Y [(d.S, o), (d.a, d.oa)] σ H { s with heap := h' } := by
  obtain ⟨_, h2, h3, _, _⟩ := I.pin (d.it, oi) (List.mem_append_right _ (by simp))
  have I0 : Inv d.Y [(d.S, o), (d.a, d.oa)] σ H s := I.pins_of fun p hp => I.pin p (List.mem_append_right _ (by
    rcases List.mem_cons.mp hp with z | z
    · simp [z]
    · simp [List.mem_singleton.mp z]))
  refine I0.turned (t' := s.toks) (fun b ob hb q => k b ob hb q) h2 h3 (.inr D.sI) (fun y c e z => ?_) fun p hp => ?_
  · have := D.cl y c e
    rw [z] at this
    exact Nat.lt_irrefl _ (Nat.lt_of_lt_of_le this D.sI)
  · rw [D.pn, List.nil_append] at hp
    rcases List.mem_cons.mp hp with hp | hp
    · rw [hp]; exact D.Si
    · rw [List.mem_singleton.mp hp]; exact D.ai
theorem seg_gloop (D : GDok d) (hel : EE d.Y d.c elt d.ee) (hov : A.over (.compLoop (.GeneratorExp elt [⟨.Name d.x px, iter, [], 0⟩] scope pos) 0 (.ref d.it) .none d.Y.env) [] = d.Y.A) :
    ∀ (k j : Nat) (s₀ s : Shared) (ys : List V), d.items.length - j = k → j ≤ d.items.length → GAt d j ys s → s.heap.get? d.S = s₀.heap.get? d.S →
      Seg (model d.Y.prog d.Y.w) A (GRp d) (GYp d) k s₀ (.compLoop (.GeneratorExp elt [⟨.Name d.x px, iter, [], 0⟩] scope pos) 0 (.ref d.it) .none d.Y.env)
        ((model d.Y.prog d.Y.w).den (.compLoop (.GeneratorExp elt [⟨.Name d.x px, iter, [], 0⟩] scope pos) 0 (.ref d.it) .none d.Y.env)) [] s := by
  intro k
  induction k with
  | zero =>
    intro j s₀ s ys hk hj hat hs0
    obtain ⟨ι, Sc, H, dn, rem, acc, cc, oi, x, R, r1, e1, e2, el, ⟨io1, io2⟩, w, I⟩ := hat
    have hjn : j = d.items.length := by omega
    subst hjn
    show Seg _ A _ _ _ s₀ _ ((compTurn (.GeneratorExp elt [⟨.Name d.x px, iter, [], 0⟩] scope pos) 0 (.ref d.it) .none d.Y.env).onRaise (leaving d.Y.env)) [] s
    rw [compTurn_gen, Sem.onRaise_eq_wrap]
    refine seg_bind_wrap (wpAny_standAt ?_)
    refine seg_bind_wrap ?_
    rw [hov]
    obtain ⟨its, rv, ht, hsz⟩ := I.tuple (x.kp.sqT D.tup)
    obtain ⟨pi, _⟩ := I.pin (d.it, oi) (List.mem_append_right _ (by simp))
    have hlen : its.length = d.items.length := rv.length.symm.trans D.rd.length.symm
    refine next_tuple_end (it := d.it) (t := d.l) (i := d.items.length) D.hd ⟨oi, pi, io1, io2⟩ ht (by rw [List.getElem?_toArray]; exact List.getElem?_eq_none (by omega)) fun h' hx => ?_
    refine seg_end (.ok .next) (.inl ⟨.inr rfl, rfl, ?_⟩)
    rw [List.drop_length] at e1
    have q : (some (([] : List Cs.A), Sc) : Option (List Cs.A × Sto)) = some (rem, d.Sf) := e1
    injection q with q
    injection q with q1 q2
    subst q1
    rw [List.append_nil] at e2
    subst e2
    have IT := turnI D I hx
    obtain ⟨p1, _⟩ := I.pin (d.S, lstObj acc cc) (List.mem_append_right _ (by simp))
    obtain ⟨p2, _⟩ := IT.pin (d.S, lstObj acc cc) (List.mem_append_right _ (by simp))
    refine ⟨⟨ι, H, ys, acc, cc, ?_, ?_, ?_, el, w, IT⟩, (p2.trans p1.symm).trans hs0⟩
    · rw [← q2]; exact x
    · rw [← q2]; exact R
    · rw [← q2]; exact r1
  | succ k ih =>
    intro j s₀ s ys hk hj hat hs0
    obtain ⟨ι, Sc, H, dn, rem, acc, cc, oi, x, R, r1, e1, e2, el, ⟨io1, io2⟩, w, I⟩ := hat
    have hlt : j < d.items.length := by omega
    show Seg _ A _ _ _ s₀ _ ((compTurn (.GeneratorExp elt [⟨.Name d.x px, iter, [], 0⟩] scope pos) 0 (.ref d.it) .none d.Y.env).onRaise (leaving d.Y.env)) [] s
    rw [compTurn_gen, Sem.onRaise_eq_wrap]
    refine seg_bind_wrap (wpAny_standAt ?_)
    refine seg_bind_wrap ?_
    rw [hov]
    obtain ⟨its, rv, ht, hsz⟩ := I.tuple (x.kp.sqT D.tup)
    obtain ⟨pi, hit0, hitL, hitf, _⟩ := I.pin (d.it, oi) (List.mem_append_right _ (by simp))
    obtain ⟨uv, hu, rd⟩ := (D.rd.mono x.kp).get (List.getElem?_eq_getElem hlt)
    obtain ⟨v, hv, rvv⟩ := rv.get hu
    refine next_tuple_item (it := d.it) (t := d.l) (i := j) ⟨oi, pi, io1, io2⟩ ht (by rw [List.getElem?_toArray]; exact hv) fun h' hti hs => ?_
    obtain ⟨oi', pi', io1', io2'⟩ := hti
    have I1 := turnI D I hs.extBut
    have I2 : Inv d.Y [(d.S, lstObj acc cc), (d.a, d.oa), (d.it, oi')] d.σ0 H { s with heap := h' } := I1.pins_of fun p hp => by
      rcases List.mem_cons.mp hp with z | hp
      · exact I1.pin p (List.mem_append_right _ (by simp [z]))
      · rcases List.mem_cons.mp hp with z | hp
        · exact I1.pin p (List.mem_append_right _ (by simp [z]))
        · rw [List.mem_singleton.mp hp]
          exact ⟨pi', hit0, hitL, hitf, fun v q => by rw [io2'] at q; cases q⟩
    refine seg_bind_wrap (wpAny_of_eq (rfl : letOwnedTupleGo (.Name d.x px) (.ref d.it) v = pure ()) ?_)
    refine seg_bind_wrap (wpAny_assign_Name (store_ok2 (v := uv) I2 D.nd D.ix (.inl D.loc) rvv (fun s2 I3 _ => ?_) (.inr D.loc)))
    refine seg_bind_wrap (wpAny_mono (Q := fun ok s3 => ok = true ∧ s3 = s2) (by simp only [List.forIn_nil]; exact wpAny_pure ⟨rfl, rfl⟩) (fun ok s3 h3 => ?_) fun _ _ e => e)
    obtain ⟨rfl, rfl⟩ := h3
    simp only [if_true]
    have hy : ∀ v, yieldOut d.Y.env v = yieldValue v := fun v => by simp only [yieldOut, D.co, Bool.false_eq_true, if_false]
    simp only [hy]
    rw [Sem.bind_eq_wrap', Sem.bind_eq_wrap', Sem.wrap_wrap, Sem.wrap_wrap]
    refine seg_wrap ?_
    rw [hov]
    have hdr := drop_at hlt
    rw [hdr] at e1
    unfold gnL at e1
    have eg : gNm d.i (.dat d.items[j]) (wipeA d.σa [d.i]) = some ((wipeA d.σa [d.i]).set d.i (some (.dat d.items[j]))) := rfl
    rw [eg] at e1
    dsimp only at e1
    split at e1
    · rename_i b S1 q1
      split at e1
      · rename_i r S2 q2
        have q : (some (b :: r, S2) : Option (List Cs.A × Sto)) = some (rem, d.Sf) := e1
        injection q with q
        injection q with qa qb
        subst qa
        subst qb
        have rl : RL d.Y.K ι Sc.m H ((wipeA d.σa [d.i]).set d.i (some (.dat d.items[j]))) (d.σ0.set d.i (some uv)) := RL.set (.dat rd) d.i (RL.mono x D.rl)
        refine wpAny_mono (hel.run _ s3 _ H (fun v H' => ∃ ι', Ext ι Sc.m H ι' S1.m H' ∧ RS (gX d.Y d.c) ι' S1 H' ∧ RA d.Y.K ι' S1.m H' b v) I3
          ⟨ι, _, Sc, b, S1, rl, R, q1, fun ι' H' v x' R' r' => ⟨ι', x', R', r'⟩⟩) (fun y s4 h4 => ?_) fun e s4 h4 => (D.xe e s4 h4).elim
        obtain ⟨yv, H4, I4, rvy, ι4, x4, R4, r4⟩ := h4
        have I5 : Inv d.Y [(d.S, lstObj acc cc), (d.a, d.oa), (d.it, oi')] d.σ0 H4 s4 := I4.weak (by rw [List.length_set]) (fun i v e => set_back D.emp i v e)
        have go : GOut d j ys yv y s4 := ⟨ι4, S1, H4, dn, b, r, acc, cc, oi', x.trans x4, R4, RAs.mono x4 r1, r4, rvy, q2, e2, el, ⟨io1', io2'⟩, w, I5⟩
        obtain ⟨p1, _⟩ := I.pin (d.S, lstObj acc cc) (List.mem_append_right _ (by simp))
        obtain ⟨p2, _⟩ := I5.pin (d.S, lstObj acc cc) (List.mem_append_right _ (by simp))
        refine seg_at (seg_yield rfl rfl rfl ⟨j, ys, yv, by omega, go, (p2.trans p1.symm).trans hs0, fun s' hn => ?_⟩)
        exact seg_again rfl (ih (j + 1) s' s' _ (by omega) hlt (go.wake D hn) rfl)
      · cases e1
    · cases e1
end
end Cs
/-! Z26: asking a generator; sum and tuple of it. -/
namespace Cs
open PySem PySem.Spec PyProof.Rows L2 GenW

def Awk (d : GD) (A : Around) (g n : Nat) (s : Shared) : Prop := ∃ gs, s.gens[g]? = some gs ∧ gs.Goes (model d.Y.prog d.Y.w) A (GRp d) (GYp d) n (.send .none) (s.setGen g .running)
section
variable {d : GD} {A : Around} {E : Value → Shared → Prop} {s : Shared} {g : Nat}
theorem GOut.gens {j : Nat} {ys : List V} {y : V} {v : Value} {g' : Array GenState} (h : GOut d j ys y v s) (b : AllBare g') : GOut d j ys y v { s with gens := g' } := by
  obtain ⟨ι, Sc, H, dn, bb, rem, acc, cc, oi, x, R, r1, r2, rv, e1, e2, el, io, w, I⟩ := h
  exact ⟨ι, Sc, H, dn, bb, rem, acc, cc, oi, x, R, r1, r2, rv, e1, e2, el, io, w, invGens I b⟩
theorem GOut.bare {j : Nat} {ys : List V} {y : V} {v : Value} (h : GOut d j ys y v s) : AllBare s.gens := by
  obtain ⟨ι, Sc, H, dn, bb, rem, acc, cc, oi, x, R, r1, r2, rv, e1, e2, el, io, w, I⟩ := h
  exact I.bare
theorem GFin.later {g' : Array GenState} {h' : Heap} (h : GFin d s) (b : AllBare g') (k : ∀ b o, s.heap.get? b = some o → h'.get? b = some o) : GFin d { s with gens := g', heap := h' } := by
  obtain ⟨ι, H, ys, acc, cc, x, R, r1, el, w, I⟩ := h
  exact ⟨ι, H, ys, acc, cc, x, R, r1, el, w, invGens (Inv.kept (t' := s.toks) I k) b⟩
theorem GFin.bare (h : GFin d s) : AllBare s.gens := by
  obtain ⟨ι, H, ys, acc, cc, x, R, r1, el, w, I⟩ := h
  exact I.bare
theorem nextG (D : GDok d) {n : Nat} {Q : Option Value → Shared → Prop} (hh : A.handled = none) (hroom : A.depth < recursionLimit) (hg : s.heap.IsGen d.a g) (hl : s.heap.NoLimit) (aw : Awk d A.in1 g n s)
    (hY : ∀ m j ys y v s1, n = m + 1 → m + j + 1 = d.items.length → GOut d j ys y v s1 → s1.heap.get? d.S = s.heap.get? d.S → (∀ s2, s2.gens = s1.gens → GNext d ys y s1 s2 → Awk d A.in1 g m s2) → Q (some v) s1)
    (hS : ∃ o, s.heap.get? d.S = some o) (hP : n = 0 → ∀ s', GFin d s' → s'.heap.get? d.S = s.heap.get? d.S → Q none s') : wpAny (model d.Y.prog d.Y.w) A (pyNext (.ref d.a)) Q E s := by
  obtain ⟨gs, hgs, hgo⟩ := aw
  have hgl : g < s.gens.size := (Array.getElem?_eq_some_iff.mp hgs).1
  refine wpAny_gsz (n := g + 1) hgl (next_genG (F := fun n s₀ s1 => n = 0 ∧ GFin d s1 ∧ s1.heap.get? d.S = s₀.heap.get? d.S) (Er := fun _ _ => False) hh hl hroom hg hgs hgo (fun v s₁ gs' hb hv => ?_) (fun s₁ hp h' hk => ?_) fun e s₁ he => he.elim)
  · intro hsz
    obtain ⟨j, ys, y, hn, go, hs0, hk⟩ := hv
    have hsz1 : g < s₁.gens.size := by
      have q : (s₁.setGen g gs').gens.size = s₁.gens.size := setGen_size _ _ _
      have hsz' : g + 1 ≤ (s₁.setGen g gs').gens.size := hsz
      omega
    have bare1 := allBare_setGen (s := s₁) (g := g) go.bare hb
    cases n with
    | zero =>
      exfalso
      obtain ⟨ι, Sc, H, dn, bb, rem, acc, cc, oi, x, R, r1, r2, rv, e1, e2, el, io, w, I⟩ := id go
      obtain ⟨acc', w'⟩ := D.wx ys acc y v w rv
      obtain ⟨eS, _⟩ := I.pin (d.S, lstObj acc cc) (List.mem_append_right _ List.mem_cons_self)
      exact hk { s₁ with heap := s₁.heap.update d.S (Obj.mapSeq fun _ => acc') } ⟨⟨rfl, go.bare, fun b o hb e => (Heap.get?_update_other _ _ (Ne.symm hb)).trans e⟩, acc', _, Heap.get?_update_self _ eS rfl, w'⟩
    | succ m =>
      refine hY m j ys y v _ rfl (by have : m + 1 - 1 + j + 1 = d.items.length := hn; omega) (go.gens (g' := (s₁.setGen g gs').gens) bare1) hs0 fun s2 e2 z => ⟨gs', ?_, ?_⟩
      · rw [e2]
        exact setGen_at hsz1
      · refine hk _ ⟨⟨z.1.os, allBare_setGen z.1.bare rfl, z.1.keep⟩, z.2⟩
  · intro _
    refine hP hp.1 _ (hp.2.1.later (g' := (s₁.setGen g .finished).gens) (allBare_setGen hp.2.1.bare rfl) hk) ?_
    obtain ⟨o, eo⟩ := hS
    have e1 : s₁.heap.get? d.S = some o := hp.2.2.trans eo
    exact (hk _ _ e1).trans eo.symm
theorem GFin.obj (h : GFin d s) : ∃ ys acc cc, s.heap.get? d.S = some (lstObj acc cc) ∧ d.W ys acc ∧ ys.length = d.items.length := by
  obtain ⟨ι, H, ys, acc, cc, x, R, r1, el, w, I⟩ := h
  exact ⟨ys, acc, cc, (I.pin (d.S, lstObj acc cc) (List.mem_append_right _ List.mem_cons_self)).1, w, el⟩
theorem GOut.obj {j : Nat} {ys : List V} {y : V} {v : Value} (h : GOut d j ys y v s) : ∃ acc cc, s.heap.get? d.S = some (lstObj acc cc) ∧ d.W ys acc ∧ ys.length = j ∧ RelV y v ∧ (∃ ι m H b dn rem, RA d.Y.K ι m H b y ∧ dn ++ b :: rem = d.outs) ∧ s.heap.NoLimit ∧ s.heap.get? d.a = some d.oa := by
  obtain ⟨ι, Sc, H, dn, b, rem, acc, cc, oi, x, R, r1, r2, rv, e1, e2, el, io, w, I⟩ := h
  exact ⟨acc, cc, (I.pin (d.S, lstObj acc cc) (List.mem_append_right _ List.mem_cons_self)).1, w, el, rv, ⟨ι, _, H, b, dn, rem, r2, e2⟩, I.nolimit, (I.pin (d.a, d.oa) (List.mem_append_right _ (by simp))).1⟩

/-! ### sum -/
def vI : V → Int
  | .int i => i
  | _ => 0
def sumV (l : List V) : Int := (l.map vI).foldl (· + ·) 0
theorem sumV_snoc (l : List V) (y : V) : sumV (l ++ [y]) = sumV l + vI y := by
  unfold sumV
  rw [List.map_append, List.foldl_append]
  rfl
theorem sumA_ints : ∀ {l : List Cs.A} {i : Int}, sumA l = some i → ∀ b ∈ l, ∃ j, b = .dat (.int j)
  | [], _, _, b, h => by simp at h
  | .dat (.int j) :: l, i, e, b, h => by
    unfold sumA at e
    cases q : sumA l with
    | none => rw [q] at e; cases e
    | some z =>
      rcases List.mem_cons.mp h with z | z
      · exact ⟨j, z⟩
      · exact sumA_ints q b z
  | .dat .non :: _, _, e, _, _ => by cases e
  | .dat (.str _) :: _, _, e, _, _ => by cases e
  | .dat (.tup _) :: _, _, e, _, _ => by cases e
  | .bl _ :: _, _, e, _, _ => by cases e
  | .obj _ :: _, _, e, _, _ => by cases e
theorem foldl_add (l : List Int) (a : Int) : l.foldl (· + ·) a = a + l.foldl (· + ·) 0 := by
  induction l generalizing a with
  | nil => simp
  | cons x l ih =>
    rw [List.foldl_cons, List.foldl_cons, ih, ih (0 + x)]
    omega
theorem sumA_V {K : PySem.W.Frag} {ι : Nat → Addr} {m : Nat} {H : Hp} : ∀ {l : List Cs.A} {vs : List V} {i : Int}, RAs K ι m H l vs → sumA l = some i → sumV vs = i
  | _, _, i, .nil, e => by cases e; rfl
  | _, _, i, .cons (a := x) (b := v) (l₁ := l) (l₂ := vs) r t, e => by
    obtain ⟨j, rfl⟩ := sumA_ints e x List.mem_cons_self
    unfold sumA at e
    cases q : sumA l with
    | none => rw [q] at e; cases e
    | some z =>
      rw [q] at e
      cases e
      have h1 := sumA_V t q
      cases r with | dat h =>
      cases h
      unfold sumV at h1 ⊢
      rw [List.map_cons, List.foldl_cons, foldl_add, h1]
      show 0 + j + z = j + z
      omega
def WSum (ys : List V) (acc : Array Value) : Prop := ∃ t, acc = #[Value.int (sumV ys) t]
end
end Cs
/-! Z27: the loops of sum and of list. -/
namespace Cs
open PySem PySem.Spec PyProof.Rows L2 GenW

section
variable {d : GD} {A : Around} {R : Result → Shared → Prop} {g : Nat}
theorem sum_loopG (D : GDok d) (hW : d.W = WSum) (hint : ∀ b ∈ d.outs, ∃ j, b = .dat (.int j)) (hh : A.handled = none) (hroom : A.depth < recursionLimit) (hgen : ∀ h : Heap, h.get? d.a = some d.oa → h.IsGen d.a g)
    (hR : ∀ s' ys t, GFin d s' → RelV (.int (sumV ys)) (.int (sumV ys) t) → (∃ cc, s'.heap.get? d.S = some (lstObj #[.int (sumV ys) t] cc)) → R (.ok (.ret (.int (sumV ys) t))) s') :
    ∀ (n : Nat) (s : Shared) (ys : List V) (tA : Tok) (c : Nat) (st : Int), (st = 0 ∨ st = 2) → s.heap.get? d.S = some (lstObj #[.int (sumV ys) tA] c) → s.heap.get? d.a = some d.oa → s.heap.NoLimit → Awk d A.in1.in1 g n s →
    codeAny (model d.Y.prog d.Y.w) A (.builtin "sum.loop" ⟨[.ref d.a, .ref d.S, rawInt st, rawInt 0], []⟩) R s := by
  intro n
  induction n with
  | zero =>
    intro s ys tA c st hst hS ha hl aw
    refine codeAny_builtin F.entry_sum_loop ?_
    rw [Around.under_plainId F.plain_sum_loop _]
    show wpAny _ A.in1 (seqItems? (.ref d.S) >>= _) _ _ s
    refine wpAny_bind (wpAny_seqItems hS rfl ?_)
    show wpAny _ A.in1 (tryCatch (pyNext (.ref d.a)) _ >>= _) _ _ s
    refine wpAny_bind (wpAny_tryCatch (nextG D (A := A.in1) hh hroom (hgen _ ha) hl aw (fun m _ _ _ _ _ e => by cases e) ⟨_, hS⟩ fun _ s' gf e => ?_))
    exact wpAny_pure (hR s' ys tA gf ⟨tA, rfl⟩ ⟨c, e.trans hS⟩)
  | succ n ih =>
    intro s ys tA c st hst hS ha hl aw
    refine codeAny_builtin F.entry_sum_loop ?_
    rw [Around.under_plainId F.plain_sum_loop _]
    show wpAny _ A.in1 (seqItems? (.ref d.S) >>= _) _ _ s
    refine wpAny_bind (wpAny_seqItems hS rfl ?_)
    show wpAny _ A.in1 (tryCatch (pyNext (.ref d.a)) _ >>= _) _ _ s
    refine wpAny_bind (wpAny_tryCatch (nextG D (A := A.in1) hh hroom (hgen _ ha) hl aw (fun m j ys1 y v s1 em _ go e1 wk => ?_) ⟨_, hS⟩ fun z => by cases z))
    have em' : m = n := by omega
    subst em'
    obtain ⟨acc, cc, eo, w, _, rv, ⟨ι, mm, H, b, dn, rem, rb, eb⟩, lim, hga⟩ := go.obj
    have bare1 := go.bare
    have hS' : s1.heap.get? d.S = some (lstObj #[.int (sumV ys) tA] c) := e1.trans hS
    rw [hW] at w
    obtain ⟨t1, w⟩ := w
    obtain ⟨jj, rfl⟩ := hint b (by rw [← eb]; simp)
    cases rb with | dat rb =>
    cases rb
    obtain ⟨t, rfl⟩ := rv
    have es : sumV ys = sumV ys1 := by
      rw [hS'] at eo
      injection eo with eo
      have e2 : (Data.seq #[Value.int (sumV ys) tA] c) = Data.seq acc cc := congrArg Obj.data eo
      injection e2 with e2 e3
      rw [w] at e2
      have e4 := congrArg (fun a => a[0]?) e2
      simp at e4
      exact e4.1
    have eq1 : sumV (ys1 ++ [V.int jj]) = sumV ys + jj := by rw [sumV_snoc, es]; rfl
    have nx : ∀ (h' : Heap) (t2 : Tok) (c2 : Nat) (tk : Nat), (∀ b o, b ≠ d.S → s1.heap.get? b = some o → h'.get? b = some o) → h'.get? d.S = some (lstObj #[.int (sumV ys + jj) t2] c2) → ∀ st', (st' = 0 ∨ st' = 2) →
        codeAny (model d.Y.prog d.Y.w) A (.builtin "sum.loop" ⟨[.ref d.a, .ref d.S, rawInt st', rawInt 0], []⟩) R { s1 with heap := h', toks := tk } := fun h' t2 c2 tk keep hS2 st' hst' => by
      refine ih { s1 with heap := h', toks := tk } (ys1 ++ [.int jj]) t2 c2 st' hst' (by rw [eq1]; exact hS2) (keep _ _ (Ne.symm D.Sa) hga) ?_ (wk _ rfl ⟨⟨rfl, bare1, keep⟩, _, c2, hS2, by rw [hW]; exact ⟨t2, by rw [eq1]⟩⟩)
      obtain ⟨mc, hns, hnn⟩ := lim
      refine ⟨mc, hns.at' fun o e => keep _ o ?_ e, hnn⟩
      intro z
      obtain ⟨o9, es9, ep9, ho9, hd9, _⟩ := hns
      rw [z, hS'] at ho9
      cases ho9
      cases hd9
    rcases hst with rfl | rfl
    · show wpAny _ A.in1 (if (_ : Bool) = true then (mkInt (sumV ys + jj) >>= _) else _) _ _ _
      split
      · refine wpAny_bind (wpAny_mkInt ?_)
        show wpAny _ A.in1 (updateSeq d.S (fun _ => #[.int (sumV ys + jj) s1.toks]) >>= _) _ _ _
        refine wpAny_bind ?_
        refine wpAny_updateSeq hS' rfl (wpAny_pure ⟨plainId_quiet F.plain_sum_loop _, ?_⟩)
        exact nx _ s1.toks _ _ (fun b o hb e => (Heap.get?_update_other _ _ (Ne.symm hb)).trans e) (Heap.get?_update_self _ hS' rfl) 0 (.inl rfl)
      · refine wpAny_bind (wpAny_rule ?_)
        refine wpAny_bind (wpAny_attempt (wpAny_holding (wpAny_add_int ?_)))
        show wpAny _ A.in1 (updateSeq d.S (fun _ => #[.int (sumV ys + jj) s1.toks]) >>= _) _ _ _
        refine wpAny_bind (wpAny_updateSeq hS' rfl ?_)
        have hS₂ := Heap.get?_update_self (Obj.mapSeq fun _ => #[Value.int (sumV ys + jj) s1.toks]) hS' rfl
        refine wpAny_bind (wpAny_letGo ?_)
        refine wpAny_bind (wpAny_updateSeq hS₂ rfl (wpAny_pure ⟨plainId_quiet F.plain_sum_loop _, ?_⟩))
        exact nx _ s1.toks _ _ (fun b o hb e => (Heap.get?_update_other _ _ (Ne.symm hb)).trans ((Heap.get?_update_other _ _ (Ne.symm hb)).trans e)) (Heap.get?_update_self _ hS₂ rfl) 2 (.inr rfl)
    · show wpAny _ A.in1 ((holding [Value.int jj t] (binaryOp .Add (.int (sumV ys) tA) (.int jj t))).attempt >>= _) _ _ _
      refine wpAny_bind (wpAny_attempt (wpAny_holding (wpAny_add_int ?_)))
      show wpAny _ A.in1 (updateSeq d.S (fun _ => #[.int (sumV ys + jj) s1.toks]) >>= _) _ _ _
      refine wpAny_bind (wpAny_updateSeq hS' rfl ?_)
      have hS₂ := Heap.get?_update_self (Obj.mapSeq fun _ => #[Value.int (sumV ys + jj) s1.toks]) hS' rfl
      refine wpAny_bind (wpAny_letGo ?_)
      refine wpAny_bind (wpAny_updateSeq hS₂ rfl (wpAny_pure ⟨plainId_quiet F.plain_sum_loop _, ?_⟩))
      exact nx _ s1.toks _ _ (fun b o hb e => (Heap.get?_update_other _ _ (Ne.symm hb)).trans ((Heap.get?_update_other _ _ (Ne.symm hb)).trans e)) (Heap.get?_update_self _ hS₂ rfl) 2 (.inr rfl)
/-- what the list holds -/
def WLst (ys : List V) (acc : Array Value) : Prop := Vals ys acc.toList
theorem lst_loopG (D : GDok d) (hW : d.W = WLst) (hL : d.items.length < sizeLine) (res : Value) (hh : A.handled = none) (hroom : A.depth < recursionLimit) (hgen : ∀ h : Heap, h.get? d.a = some d.oa → h.IsGen d.a g)
    (hR : ∀ s', GFin d s' → R (.ok (.ret res)) s') :
    ∀ (n : Nat) (s : Shared) (acc : Array Value) (c : Nat), s.heap.get? d.S = some (lstObj acc c) → s.heap.get? d.a = some d.oa → s.heap.NoLimit → Awk d A.in1.in1 g n s →
    codeAny (model d.Y.prog d.Y.w) A (.builtin "list.extend.loop" ⟨[.ref d.S, .ref d.a, res], []⟩) R s := by
  intro n
  induction n with
  | zero =>
    intro s acc c hS ha hl aw
    refine codeAny_builtin F.entry_extend_loop ?_
    rw [Around.under_plainId F.plain_extend_loop _]
    show wpAny _ A.in1 (pyNext (.ref d.a) >>= _) _ _ s
    refine wpAny_bind (nextG D (A := A.in1) hh hroom (hgen _ ha) hl aw (fun m _ _ _ _ _ e => by cases e) ⟨_, hS⟩ fun _ s' gf e => ?_)
    exact wpAny_pure (hR s' gf)
  | succ n ih =>
    intro s acc c hS ha hl aw
    refine codeAny_builtin F.entry_extend_loop ?_
    rw [Around.under_plainId F.plain_extend_loop _]
    show wpAny _ A.in1 (pyNext (.ref d.a) >>= _) _ _ s
    refine wpAny_bind (nextG D (A := A.in1) hh hroom (hgen _ ha) hl aw (fun m j ys1 y v s1 em en go e1 wk => ?_) ⟨_, hS⟩ fun z => by cases z)
    have em' : m = n := by omega
    subst em'
    obtain ⟨acc1, cc, eo, w, ej, rv, _, lim, hga⟩ := go.obj
    have bare1 := go.bare
    rw [hW] at w
    have hsz : acc1.size = j := by
      have q : ys1.length = acc1.toList.length := Vals.length w
      have q2 : acc1.toList.length = acc1.size := Array.length_toList
      omega
    show wpAny _ A.in1 (updateSeq d.S (·.push v) >>= _) _ _ _
    refine wpAny_bind ?_
    refine wpAny_updateSeq eo rfl (wpAny_pure ⟨plainId_quiet F.plain_extend_loop _, ?_⟩) (by omega) (by show (acc1.push v).size ≤ sizeLine + 1; rw [Array.size_push]; omega)
    have keep : ∀ b o, b ≠ d.S → s1.heap.get? b = some o → (s1.heap.update d.S (Obj.mapSeq (·.push v))).get? b = some o := fun b o hb e => (Heap.get?_update_other _ _ (Ne.symm hb)).trans e
    have hS2 := Heap.get?_update_self (Obj.mapSeq (·.push v)) eo rfl
    refine ih { s1 with heap := s1.heap.update d.S (Obj.mapSeq (·.push v)) } _ _ hS2 (keep _ _ (Ne.symm D.Sa) hga) ?_ (wk _ rfl ⟨⟨rfl, bare1, keep⟩, _, _, hS2, ?_⟩)
    · obtain ⟨mc, hns, hnn⟩ := lim
      refine ⟨mc, hns.at' fun o e => keep _ o ?_ e, hnn⟩
      intro z
      obtain ⟨o9, es9, ep9, ho9, hd9, _⟩ := hns
      rw [z, eo] at ho9
      cases ho9
      cases hd9
    · rw [hW]
      show Vals (ys1 ++ [y]) (acc1.push v).toList
      rw [Array.toList_push]
      exact Vals.append w (.cons rv .nil)
end
end Cs
/-! Z28: a generator expression is made. -/
namespace Cs
open PySem PySem.Spec PyProof.Rows L2 GenW

theorem over_gl {A : Around} {elt : Expr} {gs : List Comprehension} {sc : Scope} {p : Pos} {u v : Value} {env : Env} : A.over (.compLoop (.GeneratorExp elt gs sc p) 0 u v env) [] = A.deeper env := by
  first
    | rfl
    | (obtain ⟨hd, d, fr, gs, u⟩ := A; simp [Around.over, Around.deeper, marksOver, frameCount, unitsOf, envsOf, guardsOf, pushEnvs, pushGuards, Code.envs, Code.env?, Code.isFrame, Code.guards, Code.isGuard, Code.weight, Code.frames, Code.isCreation, Code.isCaller, Code.cUnits])
theorem over_gs {A : Around} {elt : Expr} {gs : List Comprehension} {sc : Scope} {p : Pos} {u v : Value} {env : Env} : A.over (.compStart (.GeneratorExp elt gs sc p) 0 u v env) [] = A.deeper env := by
  first
    | rfl
    | (obtain ⟨hd, d, fr, gs, u⟩ := A; simp [Around.over, Around.deeper, marksOver, frameCount, unitsOf, envsOf, guardsOf, pushEnvs, pushGuards, Code.envs, Code.env?, Code.isFrame, Code.guards, Code.isGuard, Code.weight, Code.frames, Code.isCreation, Code.isCaller, Code.cUnits])
section
variable {d : GD} {A : Around} {elt iter : Expr} {px pos : Pos} {scope : Scope}
theorem seg_gstart (D : GDok d) (hel : EE d.Y d.c elt d.ee) (hov : A.deeper d.Y.env = d.Y.A) {s₀ s : Shared} {ys : List V} (h : GAt d 0 ys s) (hs0 : s.heap.get? d.S = s₀.heap.get? d.S) :
    Seg (model d.Y.prog d.Y.w) A (GRp d) (GYp d) d.items.length s₀ (.compStart (.GeneratorExp elt [⟨.Name d.x px, iter, [], 0⟩] scope pos) 0 (.ref d.it) .none d.Y.env)
      ((model d.Y.prog d.Y.w).den (.compStart (.GeneratorExp elt [⟨.Name d.x px, iter, [], 0⟩] scope pos) 0 (.ref d.it) .none d.Y.env)) [] s := by
  have loop := seg_gloop (iter := iter) (px := px) (pos := pos) (scope := scope) (A := A) D hel (over_gl.trans hov) d.items.length 0 s₀ s ys (Nat.sub_zero _) (Nat.zero_le _) h hs0
  have ov := (over_gs (A := A) (elt := elt) (gs := [⟨.Name d.x px, iter, [], 0⟩]) (sc := scope) (p := pos) (u := .ref d.it) (v := .none) (env := d.Y.env)).trans hov
  obtain ⟨ι, Sc, H, dn, rem, acc, cc, oi, x, R, r1, e1, e2, el, ⟨io1, io2⟩, w, I⟩ := h
  obtain ⟨pi, _⟩ := I.pin (d.it, oi) (List.mem_append_right _ (by simp))
  have hti : s.heap.IsTupleIter d.it d.l 0 := ⟨oi, pi, io1, io2⟩
  show Seg _ A _ _ _ s₀ _ ((compStart (.GeneratorExp elt [⟨.Name d.x px, iter, [], 0⟩] scope pos) 0 (.ref d.it) .none d.Y.env).onRaise (leaving d.Y.env)) [] s
  unfold compStart
  rw [Sem.onRaise_eq_wrap]
  show Seg _ A _ _ _ s₀ _ ((ask >>= _).wrap _ _ _ _) [] s
  refine seg_bind_wrap (wpAny_askSetting ?_)
  split
  · exact seg_again rfl loop
  · refine seg_bind_wrap (wpAny_rule ?_)
    show Seg _ A _ _ _ s₀ _ ((standAt iter.pos >>= _).wrap _ _ _ _) [] s
    exact seg_bind_wrap (wpAny_standAt (seg_bind_wrap (wpAny_pyIter_tupleiter hti (seg_again rfl loop))))
end

section
variable {X : Cx} {pins : List (Addr × Obj)} {σ : L2.St} {H : Hp} {s : Shared}
theorem nofrS (I : Inv X pins σ H s) {f : Addr} (h : s.heap.objs.size ≤ f) : f ∉ frs X.stack := fun z => by
  rcases List.mem_cons.mp (I.stkSub _ z) with e | e
  · have h1 := I.lt
    rw [← e] at h1
    exact Nat.lt_irrefl _ (Nat.lt_of_lt_of_le h1 h)
  · exact I.nofs h e
/-- a generator over the tuple lp stands at a, it has not begun, in the state s5 -/
structure GMk (X : Cx) (c : Nat → Addr) (pins : List (Addr × Obj)) (σ : L2.St) (scope : Scope) (elt : Expr) (gs : List Comprehension) (gpos : Pos) (l : List D) (ι1 : Nat → Addr) (S1 : Sto) (H1 : Hp) (s1 s5 : Shared) (H5 : Hp) (a g it C lp : Addr) (cd : Value) (us : List V) (oa : Obj) : Prop where
  I : Inv X pins σ H1 s1
  R : RS (gX X c) ι1 S1 H1
  tup : SqT X.K H1 lp us
  rd : RDs X.K H1 l us
  gen : s5.gens[g]? = some (.fresh (.compStart (.GeneratorExp elt gs scope gpos) 0 (.ref it) .none (gEnv X scope C cd)))
  obj : s5.heap.get? a = some oa
  isg : ∀ h : Heap, h.get? a = some oa → h.IsGen a g
  nc : ∀ v, oa.data ≠ .cell v
  os : s5.os = s1.os
  bare : AllBare s5.gens
  un : Un (frs X.stack) [] H1 H5 s1.heap s5.heap
  hok : HOk X.prog X.w H5 s5.heap
  kp : Kp H1 H5
  eq : ∀ n, n < S1.m → H5 (ι1 n) = H1 (ι1 n)
  tk : LamX.TabS H5 (c 5) lamQ
  ns : s5.heap.Ns C fun y => if y = ".0" then some (.ref it) else none
  lim : s5.heap.NoLimit
  ito : s5.heap.get? it = some { cls := .type "tuple_iterator", data := .fields #[.ref lp, .int 0 0] }
  cS : s1.heap.objs.size ≤ C
  iS : s1.heap.objs.size ≤ it
  aS : s1.heap.objs.size ≤ a
  nw : ∀ b, s1.heap.objs.size ≤ b → H5 b = none
  ic : it ≠ C
  ac : a ≠ C
  ai : a ≠ it
  alt : a < s5.heap.objs.size
theorem gen_mk {c : Nat → Addr} {cc P : Addr} {elt iter tg : Expr} {scope : Scope} {gpos : Pos} {own : List (Str × Nat)} {ie : Ev} {k jP : Nat} {Q' : Value → Shared → Prop} {ι : Nat → Addr} {σa : Sl} {Sc S1 : Sto} {l : List D} (hr : Room k X.A) (TB : GxR.TabB X.base X.mg cc P) (hcode : X.env.code = .ref cc)
    (hP : c (3 + jP) = P) (hj : jP < 3) (hne : c (3 + jP) ≠ c 5) (G : GnS X scope own) (hi : EE X c iter ie) (hs : ∀ v, genFold iter X.env v = pure v) (I : Inv X pins σ H s) (hL : RL X.K ι Sc.m H σa σ) (R : RS (gX X c) ι Sc H) (q : ie σa Sc = some (.dat (.tup l), S1))
    (hQ : ∀ ι1 H1 s1 s5 H5 a g it C lp cd us oa, Ext ι Sc.m H ι1 S1.m H1 → GMk X c pins σ scope elt [⟨tg, iter, [], 0⟩] gpos l ι1 S1 H1 s1 s5 H5 a g it C lp cd us oa → Q' (.ref a) s5) :
    wpAny (model X.prog X.w) X.A (eval (.GeneratorExp elt [⟨tg, iter, [], 0⟩] scope gpos) X.env) Q' X.xe s := by
  refine wpAny_GeneratorExp_make G.co (closure_ok (G.has I.ok)) G.cell G.dot G.blk.kind (by have := hr.dp; omega) ?_ hs
  refine thn (hi.run pins s σ H (fun v H1 => ∃ ι1, Ext ι Sc.m H ι1 S1.m H1 ∧ RS (gX X c) ι1 S1 H1 ∧ RA X.K ι1 S1.m H1 (.dat (.tup l)) v) I ⟨ι, σa, Sc, _, S1, hL, R, q, fun ι1 H1 v x R r => ⟨ι1, x, R, r⟩⟩) fun xv s1 ⟨v, H1, I1, r1, ι1, x1, R1, ra⟩ => ?_
  cases ra with | dat rd =>
  cases rd with | tup ht rds tl =>
  rename_i lp us
  obtain rfl : xv = Value.ref lp := r1
  obtain ⟨its, rv, hit, hsz⟩ := I1.tuple ht
  refine iter_tuple hit ?_
  generalize ho : ({ cls := .type "tuple_iterator", data := .fields #[.ref lp, .int 0 0] } : Obj) = o
  obtain ⟨ps, hPs', htr⟩ : GxR.TabG H1 P := by rw [← hP]; exact R1.tb jP hj
  have hPs : s1.heap.get? P = some { cls := .none, data := .fields ps } := I1.hok P _ hPs'
  have hPlt : P < s1.heap.objs.size := Heap.lt_size hPs
  have hP2 : (s1.heap.push o).get? P = some { cls := .none, data := .fields ps } := Heap.get?_push_of_some _ hPs
  have cd : PySem.W.CodeHd (s1.heap.push o) cc P := TB.code.keeps fun b u e => Heap.get?_push_of_some _ (I1.bk b u e)
  have lim2 : (s1.heap.push o).NoLimit := I1.nolimit.push o
  have cont : ∀ (code : Value) (h3 : Heap) (tk : Nat) (ps' : Array Value), Heap.ExtBut P (s1.heap.push o) h3 → (s1.heap.push o).objs.size ≤ h3.objs.size → h3.get? P = some { cls := .none, data := .fields ps' } → (∃ more, ps' = ps ++ more) → TriplesOk ps'.toList →
      wpAny (model X.prog X.w) X.A (builtinsFor X.env.globals X.env.builtins) (fun bi s₄ =>
        ∀ h', h'.Ns s₄.heap.objs.size (fun y => if y = ".0" then some (.ref s1.heap.objs.size) else none) → Heap.SameBut s₄.heap.objs.size (s₄.heap.push { cls := .type "frame", data := .dict #[] }) h' →
          Q' (.ref h'.objs.size) { s₄ with
            gens := s₄.gens.push (.fresh (.compStart (.GeneratorExp elt [⟨tg, iter, [], 0⟩] scope gpos) 0 (.ref s1.heap.objs.size) .none (genEnv scope (cloFrom X.env.cells scope.names []) s₄.heap.objs.size code bi X.env))),
            toks := s₄.toks + 1 + 1 + 1,
            heap := h'.push { cls := .type "generator", data := .fields #[.int s₄.gens.size 0, .str "<genexpr>" (s₄.toks + 1), .str (X.env.qual ++ "<genexpr>") (s₄.toks + 1 + 1)] } }) X.xe { s1 with heap := h3, toks := tk } := by
    intro code h3 tk ps' hx hsz hP3 hmore ht3
    obtain ⟨bm, ob, e1, e2, e3, e4, e5, e6, e7, e8⟩ := TB.bm
    have sz2 : (s1.heap.push o).objs.size = s1.heap.objs.size + 1 := Heap.size_push ..
    have keep3 : ∀ b u, b ≠ P → s1.heap.get? b = some u → h3.get? b = some u := fun b u hb e => hx b u hb (Heap.get?_push_of_some _ e)
    refine wpAny_builtinsFor (m := X.mg) (by rw [I1.ok.glob]; exact ((I1.mod.glob.keeps I1.bk).push o).extBut hx TB.gP) e1 e2 (keep3 _ _ e4 (I1.bk _ _ e5)) e6 e7 e8 ?_
    intro h' hn' hs'
    have hn' : h'.Ns h3.objs.size (fun y => if y = ".0" then some (.ref s1.heap.objs.size) else none) := hn'
    have hs' : Heap.SameBut h3.objs.size (h3.push { cls := .type "frame", data := .dict #[] }) h' := hs'
    have hszF : h'.objs.size = h3.objs.size + 1 := by rw [hs'.1, Heap.size_push]
    have h31 : s1.heap.objs.size + 1 ≤ h3.objs.size := by rw [← sz2]; exact hsz
    have keepF : ∀ b u, h3.get? b = some u → h'.get? b = some u := fun b u e => hs'.extBut b u (Nat.ne_of_lt (Heap.lt_size e)) (Heap.get?_push_of_some _ e)
    obtain ⟨more, em⟩ := hmore
    subst em
    generalize hgo : ({ cls := .type "generator", data := .fields #[.int s1.gens.size 0, .str "<genexpr>" (tk + 1), .str (X.env.qual ++ "<genexpr>") (tk + 1 + 1)] } : Obj) = og
    have keep5 : ∀ b u, b ≠ P → s1.heap.get? b = some u → (h'.push og).get? b = some u := fun b u hb e => Heap.get?_push_of_some _ (keepF b u (keep3 b u hb e))
    have hP5 : (h'.push og).get? P = some { cls := .none, data := .fields (ps ++ more) } := Heap.get?_push_of_some _ (keepF _ _ hP3)
    have bare5 : AllBare (s1.gens.push (.fresh (.compStart (.GeneratorExp elt [⟨tg, iter, [], 0⟩] scope gpos) 0 (.ref s1.heap.objs.size) .none (gEnv X scope h3.objs.size code)))) := I1.bare.push rfl
    have J := GxR.inv_tab (more := more) (h' := h'.push og) (t' := tk + 1 + 1 + 1) (d' := s1.drawn) I1 hPs' (fun b u hb e => keep5 b u hb e) hP5 bare5
    have nP : ∀ b, H1 b = none → b ≠ P := fun b e z => by rw [z, hPs'] at e; cases e
    have nq : ∀ b u, H1 b = some u → (∀ q, u ≠ .tbl q) → b ≠ P := fun b u e h z => by
      rw [z, hPs'] at e
      exact h ps (Option.some.inj e).symm
    have kp : Kp H1 (upd H1 P (.tbl (ps ++ more))) := ⟨fun b xs e => by rw [upd_ne (nq b _ e fun q z => by cases z)]; exact e, fun b ob u e => by rw [upd_ne (nq b _ e fun q z => by cases z)]; exact e, fun b hb => by
      by_cases z : b = P
      · rw [z]; exact ⟨_, upd_same, ht3⟩
      · obtain ⟨p8, e8, t8⟩ := hb
        exact ⟨p8, by rw [upd_ne z]; exact e8, t8⟩, fun c q e => by rw [upd_ne (nq c _ e fun ps z => LamX.codeO_ne ps z)]; exact e⟩
    have un : Un (frs X.stack) [] H1 (upd H1 P (.tbl (ps ++ more))) s1.heap (h'.push og) := ⟨fun b u e n _ _ => keep5 b u (nP b n) e, fun b u e n _ _ => ⟨u.slots, keep5 b u (nP b n) e⟩, fun b u e n _ => by rw [upd_ne (nP b n)]; exact n, fun b u e _ => by
        by_cases z : b = P
        · rw [z]; exact ⟨_, hP5⟩
        · exact ⟨u, keep5 b u z e⟩, kp.tup, kp.frz, fun b qs e => by
        by_cases z : b = P
        · rw [z] at e ⊢
          rw [hPs'] at e
          cases e
          exact ⟨more, upd_same⟩
        · exact ⟨#[], by rw [upd_ne z, e]; simp⟩⟩
    have hgen : (h'.push og).get? h'.objs.size = some og := Heap.get?_push_size _ (by subst hgo; rfl)
    have hit5 : (h'.push og).get? s1.heap.objs.size = some o := Heap.get?_push_of_some _ (keepF _ _ (hx _ _ (Nat.ne_of_gt hPlt) (Heap.get?_push_size _ (by subst ho; rfl))))
    refine hQ ι1 H1 s1 _ (upd H1 P (.tbl (ps ++ more))) h'.objs.size s1.gens.size s1.heap.objs.size h3.objs.size lp code us og x1 ⟨I1, R1, ht, rds, Array.getElem?_push_size .., hgen, fun h e => ⟨og, .str "<genexpr>" (tk + 1), .str (X.env.qual ++ "<genexpr>") (tk + 1 + 1), e, (by subst hgo; rfl), (by subst hgo; rfl), (by subst hgo; rfl)⟩,
      fun v z => (by subst hgo; cases z), rfl, bare5, un, J.hok, kp, fun n hn => ?_, ?_, hn'.push _, J.nolimit, (by rw [hit5, ← ho]), (by omega), Nat.le_refl _, (by omega), fun b hb => ?_, Nat.ne_of_lt (show s1.heap.objs.size < h3.objs.size by omega), Nat.ne_of_gt (show h3.objs.size < h'.objs.size by omega), Nat.ne_of_gt (show s1.heap.objs.size < h'.objs.size by omega), ?_⟩
    · obtain ⟨u, eu, _, _, h3, _⟩ := R1.there hn
      exact upd_ne (nq _ _ eu fun q z => h3 q z)
    · obtain ⟨qs, t1, t2, t3⟩ := R1.tk
      rw [hP] at hne
      refine ⟨qs, by rw [upd_ne (Ne.symm hne)]; exact t1, t2, fun pos cv hc => ?_⟩
      obtain ⟨c0, e0, e1⟩ := t3 pos cv hc
      exact ⟨c0, e0, by rw [upd_ne (nq _ _ e1 fun q z => LamX.codeO_ne q z)]; exact e1⟩
    · rw [upd_ne (Nat.ne_of_gt (Nat.lt_of_lt_of_le hPlt hb))]
      exact I1.hok.fresh hb
    · show h'.objs.size < (h'.push og).objs.size
      rw [Heap.size_push]
      omega
  refine ⟨lim2, ?_⟩
  cases hf : codeAmong gpos ps.toList with
  | none =>
    refine wpAny_genexprCodeX hcode (cd.code hP2 htr) (cd.tab hP2) hf fun c' h' tk hx hge hlt hco' _ htab' _ => ?_
    obtain ⟨o1, vs, f1, tf, fl, tg, inF, tx, tt, op, _, _, _, _, _, _, _, _, _, htr, _⟩ := hco'
    exact cont _ h' tk _ hx (Nat.le_trans hge (Nat.le_of_lt hlt)) htab'.2 ⟨_, rfl⟩ htr
  | some cv =>
    refine wpAny_genexprCode_hit hcode (cd.code hP2 htr) hf ?_
    exact cont cv (s1.heap.push o) s1.toks ps (Heap.ExtBut.refl _ _) (Nat.le_refl _) hP2 ⟨#[], by simp⟩ htr
end
end Cs
/-! Z29: sum(..), tuple(..) of a generator expression. -/
namespace Cs
open PySem PySem.Spec PyProof.Rows L2 GenW

section
variable {X : Cx} {pins : List (Addr × Obj)} {σ : L2.St} {H : Hp} {s : Shared} {c : Nat → Addr} {cc P : Addr} {elt iter : Expr} {x : Str} {px gpos : Pos} {scope : Scope} {i : Nat} {σa : Sl} {Sf S1 : Sto} {l : List D} {ι1 : Nat → Addr} {H1 H5 : Hp} {s1 s5 : Shared} {a g it C lp : Addr} {cd : Value} {us : List V} {oa : Obj}
abbrev gd (X : Cx) (A : Around) (c : Nat → Addr) (σ : L2.St) (scope : Scope) (x : Str) (i : Nat) (ee : Ev) (σa : Sl) (Sf S1 : Sto) (l : List D) (outs : List Cs.A) (ι1 : Nat → Addr) (H1 : Hp) (s1 : Shared) (S a it C lp : Addr) (cd : Value) (us : List V) (oa : Obj) (W : List V → Array Value → Prop) : GD :=
  { Y := gCx X A s1 H1 scope C cd, c := c, S := S, a := a, it := it, l := lp, oa := oa, i := i, x := x, ee := ee, σ0 := wipe σ [i], σa := σa, ι0 := ι1, m0 := S1.m, H0 := H1, items := l, us := us, outs := outs, Sf := Sf, W := W }
theorem gd_ok {A : Around} {ee : Ev} {outs : List Cs.A} {W : List V → Array Value → Prop} (M : GMk X c pins σ scope elt [⟨.Name x px, iter, [], 0⟩] gpos l ι1 S1 H1 s1 s5 H5 a g it C lp cd us oa) (G : GnS X scope [(x, i)]) (hN : X.N.Nodup) (hd : A.handled = none)
    (hL : RL X.K ι1 S1.m H1 σa σ) (hW : ∀ ys acc y v, W ys acc → RelV y v → ∃ acc', W (ys ++ [y]) acc') : GDok (gd X A c σ scope x i ee σa Sf S1 l outs ι1 H1 s1 s5.heap.objs.size a it C lp cd us oa W) where
  tup := M.tup
  rd := M.rd
  rl := RL.wipe hL [i]
  nd := hN
  ix := G.blk.ix (x, i) (by simp)
  loc := G.loc (x, i) (by simp)
  emp := fun v e => (wipe_some e).2 (by simp)
  pn := rfl
  cl := fun y c e => by
    obtain ⟨w', z⟩ := M.I.cell y c (G.cm M.I.ok e)
    exact z.lt
  sS := by
    exact Nat.le_of_lt (Nat.lt_of_le_of_lt M.iS (Heap.lt_size M.ito))
  sI := M.iS
  Sa := Nat.ne_of_gt M.alt
  Si := Nat.ne_of_gt (Heap.lt_size M.ito)
  ai := M.ai
  xe := fun _ _ h => h
  hd := hd
  frm := G.blk.kind
  co := G.co
  wx := hW
  pl := by
    have k : (gCx X A s1 H1 scope C cd).env.scope.kind = .function := G.blk.kind
    show ((gCx X A s1 H1 scope C cd).env.scope.kind == .class || ((gCx X A s1 H1 scope C cd).env.scope.kind == .module && _)) = false
    rw [k]
    rfl
theorem gd_awk {A : Around} {ee : Ev} {outs : List Cs.A} {W : List V → Array Value → Prop} {s6 : Shared} {acc0 : Array Value} {cc0 : Nat} (M : GMk X c pins σ scope elt [⟨.Name x px, iter, [], 0⟩] gpos l ι1 S1 H1 s1 s5 H5 a g it C lp cd us oa) (G : GnS X scope [(x, i)]) (hN : X.N.Nodup) (hd : A.handled = none) (fr : A.frames = some X.stack)
    (hL : RL X.K ι1 S1.m H1 σa σ) (hW : ∀ ys acc y v, W ys acc → RelV y v → ∃ acc', W (ys ++ [y]) acc') (hel : EE (gCx X A s1 H1 scope C cd) c elt ee) (e1 : gnL (gNm i) ee σa [i] l S1 = some (outs, Sf)) (hg : s6.gens = s5.gens) (ho : s6.os = s5.os)
    (k : ∀ b o, s5.heap.get? b = some o → s6.heap.get? b = some o) (eS : s6.heap.get? s5.heap.objs.size = some (lstObj acc0 cc0)) (w0 : W [] acc0) :
    Awk (gd X A c σ scope x i ee σa Sf S1 l outs ι1 H1 s1 s5.heap.objs.size a it C lp cd us oa W) A g l.length s6 := by
  have D := gd_ok (ee := ee) (outs := outs) (Sf := Sf) (W := W) M G hN hd hL hW
  have b6 : AllBare (s6.setGen g .running).gens := allBare_setGen (by rw [hg]; exact M.bare) rfl
  refine ⟨.fresh (.compStart (.GeneratorExp elt [⟨.Name x px, iter, [], 0⟩] scope gpos) 0 (.ref it) .none (gEnv X scope C cd)), by rw [hg]; exact M.gen, ⟨rfl, ?_⟩⟩
  refine seg_gstart (d := gd X A c σ scope x i ee σa Sf S1 l outs ι1 H1 s1 s5.heap.objs.size a it C lp cd us oa W) (ys := []) D hel rfl ?_ rfl
  have I := gen_start (s5 := s6.setGen g .running) (it := it) (A := A) (C := C) (code := cd) M.I G hN hd fr (ho.trans M.os) b6 (M.un.trans (Un.kept k)) (M.hok.kept k) M.cS (M.ns.keeps k) (M.nw C M.cS)
  refine ⟨ι1, S1, H5, [], outs, acc0, cc0, { cls := .type "tuple_iterator", data := .fields #[.ref lp, .int 0 0] }, ⟨Nat.le_refl _, fun _ _ => rfl, M.kp⟩, (M.R.ext M.kp M.eq M.tk).1, .nil, e1, rfl, rfl, ⟨rfl, rfl⟩, w0, I.pins_of fun p hp => ?_⟩
  have fS : ∀ b, s1.heap.objs.size ≤ b → b ∉ frs X.stack := fun b hb => nofrS M.I hb
  have ncS : s5.heap.objs.size ≠ C := Nat.ne_of_gt M.ns.lt
  rcases List.mem_cons.mp hp with hp | hp
  · rw [hp]
    exact ⟨eS, M.nw _ D.sS, ncS, fS _ D.sS, fun v z => by cases z⟩
  · rcases List.mem_cons.mp hp with hp | hp
    · rw [hp]
      exact ⟨k _ _ M.obj, M.nw _ M.aS, M.ac, fS _ M.aS, M.nc⟩
    · rw [List.mem_singleton.mp hp]
      exact ⟨k _ _ M.ito, M.nw _ M.iS, M.ic, fS _ M.iS, fun v z => by cases z⟩
theorem gd_fin {A : Around} {ee : Ev} {outs : List Cs.A} {W : List V → Array Value → Prop} {s' : Shared} {S : Addr} (I1 : Inv X pins σ H1 s1)
    (h : GFin (gd X A c σ scope x i ee σa Sf S1 l outs ι1 H1 s1 S a it C lp cd us oa W) s') : ∃ ι' H' ys acc cc, Inv X pins σ H' s' ∧ Ext ι1 S1.m H1 ι' Sf.m H' ∧ RS (gX X c) ι' Sf H' ∧ RAs X.K ι' Sf.m H' outs ys ∧ W ys acc ∧ ys.length = l.length ∧ s'.heap.get? S = some (lstObj acc cc) := by
  obtain ⟨ι', H', ys, acc, cc, x1, R1, r1, el, w, J⟩ := h
  exact ⟨ι', H', ys, acc, cc, I1.call' J.os J.base J.hok J.bare (fun b z => absurd z (by show b ∉ ([] : List Addr); simp)), x1, R1, r1, w, el, (J.pin (S, lstObj acc cc) (List.mem_append_right _ List.mem_cons_self)).1⟩
end

/-! ### the element's judgement -/
def GBlk (X : Cx) (scope : Scope) (k : Nat) (φ : Cx → Prop) : Prop := ∀ (A : Around) (s : Shared) (H : Hp) (C : Addr) (cd : Value), Room k (A.deeper (gEnv X scope C cd)) → φ (gCx X A s H scope C cd)
theorem wsum_ext (ys : List V) (acc : Array Value) (y : V) (v : Value) (h : WSum ys acc) (r : RelV y v) : ∃ acc', WSum (ys ++ [y]) acc' := ⟨_, 0, rfl⟩
theorem wlst_ext (ys : List V) (acc : Array Value) (y : V) (v : Value) (h : WLst ys acc) (r : RelV y v) : ∃ acc', WLst (ys ++ [y]) acc' := ⟨acc.push v, by
  show Vals _ _
  rw [Array.toList_push]
  exact Vals.append h (.cons r .nil)⟩
section
variable {X : Cx} {c : Nat → Addr} {cc : Addr} {elt iter : Expr} {x : Str} {p pos px gpos : Pos} {scope : Scope} {i k jP : Nat} {ie ee : Ev}
theorem e_genSum (hr : Room (k + 1) X.A) (hg : Gl X "sum") (hm : X.mg "sum" = none) (TB : GxR.TabB X.base X.mg cc (c (3 + jP))) (hj : jP < 3) (hne : c (3 + jP) ≠ c 5) (hcode : X.env.code = .ref cc) (hN : X.N.Nodup) (G : GnS X scope [(x, i)]) (hi : EE X c iter ie) (he : GBlk X scope k fun Y => EE Y c elt ee)
    (hs : ∀ v, genFold iter X.env v = pure v)
    (hst : starEach [.GeneratorExp elt [⟨.Name x px, iter, [], 0⟩] scope gpos] X.env = (false, eval (.GeneratorExp elt [⟨.Name x px, iter, [], 0⟩] scope gpos) X.env) :: starEach [] X.env := by rfl) :
    EE X c (.Call (.Name "sum" p) [.GeneratorExp elt [⟨.Name x px, iter, [], 0⟩] scope gpos] [] pos) (cSumG ie (gNm i) ee [i]) := by
  refine ⟨fun pins s σ H Q I h => ?_⟩
  obtain ⟨ι, σa, Sc, z, S', hL, R, e, kk⟩ := h
  unfold cSumG at e
  split at e
  · rename_i l S1 q1
    split at e
    · rename_i outs Sf q2
      split at e
      · rename_i total q3
        cases e
        refine wpAny_Call_Name_kw (ld_blt I hg hm PyProof.Rows.boot_sum ?_)
        refine PyProof.Rows.callWith_builtin1 ?_ hst (by rfl)
        rw [hst]
        show wpAny _ _ (spliced ((false, eval (.GeneratorExp elt [⟨.Name x px, iter, [], 0⟩] scope gpos) X.env) :: backTo pos (starEach [] X.env))) _ _ s
        refine Calls.spliced_cons (gen_mk hr TB hcode rfl hj hne G hi hs I hL R q1 fun ι1 H1 s1 s5 H5 a g it C lp cd us oa x1 M => ?_)
        refine Calls.spliced_nil ?_
        have hL1 : RL X.K ι1 S1.m H1 σa σ := RL.mono x1 hL
        have D := gd_ok (A := X.A.in1.in1) (ee := ee) (outs := outs) (Sf := S') (W := WSum) M G hN hr.hd hL1 wsum_ext
        have hel := he X.A.in1.in1 s1 H1 C cd ⟨hr.hd, by have := hr.dp; show X.A.depth + 1 + 3 * k + 5 < _; omega, by have := hr.un; show X.A.units + 1 + 1 + 3 + 16 * k + 200 < _; omega⟩
        refine call_function_tree F.kind_sum F.plain_sum F.entry_sum (F.args_sum1 _) ?_
        unfold Builtin.«sum»
        simp only [List.length_cons, List.length_nil]
        rw [if_neg (by decide)]
        refine wpAny_bind (wpAny_of_eq (show Builtin.Builtins.bindParams "sum" ["start"] 0 { } = pure [none] from rfl) ?_)
        refine wpAny_bind (wpAny_pyIter_gen (M.isg _ M.obj) ?_)
        refine wpAny_bind (wpAny_mkInt ?_)
        refine wpAny_bind (wpAny_pure ?_)
        simp only [List.forIn_cons, List.forIn_nil]
        refine wpAny_bind (wpAny_bind (wpAny_bind (wpAny_isInstance (T := "int") (b := false) (typeIs_int _ _ _) PySem.sub_int_str ?_)))
        simp only [Bool.false_eq_true, if_false]
        refine wpAny_pure (wpAny_bind (wpAny_bind (wpAny_isInstance (T := "int") (b := false) (typeIs_int _ _ _) PySem.sub_int_bytes ?_)))
        simp only [Bool.false_eq_true, if_false]
        refine wpAny_pure (wpAny_bind (wpAny_bind (wpAny_isInstance (T := "int") (b := false) (typeIs_int _ _ _) PySem.sub_int_bytearray ?_)))
        simp only [Bool.false_eq_true, if_false]
        refine wpAny_pure (wpAny_pure ?_)
        refine wpAny_bind (wpAny_newObj_type ?_)
        have kp : ∀ b o, s5.heap.get? b = some o → (s5.heap.push { cls := .type "list", data := .seq #[.int 0 s5.toks] }).get? b = some o := fun b o e => Heap.get?_push_of_some _ e
        have eS : (s5.heap.push { cls := .type "list", data := .seq #[.int 0 s5.toks] }).get? s5.heap.objs.size = some { cls := .type "list", data := .seq #[.int 0 s5.toks] } := Heap.get?_push_size _ rfl
        refine wpAny_pure ⟨plainId_quiet F.plain_sum_loop _, sum_loopG (A := X.A) (g := g) D rfl (fun b hb => sumA_ints q3 b hb) hr.hd (by have := hr.dp; show X.A.depth < _; omega) M.isg (fun s' ys t gf rv hS => ?_) l.length _ [] s5.toks 0 0 (.inl rfl) eS (kp _ _ M.obj) (M.lim.push _) ?_⟩
        · obtain ⟨ι', H', ys', acc, cc', J, x2, R2, r2, ⟨t', w⟩, _, eS'⟩ := gd_fin M.I gf
          obtain ⟨c4, hS⟩ := hS
          have e9 := hS.symm.trans eS'
          injection e9 with e9
          have e10 : (Data.seq #[Value.int (sumV ys) t] c4) = Data.seq acc cc' := congrArg Obj.data e9
          injection e10 with e10 e11
          rw [w] at e10
          have e12 := congrArg (fun a => a[0]?) e10
          simp at e12
          have et : sumV ys' = total := sumA_V r2 q3
          have e13 : sumV ys = total := e12.1.trans et
          refine ⟨.int total, H', J, ⟨t, by rw [e13]⟩, kk ι' H' _ (x1.trans x2) R2 (.dat (.int _))⟩
        · exact gd_awk M G hN hr.hd M.I.ok.frames hL1 wsum_ext hel q2 rfl rfl kp eS ⟨s5.toks, rfl⟩
      · cases e
    · cases e
  · cases e
end
end Cs
/-! Z30: tuple(..) of a generator expression. -/
namespace Cs
open PySem PySem.Spec PyProof.Rows L2 GenW
open AutoSeq1 (wpAny_loadPart')

theorem gnL_len {g : Gv} {e : Ev} {σ : Sl} {vs : List Nat} : ∀ {l : List D} {S S' : Sto} {r : List Cs.A}, gnL g e σ vs l S = some (r, S') → r.length = l.length
  | [], S, S', r, h => by
    unfold gnL at h
    cases h
    rfl
  | d :: l, S, S', r, h => by
    unfold gnL at h
    split at h
    · split at h
      · split at h
        · rename_i q
          cases h
          rw [List.length_cons, List.length_cons, gnL_len q]
        · cases h
      · cases h
    · cases h
theorem oTup_few {l : List Cs.A} {S S' : Sto} {a : Cs.A} (h : oTup l S = some (a, S')) : few l = true := by
  unfold oTup at h
  cases q : datas l with
  | none => rw [q] at h; cases h
  | some d =>
    rw [q] at h
    dsimp only at h
    cases hf : few l with
    | false => rw [hf] at h; cases h
    | true => rfl
section
variable {d : GD} {A : Around} {E : Value → Shared → Prop} {g : Nat} {s5 : Shared}
theorem collectG (D : GDok d) (hW : d.W = WLst) (hL : d.items.length < sizeLine) (eS5 : d.S = s5.heap.objs.size) (hh : A.handled = none) (hroom : A.depth < recursionLimit) (hgen : ∀ h : Heap, h.get? d.a = some d.oa → h.IsGen d.a g) (ho : s5.heap.get? d.a = some d.oa) (hl : s5.heap.NoLimit)
    (aw : ∀ (s6 : Shared) (cc0 : Nat), s6.gens = s5.gens → s6.os = s5.os → (∀ b o, s5.heap.get? b = some o → s6.heap.get? b = some o) → s6.heap.get? d.S = some (lstObj #[] cc0) → Awk d A.in1.in1 g d.items.length s6)
    {Q : List Value → Shared → Prop} (hQ : ∀ s' acc cc, GFin d s' → s'.heap.get? d.S = some (lstObj acc cc) → Q acc.toList s') : wpAny (model d.Y.prog d.Y.w) A (collect (.ref d.a)) Q E s5 := by
  have hSI : s5.heap.objs.size ≠ d.a := by rw [← eS5]; exact D.Sa
  have gty : ∀ {h : Heap}, (∀ b o, s5.heap.get? b = some o → h.get? b = some o) → h.IsGen d.a g := fun q => hgen _ (q _ _ ho)
  have k1 : ∀ b o, s5.heap.get? b = some o → (s5.heap.push { cls := .type "list", data := .seq ([] : List Value).toArray }).get? b = some o := fun b o e => Heap.get?_push_of_some _ e
  unfold collect
  refine wpAny_bind (wpAny_runValue (codeAny_builtin F.entry_proto_collect ?_))
  rw [Around.under_plainId F.plain_proto_collect _]
  show wpAny _ A.in1 (newList [] >>= fun l => again (.builtin "list.__iadd__" ⟨[l, .ref d.a], []⟩)) _ _ s5
  refine wpAny_bind (wpAny_newObj_type ?_)
  refine wpAny_pure ⟨plainId_quiet F.plain_list_iadd _, codeAny_builtin F.entry_list_iadd ?_⟩
  rw [Around.under_plainId F.plain_list_iadd _]
  show wpAny _ A.in1 (Builtin.List.listExtendWith (.ref s5.heap.objs.size) (.ref d.a) (.ref s5.heap.objs.size)) _ _ _
  unfold Builtin.List.listExtendWith
  refine wpAny_bind (wpAny_typeOf (Heap.IsGen.typeIs (s := { s5 with heap := _ }) (gty k1)) ?_)
  have h1 : Builtin.List.listSameRef (.ref s5.heap.objs.size) (.ref d.a) = false := by simp [Builtin.List.listSameRef, hSI]
  have h2 : (Value.type "generator" == Value.type "list") = false := by decide
  have h3 : (Value.type "generator" == Value.type "tuple") = false := by decide
  simp only [h1, h2, h3, Bool.or_false, Bool.false_eq_true, if_false]
  refine wpAny_bind (wpAny_pyIter_gen (s := { s5 with heap := _ }) (gty k1) ?_)
  refine wpAny_bind (wpAny_holding ?_)
  unfold Builtin.List.listLengthHint
  refine wpAny_bind (wpAny_specialOf (Heap.IsGen.typeIs (s := { s5 with heap := _ }) (gty k1)) F.gen_no_len ?_)
  show wpAny _ A.in1 (specialOf (Value.ref d.a) (Str.ofString "__length_hint__") >>= _) _ _ _
  refine wpAny_bind (wpAny_specialOf (Heap.IsGen.typeIs (s := { s5 with heap := _ }) (gty k1)) F.gen_no_hint ?_)
  refine wpAny_pure ?_
  show wpAny _ A.in1 (rule "list.extend.makes-room" >>= fun _ => Builtin.List.listTouch (.ref s5.heap.objs.size) >>= fun _ =>
    again (.builtin "list.extend.loop" ⟨[.ref s5.heap.objs.size, .ref d.a, .ref s5.heap.objs.size], []⟩)) _ _ _
  refine wpAny_bind (wpAny_rule ?_)
  have hS₁ : (s5.heap.push { cls := .type "list", data := .seq ([] : List Value).toArray }).get? s5.heap.objs.size = some { cls := .type "list", data := .seq ([] : List Value).toArray } := Heap.get?_push_size _ rfl
  refine wpAny_bind ?_
  show wpAny _ A.in1 (updateSeq s5.heap.objs.size (·.push .none) >>= fun _ => updateSeq s5.heap.objs.size (·.pop)) _ _ _
  refine wpAny_bind (wpAny_updateSeq hS₁ rfl ?_)
  have hS₂ := Heap.get?_update_self (Obj.mapSeq (·.push Value.none)) hS₁ rfl
  refine wpAny_updateSeq hS₂ rfl ?_
  have hS₃ := Heap.get?_update_self (Obj.mapSeq (·.pop)) hS₂ rfl
  have oth : ∀ b o, s5.heap.get? b = some o →
      (((s5.heap.push { cls := .type "list", data := .seq ([] : List Value).toArray }).update s5.heap.objs.size (Obj.mapSeq (·.push Value.none))).update s5.heap.objs.size (Obj.mapSeq (·.pop))).get? b = some o := fun b o e => by
    have hb : b ≠ s5.heap.objs.size := Nat.ne_of_lt (Heap.lt_size e)
    exact (Heap.get?_update_other _ _ (Ne.symm hb)).trans ((Heap.get?_update_other _ _ (Ne.symm hb)).trans (k1 b o e))
  have L := lst_loopG (A := A) (g := g) D hW hL (.ref d.S) hh hroom hgen
    (R := fun r s' => ∃ (acc : Array Value) (cc : Nat), r = .ok (.ret (.ref d.S)) ∧ GFin d s' ∧ s'.heap.get? d.S = some (lstObj acc cc)) (fun s' gf => by
      obtain ⟨ys, acc, cc, e, w, el⟩ := gf.obj
      exact ⟨acc, cc, rfl, gf, e⟩)
    d.items.length { s5 with heap := ((s5.heap.push { cls := .type "list", data := .seq ([] : List Value).toArray }).update s5.heap.objs.size (Obj.mapSeq (·.push Value.none))).update s5.heap.objs.size (Obj.mapSeq (·.pop)) } #[] _
    (by rw [eS5]; exact hS₃) (oth _ _ ho) (hl.keeps oth) (aw _ _ rfl rfl oth (by rw [eS5]; exact hS₃))
  rw [eS5] at L
  refine wpAny_pure ⟨plainId_quiet F.plain_extend_loop _, codeAny_mono L fun r s' hq => ?_⟩
  obtain ⟨acc, cc, rfl, gf, e⟩ := hq
  rw [← eS5] at e ⊢
  show wpAny _ A (load d.S >>= _) _ _ s'
  refine wpAny_bind (wpAny_load e ?_)
  exact wpAny_pure (hQ s' acc cc gf e)
theorem tupleNewG (D : GDok d) (hW : d.W = WLst) (hL : d.items.length < sizeLine) (eS5 : d.S = s5.heap.objs.size) (hh : A.handled = none) (hroom : A.depth < recursionLimit) (hgen : ∀ h : Heap, h.get? d.a = some d.oa → h.IsGen d.a g) (ho : s5.heap.get? d.a = some d.oa) (hl : s5.heap.NoLimit)
    (aw : ∀ (s6 : Shared) (cc0 : Nat), s6.gens = s5.gens → s6.os = s5.os → (∀ b o, s5.heap.get? b = some o → s6.heap.get? b = some o) → s6.heap.get? d.S = some (lstObj #[] cc0) → Awk d A.in1.in1.in1 g d.items.length s6)
    {Q₁ : Value → Shared → Prop} (h : ∀ s' acc cc, GFin d s' → s'.heap.get? d.S = some (lstObj acc cc) → Q₁ (.ref s'.heap.objs.size) { s' with heap := s'.heap.push { cls := .type "tuple", data := .seq acc } }) :
    codeAny (model d.Y.prog d.Y.w) A (.call (.builtin "tuple.__new__") ⟨[.type "tuple", .ref d.a], []⟩) (wants Q₁ E) s5 := by
  refine codeAny_of_tree ?_
  show wpAny _ A.in1 (do checkBuiltinCall "tuple.__new__" ⟨[.type "tuple", .ref d.a], []⟩; again (.builtin "tuple.__new__" ⟨[.type "tuple", .ref d.a], []⟩)) _ _ s5
  refine wpAny_bind (wpAny_of_eq (F.newCall_tuple_1 _) (wpAny_pure ⟨plainId_quiet F.plain_tuple_new _, codeAny_builtin F.entry_tuple_new ?_⟩))
  rw [Around.under_plainId F.plain_tuple_new _]
  have hsub := sub_tuple_self
  have hinit := init_tuple_lookup
  have hmh := madeHere_tuple
  have hTI : s5.TypeIs (.ref d.a) "generator" := (hgen _ ho).typeIs
  wp_walk using wpAny_typeOf hTI, collectG (A := A.in1) D hW hL eS5 hh hroom hgen ho hl aw
  intro s' acc cc gf e
  show wpAny _ _ (Builtin.Tuple.tupleExact acc.toList.toArray >>= fun v => ret v) _ _ _
  obtain ⟨ys', acc', cc', e', w', el⟩ := gf.obj
  have es : acc = acc' := by
    rw [e] at e'
    injection e' with e'
    have e2 : (Data.seq acc cc) = Data.seq acc' cc' := congrArg Obj.data e'
    injection e2
  have hsz : acc.size = d.items.length := by
    rw [hW] at w'
    have q : ys'.length = acc'.toList.length := Vals.length w'
    have q2 : acc'.toList.length = acc'.size := Array.length_toList
    rw [es]
    omega
  unfold Builtin.Tuple.tupleExact
  refine wpAny_bind (wpAny_newObj_type ?_ (by show acc.toList.toArray.size ≤ sizeLine; simp only [Array.toArray_toList]; rw [hsz]; exact Nat.le_of_lt hL))
  refine wpAny_pure ?_
  have e : acc.toList.toArray = acc := by simp
  rw [e]
  exact h s' acc cc gf (by assumption)
end
section
variable {X : Cx} {c : Nat → Addr} {cc : Addr} {elt iter : Expr} {x : Str} {p pos px gpos : Pos} {scope : Scope} {i k jP : Nat} {ie ee : Ev}
theorem e_genTup (hr : Room (k + 1) X.A) (hg : Gl X "tuple") (hm : X.mg "tuple" = none) (TB : GxR.TabB X.base X.mg cc (c (3 + jP))) (hj : jP < 3) (hne : c (3 + jP) ≠ c 5) (hcode : X.env.code = .ref cc) (hN : X.N.Nodup) (G : GnS X scope [(x, i)]) (hi : EE X c iter ie) (he : GBlk X scope k fun Y => EE Y c elt ee)
    (hs : ∀ v, genFold iter X.env v = pure v)
    (hst : starEach [.GeneratorExp elt [⟨.Name x px, iter, [], 0⟩] scope gpos] X.env = (false, eval (.GeneratorExp elt [⟨.Name x px, iter, [], 0⟩] scope gpos) X.env) :: starEach [] X.env := by rfl) :
    EE X c (.Call (.Name "tuple" p) [.GeneratorExp elt [⟨.Name x px, iter, [], 0⟩] scope gpos] [] pos) (cTupG ie (gNm i) ee [i]) := by
  refine ⟨fun pins s σ H Q I h => ?_⟩
  obtain ⟨ι, σa, Sc, z, S', hL, R, e, kk⟩ := h
  unfold cTupG at e
  split at e
  · rename_i l S1 q1
    split at e
    · rename_i outs Sf q2
      refine wpAny_Call_Name_kw (ld_blt I hg hm PyProof.Rows.boot_tuple ?_)
      refine PyProof.Rows.callWith_type1 ?_ hst rfl
      rw [hst]
      show wpAny _ _ (spliced ((false, eval (.GeneratorExp elt [⟨.Name x px, iter, [], 0⟩] scope gpos) X.env) :: backTo pos (starEach [] X.env))) _ _ s
      refine Calls.spliced_cons (gen_mk hr TB hcode rfl hj hne G hi hs I hL R q1 fun ι1 H1 s1 s5 H5 a g it C lp cd us oa x1 M => ?_)
      refine Calls.spliced_nil ?_
      have hL1 : RL X.K ι1 S1.m H1 σa σ := RL.mono x1 hL
      have D := gd_ok (A := X.A.in1.in1.in1.in1) (ee := ee) (outs := outs) (Sf := Sf) (W := WLst) M G hN hr.hd hL1 wlst_ext
      have hel := he X.A.in1.in1.in1.in1 s1 H1 C cd ⟨hr.hd, by have := hr.dp; show X.A.depth + 1 + 3 * k + 5 < _; omega, by have := hr.un; show X.A.units + 1 + 1 + 1 + 1 + 3 + 16 * k + 200 < _; omega⟩
      have hlt : l.length < sizeLine := by
        rw [← gnL_len q2]
        exact Nat.lt_of_le_of_lt (few_le (oTup_few e)) (by decide)
      refine callType_codes (Q₁ := fun obj s₁ => s₁.TypeIs obj "tuple" ∧ EP X pins σ Q obj s₁) F.called_tuple (F.typeCall_tuple_1 _) F.entry_object_init
        (tupleNewG (d := gd X X.A.in1.in1.in1.in1 c σ scope x i ee σa Sf S1 l outs ι1 H1 s1 s5.heap.objs.size a it C lp cd us oa WLst) (A := X.A.in1) (g := g) D rfl hlt rfl hr.hd (by have := hr.dp; show X.A.depth < _; omega) M.isg M.obj M.lim
          (fun s6 cc0 hg ho k eS => gd_awk M G hN hr.hd M.I.ok.frames hL1 wlst_ext hel q2 hg ho k eS .nil) fun s' acc cc4 gf eS => ?_) fun obj s₁ h₁ => ?_
      · refine ⟨⟨_, Heap.get?_push_size _ rfl, rfl⟩, ?_⟩
        obtain ⟨ι', H', ys, acc', cc', J, x2, R2, r2, w, el, eS'⟩ := gd_fin M.I gf
        have ea : acc = acc' := by
          rw [eS] at eS'
          injection eS' with eS'
          have e2 : (Data.seq acc cc4) = Data.seq acc' cc' := congrArg Obj.data eS'
          injection e2
        rw [ea]
        have hf : H' s'.heap.objs.size = none := J.hok.fresh (Nat.le_refl _)
        obtain ⟨hl, kq⟩ := tup_ok (g := gX X c) ι' Sf H' outs ys z S' Q R2 r2 e (Wa.from (x1.trans x2) kk)
        refine ⟨.ref s'.heap.objs.size, upd H' s'.heap.objs.size (.tup ys), J.laid (t' := s'.toks) (fun b u e => Heap.get?_push_of_some _ e) (Nat.le_refl _) ?_, rfl, kq _ hf⟩
        exact ⟨hl, acc'.toList, w, ⟨_, Heap.get?_push_size _ rfl, rfl, 0, by show Data.seq acc' 0 = Data.seq acc'.toList.toArray 0; simp⟩⟩
      · exact ⟨h₁.1, F.args_object_init_2 obj _, object_init_meets F.called_tuple.init.lookup F.called_tuple.made (by decide) X.prog X.w X.A.in1 _ s₁ ⟨h₁.1, rfl, h₁.2⟩⟩
    · cases e
  · cases e
end
end Cs
/-! Z31: sets of nested tuples (the rules for tuples of ints, HandS.TupSets, turned to nested keys). -/
namespace Cs
open PySem PySem.Spec PyProof.Rows L2

abbrev dhash (w : World) (k : NestedKey) : Int := k.hash w
/-- the tuple at a is the key k -/
abbrev IsD (P : Program) (w : World) (h : Heap) (k : NestedKey) (a : Addr) : Prop := (nestedKind P w).is h k a
theorem room_of {A : Around} (h : A.units + 8 < cLine) : A.units + 8 < cLine := h
section
variable {P : Program} {w : World} {A : Around} {E : Value → Shared → Prop} {s : Shared}
/-- whether a hash is by value: some answer, nothing changes -/
theorem hashBy_N : ∀ (n : Nat) {h : Heap} {k : NestedKey} {v : Value} {Q : Bool → Shared → Prop} {s : Shared}, NestedIs s.heap k v → (∀ b, Q b s) → wpAny (model P w) A (hashByValue n v) Q E s := by
  intro n
  induction n with
  | zero =>
    intro h k v Q s hk hq
    cases hk <;> exact wpAny_pure (hq _)
  | succ n ih =>
    intro h k v Q s hk hq
    cases hk with
    | none => exact wpAny_pure (hq _)
    | bool _ => exact wpAny_pure (hq _)
    | int _ _ => exact wpAny_pure (hq _)
    | text _ _ => exact wpAny_pure (hq _)
    | @tup a o vs m ks ho hc hd hi =>
      have hT : s.TypeIs (.ref a) "tuple" := ⟨o, ho, hc⟩
      unfold hashByValue
      refine wpAny_bind (wpAny_specialOf hT F.slot_tuple_hash.lookup ?_)
      show wpAny _ _ (seqItems? (.ref a) >>= _) _ _ s
      refine wpAny_bind (wpAny_seqItems ho hd ?_)
      refine wpAny_bind ?_
      show wpAny _ _ (forIn vs _ _) _ _ s
      rw [← Array.forIn_toList]
      refine wpAny_forIn_list _ (fun rest r s' => r.1 = none ∧ s' = s ∧ ∃ ks', NestedAll s.heap ks' rest) _ ?_ ?_ _ _ ⟨rfl, rfl, ks, hi⟩
      · rintro v rest r s' ⟨hr, rfl, ks', hall⟩
        cases hall with | cons h1 h2 =>
        refine wpAny_bind (ih (h := s'.heap) h1 fun b => ?_)
        cases b with
        | false =>
          simp only [Bool.not_false, if_true]
          exact wpAny_pure (wpAny_pure (hq _))
        | true =>
          simp only [Bool.not_true, Bool.false_eq_true, if_false]
          exact wpAny_pure ⟨rfl, rfl, _, h2⟩
      · rintro ⟨r1, r2⟩ s' ⟨hr, rfl, _⟩
        simp only at hr
        subst hr
        exact wpAny_pure (hq _)
/-- no class statement made it -/
theorem ofA_N : ∀ (n : Nat) {k : NestedKey} {v : Value} {Q : Bool → Shared → Prop} {s : Shared}, NestedIs s.heap k v → k.depth ≤ n → Q false s → wpAny (model P w) A (ofAClassStatement n v) Q E s := by
  intro n
  induction n with
  | zero =>
    intro k v Q s hk hd hq
    cases hk with
    | none => exact wpAny_pure hq
    | bool _ => exact wpAny_pure hq
    | int _ _ => exact wpAny_pure hq
    | text _ _ => exact wpAny_pure hq
    | tup _ _ _ _ => simp only [NestedKey.depth] at hd; omega
  | succ n ih =>
    intro k v Q s hk hdp hq
    cases hk with
    | none => exact wpAny_pure hq
    | bool _ => exact wpAny_pure hq
    | int _ _ => exact wpAny_pure hq
    | text _ _ => exact wpAny_pure hq
    | @tup a o vs m ks ho hc hd hi =>
      have hT : s.TypeIs (.ref a) "tuple" := ⟨o, ho, hc⟩
      simp only [NestedKey.depth] at hdp
      unfold ofAClassStatement
      refine wpAny_bind (wpAny_typeOf hT ?_)
      dsimp only
      have e : (("tuple" : String) == "tuple") = true := by decide
      simp only [e, if_true, Bool.not_true, Bool.false_eq_true, if_false]
      try refine wpAny_bind (wpAny_pure ?_)
      try simp only [Bool.not_true, Bool.false_eq_true, if_false]
      show wpAny _ _ (seqItems? (.ref a) >>= _) _ _ s
      refine wpAny_bind (wpAny_seqItems ho hd ?_)
      dsimp only
      refine wpAny_bind ?_
      show wpAny _ _ (forIn vs _ _) _ _ s
      rw [← Array.forIn_toList]
      refine wpAny_forIn_list _ (fun rest r s' => r.1 = none ∧ s' = s ∧ ∃ ks', NestedAll s.heap ks' rest ∧ NestedKey.depthAll ks' ≤ n) _ ?_ ?_ _ _ ⟨rfl, rfl, ks, hi, by omega⟩
      · rintro v rest r s' ⟨hr, rfl, ks', hall, hdd⟩
        cases hall with | cons h1 h2 =>
        simp only [NestedKey.depthAll] at hdd
        refine wpAny_bind (ih h1 (by omega) ?_)
        simp only [Bool.false_eq_true, if_false]
        exact wpAny_pure ⟨rfl, rfl, _, h2, by omega⟩
      · rintro ⟨r1, r2⟩ s' ⟨hr, rfl, _⟩
        simp only at hr
        subst hr
        exact wpAny_pure hq
theorem seen_D {k : NestedKey} {b : Addr} {Q : Bool → Shared → Prop} (hk : IsD P w s.heap k b) {ys : List Value} (hy : ∀ y ∈ ys, ∃ k' c, y = Value.ref c ∧ IsD P w s.heap k' c) (h : Q false s) :
    wpAny (model P w) A (searchCouldBeSeen (.ref b) ys) Q E s := by
  unfold searchCouldBeSeen
  refine wpAny_bind ?_
  refine wpAny_forIn_list _ (fun rest r s' => r.1 = none ∧ s' = s ∧ ∀ y ∈ rest, ∃ k' c, y = Value.ref c ∧ IsD P w s.heap k' c) _ ?_ ?_ _ _ ⟨rfl, rfl, hy⟩
  · rintro v rest r s' ⟨hr, rfl, hall⟩
    obtain ⟨k', c, rfl, hc⟩ := hall v List.mem_cons_self
    have rest' : ∀ y ∈ rest, ∃ k' c, y = Value.ref c ∧ IsD P w s'.heap k' c := fun u hu' => hall u (List.mem_cons_of_mem _ hu')
    dsimp only
    by_cases hv : (b == c || (carriedByValue (.ref b) && carriedByValue (.ref c))) = true
    · refine wp_if_pos hv ?_
      exact wpAny_pure ⟨rfl, rfl, rest'⟩
    · refine wp_if_neg hv ?_
      refine wpAny_bind ((nestedKind P w).quiet hk ?_)
      simp only [Bool.not_true, Bool.false_eq_true, if_false]
      refine wpAny_bind ((nestedKind P w).quiet hc ?_)
      simp only [Bool.not_true, Bool.false_eq_true, if_false]
      refine wpAny_bind (ofA_N 8 hk.1 hk.2 ?_)
      simp only [Bool.false_eq_true, if_false]
      refine wpAny_bind (ofA_N 8 hc.1 hc.2 ?_)
      simp only [Bool.false_eq_true, if_false]
      exact wpAny_pure ⟨rfl, rfl, rest'⟩
  · rintro ⟨r1, r2⟩ s' ⟨hr, rfl, _⟩
    simp only at hr
    subst hr
    exact wpAny_pure h

/-! ### the set of tuples -/
def rwD (w : World) (L : List (Addr × NestedKey)) : List (Int × Value) := L.map fun p => (dhash w p.2, Value.ref p.1)
structure SetDR (P : Program) (w : World) (h : Heap) (a : Addr) (L : List (Addr × NestedKey)) (es : Array (Int × Value)) (ep : Nat) (t : SetTable) : Prop where
  ob : ∃ o, h.get? a = some o ∧ o.ExactSet ∧ o.data = .set es ep t
  rows : es.toList = rwD w L
  tab : TabOk t (L.map fun p => dhash w p.2)
  nd : (L.map (·.2)).Nodup
  tup : ∀ p ∈ L, IsD P w h p.2 p.1
  led : w.params.followText "set-order" = true ∨ t.led = true
  room : L.length * 5 < t.mask * 3
  few : L.length < 64
variable {a : Addr} {L : List (Addr × NestedKey)} {es : Array (Int × Value)} {ep : Nat} {t : SetTable}
theorem SetDR.size (R : SetDR P w s.heap a L es ep t) : es.size = L.length := by
  have h := congrArg List.length R.rows
  unfold rwD at h
  rw [Array.length_toList, List.length_map] at h
  exact h
theorem SetDR.fits (R : SetDR P w s.heap a L es ep t) : t.fits es.size = true := by
  have h1 := R.tab.sz
  rw [List.length_map] at h1
  have h2 := R.size
  have h3 := R.room
  unfold SetTable.fits SetTable.fill
  rw [R.tab.dm, Bool.and_eq_true, beq_iff_eq, decide_eq_true_eq]
  show t.place.size = es.size ∧ t.place.size + 0 ≤ t.mask
  omega
theorem SetDR.entry (R : SetDR P w s.heap a L es ep t) {i : Nat} {p : Addr × NestedKey} (h : L[i]? = some p) : es[i]? = some (dhash w p.2, Value.ref p.1) := by
  rw [← Array.getElem?_toList, R.rows]
  unfold rwD
  rw [List.getElem?_map, h] <;> rfl
theorem SetDR.gw (R : SetDR P w s.heap a L es ep t) : ¬ t.gaveWay = true := by
  unfold SetTable.gaveWay
  rw [mask_odd R.tab.mok]
  decide
theorem sameMem (t : SetTable) : t.sameMemory t.moves t.mask = some true := by
  unfold SetTable.sameMemory
  rw [if_pos (beq_self_eq_true _)]

/-- THE SEARCH: from the c-th step of the way on -/
theorem sD_from (R : SetDR P w s.heap a L es ep t) {x : Addr} {k : NestedKey} (hx : IsD P w s.heap k x) (hu : A.units + 8 < cLine) {K : Nat} (hKf : K < 10 * SetTable.turns t.mask)
    (hK : way t.mask (dhash w k) K ∉ t.place.toList) (hKb : ∀ c, c < K → way t.mask (dhash w k) c ∈ t.place.toList) {Q : SetFound → Shared → Prop}
    (hin : k ∈ L.map (·.2) → Q (.there none) s) (hout : k ∉ L.map (·.2) → Q (.free (way t.mask (dhash w k) K) false) s) :
    ∀ (f c : Nat) (stand : Option SetTable.Probe), stand.getD (t.probeStart (dhash w k)) = nth t.mask (runAt t.mask (SetTable.bits (dhash w k) % (t.mask + 1)) (SetTable.bits (dhash w k))) c → c ≤ K → K - c < f →
      (∀ (i : Nat) p, L[i]? = some p → p.2 = k → ∃ c', c ≤ c' ∧ c' < K ∧ t.place.toList[i]? = some (way t.mask (dhash w k) c')) →
      wpAny (model P w) A (setSearchFrom a (.ref x) (dhash w k) true f stand) Q E s
  | 0, c, stand, _, _, hf, _ => absurd hf (Nat.not_lt_zero _)
  | f + 1, c, stand, hst, hc, hf, hre => by
    obtain ⟨o, ho, hex, hd⟩ := R.ob
    rw [setSearchFrom_succ]
    refine wpAny_bind (wpAny_setState_of ho hd R.fits ?_)
    dsimp only
    refine wp_if_neg R.gw ?_
    try refine wpAny_bind (wpAny_pure ?_)
    have hnd : (nth t.mask (runAt t.mask (SetTable.bits (dhash w k) % (t.mask + 1)) (SetTable.bits (dhash w k))) c).dummy = none := by
      have key : ∀ (n : Nat) (p : SetTable.Probe), p.dummy = none → (nth t.mask p n).dummy = none := by
        intro n
        induction n with
        | zero => intro p h; exact h
        | succ n ih =>
          intro p h
          refine ih (adv t.mask p) ?_
          unfold adv
          split <;> exact h
      exact key c _ rfl
    have sh : ∀ q, nth t.mask (nth t.mask (runAt t.mask (SetTable.bits (dhash w k) % (t.mask + 1)) (SetTable.bits (dhash w k))) c) q = nth t.mask (runAt t.mask (SetTable.bits (dhash w k) % (t.mask + 1)) (SetTable.bits (dhash w k))) (c + q) := fun q => (nth_add t.mask c _ q).symm
    have e1 : ∀ q, (nth t.mask (nth t.mask (runAt t.mask (SetTable.bits (dhash w k) % (t.mask + 1)) (SetTable.bits (dhash w k))) c) q).j = way t.mask (dhash w k) (c + q) := fun q => congrArg SetTable.Probe.j (sh q)
    have spec := go_spec t R.tab.ris R.tab.dm (fun i => (es[i]?.map (·.1)).getD 0) (dhash w k) (10 * SetTable.turns t.mask) (K - c) _ hnd (by omega)
      (fun q hq => by rw [e1]; exact hKb (c + q) (by omega)) (by rw [e1, show c + (K - c) = K by omega]; exact hK)
    have hashAt : ∀ (i : Nat) p, L[i]? = some p → (fun i => (es[i]?.map (·.1)).getD 0) i = dhash w p.2 := fun i p hp => by
      show (es[i]?.map (·.1)).getD 0 = _
      rw [R.entry hp] <;> rfl
    rcases spec with ⟨q, i, hq, hi, hh, hno, hpr⟩ | ⟨hno, hpr⟩
    · -- a candidate
      have hpr' : t.probe (fun i => (es[i]?.map (·.1)).getD 0) (dhash w k) (stand.getD (t.probeStart (dhash w k))) = some (.candidate (way t.mask (dhash w k) (c + q)) i (nth t.mask (runAt t.mask (SetTable.bits (dhash w k) % (t.mask + 1)) (SetTable.bits (dhash w k))) (c + (q + 1)))) := by
        rw [hst, ← e1, ← sh]
        exact hpr
      rw [hpr']
      dsimp only
      rw [e1] at hi
      -- the entry
      have hil : i < L.length := by
        have h1 : i < t.place.toList.length := (List.getElem?_eq_some_iff.mp hi).1
        have h2 := R.tab.sz
        rw [List.length_map] at h2
        rw [Array.length_toList] at h1
        omega
      have hp : L[i]? = some L[i] := List.getElem?_eq_getElem hil
      generalize hpe : L[i] = p at hp
      have hmem : p ∈ L := List.mem_of_getElem? hp
      have hpt := R.tup p hmem
      have rest : wpAny (model P w) A (searchRest a (.ref x) (dhash w k) true f es t (way t.mask (dhash w k) (c + q)) i (nth t.mask (runAt t.mask (SetTable.bits (dhash w k) % (t.mask + 1)) (SetTable.bits (dhash w k))) (c + (q + 1)))) Q E s := by
        unfold searchRest
        rw [R.entry hp]
        dsimp only
        refine wpAny_bind (wpAny_holding ((nestedKind P w).eqBool (room_of hu) hpt hx ?_))
        refine wpAny_bind (wpAny_setState_of ho hd R.fits ?_)
        dsimp only
        by_cases hkk : p.2 = k
        · refine wp_if_pos (by simp [hkk]) ?_
          refine wpAny_pure (hin ?_)
          exact List.mem_map.mpr ⟨p, hmem, hkk⟩
        · refine wp_if_neg (by simp [hkk]) ?_
          try refine wpAny_bind (wpAny_pure ?_)
          rw [sameMem]
          dsimp only
          have hsl : t.slot (way t.mask (dhash w k) (c + q)) = .live i := slot_live R.tab.ris hi
          simp only [if_true, hsl, R.entry hp]
          refine wpAny_bind (wpAny_isSame_ref_self (wpAny_bind (wpAny_pure ?_)))
          simp only [if_true]
          refine wp_if_neg (by simp [hkk]) ?_
          refine sD_from R hx hu hKf hK hKb hin hout f (c + (q + 1)) _ rfl (by omega) (by omega) fun i0 p0 h0 hk0 => ?_
          obtain ⟨c', a1, a2, a3⟩ := hre i0 p0 h0 hk0
          refine ⟨c', ?_, a2, a3⟩
          -- it isn't passed
          rcases Nat.lt_or_ge c' (c + q) with z | z
          · exfalso
            refine hno (c' - c) i0 (by omega) (by rw [e1, show c + (c' - c) = c' by omega]; exact a3) ?_
            exact (hashAt i0 p0 h0).trans (congrArg (dhash w) hk0)
          · rcases Nat.lt_or_ge (c + q) c' with y | y
            · omega
            · exfalso
              have ec : c' = c + q := Nat.le_antisymm y z
              rw [ec] at a3
              have s0 := slot_live R.tab.ris a3
              rw [hsl] at s0
              injection s0 with s0
              rw [← s0, hp] at h0
              exact hkk ((congrArg Prod.snd (Option.some.inj h0)).trans hk0)
      by_cases hl : t.led = true
      · refine wp_if_neg (by simp [hl]) ?_
        try refine wpAny_bind (wpAny_pure ?_)
        exact rest
      · refine wp_if_pos (by simp [hl]) ?_
        refine wpAny_bind (seen_D hx (fun y hy => ?_) ?_)
        · obtain ⟨e, he, ee⟩ := List.mem_map.mp hy
          have he1 : e ∈ es ∧ e.1 = dhash w k := by simpa using he
          have he2 : e ∈ es.toList := by simpa using he1.1
          rw [R.rows] at he2
          obtain ⟨p2, hp2, e2⟩ := List.mem_map.mp he2
          refine ⟨p2.2, p2.1, ?_, R.tup p2 hp2⟩
          rw [← ee, ← e2]
        · refine wp_if_neg (by decide) ?_
          try refine wpAny_bind (wpAny_pure ?_)
          exact rest
    · -- the empty slot
      have hpr' : t.probe (fun i => (es[i]?.map (·.1)).getD 0) (dhash w k) (stand.getD (t.probeStart (dhash w k))) = some (.empty (way t.mask (dhash w k) K) none) := by
        have e2 : way t.mask (dhash w k) K = (nth t.mask (nth t.mask (runAt t.mask (SetTable.bits (dhash w k) % (t.mask + 1)) (SetTable.bits (dhash w k))) c) (K - c)).j := by
          rw [e1, show c + (K - c) = K by omega]
        rw [hst, e2]
        exact hpr
      rw [hpr']
      dsimp only
      refine wpAny_pure (hout fun hm => ?_)
      obtain ⟨p0, h0, hk0⟩ := List.mem_map.mp hm
      obtain ⟨i0, hi0, e0⟩ := List.getElem_of_mem h0
      have h00 : L[i0]? = some p0 := by rw [List.getElem?_eq_getElem hi0, e0]
      obtain ⟨c', a1, a2, a3⟩ := hre i0 p0 h00 hk0
      refine hno (c' - c) i0 (by omega) (by rw [e1, show c + (c' - c) = c' by omega]; exact a3) ?_
      exact (hashAt i0 p0 h00).trans (congrArg (dhash w) hk0)

/-- the search as adding asks for it -/
theorem sD_at (R : SetDR P w s.heap a L es ep t) {x : Addr} {k : NestedKey} (hx : IsD P w s.heap k x) (hu : A.units + 8 < cLine) {Q : SetFound → Shared → Prop}
    (hin : k ∈ L.map (·.2) → Q (.there none) s)
    (hout : ∀ K, k ∉ L.map (·.2) → way t.mask (dhash w k) K ∉ t.place.toList → (∀ c, c < K → way t.mask (dhash w k) c ∈ t.place.toList) → Q (.free (way t.mask (dhash w k) K) false) s) :
    wpAny (model P w) A (setSearch a (.ref x) (dhash w k) true) Q E s := by
  have hroom := R.room
  obtain ⟨K, hKf, hK, hKb⟩ := R.tab.first (by rw [List.length_map]; omega) (dhash w k)
  have hbig : K < 100000 := by
    have : 10 * SetTable.turns t.mask ≤ 1420 := by
      unfold SetTable.turns
      rcases R.tab.mok with e | e | e <;> omega
    omega
  unfold setSearch
  refine sD_from R hx hu hKf hK hKb hin (fun hn => hout K hn hK hKb) 100000 0 none rfl (Nat.zero_le _) (by omega) fun i p hp hk => ?_
  have hi : (L.map fun p => dhash w p.2)[i]? = some (dhash w k) := by rw [List.getElem?_map, hp, ← hk] <;> rfl
  have hil : i < t.place.toList.length := by
    have h1 : i < L.length := (List.getElem?_eq_some_iff.mp hp).1
    have h2 := R.tab.sz
    rw [List.length_map] at h2
    rw [Array.length_toList]
    omega
  have hj := List.getElem?_eq_getElem hil
  obtain ⟨c, hc, e⟩ := R.tab.before hK hi hj
  exact ⟨c, Nat.zero_le _, hc, by rw [hj, e]⟩
end

end Cs
/-! Z32: adding to such a set. -/
namespace Cs
open PySem PySem.Spec PyProof.Rows L2
theorem by_any {α β : Type} {M : Model} {A : Around} {E : Value → Shared → Prop} {s : Shared} {Q : α → Shared → Prop} {c : Prop} [Decidable c] {m n : Sem β} {f : β → Sem α} (hm : wpAny M A (if c then m else n) (fun _ s' => s' = s) E s) (h : ∀ b, wpAny M A (f b) Q E s) :
    wpAny M A (if c then m >>= f else n >>= f) Q E s := by
  by_cases hc : c
  · rw [if_pos hc] at hm ⊢
    exact wpAny_bind (wpAny_mono hm (fun b s' e => by rw [e]; exact h b) fun _ _ e => e)
  · rw [if_neg hc] at hm ⊢
    exact wpAny_bind (wpAny_mono hm (fun b s' e => by rw [e]; exact h b) fun _ _ e => e)
section
variable {P : Program} {w : World} {A : Around} {E : Value → Shared → Prop} {s : Shared}
/-- a tuple isn't the set -/
theorem isD_same {h h' : Heap} {k : NestedKey} {a b : Addr} {o : Obj} {es : Array (Int × Value)} {ep : Nat} {t : SetTable} (hb : IsD P w h k b) (ho : h.get? a = some o) (hd : o.data = .set es ep t) (hs : Heap.SameBut a h h') : IsD P w h' k b := by
  refine ⟨NestedIs.at (fun c ob vs n hc hd2 => ?_) k _ hb.1, hb.2⟩
  refine (hs.2 c fun e => ?_).trans hc
  subst e
  rw [ho] at hc
  cases hc
  rw [hd] at hd2
  cases hd2
theorem rwD_put (L : List (Addr × NestedKey)) (p : Nat) (x : Addr) (k : NestedKey) : rwD w (L.take p ++ (x, k) :: L.drop p) = (rwD w L).take p ++ (dhash w k, Value.ref x) :: (rwD w L).drop p := by
  unfold rwD
  rw [List.map_append, List.map_cons, List.map_take, List.map_drop]
theorem ordD (L : List (Addr × NestedKey)) (es : Array (Int × Value)) (order : Array Nat) (hr : es.toList = rwD w L) (hp : order.toList.Perm (List.range L.length)) :
    ∃ L2, (order.filterMap (es[·]?)).toList = rwD w L2 ∧ L2.Perm L ∧ (L2.map fun p => dhash w p.2) = order.toList.map fun i => (es.map (·.1)).getD i 0 := by
  have hsz : es.size = L.length := by
    have h := congrArg List.length hr
    unfold rwD at h
    rw [Array.length_toList, List.length_map] at h
    exact h
  have ent : ∀ i (h : i < L.length), es[i]? = some (dhash w (L[i]).2, Value.ref (L[i]).1) := fun i h => by
    rw [← Array.getElem?_toList, hr]
    unfold rwD
    rw [List.getElem?_map, List.getElem?_eq_getElem h] <;> rfl
  have key : ∀ l : List Nat, (∀ i ∈ l, i < L.length) → ∃ L2 : List (Addr × NestedKey), l.filterMap (fun i => es[i]?) = rwD w L2 ∧ L2 = l.filterMap (fun i => L[i]?) ∧ (L2.map fun p => dhash w p.2) = l.map fun i => (es.map (·.1)).getD i 0 := by
    intro l
    induction l with
    | nil => intro _; exact ⟨[], rfl, rfl, rfl⟩
    | cons i l ih =>
      intro hl
      have hi := hl i List.mem_cons_self
      obtain ⟨L2, e1, e2, e3⟩ := ih fun j hj => hl j (List.mem_cons_of_mem _ hj)
      refine ⟨L[i] :: L2, ?_, ?_, ?_⟩
      · rw [List.filterMap_cons_some (ent i hi), e1] <;> rfl
      · rw [List.filterMap_cons_some (List.getElem?_eq_getElem hi), e2]
      · rw [List.map_cons, List.map_cons, e3]
        have hi2 : i < (es.map (·.1)).size := by rw [Array.size_map, hsz]; exact hi
        have e4 : (es.map (·.1)).getD i 0 = dhash w (L[i]).2 := by
          have e5 : (es.map (·.1))[i]? = some (dhash w (L[i]).2) := by rw [Array.getElem?_map, ent i hi] <;> rfl
          simp [Array.getD_eq_getD_getElem?, e5]
        rw [e4]
  obtain ⟨L2, e1, e2, e3⟩ := key order.toList fun i hi => List.mem_range.mp (hp.mem_iff.mp hi)
  refine ⟨L2, by first | (rw [Array.toList_filterMap]; exact e1) | simpa using e1, ?_, e3⟩
  have h1 : L2.Perm ((List.range L.length).filterMap fun i => L[i]?) := by
    rw [e2]
    exact hp.filterMap _
  have h2 : (List.range L.length).filterMap (fun i => L[i]?) = L := by
    have key2 : ∀ n, n ≤ L.length → (List.range n).filterMap (fun i => L[i]?) = L.take n := by
      intro n
      induction n with
      | zero => intro _; rfl
      | succ n ih =>
        intro hn
        have hlt : n < L.length := hn
        rw [List.range_succ, List.filterMap_append, ih (Nat.le_of_lt hlt), List.take_succ, List.getElem?_eq_getElem hlt]
        rw [List.filterMap_cons_some (List.getElem?_eq_getElem hlt)] <;> rfl
    rw [key2 L.length (Nat.le_refl _), List.take_length]
  rw [h2] at h1
  exact h1

variable {a : Addr} {L : List (Addr × NestedKey)} {es : Array (Int × Value)} {ep : Nat} {t : SetTable}
/-- the table laid anew, larger -/
theorem rlD {o : Obj} (ho : s.heap.get? a = some o) (hex : o.ExactSet) (hd : o.data = .set es ep t) (hrows : es.toList = rwD w L) (hsz : t.place.size = es.size) (hdm : t.dummies = #[]) (hfl : es.size ≤ t.mask)
    (nd : (L.map (·.2)).Nodup) (tup : ∀ p ∈ L, IsD P w s.heap p.2 p.1) (ld : w.params.followText "set-order" = true ∨ t.led = true) (few : L.length < 64) {wanted M : Nat}
    (hw : SetTable.sizeAbove wanted - 1 = M) (hM : MaskOk M) (hw2 : SetTable.sizeAbove wanted ≤ 128) (hn : L.length * 5 < M * 3) {Q : Unit → Shared → Prop}
    (hQ : ∀ h' L' es' ep' t', Heap.SameBut a s.heap h' → SetDR P w h' a L' es' ep' t' → L'.Perm L → Q () { s with heap := h' }) : wpAny (model P w) A (setRelay a wanted) Q E s := by
  have hsl : es.size = L.length := by
    have h := congrArg List.length hrows
    unfold rwD at h
    rw [Array.length_toList, List.length_map] at h
    exact h
  have hfits : t.fits es.size = true := by
    unfold SetTable.fits SetTable.fill
    rw [hdm, Bool.and_eq_true, beq_iff_eq, decide_eq_true_eq]
    show t.place.size = es.size ∧ t.place.size + 0 ≤ t.mask
    omega
  obtain ⟨t', order, e, hp, T, em, el, ep', ed⟩ := relaid_ok t (hs := es.map (·.1)) (wanted := wanted) hw hM (by rw [Array.size_map, hsl]; omega)
  rw [Array.size_map, hsl] at hp
  obtain ⟨L2, r1, r2, r3⟩ := ordD L es order hrows hp
  rw [← r3] at T
  have hs2 : (order.filterMap (es[·]?)).size = es.size := by
    have h := congrArg List.length r1
    unfold rwD at h
    rw [Array.length_toList, List.length_map, r2.length_eq] at h
    rw [h, hsl]
  rw [setRelay_eq]
  refine wpAny_bind (wpAny_setState_of ho hd hfits ?_)
  dsimp only
  refine wp_if_neg (by rw [sizeLine_eq]; omega) ?_
  try refine wpAny_bind (wpAny_pure ?_)
  rw [e]
  dsimp only
  refine wpAny_bind ?_
  refine wp_if_neg (by rw [hs2]; simp) ?_
  try refine wpAny_bind (wpAny_pure ?_)
  refine wpAny_pure ?_
  dsimp only
  refine wpAny_storeSet_of ho hd ?_ (by rw [hs2, hsl, sizeLine_eq]; omega)
  have sb : Heap.SameBut a s.heap (s.heap.update a (Obj.putSet (order.filterMap (es[·]?)) t')) := Heap.SameBut.update ..
  refine hQ _ L2 (order.filterMap (es[·]?)) (ep + 1) t' sb ?_ r2
  refine ⟨⟨_, store_at ho hd, ⟨hex.1, hex.2.1, hex.2.2⟩, rfl⟩, r1, T, ?_, fun p hpm => isD_same (tup p (r2.mem_iff.mp hpm)) ho hd sb, by rw [el]; exact ld, ?_, by rw [r2.length_eq]; exact few⟩
  · exact (r2.map (·.2)).nodup_iff.mpr nd
  · rw [r2.length_eq, em]
    exact hn

/-- ADDING -/
theorem adD (R : SetDR P w s.heap a L es ep t) {x : Addr} {k : NestedKey} (hx : IsD P w s.heap k x) (hu : A.units + 8 < cLine) (hfew : L.length + 1 < 64) {Q : Bool → Shared → Prop}
    (hQ : ∀ b h' L' es' ep' t', Heap.SameBut a s.heap h' → SetDR P w h' a L' es' ep' t' → (k ∈ L.map (·.2) → L' = L) → (k ∉ L.map (·.2) → L'.Perm ((x, k) :: L)) → Q b { s with heap := h' }) :
    wpAny (model P w) A (setAddHashed a (.ref x) (dhash w k)) Q E s := by
  obtain ⟨o, ho, hex, hd⟩ := R.ob
  have hsl := R.size
  have hroom := R.room
  unfold setAddHashed
  refine wpAny_holding ?_
  rw [show (100000 : Nat) = 99999 + 1 from rfl, setAddHashedIn_succ]
  refine wpAny_bind (wpAny_setState_of ho hd R.fits ?_)
  dsimp only
  refine wp_if_neg (by simp [byScan, Value.scannable]) ?_
  try refine wpAny_bind (wpAny_pure ?_)
  refine wpAny_bind (sD_at R hx hu (fun hm => ?_) fun K hm hK hb => ?_)
  · dsimp only
    exact wpAny_pure (hQ false s.heap L es ep t (Heap.SameBut.refl a s.heap) R (fun _ => rfl) fun z => absurd hm z)
  · dsimp only
    refine wpAny_bind (wpAny_setState_of ho hd R.fits ?_)
    dsimp only
    obtain ⟨q1, q2, q3, q4, q5, q6, q7, q8, q9⟩ := R.tab.put hK hb
    generalize hpt : t.put (way t.mask (dhash w k) K) = pt at q1 q3 q4 q5 q6 q7 q8 q9 ⊢
    obtain ⟨t1, p⟩ := pt
    dsimp only at q1 q3 q4 q5 q6 q7 q8 q9 ⊢
    subst q1
    have hby : wpAny (model P w) A (if t1.plain = true then hashByValue 8 (.ref x) else pure true) (fun (_ : Bool) s' => s' = s) E s := by
      split
      · exact hashBy_N (h := s.heap) 8 hx.1 fun _ => rfl
      · exact wpAny_pure rfl
    refine by_any hby fun byV => ?_
    have t3 : ∀ {hs : List Int}, TabOk t1 hs → TabOk (if byV = true then t1 else { t1 with plain := false }) hs := fun {hs} z => by
      cases byV
      · exact ⟨z.ris, z.dm, z.sz, z.mok, z.bd, z.reach⟩
      · exact z
    have t4 : (if byV = true then t1 else { t1 with plain := false }).mask = t1.mask := by cases byV <;> rfl
    have t5 : (if byV = true then t1 else { t1 with plain := false }).led = t1.led := by cases byV <;> rfl
    have t9 : (if byV = true then t1 else { t1 with plain := false }).fill = t1.fill := by cases byV <;> rfl
    replace q3 := t3 q3
    replace q4 := t4.trans q4
    replace q5 := t5.trans q5
    replace q9 := t9.trans q9
    clear t3 t4 t5 t9 hby q6 q7 q8 hpt
    try dsimp only
    generalize (if byV = true then t1 else { t1 with plain := false }) = t1 at q3 q4 q5 q9 ⊢
    have hin : (SetTable.insertAt es (SetTable.below t.place (way t.mask (dhash w k) K)) (dhash w k, Value.ref x)).toList = rwD w (L.take (SetTable.below t.place (way t.mask (dhash w k) K)) ++ (x, k) :: L.drop (SetTable.below t.place (way t.mask (dhash w k) K))) := by
      rw [SetTable.toList_insertAt, rwD_put, R.rows]
    generalize hpp : SetTable.below t.place (way t.mask (dhash w k) K) = p at q2 q3 hin ⊢
    have pm := put_perm L p (x, k)
    have hlen : (L.take p ++ (x, k) :: L.drop p).length = L.length + 1 := pm.length_eq
    have hhs : (L.take p ++ (x, k) :: L.drop p).map (fun p => dhash w p.2) = (L.map fun p => dhash w p.2).take p ++ dhash w k :: (L.map fun p => dhash w p.2).drop p := by
      rw [List.map_append, List.map_cons, List.map_take, List.map_drop]
    rw [← hhs] at q3
    have nd1 : ((L.take p ++ (x, k) :: L.drop p).map (·.2)).Nodup := by
      refine (pm.map (·.2)).nodup_iff.mpr ?_
      rw [List.map_cons]
      exact List.nodup_cons.mpr ⟨hm, R.nd⟩
    have hes : (SetTable.insertAt es p (dhash w k, Value.ref x)).size = L.length + 1 := by
      have h := congrArg List.length hin
      unfold rwD at h
      rw [Array.length_toList, List.length_map, hlen] at h
      exact h
    generalize SetTable.insertAt es p (dhash w k, Value.ref x) = es1 at hin hes ⊢
    generalize L.take p ++ (x, k) :: L.drop p = L1 at pm hlen q3 nd1 hin
    refine wpAny_bind (wpAny_storeSet_of ho hd ?_ (by rw [hes, sizeLine_eq]; omega))
    have sb : Heap.SameBut a s.heap (s.heap.update a (Obj.putSet es1 t1)) := Heap.SameBut.update ..
    have ho1 := store_at (es' := es1) (t' := t1) ho hd
    generalize s.heap.update a (Obj.putSet es1 t1) = h1 at sb ho1 ⊢
    have tup1 : ∀ p ∈ L1, IsD P w h1 p.2 p.1 := fun p hp => by
      rcases List.mem_cons.mp (pm.mem_iff.mp hp) with e | hp
      · rw [e]; exact isD_same hx ho hd sb
      · exact isD_same (R.tup p hp) ho hd sb
    have ld1 : w.params.followText "set-order" = true ∨ t1.led = true := by rw [q5]; exact R.led
    by_cases hf : t1.tooFull = true
    · first
        | (refine wpAny_bind ?_; refine wp_if_pos (by simp [hf]) ?_)
        | (refine wp_if_pos (by simp [hf]) ?_; refine wpAny_bind ?_)
      have hfull : (L.length + 1) * 5 ≥ t1.mask * 3 := by
        have h := hf
        unfold SetTable.tooFull at h
        rw [decide_eq_true_eq, q9, List.length_map] at h
        exact h
      rw [hsl]
      have hsz1 : t1.place.size = es1.size := by
        have h := q3.sz
        rw [List.length_map, hlen] at h
        rw [h, hes]
      have cases2 : (t.mask = 7 ∧ L.length = 4) ∨ (t.mask = 31 ∧ L.length = 18) := by
        rcases R.tab.mok with e | e | e
        · left; rw [q4, e] at hfull; rw [e] at hroom; exact ⟨e, by omega⟩
        · right; rw [q4, e] at hfull; rw [e] at hroom; exact ⟨e, by omega⟩
        · exfalso; rw [q4, e] at hfull; omega
      have go : ∀ M, SetTable.sizeAbove (SetTable.grown (L.length + 1)) - 1 = M → MaskOk M → SetTable.sizeAbove (SetTable.grown (L.length + 1)) ≤ 128 → (L.length + 1) * 5 < M * 3 →
          wpAny (model P w) A (setRelay a (SetTable.grown (L.length + 1))) (fun _ s' => wpAny (model P w) A (pure true) Q E s') E { s with heap := h1 } := fun M h1' h2' h3' h4' => by
        refine rlD (s := { s with heap := h1 }) ho1 ⟨hex.1, hex.2.1, hex.2.2⟩ rfl hin hsz1 q3.dm (by rw [hes, q4]; rcases cases2 with ⟨e, e2⟩ | ⟨e, e2⟩ <;> omega) nd1 tup1 ld1 (by rw [hlen]; exact hfew) h1' h2' h3' (by rw [hlen]; exact h4') ?_
        intro h2 L2 es2 ep2 t2 sb2 R2 pm2
        refine wpAny_pure (hQ true h2 L2 es2 ep2 t2 (sb.trans sb2) R2 (fun z => absurd z hm) fun _ => pm2.trans pm)
      rcases cases2 with ⟨_, e2⟩ | ⟨_, e2⟩
      · refine go 31 (by rw [e2, size_20]) (.inr (.inl rfl)) (by rw [e2, size_20]; decide) (by omega)
      · refine go 127 (by rw [e2, size_76]) (.inr (.inr rfl)) (by rw [e2, size_76]; decide) (by omega)
    · first
        | refine wp_if_neg (by simp [hf]) ?_
        | (refine wpAny_bind ?_; refine wp_if_neg (by simp [hf]) ?_; refine wpAny_pure ?_)
      refine wpAny_pure (hQ true h1 L1 es1 (ep + 1) t1 sb ⟨⟨_, ho1, ⟨hex.1, hex.2.1, hex.2.2⟩, rfl⟩, hin, q3, nd1, tup1, ld1, ?_, by rw [hlen]; exact hfew⟩ (fun z => absurd z hm) fun _ => pm)
      have h := hf
      unfold SetTable.tooFull at h
      rw [decide_eq_true_eq, q9, List.length_map] at h
      rw [hlen]
      omega
end


end Cs
/-! Z33: sets of texts; both kinds of sets as one. -/
namespace Cs
open PySem PySem.Spec PyProof.Rows L2

def rwX (w : World) (L : List (Value × NestedKey)) : List (Int × Value) := L.map fun p => (p.2.hash w, p.1)
def isX (p : Value × NestedKey) : Prop := ∃ x u, p = (.str x u, .text x)
def TxR (P : Program) (w : World) (h : Heap) (a : Addr) (L : List (Value × NestedKey)) : Prop :=
  ∃ o es ep t, h.get? a = some o ∧ o.ExactSet ∧ o.data = .set es ep t ∧ es.toList.Perm (rwX w L) ∧ (∀ p ∈ L, isX p) ∧ (L.map (·.2)).Nodup ∧ es.size < scanBound ∧ t.fits es.size = true ∧ Ris t.place.toList ∧ (w.params.followText "set-order" = true ∨ t.led = true)
section
variable {P : Program} {w : World} {A : Around} {E : Value → Shared → Prop} {s : Shared} {a : Addr} {L : List (Value × NestedKey)}
theorem str_is (x y : Str) (u : Tok) : (strKind P w).is x (.str y u) = true ↔ y = x := by
  show Value.isStrOf x (.str y u) = true ↔ y = x
  simp [Value.isStrOf]
theorem tx_el {es : Array (Int × Value)} (pm : es.toList.Perm (rwX w L)) (hx : ∀ p ∈ L, isX p) : ElemsOf (strKind P w) es.toList := fun e he => by
  have h1 := pm.mem_iff.mp he
  unfold rwX at h1
  obtain ⟨p, hp, rfl⟩ := List.mem_map.mp h1
  obtain ⟨x, u, rfl⟩ := hx p hp
  exact ⟨⟨x, (str_is x x u).mpr rfl, rfl⟩, rfl⟩
theorem tx_mem {es : Array (Int × Value)} (pm : es.toList.Perm (rwX w L)) (hx : ∀ p ∈ L, isX p) (x : Str) : (∃ e ∈ es.toList, (strKind P w).is x e.2 = true) ↔ NestedKey.text x ∈ L.map (·.2) := by
  constructor
  · rintro ⟨e, he, q⟩
    have h1 := pm.mem_iff.mp he
    unfold rwX at h1
    obtain ⟨p, hp, rfl⟩ := List.mem_map.mp h1
    obtain ⟨y, u, rfl⟩ := hx p hp
    have e2 := (str_is (P := P) (w := w) x y u).mp q
    subst e2
    exact List.mem_map.mpr ⟨_, hp, rfl⟩
  · intro h
    obtain ⟨p, hp, e⟩ := List.mem_map.mp h
    obtain ⟨y, u, rfl⟩ := hx p hp
    have e2 : NestedKey.text y = NestedKey.text x := e
    injection e2 with e2
    subst e2
    refine ⟨((NestedKey.text y).hash w, .str y u), pm.mem_iff.mpr ?_, (str_is y y u).mpr rfl⟩
    exact List.mem_map.mpr ⟨_, hp, rfl⟩
theorem tx_tail {g : Bool → Sem Unit} (hg : ∀ (b : Bool) (s₁ : Shared) (Q' : Unit → Shared → Prop), Q' () s₁ → wpAny (model P w) A (g b) Q' E s₁)
    {o : Obj} {es : Array (Int × Value)} {ep : Nat} {t : SetTable} (ho : s.heap.get? a = some o) (hex : o.ExactSet) (hd : o.data = .set es ep t)
    {es1 : Array (Int × Value)} {t2 : SetTable} (pm1 : es1.toList.Perm (rwX w L)) (x1 : ∀ p ∈ L, isX p) (nd1 : (L.map (·.2)).Nodup)
    (hb1 : es1.size < scanBound) (hf2 : t2.fits es1.size = true) (hr : Ris t2.place.toList) (hl : w.params.followText "set-order" = true ∨ t2.led = true) {wasDummy : Bool} {R : Option Bool → Shared → Prop}
    (hR : ∀ h', Heap.SameBut a s.heap h' → TxR P w h' a L → R (some true) { s with heap := h' }) :
    wpAny (model P w) A (do
        storeSet a es1 t2
        if (!wasDummy && t2.tooFull) = true then do
            g (relayAll t2 es1 (SetTable.grown es1.size)).2.2
            storeSet a (relayAll t2 es1 (SetTable.grown es1.size)).1 (relayAll t2 es1 (SetTable.grown es1.size)).2.1
            pure (some true)
          else pure (some true)) R E s := by
  refine wpAny_bind (wpAny_storeSet_of ho hd ?_ (fits_of_scanBound hb1))
  have ho1 := store_at (es' := es1) (t' := t2) ho hd
  have sb1 := Heap.SameBut.update s.heap a (Obj.putSet es1 t2)
  split
  · have pm := relayAll_perm t2 es1 (SetTable.grown es1.size)
    have hf3 := relayAll_fits t2 es1 (SetTable.grown es1.size)
    have hr3 := relayAll_ris t2 es1 (SetTable.grown es1.size)
    have hl3 := relayAll_led t2 es1 (SetTable.grown es1.size)
    generalize relayAll t2 es1 (SetTable.grown es1.size) = Z at pm hf3 hr3 hl3 ⊢
    obtain ⟨es2, t3, gave⟩ := Z
    dsimp only at pm hf3 hr3 hl3 ⊢
    have hsz : es2.size = es1.size := by rw [← Array.length_toList, pm.length_eq, Array.length_toList]
    have hb2 : es2.size < scanBound := by rw [hsz]; exact hb1
    refine wpAny_bind (hg _ _ _ ?_)
    refine wpAny_bind (wpAny_storeSet_of ho1 rfl ?_ (fits_of_scanBound hb2))
    have ho2 := store_at (es' := es2) (t' := t3) ho1 rfl
    refine wpAny_pure (hR _ (sb1.trans (Heap.SameBut.update _ a _)) ?_)
    exact ⟨_, es2, _, t3, ho2, hex, rfl, pm.trans pm1, x1, nd1, hb2, hf3, hr3, hl.imp id fun z => by rw [hl3]; exact z⟩
  · exact wpAny_pure (hR _ sb1 ⟨_, es1, _, t2, ho1, hex, rfl, pm1, x1, nd1, hb1, hf2, hr, hl⟩)
theorem tx_add {x : Str} {u : Tok} {Q : Bool → Shared → Prop} (R : TxR P w s.heap a L) (room : L.length + 1 < 64)
    (hQ : ∀ b h' L', Heap.SameBut a s.heap h' → TxR P w h' a L' → (NestedKey.text x ∈ L.map (·.2) → L' = L) → (NestedKey.text x ∉ L.map (·.2) → L'.Perm ((.str x u, .text x) :: L)) → Q b { s with heap := h' }) :
    wpAny (model P w) A (setAddHashed a (.str x u) ((strKind P w).hash x)) Q E s := by
  obtain ⟨o, es, ep, t, ho, hex, hd, pm0, hx, nd, hb, hf, hr, hl⟩ := id R
  have hkey : (strKind P w).is x (.str x u) = true := (str_is x x u).mpr rfl
  have hsc : (Value.str x u).scannable = true := rfl
  have hel : ElemsOf (strKind P w) es.toList := tx_el pm0 hx
  have hes : es.size = L.length := by
    have q := pm0.length_eq
    unfold rwX at q
    rw [Array.length_toList, List.length_map] at q
    exact q
  unfold setAddHashed setAddHashedIn
  refine wpAny_holding (wpAny_bind (wpAny_setState_of ho hd hf ?_))
  dsimp only
  rw [byScan_of hsc hb hel]
  simp only [↓reduceIte]
  unfold setAddByScan
  refine wpAny_bind ?_
  refine wpAny_bind (wpAny_rule ?_)
  refine wpAny_bind (wpAny_setScan_of hkey ho hd hf hel ?_)
  cases hfi : List.findIdx? (fun e => (strKind P w).is x e.2) es.toList with
  | some j =>
    dsimp only
    obtain ⟨hj, pj, _⟩ := List.findIdx?_eq_some_iff_getElem.mp hfi
    have hin := (tx_mem (P := P) pm0 hx x).mp ⟨es.toList[j], List.getElem_mem hj, pj⟩
    exact wpAny_pure (wpAny_pure (hQ false s.heap L (Heap.SameBut.refl a s.heap) R (fun _ => rfl) fun z => absurd hin z))
  | none =>
    dsimp only
    have hnk : NestedKey.text x ∉ L.map (·.2) := fun z => by
      obtain ⟨e, he, q⟩ := (tx_mem (P := P) pm0 hx x).mpr z
      have c := List.findIdx?_eq_none_iff.mp hfi e he
      rw [q] at c
      cases c
    have hgw : ∀ (b : Bool) {s₁ : Shared} {Q' : Unit → Shared → Prop}, Q' () s₁ → wpAny (model P w) A (match b with | true => rule "set.scan.the-table-gave-way" | false => pure ()) Q' E s₁ :=
      fun b s₁ Q' q => by cases b <;> first | exact wpAny_pure q | exact wpAny_rule q
    have pm := layNew_perm t es ((strKind P w).hash x) (.str x u)
    have hf1 := layNew_fits t es ((strKind P w).hash x) (.str x u)
    have hr1 := layNew_ris t es ((strKind P w).hash x) (.str x u) hr
    have hl1 := layNew_led t es ((strKind P w).hash x) (.str x u)
    generalize layNew t es ((strKind P w).hash x) (.str x u) = Z at pm hf1 hr1 hl1 ⊢
    obtain ⟨es1, t1, wasDummy, gave⟩ := Z
    dsimp only at pm hf1 hr1 hl1 ⊢
    rw [Array.toList_push] at pm
    have pc : es1.toList.Perm (rwX w ((.str x u, .text x) :: L)) := (pm.trans (List.perm_append_singleton _ _)).trans (pm0.cons _)
    have x1 : ∀ p ∈ (Value.str x u, NestedKey.text x) :: L, isX p := fun p hp => by
      rcases List.mem_cons.mp hp with z | z
      · rw [z]; exact ⟨x, u, rfl⟩
      · exact hx p z
    have nd1 : (((Value.str x u, NestedKey.text x) :: L).map (·.2)).Nodup := List.nodup_cons.mpr ⟨hnk, nd⟩
    have hsz : es1.size = L.length + 1 := by
      have q := pc.length_eq
      unfold rwX at q
      rw [Array.length_toList, List.length_map, List.length_cons] at q
      exact q
    have hb1 : es1.size < scanBound := by
      have : (64 : Nat) ≤ scanBound := by decide
      omega
    have hled : w.params.followText "set-order" = true ∨ t1.led = true := hl.imp id fun z => by rw [hl1]; exact z
    have fin : ∀ h', Heap.SameBut a s.heap h' → TxR P w h' a ((.str x u, .text x) :: L) → Q true { s with heap := h' } := fun h' sb r => hQ true h' _ sb r (fun z => absurd z hnk) fun _ => List.Perm.refl _
    refine wpAny_bind (hgw _ ?_)
    split
    · refine wpAny_bind ?_
      rw [hashByValue_scannable 8 hsc]
      refine wpAny_pure ?_
      refine tx_tail ?_ ho hex hd pc x1 nd1 hb1 ?_ ?_ ?_ ?_
      · intro b s₁ Q' q; cases b <;> first | exact wpAny_pure q | exact wpAny_rule q
      · first | (split <;> first | exact hf1 | exact SetTable.fits_plain_off hf1) | exact hf1
      · first | (split <;> exact hr1) | exact hr1
      · first | (split <;> exact hled) | exact hled
      · intro h' sb r; dsimp only; exact wpAny_pure (fin h' sb r)
    · refine wpAny_bind (wpAny_pure ?_)
      simp only [↓reduceIte]
      refine tx_tail ?_ ho hex hd pc x1 nd1 hb1 hf1 hr1 hled ?_
      · intro b s₁ Q' q; cases b <;> first | exact wpAny_pure q | exact wpAny_rule q
      · intro h' sb r; dsimp only; exact wpAny_pure (fin h' sb r)
end
end Cs
/-! Z34: both kinds of sets as one; set.update's loop. -/
namespace Cs
open PySem PySem.Spec PyProof.Rows L2

theorem nst_keep {h h' : Heap} {k : NestedKey} {v : Value} (x : NestedIs h k v) (hk : ∀ c o, h.get? c = some o → h'.get? c = some o) : NestedIs h' k v := NestedIs.at (fun b o vs n e _ => hk b o e) k v x
section
variable {P : Program} {w : World}
theorem isD_keep {h h' : Heap} {k : NestedKey} {b : Addr} (x : IsD P w h k b) (hk : ∀ c o, h.get? c = some o → h'.get? c = some o) : IsD P w h' k b := by
  exact (nestedKind_stays (prog := P) (w := w)).stays (fun c o _ _ e _ => hk c o e) x
theorem SetDR.keep {h h' : Heap} {a : Addr} {L : List (Addr × NestedKey)} {es : Array (Int × Value)} {ep : Nat} {t : SetTable} (R : SetDR P w h a L es ep t) (ha : ∀ o, h.get? a = some o → h'.get? a = some o) (ht : ∀ p ∈ L, IsD P w h' p.2 p.1) : SetDR P w h' a L es ep t := by
  obtain ⟨o, ho, r⟩ := R.ob
  exact ⟨⟨o, ha o ho, r⟩, R.rows, R.tab, R.nd, ht, R.led, R.room, R.few⟩
/-- a new set -/
theorem setDR_fresh {h : Heap} {a : Addr} (ho : h.get? a = some { cls := .type "set", dict := none, data := .set #[] 0 (.fresh 0 0 (!w.params.followText "set-order")) }) : SetDR P w h a [] #[] 0 (.fresh 0 0 (!w.params.followText "set-order")) where
  ob := ⟨_, ho, ⟨rfl, rfl, rfl⟩, rfl⟩
  rows := rfl
  tab := ⟨List.Pairwise.nil, rfl, rfl, .inl rfl, fun x hx => (by cases hx), fun i h j hi => (by simp at hi)⟩
  nd := List.nodup_nil
  tup := fun p hp => (by cases hp)
  led := by
    show _ ∨ (!w.params.followText "set-order") = true
    cases w.params.followText "set-order"
    · exact .inr rfl
    · exact .inl rfl
  room := by
    show 0 * 5 < 7 * 3
    decide
  few := by
    show 0 < 64
    decide

theorem SetDR.sz {h : Heap} {a : Addr} {L : List (Addr × NestedKey)} {es : Array (Int × Value)} {ep : Nat} {t : SetTable} (R : SetDR P w h a L es ep t) : es.size = L.length := by
  have q := congrArg List.length R.rows
  unfold rwD at q
  rw [Array.length_toList, List.length_map] at q
  exact q
theorem SetDR.ft {h : Heap} {a : Addr} {L : List (Addr × NestedKey)} {es : Array (Int × Value)} {ep : Nat} {t : SetTable} (R : SetDR P w h a L es ep t) : t.fits es.size = true := by
  have h1 := R.tab.sz
  rw [List.length_map] at h1
  have h2 := R.sz
  have h3 := R.room
  unfold SetTable.fits SetTable.fill
  rw [R.tab.dm, Bool.and_eq_true, beq_iff_eq, decide_eq_true_eq]
  show t.place.size = es.size ∧ t.place.size + 0 ≤ t.mask
  omega
end
/-- a kind of set: its members are values with their keys -/
structure SMd (P : Program) (w : World) where
  R : Heap → Addr → List (Value × NestedKey) → Prop
  V : Value → NestedKey → Prop
  add : ∀ {A : Around} {E : Value → Shared → Prop} {s : Shared} {a : Addr} {L : List (Value × NestedKey)} {v : Value} {k : NestedKey} {Q : Bool → Shared → Prop}, A.units + 8 < cLine → R s.heap a L → NestedIs s.heap k v → V v k → L.length + 1 < 64 →
    (∀ b h' tk L', s.toks ≤ tk → Heap.SameBut a s.heap h' → R h' a L' → (k ∈ L.map (·.2) → L' = L) → (k ∉ L.map (·.2) → L'.Perm ((v, k) :: L)) → Q b { s with heap := h', toks := tk }) → wpAny (model P w) A (setAdd a v) Q E s
  keep : ∀ {h h' : Heap} {a : Addr} {L : List (Value × NestedKey)}, R h a L → (∀ o, h.get? a = some o → h'.get? a = some o) → (∀ p ∈ L, NestedIs h' p.2 p.1) → R h' a L
  fresh : ∀ {h : Heap} {a : Addr}, h.get? a = some { cls := .type "set", dict := none, data := .set #[] 0 (.fresh 0 0 (!w.params.followText "set-order")) } → R h a []
  out : ∀ {h : Heap} {a : Addr} {L : List (Value × NestedKey)}, R h a L → ∃ o es ep t, h.get? a = some o ∧ o.cls = .type "set" ∧ o.data = .set es ep t ∧ (es.toList.map (·.2)).Perm (L.map (·.1)) ∧ t.fits es.size = true ∧ es.size < scanBound ∧ Ris t.place.toList ∧ (w.params.followText "set-order" = true ∨ t.led = true)
  nd : ∀ {h : Heap} {a : Addr} {L : List (Value × NestedKey)}, R h a L → (L.map (·.2)).Nodup
section
variable {P : Program} {w : World}
/-- tuples -/
def mdT (P : Program) (w : World) : SMd P w where
  R := fun h a L => ∃ L0 es ep t, SetDR P w h a L0 es ep t ∧ L = L0.map fun q => (Value.ref q.1, q.2)
  V := fun v k => (∃ b, v = .ref b) ∧ k.depth ≤ 8
  add := fun {A E s a L v k Q} hu hR hk hv hl hQ => by
    obtain ⟨L0, es, ep, t, R0, rfl⟩ := hR
    obtain ⟨⟨b, rfl⟩, hd⟩ := hv
    have hm : ∀ j : NestedKey, j ∈ (L0.map fun q => (Value.ref q.1, q.2)).map (·.2) ↔ j ∈ L0.map (·.2) := fun j => by
      rw [List.map_map] <;> exact Iff.rfl
    unfold setAdd
    refine wpAny_holding ?_
    refine wpAny_bind ((nestedKind P w).pyHash (k := k) hu ⟨hk, hd⟩ ?_)
    refine adD (s := { s with toks := s.toks + k.draws }) R0 ⟨hk, hd⟩ hu (by rw [List.length_map] at hl; exact hl) fun bb h' L' es' ep' t' sb R1 c1 c2 => ?_
    refine hQ bb h' (s.toks + k.draws) (L'.map fun q => (Value.ref q.1, q.2)) (Nat.le_add_right _ _) sb ⟨L', es', ep', t', R1, rfl⟩ (fun z => by rw [c1 ((hm k).mp z)]) fun z => ?_
    exact (c2 fun y => z ((hm k).mpr y)).map fun q => (Value.ref q.1, q.2)
  keep := fun {h h' a L} hR ha hk => by
    obtain ⟨L0, es, ep, t, R0, rfl⟩ := hR
    refine ⟨L0, es, ep, t, R0.keep ha fun p hp => ⟨?_, (R0.tup p hp).2⟩, rfl⟩
    exact hk (Value.ref p.1, p.2) (List.mem_map.mpr ⟨p, hp, rfl⟩)
  fresh := fun {h a} ho => ⟨[], #[], 0, _, setDR_fresh ho, rfl⟩
  out := fun {h a L} hR => by
    obtain ⟨L0, es, ep, t, R0, rfl⟩ := hR
    obtain ⟨o, ho, hex, hd⟩ := R0.ob
    have hsz : es.size = L0.length := R0.sz
    refine ⟨o, es, ep, t, ho, hex.1, hd, ?_, R0.ft, ?_, R0.tab.ris, R0.led⟩
    · rw [R0.rows]
      unfold rwD
      rw [List.map_map, List.map_map]
      exact List.Perm.refl _
    · have := R0.few
      have : (64 : Nat) ≤ scanBound := by decide
      omega
  nd := fun {h a L} hR => by
    obtain ⟨L0, es, ep, t, R0, rfl⟩ := hR
    rw [List.map_map]
    exact R0.nd
/-- texts -/
def mdX (P : Program) (w : World) : SMd P w where
  R := TxR P w
  V := fun v k => ∃ x u, v = .str x u ∧ k = .text x
  add := fun {A E s a L v k Q} hu hR hk hv hl hQ => by
    obtain ⟨x, u, rfl, rfl⟩ := hv
    unfold setAdd
    refine wpAny_holding ?_
    refine wpAny_bind ((strKind P w).pyHash ((str_is x x u).mpr rfl) ?_)
    exact tx_add (s := { s with toks := s.toks + 1 }) hR hl fun b h' L' sb R1 c1 c2 => hQ b h' (s.toks + 1) L' (Nat.le_add_right _ _) sb R1 c1 c2
  keep := fun {h h' a L} hR ha hk => by
    obtain ⟨o, es, ep, t, ho, r⟩ := hR
    exact ⟨o, es, ep, t, ha o ho, r⟩
  fresh := fun {h a} ho => ⟨_, _, _, _, ho, ⟨rfl, rfl, rfl⟩, rfl, List.Perm.refl _, fun p hp => (by cases hp), List.nodup_nil, by decide, rfl, List.Pairwise.nil, by
    show _ ∨ (!w.params.followText "set-order") = true
    cases w.params.followText "set-order"
    · exact .inr rfl
    · exact .inl rfl⟩
  out := fun {h a L} hR => by
    obtain ⟨o, es, ep, t, ho, hex, hd, pm, hx, nd, hb, hf, hr, hl⟩ := hR
    refine ⟨o, es, ep, t, ho, hex.1, hd, ?_, hf, hb, hr, hl⟩
    have q := pm.map (·.2)
    unfold rwX at q
    rw [List.map_map] at q
    exact q
  nd := fun {h a L} hR => by
    obtain ⟨o, es, ep, t, ho, hex, hd, pm, hx, nd, r⟩ := hR
    exact nd
end
/-- what the set has got from the first i items -/
structure GotD (ks : List (Value × NestedKey)) (i : Nat) (L : List (Value × NestedKey)) : Prop where
  sub : ∀ p ∈ L, p ∈ ks.take i
  all : ∀ p ∈ ks.take i, p.2 ∈ L.map (·.2)
  len : L.length ≤ i
theorem GotD.zero (ks : List (Value × NestedKey)) : GotD ks 0 [] := ⟨fun p h => (by cases h), fun p h => (by simp at h), Nat.le_refl _⟩
theorem take_next {α : Type} {l : List α} {i : Nat} {x : α} (h : l[i]? = some x) : l.take (i + 1) = l.take i ++ [x] := by
  rw [List.take_succ, h] <;> rfl
theorem GotD.same {ks L : List (Value × NestedKey)} {i : Nat} {x : Value × NestedKey} (g : GotD ks i L) (h : ks[i]? = some x) (hm : x.2 ∈ L.map (·.2)) : GotD ks (i + 1) L := by
  refine ⟨fun p hp => ?_, fun p hp => ?_, Nat.le_succ_of_le g.len⟩
  · rw [take_next h]
    exact List.mem_append_left _ (g.sub p hp)
  · rw [take_next h] at hp
    rcases List.mem_append.mp hp with z | z
    · exact g.all p z
    · rw [List.mem_singleton.mp z]; exact hm
theorem GotD.more {ks L L' : List (Value × NestedKey)} {i : Nat} {x : Value × NestedKey} (g : GotD ks i L) (h : ks[i]? = some x) (pm : L'.Perm (x :: L)) : GotD ks (i + 1) L' := by
  refine ⟨fun p hp => ?_, fun p hp => ?_, ?_⟩
  · rw [take_next h]
    rcases List.mem_cons.mp (pm.mem_iff.mp hp) with e | z
    · rw [e]; exact List.mem_append_right _ (List.mem_singleton.mpr rfl)
    · exact List.mem_append_left _ (g.sub p z)
  · rw [(pm.map (·.2)).mem_iff, List.map_cons]
    rw [take_next h] at hp
    rcases List.mem_append.mp hp with z | z
    · exact List.mem_cons_of_mem _ (g.all p z)
    · rw [List.mem_singleton.mp z]; exact List.mem_cons_self
  · rw [pm.length_eq, List.length_cons]
    exact Nat.succ_le_succ g.len

section
variable {P : Program} {w : World} {A : Around} {E : Value → Shared → Prop} {s : Shared}
/-- set.update's loop -/
theorem set_update_D (Md : SMd P w) {I : Addr} {fp wr : List Addr} {G : Array GenState → Array GenState → Prop} {n : Nat} {Pv : Nat → Value → Prop} {St : Nat → Shared → Prop} {R : Result → Shared → Prop}
    (W : WalksS P w A.in1 I fp wr G n Pv St) (S : Addr) (hSf : S ∉ fp) (ks : List (Value × NestedKey)) (hn : n = ks.length) (hfew : ks.length < 64) (hval : ∀ i v, Pv i v → ∃ p, ks[i]? = some p ∧ v = p.1)
    (h0 : Heap) (hk : ∀ p ∈ ks, NestedIs h0 p.2 p.1 ∧ Md.V p.1 p.2) (hS0 : h0.get? S = none) (hw0 : ∀ b ∈ wr, h0.get? b = none) (hu : A.in1.units + 8 < cLine) :
    ∀ (k i : Nat) (s : Shared), n - i = k → i ≤ n → St i s → (∀ b o, h0.get? b = some o → s.heap.get? b = some o) → (∃ L, Md.R s.heap S L ∧ GotD ks i L) →
      (∀ s' L, Moved (S :: wr) G s s' → Md.R s'.heap S L → GotD ks n L → (∀ b o, h0.get? b = some o → s'.heap.get? b = some o) → R (.ok (.ret .none)) s') →
      codeAny (model P w) A (.builtin "set.update.loop" ⟨[.ref S, .ref I], []⟩) R s := by
  have hSw : S ∉ wr := fun h => hSf (W.sub _ h)
  have hsub : ∀ b ∈ wr, b ∈ S :: wr := fun b hb => List.mem_cons_of_mem _ hb
  have keepM : ∀ {s s' : Shared}, Moved wr G s s' → (∀ b o, h0.get? b = some o → s.heap.get? b = some o) → ∀ b o, h0.get? b = some o → s'.heap.get? b = some o := fun hm hkp b o e =>
    hm.heap b o (fun hb => by rw [hw0 b hb] at e; cases e) (hkp b o e)
  intro k
  induction k with
  | zero =>
    intro i s hk' hi hst hkp ⟨L, hS, g⟩ hR
    have hin : i = n := by omega
    subst hin
    refine codeAny_builtin F.entry_set_update_loop ?_
    rw [Around.under_plainId F.plain_set_update_loop _]
    show wpAny _ A.in1 (pyNext (.ref I) >>= _) _ _ s
    refine wpAny_bind (W.done s _ _ hst fun s' hm => ?_)
    show wpAny _ A.in1 (ret Value.none) _ _ s'
    have hkp' := keepM hm hkp
    have sub : ∀ p ∈ L, p ∈ ks := fun p hp => List.mem_of_mem_take (g.sub p hp)
    exact wpAny_pure (hR s' L (hm.mono hsub) (Md.keep hS (fun o e => hm.heap S o hSw e) fun p hp => nst_keep (hk p (sub p hp)).1 hkp') g hkp')
  | succ k ih =>
    intro i s hk' hi hst hkp ⟨L, hS, g⟩ hR
    have hlt : i < n := by omega
    refine codeAny_builtin F.entry_set_update_loop ?_
    rw [Around.under_plainId F.plain_set_update_loop _]
    show wpAny _ A.in1 (pyNext (.ref I) >>= _) _ _ s
    refine wpAny_bind (W.item i s _ _ hlt hst fun v s' hP hst' hm => ?_)
    obtain ⟨p, hp, rfl⟩ := hval i v hP
    have hkp' := keepM hm hkp
    have sub : ∀ p ∈ L, p ∈ ks := fun p hp => List.mem_of_mem_take (g.sub p hp)
    have hS' : Md.R s'.heap S L := Md.keep hS (fun o e => hm.heap S o hSw e) fun q hq => nst_keep (hk q (sub q hq)).1 hkp'
    have hx : NestedIs s'.heap p.2 p.1 := nst_keep (hk p (List.mem_of_getElem? hp)).1 hkp'
    show wpAny _ A.in1 (holding [p.1] (setAdd S p.1) >>= _) _ _ s'
    refine wpAny_bind (wpAny_holding ?_)
    refine Md.add hu hS' hx (hk p (List.mem_of_getElem? hp)).2 (by have := g.len; omega) fun b h' tk L' htk hsb hS2 c1 c2 => ?_
    have g' : GotD ks (i + 1) L' := by
      rcases Classical.em (p.2 ∈ L.map (·.2)) with c | c
      · rw [c1 c]; exact g.same hp c
      · exact g.more hp (c2 c)
    have hkp2 : ∀ b o, h0.get? b = some o → h'.get? b = some o := fun b o e => (hsb.2 b (fun z => by rw [z, hS0] at e; cases e)).trans (hkp' b o e)
    refine wpAny_pure ⟨plainId_quiet F.plain_set_update_loop _, ih (i + 1) _ (by omega) hlt (W.frame _ s' _ _ hst' htk fun b hb o e => ?_) hkp2 ⟨L', hS2, g'⟩ fun s'' L2 hm'' hS'' g'' hkp'' => ?_⟩
    · rw [hsb.2 b (fun h : b = S => hSf (by rw [← h]; exact hb))]; exact e
    · refine hR s'' L2 (Moved.trans W.gtrans ((hm.mono hsub).then_heap htk fun b o hb e => ?_) hm'') hS'' g'' hkp''
      rw [hsb.2 b (fun h : b = S => hb (by rw [h]; exact List.mem_cons_self))]; exact e

end
end Cs
/-! Z35: set(..) of a list. -/
namespace Cs
open PySem PySem.Spec PyProof.Rows L2
section
variable {P : Program} {w : World} {A : Around} {E : Value → Shared → Prop} {s : Shared}
/-- set(xs) -/
theorem call_setG (Md : SMd P w) {l : Addr} {items : Array Value} (ks : List (Value × NestedKey)) {Q : Value → Shared → Prop} (hh : A.handled = none) (hl : s.heap.IsList l items) (hit : items.toList = ks.map (·.1))
    (hk : ∀ p ∈ ks, NestedIs s.heap p.2 p.1 ∧ Md.V p.1 p.2) (hfew : ks.length < 64) (hu : A.units + 20 < cLine)
    (h : ∀ (h' : Heap) (tk : Nat) L, Md.R h' s.heap.objs.size L → GotD ks ks.length L → (∀ b o, s.heap.get? b = some o → h'.get? b = some o) → Q (.ref s.heap.objs.size) { s with heap := h', toks := tk }) :
    wpAny (model P w) A (call (.type "set") [.ref l]) Q E s := by
  have hisz : items.size = ks.length := by
    have q := congrArg List.length hit
    rw [Array.length_toList, List.length_map] at q
    exact q
  obtain ⟨c, tl, hmro⟩ := F.called_set.mro
  have hmade := F.called_set.made
  have hsub := F.called_set.sub
  refine wpAny_call (codeAny_of_tree ?_)
  show wpAny _ _ (callAny (.type "set") _) _ _ _
  refine wpAny_pure ⟨Code.quiet_builtin _ (by decide +kernel), codeAny_builtin F.entry_type_call ?_⟩
  rw [Around.under_plain (weight_type_call_type "set" [.ref l] []) rfl]
  have h1 := F.called_set.notType
  have h2 := F.called_set.canCreate
  have hct := F.typeCall_set_1 (.ref l)
  repeat (any_goals (first | assumption | wp_step))

  refine codeAny_mono (code_set_led1 (.ref l) (E := E) (Q₁ := fun obj s₁ => obj = .ref s.heap.objs.size ∧ s₁ = { s with heap := s.heap.push { cls := .type "set", dict := none, data := .set #[] 0 (.fresh 0 0 (!w.params.followText "set-order")) } }) ⟨rfl, rfl⟩) fun r s₁ hr => ?_
  cases r with
  | error e => exact hr
  | ok fl =>
    cases fl with
    | ret obj =>
      obtain ⟨rfl, rfl⟩ := hr
      have hS : (s.heap.push { cls := .type "set", dict := none, data := .set #[] 0 (.fresh 0 0 (!w.params.followText "set-order")) }).get? s.heap.objs.size = some { cls := .type "set", dict := none, data := .set #[] 0 (.fresh 0 0 (!w.params.followText "set-order")) } := Heap.get?_push_size _ rfl
      have hT : Shared.TypeIs { s with heap := s.heap.push { cls := .type "set", dict := none, data := .set #[] 0 (.fresh 0 0 (!w.params.followText "set-order")) } } (.ref s.heap.objs.size) "set" := ⟨_, hS, rfl⟩
      have hli := F.called_set.init.lookup
      have hbi := F.called_set.init.bind (.ref s.heap.objs.size)
      repeat (any_goals (first | assumption | wp_step))

      refine codeAny_mono (codeAny_call_builtin (R := wants (fun r s₂ => r = .none ∧ ∃ h' tk L, s₂ = { s with heap := h', toks := tk } ∧ Md.R h' s.heap.objs.size L ∧ GotD ks ks.length L ∧
          (∀ b o, s.heap.get? b = some o → h'.get? b = some o)) E) F.called_set.init.plain F.entry_set_init (check_set_init_1 hT ?_)) fun r₂ s₂ hr₂ => ?_
      · obtain ⟨ol, hol, hcl, nl, hdl⟩ := hl
        obtain ⟨ocls, odict, odata, oslots⟩ := ol
        simp only at hcl hdl
        subst hcl; subst hdl
        have hol' : (s.heap.push { cls := .type "set", dict := none, data := .set #[] 0 (.fresh 0 0 (!w.params.followText "set-order")) }).get? l = some { cls := .type "list", dict := odict, data := .seq items nl, slots := oslots } := Heap.get?_push_of_some _ hol
        have hsls := F.sub_list_set
        have hslf := F.sub_list_frozenset
        have hne : (Value.type "list" == Value.type "dict") = false := by decide
        have hl1 : (s.heap.push { cls := .type "set", dict := none, data := .set #[] 0 (.fresh 0 0 (!w.params.followText "set-order")) }).IsList l items := ⟨_, hol', rfl, nl, rfl⟩
        unfold Builtin.«set.__init__» noKeywords Builtin.Frozenset.updateFrom
        generalize hPI : pyIter = PI
        wp_walk
        subst hPI

        refine wpAny_pyIter_list hl1 ?_
        refine wpAny_bind (wpAny_runValue ?_)
        have hlS : l < s.heap.objs.size := Heap.lt_size hol
        have hh3 : A.in1.in1.in1.handled = none := by simp [hh]
        have hz1 : (s.heap.push { cls := .type "set", dict := none, data := .set #[] 0 (.fresh 0 0 (!w.params.followText "set-order")) }).objs.size = s.heap.objs.size + 1 := Heap.size_push ..
        have hneI : l ≠ (s.heap.push { cls := .type "set", dict := none, data := .set #[] 0 (.fresh 0 0 (!w.params.followText "set-order")) }).objs.size := by
          rw [Heap.size_push]; exact Nat.ne_of_lt (Nat.lt_succ_of_lt hlS)
        have hSf : s.heap.objs.size ∉ [(s.heap.push { cls := .type "set", dict := none, data := .set #[] 0 (.fresh 0 0 (!w.params.followText "set-order")) }).objs.size, l] := by
          rw [Heap.size_push]; simp only [List.mem_cons, List.mem_singleton, List.not_mem_nil, or_false, not_or]
          exact ⟨Nat.ne_of_lt (Nat.lt_succ_self _), Nat.ne_of_gt hlS⟩
        have hval : ∀ (i : Nat) (v : Value), items[i]? = some v → ∃ p, ks[i]? = some p ∧ v = p.1 := fun i v hv => by
          have q : items.toList[i]? = some v := by rw [Array.getElem?_toList]; exact hv
          rw [hit, List.getElem?_map] at q
          cases hq : ks[i]? with
          | none => rw [hq] at q; cases q
          | some p =>
            rw [hq] at q
            exact ⟨p, rfl, (Option.some.inj q).symm⟩
        have none_of : ∀ b, s.heap.objs.size ≤ b → s.heap.get? b = none := fun b hb => by
          cases q : s.heap.get? b with
          | none => rfl
          | some o => exact absurd (Nat.lt_of_lt_of_le (Heap.lt_size q) hb) (Nat.lt_irrefl _)
        refine set_update_D Md ((Walks.list hh3 _ l hneI items).toS) s.heap.objs.size
          hSf ks hisz hfew hval s.heap hk (none_of _ (Nat.le_refl _)) (fun b hb => none_of b (by
            rw [List.mem_singleton.mp hb, Heap.size_push]
            exact Nat.le_succ _)) (by show A.units + 1 + 1 + 1 + 8 < cLine; omega) (items.size - 0) 0 _ (by omega) (Nat.zero_le _)
          ⟨⟨_, Heap.get?_push_size _ rfl, rfl, rfl⟩, (hl1.push _)⟩ (fun b o e => Heap.get?_push_of_some _ (Heap.get?_push_of_some _ e)) ?hS0 ?hR
        case hS0 =>
          have hget : ((s.heap.push { cls := .type "set", dict := none, data := .set #[] 0 (.fresh 0 0 (!w.params.followText "set-order")) }).push { cls := .type "list_iterator", data := .fields #[.ref l, .int 0 0] }).get? s.heap.objs.size
              = some { cls := .type "set", dict := none, data := .set #[] 0 (.fresh 0 0 (!w.params.followText "set-order")) } := Heap.get?_push_of_some _ hS
          exact ⟨[], Md.fresh hget, GotD.zero ks⟩
        case hR =>
          intro s' L hm hS' g' hkp
          obtain ⟨h', g2, d', tk', os'⟩ := s'
          have eg : g2 = s.gens := hm.gens
          have ed : d' = s.drawn := hm.drawn
          have eo : os' = s.os := hm.os
          subst eg; subst ed; subst eo
          show wpAny _ _ _ _ _ _
          refine wpAny_pure ?_
          show wpAny _ _ (ret Value.none) _ _ _
          rw [hisz] at g'
          exact wpAny_pure ⟨rfl, h', tk', L, rfl, hS', g', hkp⟩

      · cases r₂ with
        | error e => exact hr₂
        | ok fl₂ =>
          cases fl₂ with
          | ret r =>
            obtain ⟨rfl, h', tk, L, rfl, hS', g', hk'⟩ := hr₂
            repeat (any_goals (first | assumption | wp_step))
            exact h _ _ _ hS' g' hk'
          | _ => exact hr₂.elim
    | _ => exact hr.elim


end
end Cs
/-! Z36: sorted(set(..)) of a list. -/
namespace Cs
open PySem PySem.Spec PyProof.Rows L2

theorem perm_lift {α β : Type} {f : α → β} {m n : List β} (h : m.Perm n) : ∀ {l : List α}, n = l.map f → ∃ l' : List α, l'.Perm l ∧ l'.map f = m := by
  induction h with
  | nil =>
    intro l e
    cases l with
    | nil => exact ⟨[], .refl _, rfl⟩
    | cons a l => cases e
  | @cons x m n _ ih =>
    intro l e
    cases l with
    | nil => cases e
    | cons a l =>
      injection e with e1 e2
      obtain ⟨l', p, q⟩ := ih e2
      exact ⟨a :: l', p.cons a, by rw [List.map_cons, q, e1]⟩
  | swap x y m =>
    intro l e
    cases l with
    | nil => cases e
    | cons a l =>
      cases l with
      | nil => injection e with _ e2; cases e2
      | cons b l =>
        injection e with e1 e2
        injection e2 with e2 e3
        exact ⟨b :: a :: l, .swap a b l, by rw [List.map_cons, List.map_cons, ← e1, ← e2, ← e3]⟩
  | trans _ _ ih1 ih2 =>
    intro l e
    obtain ⟨l1, p1, q1⟩ := ih2 e
    obtain ⟨l2, p2, q2⟩ := ih1 q1.symm
    exact ⟨l2, p2.trans p1, q2⟩
theorem keyed {h : Heap} : ∀ {d : List D} {its : List Value}, CDs h d its → ∃ ks : List (Value × NestedKey), ks.map (·.1) = its ∧ ks.map (·.2) = d.map nk ∧ ∀ p ∈ ks, ∃ x ∈ d, p.2 = nk x ∧ CD h x p.1
  | _, _, .nil => ⟨[], rfl, rfl, fun p hp => (by cases hp)⟩
  | _, _, .cons (d := x) (v := v) (l := d) (vs := vs) a r => by
    obtain ⟨ks, e1, e2, e3⟩ := keyed r
    refine ⟨(v, nk x) :: ks, by rw [List.map_cons, e1], by rw [List.map_cons, List.map_cons, e2], fun p hp => ?_⟩
    rcases List.mem_cons.mp hp with z | z
    · rw [z]; exact ⟨x, List.mem_cons_self, rfl, a⟩
    · obtain ⟨y, h1, h2⟩ := e3 p z
      exact ⟨y, List.mem_cons_of_mem _ h1, h2⟩
theorem unkeyed {h : Heap} {d : List D} : ∀ {ks : List (Value × NestedKey)}, (∀ p ∈ ks, ∃ x ∈ d, p.2 = nk x ∧ CD h x p.1) → ∃ ds, CDs h ds (ks.map (·.1)) ∧ ds.map nk = ks.map (·.2) ∧ ∀ x ∈ ds, x ∈ d
  | [], _ => ⟨[], .nil, rfl, fun p hp => (by cases hp)⟩
  | p :: ks, q => by
    obtain ⟨ds, e1, e2, e3⟩ := unkeyed fun r hr => q r (List.mem_cons_of_mem _ hr)
    obtain ⟨x, h1, h2, h3⟩ := q p List.mem_cons_self
    refine ⟨x :: ds, .cons h3 e1, by rw [List.map_cons, List.map_cons, e2, h2], fun y hy => ?_⟩
    rcases List.mem_cons.mp hy with z | z
    · rw [z]; exact h1
    · exact e3 y z
theorem allTup8_mem : ∀ {l : List D}, allTup8 l = true → ∀ x ∈ l, ∃ m, x = .tup m ∧ tall x 8 = true
  | [], _, x, m => by simp at m
  | .tup a :: r, h, x, m => by
    unfold allTup8 at h
    cases q : tall (.tup a) 8 with
    | false => rw [q] at h; cases h
    | true =>
      rw [q] at h
      rcases List.mem_cons.mp m with z | z
      · rw [z]; exact ⟨a, rfl, q⟩
      · exact allTup8_mem h x z
  | .non :: _, h, _, _ => by cases h
  | .int _ :: _, h, _, _ => by cases h
  | .str _ :: _, h, _, _ => by cases h
theorem allStr_mem : ∀ {l : List D}, allStr l = true → ∀ x ∈ l, ∃ m, x = .str m
  | [], _, x, m => by simp at m
  | .str a :: r, h, x, m => by
    rcases List.mem_cons.mp m with z | z
    · rw [z]; exact ⟨a, rfl⟩
    · exact allStr_mem (show allStr r = true from h) x z
  | .non :: _, h, _, _ => by cases h
  | .int _ :: _, h, _, _ => by cases h
  | .tup _ :: _, h, _, _ => by cases h
theorem nk_back {l m : List D} (h : l.map nk = m.map nk) : l = m := by
  induction l generalizing m with
  | nil =>
    cases m with
    | nil => rfl
    | cons _ _ => cases h
  | cons a l ih =>
    cases m with
    | nil => cases h
    | cons b m =>
      injection h with h1 h2
      rw [nk_inj h1, ih h2]
section
variable {X : Cx} {pins : List (Addr × Obj)} {σ : L2.St} {H : Hp} {s : Shared}
/-- sorted of a set that stands at a -/
theorem sorted_set {A : Around} {Md : SMd X.prog X.w} {a l : Addr} {L ks : List (Value × NestedKey)} {d r : List D} {xs : List V} {its : List Value} {Q : Value → Shared → Prop} {E : Value → Shared → Prop} (hh : A.handled = none) (hu : A.units + 64 < cLine)
    (R : Md.R s.heap a L) (G : GotD ks ks.length L) (e1 : ks.map (·.1) = its) (e2 : ks.map (·.2) = d.map nk) (e3 : ∀ p ∈ ks, ∃ x ∈ d, p.2 = nk x ∧ CD s.heap x p.1) (hl : d.length < 64) (ht : ∀ x ∈ d, tall x 30 = true) (hr : srtU d = some r)
    (fin : ∀ s' p out c, (∀ b o, s.heap.get? b = some o → s'.heap.get? b = some o) → s'.gens = s.gens → s'.os = s.os → s.heap.objs.size ≤ p → s'.heap.get? p = some (seqObj "list" out c) → CDs s.heap r out.toList → (∀ v ∈ out.toList, v ∈ its) → r.length < 64 → Q (.ref p) s') :
    wpAny (model X.prog X.w) A (call (.builtin "sorted") [.ref a]) Q E s := by
  obtain ⟨hc, hk, hin, hout⟩ := srtU_ok hr
  have sub : ∀ p ∈ L, p ∈ ks := fun p hp => List.mem_of_mem_take (G.sub p hp)
  have all : ∀ p ∈ ks, p.2 ∈ L.map (·.2) := fun p hp => G.all p (by rw [List.take_length]; exact hp)
  have rn : r.Nodup := (chkR_nodup hc).1
  have keyd : ∀ x ∈ d, nk x ∈ L.map (·.2) := fun x hx => by
    have h1 : nk x ∈ ks.map (·.2) := by rw [e2]; exact List.mem_map.mpr ⟨x, hx, rfl⟩
    obtain ⟨p, hp, ep⟩ := List.mem_map.mp h1
    rw [← ep]
    exact all p hp
  have rl : ∀ {L1 : List (Value × NestedKey)} {ds : List D}, L1.Perm L → ds.map nk = L1.map (·.2) → (∀ x ∈ ds, x ∈ d) → ds.Perm r := fun {L1 ds} p1 em hs => by
    have n1 : (L1.map (·.2)).Nodup := (p1.map (·.2)).nodup_iff.mpr (Md.nd R)
    have nd : ds.Nodup := by
      rw [← em] at n1
      exact List.Pairwise.of_map nk (fun _ _ hne e => hne (congrArg nk e)) n1
    refine (List.perm_ext_iff_of_nodup nd rn).mpr fun x => ⟨fun hx => hin x (hs x hx), fun hx => ?_⟩
    have h1 := keyd x (hout x hx)
    have h2 : nk x ∈ ds.map nk := by
      rw [em]
      exact (p1.map (·.2)).mem_iff.mpr h1
    obtain ⟨y, hy, ey⟩ := List.mem_map.mp h2
    rw [← nk_inj ey]
    exact hy
  have rlen : r.length < 64 := by
    obtain ⟨ds, c1, em, hs⟩ := unkeyed (h := s.heap) (d := d) (ks := L) fun p hp => e3 p (sub p hp)
    have q := rl (List.Perm.refl L) em hs
    have h1 := q.length_eq
    have h2 : ds.length = L.length := by
      have := congrArg List.length em
      rw [List.length_map, List.length_map] at this
      exact this
    have h3 := G.len
    have h4 : ks.length = d.length := by
      have := congrArg List.length e2
      rw [List.length_map, List.length_map] at this
      exact this
    omega
  obtain ⟨o, es, ep, t, ho, hcl, hd, pm, hf, hsz, hris, hled⟩ := Md.out R
  refine sorted_data (u := .ref a) (fun vs => ∀ v ∈ vs, v ∈ its) hc hk (fun x m => ht x (hout x m)) rlen hu (fun Q' fin' => ?_) fun s' p out c vs k g o z e cd pm G => ?_
  · refine collect_set (A := A.in1) hh ⟨o, ho, hcl, hd⟩ hf hsz hris hled fun s1 out k1 z1 g1 o1 p1 => ?_
    obtain ⟨L1, q1, q2⟩ := perm_lift (p1.trans pm) rfl
    obtain ⟨ds, c1, em, hs⟩ := unkeyed (h := s.heap) (d := d) (ks := L1) fun p hp => e3 p (sub p (q1.mem_iff.mp hp))
    rw [q2] at c1
    refine fin' out ds s1 k1 z1 g1 o1 c1 (rl q1 em hs) fun v hv => ?_
    rw [← q2] at hv
    obtain ⟨p, hp, rfl⟩ := List.mem_map.mp hv
    rw [← e1]
    exact List.mem_map.mpr ⟨p, sub p (q1.mem_iff.mp hp), rfl⟩
  · exact fin s' p out c k g o z e cd (fun v hv => G v (pm.mem_iff.mp hv)) rlen
end
theorem boot_set' : bootBuiltins "set" = some (.type "set") := by decide +kernel
section
variable {X : Cx} {c : Nat → Addr} {a : Expr} {ea : Ev} {p p2 pos pos2 : Pos}
theorem e_srtSet {k : Nat} (hr : Room k X.A) (hg : Gl X "sorted") (hm : X.mg "sorted" = none) (hg2 : Gl X "set") (hm2 : X.mg "set" = none) (ha : EE X c a ea)
    (he : starEach [.Call (.Name "set" p2) [a] [] pos2] X.env = (false, eval (.Call (.Name "set" p2) [a] [] pos2) X.env) :: starEach [] X.env := by rfl) (he2 : starEach [a] X.env = (false, eval a X.env) :: starEach [] X.env := by rfl) :
    EE X c (.Call (.Name "sorted" p) [.Call (.Name "set" p2) [a] [] pos2] [] pos) (cUn oSrtSet ea) := by
  refine ⟨fun pins s σ H Q I h => ?_⟩
  obtain ⟨ι, σa, S, z, S', hL, R, e, kk⟩ := h
  unfold cUn at e
  split at e
  · rename_i x1 S1 q1
    unfold oSrtSet at e
    split at e
    · rename_i n
      split at e
      · rename_i xs q2
        split at e
        · rename_i d q3
          cases hm8 : cond (allTup8 d) true (allStr d) with
          | false => rw [hm8] at e; cases e
          | true =>
          cases hb : brief d with
          | false => rw [hm8, hb] at e; cases e
          | true =>
          cases hs : srtU d with
          | none => rw [hm8, hb, hs] at e; cases e
          | some r =>
          rw [hm8, hb, hs] at e
          have e : S1.new (.lst (r.map .dat)) = some (z, S') := e
          have hlt := brief_lt hb
          refine wpAny_Call_Name_kw (ld_blt I hg hm boot_sorted ?_)
          refine PyProof.Rows.callWith_builtin1 ?_ he (by rfl)
          rw [he]
          show wpAny _ _ (spliced ((false, eval (.Call (.Name "set" p2) [a] [] pos2) X.env) :: backTo pos (starEach [] X.env))) _ _ s
          refine Calls.spliced_cons ?_
          refine wpAny_Call_Name_kw (ld_blt I hg2 hm2 boot_set' ?_)
          refine PyProof.Rows.callWith_type1 ?_ he2 rfl
          rw [he2]
          show wpAny _ _ (spliced ((false, eval a X.env) :: backTo pos2 (starEach [] X.env))) _ _ s
          refine Calls.spliced_cons (thn (ha.run pins s σ H (fun v H1 => ∃ ι1, Ext ι S.m H ι1 S1.m H1 ∧ RS (gX X c) ι1 S1 H1 ∧ RA X.K ι1 S1.m H1 (.obj n) v) I ⟨ι, σa, S, _, S1, hL, R, q1, fun ι1 H1 v x R r => ⟨ι1, x, R, r⟩⟩) fun xv s1 ⟨v, H1, I1, rv1, ι1, x1, R1, ra⟩ => ?_)
          refine Calls.spliced_nil ?_
          obtain ⟨hn, rfl⟩ := ra.objn
          obtain rfl : xv = Value.ref (ι1 n) := rv1
          obtain ⟨vs, hH, rr⟩ := (R1.ob n _ q2).2
          obtain ⟨its, rv, pl, hz⟩ := I1.list (SqL.of hH)
          have rds := datas_rd q3 rr
          have cds := cds_of I1 rds rv
          obtain ⟨ks, e1, e2, e3⟩ := keyed cds
          have klen : ks.length = d.length := by
            have := congrArg List.length e2
            rw [List.length_map, List.length_map] at this
            exact this
          have main : ∀ Md : SMd X.prog X.w, (∀ p ∈ ks, Md.V p.1 p.2) → (∀ x ∈ d, tall x 30 = true) → wpAny (model X.prog X.w) X.A (call (.type "set") [.ref (ι1 n)]) (fun v s2 => wpAny (model X.prog X.w) X.A (spliced (backTo pos (starEach [] X.env))) (fun vs s3 => wpAny (model X.prog X.w) X.A (call (.builtin "sorted") (v :: vs)) (EP X pins σ Q) X.xe s3) X.xe s2) X.xe s1 := fun Md hV h30 => by
            refine call_setG Md ks hr.hd pl.isList (by show its = _; rw [e1]) (fun p hp => ?_) (by rw [klen]; exact hlt) (by have := hr.un; omega) fun h' tk L hR G kp => ?_
            · obtain ⟨x, _, ex, cx⟩ := e3 p hp
              exact ⟨by rw [ex]; exact cx.key, hV p hp⟩
            · refine Calls.spliced_nil ?_
              have I2 : Inv X pins σ H1 { s1 with heap := h', toks := tk } := I1.kept kp
              refine sorted_set (s := { s1 with heap := h', toks := tk }) (l := ι1 n) (xs := vs) hr.hd (by have := hr.un; omega) hR G e1 e2 (fun p hp => ?_) hlt h30 hs fun s' p out c4 k4 g4 o4 z4 e4 cd hin hrl => ?_
              · obtain ⟨x, hx, ex, cx⟩ := e3 p hp
                exact ⟨x, hx, ex, cx.keep fun b o e _ => kp b o e⟩
              · obtain ⟨ys, h1, h2⟩ := back_vals cd fun v m => all_vals I2 rds rv v (hin v m)
                refine new_list I2 k4 g4 o4 z4 e4 h1 ?_ fun hnp => ?_
                · have w1 := h2.length
                  rw [sizeLine_eq]
                  omega
                · obtain ⟨ι', R2, x2, r2⟩ := R1.new1 (ho := .lst ys) e hnp fun ι' x' => ⟨ys, upd_same, RDs.as (RDs.mono x'.kp h2)⟩
                  exact kk ι' _ _ (x1.trans x2) R2 r2
          cases h8 : allTup8 d with
          | true =>
            refine main (mdT X.prog X.w) (fun p hp => ?_) fun x hx => let ⟨_, _, t⟩ := allTup8_mem h8 x hx; tall_mono t (by decide)
            obtain ⟨x, hx, ex, cx⟩ := e3 p hp
            obtain ⟨m, rfl, t8⟩ := allTup8_mem h8 x hx
            refine ⟨?_, by rw [ex]; exact nk_depth _ 8 t8⟩
            generalize p.1 = pv at cx
            cases cx
            exact ⟨_, rfl⟩
          | false =>
            rw [h8] at hm8
            have hm8 : allStr d = true := hm8
            refine main (mdX X.prog X.w) (fun p hp => ?_) fun x hx => by
              obtain ⟨m, rfl⟩ := allStr_mem hm8 x hx
              rfl
            obtain ⟨x, hx, ex, cx⟩ := e3 p hp
            obtain ⟨m, rfl⟩ := allStr_mem hm8 x hx
            rw [ex]
            generalize p.1 = pv at cx
            cases cx
            exact ⟨_, _, rfl, rfl⟩
        · cases e
      · cases e
    · cases e
  · cases e
end
end Cs
/-! Z37: sorted({.. for .. in ()}). -/
namespace Cs
open PySem PySem.Spec PyProof.Rows L2 PpSet

def rSrt0 (w : World) : List V → Hp → VK → Prop := fun vs H Q => ∃ a : Addr, vs = [V.ref a] ∧ H a = some (SetBO w a (fun _ => false) 0) ∧ ∀ p : Addr, H p = none → Q (.ref p) (upd H p (.lst []))
theorem cr_srt0 {X : Cx} (hd : X.A.handled = none) (hu : X.A.units + 64 < cLine) : CallR X (.builtin "sorted") (rSrt0 X.w) := by
  intro pins s σ H vs us Q I r0 q
  obtain ⟨a, rfl, ha, q⟩ := q
  rw [Vals.ref1 r0]
  obtain ⟨o, es, ep, t, ho, hex, hdt, _, _, _, hb, hf, h0, hris, hled⟩ := setBO_get I ha
  have es0 : es.toList.map (·.2) = [] := by
    have : es.toList = [] := by
      rw [← List.length_eq_zero_iff, Array.length_toList]
      exact h0
    rw [this]
    rfl
  refine sorted_data (r := []) (u := .ref a) (fun vs => vs = []) rfl rfl (fun x m => by cases m) (by decide) hu (fun Q' fin => ?_) fun s' p out c vs k g o z e cd pm hv => ?_
  · refine collect_set (A := X.A.in1) hd ⟨o, ho, hex.1, hdt⟩ hf hb hris hled fun s1 out k1 z1 g1 o1 p1 => ?_
    rw [es0] at p1
    have eo := p1.eq_nil
    subst eo
    exact fin [] [] s1 k1 z1 g1 o1 .nil (.refl _) rfl
  · cases hq : out.toList with
    | nil => exact new_list I k g o z e (xs := []) (by rw [hq]; exact .nil) (Nat.zero_le _) fun hn => q p hn
    | cons x l => rw [hq] at cd; cases cd
section
variable {X : Cx} {c : Nat → Addr} {elt tg iter : Expr} {ie : Ev} {scope : Scope} {own : List (Str × Nat)} {p pos spos : Pos}
theorem e_srtNo {k : Nat} (hr : Room k X.A) (hg : Gl X "sorted") (hm : X.mg "sorted" = none) (hc : X.calm = true) (hN : X.N.Nodup) (hi : EE X c iter ie) (ok : BlkOk X.N X.env.scope scope own)
    (hs : ∀ x, foldedSetIterable iter X.env x = pure x := by intro _; rfl)
    (he : starEach [.SetComp elt [⟨tg, iter, [], 0⟩] scope spos] X.env = (false, eval (.SetComp elt [⟨tg, iter, [], 0⟩] scope spos) X.env) :: starEach [] X.env := by rfl) (hpl : (backTo pos (starEach [] X.env)).any (·.1) = false := by rfl) :
    EE X c (.Call (.Name "sorted" p) [.SetComp elt [⟨tg, iter, [], 0⟩] scope spos] [] pos) (cUn oSrtNo ie) := by
  have hsc : PE X (.SetComp elt [⟨tg, iter, [], 0⟩] scope spos) (tSc X.w (tiOf (gX X c) (nTup ie)) (fun _ _ _ _ => False) (fun _ _ _ => False) (fun _ _ _ => False) (own.map (·.2))) :=
    pe_sc hc hN (i_tup hi) ok (fun _ _ _ _ _ => ⟨fun _ _ _ _ _ _ _ _ _ h => h.elim⟩) (fun _ _ _ _ _ => ⟨fun _ _ _ _ _ _ h => h.elim⟩) (fun _ _ _ _ _ => ⟨fun _ _ _ _ _ _ h => h.elim⟩) hs
  refine PE.imp (pe_callB (cr_srt0 hr.hd (by have := hr.un; omega)) hg hm boot_sorted (pa_cons hsc pa_nil) (by decide) (by decide) he hpl) fun σ H Q h => ?_
  obtain ⟨ι, σa, S, z, S', hL, R, e, kk⟩ := h
  unfold cUn at e
  split at e
  · rename_i x1 S1 q1
    unfold oSrtNo at e
    split at e
    · refine ⟨ι, σa, S, .tup [], S1, hL, R, by unfold nTup; rw [q1], fun ι1 H1 J x1 R1 ok => fun D hD => ⟨fun i m H => i = 0 ∧ H = upd H1 D (SetBO X.w D (fun _ => false) 0), ⟨0, rfl, rfl⟩, ?_⟩⟩
      rintro i m H2 ⟨rfl, rfl⟩
      obtain ⟨R2, x2⟩ := R1.fresh (o := SetBO X.w D (fun _ => false) 0) hD
      refine .inl ⟨(ok ι1 S1 _ 0 x2 R2).1 rfl, ?_⟩
      refine ⟨D, rfl, upd_same, fun p hp => ?_⟩
      obtain ⟨ι', R3, x3, r3⟩ := R2.new1 (ho := .lst []) e hp fun ι' x' => ⟨[], upd_same, .nil⟩
      exact kk ι' _ _ ((x1.trans x2).trans x3) R3 r3
    · cases e
  · cases e
end
end Cs
/-! Z38: a sort by keys, from the keys on. -/
namespace Cs
open PySem PySem.Spec PyProof.Rows L2 PySem.SeqAt Srt PySem.W

theorem data_outP {h : Heap} {ds r : List D} {vs out : List Value} (hc : chkR r = true) (c : CDs h ds vs) (hp : ds.Perm r) (hs : SrtO.Srtd (ltR h r) out) (hb : out.Perm vs) : CDs h r out := by
  have pm := hb.map (datOf h)
  rw [datOf_map c] at pm
  have e : out.map (datOf h) = r := by
    refine sort_uniq (f := fun x => idxD x r) (pm.trans hp) ?_ (chkR_nodup hc).2
    refine List.pairwise_map.mpr (hs.imp fun {x y} q => ?_)
    exact Nat.le_of_not_lt (of_decide_eq_false q)
  have all : ∀ v ∈ out, ∃ d, CD h d v := fun v m => let ⟨d, _, q⟩ := c.mem (hb.mem_iff.mp m); ⟨d, q⟩
  rw [← e]
  clear pm hs hb e
  induction out with
  | nil => exact .nil
  | cons v out ih =>
    obtain ⟨d, q⟩ := all v (List.mem_cons_self ..)
    rw [List.map_cons, datOf_eq q]
    exact .cons q (ih fun u m => all u (List.mem_cons_of_mem _ m))
/-- a key with its item -/
def KIt (h : Heap) (p : Value × Value) : Prop := ∃ k d, CD h k p.1 ∧ CD h d p.2 ∧ sndD k = some d
theorem kit_zip {h : Heap} : ∀ {ks ds : List D} {keys items : List Value}, CDs h ks keys → CDs h ds items → Paired (fun k d => sndD k = some d) ks ds → ∀ p ∈ keys.zip items, KIt h p
  | _, _, _, _, .nil, .nil, .nil, p, hp => by simp at hp
  | _, _, _, _, .cons a r, .cons b t, .cons e q, p, hp => by
    rw [List.zip_cons_cons] at hp
    rcases List.mem_cons.mp hp with z | z
    · rw [z]; exact ⟨_, _, a, b, e⟩
    · exact kit_zip r t q p z
theorem kit_out {h : Heap} : ∀ {X : List (Value × Value)} {r : List D}, CDs h r (X.map (·.1)) → (∀ p ∈ X, KIt h p) → ∃ ds, sndDs r = some (ds.map .dat) ∧ CDs h ds (X.map (·.2))
  | [], _, c, _ => by
    cases c
    exact ⟨[], rfl, .nil⟩
  | p :: X, _, c, hk => by
    cases c with | cons c1 c2 =>
    obtain ⟨ds, e1, e2⟩ := kit_out c2 fun q hq => hk q (List.mem_cons_of_mem _ hq)
    obtain ⟨k, d, h1, h2, h3⟩ := hk p List.mem_cons_self
    have e := h1.inj c1
    subst e
    refine ⟨d :: ds, ?_, .cons h2 e2⟩
    show (match sndD k with
      | some d => match sndDs _ with
        | some r => some (A.dat d :: r)
        | none => none
      | none => none) = _
    rw [h3, e1] <;> rfl
section
variable {prog : Program} {w : World} {A : Around} {E : Value → Shared → Prop} {s : Shared}
theorem key_end {a kS : Addr} {keys items : List Value} {ks ds r : List D} {e e1 : Nat} {P : PySem.Fin → Shared → Prop} (hka : kS ≠ a) (nk : s.heap.get? kS = some (seqObj "list" keys.toArray e)) (na : s.heap.get? a = some (seqObj "list" #[] e1))
    (ck : CDs s.heap ks keys) (cd : CDs s.heap ds items) (pr : Paired (fun k d => sndD k = some d) ks ds) (hr : srtL ks = some r) (ht : ∀ x ∈ ks, tall x 30 = true) (hl : ks.length < 64) (hu : A.units + 40 < cLine)
    (h : ∀ h' out c ys, (∀ b o, b ≠ a → b ≠ kS → s.heap.get? b = some o → h'.get? b = some o) → (∃ o, h'.get? kS = some o) → h'.get? a = some (seqObj "list" out c) → sndDs r = some (ys.map .dat) → CDs s.heap ys out.toList → (∀ v ∈ out.toList, v ∈ items) → out.size < 64 → P (.done (.ret .none)) { s with heap := h' }) :
    wpAny (model prog w) A (ksk_end a false items.toArray e1 (.ref kS) keys.toArray) P E s := by
  obtain ⟨hc, hk, hp⟩ := srtL_ok hr
  have lk := ck.len
  have ld := cd.len
  have lkd : ks.length = ds.length := Paired.len pr
  have zl : (keys.toArray.zip items.toArray).toList = keys.zip items := by
    rw [ksk_zip] <;> simp
  have zs : (keys.toArray.zip items.toArray).size = keys.length := by
    rw [← Array.length_toList, zl, List.length_zip]
    omega
  -- from the sorted pairs on
  have tail : ∀ st : SortSt, SrtO.Srtd (SrtO.lt2 (ltR s.heap r)) (arrOf st).toList → (arrOf st).toList.Perm (keys.zip items) → failedOf st = none → wpAny (model prog w) A (ksk_tail a false e1 (.ref kS) st) P E s := by
    intro st hs pm hfl
    have size : (arrOf st).size = keys.length := by
      rw [← Array.length_toList, pm.length_eq, List.length_zip]
      omega
    have pk : ((arrOf st).toList.map (·.1)).Perm keys := by
      have q := pm.map (·.1)
      rw [List.map_fst_zip (by omega)] at q
      exact q
    have c1 : CDs s.heap r ((arrOf st).toList.map (·.1)) := data_outP hc ck hp (List.pairwise_map.mpr hs) pk
    obtain ⟨ys, y1, y2⟩ := kit_out c1 fun p hp => kit_zip ck cd pr p (pm.mem_iff.mp hp)
    have s1 := Heap.SameBut.update s.heap kS (Obj.mapSeq fun _ => (#[] : Array Value))
    have na1 : (s.heap.update kS (Obj.mapSeq fun _ => (#[] : Array Value))).get? a = some (seqObj "list" #[] e1) := (s1.2 a hka.symm).trans na
    have s2 := Heap.SameBut.update (s.heap.update kS (Obj.mapSeq fun _ => (#[] : Array Value))) a (Obj.mapSeq fun _ => (arrOf st).map (·.2))
    obtain ⟨c2, hc2⟩ : ∃ c2, ((s.heap.update kS (Obj.mapSeq fun _ => (#[] : Array Value))).update a (Obj.mapSeq fun _ => (arrOf st).map (·.2))).get? a = some (seqObj "list" ((arrOf st).map (·.2)) c2) := ⟨_, get?_update_seq na1 fun _ => (arrOf st).map (·.2)⟩
    unfold ksk_tail
    try dsimp only
    refine wpAny_bind (listUpdate_at nk rfl ?_ (by rw [List.size_toArray, sizeLine_eq]; omega) (Nat.zero_le _))
    refine wpAny_bind (wpAny_letGo ?_)
    refine wpAny_bind (seqEpoch_at na1 rfl ?_)
    refine wpAny_bind (listUpdate_at na1 rfl ?_ (Nat.zero_le _) (by show ((arrOf st).map (·.2)).size ≤ _; rw [Array.size_map, size, sizeLine_eq]; omega))
    rw [hfl]
    simp only [bne_self_eq_false, Bool.false_eq_true, if_false]
    refine wpAny_pure (h _ ((arrOf st).map (·.2)) c2 ys (fun b o hb hb2 eo => (s2.2 b hb).trans ((s1.2 b hb2).trans eo)) ⟨_, (s2.2 kS hka).trans (get?_update_seq nk fun _ => #[])⟩ hc2 y1 (by rw [Array.toList_map]; exact y2) (fun v hv => ?_) (by rw [Array.size_map, size]; omega))
    rw [Array.toList_map] at hv
    obtain ⟨p, hp, rfl⟩ := List.mem_map.mp hv
    exact (List.of_mem_zip (pm.mem_iff.mp hp)).2
  unfold ksk_end
  try dsimp only
  simp only [Bool.false_eq_true, if_false]
  by_cases h2 : items.toArray.size < 2
  · rw [if_pos h2, if_pos h2]
    refine wpAny_bind (wpAny_pure ?_)
    rw [StateT.run_pure]
    refine wpAny_bind (wpAny_pure ?_)
    try dsimp only
    refine tail (SortSt.mk' general' (keys.toArray.zip items.toArray) #[] 7 none) ?_ ?_ rfl
    · show SrtO.Srtd _ (keys.toArray.zip items.toArray).toList
      rw [zl]
      rw [List.size_toArray] at h2
      have hz : (keys.zip items).length < 2 := by rw [List.length_zip]; omega
      match hq : keys.zip items, hz with
      | [], _ => exact List.Pairwise.nil
      | [v], _ => exact List.pairwise_singleton _ _
      | _ :: _ :: l, hz => exact absurd hz (by rw [List.length_cons, List.length_cons]; omega)
    · show (keys.toArray.zip items.toArray).toList.Perm _
      rw [zl]
  · rw [if_neg h2, if_neg h2]
    rw [List.size_toArray] at h2
    have ain : AllIn s.heap r keys := fun v m => let ⟨d, m1, q⟩ := ck.mem m; ⟨d, hp.mem_iff.mp m1, q⟩
    obtain ⟨κ, hkind, hT⟩ := data_sortable (a := kS) (A := A) (by omega) hc hk (fun x m => ht x (hp.mem_iff.mpr m)) hu ain (fun o eo => by
      rw [nk] at eo
      cases eo
      show Value.type "list" ≠ Value.type "tuple"
      decide) s.heap (fun b o _ eo => eo)
    refine wpAny_bind (hkind _ _ ?_)
    have hall : SrtO.AllL (fun p : Keyed => p.1 ∈ keys) (keys.toArray.zip items.toArray).toList := fun p hm => by
      rw [zl] at hm
      exact (List.of_mem_zip hm).1
    refine wpAny_bind (wpAny_mono (SrtO.wpS_sortO (st0 := SortSt.mk' κ (keys.toArray.zip items.toArray) #[] 7 none)
      (Q := fun _ st' => SrtO.Srtd (SrtO.lt2 (ltR s.heap r)) (arrOf st').toList ∧ SrtO.Stb (SrtO.lt2 (ltR s.heap r)) (arrOf st').toList (keys.toArray.zip items.toArray).toList ∧ failedOf st' = none) (SrtO.swo2 (ltR_swo s.heap r)) hT rfl hall rfl rfl fun st' a1 a2 a3 => ⟨a1, a2, a3⟩) ?_ fun _ _ e => e)
    rintro ⟨⟨⟩, st'⟩ s' ⟨rfl, hp1, hp2, hf⟩
    try dsimp only
    refine tail st' hp1 ?_ hf
    have q := hp2.perm
    rw [zl] at q
    exact q
end
end Cs
/-! Z39: a lambda with one parameter, called. -/
namespace Cs
open PySem PySem.Spec PyProof.Rows L2

def lCx (X : Cx) (A : Around) (s : Shared) (H : Hp) (scope : Scope) (f c' : Addr) : Cx :=
  { X with A := A.deeper (LamX.lamEnv X scope s.heap.objs.size f c'), s_0 := s, H_0 := H, env := LamX.lamEnv X scope s.heap.objs.size f c', outer := X.stack, stack := LamX.lamEnv X scope s.heap.objs.size f c' :: X.stack, ex := [], fn := fun _ => false, calm := true, pn := [], xe := fun _ _ => False }
/-- the lambda's names: x at the slot i -/
structure LmS (X : Cx) (scope : Scope) (x : Str) (i : Nat) : Prop where
  blk : BlkOk X.N X.env.scope scope [(x, i)]
  cell : ∀ y ∈ scope.names, y.2 ≠ .cell
  co : scope.isCoroutine = false
  gen : scope.isGenerator = false
  loc : scope.names.lookup x = some .local
def lmB (scope : Scope) (x : Str) : Bool := (scope.names.all fun y => !decide (y.2 = .cell)) && !scope.isCoroutine && !scope.isGenerator && decide (scope.names.lookup x = some .local)
theorem lmS_by {X : Cx} {scope : Scope} {x : Str} {i : Nat} (b : BlkOk X.N X.env.scope scope [(x, i)]) (h : lmB scope x = true) : LmS X scope x i := by
  unfold lmB at h
  simp only [Bool.and_eq_true, Bool.not_eq_true', decide_eq_true_eq, decide_eq_false_iff_not, List.all_eq_true] at h
  exact ⟨b, h.1.1.1, h.1.1.2, h.1.2, h.2⟩
section
variable {X : Cx} {pins : List (Addr × Obj)} {σ : L2.St} {H : Hp} {s : Shared} {A : Around} {scope : Scope} {f c' : Addr} {x : Str} {i : Nat}
theorem LmS.has (S : LmS X scope x i) (ok : X.Ok) : ∀ y ∈ scope.names, y.2 = .free → ∃ c, X.env.cells.lookup y.1 = some c := fun y hy e => by
  rcases S.blk.free y hy e with k | k
  · exact ok.has _ (.inl k)
  · exact ok.has _ (.inr k)
theorem lam_start3 {h₁ : Heap} {tk : Nat} {v : V} {u : Value} (I : Inv X pins σ H s) (S : LmS X scope x i) (hN : X.N.Nodup) (hd : A.handled = none) (fr : A.frames = some X.stack) (rv : RelV v u)
    (hns : h₁.Ns s.heap.objs.size fun y => ([(x, u)] : List (Str × Value)).reverse.lookup y) (kp : ∀ b o, s.heap.get? b = some o → h₁.get? b = some o) :
    Inv (lCx X A s H scope f c') [] ((wipe σ [i]).set i (some v)) H { s with heap := h₁, toks := tk } := by
  have cm : ∀ {y c}, (cloFrom X.env.cells scope.names []).lookup y = some c → X.env.cells.lookup y = some c := fun {y c} e => by
    rcases cloFrom_mem (PySem.mem_of_lookup e) with hm | ⟨h1, h2⟩
    · cases hm
    · obtain ⟨c1, hc⟩ := S.has I.ok _ h1 rfl
      have hc : X.env.cells.lookup y = some c1 := hc
      have e2 : c = c1 := by
        rw [h2, hc] <;> rfl
      rw [e2]
      exact hc
  have look : ∀ {y}, scope.names.lookup y = some .free → ∃ c, (cloFrom X.env.cells scope.names []).lookup y = some c := fun {y} hl => by
    have hy : (y, NameKind.free) ∈ scope.names := PySem.mem_of_lookup hl
    exact mem_lookup (cloFrom_has (cells := X.env.cells) (acc := []) hy)
  have cellK : ∀ {c : Addr} {v : Option Value}, s.heap.IsCell c v → h₁.IsCell c v := fun {c v} ⟨o, ho, hd⟩ => ⟨o, kp _ _ ho, hd⟩
  have noA : ∀ b : Addr, b ∉ (lCx X A s H scope f c').ex := fun b z => absurd (show b ∈ ([] : List Addr) from z) (by simp)
  refine ⟨⟨I.ok.mod, S.blk.kind, rfl, rfl, Nat.le_refl _, fun y z c e1 e2 => I.ok.inj y z c (cm e1) (cm e2), fun y hy => ?_, fun y c z _ => ?_, fun _ => hd, Around.frames_deeper fr, .inr ⟨rfl, rfl⟩, fun b z => absurd z (noA b), I.bs, Nat.le_trans I.ok.bsz I.sz, fun b _ _ => noA b,
      fun b z => absurd z (noA b), I.stack, I.stkFree⟩,
    rfl, I.bare, Un.kept kp, ⟨_, hns, fun j y v' e1 e2 e3 => ?_⟩, fun y c e => ?_, I.hok.fresh (Nat.le_refl _), fun y c e => I.freeC y c (cm e), fun q hq => absurd (show q ∈ ([] : List (Addr × Obj)) ++ [] from hq) (by simp), I.hok.kept kp, ?_⟩
  · have hy : scope.names.lookup y = some .cell ∨ scope.names.lookup y = some .free := hy
    rcases hy with hy | hy
    · exact absurd rfl (S.cell _ (PySem.mem_of_lookup hy))
    · exact look hy
  · have z : false = true := z
    cases z
  · have e3 : Vis scope y := e3
    have e1 : X.N[j]? = some y := e1
    have hix : X.N[i]? = some x := S.blk.ix (x, i) (by simp)
    by_cases hj : j = i
    · subst hj
      rw [hix] at e1
      cases e1
      have hlt : j < (wipe σ [j]).length := by
        rw [wipe_length, I.len]
        exact (List.getElem?_eq_some_iff.mp hix).1
      rw [List.getElem?_set_self hlt] at e2
      cases e2
      exact ⟨u, rv, .inl ⟨S.loc, by simp [List.lookup]⟩⟩
    · rw [List.getElem?_set_ne (Ne.symm hj)] at e2
      obtain ⟨e2', hi⟩ := wipe_some e2
      rcases e3 with k | k | k
      · rcases S.blk.own _ (PySem.mem_of_lookup k) (.inl rfl) with z | z
        · have zz : y = x := by simpa using z
          rw [zz] at e1
          exact absurd (nodup_ix hN e1 hix) hj
        · exact absurd (List.mem_of_getElem? e1) z
      · exact absurd rfl (S.cell _ (PySem.mem_of_lookup k))
      · obtain ⟨m, hn, hl⟩ := I.loc
        have hvis : Vis X.env.scope y := (S.blk.free _ (PySem.mem_of_lookup k) rfl).elim (fun k => .inr (.inl k)) (fun k => .inr (.inr k))
        obtain ⟨w', r, q⟩ := hl j y v' e1 e2' hvis
        obtain ⟨c2, h2⟩ := look k
        refine ⟨w', r, .inr ⟨.inr k, c2, h2, ?_⟩⟩
        have c1 := cm h2
        rcases q with ⟨k', _⟩ | ⟨_, c3, e', z⟩
        · have k' : X.env.scope.names.lookup y = some .local := k'
          rcases S.blk.free _ (PySem.mem_of_lookup k) rfl with k2 | k2 <;> rw [show X.env.scope.names.lookup y = _ from k2] at k' <;> cases k'
        · rw [c1] at e'
          cases e'
          exact cellK z
  · obtain ⟨w', z⟩ := I.cell y c (cm e)
    exact ⟨w', cellK z⟩
  · show ((wipe σ [i]).set i (some v)).length = X.N.length
    rw [List.length_set, wipe_length]
    exact I.len
/-- f(u), f a lambda -/
theorem call_lam {c : Nat → Addr} {params : Arguments} {body : Expr} {pm ctv : Value} {eb : Ev} {v : V} {u : Value} {k : Nat} {Q : Value → Shared → Prop} {E : Value → Shared → Prop} {ι : Nat → Addr} {σa : Sl} {Sc S1 : Sto} {a b : Cs.A}
    (I : Inv X pins σ H s) (S : LmS X scope x i) (hN : X.N.Nodup) (hr : Room 0 A) (hrk : ∀ env : Env, Room k (A.deeper env)) (fr : A.frames = some X.stack)
    (hf : s.heap.get? f = some (PySem.W.kla_obj "<lambda>" (X.env.qual ++ "<lambda>") params body scope (cloFrom X.env.cells scope.names []) pm c' ctv)) (hco : H c' = some (LamX.CodeO c' (X.env.qual ++ "<lambda>")))
    (hbind : bindArgs (PySem.W.kla_fn "<lambda>" (X.env.qual ++ "<lambda>") params body scope (cloFrom X.env.cells scope.names []) pm (.ref c') ctv) ⟨[u], []⟩ = pure [(x, u)])
    (hb : Room k (A.deeper (LamX.lamEnv X scope s.heap.objs.size f c')) → EE (lCx X A s H scope f c') c body eb) (rv : RelV v u) (hL : RL X.K ι Sc.m H σa σ) (RR : RS (gX X c) ι Sc H) (ra : RA X.K ι Sc.m H a v) (he : eb ((wipeA σa [i]).set i (some a)) Sc = some (b, S1))
    (hQ : ∀ u' v' s' H' ι', Inv X pins σ H' s' → RelV v' u' → Ext ι Sc.m H ι' S1.m H' → RS (gX X c) ι' S1 H' → RA X.K ι' S1.m H' b v' → Q u' s') :
    wpAny (model X.prog X.w) A (call (.ref f) [u]) Q E s := by
  obtain ⟨⟨oc, vs, t, hoc, hdc, hvc⟩, _, _⟩ := I.hok c' _ hco
  have rc : codeAny (model X.prog X.w) A (.call (.ref f) ⟨[u], []⟩) (fun r s' => ∃ u' v' H' ι', r = .ok (.ret u') ∧ Inv X pins σ H' s' ∧ RelV v' u' ∧ Ext ι Sc.m H ι' S1.m H' ∧ RS (gX X c) ι' S1 H' ∧ RA X.K ι' S1.m H' b v') s := by
    refine PySem.W.kla_callFunE hr.depth hf rfl S.co S.gen rfl ⟨c', oc, vs, t, rfl, hoc, hdc, hvc⟩ ?_
    rw [hbind]
    refine wpAny_pure (wpAny_newFunctionEnv S.cell (fun y hy => ?_) (fun h₁ hns hsb => ⟨I.nolimit.fresh _ hsb, ?_⟩) S.blk.kind)
    · rw [List.mem_singleton.mp hy]
      exact S.loc
    show codeAny _ _ (.expr body (LamX.lamEnv X scope s.heap.objs.size f c')) _ _
    have kp : ∀ b o, s.heap.get? b = some o → h₁.get? b = some o := fun b o e => hsb.extBut b o (Nat.ne_of_lt (Heap.lt_size e)) (Heap.get?_push_of_some _ e)
    have J := lam_start3 (f := f) (c' := c') (tk := s.toks + ([(x, u)] : List (Str × Value)).length) I S hN hr.hd fr rv hns kp
    refine PySem.W.kla_codeExpr (wpAny_mono ((hb (hrk _)).run [] _ _ H (fun v' H' => ∃ ι', Ext ι Sc.m H ι' S1.m H' ∧ RS (gX X c) ι' S1 H' ∧ RA X.K ι' S1.m H' b v') J
      ⟨ι, _, Sc, b, S1, RL.set ra i (RL.wipe hL [i]), RR, he, fun ι' H' v x' R' r' => ⟨ι', x', R', r'⟩⟩) (fun u' s' hq => ?_) fun e s' hq => hq.elim)
    obtain ⟨v', H', J', rv', ι', x', R', r'⟩ := hq
    exact ⟨u', v', H', ι', rfl, I.call' J'.os J'.base J'.hok J'.bare (fun b z => absurd z (by show b ∉ ([] : List Addr); simp)), rv', x', R', r'⟩
  refine wpAny_call (codeAny_mono rc fun r s' hq => ?_)
  obtain ⟨u', v', H', ι', rfl, I', rv', x', R', r'⟩ := hq
  exact hQ u' v' s' H' ι' I' rv' x' R' r'
end
end Cs
/-! Z40: a lambda is made; records that turn. -/
namespace Cs
open PySem PySem.Spec PyProof.Rows L2 LamX

section
variable {X : Cx} {pins : List (Addr × Obj)} {σ : L2.St} {H : Hp} {s : Shared}
theorem lam_make3 {c P : Addr} {params : Arguments} {body : Expr} {scope : Scope} {pos : Pos} {E : Value → Shared → Prop} {Q : Value → Shared → Prop} (I : Inv X pins σ H s) (TB : GxR.TabB X.base X.mg c P) (hcode : X.env.code = .ref c)
    (hT : TabS H P (X.env.qual ++ "<lambda>")) (hdef : defaultsOf params X.env = ([], [])) (hfree : ∀ y ∈ scope.names, y.2 = .free → ∃ c, X.env.cells.lookup y.1 = some c)
    (h : ∀ (f c' : Addr) (pm ctv : Value) (H1 : Hp) (s' : Shared), Inv X pins σ H1 s' → Cs.Kp H H1 → (∀ b u, H b = some u → (∀ ps, u ≠ .tbl ps) → H1 b = some u) → TabS H1 P (X.env.qual ++ "<lambda>") →
      s'.heap.get? f = some (PySem.W.kla_obj "<lambda>" (X.env.qual ++ "<lambda>") params body scope (cloFrom X.env.cells scope.names []) pm c' ctv) → H1 f = none → s.heap.objs.size ≤ f → f < s'.heap.objs.size → H1 c' = some (CodeO c' (X.env.qual ++ "<lambda>")) → Q (.ref f) s') :
    wpAny (model X.prog X.w) X.A (eval (.Lambda params body scope pos) X.env) Q E s := by
  obtain ⟨ps, hP, ht, ha⟩ := hT
  refine PySem.W.kla_eval hdef ?_
  have bP : s.heap.BuiltinsAt X.mg P := TB.bm.keeps I.bk
  have hP' : s.heap.get? P = some { cls := .none, data := .fields ps } := I.hok P _ hP
  cases hc : codeAmong pos ps.toList with
  | none =>
    refine PySem.W.kla_makeFunction (mg := X.mg) (c := c) (P := P) (ps := ps) (closure_ok hfree) I.ok.glob (I.mod.glob.keeps I.bk) hcode (TB.code.keeps I.bk) hP' ht hc TB.gP bP fun c' ctv h' tk hx hge hlt hrec htb => ?_
    obtain ⟨c2, oc, vs, t, e2, hoc, hd, hv⟩ := hrec
    cases e2
    have hsz : s.heap.objs.size ≤ h'.objs.size := Nat.le_trans hge (Nat.le_of_lt hlt)
    have nC : H c' = none := I.hok.fresh hge
    have I1 := inv_table (t' := tk) (more := #[rawInt pos.line, rawInt pos.col, .ref c']) (h' := h'.push (PySem.W.kla_obj "<lambda>" (X.env.qual ++ "<lambda>") params body scope (cloFrom X.env.cells scope.names []) ((X.mg "__name__").getD .none) c' ctv)) I hP
      (fun b o hb e => Heap.get?_push_of_some _ (hx b o hb e)) (Heap.get?_push_of_some _ htb) hge ⟨oc, vs, t, Heap.get?_push_of_some _ hoc, hd, hv⟩
    have hE : ∀ b u, H b = some u → (∀ ps, u ≠ .tbl ps) → (upd (upd H P (.tbl (ps ++ #[rawInt pos.line, rawInt pos.col, .ref c']))) c' (CodeO c' (X.env.qual ++ "<lambda>"))) b = some u := fun b o e n => by
      rw [upd_ne (ne_of_none e nC), upd_ne (fun z => n ps (Option.some.inj (e.symm.trans (by rw [z]; exact hP))))]
      exact e
    have eL : (ps ++ #[rawInt pos.line, rawInt pos.col, .ref c']).toList = ps.toList ++ [rawInt pos.line, rawInt pos.col, .ref c'] := by simp
    have ht2 : TriplesOk (ps ++ #[rawInt pos.line, rawInt pos.col, .ref c']).toList := by rw [eL]; exact PySem.TriplesOk_snoc _ _ _ _ ht
    have hPn : (upd (upd H P (.tbl (ps ++ #[rawInt pos.line, rawInt pos.col, .ref c']))) c' (CodeO c' (X.env.qual ++ "<lambda>"))) P = some (.tbl (ps ++ #[rawInt pos.line, rawInt pos.col, .ref c'])) := by rw [upd_ne (ne_of_none hP nC), upd_same]
    refine h h'.objs.size c' ((X.mg "__name__").getD .none) ctv _ _ I1 ⟨fun b xs e => hE b _ e (fun q z => by cases z), fun b o u e => hE b _ e (fun q z => by cases z), fun b hb => ?_, fun b q e => hE b _ e (fun qs z => codeO_ne qs z)⟩ hE ⟨_, hPn, ht2, fun p' cv hcv => ?_⟩ (Heap.get?_push_size _ rfl) ?_ hsz ?_ upd_same
    · by_cases z : b = P
      · rw [z]; exact ⟨_, hPn, ht2⟩
      · obtain ⟨p8, e8, t8⟩ := hb
        exact ⟨p8, by rw [upd_ne (ne_of_none e8 nC), upd_ne z]; exact e8, t8⟩
    · rw [eL] at hcv
      rcases among_app _ ht hcv with z | z
      · obtain ⟨c0, e1, e2⟩ := ha p' cv z
        exact ⟨c0, e1, hE _ _ e2 codeO_ne⟩
      · exact ⟨c', z, upd_same⟩
    · have n1 : h'.objs.size ≠ c' := Nat.ne_of_gt hlt
      have n2 : h'.objs.size ≠ P := Nat.ne_of_gt (Nat.lt_of_lt_of_le (Heap.lt_size hP') hsz)
      rw [upd_ne n1, upd_ne n2]
      exact I.hok.fresh hsz
    · show h'.objs.size < (h'.push _).objs.size
      rw [Heap.size_push]
      exact Nat.lt_succ_self _
  | some cv =>
    obtain ⟨c', e, hco⟩ := ha pos cv hc
    subst e
    refine PySem.W.kla_makeFunctionHit (mg := X.mg) (c := c) (P := P) (ps := ps) (closure_ok hfree) I.ok.glob (I.mod.glob.keeps I.bk) hcode (TB.code.keeps I.bk) hP' ht hc bP fun ctv h' tk hx hsz => ?_
    have I1 : Inv X pins σ H { s with heap := h'.push (PySem.W.kla_obj "<lambda>" (X.env.qual ++ "<lambda>") params body scope (cloFrom X.env.cells scope.names []) ((X.mg "__name__").getD .none) c' ctv), toks := tk } := I.kept fun b o e => Heap.get?_push_of_some _ (hx b o e)
    refine h h'.objs.size c' ((X.mg "__name__").getD .none) ctv H _ I1 (Cs.Kp.refl H) (fun _ _ e _ => e) ⟨ps, hP, ht, ha⟩ (Heap.get?_push_size _ rfl) (I.hok.fresh hsz) hsz ?_ hco
    show h'.objs.size < (h'.push _).objs.size
    rw [Heap.size_push]
    exact Nat.lt_succ_self _
/-- own records (none tracked, none pinned) change; all else stays -/
theorem inv_turn {ch : List Addr} {h' : Heap} {t' : Nat} (I : Inv X pins σ H s) (hch : ∀ b ∈ ch, FpOk X pins H b) (keep : ∀ b o, b ∉ ch → s.heap.get? b = some o → h'.get? b = some o) : Inv X pins σ H { s with heap := h', toks := t' } := by
  have nt : ∀ b u, H b = some u → b ∉ ch := fun b u q hb => by
    rw [(hch b hb).1] at q
    cases q
  refine I.step (g' := s.gens) (d' := s.drawn) (ch := ch) (fun b hb => ?_)
    (fun b ob _ _ hc q _ => keep b ob hc q) (fun b ob _ _ hc q _ => ⟨ob.slots, keep b ob hc q⟩) (fun _ _ _ _ n => n) (fun b ob hc q => ⟨ob, keep b ob hc q⟩)
    (fun _ _ q => q) (fun _ _ _ q => q) (fun b ps q => ⟨#[], by rw [q]; simp⟩) (fun m hm => ?_) (fun b u q => ?_) I.bare
  · obtain ⟨_, h1, _, h3, h4, h5⟩ := hch b hb
    exact ⟨h3, h1, h4, h5⟩
  · obtain ⟨ob, es, ep, ho, r⟩ := hm
    exact ⟨ob, es, ep, keep _ ob (fun hb => (hch _ hb).2.1 rfl) ho, r⟩
  · refine (I.hok b u q).stay (fun c v hc y => keep c v ?_ y) (fun _ y => y) fun _ _ y => y
    rcases hc with y | y
    · rw [y]; exact nt b u q
    · exact nt c _ y
/-- an own list that stands in the heap is tracked from now on -/
theorem inv_track {a : Addr} {out : Array Value} {c : Nat} {ys : List V} (I : Inv X pins σ H s) (ha : FpOk X pins H a) (hg : s.heap.get? a = some (seqObj "list" out c)) (rv : Vals ys out.toList) (hz : ys.length ≤ sizeLine) : Inv X pins σ (upd H a (.lst ys)) s := by
  obtain ⟨hn, h1, h2, h3, h4, h5⟩ := id ha
  have ne : ∀ b u, H b = some u → b ≠ a := fun b u e => ne_of_none e hn
  have J := I.step (H' := upd H a (.lst ys)) (h' := s.heap) (g' := s.gens) (d' := s.drawn) (t' := s.toks) (ch := [a]) (fun b hb => by
      rw [List.mem_singleton.mp hb]
      exact ⟨h3, h1, h4, h5⟩)
    (fun b ob _ _ _ q _ => q) (fun b ob _ _ _ q _ => ⟨ob.slots, q⟩) (fun b o hc _ n => by rw [upd_ne fun z => hc (by rw [z]; simp)]; exact n) (fun b ob _ q => ⟨ob, q⟩)
    (fun b xs q => by rw [upd_ne (ne b _ q)]; exact q) (fun b o u q => by rw [upd_ne (ne b _ q)]; exact q) (fun b ps q => ⟨#[], by rw [upd_ne (ne b _ q), q]; simp⟩) (fun m hm => hm) (fun b u q => ?_) I.bare
  · exact J
  · by_cases hb : b = a
    · rw [hb, upd_same] at q
      cases q
      rw [hb]
      exact ⟨hz, out.toList, c, rv, by rw [hg] <;> rfl⟩
    · rw [upd_ne hb] at q
      exact (I.hok b u q).stay (fun _ _ _ y => y) (fun d y => by rw [upd_ne (ne d _ y)]; exact y) fun d xs y => by rw [upd_ne (ne d _ y)]; exact y
/-- .. behind a call (nothing else changed) FpOk stays -/
theorem FpOk.at {b : Addr} {H' : Hp} (h : FpOk X pins H b) (hn : H' b = none) : FpOk X pins H' b := ⟨hn, h.2⟩
end
end Cs
/-! Z41: sorted(.., key=lambda x: e). -/
namespace Cs
open PySem PySem.Spec PyProof.Rows L2 PySem.SeqAt Srt PySem.W

theorem keysL_pair {eb : Ev} {σ : Sl} {i : Nat} : ∀ {d ks : List D} {S S' : Sto}, keysL eb σ i d S = some (ks, S') → Paired (fun k x => sndD k = some x) ks d
  | [], _, _, _, h => by
    unfold keysL at h
    cases h
    exact .nil
  | x :: d, ks, S, S', h => by
    unfold keysL at h
    split at h
    · rename_i n e S1 q
      cases hb : D.beq e x with
      | false => rw [hb] at h; cases h
      | true =>
        rw [hb, cond_true] at h
        split at h
        · rename_i r S2 q2
          cases h
          exact .cons (by rw [D.beq_iff.mp hb] <;> rfl) (keysL_pair q2)
        · cases h
    · cases h
theorem RD.tall30 {K : PySem.W.Frag} {H : Hp} : ∀ {d : D} {v : V}, RD K H d v → Cs.tall d 30 = true
  | _, _, .non => rfl
  | _, _, .int _ => rfl
  | _, _, .str _ _ => rfl
  | _, _, .tup _ _ t => t
theorem RDs.tall30 {K : PySem.W.Frag} {H : Hp} : ∀ {l : List D} {vs : List V}, RDs K H l vs → ∀ x ∈ l, Cs.tall x 30 = true
  | _, _, .nil, x, m => by simp at m
  | _, _, .cons h r, x, m => by
    rcases List.mem_cons.mp m with z | z
    · rw [z]; exact h.tall30
    · exact RDs.tall30 r x z
theorem RDs.snoc {K : PySem.W.Frag} {H : Hp} {d : D} {v : V} : ∀ {l : List D} {vs : List V}, RDs K H l vs → RD K H d v → RDs K H (l ++ [d]) (vs ++ [v])
  | _, _, .nil, h => .cons h .nil
  | _, _, .cons a r, h => .cons a (RDs.snoc r h)
section
variable {X : Cx} {pins : List (Addr × Obj)} {σ : L2.St} {A : Around} {E : Value → Shared → Prop} {s : Shared} {scope : Scope} {f c' a kS : Addr} {x : Str} {i : Nat} {c : Nat → Addr} {params : Arguments} {body : Expr} {pm ctv : Value} {eb : Ev} {k : Nat} {ι0 : Nat → Addr} {S0 S' : Sto} {H0 : Hp} {σa : Sl} {d ks : List D} {vs : List V} {items : List Value} {r : List D}
/-- what is known behind the sort -/
def KDone (X : Cx) (pins : List (Addr × Obj)) (σ : L2.St) (c : Nat → Addr) (ι0 : Nat → Addr) (S0 S' : Sto) (H0 : Hp) (r : List D) (a : Addr) (s' : Shared) : Prop :=
  ∃ ι' H' out cc ys yv, Inv X pins σ H' s' ∧ FpOk X pins H' a ∧ s'.heap.get? a = some (seqObj "list" out cc) ∧ Vals yv out.toList ∧ RDs X.K H' ys yv ∧ sndDs r = some (ys.map .dat) ∧ yv.length ≤ sizeLine ∧ Ext ι0 S0.m H0 ι' S'.m H' ∧ RS (gX X c) ι' S' H'
theorem key_rest {e0 e1 : Nat} {fo : Obj} {P : PySem.Fin → Shared → Prop} (S : LmS X scope x i) (hN : X.N.Nodup) (hr : Room 0 A) (hrk : ∀ env : Env, Room k (A.deeper env)) (fr : A.frames = some X.stack)
    (efo : fo = PySem.W.kla_obj "<lambda>" (X.env.qual ++ "<lambda>") params body scope (cloFrom X.env.cells scope.names []) pm c' ctv) (hco : H0 c' = some (LamX.CodeO c' (X.env.qual ++ "<lambda>")))
    (hbind : ∀ u, bindArgs (PySem.W.kla_fn "<lambda>" (X.env.qual ++ "<lambda>") params body scope (cloFrom X.env.cells scope.names []) pm (.ref c') ctv) ⟨[u], []⟩ = pure [(x, u)])
    (hb : ∀ (s : Shared) (H : Hp) (f c' : Addr), Room k (A.deeper (LamX.lamEnv X scope s.heap.objs.size f c')) → EE (lCx X A s H scope f c') c body eb)
    (I : Inv X ((kS, seqObj "list" #[] e0) :: (a, seqObj "list" #[] e1) :: (f, fo) :: pins) σ H0 s) (fk : FpOk X ((a, seqObj "list" #[] e1) :: (f, fo) :: pins) H0 kS) (fa : FpOk X ((f, fo) :: pins) H0 a)
    (hL : RL X.K ι0 S0.m H0 σa σ) (RR : RS (gX X c) ι0 S0 H0) (rd : RDs X.K H0 d vs) (rv : Vals vs items) (he : keysL eb σa i d S0 = some (ks, S')) (hsr : srtL ks = some r) (hl : d.length < 64)
    (h : ∀ s', KDone X pins σ c ι0 S0 S' H0 r a s' → P (.done (.ret .none)) s') :
    wpAny (model X.prog X.w) A (ksk_rest a (.ref f) false items.toArray e1 (.ref kS)) P E s := by
  have len1 : d.length = items.length := rd.length.trans rv.length
  have prs := keysL_pair he
  have lenk : ks.length = d.length := Paired.len prs
  have nka : kS ≠ a := fun z => fk.2.2.2.2.2 (a, seqObj "list" #[] e1) (List.mem_append_right _ List.mem_cons_self) z.symm
  unfold ksk_rest
  refine wpAny_bind (wpAny_rule ?_)
  rw [List.forIn_toArray]
  refine wpAny_bind (ksk_fold (fun j s'' => ∃ ι Sc H' kA e ksd krest kvs, Inv X ((kS, seqObj "list" kA e) :: (a, seqObj "list" #[] e1) :: (f, fo) :: pins) σ H' s'' ∧ Ext ι0 S0.m H0 ι Sc.m H' ∧ RS (gX X c) ι Sc H' ∧ RDs X.K H' ksd kvs ∧ Vals kvs kA.toList ∧
      keysL eb σa i (d.drop j) Sc = some (krest, S') ∧ ksd ++ krest = ks ∧ ksd.length = j) items 0 s ⟨ι0, S0, H0, #[], e0, [], ks, [], I, .refl .., RR, .nil, .nil, he, rfl, rfl⟩ ?step ?done)
  case step =>
    rintro j u s' hx ⟨ι, Sc, H', kA, e, ksd, krest, kvs, I', x', R', rk, rvk, he', ek, lk⟩
    simp only [Nat.zero_add] at he' lk ⊢
    have hj : j < items.length := (List.getElem?_eq_some_iff.mp hx).1
    have hjd : j < d.length := by omega
    obtain ⟨uv, hu, rdj⟩ := rd.get (List.getElem?_eq_getElem hjd)
    obtain ⟨u2, hu2, rvu⟩ := rv.get hu
    rw [hx] at hu2
    cases hu2
    rw [drop_at hjd] at he'
    unfold keysL at he'
    split at he'
    · rename_i n ee S1 q
      cases hbq : D.beq ee d[j] with
      | false => rw [hbq] at he'; cases he'
      | true =>
        rw [hbq, cond_true] at he'
        split at he'
        · rename_i rr S2 q2
          cases he'
          obtain ⟨pf, _⟩ := I'.pin (f, fo) (List.mem_append_right _ (by simp))
          have hz : kA.size = j := by
            have z1 : kvs.length = kA.toList.length := Vals.length rvk
            have z2 := rk.length
            have z3 : kA.toList.length = kA.size := Array.length_toList
            omega
          refine wpAny_bind (wpAny_attempt (call_lam (f := f) (c' := c') (x := x) (i := i) (a := .dat d[j]) (Sc := Sc) (S1 := S1) (eb := eb) I' S hN hr hrk fr (by rw [← efo]; exact pf) (x'.kp.cod _ _ hco) (hbind u) (hb s' H' f c') rvu (RL.mono x' hL) R' (.dat (rdj.mono x'.kp)) q fun u' v' s'' H'' ι'' I'' rv'' x'' R'' ra'' => ?_))
          try dsimp only
          obtain ⟨pk, nk0, nkL, nkf, _⟩ := I''.pin (kS, seqObj "list" kA e) (List.mem_append_right _ List.mem_cons_self)
          have s1 := Heap.SameBut.update s''.heap kS (Obj.mapSeq (·.push u'))
          obtain ⟨c2, hc2⟩ : ∃ c2, (s''.heap.update kS (Obj.mapSeq (·.push u'))).get? kS = some (seqObj "list" (kA.push u') c2) := ⟨_, get?_update_seq pk (·.push u')⟩
          refine wpAny_bind (listUpdate_at pk rfl ?_ (by rw [sizeLine_eq]; omega) (Nat.le_trans (Nat.le_of_eq (Array.size_push ..)) (by rw [sizeLine_eq]; omega)))
          refine wpAny_pure ⟨rfl, ι'', S1, H'', kA.push u', c2, ksd ++ [.tup [.int n, ee]], rr, kvs ++ [v'], ?_, x'.trans x'', R'', ?_, ?_, q2, by rw [List.append_assoc]; exact ek, by rw [List.length_append, lk] <;> rfl⟩
          · have I3 : Inv X ((a, seqObj "list" #[] e1) :: (f, fo) :: pins) σ H'' s'' := I''.pins_of fun p hp => I''.pin p (List.mem_append_right _ (List.mem_cons_of_mem _ hp))
            have I4 := inv_turn (ch := [kS]) (h' := s''.heap.update kS (Obj.mapSeq (·.push u'))) (t' := s''.toks) I3 (fun b hb => by rw [List.mem_singleton.mp hb]; exact ⟨nk0, fk.2⟩) fun b o hb eo => (s1.2 b (fun z => hb (by rw [z]; simp))).trans eo
            refine I4.pins_of fun p hp => ?_
            rcases List.mem_cons.mp hp with z | z
            · rw [z]
              exact ⟨hc2, nk0, nkL, nkf, fun v z => by cases z⟩
            · exact I4.pin p (List.mem_append_right _ z)
          · cases ra'' with | dat rdd =>
            exact RDs.snoc (RDs.mono x''.kp rk) rdd
          · rw [Array.toList_push]
            exact Vals.append rvk (.cons rv'' .nil)
        · cases he'
    · cases he'
  case done =>
    rintro s' ⟨ι, Sc, H', kA, e, ksd, krest, kvs, I', x', R', rk, rvk, he', ek, lk⟩
    rw [Nat.zero_add] at he' lk
    have hdn : d.drop items.length = [] := List.drop_eq_nil_of_le (by omega)
    rw [hdn] at he'
    unfold keysL at he'
    cases he'
    rw [List.append_nil] at ek
    subst ek
    obtain ⟨pk, nk0, _⟩ := I'.pin (kS, seqObj "list" kA e) (List.mem_append_right _ List.mem_cons_self)
    obtain ⟨pa, na0, _⟩ := I'.pin (a, seqObj "list" #[] e1) (List.mem_append_right _ (by simp))
    try dsimp only
    refine wpAny_bind (listItems_at pk rfl ?_)
    have ck := cds_of I' rk rvk
    have rd' := RDs.mono x'.kp rd
    have cd := cds_of I' rd' rv
    have I5 : Inv X pins σ H' s' := I'.pins_of fun p hp => I'.pin p (List.mem_append_right _ (by simp [hp]))
    have ekA : kA = kA.toList.toArray := by simp
    rw [ekA] at pk ⊢
    refine key_end (keys := kA.toList) nka pk pa ck cd prs hsr (RDs.tall30 rk) (by omega) (by have := hr.un; omega) fun h' out cc ys keep kso hout y1 y2 hin hsz => h _ ?_
    have fa' : FpOk X pins H' a := ⟨na0, fa.2.1, fa.2.2.1, fa.2.2.2.1, fa.2.2.2.2.1, fun p hp => fa.2.2.2.2.2 p (by
      rcases List.mem_append.mp hp with z | z
      · exact List.mem_append_left _ z
      · exact List.mem_append_right _ (List.mem_cons_of_mem _ z))⟩
    have fk' : FpOk X pins H' kS := ⟨nk0, fk.2.1, fk.2.2.1, fk.2.2.2.1, fk.2.2.2.2.1, fun p hp => fk.2.2.2.2.2 p (by
      rcases List.mem_append.mp hp with z | z
      · exact List.mem_append_left _ z
      · exact List.mem_append_right _ (List.mem_cons_of_mem _ (List.mem_cons_of_mem _ z)))⟩
    have I6 := inv_turn (ch := [a, kS]) (h' := h') (t' := s'.toks) I5 (fun b hb => by
      rcases List.mem_cons.mp hb with z | z
      · rw [z]; exact fa'
      · rw [List.mem_singleton.mp z]; exact fk') fun b o hb eo => keep b o (fun z => hb (by simp [z])) (fun z => hb (by simp [z])) eo
    obtain ⟨yv, h1, h2⟩ := back_vals y2 fun v m => all_vals I5 rd' rv v (hin v m)
    refine ⟨ι, H', out, cc, ys, yv, I6, fa', hout, h1, h2, y1, ?_, x', R'⟩
    have z1 : yv.length = out.toList.length := Vals.length h1
    have z3 : out.toList.length = out.size := Array.length_toList
    rw [sizeLine_eq]
    omega
end
end Cs
/-! Z42: sorted(.., key=lambda x: e), the expression. -/
namespace Cs
open PySem PySem.Spec PyProof.Rows L2 PySem.SeqAt Srt PySem.W

section
variable {X : Cx} {pins : List (Addr × Obj)} {σ : L2.St} {A : Around} {E : Value → Shared → Prop} {s : Shared} {scope : Scope} {f c' : Addr} {x : Str} {i : Nat} {c : Nat → Addr} {params : Arguments} {body : Expr} {pm ctv : Value} {eb : Ev} {k : Nat} {ι0 : Nat → Addr} {S0 S' : Sto} {H0 : Hp} {σa : Sl} {d ks : List D} {vs : List V} {items : List Value} {r : List D}
theorem sorted_key {l : Addr} {fo : Obj} {Q : Value → Shared → Prop} (S : LmS X scope x i) (hN : X.N.Nodup) (hr : Room (k + 1) X.A)
    (efo : fo = PySem.W.kla_obj "<lambda>" (X.env.qual ++ "<lambda>") params body scope (cloFrom X.env.cells scope.names []) pm c' ctv) (hco : H0 c' = some (LamX.CodeO c' (X.env.qual ++ "<lambda>")))
    (hbind : ∀ u, bindArgs (PySem.W.kla_fn "<lambda>" (X.env.qual ++ "<lambda>") params body scope (cloFrom X.env.cells scope.names []) pm (.ref c') ctv) ⟨[u], []⟩ = pure [(x, u)])
    (hb : ∀ (s : Shared) (H : Hp) (f c' : Addr), Room k (X.A.in1.in1.deeper (LamX.lamEnv X scope s.heap.objs.size f c')) → EE (lCx X X.A.in1.in1 s H scope f c') c body eb)
    (I : Inv X ((f, fo) :: pins) σ H0 s) (hl : s.heap.IsList l items.toArray)
    (hL : RL X.K ι0 S0.m H0 σa σ) (RR : RS (gX X c) ι0 S0 H0) (rd : RDs X.K H0 d vs) (rv : Vals vs items) (he : keysL eb σa i d S0 = some (ks, S')) (hsr : srtL ks = some r) (h64 : d.length < 64)
    (h : ∀ a s', KDone X pins σ c ι0 S0 S' H0 r a s' → Q (.ref a) s') :
    wpAny (model X.prog X.w) X.A (call (.builtin "sorted") [.ref l] [(Str.ofString "key", .ref f)]) Q E s := by
  have len1 : d.length = items.length := rd.length.trans rv.length
  refine call_function_entry_kw kind_sorted plain_sorted entry_sorted (ksk_s1 _ _) ?_
  unfold Builtin.«sorted»
  refine wpAny_bind (m := checkCount "sorted" 1 1 _) (wpAny_pure ?_)
  refine wpAny_bind (collect_list hl ?_ (by rw [sizeLine_eq]; omega))
  refine wpAny_bind (wpAny_newList ?_ (by rw [sizeLine_eq]; omega))
  have hsz : ((s.heap.push (seqObj "list" #[] 0)).update s.heap.objs.size (Obj.mapSeq (· ++ items.toArray))).objs.size = s.heap.objs.size + 1 := by
    rw [Heap.size_update, size_push']
  have hoL : (((s.heap.push (seqObj "list" #[] 0)).update s.heap.objs.size (Obj.mapSeq (· ++ items.toArray))).push (seqObj "list" items.toArray 0)).get? (s.heap.objs.size + 1) = some (seqObj "list" items.toArray 0) := by
    rw [← hsz]; exact Heap.get?_push_size _ rfl
  have keep : ∀ b o, s.heap.get? b = some o → (((s.heap.push (seqObj "list" #[] 0)).update s.heap.objs.size (Obj.mapSeq (· ++ items.toArray))).push (seqObj "list" items.toArray 0)).get? b = some o := fun b o q => by
    have hlt : b < s.heap.objs.size := Heap.lt_size q
    refine Heap.get?_push_of_some _ ?_
    rw [Heap.get?_update_ne _ _ _ _ (Nat.ne_of_lt hlt)]
    exact Heap.get?_push_of_some _ q
  have sizeG : (((s.heap.push (seqObj "list" #[] 0)).update s.heap.objs.size (Obj.mapSeq (· ++ items.toArray))).push (seqObj "list" items.toArray 0)).objs.size = s.heap.objs.size + 2 := by
    rw [size_push', hsz]
  show wpAny _ _ _ _ _ { s with heap := ((s.heap.push (seqObj "list" #[] 0)).update s.heap.objs.size (Obj.mapSeq (· ++ items.toArray))).push (seqObj "list" items.toArray 0) }
  rw [hsz]
  generalize ((s.heap.push (seqObj "list" #[] 0)).update s.heap.objs.size (Obj.mapSeq (· ++ items.toArray))).push (seqObj "list" items.toArray 0) = g at hoL keep sizeG ⊢
  generalize hga : s.heap.objs.size + 1 = a at hoL ⊢
  have ha0 : s.heap.objs.size ≤ a := by omega
  refine wpAny_bind (wpAny_holding (wpAny_call_entry_kw slot_list_sort ⟨_, hoL, rfl⟩ entry_list_sort ?body (ksk_l1 _ _)))
  case body =>
    rw [ksk_t1]
    have I1 : Inv X ((f, fo) :: pins) σ H0 { s with heap := g } := Inv.kept (t' := s.toks) I keep
    have fa : FpOk X ((f, fo) :: pins) H0 a := I.fpOk ha0 (I.hok.fresh ha0)
    have s1 := Heap.SameBut.update g a (Obj.mapSeq fun _ => (#[] : Array Value))
    obtain ⟨e1, ho1⟩ : ∃ e1, (g.update a (Obj.mapSeq fun _ => (#[] : Array Value))).get? a = some (seqObj "list" #[] e1) := ⟨_, get?_update_seq hoL fun _ => #[]⟩
    have I2 := inv_turn (ch := [a]) (h' := g.update a (Obj.mapSeq fun _ => (#[] : Array Value))) (t' := s.toks) I1 (fun b hb => by rw [List.mem_singleton.mp hb]; exact fa) fun b o hb eo => (s1.2 b (fun z => hb (by rw [z]; simp))).trans eo
    have I3 : Inv X ((f, fo) :: pins) σ H0 { s with heap := ((g.update a (Obj.mapSeq fun _ => (#[] : Array Value))).push (seqObj "tuple" items.toArray 0)).push (seqObj "list" #[] 0) } := Inv.kept (s := { s with heap := g.update a (Obj.mapSeq fun _ => (#[] : Array Value)) }) (t' := s.toks) I2 fun b o eo => Heap.get?_push_of_some _ (Heap.get?_push_of_some _ eo)
    have hkS : ((g.update a (Obj.mapSeq fun _ => (#[] : Array Value))).push (seqObj "tuple" items.toArray 0)).objs.size = g.objs.size + 1 := by rw [size_push', Heap.size_update]
    unfold ksk_tree
    refine wpAny_bind (listItems_at hoL rfl ?_)
    refine wpAny_bind (listUpdate_at hoL rfl ?_ (by rw [List.size_toArray, sizeLine_eq]; omega) (Nat.zero_le _))
    refine wpAny_bind (seqEpoch_at ho1 rfl ?_)
    refine wpAny_bind (wpAny_newTuple ?_ (by show items.length ≤ _; rw [sizeLine_eq]; omega))
    refine wpAny_bind (wpAny_newList ?_ (Nat.zero_le _))
    refine wpAny_holding ?_
    have pa : (((g.update a (Obj.mapSeq fun _ => (#[] : Array Value))).push (seqObj "tuple" items.toArray 0)).push (seqObj "list" #[] 0)).get? a = some (seqObj "list" #[] e1) := Heap.get?_push_of_some _ (Heap.get?_push_of_some _ ho1)
    have pk : (((g.update a (Obj.mapSeq fun _ => (#[] : Array Value))).push (seqObj "tuple" items.toArray 0)).push (seqObj "list" #[] 0)).get? ((g.update a (Obj.mapSeq fun _ => (#[] : Array Value))).push (seqObj "tuple" items.toArray 0)).objs.size = some (seqObj "list" #[] 0) := Heap.get?_push_size _ rfl
    have hkge : s.heap.objs.size ≤ ((g.update a (Obj.mapSeq fun _ => (#[] : Array Value))).push (seqObj "tuple" items.toArray 0)).objs.size := by rw [hkS, sizeG]; omega
    have fk0 : FpOk X ((f, fo) :: pins) H0 ((g.update a (Obj.mapSeq fun _ => (#[] : Array Value))).push (seqObj "tuple" items.toArray 0)).objs.size := I.fpOk hkge (I.hok.fresh hkge)
    have nka : a ≠ ((g.update a (Obj.mapSeq fun _ => (#[] : Array Value))).push (seqObj "tuple" items.toArray 0)).objs.size := by
      rw [hkS, sizeG, ← hga]
      exact Nat.ne_of_lt (by omega)
    generalize ((g.update a (Obj.mapSeq fun _ => (#[] : Array Value))).push (seqObj "tuple" items.toArray 0)).objs.size = kS at pk fk0 nka ⊢
    have fk : FpOk X ((a, seqObj "list" #[] e1) :: (f, fo) :: pins) H0 kS := ⟨fk0.1, fk0.2.1, fk0.2.2.1, fk0.2.2.2.1, fk0.2.2.2.2.1, fun p hp => by
      rcases List.mem_append.mp hp with z | z
      · exact fk0.2.2.2.2.2 p (List.mem_append_left _ z)
      · rcases List.mem_cons.mp z with z | z
        · rw [z]; exact nka
        · exact fk0.2.2.2.2.2 p (List.mem_append_right _ z)⟩
    have I4 : Inv X ((kS, seqObj "list" #[] 0) :: (a, seqObj "list" #[] e1) :: (f, fo) :: pins) σ H0 { s with heap := ((g.update a (Obj.mapSeq fun _ => (#[] : Array Value))).push (seqObj "tuple" items.toArray 0)).push (seqObj "list" #[] 0) } := I3.pins_of fun p hp => by
      rcases List.mem_cons.mp hp with z | hp
      · rw [z]
        exact ⟨pk, fk0.1, fk0.2.1, fk0.2.2.1, fun v z => by cases z⟩
      · rcases List.mem_cons.mp hp with z | hp
        · rw [z]
          exact ⟨pa, fa.1, fa.2.1, fa.2.2.1, fun v z => by cases z⟩
        · exact I3.pin p (List.mem_append_right _ hp)
    refine key_rest (A := X.A.in1.in1) (k := k) (fo := fo) S hN ⟨hr.hd, by have := hr.dp; show X.A.depth + 3 * 0 + 5 < _; omega, by have := hr.un; show X.A.units + 1 + 1 + 16 * 0 + 200 < _; omega⟩ (fun env => ⟨hr.hd, by have := hr.dp; show X.A.depth + 1 + 3 * k + 5 < _; omega, by have := hr.un; show X.A.units + 1 + 1 + 3 + 16 * k + 200 < _; omega⟩) I.ok.frames efo hco hbind hb I4 fk fa hL RR rd rv he hsr h64 fun s' hk => ⟨_, rfl, ?_⟩
    exact wpAny_pure ⟨_, rfl, h a s' hk⟩
end
section
variable {X : Cx} {c : Nat → Addr} {cc : Addr} {e body : Expr} {params : Arguments} {scope : Scope} {x : Str} {i k : Nat} {ea eb : Ev} {p pos lpos kpos : Pos}
theorem e_srtKey (hr : Room (k + 1) X.A) (hg : Gl X "sorted") (hm : X.mg "sorted" = none) (TB : GxR.TabB X.base X.mg cc (c 5)) (hcode : X.env.code = .ref cc) (hq : X.env.qual ++ "<lambda>" = lamQ) (hN : X.N.Nodup) (S : LmS X scope x i) (hdef : defaultsOf params X.env = ([], []))
    (hbind : ∀ (cl : List (Str × Addr)) (pm cv ctv u : Value), bindArgs (PySem.W.kla_fn "<lambda>" (X.env.qual ++ "<lambda>") params body scope cl pm cv ctv) ⟨[u], []⟩ = pure [(x, u)])
    (ha : EE X c e ea) (hb : ∀ (s : Shared) (H : Hp) (f c' : Addr), Room k (X.A.in1.in1.deeper (LamX.lamEnv X scope s.heap.objs.size f c')) → EE (lCx X X.A.in1.in1 s H scope f c') c body eb)
    (he : backTo pos (starEach [e] X.env) = (false, eval e X.env) :: backTo pos (starEach [] X.env) := by rfl) (hpl : (backTo pos (starEach [e] X.env)).any (·.1) = false := by rfl)
    (hall : (backToKw pos (keywordEach [⟨some "key", .Lambda params body scope lpos, kpos⟩] X.env)).all (·.1.isSome) = true := by rfl) (hnone : (backToKw pos (keywordEach [⟨some "key", .Lambda params body scope lpos, kpos⟩] X.env)).any (·.1.isNone) = false := by rfl) :
    EE X c (.Call (.Name "sorted" p) [e] [⟨some "key", .Lambda params body scope lpos, kpos⟩] pos) (cSrtKey ea eb i) := by
  refine ⟨fun pins s σ H Q I h => ?_⟩
  obtain ⟨ι, σa, Sc, z, S', hL, R, e0, kk⟩ := h
  unfold cSrtKey at e0
  split at e0
  · rename_i n S0 q1
    split at e0
    · rename_i xs q2
      split at e0
      · rename_i d q3
        cases hbr : brief d with
        | false => rw [hbr] at e0; cases e0
        | true =>
        rw [hbr, cond_true] at e0
        split at e0
        · rename_i ks S1 q4
          split at e0
          · rename_i r q5
            split at e0
            · rename_i ys q6
              refine wpAny_Call_Name_kw (ld_blt I hg hm boot_sorted ?_)
              refine PyProof.Rows.callWith_kw ?_ he hpl hall hnone
              rw [he]
              show wpAny _ _ (spliced ((false, eval e X.env) :: backTo pos (starEach [] X.env))) _ _ s
              refine Calls.spliced_cons (thn (ha.run pins s σ H (fun v H1 => ∃ ι1, Ext ι Sc.m H ι1 S0.m H1 ∧ RS (gX X c) ι1 S0 H1 ∧ RA X.K ι1 S0.m H1 (.obj n) v) I ⟨ι, σa, Sc, _, S0, hL, R, q1, fun ι1 H1 v x R r => ⟨ι1, x, R, r⟩⟩) fun xv s1 ⟨v, H1, I1, rv1, ι1, x1, R1, ra⟩ => ?_)
              refine Calls.spliced_nil ?_
              obtain ⟨hn, rfl⟩ := ra.objn
              obtain rfl : xv = Value.ref (ι1 n) := rv1
              show wpAny _ _ (evalAll ((do let v ← eval (.Lambda params body scope lpos) X.env; standAt pos; pure v) :: (backToKw pos (keywordEach [] X.env)).map (·.2))) _ _ s1
              refine wpAny_evalAll_cons (wpAny_bind (lam_make3 I1 TB hcode (by rw [hq]; exact R1.tk) hdef (S.has I1.ok) fun f c' pm ctv H2 s2 I2 kp eqo tk hf nf hfs hfl hco => wpAny_bind (wpAny_standAt (wpAny_pure ?_))))
              refine wpAny_evalAll_nil ?_
              obtain ⟨R2, x2⟩ := R1.ext kp (fun j hj => by
                obtain ⟨u, eu, _, _, h3, _⟩ := R1.there hj
                rw [eu]
                exact eqo _ _ eu fun ps z => h3 ps z) (by rw [← hq]; exact tk)
              obtain ⟨vs, hH, rr⟩ := (R2.ob n _ q2).2
              obtain ⟨its, rv, pl, hz⟩ := I2.list (SqL.of hH)
              have fpf : FpOk X pins H2 f := I1.fpOk hfs nf
              have I3 : Inv X ((f, PySem.W.kla_obj "<lambda>" (X.env.qual ++ "<lambda>") params body scope (cloFrom X.env.cells scope.names []) pm c' ctv) :: pins) σ H2 s2 := I2.pins_of fun p hp => by
                rcases List.mem_cons.mp hp with z | z
                · rw [z]
                  exact ⟨hf, nf, fpf.2.1, fpf.2.2.1, fun v z => by cases z⟩
                · exact I2.pin p (List.mem_append_right _ z)
              show wpAny _ _ (call (.builtin "sorted") [.ref (ι1 n)] [(Str.ofString "key", .ref f)]) _ _ s2
              refine sorted_key (k := k) (l := ι1 n) S hN hr rfl hco (fun u => hbind _ _ _ _ u) hb I3 pl.isList (RL.mono (x1.trans x2) hL) R2 (datas_rd q3 rr) rv q4 q5 (brief_lt hbr) fun a s' hk => ?_
              obtain ⟨ι', H', out, c9, yd, yv, J, fa, hg9, rv9, rd9, e9, hz9, x9, R9⟩ := hk
              rw [q6] at e9
              cases e9
              have J2 := inv_track J fa hg9 rv9 hz9
              obtain ⟨ι2, R3, x3, r3⟩ := R9.new1 (ho := .lst yv) e0 fa.1 fun ι' x' => ⟨yv, upd_same, RDs.as (RDs.mono x'.kp rd9)⟩
              exact ⟨.ref a, _, J2, rfl, kk ι2 _ _ (((x1.trans x2).trans x9).trans x3) R3 r3⟩
            · cases e0
          · cases e0
        · cases e0
      · cases e0
    · cases e0
  · cases e0
end
end Cs
/-! Z43: a def whose code object is known. -/
namespace Cs
open PySem PySem.Spec PyProof.Rows L2
section
variable {P : Program} {w : World} {K : PySem.W.Frag} {mg : Str → Option Value} {base : Heap} {c : Nat → Addr}
theorem fn_okC {x qual : Str} {st : Stmt} {f : Addr} {fd : FuncData} {N ps : List Str} {k : Nat} {body : Sv} (F : Fun K x qual st f fd) (S : FnScope N ps (defScope st))
    (hb : ∀ (cdv : Value) (A : Around) (outer : List Env) (s : Shared) (H : Hp) (E : XK), fd.code = cdv → Room k (A.deeper (envOfC qual (defScope st) s.heap.objs.size f cdv)) → EB (cxOf CX0 P w K mg base N qual (defScope st) f cdv A outer s H E).nox c (defBody st) body) :
    FnOk P w K mg base CX0 (k + 1) f fd ps (spR (gB P w K c) (runB N.length ps.length body)) := by
  have len : ∀ vs H Q E, spR (gB P w K c) (runB N.length ps.length body) vs H Q E → vs.length = ps.length := by
    rintro vs H Q E ⟨ι, as, S, a, S', r, R, e, k⟩
    unfold runB at e
    rw [beqN, cond_dec] at e
    by_cases h : as.length = ps.length
    · exact (Paired.len r).symm.trans h
    · rw [if_neg h] at e
      cases e
  obtain ⟨oc, od, kV, doc, pm, an, cdv, ct, osl, rfl, lk, hcd⟩ := F.ex
  refine fn_of lk hcd S len fun A outer s H vs Q E hr hsp => ⟨_, (hb cdv A outer s H E rfl hr).nox, ?_⟩
  obtain ⟨ι, as, S0, a, S', r, R, e, kk⟩ := hsp
  unfold runB at e
  rw [beqN, cond_dec] at e
  by_cases h : as.length = ps.length
  · rw [if_pos h] at e
    have hv : vs.length = ps.length := (Paired.len r).symm.trans h
    have L : RL K ι S0.m H (sl0 N.length ps.length as) (L2.start N vs) := by
      unfold sl0 L2.start
      rw [hv]
      exact Paired.append (RL.start r) (RL.blank _)
    split at e
    · rename_i a' σ' S1 q
      cases e
      exact ⟨ι, _, S0, .rt a, σ', S', L, R, q, kk⟩
    · rename_i σ' S1 q
      cases e
      exact ⟨ι, _, S0, .nx, σ', S', L, R, q, fun ι' H' σ2 x' R' L' => kk ι' H' .non x' R' (.dat .non)⟩
    · cases e
  · rw [if_neg h] at e
    cases e
end
end Cs
namespace Cs
open PySem PySem.Spec PyProof.Rows L2
def top (i : Nat) : Stmt := PySem.Challenge.pw_conceptscript_k62_axioms_that_stand_apar.main.body.getD i (.Pass ⟨0, 0, 0, 0⟩)
abbrev s0 : Stmt := top 6
abbrev n0 : List Str := ["formula", "part"]
theorem sc0 : FnScope n0 ["formula"] (defScope s0) := ⟨rfl, rfl, rfl, by decide +kernel, rfl, by decide +kernel, by decide +kernel⟩
abbrev s1 : Stmt := top 7
abbrev n1 : List Str := ["formula", "table", "part"]
theorem sc1 : FnScope n1 ["formula", "table"] (defScope s1) := ⟨rfl, rfl, rfl, by decide +kernel, rfl, by decide +kernel, by decide +kernel⟩
abbrev s2 : Stmt := top 8
abbrev n2 : List Str := ["k"]
theorem sc2 : FnScope n2 ["k"] (defScope s2) := ⟨rfl, rfl, rfl, by decide +kernel, rfl, by decide +kernel, by decide +kernel⟩
abbrev s3 : Stmt := inClass (top 11) 0
abbrev n3 : List Str := ["self"]
theorem sc3 : FnScope n3 ["self"] (defScope s3) := ⟨rfl, rfl, rfl, by decide +kernel, rfl, by decide +kernel, by decide +kernel⟩
abbrev s4 : Stmt := inClass (top 11) 1
abbrev n4 : List Str := ["self", "formula", "why"]
theorem sc4 : FnScope n4 ["self", "formula", "why"] (defScope s4) := ⟨rfl, rfl, rfl, by decide +kernel, rfl, by decide +kernel, by decide +kernel⟩
abbrev s5 : Stmt := inClass (top 11) 2
abbrev n5 : List Str := ["self", "formula"]
theorem sc5 : FnScope n5 ["self", "formula"] (defScope s5) := ⟨rfl, rfl, rfl, by decide +kernel, rfl, by decide +kernel, by decide +kernel⟩
abbrev s6 : Stmt := inClass (top 11) 3
abbrev n6 : List Str := ["self", "k", "parts"]
theorem sc6 : FnScope n6 ["self", "k", "parts"] (defScope s6) := ⟨rfl, rfl, rfl, by decide +kernel, rfl, by decide +kernel, by decide +kernel⟩
abbrev s7 : Stmt := inClass (top 11) 4
abbrev n7 : List Str := ["self", "first", "second"]
theorem sc7 : FnScope n7 ["self", "first", "second"] (defScope s7) := ⟨rfl, rfl, rfl, by decide +kernel, rfl, by decide +kernel, by decide +kernel⟩
abbrev s8 : Stmt := inClass (top 11) 5
abbrev n8 : List Str := ["self", "proof", "places", "formula", "why"]
theorem sc8 : FnScope n8 ["self", "proof"] (defScope s8) := ⟨rfl, rfl, rfl, by decide +kernel, rfl, by decide +kernel, by decide +kernel⟩
abbrev s9 : Stmt := inClass (top 11) 7
abbrev n9 : List Str := ["self", "place"]
theorem sc9 : FnScope n9 ["self", "place"] (defScope s9) := ⟨rfl, rfl, rfl, by decide +kernel, rfl, by decide +kernel, by decide +kernel⟩
abbrev s10 : Stmt := top 13
abbrev n10 : List Str := ["proof", "places", "number", "formula", "_"]
theorem sc10 : FnScope n10 ["proof"] (defScope s10) := ⟨rfl, rfl, rfl, by decide +kernel, rfl, by decide +kernel, by decide +kernel⟩
abbrev s11 : Stmt := top 14
abbrev n11 : List Str := ["proof", "first", "needed", "number", "why", "order", "places", "place", "found", "formula"]
theorem sc11 : FnScope n11 ["proof"] (defScope s11) := ⟨rfl, rfl, rfl, by decide +kernel, rfl, by decide +kernel, by decide +kernel⟩
abbrev s12 : Stmt := inClass (top 15) 0
abbrev n12 : List Str := ["self", "proof", "condition"]
theorem sc12 : FnScope n12 ["self", "proof", "condition"] (defScope s12) := ⟨rfl, rfl, rfl, by decide +kernel, rfl, by decide +kernel, by decide +kernel⟩
abbrev s13 : Stmt := inClass (top 15) 1
abbrev n13 : List Str := ["self", "number"]
theorem sc13 : FnScope n13 ["self", "number"] (defScope s13) := ⟨rfl, rfl, rfl, by decide +kernel, rfl, by decide +kernel, by decide +kernel⟩
abbrev s14 : Stmt := inClass (top 15) 2
abbrev n14 : List Str := ["self", "own", "step"]
theorem sc14 : FnScope n14 ["self"] (defScope s14) := ⟨rfl, rfl, rfl, by decide +kernel, rfl, by decide +kernel, by decide +kernel⟩
abbrev s15 : Stmt := inClass (top 15) 3
abbrev n15 : List Str := ["self", "number", "step"]
theorem sc15 : FnScope n15 ["self", "number"] (defScope s15) := ⟨rfl, rfl, rfl, by decide +kernel, rfl, by decide +kernel, by decide +kernel⟩
abbrev s16 : Stmt := inClass (top 15) 4
abbrev n16 : List Str := ["self", "number", "first", "second", "_", "condition", "consequence", "step"]
theorem sc16 : FnScope n16 ["self", "number", "first", "second"] (defScope s16) := ⟨rfl, rfl, rfl, by decide +kernel, rfl, by decide +kernel, by decide +kernel⟩
abbrev s17 : Stmt := inClass (top 15) 5
abbrev n17 : List Str := ["self", "number", "formula", "why"]
theorem sc17 : FnScope n17 ["self", "number"] (defScope s17) := ⟨rfl, rfl, rfl, by decide +kernel, rfl, by decide +kernel, by decide +kernel⟩
abbrev s18 : Stmt := inClass (top 15) 6
abbrev n18 : List Str := ["self", "number"]
theorem sc18 : FnScope n18 ["self"] (defScope s18) := ⟨rfl, rfl, rfl, by decide +kernel, rfl, by decide +kernel, by decide +kernel⟩
abbrev s19 : Stmt := top 16
abbrev n19 : List Str := ["proof", "formula"]
theorem sc19 : FnScope n19 ["proof", "formula"] (defScope s19) := ⟨rfl, rfl, rfl, by decide +kernel, rfl, by decide +kernel, by decide +kernel⟩
abbrev s20 : Stmt := top 20
abbrev n20 : List Str := ["formula", "strength", "other", "part"]
theorem sc20 : FnScope n20 ["formula", "strength"] (defScope s20) := ⟨rfl, rfl, rfl, by decide +kernel, rfl, by decide +kernel, by decide +kernel⟩
abbrev s21 : Stmt := inClass (top 23) 0
abbrev n21 : List Str := ["self", "formulas", "strength", "found", "formula", "part", "unlike", "place"]
theorem sc21 : FnScope n21 ["self", "formulas", "strength"] (defScope s21) := ⟨rfl, rfl, rfl, by decide +kernel, rfl, by decide +kernel, by decide +kernel⟩
abbrev s22 : Stmt := inClass (top 23) 1
abbrev n22 : List Str := ["self", "place", "part"]
theorem sc22 : FnScope n22 ["self", "place"] (defScope s22) := ⟨rfl, rfl, rfl, by decide +kernel, rfl, by decide +kernel, by decide +kernel⟩
abbrev s23 : Stmt := inClass (top 23) 2
abbrev n23 : List Str := ["self", "reasons", "place", "goals", "condition", "consequence"]
theorem sc23 : FnScope n23 ["self", "reasons"] (defScope s23) := ⟨rfl, rfl, rfl, by decide +kernel, rfl, by decide +kernel, by decide +kernel⟩
abbrev s24 : Stmt := inClass (top 23) 3
abbrev n24 : List Str := ["self", "given", "reasons", "place", "goals"]
theorem sc24 : FnScope n24 ["self", "given", "reasons"] (defScope s24) := ⟨rfl, rfl, rfl, by decide +kernel, rfl, by decide +kernel, by decide +kernel⟩
abbrev s25 : Stmt := inClass (top 23) 4
abbrev n25 : List Str := ["self", "given", "place"]
theorem sc25 : FnScope n25 ["self", "given", "place"] (defScope s25) := ⟨rfl, rfl, rfl, by decide +kernel, rfl, by decide +kernel, by decide +kernel⟩
abbrev s26 : Stmt := inClass (top 23) 5
abbrev n26 : List Str := ["self", "given", "reasons", "place", "step"]
theorem sc26 : FnScope n26 ["self", "given"] (defScope s26) := ⟨rfl, rfl, rfl, by decide +kernel, rfl, by decide +kernel, by decide +kernel⟩
abbrev s27 : Stmt := inClass (top 23) 6
abbrev n27 : List Str := ["self", "place"]
theorem sc27 : FnScope n27 ["self", "place"] (defScope s27) := ⟨rfl, rfl, rfl, by decide +kernel, rfl, by decide +kernel, by decide +kernel⟩
abbrev s28 : Stmt := inClass (top 23) 7
abbrev n28 : List Str := ["self", "given", "place", "ledger", "formula", "reason", "inner", "step", "sub"]
theorem sc28 : FnScope n28 ["self", "given", "place", "ledger"] (defScope s28) := ⟨rfl, rfl, rfl, by decide +kernel, rfl, by decide +kernel, by decide +kernel⟩
abbrev s29 : Stmt := inClass (top 23) 8
abbrev n29 : List Str := ["self", "given", "reason", "ledger", "first", "second", "formula"]
theorem sc29 : FnScope n29 ["self", "given", "reason", "ledger"] (defScope s29) := ⟨rfl, rfl, rfl, by decide +kernel, rfl, by decide +kernel, by decide +kernel⟩
abbrev s30 : Stmt := inClass (top 23) 9
abbrev n30 : List Str := ["self", "given", "place", "ledger"]
theorem sc30 : FnScope n30 ["self", "given", "place"] (defScope s30) := ⟨rfl, rfl, rfl, by decide +kernel, rfl, by decide +kernel, by decide +kernel⟩
abbrev s31 : Stmt := top 24
abbrev n31 : List Str := ["hypotheses", "formula", "strength", "search", "given", "other", "place"]
theorem sc31 : FnScope n31 ["hypotheses", "formula", "strength"] (defScope s31) := ⟨rfl, rfl, rfl, by decide +kernel, rfl, by decide +kernel, by decide +kernel⟩
abbrev s32 : Stmt := top 25
abbrev n32 : List Str := ["formula", "strength"]
theorem sc32 : FnScope n32 ["formula", "strength"] (defScope s32) := ⟨rfl, rfl, rfl, by decide +kernel, rfl, by decide +kernel, by decide +kernel⟩
abbrev s33 : Stmt := top 29
abbrev n33 : List Str := ["k"]
theorem sc33 : FnScope n33 ["k"] (defScope s33) := ⟨rfl, rfl, rfl, by decide +kernel, rfl, by decide +kernel, by decide +kernel⟩
abbrev s34 : Stmt := top 35
abbrev n34 : List Str := ["_law_pattern", "_law_formula", "_law_found", "_law_k"]
theorem sc34 : FnScope n34 ["_law_pattern", "_law_formula", "_law_found"] (defScope s34) := ⟨rfl, rfl, rfl, by decide +kernel, rfl, by decide +kernel, by decide +kernel⟩
abbrev s35 : Stmt := top 36
abbrev n35 : List Str := ["_law_rows", "_law_formula", "_law_k"]
theorem sc35 : FnScope n35 ["_law_rows"] (defScope s35) := ⟨rfl, rfl, rfl, by decide +kernel, rfl, by decide +kernel, by decide +kernel⟩
abbrev s36 : Stmt := top 37
abbrev n36 : List Str := ["_law_k", "_law_a", "_law_b", "_law_c", "_law_d", "_law_axioms"]
theorem sc36 : FnScope n36 ["_law_k"] (defScope s36) := ⟨rfl, rfl, rfl, by decide +kernel, rfl, by decide +kernel, by decide +kernel⟩
abbrev s37 : Stmt := top 38
abbrev n37 : List Str := ["_law_proof", "_law_k", "_law_formula", "_law_why", "_law_rule"]
theorem sc37 : FnScope n37 ["_law_proof", "_law_k"] (defScope s37) := ⟨rfl, rfl, rfl, by decide +kernel, rfl, by decide +kernel, by decide +kernel⟩
abbrev s38 : Stmt := top 39
abbrev n38 : List Str := ["_law_proof", "_law_k", "_law_reason"]
theorem sc38 : FnScope n38 ["_law_proof"] (defScope s38) := ⟨rfl, rfl, rfl, by decide +kernel, rfl, by decide +kernel, by decide +kernel⟩
abbrev s39 : Stmt := top 40
abbrev n39 : List Str := ["_law_proof", "_law_rows", "_law_line"]
theorem sc39 : FnScope n39 ["_law_proof"] (defScope s39) := ⟨rfl, rfl, rfl, by decide +kernel, rfl, by decide +kernel, by decide +kernel⟩
abbrev s40 : Stmt := top 41
abbrev n40 : List Str := ["_law_why", "_law_number"]
theorem sc40 : FnScope n40 ["_law_why"] (defScope s40) := ⟨rfl, rfl, rfl, by decide +kernel, rfl, by decide +kernel, by decide +kernel⟩
abbrev s41 : Stmt := top 42
abbrev n41 : List Str := ["_law_proof", "_law_given", "_law_formula", "_law_axioms", "_law_line", "_law_row"]
theorem sc41 : FnScope n41 ["_law_proof", "_law_given", "_law_formula", "_law_axioms"] (defScope s41) := ⟨rfl, rfl, rfl, by decide +kernel, rfl, by decide +kernel, by decide +kernel⟩
abbrev s42 : Stmt := top 43
abbrev n42 : List Str := ["_law_row", "_law_many", "_law_k"]
theorem sc42 : FnScope n42 ["_law_row", "_law_many"] (defScope s42) := ⟨rfl, rfl, rfl, by decide +kernel, rfl, by decide +kernel, by decide +kernel⟩
abbrev s43 : Stmt := top 44
abbrev n43 : List Str := ["_law_row", "_law_many", "_law_one"]
theorem sc43 : FnScope n43 ["_law_row", "_law_many"] (defScope s43) := ⟨rfl, rfl, rfl, by decide +kernel, rfl, by decide +kernel, by decide +kernel⟩
abbrev s44 : Stmt := top 45
abbrev n44 : List Str := ["_law_table", "_law_many", "_law_row"]
theorem sc44 : FnScope n44 ["_law_table"] (defScope s44) := ⟨rfl, rfl, rfl, by decide +kernel, rfl, by decide +kernel, by decide +kernel⟩
abbrev s45 : Stmt := top 46
abbrev n45 : List Str := ["_law_table", "_law_x", "_law_y"]
theorem sc45 : FnScope n45 ["_law_table"] (defScope s45) := ⟨rfl, rfl, rfl, by decide +kernel, rfl, by decide +kernel, by decide +kernel⟩
abbrev s46 : Stmt := top 47
abbrev n46 : List Str := ["_law_names_here", "_law_many", "_law_ways_here", "_law_name", "_law_longer", "_law_way", "_law_value_here", "_law_wider"]
theorem sc46 : FnScope n46 ["_law_names_here", "_law_many"] (defScope s46) := ⟨rfl, rfl, rfl, by decide +kernel, rfl, by decide +kernel, by decide +kernel⟩
abbrev s47 : Stmt := top 48
abbrev n47 : List Str := ["_law_formula", "_law_rows", "_law_part"]
theorem sc47 : FnScope n47 ["_law_formula"] (defScope s47) := ⟨rfl, rfl, rfl, by decide +kernel, rfl, by decide +kernel, by decide +kernel⟩
abbrev s48 : Stmt := top 49
abbrev n48 : List Str := ["_law_formula", "_law_part"]
theorem sc48 : FnScope n48 ["_law_formula"] (defScope s48) := ⟨rfl, rfl, rfl, by decide +kernel, rfl, by decide +kernel, by decide +kernel⟩
abbrev s49 : Stmt := top 50
abbrev n49 : List Str := ["_law_table", "_law_formula", "_law_values"]
theorem sc49 : FnScope n49 ["_law_table", "_law_formula", "_law_values"] (defScope s49) := ⟨rfl, rfl, rfl, by decide +kernel, rfl, by decide +kernel, by decide +kernel⟩
abbrev s50 : Stmt := top 51
abbrev n50 : List Str := ["_law_table", "_law_formula", "_law_values"]
theorem sc50 : FnScope n50 ["_law_table", "_law_formula"] (defScope s50) := ⟨rfl, rfl, rfl, by decide +kernel, rfl, by decide +kernel, by decide +kernel⟩
abbrev s51 : Stmt := top 52
abbrev n51 : List Str := ["_law_table", "_law_axioms", "_law_formula", "_law_k"]
theorem sc51 : FnScope n51 ["_law_table", "_law_axioms", "_law_formula"] (defScope s51) := ⟨rfl, rfl, rfl, by decide +kernel, rfl, by decide +kernel, by decide +kernel⟩
/-- what the top holds -/
structure Kt (P : Program) (w : World) (K : PySem.W.Frag) (mg : Str → Option Value) (c fa cc : Nat → Addr) (fd : Nat → FuncData) : Prop where
  ck : CK K c
  cd0 : (fd 0).code = .ref (cc 0)
  cd1 : (fd 1).code = .ref (cc 1)
  cd21 : (fd 21).code = .ref (cc 2)
  ne0 : c (3 + 0) ≠ c 5
  ne1 : c (3 + 1) ≠ c 5
  m_len : mg "len" = none
  m_tuple : mg "tuple" = none
  m_int : mg "int" = none
  m_bool : mg "bool" = none
  m_isinstance : mg "isinstance" = none
  m_sorted : mg "sorted" = none
  m_set : mg "set" = none
  m_dict : mg "dict" = none
  m_zip : mg "zip" = none
  m_sum : mg "sum" = none
  m_range : mg "range" = none
  m_enumerate : mg "enumerate" = none
  tAx : KTab P w K mg "AXIOMS" tAx
  tAp : KTab P w K mg "APART" tAp
  ga_axiom_formulas : mg "axiom_formulas" = some (.ref (fa 2))
  gc0 : mg "Ledger" = some (.ref (c 0))
  mk0 : Mk K (c 0) (fa 3)
  gc1 : mg "Discharge" = some (.ref (c 1))
  mk1 : Mk K (c 1) (fa 12)
  gc2 : mg "Search" = some (.ref (c 2))
  mk2 : Mk K (c 2) (fa 21)
  F0 : Fun K "size" "size" s0 (fa 0) (fd 0)
  b0 : Binds K (fd 0) ["formula"] []
  g0 : mg "size" = some (.ref (fa 0))
  F1 : Fun K "put" "put" s1 (fa 1) (fd 1)
  b1 : Binds K (fd 1) ["formula", "table"] []
  g1 : mg "put" = some (.ref (fa 1))
  F2 : Fun K "axiom" "axiom" s2 (fa 2) (fd 2)
  b2 : Binds K (fd 2) ["k"] []
  g2 : mg "axiom" = some (.ref (fa 2))
  F3 : Fun K "__init__" "Ledger.__init__" s3 (fa 3) (fd 3)
  b3 : Binds K (fd 3) ["self"] []
  F4 : Fun K "add" "Ledger.add" s4 (fa 4) (fd 4)
  b4 : Binds K (fd 4) ["self", "formula", "why"] []
  me4 : Meth K (c 0) "add" (fa 4)
  F5 : Fun K "hypothesis" "Ledger.hypothesis" s5 (fa 5) (fd 5)
  b5 : Binds K (fd 5) ["self", "formula"] []
  me5 : Meth K (c 0) "hypothesis" (fa 5)
  F6 : Fun K "axiom" "Ledger.axiom" s6 (fa 6) (fd 6)
  me6 : Meth K (c 0) "axiom" (fa 6)
  F7 : Fun K "detach" "Ledger.detach" s7 (fa 7) (fd 7)
  b7 : Binds K (fd 7) ["self", "first", "second"] []
  me7 : Meth K (c 0) "detach" (fa 7)
  F8 : Fun K "include" "Ledger.include" s8 (fa 8) (fd 8)
  b8 : Binds K (fd 8) ["self", "proof"] []
  me8 : Meth K (c 0) "include" (fa 8)
  F9 : Fun K "upto" "Ledger.upto" s9 (fa 9) (fd 9)
  b9 : Binds K (fd 9) ["self", "place"] []
  me9 : Meth K (c 0) "upto" (fa 9)
  F10 : Fun K "first_lines" "first_lines" s10 (fa 10) (fd 10)
  b10 : Binds K (fd 10) ["proof"] []
  g10 : mg "first_lines" = some (.ref (fa 10))
  F11 : Fun K "trimmed" "trimmed" s11 (fa 11) (fd 11)
  b11 : Binds K (fd 11) ["proof"] []
  g11 : mg "trimmed" = some (.ref (fa 11))
  F12 : Fun K "__init__" "Discharge.__init__" s12 (fa 12) (fd 12)
  b12 : Binds K (fd 12) ["self", "proof", "condition"] []
  F13 : Fun K "is_condition" "Discharge.is_condition" s13 (fa 13) (fd 13)
  b13 : Binds K (fd 13) ["self", "number"] []
  me13 : Meth K (c 1) "is_condition" (fa 13)
  F14 : Fun K "identity" "Discharge.identity" s14 (fa 14) (fd 14)
  b14 : Binds K (fd 14) ["self"] []
  me14 : Meth K (c 1) "identity" (fa 14)
  F15 : Fun K "lift" "Discharge.lift" s15 (fa 15) (fd 15)
  b15 : Binds K (fd 15) ["self", "number"] []
  me15 : Meth K (c 1) "lift" (fa 15)
  F16 : Fun K "under" "Discharge.under" s16 (fa 16) (fd 16)
  b16 : Binds K (fd 16) ["self", "number", "first", "second"] []
  me16 : Meth K (c 1) "under" (fa 16)
  F17 : Fun K "take" "Discharge.take" s17 (fa 17) (fd 17)
  b17 : Binds K (fd 17) ["self", "number"] []
  me17 : Meth K (c 1) "take" (fa 17)
  F18 : Fun K "whole" "Discharge.whole" s18 (fa 18) (fd 18)
  b18 : Binds K (fd 18) ["self"] []
  me18 : Meth K (c 1) "whole" (fa 18)
  F19 : Fun K "discharged" "discharged" s19 (fa 19) (fd 19)
  b19 : Binds K (fd 19) ["proof", "formula"] []
  g19 : mg "discharged" = some (.ref (fa 19))
  F20 : Fun K "parts_of" "parts_of" s20 (fa 20) (fd 20)
  b20 : Binds K (fd 20) ["formula", "strength"] []
  g20 : mg "parts_of" = some (.ref (fa 20))
  F21 : Fun K "__init__" "Search.__init__" s21 (fa 21) (fd 21)
  b21 : Binds K (fd 21) ["self", "formulas", "strength"] []
  F22 : Fun K "goals" "Search.goals" s22 (fa 22) (fd 22)
  b22 : Binds K (fd 22) ["self", "place"] []
  me22 : Meth K (c 2) "goals" (fa 22)
  F23 : Fun K "next_near" "Search.next_near" s23 (fa 23) (fd 23)
  b23 : Binds K (fd 23) ["self", "reasons"] []
  me23 : Meth K (c 2) "next_near" (fa 23)
  F24 : Fun K "next_far" "Search.next_far" s24 (fa 24) (fd 24)
  b24 : Binds K (fd 24) ["self", "given", "reasons"] []
  me24 : Meth K (c 2) "next_far" (fa 24)
  F25 : Fun K "with_more" "Search.with_more" s25 (fa 25) (fd 25)
  b25 : Binds K (fd 25) ["self", "given", "place"] []
  me25 : Meth K (c 2) "with_more" (fa 25)
  F26 : Fun K "closure" "Search.closure" s26 (fa 26) (fd 26)
  b26 : Binds K (fd 26) ["self", "given"] []
  me26 : Meth K (c 2) "closure" (fa 26)
  F27 : Fun K "formula" "Search.formula" s27 (fa 27) (fd 27)
  b27 : Binds K (fd 27) ["self", "place"] []
  me27 : Meth K (c 2) "formula" (fa 27)
  F28 : Fun K "derive" "Search.derive" s28 (fa 28) (fd 28)
  b28 : Binds K (fd 28) ["self", "given", "place", "ledger"] []
  me28 : Meth K (c 2) "derive" (fa 28)
  F29 : Fun K "apply" "Search.apply" s29 (fa 29) (fd 29)
  b29 : Binds K (fd 29) ["self", "given", "reason", "ledger"] []
  me29 : Meth K (c 2) "apply" (fa 29)
  F30 : Fun K "proof" "Search.proof" s30 (fa 30) (fd 30)
  b30 : Binds K (fd 30) ["self", "given", "place"] []
  me30 : Meth K (c 2) "proof" (fa 30)
  F31 : Fun K "decide_from" "decide_from" s31 (fa 31) (fd 31)
  b31 : Binds K (fd 31) ["hypotheses", "formula", "strength"] []
  g31 : mg "decide_from" = some (.ref (fa 31))
  F32 : Fun K "decide" "decide" s32 (fa 32) (fd 32)
  b32 : Binds K (fd 32) ["formula", "strength"] []
  g32 : mg "decide" = some (.ref (fa 32))
  F33 : Fun K "why_apart" "why_apart" s33 (fa 33) (fd 33)
  b33 : Binds K (fd 33) ["k"] []
  g33 : mg "why_apart" = some (.ref (fa 33))
  F34 : Fun K "_law_matches" "_law_matches" s34 (fa 34) (fd 34)
  b34 : Binds K (fd 34) ["_law_pattern", "_law_formula", "_law_found"] []
  g34 : mg "_law_matches" = some (.ref (fa 34))
  F35 : Fun K "_law_if" "_law_if" s35 (fa 35) (fd 35)
  b35 : Binds K (fd 35) ["_law_rows"] []
  g35 : mg "_law_if" = some (.ref (fa 35))
  F36 : Fun K "_law_axiom" "_law_axiom" s36 (fa 36) (fd 36)
  b36 : Binds K (fd 36) ["_law_k"] []
  g36 : mg "_law_axiom" = some (.ref (fa 36))
  F37 : Fun K "_law_line_fault" "_law_line_fault" s37 (fa 37) (fd 37)
  b37 : Binds K (fd 37) ["_law_proof", "_law_k"] []
  g37 : mg "_law_line_fault" = some (.ref (fa 37))
  F38 : Fun K "_law_fault" "_law_fault" s38 (fa 38) (fd 38)
  b38 : Binds K (fd 38) ["_law_proof"] []
  g38 : mg "_law_fault" = some (.ref (fa 38))
  F39 : Fun K "_law_hypotheses" "_law_hypotheses" s39 (fa 39) (fd 39)
  b39 : Binds K (fd 39) ["_law_proof"] []
  g39 : mg "_law_hypotheses" = some (.ref (fa 39))
  F40 : Fun K "_law_plain_why" "_law_plain_why" s40 (fa 40) (fd 40)
  b40 : Binds K (fd 40) ["_law_why"] []
  g40 : mg "_law_plain_why" = some (.ref (fa 40))
  F41 : Fun K "_law_right" "_law_right" s41 (fa 41) (fd 41)
  b41 : Binds K (fd 41) ["_law_proof", "_law_given", "_law_formula", "_law_axioms"] []
  g41 : mg "_law_right" = some (.ref (fa 41))
  F42 : Fun K "_law_rising" "_law_rising" s42 (fa 42) (fd 42)
  b42 : Binds K (fd 42) ["_law_row", "_law_many"] []
  g42 : mg "_law_rising" = some (.ref (fa 42))
  F43 : Fun K "_law_row_of_values" "_law_row_of_values" s43 (fa 43) (fd 43)
  b43 : Binds K (fd 43) ["_law_row", "_law_many"] []
  g43 : mg "_law_row_of_values" = some (.ref (fa 43))
  F44 : Fun K "_law_is_table" "_law_is_table" s44 (fa 44) (fd 44)
  b44 : Binds K (fd 44) ["_law_table"] []
  g44 : mg "_law_is_table" = some (.ref (fa 44))
  F45 : Fun K "_law_keeps_rule" "_law_keeps_rule" s45 (fa 45) (fd 45)
  b45 : Binds K (fd 45) ["_law_table"] []
  g45 : mg "_law_keeps_rule" = some (.ref (fa 45))
  F46 : Fun K "_law_ways" "_law_ways" s46 (fa 46) (fd 46)
  b46 : Binds K (fd 46) ["_law_names_here", "_law_many"] []
  g46 : mg "_law_ways" = some (.ref (fa 46))
  F47 : Fun K "_law_parts" "_law_parts" s47 (fa 47) (fd 47)
  b47 : Binds K (fd 47) ["_law_formula"] []
  g47 : mg "_law_parts" = some (.ref (fa 47))
  F48 : Fun K "_law_names" "_law_names" s48 (fa 48) (fd 48)
  b48 : Binds K (fd 48) ["_law_formula"] []
  g48 : mg "_law_names" = some (.ref (fa 48))
  F49 : Fun K "_law_value" "_law_value" s49 (fa 49) (fd 49)
  b49 : Binds K (fd 49) ["_law_table", "_law_formula", "_law_values"] []
  g49 : mg "_law_value" = some (.ref (fa 49))
  F50 : Fun K "_law_kept" "_law_kept" s50 (fa 50) (fd 50)
  b50 : Binds K (fd 50) ["_law_table", "_law_formula"] []
  g50 : mg "_law_kept" = some (.ref (fa 50))
  F51 : Fun K "_law_parts_by" "_law_parts_by" s51 (fa 51) (fd 51)
  b51 : Binds K (fd 51) ["_law_table", "_law_axioms", "_law_formula"] []
  g51 : mg "_law_parts_by" = some (.ref (fa 51))
/-- the defs do what the evaluators say -/
structure Lv (P : Program) (w : World) (K : PySem.W.Frag) (mg : Str → Option Value) (base : Heap) (c fa cc : Nat → Addr) (fd : Nat → FuncData) (call : Nat → Fv) (k : Nat) : Prop where
  tb0 : GxR.TabB base mg (cc 0) (c (3 + 0))
  tb1 : GxR.TabB base mg (cc 1) (c (3 + 1))
  tb21 : GxR.TabB base mg (cc 2) (c 5)
  f0 : FnOk P w K mg base CX0 k (fa 0) (fd 0) ["formula"] (spR (gB P w K c) (call 0))
  f1 : FnOk P w K mg base CX0 k (fa 1) (fd 1) ["formula", "table"] (spR (gB P w K c) (call 1))
  f2 : FnOk P w K mg base CX0 k (fa 2) (fd 2) ["k"] (spR (gB P w K c) (call 2))
  f3 : FnOk P w K mg base CX0 k (fa 3) (fd 3) ["self"] (spR (gB P w K c) (call 3))
  f4 : FnOk P w K mg base CX0 k (fa 4) (fd 4) ["self", "formula", "why"] (spR (gB P w K c) (call 4))
  f5 : FnOk P w K mg base CX0 k (fa 5) (fd 5) ["self", "formula"] (spR (gB P w K c) (call 5))
  f6 : FnR P w K mg base CX0 k (fa 6) (spR (gB P w K c) (call 6))
  f7 : FnOk P w K mg base CX0 k (fa 7) (fd 7) ["self", "first", "second"] (spR (gB P w K c) (call 7))
  f8 : FnOk P w K mg base CX0 k (fa 8) (fd 8) ["self", "proof"] (spR (gB P w K c) (call 8))
  f9 : FnOk P w K mg base CX0 k (fa 9) (fd 9) ["self", "place"] (spR (gB P w K c) (call 9))
  f10 : FnOk P w K mg base CX0 k (fa 10) (fd 10) ["proof"] (spR (gB P w K c) (call 10))
  f11 : FnOk P w K mg base CX0 k (fa 11) (fd 11) ["proof"] (spR (gB P w K c) (call 11))
  f12 : FnOk P w K mg base CX0 k (fa 12) (fd 12) ["self", "proof", "condition"] (spR (gB P w K c) (call 12))
  f13 : FnOk P w K mg base CX0 k (fa 13) (fd 13) ["self", "number"] (spR (gB P w K c) (call 13))
  f14 : FnOk P w K mg base CX0 k (fa 14) (fd 14) ["self"] (spR (gB P w K c) (call 14))
  f15 : FnOk P w K mg base CX0 k (fa 15) (fd 15) ["self", "number"] (spR (gB P w K c) (call 15))
  f16 : FnOk P w K mg base CX0 k (fa 16) (fd 16) ["self", "number", "first", "second"] (spR (gB P w K c) (call 16))
  f17 : FnOk P w K mg base CX0 k (fa 17) (fd 17) ["self", "number"] (spR (gB P w K c) (call 17))
  f18 : FnOk P w K mg base CX0 k (fa 18) (fd 18) ["self"] (spR (gB P w K c) (call 18))
  f19 : FnOk P w K mg base CX0 k (fa 19) (fd 19) ["proof", "formula"] (spR (gB P w K c) (call 19))
  f20 : FnOk P w K mg base CX0 k (fa 20) (fd 20) ["formula", "strength"] (spR (gB P w K c) (call 20))
  f21 : FnOk P w K mg base CX0 k (fa 21) (fd 21) ["self", "formulas", "strength"] (spR (gB P w K c) (call 21))
  f22 : FnOk P w K mg base CX0 k (fa 22) (fd 22) ["self", "place"] (spR (gB P w K c) (call 22))
  f23 : FnOk P w K mg base CX0 k (fa 23) (fd 23) ["self", "reasons"] (spR (gB P w K c) (call 23))
  f24 : FnOk P w K mg base CX0 k (fa 24) (fd 24) ["self", "given", "reasons"] (spR (gB P w K c) (call 24))
  f25 : FnOk P w K mg base CX0 k (fa 25) (fd 25) ["self", "given", "place"] (spR (gB P w K c) (call 25))
  f26 : FnOk P w K mg base CX0 k (fa 26) (fd 26) ["self", "given"] (spR (gB P w K c) (call 26))
  f27 : FnOk P w K mg base CX0 k (fa 27) (fd 27) ["self", "place"] (spR (gB P w K c) (call 27))
  f28 : FnOk P w K mg base CX0 k (fa 28) (fd 28) ["self", "given", "place", "ledger"] (spR (gB P w K c) (call 28))
  f29 : FnOk P w K mg base CX0 k (fa 29) (fd 29) ["self", "given", "reason", "ledger"] (spR (gB P w K c) (call 29))
  f30 : FnOk P w K mg base CX0 k (fa 30) (fd 30) ["self", "given", "place"] (spR (gB P w K c) (call 30))
  f31 : FnOk P w K mg base CX0 k (fa 31) (fd 31) ["hypotheses", "formula", "strength"] (spR (gB P w K c) (call 31))
  f32 : FnOk P w K mg base CX0 k (fa 32) (fd 32) ["formula", "strength"] (spR (gB P w K c) (call 32))
  f33 : FnOk P w K mg base CX0 k (fa 33) (fd 33) ["k"] (spR (gB P w K c) (call 33))
  f34 : FnOk P w K mg base CX0 k (fa 34) (fd 34) ["_law_pattern", "_law_formula", "_law_found"] (spR (gB P w K c) (call 34))
  f35 : FnOk P w K mg base CX0 k (fa 35) (fd 35) ["_law_rows"] (spR (gB P w K c) (call 35))
  f36 : FnOk P w K mg base CX0 k (fa 36) (fd 36) ["_law_k"] (spR (gB P w K c) (call 36))
  f37 : FnOk P w K mg base CX0 k (fa 37) (fd 37) ["_law_proof", "_law_k"] (spR (gB P w K c) (call 37))
  f38 : FnOk P w K mg base CX0 k (fa 38) (fd 38) ["_law_proof"] (spR (gB P w K c) (call 38))
  f39 : FnOk P w K mg base CX0 k (fa 39) (fd 39) ["_law_proof"] (spR (gB P w K c) (call 39))
  f40 : FnOk P w K mg base CX0 k (fa 40) (fd 40) ["_law_why"] (spR (gB P w K c) (call 40))
  f41 : FnOk P w K mg base CX0 k (fa 41) (fd 41) ["_law_proof", "_law_given", "_law_formula", "_law_axioms"] (spR (gB P w K c) (call 41))
  f42 : FnOk P w K mg base CX0 k (fa 42) (fd 42) ["_law_row", "_law_many"] (spR (gB P w K c) (call 42))
  f43 : FnOk P w K mg base CX0 k (fa 43) (fd 43) ["_law_row", "_law_many"] (spR (gB P w K c) (call 43))
  f44 : FnOk P w K mg base CX0 k (fa 44) (fd 44) ["_law_table"] (spR (gB P w K c) (call 44))
  f45 : FnOk P w K mg base CX0 k (fa 45) (fd 45) ["_law_table"] (spR (gB P w K c) (call 45))
  f46 : FnOk P w K mg base CX0 k (fa 46) (fd 46) ["_law_names_here", "_law_many"] (spR (gB P w K c) (call 46))
  f47 : FnOk P w K mg base CX0 k (fa 47) (fd 47) ["_law_formula"] (spR (gB P w K c) (call 47))
  f48 : FnOk P w K mg base CX0 k (fa 48) (fd 48) ["_law_formula"] (spR (gB P w K c) (call 48))
  f49 : FnOk P w K mg base CX0 k (fa 49) (fd 49) ["_law_table", "_law_formula", "_law_values"] (spR (gB P w K c) (call 49))
  f50 : FnOk P w K mg base CX0 k (fa 50) (fd 50) ["_law_table", "_law_formula"] (spR (gB P w K c) (call 50))
  f51 : FnOk P w K mg base CX0 k (fa 51) (fd 51) ["_law_table", "_law_axioms", "_law_formula"] (spR (gB P w K c) (call 51))
end Cs
namespace Cs
open PySem PySem.Spec PyProof.Rows L2
section
variable {P : Program} {w : World} {K : PySem.W.Frag} {mg : Str → Option Value} {base : Heap} {c fa cc : Nat → Addr} {fd : Nat → FuncData} {call : Nat → Fv} {k : Nat}
theorem B0 {cdv : Value} {A : Around} {outer : List Env} {s : Shared} {H : Hp} {E : XK} (T : Kt P w K mg c fa cc fd) (L : Lv P w K mg base c fa cc fd call k) (hcd : cdv = .ref (cc 0)) (hr : Room (k + 1) (A.deeper (envOfC "size" (defScope s0) s.heap.objs.size (fa 0) cdv))) :
    EB (cxOf CX0 P w K mg base n0 "size" (defScope s0) (fa 0) cdv A outer s H E).nox c (defBody s0) (b_0 call) := b_seq (s_if (b_cmp (op_eqD hr.units) eq_ok (e_ixA hr.units (e_var 0) (e_int)) (e_str [108, 101, 116, 116, 101, 114]) rfl) (b_one (s_ret (e_int))) (b_nil)) (b_one (s_ret (e_op op_addA addA_ok (e_int) (e_genSum hr (by rfl) T.m_sum (jP := 0) L.tb0 (by decide) T.ne0 hcd sc0.nd (gnS_by (blkOk_by (own := [("part", 1)]) (N := n0) (sc := defScope s0) (by decide +kernel)) (show gnB n0 _ _ = true by decide +kernel)) (e_tl (e_var 0)) (fun _ _ _ _ _ hr2 => e_call L.f0 hr2 (by rfl) T.g0 T.F0.kp T.b0 (a_cons (e_var 1) (a_nil))) (fun _ => rfl)))))
theorem ok0 (T : Kt P w K mg c fa cc fd) (L : Lv P w K mg base c fa cc fd call k) : FnOk P w K mg base CX0 (k + 2) (fa 0) (fd 0) ["formula"] (spR (gB P w K c) (runB 2 1 (b_0 call))) := fn_okC T.F0 sc0 fun cdv A outer s H E hc hr => B0 T L (hc.symm.trans T.cd0) hr
theorem B1 {cdv : Value} {A : Around} {outer : List Env} {s : Shared} {H : Hp} {E : XK} (T : Kt P w K mg c fa cc fd) (L : Lv P w K mg base c fa cc fd call k) (hcd : cdv = .ref (cc 1)) (hr : Room (k + 1) (A.deeper (envOfC "put" (defScope s1) s.heap.objs.size (fa 1) cdv))) :
    EB (cxOf CX0 P w K mg base n1 "put" (defScope s1) (fa 1) cdv A outer s H E).nox c (defBody s1) (b_1 call) := b_seq (s_if (b_cmp (op_eqD hr.units) eq_ok (e_ixA hr.units (e_var 0) (e_int)) (e_str [108, 101, 116, 116, 101, 114]) rfl) (b_one (s_ret (e_get2 hr.units (e_var 1) (e_ixA hr.units (e_var 0) (e_int)) (e_var 0) ⟨rfl, rfl, rfl, rfl⟩))) (b_nil)) (b_one (s_ret (e_op op_addA addA_ok (e_tup (a_cons (e_ixA hr.units (e_var 0) (e_int)) (a_nil))) (e_genTup hr (by rfl) T.m_tuple (jP := 1) L.tb1 (by decide) T.ne1 hcd sc1.nd (gnS_by (blkOk_by (own := [("part", 2)]) (N := n1) (sc := defScope s1) (by decide +kernel)) (show gnB n1 _ _ = true by decide +kernel)) (e_tl (e_var 0)) (fun _ _ _ _ _ hr2 => e_call L.f1 hr2 (by rfl) T.g1 T.F1.kp T.b1 (a_cons (e_var 2) (a_cons (e_var 1) (a_nil)))) (fun _ => rfl)))))
theorem ok1 (T : Kt P w K mg c fa cc fd) (L : Lv P w K mg base c fa cc fd call k) : FnOk P w K mg base CX0 (k + 2) (fa 1) (fd 1) ["formula", "table"] (spR (gB P w K c) (runB 3 2 (b_1 call))) := fn_okC T.F1 sc1 fun cdv A outer s H E hc hr => B1 T L (hc.symm.trans T.cd1) hr
theorem B2 {cdv : Value} {A : Around} {outer : List Env} {s : Shared} {H : Hp} {E : XK} (T : Kt P w K mg c fa cc fd) (L : Lv P w K mg base c fa cc fd call k) (hr : Room (k + 1) (A.deeper (envOfC "axiom" (defScope s2) s.heap.objs.size (fa 2) cdv))) :
    EB (cxOf CX0 P w K mg base n2 "axiom" (defScope s2) (fa 2) cdv A outer s H E).nox c (defBody s2) (b_2 call) := b_one (s_ret (e_tab T.tAx (by rfl) (e_var 0)))
theorem ok2 (T : Kt P w K mg c fa cc fd) (L : Lv P w K mg base c fa cc fd call k) : FnOk P w K mg base CX0 (k + 2) (fa 2) (fd 2) ["k"] (spR (gB P w K c) (runB 1 1 (b_2 call))) := fn_ok T.F2 sc2 fun cdv A outer s H E hr => B2 T L hr
theorem B3 {cdv : Value} {A : Around} {outer : List Env} {s : Shared} {H : Hp} {E : XK} (T : Kt P w K mg c fa cc fd) (L : Lv P w K mg base c fa cc fd call k) (hr : Room (k + 1) (A.deeper (envOfC "Ledger.__init__" (defScope s3) s.heap.objs.size (fa 3) cdv))) :
    EB (cxOf CX0 P w K mg base n3 "Ledger.__init__" (defScope s3) (fa 3) cdv A outer s H E).nox c (defBody s3) (b_3 call) := b_seq (s_fld T.ck 0 (e_var 0) (e_lst (a_nil))) (b_one (s_fld T.ck 1 (e_var 0) (e_newN)))
theorem ok3 (T : Kt P w K mg c fa cc fd) (L : Lv P w K mg base c fa cc fd call k) : FnOk P w K mg base CX0 (k + 2) (fa 3) (fd 3) ["self"] (spR (gB P w K c) (runB 1 1 (b_3 call))) := fn_ok T.F3 sc3 fun cdv A outer s H E hr => B3 T L hr
theorem B4 {cdv : Value} {A : Around} {outer : List Env} {s : Shared} {H : Hp} {E : XK} (T : Kt P w K mg c fa cc fd) (L : Lv P w K mg base c fa cc fd call k) (hr : Room (k + 1) (A.deeper (envOfC "Ledger.add" (defScope s4) s.heap.objs.size (fa 4) cdv))) :
    EB (cxOf CX0 P w K mg base n4 "Ledger.add" (defScope s4) (fa 4) cdv A outer s H E).nox c (defBody s4) (b_4 call) := b_seq (s_if (b_cmp (op_notInA hr.units) notInA_ok (e_var 1) (e_fld T.ck 1 (e_var 0)) rfl) (b_seq (s_put hr.units (e_fld T.ck 1 (e_var 0)) (e_var 1) (e_len (by rfl) T.m_len (a_cons (e_fld T.ck 0 (e_var 0)) (a_nil)))) (b_one (s_expr (e_app (e_fld T.ck 0 (e_var 0)) (a_cons (e_tup (a_cons (e_var 1) (a_cons (e_var 2) (a_nil)))) (a_nil)))))) (b_nil)) (b_one (s_ret (e_ixA hr.units (e_fld T.ck 1 (e_var 0)) (e_var 1))))
theorem ok4 (T : Kt P w K mg c fa cc fd) (L : Lv P w K mg base c fa cc fd call k) : FnOk P w K mg base CX0 (k + 2) (fa 4) (fd 4) ["self", "formula", "why"] (spR (gB P w K c) (runB 3 3 (b_4 call))) := fn_ok T.F4 sc4 fun cdv A outer s H E hr => B4 T L hr
theorem B5 {cdv : Value} {A : Around} {outer : List Env} {s : Shared} {H : Hp} {E : XK} (T : Kt P w K mg c fa cc fd) (L : Lv P w K mg base c fa cc fd call k) (hr : Room (k + 1) (A.deeper (envOfC "Ledger.hypothesis" (defScope s5) s.heap.objs.size (fa 5) cdv))) :
    EB (cxOf CX0 P w K mg base n5 "Ledger.hypothesis" (defScope s5) (fa 5) cdv A outer s H E).nox c (defBody s5) (b_5 call) := b_one (s_ret (e_meth (ci := 0) T.ck (e_var 0) T.me4 (by decide +kernel) L.f4 (hr.mono (Nat.le_succ _)) T.b4 (a_cons (e_var 1) (a_cons (e_tup (a_cons (e_str [104, 121, 112, 111, 116, 104, 101, 115, 105, 115]) (a_nil))) (a_nil)))))
theorem ok5 (T : Kt P w K mg c fa cc fd) (L : Lv P w K mg base c fa cc fd call k) : FnOk P w K mg base CX0 (k + 2) (fa 5) (fd 5) ["self", "formula"] (spR (gB P w K c) (runB 2 2 (b_5 call))) := fn_ok T.F5 sc5 fun cdv A outer s H E hr => B5 T L hr
theorem B6 {cdv : Value} {A : Around} {outer : List Env} {s : Shared} {H : Hp} {E : XK} (T : Kt P w K mg c fa cc fd) (L : Lv P w K mg base c fa cc fd call k) (hr : Room (k + 1) (A.deeper (envOfC "Ledger.axiom" (defScope s6) s.heap.objs.size (fa 6) cdv))) :
    EB (cxOf CX0 P w K mg base n6 "Ledger.axiom" (defScope s6) (fa 6) cdv A outer s H E).nox c (defBody s6) (b_6 call) := b_one (s_ret (e_meth (ci := 0) T.ck (e_var 0) T.me4 (by decide +kernel) L.f4 (hr.mono (Nat.le_succ _)) T.b4 (a_cons (e_call L.f1 (hr.mono (Nat.le_succ _)) (by rfl) T.g1 T.F1.kp T.b1 (a_cons (e_call L.f2 (hr.mono (Nat.le_succ _)) (by rfl) T.ga_axiom_formulas T.F2.kp T.b2 (a_cons (e_var 1) (a_nil))) (a_cons (e_zip rfl (by rfl) T.m_dict (by rfl) T.m_zip (e_var 2)) (a_nil)))) (a_cons (e_tup (a_cons (e_str [97, 120, 105, 111, 109]) (a_cons (e_var 1) (a_nil)))) (a_nil)))))
theorem ok6 (T : Kt P w K mg c fa cc fd) (L : Lv P w K mg base c fa cc fd call k) : FnR P w K mg base CX0 (k + 2) (fa 6) (spR (gB P w K c) (runStar 3 2 (b_6 call))) := fn_okS (ps := ["self", "k"]) (pv := "parts") T.F6 sc6 (fun kV doc pm an cdv ct us rest hl => StX.bind_star2 (B := fun us => bindArgs (PySem.W.fnOf "axiom" "Ledger.axiom" (defArgs s6) (defBody s6) (defScope s6) .none kV doc pm an cdv ct) ⟨us, []⟩) (fun _ _ => by rfl) (fun _ _ _ _ => by rfl) us rest hl) fun cdv A outer s H E hr => B6 T L hr
theorem B7 {cdv : Value} {A : Around} {outer : List Env} {s : Shared} {H : Hp} {E : XK} (T : Kt P w K mg c fa cc fd) (L : Lv P w K mg base c fa cc fd call k) (hr : Room (k + 1) (A.deeper (envOfC "Ledger.detach" (defScope s7) s.heap.objs.size (fa 7) cdv))) :
    EB (cxOf CX0 P w K mg base n7 "Ledger.detach" (defScope s7) (fa 7) cdv A outer s H E).nox c (defBody s7) (b_7 call) := b_one (s_ret (e_meth (ci := 0) T.ck (e_var 0) T.me4 (by decide +kernel) L.f4 (hr.mono (Nat.le_succ _)) T.b4 (a_cons (e_ixA hr.units (e_ixA hr.units (e_ixA hr.units (e_fld T.ck 0 (e_var 0)) (e_var 1)) (e_int)) (e_int)) (a_cons (e_tup (a_cons (e_str [100, 101, 116, 97, 99, 104]) (a_cons (e_var 1) (a_cons (e_var 2) (a_nil))))) (a_nil)))))
theorem ok7 (T : Kt P w K mg c fa cc fd) (L : Lv P w K mg base c fa cc fd call k) : FnOk P w K mg base CX0 (k + 2) (fa 7) (fd 7) ["self", "first", "second"] (spR (gB P w K c) (runB 3 3 (b_7 call))) := fn_ok T.F7 sc7 fun cdv A outer s H E hr => B7 T L hr
theorem B8 {cdv : Value} {A : Around} {outer : List Env} {s : Shared} {H : Hp} {E : XK} (T : Kt P w K mg c fa cc fd) (L : Lv P w K mg base c fa cc fd call k) (hr : Room (k + 1) (A.deeper (envOfC "Ledger.include" (defScope s8) s.heap.objs.size (fa 8) cdv))) :
    EB (cxOf CX0 P w K mg base n8 "Ledger.include" (defScope s8) (fa 8) cdv A outer s H E).nox c (defBody s8) (b_8 call) := b_seq (s_set (i := 2) sc8.nd rfl (by first | exact Or.inl rfl | exact Or.inr rfl) (e_lst (a_nil))) (b_seq (s_for PassesOwn.never rfl (i_tup (e_var 1)) (g_tup rfl (gs_cons (g_nm (i := 3) sc8.nd rfl (by first | exact Or.inl rfl | exact Or.inr rfl)) (gs_cons (g_nm (i := 4) sc8.nd rfl (by first | exact Or.inl rfl | exact Or.inr rfl)) (gs_nil)))) (b_seq (s_if (b_cmp (op_eqD hr.units) eq_ok (e_ixA hr.units (e_var 4) (e_int)) (e_str [100, 101, 116, 97, 99, 104]) rfl) (b_one (s_set (i := 4) sc8.nd rfl (by first | exact Or.inl rfl | exact Or.inr rfl) (e_tup (a_cons (e_str [100, 101, 116, 97, 99, 104]) (a_cons (e_ixA hr.units (e_var 2) (e_ixA hr.units (e_var 4) (e_int))) (a_cons (e_ixA hr.units (e_var 2) (e_ixA hr.units (e_var 4) (e_int))) (a_nil))))))) (b_nil)) (b_one (s_expr (e_app (e_var 2) (a_cons (e_meth (ci := 0) T.ck (e_var 0) T.me4 (by decide +kernel) L.f4 (hr.mono (Nat.le_succ _)) T.b4 (a_cons (e_var 3) (a_cons (e_var 4) (a_nil)))) (a_nil))))))) (b_one (s_ret (e_ixA hr.units (e_var 2) (e_neg (e_int))))))
theorem ok8 (T : Kt P w K mg c fa cc fd) (L : Lv P w K mg base c fa cc fd call k) : FnOk P w K mg base CX0 (k + 2) (fa 8) (fd 8) ["self", "proof"] (spR (gB P w K c) (runB 5 2 (b_8 call))) := fn_ok T.F8 sc8 fun cdv A outer s H E hr => B8 T L hr
theorem B9 {cdv : Value} {A : Around} {outer : List Env} {s : Shared} {H : Hp} {E : XK} (T : Kt P w K mg c fa cc fd) (L : Lv P w K mg base c fa cc fd call k) (hr : Room (k + 1) (A.deeper (envOfC "Ledger.upto" (defScope s9) s.heap.objs.size (fa 9) cdv))) :
    EB (cxOf CX0 P w K mg base n9 "Ledger.upto" (defScope s9) (fa 9) cdv A outer s H E).nox c (defBody s9) (b_9 call) := b_one (s_ret (e_tof (by rfl) T.m_tuple (a_cons (e_hd (e_fld T.ck 0 (e_var 0)) (e_op op_addA addA_ok (e_var 1) (e_int))) (a_nil))))
theorem ok9 (T : Kt P w K mg c fa cc fd) (L : Lv P w K mg base c fa cc fd call k) : FnOk P w K mg base CX0 (k + 2) (fa 9) (fd 9) ["self", "place"] (spR (gB P w K c) (runB 2 2 (b_9 call))) := fn_ok T.F9 sc9 fun cdv A outer s H E hr => B9 T L hr
theorem B10 {cdv : Value} {A : Around} {outer : List Env} {s : Shared} {H : Hp} {E : XK} (T : Kt P w K mg c fa cc fd) (L : Lv P w K mg base c fa cc fd call k) (hr : Room (k + 1) (A.deeper (envOfC "first_lines" (defScope s10) s.heap.objs.size (fa 10) cdv))) :
    EB (cxOf CX0 P w K mg base n10 "first_lines" (defScope s10) (fa 10) cdv A outer s H E).nox c (defBody s10) (b_10 call) := b_seq (s_set (i := 1) sc10.nd rfl (by first | exact Or.inl rfl | exact Or.inr rfl) (e_newN)) (b_seq (s_for PassesOwn.never rfl (i_et (by rfl) T.m_enumerate (a_cons (e_var 0) (a_nil))) (g_tup rfl (gs_cons (g_nm (i := 2) sc10.nd rfl (by first | exact Or.inl rfl | exact Or.inr rfl)) (gs_cons (g_tup rfl (gs_cons (g_nm (i := 3) sc10.nd rfl (by first | exact Or.inl rfl | exact Or.inr rfl)) (gs_cons (g_nm (i := 4) sc10.nd rfl (by first | exact Or.inl rfl | exact Or.inr rfl)) (gs_nil)))) (gs_nil)))) (b_one (s_expr (e_setd hr.units (e_var 1) (e_var 3) (e_var 2) ⟨rfl, rfl, rfl, rfl⟩)))) (b_one (s_ret (e_lc ([("formula", 3), ("_", 4)]) rfl sc10.nd (i_tup (e_var 0)) (blkOk_by (own := [("formula", 3), ("_", 4)]) (N := n10) (sc := defScope s10) (by decide +kernel)) (fun _ _ _ _ _ => v_tup rfl (vs_cons (v_nm (i := 3) (by decide) sc10.nd rfl (Or.inl rfl)) (vs_cons (v_nm (i := 4) (by decide) sc10.nd rfl (Or.inl rfl)) (vs_nil)))) (fun _ _ _ _ _ => ts_nil) (fun _ _ _ _ _ => e_ixA hr.units (e_var 1) (e_var 3))))))
theorem ok10 (T : Kt P w K mg c fa cc fd) (L : Lv P w K mg base c fa cc fd call k) : FnOk P w K mg base CX0 (k + 2) (fa 10) (fd 10) ["proof"] (spR (gB P w K c) (runB 5 1 (b_10 call))) := fn_ok T.F10 sc10 fun cdv A outer s H E hr => B10 T L hr
theorem B11 {cdv : Value} {A : Around} {outer : List Env} {s : Shared} {H : Hp} {E : XK} (T : Kt P w K mg c fa cc fd) (L : Lv P w K mg base c fa cc fd call k) (hr : Room (k + 1) (A.deeper (envOfC "trimmed" (defScope s11) s.heap.objs.size (fa 11) cdv))) :
    EB (cxOf CX0 P w K mg base n11 "trimmed" (defScope s11) (fa 11) cdv A outer s H E).nox c (defBody s11) (b_11 call) := b_seq (s_set (i := 1) sc11.nd rfl (by first | exact Or.inl rfl | exact Or.inr rfl) (e_call L.f10 (hr.mono (Nat.le_succ _)) (by rfl) T.g10 T.F10.kp T.b10 (a_cons (e_var 0) (a_nil)))) (b_seq (s_set (i := 2) sc11.nd rfl (by first | exact Or.inl rfl | exact Or.inr rfl) (e_disp (e_ixA hr.units (e_var 1) (e_neg (e_int))) (e_bl))) (b_seq (s_for PassesOwn.never rfl (i_r3 (by rfl) T.m_range (a_cons (e_ixA hr.units (e_var 1) (e_neg (e_int))) (a_cons (e_neg (e_int)) (a_cons (e_neg (e_int)) (a_nil))))) (g_nm (i := 3) sc11.nd rfl (by first | exact Or.inl rfl | exact Or.inr rfl)) (b_seq (s_set (i := 4) sc11.nd rfl (by first | exact Or.inl rfl | exact Or.inr rfl) (e_ixA hr.units (e_ixA hr.units (e_var 0) (e_var 3)) (e_int))) (b_one (s_if (b_w (w_and (b_cmp (op_inA hr.units) inA_ok (e_var 3) (e_var 2) rfl) (w_and1 (b_cmp (op_eqD hr.units) eq_ok (e_ixA hr.units (e_var 4) (e_int)) (e_str [100, 101, 116, 97, 99, 104]) rfl)))) (b_seq (s_put hr.units (e_var 2) (e_ixA hr.units (e_var 1) (e_ixA hr.units (e_var 4) (e_int))) (e_bl)) (b_one (s_put hr.units (e_var 2) (e_ixA hr.units (e_var 1) (e_ixA hr.units (e_var 4) (e_int))) (e_bl)))) (b_nil))))) (b_seq (s_set (i := 5) sc11.nd rfl (by first | exact Or.inl rfl | exact Or.inr rfl) (e_srt hr.units rfl (by rfl) T.m_sorted (a_cons (e_var 2) (a_nil)))) (b_seq (s_dc (i := 6) ([("place", 7), ("number", 3)]) rfl sc11.nd rfl rfl (swD_true rfl rfl rfl (by decide +kernel)) (i_el (by rfl) T.m_enumerate (a_cons (e_var 5) (a_nil))) (blkOk_by (own := [("place", 7), ("number", 3)]) (N := n11) (sc := defScope s11) (by decide +kernel)) (fun _ _ _ _ _ => v_tup rfl (vs_cons (v_nm (i := 7) (by decide) sc11.nd rfl (Or.inl rfl)) (vs_cons (v_nm (i := 3) (by decide) sc11.nd rfl (Or.inl rfl)) (vs_nil)))) (fun _ _ _ _ _ => ts_nil) (fun _ _ _ _ _ => e_var 3) (fun _ _ _ _ _ => e_var 7)) (b_seq (s_set (i := 8) sc11.nd rfl (by first | exact Or.inl rfl | exact Or.inr rfl) (e_lst (a_nil))) (b_seq (s_for PassesOwn.never rfl (i_lst (e_var 5)) (g_nm (i := 3) sc11.nd rfl (by first | exact Or.inl rfl | exact Or.inr rfl)) (b_seq (s_asg (e_ixA hr.units (e_var 0) (e_var 3)) (g_tup rfl (gs_cons (g_nm (i := 9) sc11.nd rfl (by first | exact Or.inl rfl | exact Or.inr rfl)) (gs_cons (g_nm (i := 4) sc11.nd rfl (by first | exact Or.inl rfl | exact Or.inr rfl)) (gs_nil))))) (b_seq (s_if (b_cmp (op_eqD hr.units) eq_ok (e_ixA hr.units (e_var 4) (e_int)) (e_str [100, 101, 116, 97, 99, 104]) rfl) (b_one (s_set (i := 4) sc11.nd rfl (by first | exact Or.inl rfl | exact Or.inr rfl) (e_tup (a_cons (e_str [100, 101, 116, 97, 99, 104]) (a_cons (e_ixA hr.units (e_var 6) (e_ixA hr.units (e_var 1) (e_ixA hr.units (e_var 4) (e_int)))) (a_cons (e_ixA hr.units (e_var 6) (e_ixA hr.units (e_var 1) (e_ixA hr.units (e_var 4) (e_int)))) (a_nil))))))) (b_nil)) (b_one (s_expr (e_app (e_var 8) (a_cons (e_tup (a_cons (e_var 9) (a_cons (e_var 4) (a_nil)))) (a_nil)))))))) (b_one (s_ret (e_tof (by rfl) T.m_tuple (a_cons (e_var 8) (a_nil)))))))))))
theorem ok11 (T : Kt P w K mg c fa cc fd) (L : Lv P w K mg base c fa cc fd call k) : FnOk P w K mg base CX0 (k + 2) (fa 11) (fd 11) ["proof"] (spR (gB P w K c) (runB 10 1 (b_11 call))) := fn_ok T.F11 sc11 fun cdv A outer s H E hr => B11 T L hr
theorem B12 {cdv : Value} {A : Around} {outer : List Env} {s : Shared} {H : Hp} {E : XK} (T : Kt P w K mg c fa cc fd) (L : Lv P w K mg base c fa cc fd call k) (hr : Room (k + 1) (A.deeper (envOfC "Discharge.__init__" (defScope s12) s.heap.objs.size (fa 12) cdv))) :
    EB (cxOf CX0 P w K mg base n12 "Discharge.__init__" (defScope s12) (fa 12) cdv A outer s H E).nox c (defBody s12) (b_12 call) := b_seq (s_fld T.ck 2 (e_var 0) (e_var 1)) (b_seq (s_fld T.ck 3 (e_var 0) (e_var 2)) (b_seq (s_fld T.ck 4 (e_var 0) (e_make0 T.mk0 L.f3 hr (by rfl) T.gc0 T.b3)) (b_seq (s_fld T.ck 5 (e_var 0) (e_newK)) (b_one (s_fld T.ck 6 (e_var 0) (e_newK))))))
theorem ok12 (T : Kt P w K mg c fa cc fd) (L : Lv P w K mg base c fa cc fd call k) : FnOk P w K mg base CX0 (k + 2) (fa 12) (fd 12) ["self", "proof", "condition"] (spR (gB P w K c) (runB 3 3 (b_12 call))) := fn_ok T.F12 sc12 fun cdv A outer s H E hr => B12 T L hr
theorem B13 {cdv : Value} {A : Around} {outer : List Env} {s : Shared} {H : Hp} {E : XK} (T : Kt P w K mg c fa cc fd) (L : Lv P w K mg base c fa cc fd call k) (hr : Room (k + 1) (A.deeper (envOfC "Discharge.is_condition" (defScope s13) s.heap.objs.size (fa 13) cdv))) :
    EB (cxOf CX0 P w K mg base n13 "Discharge.is_condition" (defScope s13) (fa 13) cdv A outer s H E).nox c (defBody s13) (b_13 call) := b_one (s_ret (e_cmp (op_eqD hr.units) eq_ok (e_ixA hr.units (e_fld T.ck 2 (e_var 0)) (e_var 1)) (e_tup (a_cons (e_fld T.ck 3 (e_var 0)) (a_cons (e_tup (a_cons (e_str [104, 121, 112, 111, 116, 104, 101, 115, 105, 115]) (a_nil))) (a_nil)))) rfl))
theorem ok13 (T : Kt P w K mg c fa cc fd) (L : Lv P w K mg base c fa cc fd call k) : FnOk P w K mg base CX0 (k + 2) (fa 13) (fd 13) ["self", "number"] (spR (gB P w K c) (runB 2 2 (b_13 call))) := fn_ok T.F13 sc13 fun cdv A outer s H E hr => B13 T L hr
theorem B14 {cdv : Value} {A : Around} {outer : List Env} {s : Shared} {H : Hp} {E : XK} (T : Kt P w K mg c fa cc fd) (L : Lv P w K mg base c fa cc fd call k) (hr : Room (k + 1) (A.deeper (envOfC "Discharge.identity" (defScope s14) s.heap.objs.size (fa 14) cdv))) :
    EB (cxOf CX0 P w K mg base n14 "Discharge.identity" (defScope s14) (fa 14) cdv A outer s H E).nox c (defBody s14) (b_14 call) := b_seq (s_set (i := 1) sc14.nd rfl (by first | exact Or.inl rfl | exact Or.inr rfl) (e_fld T.ck 3 (e_var 0))) (b_seq (s_set (i := 2) sc14.nd rfl (by first | exact Or.inl rfl | exact Or.inr rfl) (e_methS (ci := 0) T.ck (e_fld T.ck 4 (e_var 0)) T.me6 (by decide +kernel) L.f6 (hr.mono (Nat.le_succ _)) (a_cons (e_int) (a_cons (e_var 1) (a_cons (e_tup (a_cons (e_str [105, 102]) (a_cons (e_var 1) (a_cons (e_var 1) (a_nil))))) (a_cons (e_var 1) (a_nil))))))) (b_seq (s_set (i := 2) sc14.nd rfl (by first | exact Or.inl rfl | exact Or.inr rfl) (e_meth (ci := 0) T.ck (e_fld T.ck 4 (e_var 0)) T.me7 (by decide +kernel) L.f7 (hr.mono (Nat.le_succ _)) T.b7 (a_cons (e_var 2) (a_cons (e_methS (ci := 0) T.ck (e_fld T.ck 4 (e_var 0)) T.me6 (by decide +kernel) L.f6 (hr.mono (Nat.le_succ _)) (a_cons (e_int) (a_cons (e_var 1) (a_cons (e_tup (a_cons (e_str [105, 102]) (a_cons (e_var 1) (a_cons (e_var 1) (a_nil))))) (a_nil))))) (a_nil))))) (b_one (s_ret (e_meth (ci := 0) T.ck (e_fld T.ck 4 (e_var 0)) T.me7 (by decide +kernel) L.f7 (hr.mono (Nat.le_succ _)) T.b7 (a_cons (e_var 2) (a_cons (e_methS (ci := 0) T.ck (e_fld T.ck 4 (e_var 0)) T.me6 (by decide +kernel) L.f6 (hr.mono (Nat.le_succ _)) (a_cons (e_int) (a_cons (e_var 1) (a_cons (e_var 1) (a_nil))))) (a_nil))))))))
theorem ok14 (T : Kt P w K mg c fa cc fd) (L : Lv P w K mg base c fa cc fd call k) : FnOk P w K mg base CX0 (k + 2) (fa 14) (fd 14) ["self"] (spR (gB P w K c) (runB 3 1 (b_14 call))) := fn_ok T.F14 sc14 fun cdv A outer s H E hr => B14 T L hr
theorem B15 {cdv : Value} {A : Around} {outer : List Env} {s : Shared} {H : Hp} {E : XK} (T : Kt P w K mg c fa cc fd) (L : Lv P w K mg base c fa cc fd call k) (hr : Room (k + 1) (A.deeper (envOfC "Discharge.lift" (defScope s15) s.heap.objs.size (fa 15) cdv))) :
    EB (cxOf CX0 P w K mg base n15 "Discharge.lift" (defScope s15) (fa 15) cdv A outer s H E).nox c (defBody s15) (b_15 call) := b_seq (s_if (b_cmp (op_notInA hr.units) notInA_ok (e_var 1) (e_fld T.ck 6 (e_var 0)) rfl) (b_seq (s_set (i := 2) sc15.nd rfl (by first | exact Or.inl rfl | exact Or.inr rfl) (e_methS (ci := 0) T.ck (e_fld T.ck 4 (e_var 0)) T.me6 (by decide +kernel) L.f6 (hr.mono (Nat.le_succ _)) (a_cons (e_int) (a_cons (e_ixA hr.units (e_ixA hr.units (e_fld T.ck 2 (e_var 0)) (e_var 1)) (e_int)) (a_cons (e_fld T.ck 3 (e_var 0)) (a_nil)))))) (b_one (s_put hr.units (e_fld T.ck 6 (e_var 0)) (e_var 1) (e_meth (ci := 0) T.ck (e_fld T.ck 4 (e_var 0)) T.me7 (by decide +kernel) L.f7 (hr.mono (Nat.le_succ _)) T.b7 (a_cons (e_var 2) (a_cons (e_ixA hr.units (e_fld T.ck 5 (e_var 0)) (e_var 1)) (a_nil))))))) (b_nil)) (b_one (s_ret (e_ixA hr.units (e_fld T.ck 6 (e_var 0)) (e_var 1))))
theorem ok15 (T : Kt P w K mg c fa cc fd) (L : Lv P w K mg base c fa cc fd call k) : FnOk P w K mg base CX0 (k + 2) (fa 15) (fd 15) ["self", "number"] (spR (gB P w K c) (runB 3 2 (b_15 call))) := fn_ok T.F15 sc15 fun cdv A outer s H E hr => B15 T L hr
theorem B16 {cdv : Value} {A : Around} {outer : List Env} {s : Shared} {H : Hp} {E : XK} (T : Kt P w K mg c fa cc fd) (L : Lv P w K mg base c fa cc fd call k) (hr : Room (k + 1) (A.deeper (envOfC "Discharge.under" (defScope s16) s.heap.objs.size (fa 16) cdv))) :
    EB (cxOf CX0 P w K mg base n16 "Discharge.under" (defScope s16) (fa 16) cdv A outer s H E).nox c (defBody s16) (b_16 call) := b_seq (s_if (b_w (w_and (b_cmp (op_inA hr.units) inA_ok (e_var 2) (e_fld T.ck 5 (e_var 0)) rfl) (w_and1 (b_val (e_meth (ci := 1) T.ck (e_var 0) T.me13 (by decide +kernel) L.f13 (hr.mono (Nat.le_succ _)) T.b13 (a_cons (e_var 3) (a_nil))))))) (b_one (s_ret (e_ixA hr.units (e_fld T.ck 5 (e_var 0)) (e_var 2)))) (b_nil)) (b_seq (s_asg (e_ixA hr.units (e_ixA hr.units (e_fld T.ck 2 (e_var 0)) (e_var 2)) (e_int)) (g_tup rfl (gs_cons (g_nm (i := 4) sc16.nd rfl (by first | exact Or.inl rfl | exact Or.inr rfl)) (gs_cons (g_nm (i := 5) sc16.nd rfl (by first | exact Or.inl rfl | exact Or.inr rfl)) (gs_cons (g_nm (i := 6) sc16.nd rfl (by first | exact Or.inl rfl | exact Or.inr rfl)) (gs_nil)))))) (b_seq (s_set (i := 7) sc16.nd rfl (by first | exact Or.inl rfl | exact Or.inr rfl) (e_methS (ci := 0) T.ck (e_fld T.ck 4 (e_var 0)) T.me6 (by decide +kernel) L.f6 (hr.mono (Nat.le_succ _)) (a_cons (e_int) (a_cons (e_var 6) (a_cons (e_var 5) (a_cons (e_fld T.ck 3 (e_var 0)) (a_nil))))))) (b_seq (s_set (i := 7) sc16.nd rfl (by first | exact Or.inl rfl | exact Or.inr rfl) (e_meth (ci := 0) T.ck (e_fld T.ck 4 (e_var 0)) T.me7 (by decide +kernel) L.f7 (hr.mono (Nat.le_succ _)) T.b7 (a_cons (e_var 7) (a_cons (e_meth (ci := 1) T.ck (e_var 0) T.me15 (by decide +kernel) L.f15 (hr.mono (Nat.le_succ _)) T.b15 (a_cons (e_var 2) (a_nil))) (a_nil))))) (b_one (s_ret (e_meth (ci := 0) T.ck (e_fld T.ck 4 (e_var 0)) T.me7 (by decide +kernel) L.f7 (hr.mono (Nat.le_succ _)) T.b7 (a_cons (e_var 7) (a_cons (e_meth (ci := 1) T.ck (e_var 0) T.me15 (by decide +kernel) L.f15 (hr.mono (Nat.le_succ _)) T.b15 (a_cons (e_var 3) (a_nil))) (a_nil)))))))))
theorem ok16 (T : Kt P w K mg c fa cc fd) (L : Lv P w K mg base c fa cc fd call k) : FnOk P w K mg base CX0 (k + 2) (fa 16) (fd 16) ["self", "number", "first", "second"] (spR (gB P w K c) (runB 8 4 (b_16 call))) := fn_ok T.F16 sc16 fun cdv A outer s H E hr => B16 T L hr
theorem B17 {cdv : Value} {A : Around} {outer : List Env} {s : Shared} {H : Hp} {E : XK} (T : Kt P w K mg c fa cc fd) (L : Lv P w K mg base c fa cc fd call k) (hr : Room (k + 1) (A.deeper (envOfC "Discharge.take" (defScope s17) s.heap.objs.size (fa 17) cdv))) :
    EB (cxOf CX0 P w K mg base n17 "Discharge.take" (defScope s17) (fa 17) cdv A outer s H E).nox c (defBody s17) (b_17 call) := b_seq (s_asg (e_ixA hr.units (e_fld T.ck 2 (e_var 0)) (e_var 1)) (g_tup rfl (gs_cons (g_nm (i := 2) sc17.nd rfl (by first | exact Or.inl rfl | exact Or.inr rfl)) (gs_cons (g_nm (i := 3) sc17.nd rfl (by first | exact Or.inl rfl | exact Or.inr rfl)) (gs_nil))))) (b_one (s_if (b_val (e_meth (ci := 1) T.ck (e_var 0) T.me13 (by decide +kernel) L.f13 (hr.mono (Nat.le_succ _)) T.b13 (a_cons (e_var 1) (a_nil)))) (b_one (s_put hr.units (e_fld T.ck 6 (e_var 0)) (e_var 1) (e_meth0 (ci := 1) T.ck (e_var 0) T.me14 (by decide +kernel) L.f14 (hr.mono (Nat.le_succ _)) T.b14))) (b_one (s_if (b_cmp (op_neD hr.units) ne_ok (e_ixA hr.units (e_var 3) (e_int)) (e_str [100, 101, 116, 97, 99, 104]) rfl) (b_one (s_put hr.units (e_fld T.ck 5 (e_var 0)) (e_var 1) (e_meth (ci := 0) T.ck (e_fld T.ck 4 (e_var 0)) T.me4 (by decide +kernel) L.f4 (hr.mono (Nat.le_succ _)) T.b4 (a_cons (e_var 2) (a_cons (e_var 3) (a_nil)))))) (b_one (s_if (b_w (w_and (b_cmp (op_inA hr.units) inA_ok (e_ixA hr.units (e_var 3) (e_int)) (e_fld T.ck 5 (e_var 0)) rfl) (w_and1 (b_cmp (op_inA hr.units) inA_ok (e_ixA hr.units (e_var 3) (e_int)) (e_fld T.ck 5 (e_var 0)) rfl)))) (b_one (s_put hr.units (e_fld T.ck 5 (e_var 0)) (e_var 1) (e_meth (ci := 0) T.ck (e_fld T.ck 4 (e_var 0)) T.me4 (by decide +kernel) L.f4 (hr.mono (Nat.le_succ _)) T.b4 (a_cons (e_var 2) (a_cons (e_tup (a_cons (e_str [100, 101, 116, 97, 99, 104]) (a_cons (e_ixA hr.units (e_fld T.ck 5 (e_var 0)) (e_ixA hr.units (e_var 3) (e_int))) (a_cons (e_ixA hr.units (e_fld T.ck 5 (e_var 0)) (e_ixA hr.units (e_var 3) (e_int))) (a_nil))))) (a_nil)))))) (b_one (s_put hr.units (e_fld T.ck 6 (e_var 0)) (e_var 1) (e_meth (ci := 1) T.ck (e_var 0) T.me16 (by decide +kernel) L.f16 (hr.mono (Nat.le_succ _)) T.b16 (a_cons (e_var 1) (a_cons (e_ixA hr.units (e_var 3) (e_int)) (a_cons (e_ixA hr.units (e_var 3) (e_int)) (a_nil)))))))))))))
theorem ok17 (T : Kt P w K mg c fa cc fd) (L : Lv P w K mg base c fa cc fd call k) : FnOk P w K mg base CX0 (k + 2) (fa 17) (fd 17) ["self", "number"] (spR (gB P w K c) (runB 4 2 (b_17 call))) := fn_ok T.F17 sc17 fun cdv A outer s H E hr => B17 T L hr
theorem B18 {cdv : Value} {A : Around} {outer : List Env} {s : Shared} {H : Hp} {E : XK} (T : Kt P w K mg c fa cc fd) (L : Lv P w K mg base c fa cc fd call k) (hr : Room (k + 1) (A.deeper (envOfC "Discharge.whole" (defScope s18) s.heap.objs.size (fa 18) cdv))) :
    EB (cxOf CX0 P w K mg base n18 "Discharge.whole" (defScope s18) (fa 18) cdv A outer s H E).nox c (defBody s18) (b_18 call) := b_seq (s_for PassesOwn.never rfl (i_r1 (by rfl) T.m_range (a_cons (e_len (by rfl) T.m_len (a_cons (e_fld T.ck 2 (e_var 0)) (a_nil))) (a_nil))) (g_nm (i := 1) sc18.nd rfl (by first | exact Or.inl rfl | exact Or.inr rfl)) (b_one (s_expr (e_meth (ci := 1) T.ck (e_var 0) T.me17 (by decide +kernel) L.f17 (hr.mono (Nat.le_succ _)) T.b17 (a_cons (e_var 1) (a_nil)))))) (b_one (s_ret (e_call L.f11 (hr.mono (Nat.le_succ _)) (by rfl) T.g11 T.F11.kp T.b11 (a_cons (e_meth (ci := 0) T.ck (e_fld T.ck 4 (e_var 0)) T.me9 (by decide +kernel) L.f9 (hr.mono (Nat.le_succ _)) T.b9 (a_cons (e_meth (ci := 1) T.ck (e_var 0) T.me15 (by decide +kernel) L.f15 (hr.mono (Nat.le_succ _)) T.b15 (a_cons (e_op op_sub int_ok (e_len (by rfl) T.m_len (a_cons (e_fld T.ck 2 (e_var 0)) (a_nil))) (e_int)) (a_nil))) (a_nil))) (a_nil)))))
theorem ok18 (T : Kt P w K mg c fa cc fd) (L : Lv P w K mg base c fa cc fd call k) : FnOk P w K mg base CX0 (k + 2) (fa 18) (fd 18) ["self"] (spR (gB P w K c) (runB 2 1 (b_18 call))) := fn_ok T.F18 sc18 fun cdv A outer s H E hr => B18 T L hr
theorem B19 {cdv : Value} {A : Around} {outer : List Env} {s : Shared} {H : Hp} {E : XK} (T : Kt P w K mg c fa cc fd) (L : Lv P w K mg base c fa cc fd call k) (hr : Room (k + 1) (A.deeper (envOfC "discharged" (defScope s19) s.heap.objs.size (fa 19) cdv))) :
    EB (cxOf CX0 P w K mg base n19 "discharged" (defScope s19) (fa 19) cdv A outer s H E).nox c (defBody s19) (b_19 call) := b_one (s_ret (e_meth0 (ci := 1) T.ck (e_make T.mk1 L.f12 hr (by rfl) T.gc1 T.b12 (a_cons (e_var 0) (a_cons (e_var 1) (a_nil)))) T.me18 (by decide +kernel) L.f18 (hr.mono (Nat.le_succ _)) T.b18))
theorem ok19 (T : Kt P w K mg c fa cc fd) (L : Lv P w K mg base c fa cc fd call k) : FnOk P w K mg base CX0 (k + 2) (fa 19) (fd 19) ["proof", "formula"] (spR (gB P w K c) (runB 2 2 (b_19 call))) := fn_ok T.F19 sc19 fun cdv A outer s H E hr => B19 T L hr
theorem B20 {cdv : Value} {A : Around} {outer : List Env} {s : Shared} {H : Hp} {E : XK} (T : Kt P w K mg c fa cc fd) (L : Lv P w K mg base c fa cc fd call k) (hr : Room (k + 1) (A.deeper (envOfC "parts_of" (defScope s20) s.heap.objs.size (fa 20) cdv))) :
    EB (cxOf CX0 P w K mg base n20 "parts_of" (defScope s20) (fa 20) cdv A outer s H E).nox c (defBody s20) (b_20 call) := b_seq (s_if (b_w (w_or (b_cmp (op_eqD hr.units) eq_ok (e_ixA hr.units (e_var 0) (e_int)) (e_str [108, 101, 116, 116, 101, 114]) rfl) (w_or1 (b_w (w_and (b_cmp (op_eqD hr.units) eq_ok (e_ixA hr.units (e_var 0) (e_int)) (e_str [110, 111, 116]) rfl) (w_and1 (b_cmp (op_eqD hr.units) eq_ok (e_var 1) (e_str [112, 111, 115, 105, 116, 105, 118, 101]) rfl))))))) (b_one (s_ret (e_lst (a_cons (e_var 0) (a_nil))))) (b_nil)) (b_one (s_ret (e_op op_addA addA_ok (e_lc2 ([("other", 2), ("part", 3)]) [3] (by decide) rfl sc20.nd (i_tup (e_tl (e_var 0))) (blkOk_by (own := [("other", 2), ("part", 3)]) (N := n20) (sc := defScope s20) (by decide +kernel)) (fun _ _ _ _ _ => v_nm (i := 2) (by decide) sc20.nd rfl (Or.inl rfl)) (fun _ _ _ _ _ => ts_nil) (fun _ _ _ _ _ => i_lst (e_call L.f20 (hr.mono (Nat.le_succ _)) (by rfl) T.g20 T.F20.kp T.b20 (a_cons (e_var 2) (a_cons (e_var 1) (a_nil))))) (fun _ _ _ _ _ => v_nm (i := 3) (by decide) sc20.nd rfl (Or.inl rfl)) (fun _ _ _ _ _ => ts_nil) (fun _ _ _ _ _ => e_var 3)) (e_lst (a_cons (e_var 0) (a_nil))))))
theorem ok20 (T : Kt P w K mg c fa cc fd) (L : Lv P w K mg base c fa cc fd call k) : FnOk P w K mg base CX0 (k + 2) (fa 20) (fd 20) ["formula", "strength"] (spR (gB P w K c) (runB 4 2 (b_20 call))) := fn_ok T.F20 sc20 fun cdv A outer s H E hr => B20 T L hr
theorem B21 {cdv : Value} {A : Around} {outer : List Env} {s : Shared} {H : Hp} {E : XK} (T : Kt P w K mg c fa cc fd) (L : Lv P w K mg base c fa cc fd call k) (hcd : cdv = .ref (cc 2)) (hr : Room (k + 1) (A.deeper (envOfC "Search.__init__" (defScope s21) s.heap.objs.size (fa 21) cdv))) :
    EB (cxOf CX0 P w K mg base n21 "Search.__init__" (defScope s21) (fa 21) cdv A outer s H E).nox c (defBody s21) (b_21 call) := b_seq (s_lc2 (i := 3) ([("formula", 4), ("part", 5)]) [5] (by decide) rfl sc21.nd rfl rfl (sw_true rfl rfl rfl (by decide +kernel)) (i_tup (e_var 1)) (blkOk_by (own := [("formula", 4), ("part", 5)]) (N := n21) (sc := defScope s21) (by decide +kernel)) (fun _ _ _ _ _ => v_nm (i := 4) (by decide) sc21.nd rfl (Or.inl rfl)) (fun _ _ _ _ _ => ts_nil) (fun _ _ _ _ _ => i_lst (e_call L.f20 (hr.mono (Nat.le_succ _)) (by rfl) T.g20 T.F20.kp T.b20 (a_cons (e_var 4) (a_cons (e_var 2) (a_nil))))) (fun _ _ _ _ _ => v_nm (i := 5) (by decide) sc21.nd rfl (Or.inl rfl)) (fun _ _ _ _ _ => ts_nil) (fun _ _ _ _ _ => e_var 5)) (b_seq (s_set (i := 6) sc21.nd rfl (by first | exact Or.inl rfl | exact Or.inr rfl) (e_srtSet hr (by rfl) T.m_sorted (by rfl) T.m_set (e_var 3))) (b_seq (s_fld T.ck 7 (e_var 0) (e_srtKey hr (by rfl) T.m_sorted L.tb21 hcd (by rfl) sc21.nd (lmS_by (blkOk_by (own := [("part", 5)]) (N := n21) (sc := defScope s21) (by decide +kernel)) (by decide +kernel)) (by rfl) (by intros; rfl) (e_var 6) (fun _ _ _ _ hr2 => e_tup (a_cons (e_call L.f0 hr2 (by rfl) T.g0 T.F0.kp T.b0 (a_cons (e_var 5) (a_nil))) (a_cons (e_var 5) (a_nil)))))) (b_seq (s_fld T.ck 1 (e_var 0) (e_dn hr.units ([("place", 7), ("part", 5)]) rfl sc21.nd (i_el (by rfl) T.m_enumerate (a_cons (e_fld T.ck 7 (e_var 0)) (a_nil))) (blkOk_by (own := [("place", 7), ("part", 5)]) (N := n21) (sc := defScope s21) (by decide +kernel)) (fun _ _ _ _ _ => v_tup rfl (vs_cons (v_nm (i := 7) (by decide) sc21.nd rfl (Or.inl rfl)) (vs_cons (v_nm (i := 5) (by decide) sc21.nd rfl (Or.inl rfl)) (vs_nil)))) (fun _ _ _ _ _ => ts_nil) (fun _ _ _ _ _ => e_var 5) (fun _ _ _ _ _ => e_var 7))) (b_seq (s_fld T.ck 8 (e_var 0) (e_len (by rfl) T.m_len (a_cons (e_fld T.ck 7 (e_var 0)) (a_nil)))) (b_seq (s_fld T.ck 9 (e_var 0) (e_var 2)) (b_one (s_fld T.ck 10 (e_var 0) (e_newN))))))))
theorem ok21 (T : Kt P w K mg c fa cc fd) (L : Lv P w K mg base c fa cc fd call k) : FnOk P w K mg base CX0 (k + 2) (fa 21) (fd 21) ["self", "formulas", "strength"] (spR (gB P w K c) (runB 8 3 (b_21 call))) := fn_okC T.F21 sc21 fun cdv A outer s H E hc hr => B21 T L (hc.symm.trans T.cd21) hr
theorem B22 {cdv : Value} {A : Around} {outer : List Env} {s : Shared} {H : Hp} {E : XK} (T : Kt P w K mg c fa cc fd) (L : Lv P w K mg base c fa cc fd call k) (hr : Room (k + 1) (A.deeper (envOfC "Search.goals" (defScope s22) s.heap.objs.size (fa 22) cdv))) :
    EB (cxOf CX0 P w K mg base n22 "Search.goals" (defScope s22) (fa 22) cdv A outer s H E).nox c (defBody s22) (b_22 call) := b_seq (s_set (i := 2) sc22.nd rfl (by first | exact Or.inl rfl | exact Or.inr rfl) (e_ixA hr.units (e_fld T.ck 7 (e_var 0)) (e_var 1))) (b_seq (s_if (b_cmp (op_eqD hr.units) eq_ok (e_ixA hr.units (e_var 2) (e_int)) (e_str [105, 102]) rfl) (b_one (s_ret (e_tup (a_cons (e_ixA hr.units (e_fld T.ck 1 (e_var 0)) (e_ixA hr.units (e_var 2) (e_int))) (a_cons (e_ixA hr.units (e_fld T.ck 1 (e_var 0)) (e_ixA hr.units (e_var 2) (e_int))) (a_nil)))))) (b_nil)) (b_seq (s_if (b_w (w_and (b_cmp (op_eqD hr.units) eq_ok (e_ixA hr.units (e_var 2) (e_int)) (e_str [110, 111, 116]) rfl) (w_and1 (b_cmp (op_eqD hr.units) eq_ok (e_fld T.ck 9 (e_var 0)) (e_str [109, 105, 110, 105, 109, 97, 108]) rfl)))) (b_one (s_ret (e_tup (a_cons (e_ixA hr.units (e_fld T.ck 1 (e_var 0)) (e_ixA hr.units (e_var 2) (e_int))) (a_cons (e_fld T.ck 8 (e_var 0)) (a_nil)))))) (b_nil)) (b_one (s_ret (e_non)))))
theorem ok22 (T : Kt P w K mg c fa cc fd) (L : Lv P w K mg base c fa cc fd call k) : FnOk P w K mg base CX0 (k + 2) (fa 22) (fd 22) ["self", "place"] (spR (gB P w K c) (runB 3 2 (b_22 call))) := fn_ok T.F22 sc22 fun cdv A outer s H E hr => B22 T L hr
theorem B23 {cdv : Value} {A : Around} {outer : List Env} {s : Shared} {H : Hp} {E : XK} (T : Kt P w K mg c fa cc fd) (L : Lv P w K mg base c fa cc fd call k) (hr : Room (k + 1) (A.deeper (envOfC "Search.next_near" (defScope s23) s.heap.objs.size (fa 23) cdv))) :
    EB (cxOf CX0 P w K mg base n23 "Search.next_near" (defScope s23) (fa 23) cdv A outer s H E).nox c (defBody s23) (b_23 call) := b_seq (s_for PassesOwn.never rfl (i_r1 (by rfl) T.m_range (a_cons (e_len (by rfl) T.m_len (a_cons (e_fld T.ck 7 (e_var 0)) (a_nil))) (a_nil))) (g_nm (i := 2) sc23.nd rfl (by first | exact Or.inl rfl | exact Or.inr rfl)) (b_seq (s_set (i := 3) sc23.nd rfl (by first | exact Or.inl rfl | exact Or.inr rfl) (e_meth (ci := 2) T.ck (e_var 0) T.me22 (by decide +kernel) L.f22 (hr.mono (Nat.le_succ _)) T.b22 (a_cons (e_var 2) (a_nil)))) (b_one (s_if (b_cmp (op_notN) notN_ok (e_var 3) (e_non) rfl) (b_seq (s_asg (e_var 3) (g_tup rfl (gs_cons (g_nm (i := 4) sc23.nd rfl (by first | exact Or.inl rfl | exact Or.inr rfl)) (gs_cons (g_nm (i := 5) sc23.nd rfl (by first | exact Or.inl rfl | exact Or.inr rfl)) (gs_nil))))) (b_seq (s_if (b_w (w_and (b_cmp (op_inA hr.units) inA_ok (e_var 2) (e_var 1) rfl) (w_and (b_cmp (op_inA hr.units) inA_ok (e_var 4) (e_var 1) rfl) (w_and1 (b_cmp (op_notInA hr.units) notInA_ok (e_var 5) (e_var 1) rfl))))) (b_one (s_ret (e_tup (a_cons (e_var 5) (a_cons (e_tup (a_cons (e_str [97, 112, 112, 108, 121]) (a_cons (e_var 2) (a_cons (e_var 4) (a_nil))))) (a_nil)))))) (b_nil)) (b_one (s_if (b_w (w_and (b_cmp (op_inA hr.units) inA_ok (e_var 5) (e_var 1) rfl) (w_and1 (b_cmp (op_notInA hr.units) notInA_ok (e_var 2) (e_var 1) rfl)))) (b_one (s_ret (e_tup (a_cons (e_var 2) (a_cons (e_tup (a_cons (e_str [97, 98, 111, 118, 101]) (a_cons (e_var 5) (a_nil)))) (a_nil)))))) (b_nil))))) (b_nil))))) (b_one (s_ret (e_non)))
theorem ok23 (T : Kt P w K mg c fa cc fd) (L : Lv P w K mg base c fa cc fd call k) : FnOk P w K mg base CX0 (k + 2) (fa 23) (fd 23) ["self", "reasons"] (spR (gB P w K c) (runB 6 2 (b_23 call))) := fn_ok T.F23 sc23 fun cdv A outer s H E hr => B23 T L hr
theorem B24 {cdv : Value} {A : Around} {outer : List Env} {s : Shared} {H : Hp} {E : XK} (T : Kt P w K mg c fa cc fd) (L : Lv P w K mg base c fa cc fd call k) (hr : Room (k + 1) (A.deeper (envOfC "Search.next_far" (defScope s24) s.heap.objs.size (fa 24) cdv))) :
    EB (cxOf CX0 P w K mg base n24 "Search.next_far" (defScope s24) (fa 24) cdv A outer s H E).nox c (defBody s24) (b_24 call) := b_seq (s_for PassesOwn.never rfl (i_r1 (by rfl) T.m_range (a_cons (e_len (by rfl) T.m_len (a_cons (e_fld T.ck 7 (e_var 0)) (a_nil))) (a_nil))) (g_nm (i := 3) sc24.nd rfl (by first | exact Or.inl rfl | exact Or.inr rfl)) (b_seq (s_set (i := 4) sc24.nd rfl (by first | exact Or.inl rfl | exact Or.inr rfl) (e_meth (ci := 2) T.ck (e_var 0) T.me22 (by decide +kernel) L.f22 (hr.mono (Nat.le_succ _)) T.b22 (a_cons (e_var 3) (a_nil)))) (b_one (s_if (b_w (w_and (b_cmp (op_notN) notN_ok (e_var 4) (e_non) rfl) (w_and (b_cmp (op_notInA hr.units) notInA_ok (e_var 3) (e_var 2) rfl) (w_and1 (b_cmp (op_notInA hr.units) notInA_ok (e_ixA hr.units (e_var 4) (e_int)) (e_var 2) rfl))))) (b_one (s_if (b_cmp (op_inA hr.units) inA_ok (e_ixA hr.units (e_var 4) (e_int)) (e_meth (ci := 2) T.ck (e_var 0) T.me26 (by decide +kernel) L.f26 (hr.mono (Nat.le_succ _)) T.b26 (a_cons (e_meth (ci := 2) T.ck (e_var 0) T.me25 (by decide +kernel) L.f25 (hr.mono (Nat.le_succ _)) T.b25 (a_cons (e_var 1) (a_cons (e_ixA hr.units (e_var 4) (e_int)) (a_nil)))) (a_nil))) rfl) (b_one (s_ret (e_tup (a_cons (e_var 3) (a_cons (e_tup (a_cons (e_str [117, 110, 100, 101, 114]) (a_cons (e_ixA hr.units (e_var 4) (e_int)) (a_cons (e_ixA hr.units (e_var 4) (e_int)) (a_nil))))) (a_nil)))))) (b_nil))) (b_nil))))) (b_one (s_ret (e_non)))
theorem ok24 (T : Kt P w K mg c fa cc fd) (L : Lv P w K mg base c fa cc fd call k) : FnOk P w K mg base CX0 (k + 2) (fa 24) (fd 24) ["self", "given", "reasons"] (spR (gB P w K c) (runB 5 3 (b_24 call))) := fn_ok T.F24 sc24 fun cdv A outer s H E hr => B24 T L hr
theorem B25 {cdv : Value} {A : Around} {outer : List Env} {s : Shared} {H : Hp} {E : XK} (T : Kt P w K mg c fa cc fd) (L : Lv P w K mg base c fa cc fd call k) (hr : Room (k + 1) (A.deeper (envOfC "Search.with_more" (defScope s25) s.heap.objs.size (fa 25) cdv))) :
    EB (cxOf CX0 P w K mg base n25 "Search.with_more" (defScope s25) (fa 25) cdv A outer s H E).nox c (defBody s25) (b_25 call) := b_one (s_ret (e_tof (by rfl) T.m_tuple (a_cons (e_srt hr.units rfl (by rfl) T.m_sorted (a_cons (e_op op_addA addA_ok (e_var 1) (e_tup (a_cons (e_var 2) (a_nil)))) (a_nil))) (a_nil))))
theorem ok25 (T : Kt P w K mg c fa cc fd) (L : Lv P w K mg base c fa cc fd call k) : FnOk P w K mg base CX0 (k + 2) (fa 25) (fd 25) ["self", "given", "place"] (spR (gB P w K c) (runB 3 3 (b_25 call))) := fn_ok T.F25 sc25 fun cdv A outer s H E hr => B25 T L hr
theorem B26 {cdv : Value} {A : Around} {outer : List Env} {s : Shared} {H : Hp} {E : XK} (T : Kt P w K mg c fa cc fd) (L : Lv P w K mg base c fa cc fd call k) (hr : Room (k + 1) (A.deeper (envOfC "Search.closure" (defScope s26) s.heap.objs.size (fa 26) cdv))) :
    EB (cxOf CX0 P w K mg base n26 "Search.closure" (defScope s26) (fa 26) cdv A outer s H E).nox c (defBody s26) (b_26 call) := b_seq (s_if (b_cmp (op_notInA hr.units) notInA_ok (e_var 1) (e_fld T.ck 10 (e_var 0)) rfl) (b_seq (s_dc (i := 2) ([("place", 3)]) rfl sc26.nd rfl rfl (swD_true rfl rfl rfl (by decide +kernel)) (i_tup (e_var 1)) (blkOk_by (own := [("place", 3)]) (N := n26) (sc := defScope s26) (by decide +kernel)) (fun _ _ _ _ _ => v_nm (i := 3) (by decide) sc26.nd rfl (Or.inl rfl)) (fun _ _ _ _ _ => ts_nil) (fun _ _ _ _ _ => e_var 3) (fun _ _ _ _ _ => e_tup (a_cons (e_str [103, 105, 118, 101, 110]) (a_nil)))) (b_seq (s_wh PassesOwn.never (b_val (e_bl)) (b_seq (s_set (i := 4) sc26.nd rfl (by first | exact Or.inl rfl | exact Or.inr rfl) (e_or (e_meth (ci := 2) T.ck (e_var 0) T.me23 (by decide +kernel) L.f23 (hr.mono (Nat.le_succ _)) T.b23 (a_cons (e_var 2) (a_nil))) (e_meth (ci := 2) T.ck (e_var 0) T.me24 (by decide +kernel) L.f24 (hr.mono (Nat.le_succ _)) T.b24 (a_cons (e_var 1) (a_cons (e_var 2) (a_nil)))))) (b_seq (s_if (b_cmp (op_isN) isN_ok (e_var 4) (e_non) rfl) (b_one (s_brk)) (b_nil)) (b_one (s_put hr.units (e_var 2) (e_ixA hr.units (e_var 4) (e_int)) (e_ixA hr.units (e_var 4) (e_int))))))) (b_one (s_put hr.units (e_fld T.ck 10 (e_var 0)) (e_var 1) (e_var 2))))) (b_nil)) (b_one (s_ret (e_ixA hr.units (e_fld T.ck 10 (e_var 0)) (e_var 1))))
theorem ok26 (T : Kt P w K mg c fa cc fd) (L : Lv P w K mg base c fa cc fd call k) : FnOk P w K mg base CX0 (k + 2) (fa 26) (fd 26) ["self", "given"] (spR (gB P w K c) (runB 5 2 (b_26 call))) := fn_ok T.F26 sc26 fun cdv A outer s H E hr => B26 T L hr
theorem B27 {cdv : Value} {A : Around} {outer : List Env} {s : Shared} {H : Hp} {E : XK} (T : Kt P w K mg c fa cc fd) (L : Lv P w K mg base c fa cc fd call k) (hr : Room (k + 1) (A.deeper (envOfC "Search.formula" (defScope s27) s.heap.objs.size (fa 27) cdv))) :
    EB (cxOf CX0 P w K mg base n27 "Search.formula" (defScope s27) (fa 27) cdv A outer s H E).nox c (defBody s27) (b_27 call) := b_one (s_ret (e_if (b_cmp (op_eqD hr.units) eq_ok (e_var 1) (e_fld T.ck 8 (e_var 0)) rfl) (e_no _) (e_ixA hr.units (e_fld T.ck 7 (e_var 0)) (e_var 1))))
theorem ok27 (T : Kt P w K mg c fa cc fd) (L : Lv P w K mg base c fa cc fd call k) : FnOk P w K mg base CX0 (k + 2) (fa 27) (fd 27) ["self", "place"] (spR (gB P w K c) (runB 2 2 (b_27 call))) := fn_ok T.F27 sc27 fun cdv A outer s H E hr => B27 T L hr
theorem B28 {cdv : Value} {A : Around} {outer : List Env} {s : Shared} {H : Hp} {E : XK} (T : Kt P w K mg c fa cc fd) (L : Lv P w K mg base c fa cc fd call k) (hr : Room (k + 1) (A.deeper (envOfC "Search.derive" (defScope s28) s.heap.objs.size (fa 28) cdv))) :
    EB (cxOf CX0 P w K mg base n28 "Search.derive" (defScope s28) (fa 28) cdv A outer s H E).nox c (defBody s28) (b_28 call) := b_seq (s_set (i := 4) sc28.nd rfl (by first | exact Or.inl rfl | exact Or.inr rfl) (e_meth (ci := 2) T.ck (e_var 0) T.me27 (by decide +kernel) L.f27 (hr.mono (Nat.le_succ _)) T.b27 (a_cons (e_var 2) (a_nil)))) (b_seq (s_if (b_cmp (op_inA hr.units) inA_ok (e_var 4) (e_fld T.ck 1 (e_var 3)) rfl) (b_one (s_ret (e_ixA hr.units (e_fld T.ck 1 (e_var 3)) (e_var 4)))) (b_nil)) (b_seq (s_set (i := 5) sc28.nd rfl (by first | exact Or.inl rfl | exact Or.inr rfl) (e_ixA hr.units (e_meth (ci := 2) T.ck (e_var 0) T.me26 (by decide +kernel) L.f26 (hr.mono (Nat.le_succ _)) T.b26 (a_cons (e_var 1) (a_nil))) (e_var 2))) (b_seq (s_if (b_cmp (op_eqD hr.units) eq_ok (e_ixA hr.units (e_var 5) (e_int)) (e_str [103, 105, 118, 101, 110]) rfl) (b_one (s_ret (e_meth (ci := 0) T.ck (e_var 3) T.me5 (by decide +kernel) L.f5 (hr.mono (Nat.le_succ _)) T.b5 (a_cons (e_var 4) (a_nil))))) (b_nil)) (b_seq (s_if (b_cmp (op_eqD hr.units) eq_ok (e_ixA hr.units (e_var 5) (e_int)) (e_str [97, 112, 112, 108, 121]) rfl) (b_one (s_ret (e_meth (ci := 2) T.ck (e_var 0) T.me29 (by decide +kernel) L.f29 (hr.mono (Nat.le_succ _)) T.b29 (a_cons (e_var 1) (a_cons (e_var 5) (a_cons (e_var 3) (a_nil))))))) (b_nil)) (b_seq (s_if (b_cmp (op_eqD hr.units) eq_ok (e_ixA hr.units (e_var 5) (e_int)) (e_str [97, 98, 111, 118, 101]) rfl) (b_seq (s_set (i := 6) sc28.nd rfl (by first | exact Or.inl rfl | exact Or.inr rfl) (e_meth (ci := 2) T.ck (e_var 0) T.me28 (by decide +kernel) L.f28 (hr.mono (Nat.le_succ _)) T.b28 (a_cons (e_var 1) (a_cons (e_ixA hr.units (e_var 5) (e_int)) (a_cons (e_var 3) (a_nil)))))) (b_one (s_set (i := 7) sc28.nd rfl (by first | exact Or.inl rfl | exact Or.inr rfl) (e_meth (ci := 0) T.ck (e_var 3) T.me7 (by decide +kernel) L.f7 (hr.mono (Nat.le_succ _)) T.b7 (a_cons (e_methS (ci := 0) T.ck (e_var 3) T.me6 (by decide +kernel) L.f6 (hr.mono (Nat.le_succ _)) (a_cons (e_int) (a_cons (e_meth (ci := 2) T.ck (e_var 0) T.me27 (by decide +kernel) L.f27 (hr.mono (Nat.le_succ _)) T.b27 (a_cons (e_ixA hr.units (e_var 5) (e_int)) (a_nil))) (a_cons (e_ixA hr.units (e_var 4) (e_int)) (a_nil))))) (a_cons (e_var 6) (a_nil))))))) (b_seq (s_set (i := 8) sc28.nd rfl (by first | exact Or.inl rfl | exact Or.inr rfl) (e_make0 T.mk0 L.f3 hr (by rfl) T.gc0 T.b3)) (b_seq (s_set (i := 6) sc28.nd rfl (by first | exact Or.inl rfl | exact Or.inr rfl) (e_meth (ci := 2) T.ck (e_var 0) T.me28 (by decide +kernel) L.f28 (hr.mono (Nat.le_succ _)) T.b28 (a_cons (e_meth (ci := 2) T.ck (e_var 0) T.me25 (by decide +kernel) L.f25 (hr.mono (Nat.le_succ _)) T.b25 (a_cons (e_var 1) (a_cons (e_ixA hr.units (e_var 5) (e_int)) (a_nil)))) (a_cons (e_ixA hr.units (e_var 5) (e_int)) (a_cons (e_var 8) (a_nil)))))) (b_one (s_set (i := 7) sc28.nd rfl (by first | exact Or.inl rfl | exact Or.inr rfl) (e_meth (ci := 0) T.ck (e_var 3) T.me8 (by decide +kernel) L.f8 (hr.mono (Nat.le_succ _)) T.b8 (a_cons (e_call L.f19 (hr.mono (Nat.le_succ _)) (by rfl) T.g19 T.F19.kp T.b19 (a_cons (e_meth (ci := 0) T.ck (e_var 8) T.me9 (by decide +kernel) L.f9 (hr.mono (Nat.le_succ _)) T.b9 (a_cons (e_var 6) (a_nil))) (a_cons (e_ixA hr.units (e_var 4) (e_int)) (a_nil)))) (a_nil)))))))) (b_seq (s_if (b_cmp (op_eqD hr.units) eq_ok (e_ixA hr.units (e_var 4) (e_int)) (e_str [110, 111, 116]) rfl) (b_one (s_ret (e_meth (ci := 0) T.ck (e_var 3) T.me7 (by decide +kernel) L.f7 (hr.mono (Nat.le_succ _)) T.b7 (a_cons (e_meth (ci := 0) T.ck (e_var 3) T.me8 (by decide +kernel) L.f8 (hr.mono (Nat.le_succ _)) T.b8 (a_cons (e_no _) (a_nil))) (a_cons (e_var 7) (a_nil)))))) (b_nil)) (b_one (s_ret (e_var 7)))))))))
theorem ok28 (T : Kt P w K mg c fa cc fd) (L : Lv P w K mg base c fa cc fd call k) : FnOk P w K mg base CX0 (k + 2) (fa 28) (fd 28) ["self", "given", "place", "ledger"] (spR (gB P w K c) (runB 9 4 (b_28 call))) := fn_ok T.F28 sc28 fun cdv A outer s H E hr => B28 T L hr
theorem B29 {cdv : Value} {A : Around} {outer : List Env} {s : Shared} {H : Hp} {E : XK} (T : Kt P w K mg c fa cc fd) (L : Lv P w K mg base c fa cc fd call k) (hr : Room (k + 1) (A.deeper (envOfC "Search.apply" (defScope s29) s.heap.objs.size (fa 29) cdv))) :
    EB (cxOf CX0 P w K mg base n29 "Search.apply" (defScope s29) (fa 29) cdv A outer s H E).nox c (defBody s29) (b_29 call) := b_seq (s_set (i := 4) sc29.nd rfl (by first | exact Or.inl rfl | exact Or.inr rfl) (e_meth (ci := 2) T.ck (e_var 0) T.me28 (by decide +kernel) L.f28 (hr.mono (Nat.le_succ _)) T.b28 (a_cons (e_var 1) (a_cons (e_ixA hr.units (e_var 2) (e_int)) (a_cons (e_var 3) (a_nil)))))) (b_seq (s_set (i := 5) sc29.nd rfl (by first | exact Or.inl rfl | exact Or.inr rfl) (e_meth (ci := 2) T.ck (e_var 0) T.me28 (by decide +kernel) L.f28 (hr.mono (Nat.le_succ _)) T.b28 (a_cons (e_var 1) (a_cons (e_ixA hr.units (e_var 2) (e_int)) (a_cons (e_var 3) (a_nil)))))) (b_seq (s_set (i := 6) sc29.nd rfl (by first | exact Or.inl rfl | exact Or.inr rfl) (e_meth (ci := 2) T.ck (e_var 0) T.me27 (by decide +kernel) L.f27 (hr.mono (Nat.le_succ _)) T.b27 (a_cons (e_ixA hr.units (e_var 2) (e_int)) (a_nil)))) (b_seq (s_if (b_cmp (op_eqD hr.units) eq_ok (e_ixA hr.units (e_var 6) (e_int)) (e_str [110, 111, 116]) rfl) (b_one (s_set (i := 4) sc29.nd rfl (by first | exact Or.inl rfl | exact Or.inr rfl) (e_meth (ci := 0) T.ck (e_var 3) T.me7 (by decide +kernel) L.f7 (hr.mono (Nat.le_succ _)) T.b7 (a_cons (e_meth (ci := 0) T.ck (e_var 3) T.me8 (by decide +kernel) L.f8 (hr.mono (Nat.le_succ _)) T.b8 (a_cons (e_no _) (a_nil))) (a_cons (e_var 4) (a_nil)))))) (b_nil)) (b_one (s_ret (e_meth (ci := 0) T.ck (e_var 3) T.me7 (by decide +kernel) L.f7 (hr.mono (Nat.le_succ _)) T.b7 (a_cons (e_var 4) (a_cons (e_var 5) (a_nil)))))))))
theorem ok29 (T : Kt P w K mg c fa cc fd) (L : Lv P w K mg base c fa cc fd call k) : FnOk P w K mg base CX0 (k + 2) (fa 29) (fd 29) ["self", "given", "reason", "ledger"] (spR (gB P w K c) (runB 7 4 (b_29 call))) := fn_ok T.F29 sc29 fun cdv A outer s H E hr => B29 T L hr
theorem B30 {cdv : Value} {A : Around} {outer : List Env} {s : Shared} {H : Hp} {E : XK} (T : Kt P w K mg c fa cc fd) (L : Lv P w K mg base c fa cc fd call k) (hr : Room (k + 1) (A.deeper (envOfC "Search.proof" (defScope s30) s.heap.objs.size (fa 30) cdv))) :
    EB (cxOf CX0 P w K mg base n30 "Search.proof" (defScope s30) (fa 30) cdv A outer s H E).nox c (defBody s30) (b_30 call) := b_seq (s_set (i := 3) sc30.nd rfl (by first | exact Or.inl rfl | exact Or.inr rfl) (e_make0 T.mk0 L.f3 hr (by rfl) T.gc0 T.b3)) (b_one (s_ret (e_call L.f11 (hr.mono (Nat.le_succ _)) (by rfl) T.g11 T.F11.kp T.b11 (a_cons (e_meth (ci := 0) T.ck (e_var 3) T.me9 (by decide +kernel) L.f9 (hr.mono (Nat.le_succ _)) T.b9 (a_cons (e_meth (ci := 2) T.ck (e_var 0) T.me28 (by decide +kernel) L.f28 (hr.mono (Nat.le_succ _)) T.b28 (a_cons (e_var 1) (a_cons (e_var 2) (a_cons (e_var 3) (a_nil))))) (a_nil))) (a_nil)))))
theorem ok30 (T : Kt P w K mg c fa cc fd) (L : Lv P w K mg base c fa cc fd call k) : FnOk P w K mg base CX0 (k + 2) (fa 30) (fd 30) ["self", "given", "place"] (spR (gB P w K c) (runB 4 3 (b_30 call))) := fn_ok T.F30 sc30 fun cdv A outer s H E hr => B30 T L hr
theorem B31 {cdv : Value} {A : Around} {outer : List Env} {s : Shared} {H : Hp} {E : XK} (T : Kt P w K mg c fa cc fd) (L : Lv P w K mg base c fa cc fd call k) (hr : Room (k + 1) (A.deeper (envOfC "decide_from" (defScope s31) s.heap.objs.size (fa 31) cdv))) :
    EB (cxOf CX0 P w K mg base n31 "decide_from" (defScope s31) (fa 31) cdv A outer s H E).nox c (defBody s31) (b_31 call) := b_seq (s_set (i := 3) sc31.nd rfl (by first | exact Or.inl rfl | exact Or.inr rfl) (e_make T.mk2 L.f21 hr (by rfl) T.gc2 T.b21 (a_cons (e_op op_addA addA_ok (e_var 0) (e_tup (a_cons (e_var 1) (a_nil)))) (a_cons (e_var 2) (a_nil))))) (b_seq (s_set (i := 4) sc31.nd rfl (by first | exact Or.inl rfl | exact Or.inr rfl) (e_tof (by rfl) T.m_tuple (a_cons (e_srtNo hr (by rfl) T.m_sorted rfl sc31.nd (e_var 0) (blkOk_by (own := [("other", 5)]) (N := n31) (sc := defScope s31) (by decide +kernel))) (a_nil)))) (b_seq (s_set (i := 6) sc31.nd rfl (by first | exact Or.inl rfl | exact Or.inr rfl) (e_ixA hr.units (e_fld T.ck 1 (e_var 3)) (e_var 1))) (b_seq (s_if (b_cmp (op_inA hr.units) inA_ok (e_var 6) (e_meth (ci := 2) T.ck (e_var 3) T.me26 (by decide +kernel) L.f26 (hr.mono (Nat.le_succ _)) T.b26 (a_cons (e_var 4) (a_nil))) rfl) (b_one (s_ret (e_tup (a_cons (e_str [112, 114, 111, 111, 102]) (a_cons (e_methF (ci := 2) 2 T.ck (e_var 3) T.me30 L.f30 (hr.mono (Nat.le_succ _)) T.b30 (a_cons (e_var 4) (a_cons (e_var 6) (a_nil)))) (a_nil)))))) (b_nil)) (b_one (s_ret (e_tup (a_cons (e_str [99, 111, 117, 110, 116, 101, 114]) (a_cons (e_no _) (a_nil)))))))))
theorem ok31 (T : Kt P w K mg c fa cc fd) (L : Lv P w K mg base c fa cc fd call k) : FnOk P w K mg base CX0 (k + 2) (fa 31) (fd 31) ["hypotheses", "formula", "strength"] (spR (gB P w K c) (runB 7 3 (b_31 call))) := fn_ok T.F31 sc31 fun cdv A outer s H E hr => B31 T L hr
theorem B32 {cdv : Value} {A : Around} {outer : List Env} {s : Shared} {H : Hp} {E : XK} (T : Kt P w K mg c fa cc fd) (L : Lv P w K mg base c fa cc fd call k) (hr : Room (k + 1) (A.deeper (envOfC "decide" (defScope s32) s.heap.objs.size (fa 32) cdv))) :
    EB (cxOf CX0 P w K mg base n32 "decide" (defScope s32) (fa 32) cdv A outer s H E).nox c (defBody s32) (b_32 call) := b_one (s_ret (e_call L.f31 (hr.mono (Nat.le_succ _)) (by rfl) T.g31 T.F31.kp T.b31 (a_cons (e_tup (a_nil)) (a_cons (e_var 0) (a_cons (e_var 1) (a_nil))))))
theorem ok32 (T : Kt P w K mg c fa cc fd) (L : Lv P w K mg base c fa cc fd call k) : FnOk P w K mg base CX0 (k + 2) (fa 32) (fd 32) ["formula", "strength"] (spR (gB P w K c) (runB 2 2 (b_32 call))) := fn_ok T.F32 sc32 fun cdv A outer s H E hr => B32 T L hr
theorem B33 {cdv : Value} {A : Around} {outer : List Env} {s : Shared} {H : Hp} {E : XK} (T : Kt P w K mg c fa cc fd) (L : Lv P w K mg base c fa cc fd call k) (hr : Room (k + 1) (A.deeper (envOfC "why_apart" (defScope s33) s.heap.objs.size (fa 33) cdv))) :
    EB (cxOf CX0 P w K mg base n33 "why_apart" (defScope s33) (fa 33) cdv A outer s H E).nox c (defBody s33) (b_33 call) := b_one (s_ret (e_if (b_intab T.tAp (by rfl) (e_var 0)) (e_tab T.tAp (by rfl) (e_var 0)) (e_ixA hr.units (e_call L.f32 (hr.mono (Nat.le_succ _)) (by rfl) T.g32 T.F32.kp T.b32 (a_cons (e_call L.f2 (hr.mono (Nat.le_succ _)) (by rfl) T.ga_axiom_formulas T.F2.kp T.b2 (a_cons (e_var 0) (a_nil))) (a_cons (e_str [112, 111, 115, 105, 116, 105, 118, 101]) (a_nil)))) (e_int))))
theorem ok33 (T : Kt P w K mg c fa cc fd) (L : Lv P w K mg base c fa cc fd call k) : FnOk P w K mg base CX0 (k + 2) (fa 33) (fd 33) ["k"] (spR (gB P w K c) (runB 1 1 (b_33 call))) := fn_ok T.F33 sc33 fun cdv A outer s H E hr => B33 T L hr
theorem B34 {cdv : Value} {A : Around} {outer : List Env} {s : Shared} {H : Hp} {E : XK} (T : Kt P w K mg c fa cc fd) (L : Lv P w K mg base c fa cc fd call k) (hr : Room (k + 1) (A.deeper (envOfC "_law_matches" (defScope s34) s.heap.objs.size (fa 34) cdv))) :
    EB (cxOf CX0 P w K mg base n34 "_law_matches" (defScope s34) (fa 34) cdv A outer s H E).nox c (defBody s34) (b_34 call) := b_seq (s_if (b_cmp (op_eqD hr.units) eq_ok (e_ixA hr.units (e_var 0) (e_int)) (e_str [108, 101, 116, 116, 101, 114]) rfl) (b_seq (s_if (b_cmp (op_notInA hr.units) notInA_ok (e_ixA hr.units (e_var 0) (e_int)) (e_var 2) rfl) (b_one (s_put hr.units (e_var 2) (e_ixA hr.units (e_var 0) (e_int)) (e_var 1))) (b_nil)) (b_one (s_ret (e_cmp (op_eqD hr.units) eq_ok (e_ixA hr.units (e_var 2) (e_ixA hr.units (e_var 0) (e_int))) (e_var 1) rfl)))) (b_nil)) (b_seq (s_if (b_cmp (op_neD hr.units) ne_ok (e_ixA hr.units (e_var 0) (e_int)) (e_ixA hr.units (e_var 1) (e_int)) rfl) (b_one (s_ret (e_bl))) (b_nil)) (b_seq (s_for PassesOwn.never rfl (i_r2 (by rfl) T.m_range (a_cons (e_int) (a_cons (e_len (by rfl) T.m_len (a_cons (e_var 0) (a_nil))) (a_nil)))) (g_nm (i := 3) sc34.nd rfl (by first | exact Or.inl rfl | exact Or.inr rfl)) (b_one (s_if (b_not (b_val (e_call L.f34 (hr.mono (Nat.le_succ _)) (by rfl) T.g34 T.F34.kp T.b34 (a_cons (e_ixA hr.units (e_var 0) (e_var 3)) (a_cons (e_ixA hr.units (e_var 1) (e_var 3)) (a_cons (e_var 2) (a_nil))))))) (b_one (s_ret (e_bl))) (b_nil)))) (b_one (s_ret (e_bl)))))
theorem ok34 (T : Kt P w K mg c fa cc fd) (L : Lv P w K mg base c fa cc fd call k) : FnOk P w K mg base CX0 (k + 2) (fa 34) (fd 34) ["_law_pattern", "_law_formula", "_law_found"] (spR (gB P w K c) (runB 4 3 (b_34 call))) := fn_ok T.F34 sc34 fun cdv A outer s H E hr => B34 T L hr
theorem B35 {cdv : Value} {A : Around} {outer : List Env} {s : Shared} {H : Hp} {E : XK} (T : Kt P w K mg c fa cc fd) (L : Lv P w K mg base c fa cc fd call k) (hr : Room (k + 1) (A.deeper (envOfC "_law_if" (defScope s35) s.heap.objs.size (fa 35) cdv))) :
    EB (cxOf CX0 P w K mg base n35 "_law_if" (defScope s35) (fa 35) cdv A outer s H E).nox c (defBody s35) (b_35 call) := b_seq (s_set (i := 1) sc35.nd rfl (by first | exact Or.inl rfl | exact Or.inr rfl) (e_ixA hr.units (e_var 0) (e_op op_sub int_ok (e_len (by rfl) T.m_len (a_cons (e_var 0) (a_nil))) (e_int)))) (b_seq (s_for PassesOwn.never rfl (i_r2 (by rfl) T.m_range (a_cons (e_int) (a_cons (e_len (by rfl) T.m_len (a_cons (e_var 0) (a_nil))) (a_nil)))) (g_nm (i := 2) sc35.nd rfl (by first | exact Or.inl rfl | exact Or.inr rfl)) (b_one (s_set (i := 1) sc35.nd rfl (by first | exact Or.inl rfl | exact Or.inr rfl) (e_tup (a_cons (e_str [105, 102]) (a_cons (e_ixA hr.units (e_var 0) (e_op op_sub int_ok (e_op op_sub int_ok (e_len (by rfl) T.m_len (a_cons (e_var 0) (a_nil))) (e_int)) (e_var 2))) (a_cons (e_var 1) (a_nil)))))))) (b_one (s_ret (e_var 1))))
theorem ok35 (T : Kt P w K mg c fa cc fd) (L : Lv P w K mg base c fa cc fd call k) : FnOk P w K mg base CX0 (k + 2) (fa 35) (fd 35) ["_law_rows"] (spR (gB P w K c) (runB 3 1 (b_35 call))) := fn_ok T.F35 sc35 fun cdv A outer s H E hr => B35 T L hr
theorem B36 {cdv : Value} {A : Around} {outer : List Env} {s : Shared} {H : Hp} {E : XK} (T : Kt P w K mg c fa cc fd) (L : Lv P w K mg base c fa cc fd call k) (hr : Room (k + 1) (A.deeper (envOfC "_law_axiom" (defScope s36) s.heap.objs.size (fa 36) cdv))) :
    EB (cxOf CX0 P w K mg base n36 "_law_axiom" (defScope s36) (fa 36) cdv A outer s H E).nox c (defBody s36) (b_36 call) := b_seq (s_set (i := 1) sc36.nd rfl (by first | exact Or.inl rfl | exact Or.inr rfl) (e_tup (a_cons (e_str [108, 101, 116, 116, 101, 114]) (a_cons (e_str [97]) (a_nil))))) (b_seq (s_set (i := 2) sc36.nd rfl (by first | exact Or.inl rfl | exact Or.inr rfl) (e_tup (a_cons (e_str [108, 101, 116, 116, 101, 114]) (a_cons (e_str [98]) (a_nil))))) (b_seq (s_set (i := 3) sc36.nd rfl (by first | exact Or.inl rfl | exact Or.inr rfl) (e_tup (a_cons (e_str [108, 101, 116, 116, 101, 114]) (a_cons (e_str [99]) (a_nil))))) (b_seq (s_set (i := 4) sc36.nd rfl (by first | exact Or.inl rfl | exact Or.inr rfl) (e_tup (a_cons (e_str [108, 101, 116, 116, 101, 114]) (a_cons (e_str [100]) (a_nil))))) (b_seq (s_set (i := 5) sc36.nd rfl (by first | exact Or.inl rfl | exact Or.inr rfl) (e_lst (a_cons (e_call L.f35 (hr.mono (Nat.le_succ _)) (by rfl) T.g35 T.F35.kp T.b35 (a_cons (e_lst (a_cons (e_var 1) (a_cons (e_var 2) (a_cons (e_var 1) (a_nil))))) (a_nil))) (a_cons (e_call L.f35 (hr.mono (Nat.le_succ _)) (by rfl) T.g35 T.F35.kp T.b35 (a_cons (e_lst (a_cons (e_call L.f35 (hr.mono (Nat.le_succ _)) (by rfl) T.g35 T.F35.kp T.b35 (a_cons (e_lst (a_cons (e_var 3) (a_cons (e_var 2) (a_cons (e_var 1) (a_nil))))) (a_nil))) (a_cons (e_call L.f35 (hr.mono (Nat.le_succ _)) (by rfl) T.g35 T.F35.kp T.b35 (a_cons (e_lst (a_cons (e_var 3) (a_cons (e_var 2) (a_nil)))) (a_nil))) (a_cons (e_var 3) (a_cons (e_var 1) (a_nil)))))) (a_nil))) (a_nil))))) (b_seq (s_expr (e_app (e_var 5) (a_cons (e_call L.f35 (hr.mono (Nat.le_succ _)) (by rfl) T.g35 T.F35.kp T.b35 (a_cons (e_lst (a_cons (e_call L.f35 (hr.mono (Nat.le_succ _)) (by rfl) T.g35 T.F35.kp T.b35 (a_cons (e_lst (a_cons (e_var 4) (a_cons (e_var 2) (a_cons (e_var 1) (a_nil))))) (a_nil))) (a_cons (e_var 2) (a_cons (e_var 4) (a_cons (e_var 1) (a_nil)))))) (a_nil))) (a_nil)))) (b_seq (s_expr (e_app (e_var 5) (a_cons (e_call L.f35 (hr.mono (Nat.le_succ _)) (by rfl) T.g35 T.F35.kp T.b35 (a_cons (e_lst (a_cons (e_call L.f35 (hr.mono (Nat.le_succ _)) (by rfl) T.g35 T.F35.kp T.b35 (a_cons (e_lst (a_cons (e_var 2) (a_cons (e_var 1) (a_nil)))) (a_nil))) (a_cons (e_tup (a_cons (e_str [110, 111, 116]) (a_cons (e_var 1) (a_nil)))) (a_cons (e_tup (a_cons (e_str [110, 111, 116]) (a_cons (e_var 2) (a_nil)))) (a_nil))))) (a_nil))) (a_nil)))) (b_one (s_ret (e_ixA hr.units (e_op op_addA addA_ok (e_var 5) (e_lst (a_cons (e_call L.f35 (hr.mono (Nat.le_succ _)) (by rfl) T.g35 T.F35.kp T.b35 (a_cons (e_lst (a_cons (e_tup (a_cons (e_str [110, 111, 116]) (a_cons (e_tup (a_cons (e_str [110, 111, 116]) (a_cons (e_var 1) (a_nil)))) (a_nil)))) (a_cons (e_var 1) (a_nil)))) (a_nil))) (a_cons (e_call L.f35 (hr.mono (Nat.le_succ _)) (by rfl) T.g35 T.F35.kp T.b35 (a_cons (e_lst (a_cons (e_var 1) (a_cons (e_tup (a_cons (e_str [110, 111, 116]) (a_cons (e_tup (a_cons (e_str [110, 111, 116]) (a_cons (e_var 1) (a_nil)))) (a_nil)))) (a_nil)))) (a_nil))) (a_nil))))) (e_op op_sub int_ok (e_var 0) (e_int)))))))))))
theorem ok36 (T : Kt P w K mg c fa cc fd) (L : Lv P w K mg base c fa cc fd call k) : FnOk P w K mg base CX0 (k + 2) (fa 36) (fd 36) ["_law_k"] (spR (gB P w K c) (runB 6 1 (b_36 call))) := fn_ok T.F36 sc36 fun cdv A outer s H E hr => B36 T L hr
theorem B37 {cdv : Value} {A : Around} {outer : List Env} {s : Shared} {H : Hp} {E : XK} (T : Kt P w K mg c fa cc fd) (L : Lv P w K mg base c fa cc fd call k) (hr : Room (k + 1) (A.deeper (envOfC "_law_line_fault" (defScope s37) s.heap.objs.size (fa 37) cdv))) :
    EB (cxOf CX0 P w K mg base n37 "_law_line_fault" (defScope s37) (fa 37) cdv A outer s H E).nox c (defBody s37) (b_37 call) := b_seq (s_set (i := 2) sc37.nd rfl (by first | exact Or.inl rfl | exact Or.inr rfl) (e_ixA hr.units (e_ixA hr.units (e_var 0) (e_var 1)) (e_int))) (b_seq (s_set (i := 3) sc37.nd rfl (by first | exact Or.inl rfl | exact Or.inr rfl) (e_ixA hr.units (e_ixA hr.units (e_var 0) (e_var 1)) (e_int))) (b_seq (s_if (b_cmp (op_eqD hr.units) eq_ok (e_ixA hr.units (e_var 3) (e_int)) (e_str [97, 120, 105, 111, 109]) rfl) (b_seq (s_if (b_w (w_or (b_cmp (op_lt) cmp_ok (e_ixA hr.units (e_var 3) (e_int)) (e_int) rfl) (w_or1 (b_cmp (op_gt) cmp_ok (e_ixA hr.units (e_var 3) (e_int)) (e_int) rfl)))) (b_one (s_ret (e_str [117, 110, 107, 110, 111, 119, 110, 32, 97, 120, 105, 111, 109]))) (b_nil)) (b_one (s_if (b_not (b_val (e_call L.f34 (hr.mono (Nat.le_succ _)) (by rfl) T.g34 T.F34.kp T.b34 (a_cons (e_call L.f36 (hr.mono (Nat.le_succ _)) (by rfl) T.g36 T.F36.kp T.b36 (a_cons (e_ixA hr.units (e_var 3) (e_int)) (a_nil))) (a_cons (e_var 2) (a_cons (e_newK) (a_nil))))))) (b_one (s_ret (e_str [110, 111, 32, 105, 110, 115, 116, 97, 110, 99, 101]))) (b_nil)))) (b_nil)) (b_seq (s_if (b_cmp (op_eqD hr.units) eq_ok (e_ixA hr.units (e_var 3) (e_int)) (e_str [100, 101, 116, 97, 99, 104]) rfl) (b_seq (s_if (b_w (w_or (b_not (b_ch (op_le) cmp_ok (op_lt) cmp_ok (e_int) (e_ixA hr.units (e_var 3) (e_int)) (e_var 1))) (w_or1 (b_not (b_ch (op_le) cmp_ok (op_lt) cmp_ok (e_int) (e_ixA hr.units (e_var 3) (e_int)) (e_var 1)))))) (b_one (s_ret (e_str [108, 105, 110, 101, 32, 110, 111, 116, 32, 98, 101, 102, 111, 114, 101]))) (b_nil)) (b_seq (s_set (i := 4) sc37.nd rfl (by first | exact Or.inl rfl | exact Or.inr rfl) (e_ixA hr.units (e_ixA hr.units (e_var 0) (e_ixA hr.units (e_var 3) (e_int))) (e_int))) (b_seq (s_if (b_cmp (op_neD hr.units) ne_ok (e_ixA hr.units (e_var 4) (e_int)) (e_str [105, 102]) rfl) (b_one (s_ret (e_str [110, 111, 32, 99, 111, 110, 100, 105, 116, 105, 111, 110, 97, 108]))) (b_nil)) (b_seq (s_if (b_cmp (op_neD hr.units) ne_ok (e_ixA hr.units (e_var 4) (e_int)) (e_ixA hr.units (e_ixA hr.units (e_var 0) (e_ixA hr.units (e_var 3) (e_int))) (e_int)) rfl) (b_one (s_ret (e_str [111, 116, 104, 101, 114, 32, 99, 111, 110, 100, 105, 116, 105, 111, 110]))) (b_nil)) (b_one (s_if (b_cmp (op_neD hr.units) ne_ok (e_ixA hr.units (e_var 4) (e_int)) (e_var 2) rfl) (b_one (s_ret (e_str [111, 116, 104, 101, 114, 32, 99, 111, 110, 115, 101, 113, 117, 101, 110, 99, 101]))) (b_nil))))))) (b_nil)) (b_one (s_ret (e_non))))))
theorem ok37 (T : Kt P w K mg c fa cc fd) (L : Lv P w K mg base c fa cc fd call k) : FnOk P w K mg base CX0 (k + 2) (fa 37) (fd 37) ["_law_proof", "_law_k"] (spR (gB P w K c) (runB 5 2 (b_37 call))) := fn_ok T.F37 sc37 fun cdv A outer s H E hr => B37 T L hr
theorem B38 {cdv : Value} {A : Around} {outer : List Env} {s : Shared} {H : Hp} {E : XK} (T : Kt P w K mg c fa cc fd) (L : Lv P w K mg base c fa cc fd call k) (hr : Room (k + 1) (A.deeper (envOfC "_law_fault" (defScope s38) s.heap.objs.size (fa 38) cdv))) :
    EB (cxOf CX0 P w K mg base n38 "_law_fault" (defScope s38) (fa 38) cdv A outer s H E).nox c (defBody s38) (b_38 call) := b_seq (s_if (b_cmp (op_eqD hr.units) eq_ok (e_len (by rfl) T.m_len (a_cons (e_var 0) (a_nil))) (e_int) rfl) (b_one (s_ret (e_tup (a_cons (e_int) (a_cons (e_str [101, 109, 112, 116, 121]) (a_nil)))))) (b_nil)) (b_seq (s_for PassesOwn.never rfl (i_r1 (by rfl) T.m_range (a_cons (e_len (by rfl) T.m_len (a_cons (e_var 0) (a_nil))) (a_nil))) (g_nm (i := 1) sc38.nd rfl (by first | exact Or.inl rfl | exact Or.inr rfl)) (b_seq (s_set (i := 2) sc38.nd rfl (by first | exact Or.inl rfl | exact Or.inr rfl) (e_call L.f37 (hr.mono (Nat.le_succ _)) (by rfl) T.g37 T.F37.kp T.b37 (a_cons (e_var 0) (a_cons (e_var 1) (a_nil))))) (b_one (s_if (b_cmp (op_notN) notN_ok (e_var 2) (e_non) rfl) (b_one (s_ret (e_tup (a_cons (e_var 1) (a_cons (e_var 2) (a_nil)))))) (b_nil))))) (b_one (s_ret (e_non))))
theorem ok38 (T : Kt P w K mg c fa cc fd) (L : Lv P w K mg base c fa cc fd call k) : FnOk P w K mg base CX0 (k + 2) (fa 38) (fd 38) ["_law_proof"] (spR (gB P w K c) (runB 3 1 (b_38 call))) := fn_ok T.F38 sc38 fun cdv A outer s H E hr => B38 T L hr
theorem B39 {cdv : Value} {A : Around} {outer : List Env} {s : Shared} {H : Hp} {E : XK} (T : Kt P w K mg c fa cc fd) (L : Lv P w K mg base c fa cc fd call k) (hr : Room (k + 1) (A.deeper (envOfC "_law_hypotheses" (defScope s39) s.heap.objs.size (fa 39) cdv))) :
    EB (cxOf CX0 P w K mg base n39 "_law_hypotheses" (defScope s39) (fa 39) cdv A outer s H E).nox c (defBody s39) (b_39 call) := b_seq (s_set (i := 1) sc39.nd rfl (by first | exact Or.inl rfl | exact Or.inr rfl) (e_lst (a_nil))) (b_seq (s_for PassesOwn.never rfl (i_tup (e_var 0)) (g_nm (i := 2) sc39.nd rfl (by first | exact Or.inl rfl | exact Or.inr rfl)) (b_one (s_if (b_w (w_and (b_cmp (op_eqD hr.units) eq_ok (e_ixA hr.units (e_ixA hr.units (e_var 2) (e_int)) (e_int)) (e_str [104, 121, 112, 111, 116, 104, 101, 115, 105, 115]) rfl) (w_and1 (b_cmp (op_notInA hr.units) notInA_ok (e_ixA hr.units (e_var 2) (e_int)) (e_var 1) rfl)))) (b_one (s_expr (e_app (e_var 1) (a_cons (e_ixA hr.units (e_var 2) (e_int)) (a_nil))))) (b_nil)))) (b_one (s_ret (e_var 1))))
theorem ok39 (T : Kt P w K mg c fa cc fd) (L : Lv P w K mg base c fa cc fd call k) : FnOk P w K mg base CX0 (k + 2) (fa 39) (fd 39) ["_law_proof"] (spR (gB P w K c) (runB 3 1 (b_39 call))) := fn_ok T.F39 sc39 fun cdv A outer s H E hr => B39 T L hr
theorem B40 {cdv : Value} {A : Around} {outer : List Env} {s : Shared} {H : Hp} {E : XK} (T : Kt P w K mg c fa cc fd) (L : Lv P w K mg base c fa cc fd call k) (hr : Room (k + 1) (A.deeper (envOfC "_law_plain_why" (defScope s40) s.heap.objs.size (fa 40) cdv))) :
    EB (cxOf CX0 P w K mg base n40 "_law_plain_why" (defScope s40) (fa 40) cdv A outer s H E).nox c (defBody s40) (b_40 call) := b_seq (s_if (b_cmp (op_eqD hr.units) eq_ok (e_var 0) (e_tup (a_cons (e_str [104, 121, 112, 111, 116, 104, 101, 115, 105, 115]) (a_nil))) rfl) (b_one (s_ret (e_bl))) (b_nil)) (b_seq (s_if (b_w (w_or (b_cmp (op_eqD hr.units) eq_ok (e_len (by rfl) T.m_len (a_cons (e_var 0) (a_nil))) (e_int) rfl) (w_or (b_cmp (op_notInA hr.units) notInA_ok (e_ixA hr.units (e_var 0) (e_int)) (e_lst (a_cons (e_str [97, 120, 105, 111, 109]) (a_cons (e_str [100, 101, 116, 97, 99, 104]) (a_nil)))) rfl) (w_or1 (b_cmp (op_neD hr.units) ne_ok (e_len (by rfl) T.m_len (a_cons (e_var 0) (a_nil))) (e_op op_addA addA_ok (e_int) (e_i1 (by rfl) T.m_int (a_cons (e_cmp (op_eqD hr.units) eq_ok (e_ixA hr.units (e_var 0) (e_int)) (e_str [100, 101, 116, 97, 99, 104]) rfl) (a_nil)))) rfl))))) (b_one (s_ret (e_bl))) (b_nil)) (b_one (s_ret (e_cmp (op_eqD hr.units) eq_ok (e_len (by rfl) T.m_len (a_cons (e_lc ([("_law_number", 1)]) rfl sc40.nd (i_tup (e_tl (e_var 0))) (blkOk_by (own := [("_law_number", 1)]) (N := n40) (sc := defScope s40) (by decide +kernel)) (fun _ _ _ _ _ => v_nm (i := 1) (by decide) sc40.nd rfl (Or.inl rfl)) (fun _ _ _ _ _ => ts_one (b_w (w_or (b_not (b_val (e_isi 1 (by decide) PyProof.Rows.boot_int (by rfl) T.m_isinstance (by rfl) T.m_int (e_var 1)))) (w_or1 (b_val (e_isi 2 (by decide) PyProof.Rows.boot_bool (by rfl) T.m_isinstance (by rfl) T.m_bool (e_var 1))))))) (fun _ _ _ _ _ => e_var 1)) (a_nil))) (e_int) rfl))))
theorem ok40 (T : Kt P w K mg c fa cc fd) (L : Lv P w K mg base c fa cc fd call k) : FnOk P w K mg base CX0 (k + 2) (fa 40) (fd 40) ["_law_why"] (spR (gB P w K c) (runB 2 1 (b_40 call))) := fn_ok T.F40 sc40 fun cdv A outer s H E hr => B40 T L hr
theorem B41 {cdv : Value} {A : Around} {outer : List Env} {s : Shared} {H : Hp} {E : XK} (T : Kt P w K mg c fa cc fd) (L : Lv P w K mg base c fa cc fd call k) (hr : Room (k + 1) (A.deeper (envOfC "_law_right" (defScope s41) s.heap.objs.size (fa 41) cdv))) :
    EB (cxOf CX0 P w K mg base n41 "_law_right" (defScope s41) (fa 41) cdv A outer s H E).nox c (defBody s41) (b_41 call) := b_seq (s_if (b_w (w_or (b_not (b_val (e_isi 0 (by decide) PyProof.Rows.boot_tuple (by rfl) T.m_isinstance (by rfl) T.m_tuple (e_var 0)))) (w_or1 (b_cmp (op_eqD hr.units) eq_ok (e_len (by rfl) T.m_len (a_cons (e_var 0) (a_nil))) (e_int) rfl)))) (b_one (s_ret (e_bl))) (b_nil)) (b_seq (s_for PassesOwn.never rfl (i_tup (e_var 0)) (g_nm (i := 4) sc41.nd rfl (by first | exact Or.inl rfl | exact Or.inr rfl)) (b_seq (s_if (b_w (w_or (b_not (b_val (e_isi 0 (by decide) PyProof.Rows.boot_tuple (by rfl) T.m_isinstance (by rfl) T.m_tuple (e_var 4)))) (w_or (b_cmp (op_neD hr.units) ne_ok (e_len (by rfl) T.m_len (a_cons (e_var 4) (a_nil))) (e_int) rfl) (w_or (b_not (b_val (e_isi 0 (by decide) PyProof.Rows.boot_tuple (by rfl) T.m_isinstance (by rfl) T.m_tuple (e_ixA hr.units (e_var 4) (e_int))))) (w_or1 (b_not (b_val (e_call L.f40 (hr.mono (Nat.le_succ _)) (by rfl) T.g40 T.F40.kp T.b40 (a_cons (e_ixA hr.units (e_var 4) (e_int)) (a_nil)))))))))) (b_one (s_ret (e_bl))) (b_nil)) (b_one (s_if (b_w (w_and (b_cmp (op_eqD hr.units) eq_ok (e_ixA hr.units (e_ixA hr.units (e_var 4) (e_int)) (e_int)) (e_str [97, 120, 105, 111, 109]) rfl) (w_and1 (b_cmp (op_notInA hr.units) notInA_ok (e_ixA hr.units (e_ixA hr.units (e_var 4) (e_int)) (e_int)) (e_var 3) rfl)))) (b_one (s_ret (e_bl))) (b_nil))))) (b_seq (s_if (b_w (w_or (b_cmp (op_notN) notN_ok (e_call L.f38 (hr.mono (Nat.le_succ _)) (by rfl) T.g38 T.F38.kp T.b38 (a_cons (e_var 0) (a_nil))) (e_non) rfl) (w_or1 (b_cmp (op_neD hr.units) ne_ok (e_ixA hr.units (e_ixA hr.units (e_var 0) (e_op op_sub int_ok (e_len (by rfl) T.m_len (a_cons (e_var 0) (a_nil))) (e_int))) (e_int)) (e_var 2) rfl)))) (b_one (s_ret (e_bl))) (b_nil)) (b_one (s_ret (e_cmp (op_eqD hr.units) eq_ok (e_len (by rfl) T.m_len (a_cons (e_lc ([("_law_row", 5)]) rfl sc41.nd (i_lst (e_call L.f39 (hr.mono (Nat.le_succ _)) (by rfl) T.g39 T.F39.kp T.b39 (a_cons (e_var 0) (a_nil)))) (blkOk_by (own := [("_law_row", 5)]) (N := n41) (sc := defScope s41) (by decide +kernel)) (fun _ _ _ _ _ => v_nm (i := 5) (by decide) sc41.nd rfl (Or.inl rfl)) (fun _ _ _ _ _ => ts_one (b_cmp (op_notInA hr.units) notInA_ok (e_var 5) (e_var 1) rfl)) (fun _ _ _ _ _ => e_var 5)) (a_nil))) (e_int) rfl)))))
theorem ok41 (T : Kt P w K mg c fa cc fd) (L : Lv P w K mg base c fa cc fd call k) : FnOk P w K mg base CX0 (k + 2) (fa 41) (fd 41) ["_law_proof", "_law_given", "_law_formula", "_law_axioms"] (spR (gB P w K c) (runB 6 4 (b_41 call))) := fn_ok T.F41 sc41 fun cdv A outer s H E hr => B41 T L hr
theorem B42 {cdv : Value} {A : Around} {outer : List Env} {s : Shared} {H : Hp} {E : XK} (T : Kt P w K mg c fa cc fd) (L : Lv P w K mg base c fa cc fd call k) (hr : Room (k + 1) (A.deeper (envOfC "_law_rising" (defScope s42) s.heap.objs.size (fa 42) cdv))) :
    EB (cxOf CX0 P w K mg base n42 "_law_rising" (defScope s42) (fa 42) cdv A outer s H E).nox c (defBody s42) (b_42 call) := b_seq (s_if (b_not (b_val (e_isi 0 (by decide) PyProof.Rows.boot_tuple (by rfl) T.m_isinstance (by rfl) T.m_tuple (e_var 0)))) (b_one (s_ret (e_bl))) (b_nil)) (b_seq (s_for PassesOwn.never rfl (i_r1 (by rfl) T.m_range (a_cons (e_len (by rfl) T.m_len (a_cons (e_var 0) (a_nil))) (a_nil))) (g_nm (i := 2) sc42.nd rfl (by first | exact Or.inl rfl | exact Or.inr rfl)) (b_seq (s_if (b_w (w_or (b_not (b_val (e_isi 1 (by decide) PyProof.Rows.boot_int (by rfl) T.m_isinstance (by rfl) T.m_int (e_ixA hr.units (e_var 0) (e_var 2))))) (w_or (b_val (e_isi 2 (by decide) PyProof.Rows.boot_bool (by rfl) T.m_isinstance (by rfl) T.m_bool (e_ixA hr.units (e_var 0) (e_var 2)))) (w_or1 (b_not (b_ch (op_le) cmp_ok (op_lt) cmp_ok (e_int) (e_ixA hr.units (e_var 0) (e_var 2)) (e_var 1))))))) (b_one (s_ret (e_bl))) (b_nil)) (b_one (s_if (b_w (w_and (b_cmp (op_gt) cmp_ok (e_var 2) (e_int) rfl) (w_and1 (b_cmp (op_le) cmp_ok (e_ixA hr.units (e_var 0) (e_var 2)) (e_ixA hr.units (e_var 0) (e_op op_sub int_ok (e_var 2) (e_int))) rfl)))) (b_one (s_ret (e_bl))) (b_nil))))) (b_one (s_ret (e_bl))))
theorem ok42 (T : Kt P w K mg c fa cc fd) (L : Lv P w K mg base c fa cc fd call k) : FnOk P w K mg base CX0 (k + 2) (fa 42) (fd 42) ["_law_row", "_law_many"] (spR (gB P w K c) (runB 3 2 (b_42 call))) := fn_ok T.F42 sc42 fun cdv A outer s H E hr => B42 T L hr
theorem B43 {cdv : Value} {A : Around} {outer : List Env} {s : Shared} {H : Hp} {E : XK} (T : Kt P w K mg c fa cc fd) (L : Lv P w K mg base c fa cc fd call k) (hr : Room (k + 1) (A.deeper (envOfC "_law_row_of_values" (defScope s43) s.heap.objs.size (fa 43) cdv))) :
    EB (cxOf CX0 P w K mg base n43 "_law_row_of_values" (defScope s43) (fa 43) cdv A outer s H E).nox c (defBody s43) (b_43 call) := b_seq (s_if (b_w (w_or (b_not (b_val (e_isi 0 (by decide) PyProof.Rows.boot_tuple (by rfl) T.m_isinstance (by rfl) T.m_tuple (e_var 0)))) (w_or1 (b_cmp (op_neD hr.units) ne_ok (e_len (by rfl) T.m_len (a_cons (e_var 0) (a_nil))) (e_var 1) rfl)))) (b_one (s_ret (e_bl))) (b_nil)) (b_seq (s_for PassesOwn.never rfl (i_tup (e_var 0)) (g_nm (i := 2) sc43.nd rfl (by first | exact Or.inl rfl | exact Or.inr rfl)) (b_one (s_if (b_w (w_or (b_not (b_val (e_isi 1 (by decide) PyProof.Rows.boot_int (by rfl) T.m_isinstance (by rfl) T.m_int (e_var 2)))) (w_or (b_val (e_isi 2 (by decide) PyProof.Rows.boot_bool (by rfl) T.m_isinstance (by rfl) T.m_bool (e_var 2))) (w_or1 (b_not (b_ch (op_le) cmp_ok (op_lt) cmp_ok (e_int) (e_var 2) (e_var 1))))))) (b_one (s_ret (e_bl))) (b_nil)))) (b_one (s_ret (e_bl))))
theorem ok43 (T : Kt P w K mg c fa cc fd) (L : Lv P w K mg base c fa cc fd call k) : FnOk P w K mg base CX0 (k + 2) (fa 43) (fd 43) ["_law_row", "_law_many"] (spR (gB P w K c) (runB 3 2 (b_43 call))) := fn_ok T.F43 sc43 fun cdv A outer s H E hr => B43 T L hr
theorem B44 {cdv : Value} {A : Around} {outer : List Env} {s : Shared} {H : Hp} {E : XK} (T : Kt P w K mg c fa cc fd) (L : Lv P w K mg base c fa cc fd call k) (hr : Room (k + 1) (A.deeper (envOfC "_law_is_table" (defScope s44) s.heap.objs.size (fa 44) cdv))) :
    EB (cxOf CX0 P w K mg base n44 "_law_is_table" (defScope s44) (fa 44) cdv A outer s H E).nox c (defBody s44) (b_44 call) := b_seq (s_if (b_w (w_or (b_not (b_val (e_isi 0 (by decide) PyProof.Rows.boot_tuple (by rfl) T.m_isinstance (by rfl) T.m_tuple (e_var 0)))) (w_or (b_cmp (op_neD hr.units) ne_ok (e_len (by rfl) T.m_len (a_cons (e_var 0) (a_nil))) (e_int) rfl) (w_or1 (b_cmp (op_neD hr.units) ne_ok (e_ixA hr.units (e_var 0) (e_int)) (e_str [116, 97, 98, 108, 101]) rfl))))) (b_one (s_ret (e_bl))) (b_nil)) (b_seq (s_set (i := 1) sc44.nd rfl (by first | exact Or.inl rfl | exact Or.inr rfl) (e_ixA hr.units (e_var 0) (e_int))) (b_seq (s_if (b_w (w_or (b_not (b_val (e_isi 1 (by decide) PyProof.Rows.boot_int (by rfl) T.m_isinstance (by rfl) T.m_int (e_var 1)))) (w_or (b_val (e_isi 2 (by decide) PyProof.Rows.boot_bool (by rfl) T.m_isinstance (by rfl) T.m_bool (e_var 1))) (w_or (b_not (b_ch (op_le) cmp_ok (op_le) cmp_ok (e_int) (e_var 1) (e_int))) (w_or1 (b_not (b_val (e_call L.f42 (hr.mono (Nat.le_succ _)) (by rfl) T.g42 T.F42.kp T.b42 (a_cons (e_ixA hr.units (e_var 0) (e_int)) (a_cons (e_var 1) (a_nil))))))))))) (b_one (s_ret (e_bl))) (b_nil)) (b_seq (s_if (b_w (w_or (b_not (b_val (e_call L.f43 (hr.mono (Nat.le_succ _)) (by rfl) T.g43 T.F43.kp T.b43 (a_cons (e_ixA hr.units (e_var 0) (e_int)) (a_cons (e_var 1) (a_nil)))))) (w_or (b_not (b_val (e_isi 0 (by decide) PyProof.Rows.boot_tuple (by rfl) T.m_isinstance (by rfl) T.m_tuple (e_ixA hr.units (e_var 0) (e_int))))) (w_or1 (b_cmp (op_neD hr.units) ne_ok (e_len (by rfl) T.m_len (a_cons (e_ixA hr.units (e_var 0) (e_int)) (a_nil))) (e_var 1) rfl))))) (b_one (s_ret (e_bl))) (b_nil)) (b_one (s_ret (e_cmp (op_eqD hr.units) eq_ok (e_len (by rfl) T.m_len (a_cons (e_lc ([("_law_row", 2)]) rfl sc44.nd (i_tup (e_ixA hr.units (e_var 0) (e_int))) (blkOk_by (own := [("_law_row", 2)]) (N := n44) (sc := defScope s44) (by decide +kernel)) (fun _ _ _ _ _ => v_nm (i := 2) (by decide) sc44.nd rfl (Or.inl rfl)) (fun _ _ _ _ _ => ts_one (b_not (b_val (e_call L.f43 (hr.mono (Nat.le_succ _)) (by rfl) T.g43 T.F43.kp T.b43 (a_cons (e_var 2) (a_cons (e_var 1) (a_nil))))))) (fun _ _ _ _ _ => e_var 2)) (a_nil))) (e_int) rfl))))))
theorem ok44 (T : Kt P w K mg c fa cc fd) (L : Lv P w K mg base c fa cc fd call k) : FnOk P w K mg base CX0 (k + 2) (fa 44) (fd 44) ["_law_table"] (spR (gB P w K c) (runB 3 1 (b_44 call))) := fn_ok T.F44 sc44 fun cdv A outer s H E hr => B44 T L hr
theorem B45 {cdv : Value} {A : Around} {outer : List Env} {s : Shared} {H : Hp} {E : XK} (T : Kt P w K mg c fa cc fd) (L : Lv P w K mg base c fa cc fd call k) (hr : Room (k + 1) (A.deeper (envOfC "_law_keeps_rule" (defScope s45) s.heap.objs.size (fa 45) cdv))) :
    EB (cxOf CX0 P w K mg base n45 "_law_keeps_rule" (defScope s45) (fa 45) cdv A outer s H E).nox c (defBody s45) (b_45 call) := b_seq (s_for PassesOwn.never rfl (i_r1 (by rfl) T.m_range (a_cons (e_ixA hr.units (e_var 0) (e_int)) (a_nil))) (g_nm (i := 1) sc45.nd rfl (by first | exact Or.inl rfl | exact Or.inr rfl)) (b_one (s_for PassesOwn.never rfl (i_r1 (by rfl) T.m_range (a_cons (e_ixA hr.units (e_var 0) (e_int)) (a_nil))) (g_nm (i := 2) sc45.nd rfl (by first | exact Or.inl rfl | exact Or.inr rfl)) (b_one (s_if (b_w (w_and (b_cmp (op_inA hr.units) inA_ok (e_var 1) (e_ixA hr.units (e_var 0) (e_int)) rfl) (w_and (b_cmp (op_inA hr.units) inA_ok (e_ixA hr.units (e_ixA hr.units (e_ixA hr.units (e_var 0) (e_int)) (e_var 1)) (e_var 2)) (e_ixA hr.units (e_var 0) (e_int)) rfl) (w_and1 (b_cmp (op_notInA hr.units) notInA_ok (e_var 2) (e_ixA hr.units (e_var 0) (e_int)) rfl))))) (b_one (s_ret (e_bl))) (b_nil)))))) (b_one (s_ret (e_bl)))
theorem ok45 (T : Kt P w K mg c fa cc fd) (L : Lv P w K mg base c fa cc fd call k) : FnOk P w K mg base CX0 (k + 2) (fa 45) (fd 45) ["_law_table"] (spR (gB P w K c) (runB 3 1 (b_45 call))) := fn_ok T.F45 sc45 fun cdv A outer s H E hr => B45 T L hr
theorem B46 {cdv : Value} {A : Around} {outer : List Env} {s : Shared} {H : Hp} {E : XK} (T : Kt P w K mg c fa cc fd) (L : Lv P w K mg base c fa cc fd call k) (hr : Room (k + 1) (A.deeper (envOfC "_law_ways" (defScope s46) s.heap.objs.size (fa 46) cdv))) :
    EB (cxOf CX0 P w K mg base n46 "_law_ways" (defScope s46) (fa 46) cdv A outer s H E).nox c (defBody s46) (b_46 call) := b_seq (s_set (i := 2) sc46.nd rfl (by first | exact Or.inl rfl | exact Or.inr rfl) (e_lst (a_cons (e_newK) (a_nil)))) (b_seq (s_for PassesOwn.never rfl (i_lst (e_var 0)) (g_nm (i := 3) sc46.nd rfl (by first | exact Or.inl rfl | exact Or.inr rfl)) (b_seq (s_set (i := 4) sc46.nd rfl (by first | exact Or.inl rfl | exact Or.inr rfl) (e_lst (a_nil))) (b_seq (s_for PassesOwn.never rfl (i_lst (e_var 2)) (g_nm (i := 5) sc46.nd rfl (by first | exact Or.inl rfl | exact Or.inr rfl)) (b_one (s_for PassesOwn.never rfl (i_r1 (by rfl) T.m_range (a_cons (e_var 1) (a_nil))) (g_nm (i := 6) sc46.nd rfl (by first | exact Or.inl rfl | exact Or.inr rfl)) (b_seq (s_set (i := 7) sc46.nd rfl (by first | exact Or.inl rfl | exact Or.inr rfl) (e_dic (by rfl) T.m_dict (a_cons (e_var 5) (a_nil)))) (b_seq (s_put hr.units (e_var 7) (e_var 3) (e_var 6)) (b_one (s_expr (e_app (e_var 4) (a_cons (e_var 7) (a_nil)))))))))) (b_one (s_set (i := 2) sc46.nd rfl (by first | exact Or.inl rfl | exact Or.inr rfl) (e_var 4)))))) (b_one (s_ret (e_var 2))))
theorem ok46 (T : Kt P w K mg c fa cc fd) (L : Lv P w K mg base c fa cc fd call k) : FnOk P w K mg base CX0 (k + 2) (fa 46) (fd 46) ["_law_names_here", "_law_many"] (spR (gB P w K c) (runB 8 2 (b_46 call))) := fn_ok T.F46 sc46 fun cdv A outer s H E hr => B46 T L hr
theorem B47 {cdv : Value} {A : Around} {outer : List Env} {s : Shared} {H : Hp} {E : XK} (T : Kt P w K mg c fa cc fd) (L : Lv P w K mg base c fa cc fd call k) (hr : Room (k + 1) (A.deeper (envOfC "_law_parts" (defScope s47) s.heap.objs.size (fa 47) cdv))) :
    EB (cxOf CX0 P w K mg base n47 "_law_parts" (defScope s47) (fa 47) cdv A outer s H E).nox c (defBody s47) (b_47 call) := b_seq (s_set (i := 1) sc47.nd rfl (by first | exact Or.inl rfl | exact Or.inr rfl) (e_lst (a_cons (e_var 0) (a_nil)))) (b_seq (s_for PassesOwn.never rfl (i_tup (e_tl (e_var 0))) (g_nm (i := 2) sc47.nd rfl (by first | exact Or.inl rfl | exact Or.inr rfl)) (b_one (s_if (b_cmp (op_neD hr.units) ne_ok (e_ixA hr.units (e_var 0) (e_int)) (e_str [108, 101, 116, 116, 101, 114]) rfl) (b_one (s_set (i := 1) sc47.nd rfl (by first | exact Or.inl rfl | exact Or.inr rfl) (e_op op_addA addA_ok (e_var 1) (e_call L.f47 (hr.mono (Nat.le_succ _)) (by rfl) T.g47 T.F47.kp T.b47 (a_cons (e_var 2) (a_nil)))))) (b_nil)))) (b_one (s_ret (e_var 1))))
theorem ok47 (T : Kt P w K mg c fa cc fd) (L : Lv P w K mg base c fa cc fd call k) : FnOk P w K mg base CX0 (k + 2) (fa 47) (fd 47) ["_law_formula"] (spR (gB P w K c) (runB 3 1 (b_47 call))) := fn_ok T.F47 sc47 fun cdv A outer s H E hr => B47 T L hr
theorem B48 {cdv : Value} {A : Around} {outer : List Env} {s : Shared} {H : Hp} {E : XK} (T : Kt P w K mg c fa cc fd) (L : Lv P w K mg base c fa cc fd call k) (hr : Room (k + 1) (A.deeper (envOfC "_law_names" (defScope s48) s.heap.objs.size (fa 48) cdv))) :
    EB (cxOf CX0 P w K mg base n48 "_law_names" (defScope s48) (fa 48) cdv A outer s H E).nox c (defBody s48) (b_48 call) := b_one (s_ret (e_srtSet hr (by rfl) T.m_sorted (by rfl) T.m_set (e_lc ([("_law_part", 1)]) rfl sc48.nd (i_lst (e_call L.f47 (hr.mono (Nat.le_succ _)) (by rfl) T.g47 T.F47.kp T.b47 (a_cons (e_var 0) (a_nil)))) (blkOk_by (own := [("_law_part", 1)]) (N := n48) (sc := defScope s48) (by decide +kernel)) (fun _ _ _ _ _ => v_nm (i := 1) (by decide) sc48.nd rfl (Or.inl rfl)) (fun _ _ _ _ _ => ts_one (b_cmp (op_eqD hr.units) eq_ok (e_ixA hr.units (e_var 1) (e_int)) (e_str [108, 101, 116, 116, 101, 114]) rfl)) (fun _ _ _ _ _ => e_ixA hr.units (e_var 1) (e_int)))))
theorem ok48 (T : Kt P w K mg c fa cc fd) (L : Lv P w K mg base c fa cc fd call k) : FnOk P w K mg base CX0 (k + 2) (fa 48) (fd 48) ["_law_formula"] (spR (gB P w K c) (runB 2 1 (b_48 call))) := fn_ok T.F48 sc48 fun cdv A outer s H E hr => B48 T L hr
theorem B49 {cdv : Value} {A : Around} {outer : List Env} {s : Shared} {H : Hp} {E : XK} (T : Kt P w K mg c fa cc fd) (L : Lv P w K mg base c fa cc fd call k) (hr : Room (k + 1) (A.deeper (envOfC "_law_value" (defScope s49) s.heap.objs.size (fa 49) cdv))) :
    EB (cxOf CX0 P w K mg base n49 "_law_value" (defScope s49) (fa 49) cdv A outer s H E).nox c (defBody s49) (b_49 call) := b_seq (s_if (b_cmp (op_eqD hr.units) eq_ok (e_ixA hr.units (e_var 1) (e_int)) (e_str [108, 101, 116, 116, 101, 114]) rfl) (b_one (s_ret (e_ixA hr.units (e_var 2) (e_ixA hr.units (e_var 1) (e_int))))) (b_nil)) (b_seq (s_if (b_cmp (op_eqD hr.units) eq_ok (e_ixA hr.units (e_var 1) (e_int)) (e_str [110, 111, 116]) rfl) (b_one (s_ret (e_ixA hr.units (e_ixA hr.units (e_var 0) (e_int)) (e_call L.f49 (hr.mono (Nat.le_succ _)) (by rfl) T.g49 T.F49.kp T.b49 (a_cons (e_var 0) (a_cons (e_ixA hr.units (e_var 1) (e_int)) (a_cons (e_var 2) (a_nil)))))))) (b_nil)) (b_one (s_ret (e_ixA hr.units (e_ixA hr.units (e_ixA hr.units (e_var 0) (e_int)) (e_call L.f49 (hr.mono (Nat.le_succ _)) (by rfl) T.g49 T.F49.kp T.b49 (a_cons (e_var 0) (a_cons (e_ixA hr.units (e_var 1) (e_int)) (a_cons (e_var 2) (a_nil)))))) (e_call L.f49 (hr.mono (Nat.le_succ _)) (by rfl) T.g49 T.F49.kp T.b49 (a_cons (e_var 0) (a_cons (e_ixA hr.units (e_var 1) (e_int)) (a_cons (e_var 2) (a_nil)))))))))
theorem ok49 (T : Kt P w K mg c fa cc fd) (L : Lv P w K mg base c fa cc fd call k) : FnOk P w K mg base CX0 (k + 2) (fa 49) (fd 49) ["_law_table", "_law_formula", "_law_values"] (spR (gB P w K c) (runB 3 3 (b_49 call))) := fn_ok T.F49 sc49 fun cdv A outer s H E hr => B49 T L hr
theorem B50 {cdv : Value} {A : Around} {outer : List Env} {s : Shared} {H : Hp} {E : XK} (T : Kt P w K mg c fa cc fd) (L : Lv P w K mg base c fa cc fd call k) (hr : Room (k + 1) (A.deeper (envOfC "_law_kept" (defScope s50) s.heap.objs.size (fa 50) cdv))) :
    EB (cxOf CX0 P w K mg base n50 "_law_kept" (defScope s50) (fa 50) cdv A outer s H E).nox c (defBody s50) (b_50 call) := b_seq (s_for PassesOwn.never rfl (i_lst (e_call L.f46 (hr.mono (Nat.le_succ _)) (by rfl) T.g46 T.F46.kp T.b46 (a_cons (e_call L.f48 (hr.mono (Nat.le_succ _)) (by rfl) T.g48 T.F48.kp T.b48 (a_cons (e_var 1) (a_nil))) (a_cons (e_ixA hr.units (e_var 0) (e_int)) (a_nil))))) (g_nm (i := 2) sc50.nd rfl (by first | exact Or.inl rfl | exact Or.inr rfl)) (b_one (s_if (b_cmp (op_notInA hr.units) notInA_ok (e_call L.f49 (hr.mono (Nat.le_succ _)) (by rfl) T.g49 T.F49.kp T.b49 (a_cons (e_var 0) (a_cons (e_var 1) (a_cons (e_var 2) (a_nil))))) (e_ixA hr.units (e_var 0) (e_int)) rfl) (b_one (s_ret (e_bl))) (b_nil)))) (b_one (s_ret (e_bl)))
theorem ok50 (T : Kt P w K mg c fa cc fd) (L : Lv P w K mg base c fa cc fd call k) : FnOk P w K mg base CX0 (k + 2) (fa 50) (fd 50) ["_law_table", "_law_formula"] (spR (gB P w K c) (runB 3 2 (b_50 call))) := fn_ok T.F50 sc50 fun cdv A outer s H E hr => B50 T L hr
theorem B51 {cdv : Value} {A : Around} {outer : List Env} {s : Shared} {H : Hp} {E : XK} (T : Kt P w K mg c fa cc fd) (L : Lv P w K mg base c fa cc fd call k) (hr : Room (k + 1) (A.deeper (envOfC "_law_parts_by" (defScope s51) s.heap.objs.size (fa 51) cdv))) :
    EB (cxOf CX0 P w K mg base n51 "_law_parts_by" (defScope s51) (fa 51) cdv A outer s H E).nox c (defBody s51) (b_51 call) := b_seq (s_if (b_w (w_or (b_not (b_val (e_call L.f44 (hr.mono (Nat.le_succ _)) (by rfl) T.g44 T.F44.kp T.b44 (a_cons (e_var 0) (a_nil))))) (w_or1 (b_not (b_val (e_call L.f45 (hr.mono (Nat.le_succ _)) (by rfl) T.g45 T.F45.kp T.b45 (a_cons (e_var 0) (a_nil)))))))) (b_one (s_ret (e_bl))) (b_nil)) (b_seq (s_for PassesOwn.never rfl (i_lst (e_var 1)) (g_nm (i := 3) sc51.nd rfl (by first | exact Or.inl rfl | exact Or.inr rfl)) (b_one (s_if (b_not (b_val (e_call L.f50 (hr.mono (Nat.le_succ _)) (by rfl) T.g50 T.F50.kp T.b50 (a_cons (e_var 0) (a_cons (e_call L.f36 (hr.mono (Nat.le_succ _)) (by rfl) T.g36 T.F36.kp T.b36 (a_cons (e_var 3) (a_nil))) (a_nil)))))) (b_one (s_ret (e_bl))) (b_nil)))) (b_one (s_ret (e_not (e_call L.f50 (hr.mono (Nat.le_succ _)) (by rfl) T.g50 T.F50.kp T.b50 (a_cons (e_var 0) (a_cons (e_var 2) (a_nil))))))))
theorem ok51 (T : Kt P w K mg c fa cc fd) (L : Lv P w K mg base c fa cc fd call k) : FnOk P w K mg base CX0 (k + 2) (fa 51) (fd 51) ["_law_table", "_law_axioms", "_law_formula"] (spR (gB P w K c) (runB 4 3 (b_51 call))) := fn_ok T.F51 sc51 fun cdv A outer s H E hr => B51 T L hr
end
end Cs
namespace Cs
open PySem PySem.Spec PyProof.Rows L2
section
variable {P : Program} {w : World} {K : PySem.W.Frag} {mg : Str → Option Value} {base : Heap} {c fa cc : Nat → Addr} {fd : Nat → FuncData}
theorem spR_no {g : Gb} {vs : List V} {H : Hp} {Q : VK} {E : XK} {i : Nat} (h : spR g (callN 0 i) vs H Q E) : False := by
  obtain ⟨_, _, _, _, _, _, _, e, _⟩ := h
  cases e
theorem FnOk_no {k i : Nat} {f : Addr} {d : FuncData} {ps : List Str} : FnOk P w K mg base CX0 k f d ps (spR (gB P w K c) (callN 0 i)) :=
  ⟨fun _ _ _ _ h => (spR_no h).elim, fun _ _ _ _ _ _ _ _ _ _ _ _ _ h => (spR_no h).elim⟩
theorem Lv.zero {k : Nat} (t0 : GxR.TabB base mg (cc 0) (c (3 + 0))) (t1 : GxR.TabB base mg (cc 1) (c (3 + 1))) (t21 : GxR.TabB base mg (cc 2) (c 5)) : Lv P w K mg base c fa cc fd (callN 0) k :=
  ⟨t0, t1, t21, FnOk_no, FnOk_no, FnOk_no, FnOk_no, FnOk_no, FnOk_no, (fun _ _ _ _ _ _ _ _ _ _ _ h => (spR_no h).elim), FnOk_no, FnOk_no, FnOk_no, FnOk_no, FnOk_no, FnOk_no, FnOk_no, FnOk_no, FnOk_no, FnOk_no, FnOk_no, FnOk_no, FnOk_no, FnOk_no, FnOk_no, FnOk_no, FnOk_no, FnOk_no, FnOk_no, FnOk_no, FnOk_no, FnOk_no, FnOk_no, FnOk_no, FnOk_no, FnOk_no, FnOk_no, FnOk_no, FnOk_no, FnOk_no, FnOk_no, FnOk_no, FnOk_no, FnOk_no, FnOk_no, FnOk_no, FnOk_no, FnOk_no, FnOk_no, FnOk_no, FnOk_no, FnOk_no, FnOk_no, FnOk_no, FnOk_no⟩
theorem Lv.step {call : Nat → Fv} {k : Nat} (T : Kt P w K mg c fa cc fd) (L : Lv P w K mg base c fa cc fd call k) : Lv P w K mg base c fa cc fd (bd call) (k + 2) :=
  ⟨L.tb0, L.tb1, L.tb21, ok0 T L, ok1 T L, ok2 T L, ok3 T L, ok4 T L, ok5 T L, ok6 T L, ok7 T L, ok8 T L, ok9 T L, ok10 T L, ok11 T L, ok12 T L, ok13 T L, ok14 T L, ok15 T L, ok16 T L, ok17 T L, ok18 T L, ok19 T L, ok20 T L, ok21 T L, ok22 T L, ok23 T L, ok24 T L, ok25 T L, ok26 T L, ok27 T L, ok28 T L, ok29 T L, ok30 T L, ok31 T L, ok32 T L, ok33 T L, ok34 T L, ok35 T L, ok36 T L, ok37 T L, ok38 T L, ok39 T L, ok40 T L, ok41 T L, ok42 T L, ok43 T L, ok44 T L, ok45 T L, ok46 T L, ok47 T L, ok48 T L, ok49 T L, ok50 T L, ok51 T L⟩
theorem Lv.all (T : Kt P w K mg c fa cc fd) (t0 : GxR.TabB base mg (cc 0) (c (3 + 0))) (t1 : GxR.TabB base mg (cc 1) (c (3 + 1))) (t21 : GxR.TabB base mg (cc 2) (c 5)) : ∀ j : Nat, Lv P w K mg base c fa cc fd (callN j) (2 * j)
  | 0 => Lv.zero t0 t1 t21
  | j + 1 => Lv.step T (Lv.all T t0 t1 t21 j)
end
end Cs
/-! Z47: the law's head: cells, digits, box, draw: only «some ints» is told of them. -/
namespace Cs
open PySem PySem.Spec PyProof.Rows L2
abbrev sC : Stmt := top 31
abbrev nC : List Str := ["_law_script", "_law_k"]
theorem scC : FnScope nC ["_law_script", "_law_k"] (defScope sC) := ⟨rfl, rfl, rfl, by decide +kernel, rfl, by decide +kernel, by decide +kernel⟩
abbrev sD : Stmt := top 32
abbrev nD : List Str := ["_law_script", "_law_first", "_law_last", "_law_digits_here", "_law_k", "_law_cell_here", "_law_turn", "_law_seed"]
theorem scD : FnScope nD ["_law_script", "_law_first", "_law_last"] (defScope sD) := ⟨rfl, rfl, rfl, by decide +kernel, rfl, by decide +kernel, by decide +kernel⟩
abbrev sB : Stmt := top 33
abbrev nB : List Str := ["_law_script", "_law_first", "_law_last"]
theorem scB : FnScope nB ["_law_script", "_law_first", "_law_last"] (defScope sB) := ⟨rfl, rfl, rfl, by decide +kernel, rfl, by decide +kernel, by decide +kernel⟩
abbrev sW : Stmt := top 34
abbrev nW : List Str := ["_law_box_here", "_law_many", "_law_at"]
theorem scW : FnScope nW ["_law_box_here", "_law_many"] (defScope sW) := ⟨rfl, rfl, rfl, by decide +kernel, rfl, by decide +kernel, by decide +kernel⟩
def spC (K : PySem.W.Frag) : Sp := fun vs H Q _ => ∃ (a : Addr) (ns : List Int) (k : Nat), vs = [.ref a, .int k] ∧ SqL K H a (ns.map V.int) ∧ ∀ z : Int, Q (.int z) H
def spD (K : PySem.W.Frag) : Sp := fun vs H Q _ => ∃ (a : Addr) (ns : List Int), vs = [.ref a, .int 0, .int 63] ∧ SqL K H a (ns.map V.int) ∧ ∀ p, H p = none → ∀ ds : List Int, Q (.ref p) (upd H p (.lst (ds.map V.int)))
def spB (K : PySem.W.Frag) : Sp := fun vs H Q _ => ∃ (a : Addr) (ns : List Int), vs = [.ref a, .int 0, .int 63] ∧ SqL K H a (ns.map V.int) ∧
  ∀ p q, H p = none → H q = none → q ≠ p → ∀ ds : List Int, Q (.ref q) (upd (upd H p (.lst (ds.map V.int))) q (.lst [.ref p, .int 0]))
def spW : Sp := fun vs H Q _ => ∃ (q p : Addr) (ds : List Int), vs = [.ref q, .int 6] ∧ H q = some (.lst [.ref p, .int 0]) ∧ H p = some (.lst (ds.map V.int)) ∧ q ≠ p ∧
  ∀ d : Int, 0 ≤ d → d < 6 → Q (.int d) (upd H q (.lst [.ref p, .int 1]))
section
variable {P : Program} {w : World} {K : PySem.W.Frag} {mg : Str → Option Value} {base : Heap} {f fC : Addr} {fd fdC : FuncData}
theorem okC (F : Fun K "_law_cell" "_law_cell" sC f fd) (mL : mg "len" = none) : FnOk P w K mg base CX0 1 f fd ["_law_script", "_law_k"] (spC K) := by
  refine F.ok scC (fun vs H Q E h => ?_) (fun cdv A outer s H vs Q E hr h => ⟨_, PSs.nox (pss_cons (ps_if (pt_cmpR op_lt (pv 1) (pe_callB call_len_seq (by rfl) mL PySem.boot_len (pa_cons (pv 0) pa_nil)) (nomark _)) (pss_one (ps_ret (pe_ix ix_list (pv 0) (pv 1) (fun _ _ => rfl)))) pss_nil) (pss_one (ps_ret pe_int))), ?_⟩)
  · obtain ⟨a, ns, k, rfl, _⟩ := h
    rfl
  · obtain ⟨a, ns, k, rfl, hS, hQ⟩ := h
    refine ⟨_, rfl, _, rfl, a, _, rfl, .inl hS, _, _, rfl, rfl, _, rfl, ?_⟩
    refine ite2 (fun hk => ?_) (fun _ => hQ 0)
    have hk2 : k < ns.length := by
      have z := of_decide_eq_true hk
      rw [List.length_map] at z
      omega
    exact ⟨_, rfl, _, rfl, a, _, _, _, rfl, rfl, hS, atI_nat (by rw [List.getElem?_map, List.getElem?_eq_getElem hk2]; rfl), hQ _⟩
theorem few_lt {n : Nat} (h : n < 100000) : n < sizeLine := Nat.lt_of_lt_of_le h (by decide)
theorem sql_new {H : Hp} {p a : Addr} {o : HO} {xs : List V} (hp : H p = none) (h : SqL K H a xs) : SqL K (upd H p o) a xs := by
  rcases h with (h | ⟨z, h⟩) | h
  · exact .inl (.inl (by rw [upd_ne (ne_of_none h hp)]; exact h))
  · exact .inl (.inr ⟨z, by rw [upd_ne (ne_of_none h hp)]; exact h⟩)
  · exact .inr h
/-- the list of digits so far -/
def Dg (a p : Addr) (H : Hp) (n : Nat) (x4 x5 x6 x7 : Option V) (σ : L2.St) (H' : Hp) : Prop :=
  σ = [some (.ref a), some (.int 0), some (.int 63), some (.ref p), x4, x5, x6, x7] ∧ ∃ ds : List Int, ds.length ≤ n ∧ H' = upd H p (.lst (ds.map V.int))
theorem okD (F : Fun K "_law_digits" "_law_digits" sD f fd) (FC : FnOk P w K mg base CX0 1 fC fdC ["_law_script", "_law_k"] (spC K)) (gC : mg "_law_cell" = some (.ref fC)) (kC : PySem.W.keepIn K (.ref fC) = true) (bC : Binds K fdC ["_law_script", "_law_k"] [])
    (mR : mg "range" = none) (mI : mg "int" = none) : FnOk P w K mg base CX0 2 f fd ["_law_script", "_law_first", "_law_last"] (spD K) := by
  refine F.ok scD (fun vs H Q E h => ?_) (fun cdv A outer s H vs Q E hr h => ⟨_, PSs.nox (pss_cons (ps_set (i := 3) scD.nd rfl (Or.inl rfl) (pe_lst pa_nil))
      (pss_cons (ps_for PassesOwn.never rfl (pi_range2 (by rfl) mR (pa_cons (pv 1) (pa_cons (pv 2) pa_nil))) (pg_name (i := 4) scD.nd rfl (Or.inl rfl)) (pss_cons (ps_set (i := 5) scD.nd rfl (Or.inl rfl) (pe_call FC hr (by rfl) gC kC bC .nil pass0 (pa_cons (pv 0) (pa_cons (pv 4) pa_nil))))
      (pss_cons (ps_if (pt_cmpR op_lt (pv 5) (pe_int) (nomark _)) (pss_one (ps_set (i := 5) scD.nd rfl (Or.inl rfl) (pe_op op_sub (pe_int) (pe_op op_mul (pe_int) (pv 5))))) pss_nil)
      (pss_one (ps_if (pt_cmpR op_ge (pv 5) (pe_op op_pow (pe_int) (pe_int)) (nomark _)) (pss_one (ps_for PassesOwn.never rfl (pi_range1 (by rfl) mR (pa_cons pe_int pa_nil)) (pg_name (i := 6) scD.nd rfl (Or.inl rfl)) (pss_one (ps_if (pt_cmpR op_gt (pv 5) (pe_int) (nomark _)) (pss_cons (ps_expr (pe_bm PySem.F.plainAttrs_list PySem.F.slot_list_append PySem.F.type_list_append mt_append (pv 3) (pa_cons (pe_op op_mod (pe_callTy call_int1 (by rfl) mI PySem.Pv.boot_int (pa_cons (pv 5) pa_nil)) (pe_int)) pa_nil)))
      (pss_one (ps_set (i := 5) scD.nd rfl (Or.inl rfl) (pe_op op_fdiv (pv 5) (pe_int))))) pss_nil)))) (pss_cons (ps_set (i := 7) scD.nd rfl (Or.inl rfl) (pe_op op_mod (pe_callTy call_int1 (by rfl) mI PySem.Pv.boot_int (pa_cons (pe_op op_add (pe_op op_add (pe_op op_mul (pv 5) (pe_int)) (pe_op op_mul (pv 4) (pe_int))) (pe_int)) pa_nil)) (pe_int)))
      (pss_one (ps_for PassesOwn.never rfl (pi_range1 (by rfl) mR (pa_cons pe_int pa_nil)) (pg_name (i := 6) scD.nd rfl (Or.inl rfl)) (pss_cons (ps_set (i := 7) scD.nd rfl (Or.inl rfl) (pe_op op_mod (pe_callTy call_int1 (by rfl) mI PySem.Pv.boot_int (pa_cons (pe_op op_add (pe_op op_add (pe_op op_mul (pv 7) (pe_int)) (pe_op op_mul (pe_int) (pv 6))) (pe_int)) pa_nil)) (pe_int)))
      (pss_one (ps_expr (pe_bm PySem.F.plainAttrs_list PySem.F.slot_list_append PySem.F.type_list_append mt_append (pv 3) (pa_cons (pe_op op_mod (pe_callTy call_int1 (by rfl) mI PySem.Pv.boot_int (pa_cons (pe_op op_fdiv (pv 7) (pe_int)) pa_nil)) (pe_int)) pa_nil)))))))))))))
      (pss_one (ps_ret (pv 3))))), ?_⟩)
  · obtain ⟨a, ns, rfl, _⟩ := h
    rfl
  · obtain ⟨a, ns, rfl, hS, hQ⟩ := h
    refine ⟨Nat.zero_le _, fun p hp => ?_⟩
    have hSp : ∀ ds : List Int, SqL K (upd H p (.lst (ds.map V.int))) a (ns.map V.int) := fun ds => sql_new hp hS
    refine ⟨_, rfl, _, rfl, 0, 63, rfl, ⟨by decide, by decide, by decide, by decide⟩, ?_⟩
    refine for_range (lo := 0) (n := 63) (fun i σ' H' => ∃ x4 x5 x6 x7, Dg a p H (60 * i) x4 x5 x6 x7 σ' H') ⟨_, _, _, _, rfl, [], Nat.zero_le _, rfl⟩ ?_ ?_
    · rintro i σ' H' hi ⟨x4, x5, x6, x7, rfl, ds, hd, rfl⟩
      refine ⟨_, rfl, _, rfl, a, ns, i, (by rw [Int.zero_add]; rfl), hSp ds, fun z => ?_⟩
      refine ⟨_, rfl, _, _, rfl, rfl, _, rfl, ite2 (fun _ => ⟨_, rfl, _, _, rfl, rfl, .inl ⟨by decide, by decide⟩, _, _, rfl, rfl, ?_⟩) (fun _ => ?_)⟩
      all_goals
        refine ⟨_, rfl, _, _, rfl, rfl, ⟨by decide, by decide, by decide⟩, _, _, rfl, rfl, _, rfl, ite2 (fun _ => ?_) (fun _ => ?_)⟩
        · refine ⟨60, rfl, by decide, by decide, for_range (lo := 0) (n := 60) (fun j σ' H' => ∃ (z : Int) (x6 : Option V), Dg a p H (60 * i + j) (some (.int (0 + i))) (some (.int z)) x6 x7 σ' H') ⟨_, _, rfl, ds, hd, rfl⟩ ?_ ?_⟩
          · rintro j σ' H' hj ⟨z, x6, rfl, ds, hd, rfl⟩
            refine ⟨_, rfl, _, _, rfl, rfl, _, rfl, ite2 (fun _ => ?_) (fun _ => ⟨_, _, rfl, ds, Nat.le_succ_of_le hd, rfl⟩)⟩
            refine ⟨_, rfl, .inl ⟨rfl, _, SqL.of upd_same⟩, _, rfl, .inl ⟨_, rfl, _, _, rfl, rfl, (by show (0 : Int) < 1000; decide), p, _, _, rfl, rfl, upd_same, few_lt (by rw [List.length_map]; omega), ?_⟩⟩
            refine ⟨_, rfl, _, _, rfl, rfl, ⟨by decide, by decide⟩, _, _, rfl, ds ++ [z % 1000], (by simp; omega), ?_⟩
            rw [upd_upd, List.map_append]
            rfl
          · rintro σ' H' ⟨z, x6, rfl, ds, hd, rfl⟩
            exact ⟨_, _, _, _, rfl, ds, (by omega), rfl⟩
        · refine ⟨_, rfl, _, _, rfl, rfl, .inr ⟨by decide, by decide⟩, _, rfl, _, _, rfl, rfl, .inr ⟨by decide, by decide⟩, _, _, rfl, rfl, _, _, rfl, rfl, .inl ⟨_, rfl, _, _, rfl, rfl, (by show (0 : Int) < 2147483647; decide), ?_⟩⟩
          refine ⟨12, rfl, by decide, by decide, for_range (lo := 0) (n := 12) (fun j σ' H' => ∃ (z : Int) (x5 x6 : Option V), Dg a p H (60 * i + j) (some (.int (0 + i))) x5 x6 (some (.int z)) σ' H') ⟨_, _, _, rfl, ds, hd, rfl⟩ ?_ ?_⟩
          · rintro j σ' H' hj ⟨z, x5, x6, rfl, ds, hd, rfl⟩
            refine ⟨_, rfl, _, _, rfl, rfl, .inr ⟨by decide, by decide⟩, _, rfl, _, _, rfl, rfl, .inl ⟨by decide, by decide⟩, _, _, rfl, rfl, _, _, rfl, rfl, .inl ⟨_, rfl, _, _, rfl, rfl, (by show (0 : Int) < 2147483647; decide), ?_⟩⟩
            refine ⟨_, rfl, .inl ⟨rfl, _, SqL.of upd_same⟩, _, rfl, _, _, rfl, rfl, ⟨by decide, by decide⟩, .inl ⟨_, rfl, _, _, rfl, rfl, (by show (0 : Int) < 1000; decide), p, _, _, rfl, rfl, upd_same, few_lt (by rw [List.length_map]; omega), ?_⟩⟩
            refine ⟨_, _, _, rfl, ds ++ [(z * 16807 + 7 * (0 + (j : Int)) + 1) % 2147483647 / 997 % 1000], (by simp; omega), ?_⟩
            rw [upd_upd, List.map_append]
            rfl
          · rintro σ' H' ⟨z, x5, x6, rfl, ds, hd, rfl⟩
            exact ⟨_, _, _, _, rfl, ds, (by omega), rfl⟩
    · rintro σ' H' ⟨x4, x5, x6, x7, rfl, ds, hd, rfl⟩
      exact ⟨_, rfl, hQ p hp ds⟩
theorem okB (F : Fun K "_law_box" "_law_box" sB f fd) (FD : FnOk P w K mg base CX0 2 fC fdC ["_law_script", "_law_first", "_law_last"] (spD K)) (gD : mg "_law_digits" = some (.ref fC)) (kD : PySem.W.keepIn K (.ref fC) = true) (bD : Binds K fdC ["_law_script", "_law_first", "_law_last"] []) :
    FnOk P w K mg base CX0 3 f fd ["_law_script", "_law_first", "_law_last"] (spB K) := by
  refine F.ok scB (fun vs H Q E h => ?_) (fun cdv A outer s H vs Q E hr h => ⟨_, PSs.nox (pss_one (ps_ret (pe_lst (pa_cons (pe_call FD hr (by rfl) gD kD bD .nil pass0 (pa_cons (pv 0) (pa_cons (pv 1) (pa_cons (pv 2) pa_nil)))) (pa_cons pe_int pa_nil))))), ?_⟩)
  · obtain ⟨a, ns, rfl, _⟩ := h
    rfl
  · obtain ⟨a, ns, rfl, hS, hQ⟩ := h
    refine ⟨_, rfl, _, rfl, _, rfl, a, ns, rfl, hS, fun p hp ds => ⟨by show 2 ≤ sizeLine; decide, fun q hq => ?_⟩⟩
    have ne : q ≠ p := fun e => by
      rw [e, upd_same] at hq
      cases hq
    exact hQ p q hp (by rw [upd_ne ne] at hq; exact hq) ne ds
theorem okW (F : Fun K "_law_draw" "_law_draw" sW f fd) (mL : mg "len" = none) (mI : mg "int" = none) : FnOk P w K mg base CX0 1 f fd ["_law_box_here", "_law_many"] spW := by
  refine F.ok scW (fun vs H Q E h => ?_) (fun cdv A outer s H vs Q E hr h => ⟨_, PSs.nox (pss_cons (ps_set (i := 2) scW.nd rfl (Or.inl rfl) (pe_ix ix_list (pv 0) pe_int (fun _ _ => rfl)))
    (pss_cons (ps_asg (pe_op op_add (pv 2) pe_int) (pg_sub (pv 0) pe_int set_list (fun _ => rfl)) rfl)
    (pss_cons (ps_if (pt_cmpR op_lt (pv 2) (pe_callB call_len_seq (by rfl) mL PySem.boot_len (pa_cons (pe_ix ix_list (pv 0) pe_int (fun _ _ => rfl)) pa_nil)) (nomark _))
      (pss_one (ps_ret (pe_op op_mod (pe_callTy call_int1 (by rfl) mI PySem.Pv.boot_int (pa_cons (pe_ix ix_list (pe_ix ix_list (pv 0) pe_int (fun _ _ => rfl)) (pv 2) (fun _ _ => rfl)) pa_nil)) (pv 1)))) pss_nil)
    (pss_one (ps_ret pe_int))))), ?_⟩)
  · obtain ⟨q, p, ds, rfl, _⟩ := h
    rfl
  · obtain ⟨q, p, ds, rfl, hq, hp, ne, hQ⟩ := h
    have hp2 : upd H q (.lst [.ref p, .int 1]) p = some (.lst (ds.map V.int)) := by
      rw [upd_ne ne.symm]
      exact hp
    refine ⟨_, rfl, q, _, _, _, rfl, rfl, SqL.of hq, rfl, _, rfl, _, _, rfl, rfl, _, rfl, q, _, _, 1, rfl, rfl, hq, rfl, ?_⟩
    refine ⟨_, rfl, _, rfl, q, _, _, _, rfl, rfl, SqL.of upd_same, rfl, p, _, rfl, .inl (SqL.of hp2), _, _, rfl, rfl, _, rfl, ?_⟩
    cases ds with
    | nil => exact hQ 0 (by decide) (by decide)
    | cons d ds =>
      refine ite2 (fun _ => ?_) (fun z => absurd (decide_eq_true (by show (0 : Int) < ((((d :: ds).map V.int).length : Nat) : Int); rw [List.length_map, List.length_cons]; omega)) z)
      exact ⟨_, rfl, q, _, _, _, rfl, rfl, SqL.of upd_same, rfl, _, rfl, p, _, _, _, rfl, rfl, SqL.of hp2, (show atI ((d :: ds).map V.int) ((0 : Nat) : Int) = some (.int d) from atI_nat rfl), .inl ⟨_, rfl, _, rfl, _, _, rfl, rfl, (by show (0 : Int) < 6; decide), hQ _ (Int.emod_nonneg _ (by decide)) (Int.emod_lt_of_pos _ (by decide))⟩⟩
end
end Cs
/-! Z48: the law: its tail by the evaluator, for each drawn number. -/
namespace Cs
open PySem PySem.Spec PyProof.Rows L2
def b_law (call : Nat → Fv) : Sv := sSeq (sAsg (cArgs (call 33) (aCons (cVar 2) (aNil))) (gNm 3)) (sSeq (sIf (bV (cBin oEq (cVar 2) (cInt 3))) (sRet (cArgs (call 41) (aCons (cVar 3) (aCons (cArgs oLst (aNil)) (aCons (cArgs (call 36) (aCons (cInt 3) (aNil))) (aCons (cArgs oLst (aCons (cInt 1) (aCons (cInt 2) (aNil)))) (aNil))))))) (sNil)) (sRet (cArgs (call 51) (aCons (cVar 3) (aCons (cLc (nR2 (aCons (cInt 1) (aCons (cInt 7) (aNil)))) (gNm 4) (bV (cBin oNe (cVar 4) (cVar 2))) (cVar 4) [4]) (aCons (cArgs (call 36) (aCons (cVar 2) (aNil))) (aNil)))))))
def S00 : Sto := ⟨0, .nil⟩
def isT : Option (Out × Sl × Sto) → Bool
  | some (.rt (.bl true), _, _) => true
  | _ => false
abbrev lawSl (k : Int) : Sl := [none, none, some (.dat (.int k)), none, none]
theorem law1 : isT (b_law (callN 16) (lawSl (1 + 0)) S00) = true := by decide +kernel
theorem law2 : isT (b_law (callN 16) (lawSl (1 + 1)) S00) = true := by decide +kernel
theorem law3 : isT (b_law (callN 16) (lawSl (1 + 2)) S00) = true := by decide +kernel
theorem law4 : isT (b_law (callN 16) (lawSl (1 + 3)) S00) = true := by decide +kernel
theorem law5 : isT (b_law (callN 16) (lawSl (1 + 4)) S00) = true := by decide +kernel
theorem law6 : isT (b_law (callN 16) (lawSl (1 + 5)) S00) = true := by decide +kernel
theorem isT_ex {r : Option (Out × Sl × Sto)} (h : isT r = true) : ∃ σ S, r = some (.rt (.bl true), σ, S) := by
  unfold isT at h
  split at h
  · exact ⟨_, _, rfl⟩
  · cases h
theorem law_ex (d : Int) (h0 : 0 ≤ d) (h6 : d < 6) : ∃ σ S, b_law (callN 16) (lawSl (1 + d)) S00 = some (.rt (.bl true), σ, S) := by
  have h : d = 0 ∨ d = 1 ∨ d = 2 ∨ d = 3 ∨ d = 4 ∨ d = 5 := by omega
  rcases h with rfl | rfl | rfl | rfl | rfl | rfl
  · exact isT_ex law1
  · exact isT_ex law2
  · exact isT_ex law3
  · exact isT_ex law4
  · exact isT_ex law5
  · exact isT_ex law6
abbrev s52 : Stmt := top 53
abbrev n52 : List Str := ["_law_script", "_law_box_here", "_law_k", "_law_found", "_law_number"]
theorem sc52 : FnScope n52 ["_law_script"] (defScope s52) := ⟨rfl, rfl, rfl, by decide +kernel, rfl, by decide +kernel, by decide +kernel⟩
/-- what the top holds of the law's head -/
structure Kh (K : PySem.W.Frag) (mg : Str → Option Value) (fh : Nat → Addr) (fdh : Nat → FuncData) : Prop where
  FC : Fun K "_law_cell" "_law_cell" sC (fh 0) (fdh 0)
  bC : Binds K (fdh 0) ["_law_script", "_law_k"] []
  gC : mg "_law_cell" = some (.ref (fh 0))
  FD : Fun K "_law_digits" "_law_digits" sD (fh 1) (fdh 1)
  bD : Binds K (fdh 1) ["_law_script", "_law_first", "_law_last"] []
  gD : mg "_law_digits" = some (.ref (fh 1))
  FB : Fun K "_law_box" "_law_box" sB (fh 2) (fdh 2)
  bB : Binds K (fdh 2) ["_law_script", "_law_first", "_law_last"] []
  gB : mg "_law_box" = some (.ref (fh 2))
  FW : Fun K "_law_draw" "_law_draw" sW (fh 3) (fdh 3)
  bW : Binds K (fdh 3) ["_law_box_here", "_law_many"] []
  gW : mg "_law_draw" = some (.ref (fh 3))
  FL : Fun K "law" "law" s52 (fh 4) (fdh 4)
theorem RS00 {g : Gb} {ι : Nat → Addr} {H : Hp} (t : ∀ i, i < 3 → H (g.cls (3 + i)) = some (.tbl #[])) : RS g ι S00 H :=
  ⟨fun _ _ e => (nomatch e), fun _ h => absurd h (Nat.not_lt_zero _), fun _ _ h => absurd h (Nat.not_lt_zero _), by decide, fun i hi => ⟨#[], t i hi, True.intro⟩, LamX.TabS.nil (t 2 (by decide))⟩
def spL (K : PySem.W.Frag) (c : Nat → Addr) : Sp := fun vs H Q _ => ∃ (a : Addr) (ns : List Int), vs = [.ref a] ∧ SqL K H a (ns.map V.int) ∧ (∀ i, i < 3 → H (c (3 + i)) = some (.tbl #[])) ∧ ∀ H', Q (.bl true) H'
section
variable {P : Program} {w : World} {K : PySem.W.Frag} {mg : Str → Option Value} {base : Heap} {c fa cc fh : Nat → Addr} {fd fdh : Nat → FuncData} {call : Nat → Fv} {k : Nat}
theorem BL {cdv : Value} {A : Around} {outer : List Env} {s : Shared} {H : Hp} {E : XK} (T : Kt P w K mg c fa cc fd) (L : Lv P w K mg base c fa cc fd call k) (hr : Room (k + 1) (A.deeper (envOfC "law" (defScope s52) s.heap.objs.size (fh 4) cdv))) :
    EB (cxOf CX0 P w K mg base n52 "law" (defScope s52) (fh 4) cdv A outer s H E).nox c ((defBody s52).drop 2) (b_law call) := b_seq (s_set (i := 3) sc52.nd rfl (by first | exact Or.inl rfl | exact Or.inr rfl) (e_call L.f33 (hr.mono (Nat.le_succ _)) (by rfl) T.g33 T.F33.kp T.b33 (a_cons (e_var 2) (a_nil)))) (b_seq (s_if (b_cmp (op_eqD hr.units) eq_ok (e_var 2) (e_int) rfl) (b_one (s_ret (e_call L.f41 (hr.mono (Nat.le_succ _)) (by rfl) T.g41 T.F41.kp T.b41 (a_cons (e_var 3) (a_cons (e_lst (a_nil)) (a_cons (e_call L.f36 (hr.mono (Nat.le_succ _)) (by rfl) T.g36 T.F36.kp T.b36 (a_cons (e_int) (a_nil))) (a_cons (e_lst (a_cons (e_int) (a_cons (e_int) (a_nil)))) (a_nil)))))))) (b_nil)) (b_one (s_ret (e_call L.f51 (hr.mono (Nat.le_succ _)) (by rfl) T.g51 T.F51.kp T.b51 (a_cons (e_var 3) (a_cons (e_lc ([("_law_number", 4)]) rfl sc52.nd (i_r2 (by rfl) T.m_range (a_cons (e_int) (a_cons (e_int) (a_nil)))) (blkOk_by (own := [("_law_number", 4)]) (N := n52) (sc := defScope s52) (by decide +kernel)) (fun _ _ _ _ _ => v_nm (i := 4) (by decide) sc52.nd rfl (Or.inl rfl)) (fun _ _ _ _ _ => ts_one (b_cmp (op_neD hr.units) ne_ok (e_var 4) (e_var 2) rfl)) (fun _ _ _ _ _ => e_var 4)) (a_cons (e_call L.f36 (hr.mono (Nat.le_succ _)) (by rfl) T.g36 T.F36.kp T.b36 (a_cons (e_var 2) (a_nil))) (a_nil))))))))
theorem okL (T : Kt P w K mg c fa cc fd) (U : Kh K mg fh fdh) (t0 : GxR.TabB base mg (cc 0) (c (3 + 0))) (t1 : GxR.TabB base mg (cc 1) (c (3 + 1))) (t21 : GxR.TabB base mg (cc 2) (c 5)) : FnOk P w K mg base CX0 34 (fh 4) (fdh 4) ["_law_script"] (spL K c) := by
  have FC := okC (P := P) (w := w) (base := base) U.FC T.m_len
  have FD := okD U.FD FC U.gC U.FC.kp U.bC T.m_range T.m_int
  have FB := okB U.FB FD U.gD U.FD.kp U.bD
  have FW := okW (P := P) (w := w) (base := base) U.FW T.m_len T.m_int
  have L := Lv.all T t0 t1 t21 16
  refine U.FL.ok sc52 (fun vs H Q E h => ?_) (fun cdv A outer s H vs Q E hr h => ⟨_, PSs.nox (pss_cons (ps_set (i := 1) sc52.nd rfl (Or.inl rfl) (pe_call FB (hr.mono (by decide)) rfl U.gB U.FB.kp U.bB .nil pass0 (pa_cons (pv 0) (pa_cons pe_int (pa_cons pe_int pa_nil)))))
    (pss_cons (ps_set (i := 2) sc52.nd rfl (by first | exact Or.inl rfl | exact Or.inr rfl) (pe_op op_add pe_int (pe_call FW (hr.mono (by decide)) rfl U.gW U.FW.kp U.bW .nil pass0 (pa_cons (pv 1) (pa_cons pe_int pa_nil))))) (BL (E := E) T L hr))), ?_⟩)
  · obtain ⟨a, ns, rfl, _⟩ := h
    rfl
  · obtain ⟨a, ns, rfl, hS, hT, hQ⟩ := h
    refine ⟨_, rfl, a, ns, rfl, hS, fun p q hp hq ne ds => ⟨_, rfl, q, p, ds, rfl, upd_same, (by rw [upd_ne ne.symm]; exact upd_same), ne, fun d h0 h6 => ⟨_, _, rfl, rfl, ?_⟩⟩⟩
    obtain ⟨σ', S', e⟩ := law_ex d h0 h6
    refine ⟨fun _ => a, lawSl (1 + d), S00, _, σ', S', ?_, RS00 fun i hi => ?_, e, fun ι' H' v x R r => ?_⟩
    · exact .cons (fun x e => by cases e) (.cons (fun x e => by cases e) (.cons (fun x e => by cases e; exact ⟨_, rfl, .dat (.int _)⟩) (.cons (fun x e => by cases e) (.cons (fun x e => by cases e) .nil))))
    · have n1 : c (3 + i) ≠ q := fun z => by
        have e := hT i hi
        rw [z, hq] at e
        cases e
      have n2 : c (3 + i) ≠ p := fun z => by
        have e := hT i hi
        rw [z, hp] at e
        cases e
      show upd (upd _ _ _) _ _ (c (3 + i)) = _
      rw [upd_ne n1, upd_ne n1, upd_ne n2]
      exact hT i hi
    · cases r
      exact hQ H'
end
end Cs
/-! Z49: a written dict of the top, found in K by computing. -/
namespace Cs
open PySem PySem.Spec PyProof.Rows L2
def natsB : List Nat → List Nat → Bool
  | [], [] => true
  | a :: l, b :: m => cond (Nat.beq a b) (natsB l m) false
  | _, _ => false
theorem natsB_ok : ∀ {l m : List Nat}, natsB l m = true → l = m
  | [], [], _ => rfl
  | a :: l, b :: m, h => by
    unfold natsB at h
    cases q : Nat.beq a b with
    | false => rw [q] at h; cases h
    | true =>
      rw [q] at h
      rw [Nat.eq_of_beq_eq_true q, natsB_ok (l := l) (m := m) h]
  | [], _ :: _, h => by cases h
  | _ :: _, [], h => by cases h
def strB (x : Str) (l : List Nat) : Bool := natsB x.cps.toList l
theorem strB_ok {x : Str} {l : List Nat} (h : strB x l = true) : x = sOf l := by
  have e : x.cps.toList = l := natsB_ok h
  unfold sOf
  rw [← e]
def relDs (f : D → Value → Bool) : List D → List Value → Bool
  | [], [] => true
  | d :: l, u :: us => cond (f d u) (relDs f l us) false
  | _, _ => false
def relD (K : PySem.W.Frag) : Nat → D → Value → Bool
  | _, .non, .none => true
  | _, .int i, .int j _ => decide (i = j)
  | _, .str l, .str x _ => strB x l && PyData.strOk (sOf l)
  | n + 1, .tup l, .ref a => (match K.lookup a with
    | some ⟨.type "tuple", _, .seq its _, _⟩ => decide (its.size ≤ sizeLine) && (tall (.tup l) 30 && relDs (relD K n) l its.toList)
    | _ => false)
  | _, _, _ => false
theorem relDs_ok {K : PySem.W.Frag} {f : D → Value → Bool} (hf : ∀ d u, f d u = true → ∃ v, RelV v u ∧ ∀ H, RD K H d v) : ∀ (l : List D) (us : List Value), relDs f l us = true → ∃ vs, Vals vs us ∧ ∀ H, RDs K H l vs
  | [], [], _ => ⟨[], .nil, fun _ => .nil⟩
  | d :: l, u :: us, h => by
    unfold relDs at h
    cases q : f d u with
    | false => rw [q] at h; cases h
    | true =>
      rw [q] at h
      obtain ⟨v, r, k⟩ := hf d u q
      obtain ⟨vs, rs, ks⟩ := relDs_ok hf l us h
      exact ⟨v :: vs, .cons r rs, fun H => .cons (k H) (ks H)⟩
  | [], _ :: _, h => by cases h
  | _ :: _, [], h => by cases h
theorem relD_ok {K : PySem.W.Frag} : ∀ (n : Nat) (d : D) (u : Value), relD K n d u = true → ∃ v, RelV v u ∧ ∀ H, RD K H d v := by
  intro n
  induction n with
  | zero =>
    intro d u h
    unfold relD at h
    split at h
    · exact ⟨.non, rfl, fun _ => .non⟩
    · cases of_decide_eq_true h
      exact ⟨.int _, ⟨_, rfl⟩, fun _ => .int _⟩
    · rw [Bool.and_eq_true] at h
      cases strB_ok h.1
      exact ⟨.str _, ⟨_, rfl⟩, fun _ => .str _ h.2⟩
    · rename_i e
      cases e
    · cases h
  | succ n ih =>
    intro d u h
    unfold relD at h
    split at h
    · exact ⟨.non, rfl, fun _ => .non⟩
    · cases of_decide_eq_true h
      exact ⟨.int _, ⟨_, rfl⟩, fun _ => .int _⟩
    · rw [Bool.and_eq_true] at h
      cases strB_ok h.1
      exact ⟨.str _, ⟨_, rfl⟩, fun _ => .str _ h.2⟩
    · rename_i e
      cases e
      split at h
      · rename_i od its m sl q
        rw [Bool.and_eq_true, Bool.and_eq_true] at h
        obtain ⟨h2, h3, h4⟩ := h
        obtain ⟨vs, r, k⟩ := relDs_ok ih _ _ h4
        exact ⟨.ref _, rfl, fun H => .tup (.inr ⟨_, its, m, q, rfl, rfl, of_decide_eq_true h2, r⟩) (k H) h3⟩
      · cases h
    · cases h
def ktE (K : PySem.W.Frag) : List (Int × D) → List DictEntry → Bool
  | [], [] => true
  | (i, d) :: t, ⟨h, .int j _, u⟩ :: es => decide (i = j) && (decide (h = hashInt i) && (relD K 12 d u && ktE K t es))
  | _, _ => false
def ktKv : List (Int × D) → List DictEntry → List (Key × Value)
  | p :: t, e :: es => (Sum.inl p.1, e.val) :: ktKv t es
  | _, _ => []
def ktB (K : PySem.W.Frag) (t : List (Int × D)) (a : Addr) : Bool := match K.lookup a with
  | some ⟨.type "dict", .none, .dict es _, sl⟩ => Nat.beq sl.size 0 && ktE K t es.toList
  | _ => false
theorem ktE_ok {K : PySem.W.Frag} {P : Program} {w : World} : ∀ (t : List (Int × D)) (es : List DictEntry), ktE K t es = true →
    (∀ e ∈ es, ∃ k, (mixKind P w).is k e.key = true ∧ e.hash = (mixKind P w).hash k) ∧ Pairs (mixKind P w) es (ktKv t es) ∧ (ktKv t es).map (·.1) = t.map (fun p => Sum.inl p.1) ∧
    Paired (fun (p : Int × D) (q : Key × Value) => Sum.inl p.1 = q.1 ∧ ∃ v, RelV v q.2 ∧ ∀ H, RD K H p.2 v) t (ktKv t es)
  | [], [], _ => ⟨fun _ he => (nomatch he), .nil, rfl, .nil⟩
  | (i, d) :: t, ⟨h, .int j tk, u⟩ :: es, b => by
    unfold ktE at b
    rw [Bool.and_eq_true, Bool.and_eq_true, Bool.and_eq_true] at b
    obtain ⟨b1, b2, b3, b4⟩ := b
    cases of_decide_eq_true b1
    obtain ⟨r1, r2, r3, r4⟩ := ktE_ok (P := P) (w := w) t es b4
    obtain ⟨v, rv, k⟩ := relD_ok 12 d u b3
    refine ⟨fun e he => ?_, .cons (keyIs_int i tk) rfl r2, ?_, .cons ⟨rfl, v, rv, k⟩ r4⟩
    · rcases List.mem_cons.mp he with rfl | he
      · exact ⟨.inl i, keyIs_int i tk, of_decide_eq_true b2⟩
      · exact r1 e he
    · show _ :: _ = _ :: _
      rw [r3]
theorem ktab_of {K : PySem.W.Frag} {P : Program} {w : World} {mg : Str → Option Value} {x : Str} {t : List (Int × D)} {a : Addr} (hm : mg x = some (.ref a)) (hs : (a == sysModules) = false) (b : ktB K t a = true) (hn : (t.map (·.1)).Nodup) : KTab P w K mg x t := by
  unfold ktB at b
  split at b
  · rename_i es ep sl q
    rw [Bool.and_eq_true] at b
    obtain ⟨b2, b3⟩ := b
    obtain ⟨r1, r2, r3, r4⟩ := ktE_ok (P := P) (w := w) t es.toList b3
    refine ⟨a, _, hm, hs, fun h X => ⟨_, es, ep, X _ _ q, ⟨rfl, rfl, Array.size_eq_zero_iff.mp (Nat.eq_of_beq_eq_true b2)⟩, rfl, fun e he => r1 e (by simpa using he), r2, ?_⟩, r4⟩
    rw [r3]
    have e : (t.map fun p => (Sum.inl p.1 : Key)) = (t.map (·.1)).map Sum.inl := by rw [List.map_map]; rfl
    rw [e]
    exact List.Pairwise.map _ (fun _ _ ne z => ne (Sum.inl.inj z)) hn
  · cases b
/-- the function object at f, as K has it -/
def fdOf (K : PySem.W.Frag) (f : Addr) : FuncData := match K.lookup f with
  | some ⟨_, _, .func d, _⟩ => d
  | _ => default
/-- what its text is -/
abbrev Fw : Type := Option (Str × Str × Arguments × FuncBody × Scope × Addr × List (Str × Addr) × Addr)
def fwOf (K : PySem.W.Frag) (f : Addr) : Fw := match K.lookup f with
  | some ⟨_, _, .func d, _⟩ => some (d.name, d.qualname, d.params, d.body, d.scope, d.globals, d.closure, d.builtins)
  | _ => none
def fwAt (x qual : Str) (st : Stmt) : Fw := some (x, qual, defArgs st, .stmts (defBody st), defScope st, mainGlobals, [], builtinsNs)
def noneV : Value → Bool
  | .none => true
  | _ => false
def fnB (K : PySem.W.Frag) (f : Addr) (qual : Str) : Bool := PySem.W.keepIn K (.ref f) && (match K.lookup f with
  | some ⟨_, _, .func d, _⟩ => PySem.W.codeIn K d.code qual && noneV d.defaults
  | _ => false)
def cdB (K : PySem.W.Frag) (f c : Addr) : Bool := match K.lookup f with
  | some ⟨_, _, .func d, _⟩ => (match d.code with | .ref a => Nat.beq a c | _ => false)
  | _ => false
theorem cdB_ok {K : PySem.W.Frag} {f c : Addr} (h : cdB K f c = true) : (fdOf K f).code = .ref c := by
  unfold cdB at h
  unfold fdOf
  split at h
  · rename_i d sl q
    split at h
    · rename_i a e
      show d.code = _
      rw [e, Nat.eq_of_beq_eq_true h]
    · cases h
  · cases h
theorem fun_of {K : PySem.W.Frag} {x qual : Str} {st : Stmt} {f : Addr} (e : fwOf K f = fwAt x qual st) (c : fnB K f qual = true) : Fun K x qual st f (fdOf K f) := by
  unfold fnB at c
  rw [Bool.and_eq_true] at c
  obtain ⟨kp, c2⟩ := c
  unfold fwOf at e
  cases q : K.lookup f with
  | none => rw [q] at c2; cases c2
  | some o =>
    obtain ⟨oc, od, dt, osl⟩ := o
    rw [q] at c2 e
    cases dt with
    | func fd =>
      obtain ⟨n1, n2, n3, n4, n5, n6, n7, n8, n9, n10, n11, n12, n13, n14, n15⟩ := fd
      have e2 : (some (n1, n2, n3, n4, n5, n6, n7, n15) : Fw) = fwAt x qual st := e
      unfold fwAt at e2
      simp only [Option.some.injEq, Prod.mk.injEq] at e2
      obtain ⟨h1, h2, h3, h4, h5, h6, h7, h8⟩ := e2
      subst h1 h2 h3 h4 h5 h6 h7 h8
      have c3 : (PySem.W.codeIn K n13 n2 && noneV n8) = true := c2
      rw [Bool.and_eq_true] at c3
      obtain ⟨k1, k2⟩ := c3
      cases n8 with
      | none =>
        have l : fdOf K f = PySem.W.fnOf n1 n2 (defArgs st) (defBody st) (defScope st) .none n9 n10 n11 n12 n13 n14 := by
          unfold fdOf
          rw [q]
        exact l ▸ fun_mk (st := st) q k1 kp
      | _ => cases k2
    | _ => cases c2
/-- a name stands for the object at b -/
def refB : Option (Option Value) → Addr → Bool
  | some (some (.ref a)), b => Nat.beq a b
  | _, _ => false
theorem refB_ok {r : Option (Option Value)} {b : Addr} (h : refB r b = true) : r = some (some (.ref b)) := by
  unfold refB at h
  split at h
  · rw [Nat.eq_of_beq_eq_true h]
  · cases h
def nonB : Option (Option Value) → Bool
  | some none => true
  | _ => false
theorem nonB_ok {r : Option (Option Value)} (h : nonB r = true) : r = some none := by
  unfold nonB at h
  split at h
  · rfl
  · cases h
def bltB (q : String) : Option (Option Value) → Bool
  | some (some (.builtin s)) => s == q
  | _ => false
theorem bltB_ok {q : String} {r : Option (Option Value)} (h : bltB q r = true) : r = some (some (.builtin q)) := by
  unfold bltB at h
  split at h
  · rw [eq_of_beq h]
  · cases h
def nth {α : Type} : List α → Nat → Option α
  | [], _ => none
  | a :: _, 0 => some a
  | _ :: l, n + 1 => nth l n
def allB : List Bool → Bool
  | [] => true
  | b :: l => cond b (allB l) false
theorem fact : ∀ {l : List Bool} (_ : allB l = true) (i : Nat) {x : Bool} (_ : nth l i = some x), x = true
  | [], _, _, _, e => by cases e
  | b :: l, h, i, x, e => by
    cases b with
    | false => cases h
    | true =>
      cases i with
      | zero => cases e; rfl
      | succ n => exact fact (l := l) h n e
end Cs
/-! Z50: what the top holds, as one look at its heap. -/
namespace Cs
open PySem PySem.Spec PyProof.Rows L2
theorem no_of {K : PySem.W.Frag} {C : Addr} {k j : Nat} (h : ((List.range 11).all fun j => cond (clsF k j) (nonB (PySem.W.findIn K (.ref C) (fNm j))) true) = true) (hj : j < 11) (hc : clsF k j = true) : NoAttr K C (fNm j) := by
  have z := List.all_eq_true.mp h j (List.mem_range.mpr hj)
  rw [hc] at z
  exact nonB_ok z
def faL : List Addr := [50, 57, 64, 78, 85, 92, 99, 106, 113, 127, 139, 144, 158, 165, 172, 179, 186, 193, 200, 214, 225, 251, 258, 265, 272, 279, 284, 291, 298, 305, 312, 338, 345, 379, 414, 421, 428, 435, 442, 449, 454, 459, 466, 473, 478, 485, 492, 499, 504, 511, 518, 525]
def fhL : List Addr := [386, 393, 400, 407, 530]
def cL : List Addr := [130, 203, 329, 45, 52, 248]
def ccL : List Addr := [49, 56, 250]
def faF (i : Nat) : Addr := (nth faL i).getD 0
def fhF (i : Nat) : Addr := (nth fhL i).getD 0
def cF (i : Nat) : Addr := (nth cL i).getD 0
def ccF (i : Nat) : Addr := (nth ccL i).getD 0
/-- the objects of the top that are looked at -/
def asL : List Addr := [3, 130, 203, 329, 129, 202, 328, 50, 49, 57, 56, 64, 63, 78, 77, 85, 84, 92, 91, 99, 98, 106, 105, 113, 112, 127, 126, 139, 138, 144, 143, 158, 157, 165, 164, 172, 171, 179, 178, 186, 185, 193, 192, 200, 199, 214, 213, 225, 224, 251, 250, 258, 257, 265, 264, 272, 271, 279, 278, 284, 283, 291, 290, 298, 297, 305, 304, 312, 311, 338, 337, 345, 344, 379, 378, 414, 413, 421, 420, 428, 427, 435, 434, 442, 441, 449, 448, 454, 453, 459, 458, 466, 465, 473, 472, 478, 477, 485, 484, 492, 491, 499, 498, 504, 503, 511, 510, 518, 517, 525, 524, 386, 385, 393, 392, 400, 399, 407, 406, 530, 529, 15, 16, 17, 18, 19, 20, 21, 22, 23, 24, 25, 26, 27, 28, 29, 30, 31, 32, 33, 34, 35, 36, 37, 38, 39, 40, 41, 42, 43, 346, 347, 348, 349, 350, 351, 352, 353, 354, 355, 356, 357, 358, 359, 360, 361, 362, 363, 364, 365, 366, 367, 368, 369, 370, 371, 372]
def tsL : List Addr := [45, 52, 248]
def fwsOf (K : PySem.W.Frag) : List Fw := [fwOf K 50, fwOf K 57, fwOf K 64, fwOf K 78, fwOf K 85, fwOf K 92, fwOf K 99, fwOf K 106, fwOf K 113, fwOf K 127, fwOf K 139, fwOf K 144, fwOf K 158, fwOf K 165, fwOf K 172, fwOf K 179, fwOf K 186, fwOf K 193, fwOf K 200, fwOf K 214, fwOf K 225, fwOf K 251, fwOf K 258, fwOf K 265, fwOf K 272, fwOf K 279, fwOf K 284, fwOf K 291, fwOf K 298, fwOf K 305, fwOf K 312, fwOf K 338, fwOf K 345, fwOf K 379, fwOf K 414, fwOf K 421, fwOf K 428, fwOf K 435, fwOf K 442, fwOf K 449, fwOf K 454, fwOf K 459, fwOf K 466, fwOf K 473, fwOf K 478, fwOf K 485, fwOf K 492, fwOf K 499, fwOf K 504, fwOf K 511, fwOf K 518, fwOf K 525, fwOf K 386, fwOf K 393, fwOf K 400, fwOf K 407, fwOf K 530]
def fwsAt : List Fw := [fwAt "size" "size" s0, fwAt "put" "put" s1, fwAt "axiom" "axiom" s2, fwAt "__init__" "Ledger.__init__" s3, fwAt "add" "Ledger.add" s4, fwAt "hypothesis" "Ledger.hypothesis" s5, fwAt "axiom" "Ledger.axiom" s6, fwAt "detach" "Ledger.detach" s7, fwAt "include" "Ledger.include" s8, fwAt "upto" "Ledger.upto" s9, fwAt "first_lines" "first_lines" s10, fwAt "trimmed" "trimmed" s11, fwAt "__init__" "Discharge.__init__" s12, fwAt "is_condition" "Discharge.is_condition" s13, fwAt "identity" "Discharge.identity" s14, fwAt "lift" "Discharge.lift" s15, fwAt "under" "Discharge.under" s16, fwAt "take" "Discharge.take" s17, fwAt "whole" "Discharge.whole" s18, fwAt "discharged" "discharged" s19, fwAt "parts_of" "parts_of" s20, fwAt "__init__" "Search.__init__" s21, fwAt "goals" "Search.goals" s22, fwAt "next_near" "Search.next_near" s23, fwAt "next_far" "Search.next_far" s24, fwAt "with_more" "Search.with_more" s25, fwAt "closure" "Search.closure" s26, fwAt "formula" "Search.formula" s27, fwAt "derive" "Search.derive" s28, fwAt "apply" "Search.apply" s29, fwAt "proof" "Search.proof" s30, fwAt "decide_from" "decide_from" s31, fwAt "decide" "decide" s32, fwAt "why_apart" "why_apart" s33, fwAt "_law_matches" "_law_matches" s34, fwAt "_law_if" "_law_if" s35, fwAt "_law_axiom" "_law_axiom" s36, fwAt "_law_line_fault" "_law_line_fault" s37, fwAt "_law_fault" "_law_fault" s38, fwAt "_law_hypotheses" "_law_hypotheses" s39, fwAt "_law_plain_why" "_law_plain_why" s40, fwAt "_law_right" "_law_right" s41, fwAt "_law_rising" "_law_rising" s42, fwAt "_law_row_of_values" "_law_row_of_values" s43, fwAt "_law_is_table" "_law_is_table" s44, fwAt "_law_keeps_rule" "_law_keeps_rule" s45, fwAt "_law_ways" "_law_ways" s46, fwAt "_law_parts" "_law_parts" s47, fwAt "_law_names" "_law_names" s48, fwAt "_law_value" "_law_value" s49, fwAt "_law_kept" "_law_kept" s50, fwAt "_law_parts_by" "_law_parts_by" s51, fwAt "_law_cell" "_law_cell" sC, fwAt "_law_digits" "_law_digits" sD, fwAt "_law_box" "_law_box" sB, fwAt "_law_draw" "_law_draw" sW, fwAt "law" "law" s52]
def factsL (K : PySem.W.Frag) : List Bool := [
  fnB K 50 "size",
  fnB K 57 "put",
  fnB K 64 "axiom",
  fnB K 78 "Ledger.__init__",
  fnB K 85 "Ledger.add",
  fnB K 92 "Ledger.hypothesis",
  fnB K 99 "Ledger.axiom",
  fnB K 106 "Ledger.detach",
  fnB K 113 "Ledger.include",
  fnB K 127 "Ledger.upto",
  fnB K 139 "first_lines",
  fnB K 144 "trimmed",
  fnB K 158 "Discharge.__init__",
  fnB K 165 "Discharge.is_condition",
  fnB K 172 "Discharge.identity",
  fnB K 179 "Discharge.lift",
  fnB K 186 "Discharge.under",
  fnB K 193 "Discharge.take",
  fnB K 200 "Discharge.whole",
  fnB K 214 "discharged",
  fnB K 225 "parts_of",
  fnB K 251 "Search.__init__",
  fnB K 258 "Search.goals",
  fnB K 265 "Search.next_near",
  fnB K 272 "Search.next_far",
  fnB K 279 "Search.with_more",
  fnB K 284 "Search.closure",
  fnB K 291 "Search.formula",
  fnB K 298 "Search.derive",
  fnB K 305 "Search.apply",
  fnB K 312 "Search.proof",
  fnB K 338 "decide_from",
  fnB K 345 "decide",
  fnB K 379 "why_apart",
  fnB K 414 "_law_matches",
  fnB K 421 "_law_if",
  fnB K 428 "_law_axiom",
  fnB K 435 "_law_line_fault",
  fnB K 442 "_law_fault",
  fnB K 449 "_law_hypotheses",
  fnB K 454 "_law_plain_why",
  fnB K 459 "_law_right",
  fnB K 466 "_law_rising",
  fnB K 473 "_law_row_of_values",
  fnB K 478 "_law_is_table",
  fnB K 485 "_law_keeps_rule",
  fnB K 492 "_law_ways",
  fnB K 499 "_law_parts",
  fnB K 504 "_law_names",
  fnB K 511 "_law_value",
  fnB K 518 "_law_kept",
  fnB K 525 "_law_parts_by",
  fnB K 386 "_law_cell",
  fnB K 393 "_law_digits",
  fnB K 400 "_law_box",
  fnB K 407 "_law_draw",
  fnB K 530 "law",
  refB (PySem.W.nsIn K mainGlobals "size") 50,
  refB (PySem.W.nsIn K mainGlobals "put") 57,
  refB (PySem.W.nsIn K mainGlobals "axiom") 64,
  refB (PySem.W.nsIn K mainGlobals "first_lines") 139,
  refB (PySem.W.nsIn K mainGlobals "trimmed") 144,
  refB (PySem.W.nsIn K mainGlobals "discharged") 214,
  refB (PySem.W.nsIn K mainGlobals "parts_of") 225,
  refB (PySem.W.nsIn K mainGlobals "decide_from") 338,
  refB (PySem.W.nsIn K mainGlobals "decide") 345,
  refB (PySem.W.nsIn K mainGlobals "why_apart") 379,
  refB (PySem.W.nsIn K mainGlobals "_law_matches") 414,
  refB (PySem.W.nsIn K mainGlobals "_law_if") 421,
  refB (PySem.W.nsIn K mainGlobals "_law_axiom") 428,
  refB (PySem.W.nsIn K mainGlobals "_law_line_fault") 435,
  refB (PySem.W.nsIn K mainGlobals "_law_fault") 442,
  refB (PySem.W.nsIn K mainGlobals "_law_hypotheses") 449,
  refB (PySem.W.nsIn K mainGlobals "_law_plain_why") 454,
  refB (PySem.W.nsIn K mainGlobals "_law_right") 459,
  refB (PySem.W.nsIn K mainGlobals "_law_rising") 466,
  refB (PySem.W.nsIn K mainGlobals "_law_row_of_values") 473,
  refB (PySem.W.nsIn K mainGlobals "_law_is_table") 478,
  refB (PySem.W.nsIn K mainGlobals "_law_keeps_rule") 485,
  refB (PySem.W.nsIn K mainGlobals "_law_ways") 492,
  refB (PySem.W.nsIn K mainGlobals "_law_parts") 499,
  refB (PySem.W.nsIn K mainGlobals "_law_names") 504,
  refB (PySem.W.nsIn K mainGlobals "_law_value") 511,
  refB (PySem.W.nsIn K mainGlobals "_law_kept") 518,
  refB (PySem.W.nsIn K mainGlobals "_law_parts_by") 525,
  refB (PySem.W.nsIn K mainGlobals "_law_cell") 386,
  refB (PySem.W.nsIn K mainGlobals "_law_digits") 393,
  refB (PySem.W.nsIn K mainGlobals "_law_box") 400,
  refB (PySem.W.nsIn K mainGlobals "_law_draw") 407,
  refB (PySem.W.nsIn K mainGlobals "law") 530,
  refB (PySem.W.findIn K (.ref 130) "__init__") 78,
  PySem.W.isFn K (.ref 78),
  refB (PySem.W.findIn K (.ref 130) "add") 85,
  PySem.W.isFn K (.ref 85),
  refB (PySem.W.findIn K (.ref 130) "hypothesis") 92,
  PySem.W.isFn K (.ref 92),
  refB (PySem.W.findIn K (.ref 130) "axiom") 99,
  PySem.W.isFn K (.ref 99),
  refB (PySem.W.findIn K (.ref 130) "detach") 106,
  PySem.W.isFn K (.ref 106),
  refB (PySem.W.findIn K (.ref 130) "include") 113,
  PySem.W.isFn K (.ref 113),
  refB (PySem.W.findIn K (.ref 130) "upto") 127,
  PySem.W.isFn K (.ref 127),
  refB (PySem.W.findIn K (.ref 203) "__init__") 158,
  PySem.W.isFn K (.ref 158),
  refB (PySem.W.findIn K (.ref 203) "is_condition") 165,
  PySem.W.isFn K (.ref 165),
  refB (PySem.W.findIn K (.ref 203) "identity") 172,
  PySem.W.isFn K (.ref 172),
  refB (PySem.W.findIn K (.ref 203) "lift") 179,
  PySem.W.isFn K (.ref 179),
  refB (PySem.W.findIn K (.ref 203) "under") 186,
  PySem.W.isFn K (.ref 186),
  refB (PySem.W.findIn K (.ref 203) "take") 193,
  PySem.W.isFn K (.ref 193),
  refB (PySem.W.findIn K (.ref 203) "whole") 200,
  PySem.W.isFn K (.ref 200),
  refB (PySem.W.findIn K (.ref 329) "__init__") 251,
  PySem.W.isFn K (.ref 251),
  refB (PySem.W.findIn K (.ref 329) "goals") 258,
  PySem.W.isFn K (.ref 258),
  refB (PySem.W.findIn K (.ref 329) "next_near") 265,
  PySem.W.isFn K (.ref 265),
  refB (PySem.W.findIn K (.ref 329) "next_far") 272,
  PySem.W.isFn K (.ref 272),
  refB (PySem.W.findIn K (.ref 329) "with_more") 279,
  PySem.W.isFn K (.ref 279),
  refB (PySem.W.findIn K (.ref 329) "closure") 284,
  PySem.W.isFn K (.ref 284),
  refB (PySem.W.findIn K (.ref 329) "formula") 291,
  PySem.W.isFn K (.ref 291),
  refB (PySem.W.findIn K (.ref 329) "derive") 298,
  PySem.W.isFn K (.ref 298),
  refB (PySem.W.findIn K (.ref 329) "apply") 305,
  PySem.W.isFn K (.ref 305),
  refB (PySem.W.findIn K (.ref 329) "proof") 312,
  PySem.W.isFn K (.ref 312),
  nonB (PySem.W.nsIn K mainGlobals "len"),
  nonB (PySem.W.nsIn K mainGlobals "tuple"),
  nonB (PySem.W.nsIn K mainGlobals "int"),
  nonB (PySem.W.nsIn K mainGlobals "bool"),
  nonB (PySem.W.nsIn K mainGlobals "isinstance"),
  nonB (PySem.W.nsIn K mainGlobals "sorted"),
  nonB (PySem.W.nsIn K mainGlobals "set"),
  nonB (PySem.W.nsIn K mainGlobals "dict"),
  nonB (PySem.W.nsIn K mainGlobals "zip"),
  nonB (PySem.W.nsIn K mainGlobals "sum"),
  nonB (PySem.W.nsIn K mainGlobals "range"),
  nonB (PySem.W.nsIn K mainGlobals "enumerate"),
  refB (PySem.W.nsIn K mainGlobals "axiom_formulas") 64,
  refB (PySem.W.nsIn K mainGlobals "AXIOMS") 19,
  ktB K tAx 19,
  refB (PySem.W.nsIn K mainGlobals "APART") 349,
  ktB K tAp 349,
  refB (PySem.W.nsIn K mainGlobals "Ledger") 130,
  PySem.W.makesIn K 130,
  PySem.W.keepIn K (.ref 130),
  PySem.W.plainGet K 130 Str.empty,
  PySem.W.hasDictIn K 130,
  PySem.W.plainOver K 130,
  bltB "object.__setattr__" (PySem.W.findIn K (.ref 130) "__setattr__"),
  (List.range 11).all fun j => cond (clsF 0 j) (nonB (PySem.W.findIn K (.ref 130) (fNm j))) true,
  refB (PySem.W.nsIn K mainGlobals "Discharge") 203,
  PySem.W.makesIn K 203,
  PySem.W.keepIn K (.ref 203),
  PySem.W.plainGet K 203 Str.empty,
  PySem.W.hasDictIn K 203,
  PySem.W.plainOver K 203,
  bltB "object.__setattr__" (PySem.W.findIn K (.ref 203) "__setattr__"),
  (List.range 11).all fun j => cond (clsF 1 j) (nonB (PySem.W.findIn K (.ref 203) (fNm j))) true,
  refB (PySem.W.nsIn K mainGlobals "Search") 329,
  PySem.W.makesIn K 329,
  PySem.W.keepIn K (.ref 329),
  PySem.W.plainGet K 329 Str.empty,
  PySem.W.hasDictIn K 329,
  PySem.W.plainOver K 329,
  bltB "object.__setattr__" (PySem.W.findIn K (.ref 329) "__setattr__"),
  (List.range 11).all fun j => cond (clsF 2 j) (nonB (PySem.W.findIn K (.ref 329) (fNm j))) true,
  cdB K 50 49,
  PySem.W.codeHdIn K 49 45,
  (K.lookup 45).isNone,
  cdB K 57 56,
  PySem.W.codeHdIn K 56 52,
  (K.lookup 52).isNone,
  cdB K 251 250,
  PySem.W.codeHdIn K 250 248,
  (K.lookup 248).isNone]
section
variable {P : Program} {w : World} {K : PySem.W.Frag} {mg : Str → Option Value} {h : Heap}
theorem fwk (e : fwsOf K = fwsAt) (i : Nat) {x y : Fw} (h1 : nth (fwsOf K) i = some x) (h2 : nth fwsAt i = some y) : x = y := by
  rw [e, h2] at h1
  exact (Option.some.inj h1).symm
theorem ck_of (b : allB (factsL K) = true) : CK K cF := by
  refine ⟨fun i hi => ?_, fun i j hj => ?_⟩
  · match i, hi with
    | 0, _ => exact ⟨fact b 158 rfl, fact b 159 rfl, fact b 160 rfl, bltB_ok (fact b 161 rfl)⟩
    | 1, _ => exact ⟨fact b 166 rfl, fact b 167 rfl, fact b 168 rfl, bltB_ok (fact b 169 rfl)⟩
    | 2, _ => exact ⟨fact b 174 rfl, fact b 175 rfl, fact b 176 rfl, bltB_ok (fact b 177 rfl)⟩
  · obtain ⟨h1, h2⟩ := clsF_ok hj
    match i, h1 with
    | 0, _ => exact no_of (K := K) (C := 130) (fact b 162 rfl) h2 hj
    | 1, _ => exact no_of (K := K) (C := 203) (fact b 170 rfl) h2 hj
    | 2, _ => exact no_of (K := K) (C := 329) (fact b 178 rfl) h2 hj
theorem kt_of (X : K.In h) (G : h.Ns mainGlobals mg) (b : allB (factsL K) = true) (e : fwsOf K = fwsAt) : Kt P w K mg cF faF ccF (fun i => fdOf K (faF i)) where
  ck := ck_of b
  cd0 := cdB_ok (fact b 179 rfl)
  cd1 := cdB_ok (fact b 182 rfl)
  cd21 := cdB_ok (fact b 185 rfl)
  ne0 := by decide +kernel
  ne1 := by decide +kernel
  m_len := PySem.W.mg_none_of X G (nonB_ok (fact b 138 rfl))
  m_tuple := PySem.W.mg_none_of X G (nonB_ok (fact b 139 rfl))
  m_int := PySem.W.mg_none_of X G (nonB_ok (fact b 140 rfl))
  m_bool := PySem.W.mg_none_of X G (nonB_ok (fact b 141 rfl))
  m_isinstance := PySem.W.mg_none_of X G (nonB_ok (fact b 142 rfl))
  m_sorted := PySem.W.mg_none_of X G (nonB_ok (fact b 143 rfl))
  m_set := PySem.W.mg_none_of X G (nonB_ok (fact b 144 rfl))
  m_dict := PySem.W.mg_none_of X G (nonB_ok (fact b 145 rfl))
  m_zip := PySem.W.mg_none_of X G (nonB_ok (fact b 146 rfl))
  m_sum := PySem.W.mg_none_of X G (nonB_ok (fact b 147 rfl))
  m_range := PySem.W.mg_none_of X G (nonB_ok (fact b 148 rfl))
  m_enumerate := PySem.W.mg_none_of X G (nonB_ok (fact b 149 rfl))
  tAx := ktab_of (PySem.W.mg_of X G (refB_ok (fact b 151 rfl))) (by decide +kernel) (fact b 152 rfl) (by decide +kernel)
  tAp := ktab_of (PySem.W.mg_of X G (refB_ok (fact b 153 rfl))) (by decide +kernel) (fact b 154 rfl) (by decide +kernel)
  ga_axiom_formulas := PySem.W.mg_of X G (refB_ok (fact b 150 rfl))
  gc0 := PySem.W.mg_of X G (refB_ok (fact b 155 rfl))
  mk0 := ⟨(fact b 156 rfl), refB_ok (fact b 90 rfl), (fact b 91 rfl), (fact b 157 rfl)⟩
  gc1 := PySem.W.mg_of X G (refB_ok (fact b 163 rfl))
  mk1 := ⟨(fact b 164 rfl), refB_ok (fact b 104 rfl), (fact b 105 rfl), (fact b 165 rfl)⟩
  gc2 := PySem.W.mg_of X G (refB_ok (fact b 171 rfl))
  mk2 := ⟨(fact b 172 rfl), refB_ok (fact b 118 rfl), (fact b 119 rfl), (fact b 173 rfl)⟩
  F0 := (fun_of (fwk e 0 rfl rfl) (fact b 0 rfl))
  b0 := ((fun_of (fwk e 0 rfl rfl) (fact b 0 rfl)).binds (ps := ["formula"]) fun _ _ _ _ _ _ us hl => match us, hl with | [_], _ => rfl)
  g0 := PySem.W.mg_of X G (refB_ok (fact b 57 rfl))
  F1 := (fun_of (fwk e 1 rfl rfl) (fact b 1 rfl))
  b1 := ((fun_of (fwk e 1 rfl rfl) (fact b 1 rfl)).binds (ps := ["formula", "table"]) fun _ _ _ _ _ _ us hl => match us, hl with | [_, _], _ => rfl)
  g1 := PySem.W.mg_of X G (refB_ok (fact b 58 rfl))
  F2 := (fun_of (fwk e 2 rfl rfl) (fact b 2 rfl))
  b2 := ((fun_of (fwk e 2 rfl rfl) (fact b 2 rfl)).binds (ps := ["k"]) fun _ _ _ _ _ _ us hl => match us, hl with | [_], _ => rfl)
  g2 := PySem.W.mg_of X G (refB_ok (fact b 59 rfl))
  F3 := (fun_of (fwk e 3 rfl rfl) (fact b 3 rfl))
  b3 := ((fun_of (fwk e 3 rfl rfl) (fact b 3 rfl)).binds (ps := ["self"]) fun _ _ _ _ _ _ us hl => match us, hl with | [_], _ => rfl)
  F4 := (fun_of (fwk e 4 rfl rfl) (fact b 4 rfl))
  b4 := ((fun_of (fwk e 4 rfl rfl) (fact b 4 rfl)).binds (ps := ["self", "formula", "why"]) fun _ _ _ _ _ _ us hl => match us, hl with | [_, _, _], _ => rfl)
  me4 := ⟨refB_ok (fact b 92 rfl), (fact b 93 rfl), (fun_of (fwk e 4 rfl rfl) (fact b 4 rfl)).kp⟩
  F5 := (fun_of (fwk e 5 rfl rfl) (fact b 5 rfl))
  b5 := ((fun_of (fwk e 5 rfl rfl) (fact b 5 rfl)).binds (ps := ["self", "formula"]) fun _ _ _ _ _ _ us hl => match us, hl with | [_, _], _ => rfl)
  me5 := ⟨refB_ok (fact b 94 rfl), (fact b 95 rfl), (fun_of (fwk e 5 rfl rfl) (fact b 5 rfl)).kp⟩
  F6 := (fun_of (fwk e 6 rfl rfl) (fact b 6 rfl))
  me6 := ⟨refB_ok (fact b 96 rfl), (fact b 97 rfl), (fun_of (fwk e 6 rfl rfl) (fact b 6 rfl)).kp⟩
  F7 := (fun_of (fwk e 7 rfl rfl) (fact b 7 rfl))
  b7 := ((fun_of (fwk e 7 rfl rfl) (fact b 7 rfl)).binds (ps := ["self", "first", "second"]) fun _ _ _ _ _ _ us hl => match us, hl with | [_, _, _], _ => rfl)
  me7 := ⟨refB_ok (fact b 98 rfl), (fact b 99 rfl), (fun_of (fwk e 7 rfl rfl) (fact b 7 rfl)).kp⟩
  F8 := (fun_of (fwk e 8 rfl rfl) (fact b 8 rfl))
  b8 := ((fun_of (fwk e 8 rfl rfl) (fact b 8 rfl)).binds (ps := ["self", "proof"]) fun _ _ _ _ _ _ us hl => match us, hl with | [_, _], _ => rfl)
  me8 := ⟨refB_ok (fact b 100 rfl), (fact b 101 rfl), (fun_of (fwk e 8 rfl rfl) (fact b 8 rfl)).kp⟩
  F9 := (fun_of (fwk e 9 rfl rfl) (fact b 9 rfl))
  b9 := ((fun_of (fwk e 9 rfl rfl) (fact b 9 rfl)).binds (ps := ["self", "place"]) fun _ _ _ _ _ _ us hl => match us, hl with | [_, _], _ => rfl)
  me9 := ⟨refB_ok (fact b 102 rfl), (fact b 103 rfl), (fun_of (fwk e 9 rfl rfl) (fact b 9 rfl)).kp⟩
  F10 := (fun_of (fwk e 10 rfl rfl) (fact b 10 rfl))
  b10 := ((fun_of (fwk e 10 rfl rfl) (fact b 10 rfl)).binds (ps := ["proof"]) fun _ _ _ _ _ _ us hl => match us, hl with | [_], _ => rfl)
  g10 := PySem.W.mg_of X G (refB_ok (fact b 60 rfl))
  F11 := (fun_of (fwk e 11 rfl rfl) (fact b 11 rfl))
  b11 := ((fun_of (fwk e 11 rfl rfl) (fact b 11 rfl)).binds (ps := ["proof"]) fun _ _ _ _ _ _ us hl => match us, hl with | [_], _ => rfl)
  g11 := PySem.W.mg_of X G (refB_ok (fact b 61 rfl))
  F12 := (fun_of (fwk e 12 rfl rfl) (fact b 12 rfl))
  b12 := ((fun_of (fwk e 12 rfl rfl) (fact b 12 rfl)).binds (ps := ["self", "proof", "condition"]) fun _ _ _ _ _ _ us hl => match us, hl with | [_, _, _], _ => rfl)
  F13 := (fun_of (fwk e 13 rfl rfl) (fact b 13 rfl))
  b13 := ((fun_of (fwk e 13 rfl rfl) (fact b 13 rfl)).binds (ps := ["self", "number"]) fun _ _ _ _ _ _ us hl => match us, hl with | [_, _], _ => rfl)
  me13 := ⟨refB_ok (fact b 106 rfl), (fact b 107 rfl), (fun_of (fwk e 13 rfl rfl) (fact b 13 rfl)).kp⟩
  F14 := (fun_of (fwk e 14 rfl rfl) (fact b 14 rfl))
  b14 := ((fun_of (fwk e 14 rfl rfl) (fact b 14 rfl)).binds (ps := ["self"]) fun _ _ _ _ _ _ us hl => match us, hl with | [_], _ => rfl)
  me14 := ⟨refB_ok (fact b 108 rfl), (fact b 109 rfl), (fun_of (fwk e 14 rfl rfl) (fact b 14 rfl)).kp⟩
  F15 := (fun_of (fwk e 15 rfl rfl) (fact b 15 rfl))
  b15 := ((fun_of (fwk e 15 rfl rfl) (fact b 15 rfl)).binds (ps := ["self", "number"]) fun _ _ _ _ _ _ us hl => match us, hl with | [_, _], _ => rfl)
  me15 := ⟨refB_ok (fact b 110 rfl), (fact b 111 rfl), (fun_of (fwk e 15 rfl rfl) (fact b 15 rfl)).kp⟩
  F16 := (fun_of (fwk e 16 rfl rfl) (fact b 16 rfl))
  b16 := ((fun_of (fwk e 16 rfl rfl) (fact b 16 rfl)).binds (ps := ["self", "number", "first", "second"]) fun _ _ _ _ _ _ us hl => match us, hl with | [_, _, _, _], _ => rfl)
  me16 := ⟨refB_ok (fact b 112 rfl), (fact b 113 rfl), (fun_of (fwk e 16 rfl rfl) (fact b 16 rfl)).kp⟩
  F17 := (fun_of (fwk e 17 rfl rfl) (fact b 17 rfl))
  b17 := ((fun_of (fwk e 17 rfl rfl) (fact b 17 rfl)).binds (ps := ["self", "number"]) fun _ _ _ _ _ _ us hl => match us, hl with | [_, _], _ => rfl)
  me17 := ⟨refB_ok (fact b 114 rfl), (fact b 115 rfl), (fun_of (fwk e 17 rfl rfl) (fact b 17 rfl)).kp⟩
  F18 := (fun_of (fwk e 18 rfl rfl) (fact b 18 rfl))
  b18 := ((fun_of (fwk e 18 rfl rfl) (fact b 18 rfl)).binds (ps := ["self"]) fun _ _ _ _ _ _ us hl => match us, hl with | [_], _ => rfl)
  me18 := ⟨refB_ok (fact b 116 rfl), (fact b 117 rfl), (fun_of (fwk e 18 rfl rfl) (fact b 18 rfl)).kp⟩
  F19 := (fun_of (fwk e 19 rfl rfl) (fact b 19 rfl))
  b19 := ((fun_of (fwk e 19 rfl rfl) (fact b 19 rfl)).binds (ps := ["proof", "formula"]) fun _ _ _ _ _ _ us hl => match us, hl with | [_, _], _ => rfl)
  g19 := PySem.W.mg_of X G (refB_ok (fact b 62 rfl))
  F20 := (fun_of (fwk e 20 rfl rfl) (fact b 20 rfl))
  b20 := ((fun_of (fwk e 20 rfl rfl) (fact b 20 rfl)).binds (ps := ["formula", "strength"]) fun _ _ _ _ _ _ us hl => match us, hl with | [_, _], _ => rfl)
  g20 := PySem.W.mg_of X G (refB_ok (fact b 63 rfl))
  F21 := (fun_of (fwk e 21 rfl rfl) (fact b 21 rfl))
  b21 := ((fun_of (fwk e 21 rfl rfl) (fact b 21 rfl)).binds (ps := ["self", "formulas", "strength"]) fun _ _ _ _ _ _ us hl => match us, hl with | [_, _, _], _ => rfl)
  F22 := (fun_of (fwk e 22 rfl rfl) (fact b 22 rfl))
  b22 := ((fun_of (fwk e 22 rfl rfl) (fact b 22 rfl)).binds (ps := ["self", "place"]) fun _ _ _ _ _ _ us hl => match us, hl with | [_, _], _ => rfl)
  me22 := ⟨refB_ok (fact b 120 rfl), (fact b 121 rfl), (fun_of (fwk e 22 rfl rfl) (fact b 22 rfl)).kp⟩
  F23 := (fun_of (fwk e 23 rfl rfl) (fact b 23 rfl))
  b23 := ((fun_of (fwk e 23 rfl rfl) (fact b 23 rfl)).binds (ps := ["self", "reasons"]) fun _ _ _ _ _ _ us hl => match us, hl with | [_, _], _ => rfl)
  me23 := ⟨refB_ok (fact b 122 rfl), (fact b 123 rfl), (fun_of (fwk e 23 rfl rfl) (fact b 23 rfl)).kp⟩
  F24 := (fun_of (fwk e 24 rfl rfl) (fact b 24 rfl))
  b24 := ((fun_of (fwk e 24 rfl rfl) (fact b 24 rfl)).binds (ps := ["self", "given", "reasons"]) fun _ _ _ _ _ _ us hl => match us, hl with | [_, _, _], _ => rfl)
  me24 := ⟨refB_ok (fact b 124 rfl), (fact b 125 rfl), (fun_of (fwk e 24 rfl rfl) (fact b 24 rfl)).kp⟩
  F25 := (fun_of (fwk e 25 rfl rfl) (fact b 25 rfl))
  b25 := ((fun_of (fwk e 25 rfl rfl) (fact b 25 rfl)).binds (ps := ["self", "given", "place"]) fun _ _ _ _ _ _ us hl => match us, hl with | [_, _, _], _ => rfl)
  me25 := ⟨refB_ok (fact b 126 rfl), (fact b 127 rfl), (fun_of (fwk e 25 rfl rfl) (fact b 25 rfl)).kp⟩
  F26 := (fun_of (fwk e 26 rfl rfl) (fact b 26 rfl))
  b26 := ((fun_of (fwk e 26 rfl rfl) (fact b 26 rfl)).binds (ps := ["self", "given"]) fun _ _ _ _ _ _ us hl => match us, hl with | [_, _], _ => rfl)
  me26 := ⟨refB_ok (fact b 128 rfl), (fact b 129 rfl), (fun_of (fwk e 26 rfl rfl) (fact b 26 rfl)).kp⟩
  F27 := (fun_of (fwk e 27 rfl rfl) (fact b 27 rfl))
  b27 := ((fun_of (fwk e 27 rfl rfl) (fact b 27 rfl)).binds (ps := ["self", "place"]) fun _ _ _ _ _ _ us hl => match us, hl with | [_, _], _ => rfl)
  me27 := ⟨refB_ok (fact b 130 rfl), (fact b 131 rfl), (fun_of (fwk e 27 rfl rfl) (fact b 27 rfl)).kp⟩
  F28 := (fun_of (fwk e 28 rfl rfl) (fact b 28 rfl))
  b28 := ((fun_of (fwk e 28 rfl rfl) (fact b 28 rfl)).binds (ps := ["self", "given", "place", "ledger"]) fun _ _ _ _ _ _ us hl => match us, hl with | [_, _, _, _], _ => rfl)
  me28 := ⟨refB_ok (fact b 132 rfl), (fact b 133 rfl), (fun_of (fwk e 28 rfl rfl) (fact b 28 rfl)).kp⟩
  F29 := (fun_of (fwk e 29 rfl rfl) (fact b 29 rfl))
  b29 := ((fun_of (fwk e 29 rfl rfl) (fact b 29 rfl)).binds (ps := ["self", "given", "reason", "ledger"]) fun _ _ _ _ _ _ us hl => match us, hl with | [_, _, _, _], _ => rfl)
  me29 := ⟨refB_ok (fact b 134 rfl), (fact b 135 rfl), (fun_of (fwk e 29 rfl rfl) (fact b 29 rfl)).kp⟩
  F30 := (fun_of (fwk e 30 rfl rfl) (fact b 30 rfl))
  b30 := ((fun_of (fwk e 30 rfl rfl) (fact b 30 rfl)).binds (ps := ["self", "given", "place"]) fun _ _ _ _ _ _ us hl => match us, hl with | [_, _, _], _ => rfl)
  me30 := ⟨refB_ok (fact b 136 rfl), (fact b 137 rfl), (fun_of (fwk e 30 rfl rfl) (fact b 30 rfl)).kp⟩
  F31 := (fun_of (fwk e 31 rfl rfl) (fact b 31 rfl))
  b31 := ((fun_of (fwk e 31 rfl rfl) (fact b 31 rfl)).binds (ps := ["hypotheses", "formula", "strength"]) fun _ _ _ _ _ _ us hl => match us, hl with | [_, _, _], _ => rfl)
  g31 := PySem.W.mg_of X G (refB_ok (fact b 64 rfl))
  F32 := (fun_of (fwk e 32 rfl rfl) (fact b 32 rfl))
  b32 := ((fun_of (fwk e 32 rfl rfl) (fact b 32 rfl)).binds (ps := ["formula", "strength"]) fun _ _ _ _ _ _ us hl => match us, hl with | [_, _], _ => rfl)
  g32 := PySem.W.mg_of X G (refB_ok (fact b 65 rfl))
  F33 := (fun_of (fwk e 33 rfl rfl) (fact b 33 rfl))
  b33 := ((fun_of (fwk e 33 rfl rfl) (fact b 33 rfl)).binds (ps := ["k"]) fun _ _ _ _ _ _ us hl => match us, hl with | [_], _ => rfl)
  g33 := PySem.W.mg_of X G (refB_ok (fact b 66 rfl))
  F34 := (fun_of (fwk e 34 rfl rfl) (fact b 34 rfl))
  b34 := ((fun_of (fwk e 34 rfl rfl) (fact b 34 rfl)).binds (ps := ["_law_pattern", "_law_formula", "_law_found"]) fun _ _ _ _ _ _ us hl => match us, hl with | [_, _, _], _ => rfl)
  g34 := PySem.W.mg_of X G (refB_ok (fact b 67 rfl))
  F35 := (fun_of (fwk e 35 rfl rfl) (fact b 35 rfl))
  b35 := ((fun_of (fwk e 35 rfl rfl) (fact b 35 rfl)).binds (ps := ["_law_rows"]) fun _ _ _ _ _ _ us hl => match us, hl with | [_], _ => rfl)
  g35 := PySem.W.mg_of X G (refB_ok (fact b 68 rfl))
  F36 := (fun_of (fwk e 36 rfl rfl) (fact b 36 rfl))
  b36 := ((fun_of (fwk e 36 rfl rfl) (fact b 36 rfl)).binds (ps := ["_law_k"]) fun _ _ _ _ _ _ us hl => match us, hl with | [_], _ => rfl)
  g36 := PySem.W.mg_of X G (refB_ok (fact b 69 rfl))
  F37 := (fun_of (fwk e 37 rfl rfl) (fact b 37 rfl))
  b37 := ((fun_of (fwk e 37 rfl rfl) (fact b 37 rfl)).binds (ps := ["_law_proof", "_law_k"]) fun _ _ _ _ _ _ us hl => match us, hl with | [_, _], _ => rfl)
  g37 := PySem.W.mg_of X G (refB_ok (fact b 70 rfl))
  F38 := (fun_of (fwk e 38 rfl rfl) (fact b 38 rfl))
  b38 := ((fun_of (fwk e 38 rfl rfl) (fact b 38 rfl)).binds (ps := ["_law_proof"]) fun _ _ _ _ _ _ us hl => match us, hl with | [_], _ => rfl)
  g38 := PySem.W.mg_of X G (refB_ok (fact b 71 rfl))
  F39 := (fun_of (fwk e 39 rfl rfl) (fact b 39 rfl))
  b39 := ((fun_of (fwk e 39 rfl rfl) (fact b 39 rfl)).binds (ps := ["_law_proof"]) fun _ _ _ _ _ _ us hl => match us, hl with | [_], _ => rfl)
  g39 := PySem.W.mg_of X G (refB_ok (fact b 72 rfl))
  F40 := (fun_of (fwk e 40 rfl rfl) (fact b 40 rfl))
  b40 := ((fun_of (fwk e 40 rfl rfl) (fact b 40 rfl)).binds (ps := ["_law_why"]) fun _ _ _ _ _ _ us hl => match us, hl with | [_], _ => rfl)
  g40 := PySem.W.mg_of X G (refB_ok (fact b 73 rfl))
  F41 := (fun_of (fwk e 41 rfl rfl) (fact b 41 rfl))
  b41 := ((fun_of (fwk e 41 rfl rfl) (fact b 41 rfl)).binds (ps := ["_law_proof", "_law_given", "_law_formula", "_law_axioms"]) fun _ _ _ _ _ _ us hl => match us, hl with | [_, _, _, _], _ => rfl)
  g41 := PySem.W.mg_of X G (refB_ok (fact b 74 rfl))
  F42 := (fun_of (fwk e 42 rfl rfl) (fact b 42 rfl))
  b42 := ((fun_of (fwk e 42 rfl rfl) (fact b 42 rfl)).binds (ps := ["_law_row", "_law_many"]) fun _ _ _ _ _ _ us hl => match us, hl with | [_, _], _ => rfl)
  g42 := PySem.W.mg_of X G (refB_ok (fact b 75 rfl))
  F43 := (fun_of (fwk e 43 rfl rfl) (fact b 43 rfl))
  b43 := ((fun_of (fwk e 43 rfl rfl) (fact b 43 rfl)).binds (ps := ["_law_row", "_law_many"]) fun _ _ _ _ _ _ us hl => match us, hl with | [_, _], _ => rfl)
  g43 := PySem.W.mg_of X G (refB_ok (fact b 76 rfl))
  F44 := (fun_of (fwk e 44 rfl rfl) (fact b 44 rfl))
  b44 := ((fun_of (fwk e 44 rfl rfl) (fact b 44 rfl)).binds (ps := ["_law_table"]) fun _ _ _ _ _ _ us hl => match us, hl with | [_], _ => rfl)
  g44 := PySem.W.mg_of X G (refB_ok (fact b 77 rfl))
  F45 := (fun_of (fwk e 45 rfl rfl) (fact b 45 rfl))
  b45 := ((fun_of (fwk e 45 rfl rfl) (fact b 45 rfl)).binds (ps := ["_law_table"]) fun _ _ _ _ _ _ us hl => match us, hl with | [_], _ => rfl)
  g45 := PySem.W.mg_of X G (refB_ok (fact b 78 rfl))
  F46 := (fun_of (fwk e 46 rfl rfl) (fact b 46 rfl))
  b46 := ((fun_of (fwk e 46 rfl rfl) (fact b 46 rfl)).binds (ps := ["_law_names_here", "_law_many"]) fun _ _ _ _ _ _ us hl => match us, hl with | [_, _], _ => rfl)
  g46 := PySem.W.mg_of X G (refB_ok (fact b 79 rfl))
  F47 := (fun_of (fwk e 47 rfl rfl) (fact b 47 rfl))
  b47 := ((fun_of (fwk e 47 rfl rfl) (fact b 47 rfl)).binds (ps := ["_law_formula"]) fun _ _ _ _ _ _ us hl => match us, hl with | [_], _ => rfl)
  g47 := PySem.W.mg_of X G (refB_ok (fact b 80 rfl))
  F48 := (fun_of (fwk e 48 rfl rfl) (fact b 48 rfl))
  b48 := ((fun_of (fwk e 48 rfl rfl) (fact b 48 rfl)).binds (ps := ["_law_formula"]) fun _ _ _ _ _ _ us hl => match us, hl with | [_], _ => rfl)
  g48 := PySem.W.mg_of X G (refB_ok (fact b 81 rfl))
  F49 := (fun_of (fwk e 49 rfl rfl) (fact b 49 rfl))
  b49 := ((fun_of (fwk e 49 rfl rfl) (fact b 49 rfl)).binds (ps := ["_law_table", "_law_formula", "_law_values"]) fun _ _ _ _ _ _ us hl => match us, hl with | [_, _, _], _ => rfl)
  g49 := PySem.W.mg_of X G (refB_ok (fact b 82 rfl))
  F50 := (fun_of (fwk e 50 rfl rfl) (fact b 50 rfl))
  b50 := ((fun_of (fwk e 50 rfl rfl) (fact b 50 rfl)).binds (ps := ["_law_table", "_law_formula"]) fun _ _ _ _ _ _ us hl => match us, hl with | [_, _], _ => rfl)
  g50 := PySem.W.mg_of X G (refB_ok (fact b 83 rfl))
  F51 := (fun_of (fwk e 51 rfl rfl) (fact b 51 rfl))
  b51 := ((fun_of (fwk e 51 rfl rfl) (fact b 51 rfl)).binds (ps := ["_law_table", "_law_axioms", "_law_formula"]) fun _ _ _ _ _ _ us hl => match us, hl with | [_, _, _], _ => rfl)
  g51 := PySem.W.mg_of X G (refB_ok (fact b 84 rfl))
theorem kh_of (X : K.In h) (G : h.Ns mainGlobals mg) (b : allB (factsL K) = true) (e : fwsOf K = fwsAt) : Kh K mg fhF (fun i => fdOf K (fhF i)) where
  FC := (fun_of (fwk e 52 rfl rfl) (fact b 52 rfl))
  bC := ((fun_of (fwk e 52 rfl rfl) (fact b 52 rfl)).binds (ps := ["_law_script", "_law_k"]) fun _ _ _ _ _ _ us hl => match us, hl with | [_, _], _ => rfl)
  gC := PySem.W.mg_of X G (refB_ok (fact b 85 rfl))
  FD := (fun_of (fwk e 53 rfl rfl) (fact b 53 rfl))
  bD := ((fun_of (fwk e 53 rfl rfl) (fact b 53 rfl)).binds (ps := ["_law_script", "_law_first", "_law_last"]) fun _ _ _ _ _ _ us hl => match us, hl with | [_, _, _], _ => rfl)
  gD := PySem.W.mg_of X G (refB_ok (fact b 86 rfl))
  FB := (fun_of (fwk e 54 rfl rfl) (fact b 54 rfl))
  bB := ((fun_of (fwk e 54 rfl rfl) (fact b 54 rfl)).binds (ps := ["_law_script", "_law_first", "_law_last"]) fun _ _ _ _ _ _ us hl => match us, hl with | [_, _, _], _ => rfl)
  gB := PySem.W.mg_of X G (refB_ok (fact b 87 rfl))
  FW := (fun_of (fwk e 55 rfl rfl) (fact b 55 rfl))
  bW := ((fun_of (fwk e 55 rfl rfl) (fact b 55 rfl)).binds (ps := ["_law_box_here", "_law_many"]) fun _ _ _ _ _ _ us hl => match us, hl with | [_, _], _ => rfl)
  gW := PySem.W.mg_of X G (refB_ok (fact b 88 rfl))
  FL := (fun_of (fwk e 56 rfl rfl) (fact b 56 rfl))
theorem gl_of (X : K.In h) (G : h.Ns mainGlobals mg) (b : allB (factsL K) = true) : mg "law" = some (.ref (fhF 4)) := PySem.W.mg_of X G (refB_ok (fact b 89 rfl))
theorem ch0_of (X : K.In h) (b : allB (factsL K) = true) : PySem.W.CodeHd h (ccF 0) (cF 3) := PySem.W.codeHd_of_K X (fact b 180 rfl)
theorem tn0_of (b : allB (factsL K) = true) : K.lookup (cF 3) = none := Option.isNone_iff_eq_none.mp (fact b 181 rfl)
theorem ch1_of (X : K.In h) (b : allB (factsL K) = true) : PySem.W.CodeHd h (ccF 1) (cF 4) := PySem.W.codeHd_of_K X (fact b 183 rfl)
theorem tn1_of (b : allB (factsL K) = true) : K.lookup (cF 4) = none := Option.isNone_iff_eq_none.mp (fact b 184 rfl)
theorem ch2_of (X : K.In h) (b : allB (factsL K) = true) : PySem.W.CodeHd h (ccF 2) (cF 5) := PySem.W.codeHd_of_K X (fact b 186 rfl)
theorem tn2_of (b : allB (factsL K) = true) : K.lookup (cF 5) = none := Option.isNone_iff_eq_none.mp (fact b 187 rfl)
end
end Cs
/-! Z51: the look at the top's heap as the head's hook; the law's walk. -/
namespace Cs
open PySem PySem.Spec PyProof.Rows L2
abbrev Look : Type := Bool × List Fw × List (Option Obj)
def lookAt (g : Addr → Option Obj) : Look := (allB (factsL (He.frG g asL)), fwsOf (He.frG g asL), tsL.map g)
def lookOk : Look := (true, fwsAt, tsL.map fun _ => some (PySem.W.tabObj #[]))
def SaysL (h : Heap) : Prop := (∃ K : PySem.W.Frag, K.In h ∧ allB (factsL K) = true ∧ fwsOf K = fwsAt) ∧ ∀ q ∈ tsL, h.get? q = some (PySem.W.tabObj #[])
theorem says_of {h : Heap} (e : lookAt h.get? = lookOk) : SaysL h :=
  ⟨⟨_, He.frG_in, congrArg (fun z : Look => z.1) e, congrArg (fun z : Look => z.2.1) e⟩, List.map_inj_left.mp (congrArg (fun z : Look => z.2.2) e)⟩
def hk : PySem.W.Hook := ⟨Look, fun s => lookAt s.heap.get?, fun _ => lookOk, fun _ h => SaysL h, fun _ _ e => says_of e, fun _ _ _ x k => ⟨let ⟨K, a, b⟩ := x.1; ⟨K, a.keeps k, b⟩, fun q hq => k _ _ (x.2 q hq)⟩⟩
abbrev csL : List (Addr × Addr) := [(ccF 0, cF 3), (ccF 1, cF 4), (ccF 2, cF 5)]
theorem cs_all {p : Addr × Addr → Prop} (h0 : p (ccF 0, cF 3)) (h1 : p (ccF 1, cF 4)) (h2 : p (ccF 2, cF 5)) : ∀ q ∈ csL, p q := by
  intro q hq
  rcases List.mem_cons.mp hq with rfl | hq
  · exact h0
  · rcases List.mem_cons.mp hq with rfl | hq
    · exact h1
    · rcases List.mem_cons.mp hq with rfl | hq
      · exact h2
      · cases hq
theorem tab_g {base : Heap} {mg : Str → Option Value} {c p : Addr} (t : LamX.TabB base mg c p) : GxR.TabB base mg c p := ⟨t.code, t.bm, t.gP⟩
theorem walkL {l : PySem.W.OpenLaw} {q : Program} {loose : List Str} {XP : (Str → Option Value) → Heap → Prop} {d : DefRec} (hn : l.most = some 63) (hdf : d.params.defaults = []) (hnm : d.name = "law") :
    PySem.W.WalkO q loose XP hk.says l.row.toRowW d [] (fun f vs => PySem.call f vs) := by
  refine Att.attach_callB hn hdf ?_
  intro w s0 s1 mg mb f o pm cd doc a vs ns G Y ho hd hcd hmg hobj hints hlen hbits hg
  obtain ⟨⟨K, X, b, e⟩, tabs⟩ := Y
  have T := kt_of (P := l.prog) (w := w) X G.T.g b e
  have U := kh_of X G.T.g b e
  rw [hnm] at hmg
  have ef := hmg.symm.trans (gl_of X G.T.g b)
  obtain rfl : f = fhF 4 := Value.ref.inj (Option.some.inj ef)
  have hb : ∀ (s : Shared) (u : Value), BindsTo s (fdOf K (fhF 4)) ⟨[u], []⟩ [("_law_script", u)] := by
    obtain ⟨oc, od, kV, dc, pm', an, cdv, ct, osl, hfd, lk, hcd'⟩ := U.FL.ex
    have hfd' : fdOf K (fhF 4) = _ := hfd
    rw [hfd']
    exact fun s u => .of_eq rfl
  have m0 : (ccF 0, cF 3) ∈ csL := List.mem_cons_self
  have m1 : (ccF 1, cF 4) ∈ csL := List.mem_cons_of_mem _ List.mem_cons_self
  have m2 : (ccF 2, cF 5) ∈ csL := List.mem_cons_of_mem _ (List.mem_cons_of_mem _ List.mem_cons_self)
  refine LamX.law_callTs (cs := csL) (sp := spL K cF) (x := "_law_script") (k := 34) (CX := CX0) X G.T.g G.T.b G.T.builtins G.T.nolimit hg ?t1 ?t2 ?t3 G.T.bmain hobj hints (Nat.le_trans hlen (by decide)) ⟨rfl, by decide, by decide⟩ ?t4 hb ?t5 (fun _ _ _ z => z)
  case t1 => exact cs_all (tabs _ (by decide)) (tabs _ (by decide)) (tabs _ (by decide))
  case t2 => exact cs_all (tn0_of b) (tn1_of b) (tn2_of b)
  case t3 => exact cs_all (ch0_of X b) (ch1_of X b) (ch2_of X b)
  case t4 => exact fun base _ _ tb => okL T U (tab_g (tb _ m0)) (tab_g (tb _ m1)) (tab_g (tb _ m2))
  case t5 =>
    refine fun H hH hS => ⟨a, ns, rfl, hS, fun i hi => ?_, fun _ => rfl⟩
    match i, hi with
    | 0, _ => exact hH _ m0
    | 1, _ => exact hH _ m1
    | 2, _ => exact hH _ m2
end Cs
open PySem PySem.W PyProof.Rows in
set_option maxRecDepth 100000 in
set_option maxHeartbeats 0 in
theorem PySem.Challenge.cw_conceptscript_k62_axioms_that_stand_apar_holds : PySem.Challenge.rw_conceptscript_k62_axioms_that_stand_apar.Holds := by
  w_on; o_law; o_head Cs.hk; (case hw => w_witness2)
  case hc => exact Cs.walkL (l := PySem.Challenge.rw_conceptscript_k62_axioms_that_stand_apar) rfl rfl rfl
#print axioms PySem.Challenge.cw_conceptscript_k62_axioms_that_stand_apar_holds
