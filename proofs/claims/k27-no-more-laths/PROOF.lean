import PyProof.Rows.All
import Wide.All
import OpenK.AllK
import Wide.FinOn
import HandS.ForMost
import HandS.Exc
import HandS.WordsExc
import HandS.Defaults
import HandS.Deep
import HandS.IsInst
import HandS.Style
import KE.SortData
import HandS.Conv
import HandS.More
import HandS.TryOnly
import HandS.CallSlots
import HandS.Small
import HandS.WordsDict
import HandS.SetFor
import HandS.Head0
import HandS.Head1
import HandS.Head2
import HandS.HeadEnd
import HandS.HeadHook1
import HandS.HeadHook2
import HandS.HeadHook3
import HandS.HeadHook4
import PySem.Challenge.RW_stacksaw_k27_whole_no_more_laths_can_be
set_option Elab.async false
set_option linter.all false
set_option maxRecDepth 100000
namespace SW
open PySem PySem.Spec PyProof.Rows L2

/-! values as trees; `ref i` is the i-th object of the store, which may change -/
inductive Val where
  | non | bl (b : Bool) | int (i : Int) | str (x : Str)
  | tup (xs : List Val) | lst (xs : List Val)
  | dct (ks : List Key) (vs : List Val) | ins (c : Str) (fs : List Str) (vs : List Val)
  | ref (i : Nat) | scr (ns : List Int)
inductive Ob where
  | lst (xs : List Val) | dct (ks : List Key) (vs : List Val) | ins (c : Str) (fs : List Str) (vs : List Val)
abbrev Store := List Ob
instance : Inhabited Val := ⟨.non⟩

/-! all references lie below n -/
mutual
def Val.bel (n : Nat) : Val → Bool
  | .tup xs => Val.bels n xs
  | .lst xs => Val.bels n xs
  | .dct _ vs => Val.bels n vs
  | .ins _ _ vs => Val.bels n vs
  | .ref i => decide (i < n)
  | _ => true
def Val.bels (n : Nat) : List Val → Bool
  | [] => true
  | x :: r => Val.bel n x && Val.bels n r
end
def Ob.bel (n : Nat) : Ob → Bool
  | .lst xs => Val.bels n xs
  | .dct _ vs => Val.bels n vs
  | .ins _ _ vs => Val.bels n vs
theorem Val.bels_all (n : Nat) : ∀ xs : List Val, Val.bels n xs = xs.all (Val.bel n)
  | [] => rfl
  | x :: r => by rw [Val.bels, List.all_cons, Val.bels_all n r]
def Lev (b : Nat) (st : Store) : Prop := ∀ i o, i < b → st[i]? = some o → Ob.bel b o = true

/-! how a tree lies in the heap -/
structure Zc where
  K : PySem.W.Frag
  mg : Str → Option Value
  as : List Addr
  Fz : Hp
mutual
def RV (Z : Zc) : Val → V → Prop
  | .non, v => v = .non
  | .bl b, v => v = .bl b
  | .int i, v => v = .int i
  | .str x, v => v = .str x
  | .tup xs, v => ∃ a vs, v = .ref a ∧ Z.Fz a = some (.tup vs) ∧ RVs Z xs vs
  | .lst xs, v => ∃ a vs, v = .ref a ∧ Z.Fz a = some (.lst vs) ∧ RVs Z xs vs
  | .dct ks xs, v => ∃ a vs, v = .ref a ∧ Z.Fz a = some (.dK (ks.zip vs)) ∧ ks.length = vs.length ∧ RVs Z xs vs
  | .ins c fs xs, v => ∃ a C dx vs, v = .ref a ∧ Z.Fz a = some (.ins C dx (fs.zip vs)) ∧ Z.mg c = some (.ref C) ∧ fs.length = vs.length ∧ RVs Z xs vs
  | .ref i, v => ∃ a, v = .ref a ∧ Z.as[i]? = some a
  | .scr ns, v => ∃ a, v = .ref a ∧ SqL Z.K Z.Fz a (ns.map V.int)
def RVs (Z : Zc) : List Val → List V → Prop
  | [], vs => vs = []
  | x :: r, vs => ∃ v vs', vs = v :: vs' ∧ RV Z x v ∧ RVs Z r vs'
end
theorem RVs.nil {Z : Zc} : RVs Z [] [] := by unfold RVs; rfl
theorem RVs.cons {Z : Zc} {x : Val} {v : V} {xs : List Val} {vs : List V} (h : RV Z x v) (r : RVs Z xs vs) : RVs Z (x :: xs) (v :: vs) := by
  unfold RVs; exact ⟨v, vs, rfl, h, r⟩
theorem RVs.nil_iff {Z : Zc} {vs : List V} : RVs Z [] vs ↔ vs = [] := by unfold RVs; exact Iff.rfl
theorem RVs.cons_iff {Z : Zc} {x : Val} {r : List Val} {vs : List V} : RVs Z (x :: r) vs ↔ ∃ v vs', vs = v :: vs' ∧ RV Z x v ∧ RVs Z r vs' := by
  conv => lhs; unfold RVs
theorem RVs.length {Z : Zc} : ∀ {xs : List Val} {vs : List V}, RVs Z xs vs → vs.length = xs.length
  | [], vs, h => by rw [RVs.nil_iff.mp h]; rfl
  | x :: r, vs, h => by
    obtain ⟨v, vs', rfl, _, h2⟩ := RVs.cons_iff.mp h
    simp [RVs.length h2]
theorem RVs.get {Z : Zc} : ∀ {xs : List Val} {vs : List V} {i : Nat} {x : Val}, RVs Z xs vs → xs[i]? = some x → ∃ v, vs[i]? = some v ∧ RV Z x v
  | [], vs, i, x, h, e => by simp at e
  | y :: r, vs, i, x, h, e => by
    obtain ⟨v, vs', rfl, h1, h2⟩ := RVs.cons_iff.mp h
    cases i with
    | zero => simp at e; subst e; exact ⟨v, rfl, h1⟩
    | succ i =>
      obtain ⟨u, e1, e2⟩ := RVs.get (i := i) h2 (by simpa using e)
      exact ⟨u, by simpa using e1, e2⟩
theorem RVs.app {Z : Zc} : ∀ {xs ys : List Val} {vs us : List V}, RVs Z xs vs → RVs Z ys us → RVs Z (xs ++ ys) (vs ++ us)
  | [], ys, vs, us, h, g => by rw [RVs.nil_iff.mp h]; exact g
  | x :: r, ys, vs, us, h, g => by
    obtain ⟨v, vs', rfl, h1, h2⟩ := RVs.cons_iff.mp h
    exact RVs.cons h1 (RVs.app h2 g)
theorem RVs.take {Z : Zc} : ∀ (n : Nat) {xs : List Val} {vs : List V}, RVs Z xs vs → RVs Z (xs.take n) (vs.take n)
  | 0, xs, vs, h => by simpa using RVs.nil
  | n + 1, [], vs, h => by rw [RVs.nil_iff.mp h]; exact RVs.nil
  | n + 1, x :: r, vs, h => by
    obtain ⟨v, vs', rfl, h1, h2⟩ := RVs.cons_iff.mp h
    exact RVs.cons h1 (RVs.take n h2)
theorem RVs.drop {Z : Zc} : ∀ (n : Nat) {xs : List Val} {vs : List V}, RVs Z xs vs → RVs Z (xs.drop n) (vs.drop n)
  | 0, xs, vs, h => by simpa using h
  | n + 1, [], vs, h => by rw [RVs.nil_iff.mp h]; exact RVs.nil
  | n + 1, x :: r, vs, h => by
    obtain ⟨v, vs', rfl, h1, h2⟩ := RVs.cons_iff.mp h
    exact RVs.drop n h2
theorem RVs.set {Z : Zc} : ∀ (i : Nat) {xs : List Val} {vs : List V} {x : Val} {v : V}, RVs Z xs vs → RV Z x v → RVs Z (xs.set i x) (vs.set i v)
  | i, [], vs, x, v, h, g => by rw [RVs.nil_iff.mp h]; exact RVs.nil
  | 0, y :: r, vs, x, v, h, g => by
    obtain ⟨u, vs', rfl, h1, h2⟩ := RVs.cons_iff.mp h
    exact RVs.cons g h2
  | i + 1, y :: r, vs, x, v, h, g => by
    obtain ⟨u, vs', rfl, h1, h2⟩ := RVs.cons_iff.mp h
    exact RVs.cons h1 (RVs.set i h2 g)
theorem RVs.erase {Z : Zc} : ∀ (i : Nat) {xs : List Val} {vs : List V}, RVs Z xs vs → RVs Z (xs.eraseIdx i) (vs.eraseIdx i)
  | i, [], vs, h => by rw [RVs.nil_iff.mp h]; exact RVs.nil
  | 0, y :: r, vs, h => by
    obtain ⟨u, vs', rfl, h1, h2⟩ := RVs.cons_iff.mp h
    exact h2
  | i + 1, y :: r, vs, h => by
    obtain ⟨u, vs', rfl, h1, h2⟩ := RVs.cons_iff.mp h
    exact RVs.cons h1 (RVs.erase i h2)
theorem RVs.map_int {Z : Zc} : ∀ {ns : List Int} {vs : List V}, RVs Z (ns.map Val.int) vs → vs = ns.map V.int
  | [], vs, h => RVs.nil_iff.mp h
  | n :: r, vs, h => by
    obtain ⟨u, vs', rfl, h1, h2⟩ := RVs.cons_iff.mp h
    unfold RV at h1
    rw [h1, RVs.map_int h2]; rfl
theorem RVs.of_int {Z : Zc} : ∀ (ns : List Int), RVs Z (ns.map Val.int) (ns.map V.int)
  | [] => RVs.nil
  | n :: r => RVs.cons (by unfold RV; rfl) (RVs.of_int r)
theorem RVs.map_bl {Z : Zc} : ∀ {ns : List Bool} {vs : List V}, RVs Z (ns.map Val.bl) vs → vs = ns.map V.bl
  | [], vs, h => RVs.nil_iff.mp h
  | n :: r, vs, h => by
    obtain ⟨u, vs', rfl, h1, h2⟩ := RVs.cons_iff.mp h
    unfold RV at h1
    rw [h1, RVs.map_bl h2]; rfl
theorem RVs.map_str {Z : Zc} : ∀ {ns : List Str} {vs : List V}, RVs Z (ns.map Val.str) vs → vs = ns.map V.str
  | [], vs, h => RVs.nil_iff.mp h
  | n :: r, vs, h => by
    obtain ⟨u, vs', rfl, h1, h2⟩ := RVs.cons_iff.mp h
    unfold RV at h1
    rw [h1, RVs.map_str h2]; rfl

/-! growth of the ghosts -/
structure Zle (Z Z' : Zc) : Prop where
  K : Z'.K = Z.K
  mg : Z'.mg = Z.mg
  as : ∀ (i : Nat) (a : Addr), Z.as[i]? = some a → Z'.as[i]? = some a
  Fz : ∀ (a : Addr) (u : HO), Z.Fz a = some u → Z'.Fz a = some u
theorem Zle.refl (Z : Zc) : Zle Z Z := ⟨rfl, rfl, fun _ _ h => h, fun _ _ h => h⟩
theorem Zle.trans {A B C : Zc} (h : Zle A B) (g : Zle B C) : Zle A C := ⟨g.K.trans h.K, g.mg.trans h.mg, fun i a e => g.as i a (h.as i a e), fun a u e => g.Fz a u (h.Fz a u e)⟩
mutual
theorem RV.mono {Z Z' : Zc} (l : Zle Z Z') : ∀ (x : Val) (v : V), RV Z x v → RV Z' x v
  | .non, v, h => by unfold RV at h ⊢; exact h
  | .bl b, v, h => by unfold RV at h ⊢; exact h
  | .int i, v, h => by unfold RV at h ⊢; exact h
  | .str x, v, h => by unfold RV at h ⊢; exact h
  | .tup xs, v, h => by
    unfold RV at h ⊢
    obtain ⟨a, vs, e, f, r⟩ := h
    exact ⟨a, vs, e, l.Fz _ _ f, RVs.mono l xs vs r⟩
  | .lst xs, v, h => by
    unfold RV at h ⊢
    obtain ⟨a, vs, e, f, r⟩ := h
    exact ⟨a, vs, e, l.Fz _ _ f, RVs.mono l xs vs r⟩
  | .dct ks xs, v, h => by
    unfold RV at h ⊢
    obtain ⟨a, vs, e, f, g, r⟩ := h
    exact ⟨a, vs, e, l.Fz _ _ f, g, RVs.mono l xs vs r⟩
  | .ins c fs xs, v, h => by
    unfold RV at h ⊢
    obtain ⟨a, C, dx, vs, e, f, m, g, r⟩ := h
    exact ⟨a, C, dx, vs, e, l.Fz _ _ f, by rw [l.mg]; exact m, g, RVs.mono l xs vs r⟩
  | .ref i, v, h => by
    unfold RV at h ⊢
    obtain ⟨a, e, f⟩ := h
    exact ⟨a, e, l.as _ _ f⟩
  | .scr ns, v, h => by
    unfold RV at h ⊢
    obtain ⟨a, e, f⟩ := h
    refine ⟨a, e, ?_⟩
    rcases f with (f | ⟨o, f⟩) | f
    · exact .inl (.inl (l.Fz _ _ f))
    · exact .inl (.inr ⟨o, l.Fz _ _ f⟩)
    · exact .inr (by rw [l.K]; exact f)
theorem RVs.mono {Z Z' : Zc} (l : Zle Z Z') : ∀ (xs : List Val) (vs : List V), RVs Z xs vs → RVs Z' xs vs
  | [], vs, h => RVs.nil_iff.mpr (RVs.nil_iff.mp h)
  | x :: r, vs, h => by
    obtain ⟨v, vs', e, h1, h2⟩ := RVs.cons_iff.mp h
    exact RVs.cons_iff.mpr ⟨v, vs', e, RV.mono l x v h1, RVs.mono l r vs' h2⟩
end
/-! references that are told lie below the number of objects -/
mutual
theorem RV.bel {Z : Zc} : ∀ (x : Val) (v : V), RV Z x v → Val.bel Z.as.length x = true
  | .non, v, h => by unfold Val.bel; rfl
  | .bl b, v, h => by unfold Val.bel; rfl
  | .int i, v, h => by unfold Val.bel; rfl
  | .str x, v, h => by unfold Val.bel; rfl
  | .tup xs, v, h => by
    unfold RV at h; unfold Val.bel
    obtain ⟨a, vs, e, f, r⟩ := h
    exact RVs.bel xs vs r
  | .lst xs, v, h => by
    unfold RV at h; unfold Val.bel
    obtain ⟨a, vs, e, f, r⟩ := h
    exact RVs.bel xs vs r
  | .dct ks xs, v, h => by
    unfold RV at h; unfold Val.bel
    obtain ⟨a, vs, e, f, g, r⟩ := h
    exact RVs.bel xs vs r
  | .ins c fs xs, v, h => by
    unfold RV at h; unfold Val.bel
    obtain ⟨a, C, dx, vs, e, f, m, g, r⟩ := h
    exact RVs.bel xs vs r
  | .ref i, v, h => by
    unfold RV at h; unfold Val.bel
    obtain ⟨a, e, f⟩ := h
    exact decide_eq_true (List.getElem?_eq_some_iff.mp f).1
  | .scr ns, v, h => by unfold Val.bel; rfl
theorem RVs.bel {Z : Zc} : ∀ (xs : List Val) (vs : List V), RVs Z xs vs → Val.bels Z.as.length xs = true
  | [], vs, h => by unfold Val.bels; rfl
  | x :: r, vs, h => by
    obtain ⟨v, vs', e, h1, h2⟩ := RVs.cons_iff.mp h
    unfold Val.bels
    rw [RV.bel x v h1, RVs.bel r vs' h2]; rfl
end
/-! what has its references below n may be told by the first n objects -/
def Zc.cut (Z : Zc) (n : Nat) : Zc := { Z with as := Z.as.take n }
mutual
theorem RV.cut {Z : Zc} {n : Nat} : ∀ (x : Val) (v : V), RV Z x v → Val.bel n x = true → RV (Z.cut n) x v
  | .non, v, h, b => by unfold RV at h ⊢; exact h
  | .bl _, v, h, b => by unfold RV at h ⊢; exact h
  | .int i, v, h, b => by unfold RV at h ⊢; exact h
  | .str x, v, h, b => by unfold RV at h ⊢; exact h
  | .tup xs, v, h, b => by
    unfold RV at h ⊢; unfold Val.bel at b
    obtain ⟨a, vs, e, f, r⟩ := h
    exact ⟨a, vs, e, f, RVs.cut xs vs r b⟩
  | .lst xs, v, h, b => by
    unfold RV at h ⊢; unfold Val.bel at b
    obtain ⟨a, vs, e, f, r⟩ := h
    exact ⟨a, vs, e, f, RVs.cut xs vs r b⟩
  | .dct ks xs, v, h, b => by
    unfold RV at h ⊢; unfold Val.bel at b
    obtain ⟨a, vs, e, f, g, r⟩ := h
    exact ⟨a, vs, e, f, g, RVs.cut xs vs r b⟩
  | .ins c fs xs, v, h, b => by
    unfold RV at h ⊢; unfold Val.bel at b
    obtain ⟨a, C, dx, vs, e, f, m, g, r⟩ := h
    exact ⟨a, C, dx, vs, e, f, m, g, RVs.cut xs vs r b⟩
  | .ref i, v, h, b => by
    unfold RV at h ⊢; unfold Val.bel at b
    obtain ⟨a, e, f⟩ := h
    have hi : i < n := of_decide_eq_true b
    exact ⟨a, e, by show (Z.as.take n)[i]? = some a; rw [List.getElem?_take]; rw [if_pos hi]; exact f⟩
  | .scr ns, v, h, b => by
    unfold RV at h ⊢
    obtain ⟨a, e, f⟩ := h
    exact ⟨a, e, f⟩
theorem RVs.cut {Z : Zc} {n : Nat} : ∀ (xs : List Val) (vs : List V), RVs Z xs vs → Val.bels n xs = true → RVs (Z.cut n) xs vs
  | [], vs, h, b => RVs.nil_iff.mpr (RVs.nil_iff.mp h)
  | x :: r, vs, h, b => by
    obtain ⟨v, vs', e, h1, h2⟩ := RVs.cons_iff.mp h
    unfold Val.bels at b
    obtain ⟨b1, b2⟩ := Bool.and_eq_true_iff.mp b
    exact RVs.cons_iff.mpr ⟨v, vs', e, RV.cut x v h1 b1, RVs.cut r vs' h2 b2⟩
end

/-! the store -/
def RO (Z : Zc) (H : Hp) (a : Addr) : Ob → Prop
  | .lst xs => ∃ vs, H a = some (.lst vs) ∧ RVs Z xs vs
  | .dct ks xs => ∃ vs, H a = some (.dK (ks.zip vs)) ∧ ks.length = vs.length ∧ RVs Z xs vs
  | .ins c fs xs => ∃ C dx vs, H a = some (.ins C dx (fs.zip vs)) ∧ Z.mg c = some (.ref C) ∧ fs.length = vs.length ∧ RVs Z xs vs
structure SRel (Z : Zc) (H : Hp) (st : Store) : Prop where
  nd : Z.as.Nodup
  len : Z.as.length = st.length
  sub : ∀ a u, Z.Fz a = some u → H a = some u ∨ ∃ o kvs, u = .dK kvs ∧ H a = some (.frz o u)
  own : ∀ (i : Nat) (o : Ob) (a : Addr), st[i]? = some o → Z.as[i]? = some a → Z.Fz a = none ∧ RO Z H a o
theorem RO.some {Z : Zc} {H : Hp} {a : Addr} {o : Ob} (h : RO Z H a o) : ∃ u, H a = some u := by
  cases o with
  | lst xs => obtain ⟨vs, e, _⟩ := h; exact ⟨_, e⟩
  | dct ks xs => obtain ⟨vs, e, _⟩ := h; exact ⟨_, e⟩
  | ins c fs xs => obtain ⟨C, dx, vs, e, _⟩ := h; exact ⟨_, e⟩
theorem SRel.at {Z : Zc} {H : Hp} {st : Store} (s : SRel Z H st) {a : Addr} (h : a ∈ Z.as) : Z.Fz a = none ∧ ∃ u, H a = some u := by
  obtain ⟨i, hi, e⟩ := List.getElem_of_mem h
  have h1 : Z.as[i]? = some a := by rw [List.getElem?_eq_getElem hi, e]
  have h2 : i < st.length := by rw [← s.len]; exact hi
  obtain ⟨f, r⟩ := s.own i st[i] a (List.getElem?_eq_getElem h2) h1
  exact ⟨f, r.some⟩
theorem SRel.fz {Z : Zc} {H : Hp} {st : Store} (s : SRel Z H st) {a : Addr} {u : HO} (h : Z.Fz a = some u) : ∃ u', H a = some u' := by
  rcases s.sub a u h with e | ⟨o, _, _, e⟩
  · exact ⟨_, e⟩
  · exact ⟨_, e⟩
theorem RO.bel {Z : Zc} {H : Hp} {a : Addr} {o : Ob} (h : RO Z H a o) : Ob.bel Z.as.length o = true := by
  cases o with
  | lst xs => obtain ⟨vs, e, r⟩ := h; exact RVs.bel xs vs r
  | dct ks xs => obtain ⟨vs, e, _, r⟩ := h; exact RVs.bel xs vs r
  | ins c fs xs => obtain ⟨C, dx, vs, e, _, _, r⟩ := h; exact RVs.bel xs vs r
theorem SRel.lev {Z : Zc} {H : Hp} {st : Store} (s : SRel Z H st) : Lev st.length st := fun i o hi e => by
  have h1 : i < Z.as.length := by rw [s.len]; exact hi
  have := (s.own i o Z.as[i] e (List.getElem?_eq_getElem h1)).2.bel
  rw [s.len] at this; exact this

/-! how the heap goes on -/
structure Tr (b : Nat) (Z : Zc) (H : Hp) (st : Store) (Z' : Zc) (H' : Hp) (st' : Store) : Prop where
  le : Zle Z Z'
  keep : ∀ a o, H a = some o → a ∉ Z.as → H' a = some o
  new : ∀ a, a ∈ Z'.as → a ∈ Z.as ∨ H a = none
  fnew : ∀ a u, Z'.Fz a = some u → Z.Fz a = some u ∨ H a = none
  lev : ∀ c, c ≤ b → Lev c st → Lev c st'
  len : st.length ≤ st'.length
theorem Tr.refl {b : Nat} {Z : Zc} {H : Hp} {st : Store} : Tr b Z H st Z H st := ⟨Zle.refl Z, fun _ _ h _ => h, fun _ h => .inl h, fun _ _ h => .inl h, fun _ _ h => h, Nat.le_refl _⟩
theorem none_of {H H' : Hp} {a : Addr} {p : Prop} [Decidable p] (k : ∀ o, H a = some o → ¬ p → H' a = some o) (n : H' a = none) (hp : ¬ p) : H a = none := by
  cases e : H a with
  | none => rfl
  | some o => rw [k o e hp] at n; cases n
theorem Tr.trans {b : Nat} {Z0 Z1 Z2 : Zc} {H0 H1 H2 : Hp} {s0 s1 s2 : Store} (h : Tr b Z0 H0 s0 Z1 H1 s1) (r1 : SRel Z1 H1 s1) (g : Tr b Z1 H1 s1 Z2 H2 s2) : Tr b Z0 H0 s0 Z2 H2 s2 where
  le := h.le.trans g.le
  keep := fun a o e n => g.keep a o (h.keep a o e n) fun m => by
    rcases h.new a m with q | q
    · exact n q
    · rw [e] at q; cases q
  new := fun a m => by
    rcases g.new a m with q | q
    · exact h.new a q
    · by_cases hm : a ∈ Z0.as
      · exact .inl hm
      · exact .inr (none_of (fun o e hp => h.keep a o e hp) q hm)
  fnew := fun a u e => by
    rcases g.fnew a u e with q | q
    · exact h.fnew a u q
    · by_cases hm : a ∈ Z0.as
      · have hm1 : a ∈ Z1.as := by
          obtain ⟨i, hi, e2⟩ := List.getElem_of_mem hm
          exact List.mem_of_getElem? (h.le.as i a (by rw [List.getElem?_eq_getElem hi, e2]))
        obtain ⟨_, u', e3⟩ := r1.at hm1
        rw [q] at e3; cases e3
      · exact .inr (none_of (fun o e hp => h.keep a o e hp) q hm)
  lev := fun c hc l => g.lev c hc (h.lev c hc l)
  len := Nat.le_trans h.len g.len
theorem Tr.weak {b b' : Nat} {Z Z' : Zc} {H H' : Hp} {s s' : Store} (h : Tr b Z H s Z' H' s') (l : b' ≤ b) : Tr b' Z H s Z' H' s' :=
  ⟨h.le, h.keep, h.new, h.fnew, fun c hc => h.lev c (Nat.le_trans hc l), h.len⟩
end SW
set_option Elab.async false
set_option linter.all false
set_option maxRecDepth 100000
namespace SW
open PySem PySem.Spec PyProof.Rows L2

structure En where
  base : Nat
  vs : List (Option Val)
inductive Res (α : Type) where
  | ok (a : α) (st : Store)
  | exc (c : Str) (fs : List Str) (vs : List Val) (st : Store)
  | stk
def Res.bind {α β : Type} : Res α → (α → Store → Res β) → Res β
  | .ok a st, f => f a st
  | .exc c fs vs st, _ => .exc c fs vs st
  | .stk, _ => .stk
@[simp] theorem Res.bind_ok {α β : Type} (a : α) (st : Store) (f : α → Store → Res β) : (Res.ok a st).bind f = f a st := rfl
@[simp] theorem Res.bind_exc {α β : Type} (c : Str) (fs : List Str) (vs : List Val) (st : Store) (f : α → Store → Res β) : (Res.exc c fs vs st).bind f = .exc c fs vs st := rfl
@[simp] theorem Res.bind_stk {α β : Type} (f : α → Store → Res β) : (Res.stk).bind f = .stk := rfl
abbrev Ex := En → Store → Res Val
abbrev MF := List Val → Store → Res Val

/-! an exception in the heap: its class, its own dict with the fields -/
def RX (Z : Zc) (H : Hp) (c : Str) (fs : List Str) (xs : List Val) (cls : Value) (d : Option Addr) : Prop :=
  ∃ C, cls = .ref C ∧ Z.mg c = some (.ref C) ∧ fs.length = xs.length ∧ (fs = [] ∨ ∃ dd fx, d = some dd ∧ H dd = some (.xd fx) ∧ dd ∉ Z.as ∧
    ∀ (i : Nat) (f : Str) (x : Val), fs[i]? = some f → xs[i]? = some x → ∃ v, fx.lookup f = some v ∧ RV Z x v)

/-! the end of a run -/
def Fin {α β : Type} (R : Zc → α → β → Prop) (E : XK) (b : Nat) (Z : Zc) (H : Hp) (st : Store) (r : Res α) (Q : β → Hp → Prop) : Prop :=
  match r with
  | .ok x st' => ∀ Z' H' v, Tr b Z H st Z' H' st' → SRel Z' H' st' → R Z' x v → Q v H'
  | .exc c fs vs st' => ∀ Z' H' cls d, Tr b Z H st Z' H' st' → SRel Z' H' st' → RX Z' H' c fs vs cls d → E cls d H'
  | .stk => False
section
variable {α β γ δ : Type} {R : Zc → α → β → Prop} {E : XK} {b : Nat} {Z Z1 : Zc} {H H1 : Hp} {st st1 : Store}
theorem Fin.shift {r : Res α} {Q : β → Hp → Prop} (t : Tr b Z H st Z1 H1 st1) (s : SRel Z1 H1 st1) (h : Fin R E b Z H st r Q) : Fin R E b Z1 H1 st1 r Q := by
  cases r with
  | ok x st' => exact fun Z' H' v t' s' r' => h Z' H' v (t.trans s t') s' r'
  | exc c fs vs st' => exact fun Z' H' cls d t' s' r' => h Z' H' cls d (t.trans s t') s' r'
  | stk => exact h
theorem Fin.imp {r : Res α} {Q Q' : β → Hp → Prop} (h : Fin R E b Z H st r Q) (i : ∀ v H', Q v H' → Q' v H') : Fin R E b Z H st r Q' := by
  cases r with
  | ok x st' => exact fun Z' H' v t' s' r' => i _ _ (h Z' H' v t' s' r')
  | exc c fs vs st' => exact h
  | stk => exact h
theorem Fin.bind {R' : Zc → γ → δ → Prop} {r : Res α} {f : α → Store → Res γ} {Q : δ → Hp → Prop} (h : Fin R' E b Z H st (r.bind f) Q) :
    Fin R E b Z H st r (fun v H1 => ∃ Z1 st1 x, Tr b Z H st Z1 H1 st1 ∧ SRel Z1 H1 st1 ∧ R Z1 x v ∧ Fin R' E b Z1 H1 st1 (f x st1) Q) := by
  cases r with
  | ok x st' => exact fun Z' H' v t' s' r' => ⟨Z', st', x, t', s', r', Fin.shift t' s' h⟩
  | exc c fs vs st' => exact h
  | stk => exact h
theorem Fin.ok {x : α} {v : β} {Q : β → Hp → Prop} (h : Fin R E b Z H st (.ok x st) Q) (s : SRel Z H st) (r : R Z x v) : Q v H := h Z H v Tr.refl s r
end

/-! the state -/
structure REnv (Z : Zc) (ρ : List (Option Val)) (σ : L2.St) : Prop where
  len : ρ.length = σ.length
  at_ : ∀ (i : Nat) (x : Val), ρ[i]? = some (some x) → ∃ v, σ[i]? = some (some v) ∧ RV Z x v
theorem REnv.mono {Z Z' : Zc} {ρ : List (Option Val)} {σ : L2.St} (l : Zle Z Z') (r : REnv Z ρ σ) : REnv Z' ρ σ :=
  ⟨r.len, fun i x e => let ⟨v, e1, e2⟩ := r.at_ i x e; ⟨v, e1, RV.mono l x v e2⟩⟩
theorem REnv.set {Z : Zc} {ρ : List (Option Val)} {σ : L2.St} {i : Nat} {x : Val} {v : V} (r : REnv Z ρ σ) (h : RV Z x v) : REnv Z (ρ.set i (some x)) (σ.set i (some v)) := by
  refine ⟨by simp [r.len], fun j y e => ?_⟩
  by_cases hj : i = j
  · subst hj
    by_cases hl : i < ρ.length
    · rw [List.getElem?_set_self hl] at e
      cases e
      exact ⟨v, by rw [List.getElem?_set_self (by rw [← r.len]; exact hl)], h⟩
    · rw [List.getElem?_eq_none (by simp; omega)] at e; cases e
  · rw [List.getElem?_set_ne hj] at e
    obtain ⟨u, e1, e2⟩ := r.at_ j y e
    exact ⟨u, by rw [List.getElem?_set_ne hj]; exact e1, e2⟩
theorem REnv.unset {Z : Zc} {ρ : List (Option Val)} {σ : L2.St} {i : Nat} {o : Option V} (r : REnv Z ρ σ) : REnv Z (ρ.set i none) (σ.set i o) := by
  refine ⟨by simp [r.len], fun j y e => ?_⟩
  by_cases hj : i = j
  · subst hj
    by_cases hl : i < ρ.length
    · rw [List.getElem?_set_self hl] at e; cases e
    · rw [List.getElem?_eq_none (by simp; omega)] at e; cases e
  · rw [List.getElem?_set_ne hj] at e
    obtain ⟨u, e1, e2⟩ := r.at_ j y e
    exact ⟨u, by rw [List.getElem?_set_ne hj]; exact e1, e2⟩
structure Sta (X : Cx) (Z : Zc) (ρ : En) (st : Store) (σ : L2.St) (H : Hp) : Prop where
  K : Z.K = X.K
  mg : Z.mg = X.mg
  env : REnv Z ρ.vs σ
  rel : SRel Z H st
  bs : ρ.base ≤ st.length
theorem Sta.next {X : Cx} {Z Z' : Zc} {ρ : En} {st st' : Store} {σ : L2.St} {H H' : Hp} (s : Sta X Z ρ st σ H) (t : Tr ρ.base Z H st Z' H' st') (r : SRel Z' H' st') : Sta X Z' ρ st' σ H' :=
  ⟨t.le.K.trans s.K, t.le.mg.trans s.mg, s.env.mono t.le, r, Nat.le_trans s.bs t.len⟩

def TEx (X : Cx) (W : WX) (f : Ex) : TE := fun σ H Q => ∃ Z ρ st, Sta X Z ρ st σ H ∧ Fin RV (WE W σ) ρ.base Z H st (f ρ st) Q
def VE (X : Cx) (e : Expr) (f : Ex) : Prop := ∀ W, Takes X W → PE X e (TEx X W f)
theorem _root_.L2.PE.imp {X : Cx} {e : Expr} {t t' : TE} (h : PE X e t) (i : ∀ σ H Q, t' σ H Q → t σ H Q) : PE X e t' := ⟨fun pins s σ H Q I q => h.run pins s σ H Q I (i σ H Q q)⟩
theorem _root_.L2.PT.imp {X : Cx} {e : Expr} {t t' : TT} (h : PT X e t) (i : ∀ σ H Q, t' σ H Q → t σ H Q) : PT X e t' := ⟨fun pins s σ H Q I q => h.run pins s σ H Q I (i σ H Q q)⟩
theorem _root_.L2.PS.imp {X : Cx} {e : Stmt} {t t' : TS} (h : PS X e t) (i : ∀ D σ H, t' D σ H → t D σ H) : PS X e t' := ⟨fun pins s σ H D I q => h.run pins s σ H D I (i D σ H q)⟩
theorem _root_.L2.PSs.imp {X : Cx} {e : List Stmt} {t t' : TS} (h : PSs X e t) (i : ∀ D σ H, t' D σ H → t D σ H) : PSs X e t' := ⟨fun pins s σ H D I q => h.run pins s σ H D I (i D σ H q)⟩
theorem _root_.L2.PA.imp {X : Cx} {e : List Expr} {t t' : TA} (h : PA X e t) (i : ∀ σ H Q, t' σ H Q → t σ H Q) : PA X e t' := ⟨fun pos pins s σ H Q I q => h.run pos pins s σ H Q I (i σ H Q q)⟩
theorem _root_.L2.PW.imp {X : Cx} {e : Expr} {t t' : TT} (h : PW X e t) (i : ∀ σ H Q, t' σ H Q → t σ H Q) : PW X e t' := ⟨fun whole pins s σ H Q I q => h.run whole pins s σ H Q I (i σ H Q q)⟩
theorem _root_.L2.PI.imp {X : Cx} {tg e : Expr} {t t' : TI} (h : PI X tg e t) (i : ∀ σ H R, t' σ H R → t σ H R) : PI X tg e t' := ⟨fun pins s σ H R I q => h.run pins s σ H R I (i σ H R q)⟩

/-! an evaluation, then more -/
def seqE {α : Type} (f : Ex) (k : Val → Store → Res α) (ρ : En) (st : Store) : Res α := (f ρ st).bind k
theorem TEx.bind {X : Cx} {W : WX} {f : Ex} {α β : Type} {R : Zc → α → β → Prop} {k : Val → Store → Res α} {σ : L2.St} {H : Hp} {Q : β → Hp → Prop} {Z : Zc} {ρ : En} {st : Store}
    (s : Sta X Z ρ st σ H) (h : Fin R (WE W σ) ρ.base Z H st ((f ρ st).bind k) Q) :
    TEx X W f σ H (fun v H1 => ∃ Z1 st1 x, Sta X Z1 ρ st1 σ H1 ∧ Zle Z Z1 ∧ RV Z1 x v ∧ Fin R (WE W σ) ρ.base Z1 H1 st1 (k x st1) Q) :=
  ⟨Z, ρ, st, s, (Fin.bind (R := RV) h).imp fun v H1 ⟨Z1, st1, x, t, r, rv, q⟩ => ⟨Z1, st1, x, s.next t r, t.le, rv, q⟩⟩

/-! new objects -/
theorem al_fz {b : Nat} {Z : Zc} {H : Hp} {st : Store} {p : Addr} {u : HO} (s : SRel Z H st) (n : H p = none) :
    Tr b Z H st { Z with Fz := upd Z.Fz p u } (upd H p u) st ∧ SRel { Z with Fz := upd Z.Fz p u } (upd H p u) st := by
  have nf : Z.Fz p = none := by
    cases e : Z.Fz p with
    | none => rfl
    | some u => obtain ⟨u', e'⟩ := s.fz e; rw [n] at e'; cases e'
  have na : p ∉ Z.as := fun m => by
    obtain ⟨_, u', e'⟩ := s.at m
    rw [n] at e'; cases e'
  have le : Zle Z { Z with Fz := upd Z.Fz p u } := ⟨rfl, rfl, fun _ _ h => h, fun a u e => by
    show upd Z.Fz p _ a = _
    rw [upd_ne (ne_of_none e nf)]; exact e⟩
  refine ⟨⟨le, fun a o e _ => ?_, fun a m => .inl m, fun a u e => ?_, fun c _ l => l, Nat.le_refl _⟩, ⟨s.nd, s.len, fun a u e => ?_, fun i o a e1 e2 => ?_⟩⟩
  · rw [upd_ne (ne_of_none e n)]; exact e
  · by_cases h : a = p
    · subst h; exact .inr n
    · have e' : upd Z.Fz p _ a = some u := e
      rw [upd_ne h] at e'; exact .inl e'
  · by_cases h : a = p
    · subst h
      have e' : upd Z.Fz a _ a = some u := e
      rw [upd_same] at e'; cases e'
      exact .inl upd_same
    · have e' : upd Z.Fz p _ a = some u := e
      rw [upd_ne h] at e'
      rw [upd_ne h]
      exact s.sub a u e'
  · obtain ⟨f, r⟩ := s.own i o a e1 e2
    have h : a ≠ p := fun h => na (h ▸ List.mem_of_getElem? e2)
    refine ⟨?_, ?_⟩
    · show upd Z.Fz p _ a = none
      rw [upd_ne h]; exact f
    · cases o with
      | lst xs => obtain ⟨vs, e, r⟩ := r; exact ⟨vs, by rw [upd_ne h]; exact e, RVs.mono le _ _ r⟩
      | dct ks xs => obtain ⟨vs, e, l, r⟩ := r; exact ⟨vs, by rw [upd_ne h]; exact e, l, RVs.mono le _ _ r⟩
      | ins c fs xs => obtain ⟨C, dx, vs, e, m, l, r⟩ := r; exact ⟨C, dx, vs, by rw [upd_ne h]; exact e, m, l, RVs.mono le _ _ r⟩
theorem RO.move {Z Z' : Zc} {H H' : Hp} {a : Addr} {o : Ob} (le : Zle Z Z') (e : H' a = H a) (r : RO Z H a o) : RO Z' H' a o := by
  cases o with
  | lst xs => obtain ⟨vs, q, r⟩ := r; exact ⟨vs, by rw [e]; exact q, RVs.mono le _ _ r⟩
  | dct ks xs => obtain ⟨vs, q, l, r⟩ := r; exact ⟨vs, by rw [e]; exact q, l, RVs.mono le _ _ r⟩
  | ins c fs xs => obtain ⟨C, dx, vs, q, m, l, r⟩ := r; exact ⟨C, dx, vs, by rw [e]; exact q, by rw [le.mg]; exact m, l, RVs.mono le _ _ r⟩
theorem al_ow {b : Nat} {Z : Zc} {H H' : Hp} {st : Store} {p : Addr} {o : Ob} (s : SRel Z H st) (n : H p = none) (hb : b ≤ st.length)
    (hH : ∀ a, a ≠ p → H a ≠ none → H' a = H a) (r : RO { Z with as := Z.as ++ [p] } H' p o) :
    Tr b Z H st { Z with as := Z.as ++ [p] } H' (st ++ [o]) ∧ SRel { Z with as := Z.as ++ [p] } H' (st ++ [o]) := by
  have nf : Z.Fz p = none := by
    cases e : Z.Fz p with
    | none => rfl
    | some u => obtain ⟨u', e'⟩ := s.fz e; rw [n] at e'; cases e'
  have na : p ∉ Z.as := fun m => by
    obtain ⟨_, u', e'⟩ := s.at m
    rw [n] at e'; cases e'
  have le : Zle Z { Z with as := Z.as ++ [p] } := ⟨rfl, rfl, fun i a h => by
    show (Z.as ++ [p])[i]? = some a
    rw [List.getElem?_append_left (List.getElem?_eq_some_iff.mp h).1]; exact h, fun _ _ h => h⟩
  refine ⟨⟨le, fun a u e _ => ?_, fun a m => ?_, fun a u e => .inl e, fun c hc l i o' hi e => ?_, by simp⟩, ⟨?_, by simp [s.len], fun a u e => ?_, fun i o' a e1 e2 => ?_⟩⟩
  · rw [hH a (ne_of_none e n) (by rw [e]; simp)]; exact e
  · have m' : a ∈ Z.as ++ [p] := m
    rcases List.mem_append.mp m' with m | m
    · exact .inl m
    · have e : a = p := by simpa using m
      exact .inr (by rw [e]; exact n)
  · rw [List.getElem?_append_left (by omega)] at e
    exact l i o' hi e
  · show (Z.as ++ [p]).Nodup
    exact List.nodup_append.mpr ⟨s.nd, by simp, fun a ha c hc => by
      have e : c = p := by simpa using hc
      rw [e]; exact fun h => na (h ▸ ha)⟩
  · have hp : a ≠ p := ne_of_none e nf
    rcases s.sub a u e with q | ⟨o', kvs, q1, q2⟩
    · exact .inl (by rw [hH a hp (by rw [q]; simp)]; exact q)
    · exact .inr ⟨o', kvs, q1, by rw [hH a hp (by rw [q2]; simp)]; exact q2⟩
  · have e2' : (Z.as ++ [p])[i]? = some a := e2
    by_cases hi : i < st.length
    · rw [List.getElem?_append_left hi] at e1
      rw [List.getElem?_append_left (by rw [s.len]; exact hi)] at e2'
      obtain ⟨f, r'⟩ := s.own i o' a e1 e2'
      have h : a ≠ p := fun h => na (h ▸ List.mem_of_getElem? e2')
      obtain ⟨u, eu⟩ := r'.some
      exact ⟨f, r'.move le (hH a h (by rw [eu]; simp))⟩
    · have hi2 : i = st.length := by
        have := (List.getElem?_eq_some_iff.mp e1).1
        simp at this; omega
      subst hi2
      rw [List.getElem?_append_right (Nat.le_refl _)] at e1
      rw [List.getElem?_append_right (by rw [s.len]; exact Nat.le_refl _)] at e2'
      simp at e1
      simp [s.len] at e2'
      subst e1; subst e2'
      exact ⟨nf, r⟩
/-! an object changes -/
theorem ob_set {b : Nat} {Z : Zc} {H : Hp} {st : Store} {i : Nat} {a : Addr} {u : HO} {o' : Ob} (s : SRel Z H st) (ha : Z.as[i]? = some a) (hl : b ≤ i ∨ Ob.bel i o' = true)
    (r : RO Z (upd H a u) a o') : Tr b Z H st Z (upd H a u) (st.set i o') ∧ SRel Z (upd H a u) (st.set i o') := by
  obtain ⟨nf, u0, e0⟩ := s.at (List.mem_of_getElem? ha)
  have bel_mono : ∀ {m n : Nat} {o : Ob}, m ≤ n → Ob.bel m o = true → Ob.bel n o = true := by
    have hv : ∀ {m n : Nat}, m ≤ n → (∀ x : Val, Val.bel m x = true → Val.bel n x = true) ∧ True := by
      intro m n h
      refine ⟨?_, trivial⟩
      intro x
      refine Val.rec (motive_1 := fun x => Val.bel m x = true → Val.bel n x = true) (motive_2 := fun xs => Val.bels m xs = true → Val.bels n xs = true) ?_ ?_ ?_ ?_ ?_ ?_ ?_ ?_ ?_ ?_ ?_ ?_ x
      · intro _; unfold Val.bel; rfl
      · intro _ _; unfold Val.bel; rfl
      · intro _ _; unfold Val.bel; rfl
      · intro _ _; unfold Val.bel; rfl
      · intro xs ih q; unfold Val.bel at q ⊢; exact ih q
      · intro xs ih q; unfold Val.bel at q ⊢; exact ih q
      · intro ks xs ih q; unfold Val.bel at q ⊢; exact ih q
      · intro c fs xs ih q; unfold Val.bel at q ⊢; exact ih q
      · intro i q; unfold Val.bel at q ⊢; exact decide_eq_true (Nat.lt_of_lt_of_le (of_decide_eq_true q) h)
      · intro _ _; unfold Val.bel; rfl
      · intro _; unfold Val.bels; rfl
      · intro x r h1 h2 q
        unfold Val.bels at q ⊢
        obtain ⟨q1, q2⟩ := Bool.and_eq_true_iff.mp q
        rw [h1 q1, h2 q2]; rfl
    have hvs : ∀ {m n : Nat}, m ≤ n → ∀ xs : List Val, Val.bels m xs = true → Val.bels n xs = true := by
      intro m n h xs
      rw [Val.bels_all, Val.bels_all, List.all_eq_true, List.all_eq_true]
      exact fun q x hx => (hv h).1 x (q x hx)
    intro m n o h q
    cases o with
    | lst xs => exact hvs h xs q
    | dct ks xs => exact hvs h xs q
    | ins c fs xs => exact hvs h xs q
  refine ⟨⟨Zle.refl Z, fun c o e n => ?_, fun c m => .inl m, fun c u e => .inl e, fun c hc l j o hj e => ?_, by simp⟩, ⟨s.nd, by simp [s.len], fun c u' e => ?_, fun j o c e1 e2 => ?_⟩⟩
  · have : c ≠ a := fun h => n (h ▸ List.mem_of_getElem? ha)
    rw [upd_ne this]; exact e
  · by_cases hij : i = j
    · subst hij
      by_cases hl' : i < st.length
      · rw [List.getElem?_set_self hl'] at e
        cases e
        rcases hl with q | q
        · omega
        · exact bel_mono (Nat.le_of_lt hj) q
      · rw [List.getElem?_eq_none (by simp; omega)] at e; cases e
    · rw [List.getElem?_set_ne hij] at e
      exact l j o hj e
  · have hca : c ≠ a := fun h => by rw [h, nf] at e; cases e
    rw [upd_ne hca]
    exact s.sub c u' e
  · by_cases hij : i = j
    · subst hij
      rw [ha] at e2; cases e2
      by_cases hl' : i < st.length
      · rw [List.getElem?_set_self hl'] at e1
        cases e1
        exact ⟨nf, r⟩
      · rw [List.getElem?_eq_none (by simp; omega)] at e1; cases e1
    · rw [List.getElem?_set_ne hij] at e1
      obtain ⟨f, r'⟩ := s.own j o c e1 e2
      have hca : c ≠ a := fun h => by
        subst h
        obtain ⟨h1, q1⟩ := List.getElem?_eq_some_iff.mp ha
        obtain ⟨h2, q2⟩ := List.getElem?_eq_some_iff.mp e2
        exact hij ((List.getElem_inj s.nd).mp (q1.trans q2.symm))
      exact ⟨f, r'.move (Zle.refl Z) (upd_ne hca)⟩
end SW
set_option Elab.async false
set_option linter.all false
set_option maxRecDepth 100000
namespace SW
open PySem PySem.Spec PyProof.Rows L2

/-! ### names and constants -/
def xVar (i : Nat) : Ex := fun ρ st => match ρ.vs[i]? with
  | some (some x) => .ok x st
  | _ => .stk
def xC (x : Val) : Ex := fun _ st => .ok x st
section
variable {X : Cx}
theorem ve_var (i : Nat) {x : Str} {pos : Pos} (hN : X.N[i]? = some x := by rfl) (hv : Vis X.env.scope x := by first | exact Or.inl rfl | exact Or.inr (Or.inl rfl) | exact Or.inr (Or.inr rfl)) (hd : (x == ("__debug__" : Str)) = false := by decide)
    (hcd : (x == ("__classdict__" : Str)) = false := by decide) : VE X (.Name x pos) (xVar i) := fun W _ => (pe_var (pos := pos) hN hv hd hcd).imp fun σ H Q ⟨Z, ρ, st, s, h⟩ => by
  unfold xVar at h
  cases e : ρ.vs[i]? with
  | none => rw [e] at h; exact h.elim
  | some o =>
    rw [e] at h
    cases o with
    | none => exact h.elim
    | some x =>
      obtain ⟨v, e1, r⟩ := s.env.at_ i x e
      exact ⟨v, e1, Fin.ok h s.rel r⟩
theorem ve_c {e : Expr} {v : V} {x : Val} (h : PE X e (tC v)) (r : ∀ Z : Zc, RV Z x v) : VE X e (xC x) := fun W _ => h.imp fun σ H Q ⟨Z, ρ, st, s, q⟩ => Fin.ok q s.rel (r Z)
theorem ve_int {i j pos} : VE X (.Constant (.int i) j pos) (xC (.int i)) := ve_c pe_int fun Z => by unfold RV; rfl
theorem ve_bl {i j pos} : VE X (.Constant (.bool i) j pos) (xC (.bl i)) := ve_c pe_bl fun Z => by unfold RV; rfl
theorem ve_non {j pos} : VE X (.Constant .none j pos) (xC .non) := ve_c pe_non fun Z => by unfold RV; rfl
theorem ve_str {i j pos} : VE X (.Constant (.str i) j pos) (xC (.str i)) := ve_c pe_str fun Z => by unfold RV; rfl
/-- a module's int, text -/
theorem ve_gint {x : Str} {i : Int} {pos : Pos} (hm : ∃ t, X.mg x = some (.int i t)) (hg : Gl X x := by rfl) (hd : (x == ("__debug__" : Str)) = false := by decide) : VE X (.Name x pos) (xC (.int i)) := by
  obtain ⟨t, hm⟩ := hm
  exact ve_c (v := .int i) (pe_glob hg hm ⟨t, rfl⟩ hd) fun Z => by unfold RV; rfl
theorem ve_gstr {x : Str} {i : Str} {pos : Pos} (hm : ∃ t, X.mg x = some (.str i t)) (hg : Gl X x := by rfl) (hd : (x == ("__debug__" : Str)) = false := by decide) : VE X (.Name x pos) (xC (.str i)) := by
  obtain ⟨t, hm⟩ := hm
  exact ve_c (v := .str i) (pe_glob hg hm ⟨t, rfl⟩ hd) fun Z => by unfold RV; rfl

/-! ### operators by values -/
structure Sz (X : Cx) (b : Nat) (Z : Zc) (st : Store) (H : Hp) : Prop where
  K : Z.K = X.K
  mg : Z.mg = X.mg
  rel : SRel Z H st
  bs : b ≤ st.length
theorem Sta.sz {Z : Zc} {ρ : En} {st : Store} {σ : L2.St} {H : Hp} (s : Sta X Z ρ st σ H) : Sz X ρ.base Z st H := ⟨s.K, s.mg, s.rel, s.bs⟩
abbrev O2 := Val → Val → Store → Res Val
abbrev O1 := Val → Store → Res Val
def rS (X : Cx) (op : O2) : R2 := fun a c H Q => ∃ E b Z st x y, Sz X b Z st H ∧ RV Z x a ∧ RV Z y c ∧ Fin RV E b Z H st (op x y st) Q
def OpS (X : Cx) (F : Value → Value → Sem Value) (op : O2) : Prop := OpR X F (rS X op)
def xB (op : O2) (f g : Ex) : Ex := fun ρ st => (f ρ st).bind fun x st1 => (g ρ st1).bind fun y st2 => op x y st2
theorem TEx.mono {W : WX} {f : Ex} {σ : L2.St} {H : Hp} {Q Q' : VK} (h : TEx X W f σ H Q) (i : ∀ v H', Q v H' → Q' v H') : TEx X W f σ H Q' := by
  obtain ⟨Z, ρ, st, s, q⟩ := h
  exact ⟨Z, ρ, st, s, q.imp i⟩
/-- two values, then what is asked of them -/
theorem two {W : WX} {f g : Ex} {op : O2} {σ : L2.St} {H : Hp} {Q : VK} {Z : Zc} {ρ : En} {st : Store} (s : Sta X Z ρ st σ H) (h : Fin RV (WE W σ) ρ.base Z H st (xB op f g ρ st) Q) :
    TEx X W f σ H fun a H1 => TEx X W g σ H1 fun c H2 => rS X op a c H2 Q := by
  refine (TEx.bind s h).mono fun a H1 ⟨Z1, st1, x, s1, l1, r1, q1⟩ => (TEx.bind s1 q1).mono fun c H2 ⟨Z2, st2, y, s2, l2, r2, q2⟩ => ?_
  exact ⟨_, _, Z2, st2, x, y, s2.sz, RV.mono l2 x a r1, r2, q2⟩
variable {a b c : Expr} {f g h : Ex} {pos : Pos}
theorem ve_bin {o : Operator} {op : O2} (ho : OpS X (binaryOp o) op) (ha : VE X a f) (hb : VE X b g) : VE X (.BinOp a o b pos) (xB op f g) := fun W tk =>
  (pe_op (pos := pos) ho (ha W tk) (hb W tk)).imp fun σ H Q ⟨Z, ρ, st, s, q⟩ => two s q
/-- one value -/
def rS1 (X : Cx) (op : O1) : V → Hp → VK → Prop := fun a H Q => ∃ E b Z st x, Sz X b Z st H ∧ RV Z x a ∧ Fin RV E b Z H st (op x st) Q
def UnS (X : Cx) (F : Value → Sem Value) (op : O1) : Prop := UnR X F (rS1 X op)
def xU (op : O1) (f : Ex) : Ex := fun ρ st => (f ρ st).bind fun x st1 => op x st1
theorem one {W : WX} {f : Ex} {op : O1} {σ : L2.St} {H : Hp} {Q : VK} {Z : Zc} {ρ : En} {st : Store} (s : Sta X Z ρ st σ H) (h : Fin RV (WE W σ) ρ.base Z H st (xU op f ρ st) Q) :
    TEx X W f σ H fun a H1 => rS1 X op a H1 Q :=
  (TEx.bind s h).mono fun a H1 ⟨Z1, st1, x, s1, l1, r1, q1⟩ => ⟨_, _, Z1, st1, x, s1.sz, r1, q1⟩
theorem ve_un {o : UnaryOp} {op : O1} (ho : UnS X (unaryOp o) op) (ha : VE X a f) : VE X (.UnaryOp o a pos) (xU op f) := fun W tk =>
  (pe_un (pos := pos) ho (ha W tk)).imp fun σ H Q ⟨Z, ρ, st, s, q⟩ => one s q
/-- comparisons as values -/
theorem ve_cmp {o : CmpOp} {op : O2} (ho : OpS X (compareOp o) op) (ha : VE X a f) (hb : VE X b g) (hm : behindInMarks o b = false := by with_unfolding_all rfl) : VE X (.Compare a [o] [b] pos) (xB op f g) := fun W tk =>
  (pe_cmpR (pos := pos) ho (ha W tk) (hb W tk) hm).imp fun σ H Q ⟨Z, ρ, st, s, q⟩ => two s q
def xCh (op op' : O2) (f g h : Ex) : Ex := fun ρ st => (f ρ st).bind fun x st1 => (g ρ st1).bind fun y st2 => (op x y st2).bind fun k st3 => match k with
  | .bl true => (h ρ st3).bind fun z st4 => op' y z st4
  | .bl false => .ok (.bl false) st3
  | _ => .stk
theorem chain {W : WX} {op op' : O2} {σ : L2.St} {H : Hp} {Q : VK} {Z : Zc} {ρ : En} {st : Store} (s : Sta X Z ρ st σ H) (q : Fin RV (WE W σ) ρ.base Z H st (xCh op op' f g h ρ st) Q) :
    tChain (rS X op) (rS X op') (TEx X W f) (TEx X W g) (TEx X W h) σ H Q := by
  refine (TEx.bind s q).mono fun a H1 ⟨Z1, st1, x, s1, l1, r1, q1⟩ => (TEx.bind s1 q1).mono fun c H2 ⟨Z2, st2, y, s2, l2, r2, q2⟩ => ?_
  refine ⟨WE W σ, _, Z2, st2, x, y, s2.sz, RV.mono l2 x a r1, r2, (Fin.bind (R := RV) q2).imp fun z H3 ⟨Z3, st3, k, t3, rel3, r3, q3⟩ => ?_⟩
  have s3 := s2.next t3 rel3
  cases k with
  | bl k =>
    unfold RV at r3
    refine ⟨k, r3, ?_⟩
    cases k with
    | false => exact Fin.ok q3 rel3 (by unfold RV; rfl)
    | true =>
      refine (TEx.bind s3 q3).mono fun d H4 ⟨Z4, st4, u, s4, l4, r4, q4⟩ => ?_
      exact ⟨_, _, Z4, st4, y, u, s4.sz, RV.mono (t3.le.trans l4) y c r2, r4, q4⟩
  | _ => exact False.elim q3
theorem ve_chain {o o' : CmpOp} {op op' : O2} (ho : OpS X (compareOp o) op) (ho' : OpS X (compareOp o') op') (ha : VE X a f) (hb : VE X b g) (hc : VE X c h) (hm : lastMarks [o, o'] [b, c] = false := by with_unfolding_all rfl) :
    VE X (.Compare a [o, o'] [b, c] pos) (xCh op op' f g h) := fun W tk =>
  (pe_chain (pos := pos) ho ho' (ha W tk) (hb W tk) (hc W tk) hm).imp fun σ H Q ⟨Z, ρ, st, s, q⟩ => chain s q

/-! ### tests -/
def asB : Val → Store → Res Bool
  | .bl b, st => .ok b st
  | _, _ => .stk
def TTx (X : Cx) (W : WX) (f : Ex) : TT := fun σ H Q => ∃ Z ρ st, Sta X Z ρ st σ H ∧ Fin (fun _ (x y : Bool) => x = y) (WE W σ) ρ.base Z H st ((f ρ st).bind asB) Q
def VT (X : Cx) (e : Expr) (f : Ex) : Prop := ∀ W, Takes X W → PT X e (TTx X W f)
def VW (X : Cx) (e : Expr) (f : Ex) : Prop := ∀ W, Takes X W → PW X e (TTx X W f)
theorem TTx.tB {W : WX} {σ : L2.St} {H : Hp} {Q : Bool → Hp → Prop} (h : TTx X W f σ H Q) : TEx X W f σ H fun v H1 => ∃ k, v = .bl k ∧ Q k H1 := by
  obtain ⟨Z, ρ, st, s, q⟩ := h
  refine (TEx.bind s q).mono fun v H1 ⟨Z1, st1, x, s1, l1, r1, q1⟩ => ?_
  cases x with
  | bl k => unfold RV at r1; exact ⟨k, r1, Fin.ok q1 s1.rel rfl⟩
  | _ => exact False.elim q1
theorem vt_val (ha : VE X a f) (he : ∀ whole, isTrue a X.env whole = (do let v ← whole; standAt a.pos; holding [v] (truthy v)) := by intro _; rfl) : VT X a f := fun W tk => (pt_val (ha W tk) he).imp fun σ H Q q => q.tB
theorem vt_cmp {o : CmpOp} {op : O2} (ho : OpS X (compareOp o) op) (ha : VE X a f) (hb : VE X b g) (hm : behindInMarks o b = false := by with_unfolding_all rfl) : VT X (.Compare a [o] [b] pos) (xB op f g) := fun W tk =>
  (pt_cmpR (pos := pos) ho (ha W tk) (hb W tk) hm).imp fun σ H Q q => by
    obtain ⟨Z, ρ, st, s, q⟩ := q.tB
    exact two s q
theorem vt_chain {o o' : CmpOp} {op op' : O2} (ho : OpS X (compareOp o) op) (ho' : OpS X (compareOp o') op') (ha : VE X a f) (hb : VE X b g) (hc : VE X c h) (hm : lastMarks [o, o'] [b, c] = false := by with_unfolding_all rfl) :
    VT X (.Compare a [o, o'] [b, c] pos) (xCh op op' f g h) := fun W tk =>
  (pt_chain (pos := pos) ho ho' (ha W tk) (hb W tk) (hc W tk) hm).imp fun σ H Q q => by
    obtain ⟨Z, ρ, st, s, q⟩ := q.tB
    exact chain s q
def xNot (f : Ex) : Ex := fun ρ st => (f ρ st).bind fun x st1 => match x with
  | .bl b => .ok (.bl (!b)) st1
  | _ => .stk
def xAnd (f g : Ex) : Ex := fun ρ st => (f ρ st).bind fun x st1 => match x with
  | .bl true => g ρ st1
  | .bl false => .ok (.bl false) st1
  | _ => .stk
def xOr (f g : Ex) : Ex := fun ρ st => (f ρ st).bind fun x st1 => match x with
  | .bl false => g ρ st1
  | .bl true => .ok (.bl true) st1
  | _ => .stk
theorem ve_not (ha : VE X a f) : VE X (.UnaryOp .Not a pos) (xNot f) := fun W tk => (pe_not (pos := pos) (ha W tk)).imp fun σ H Q ⟨Z, ρ, st, s, q⟩ =>
  (TEx.bind s q).mono fun v H1 ⟨Z1, st1, x, s1, l1, r1, q1⟩ => by
    cases x with
    | bl k => unfold RV at r1; exact ⟨k, r1, Fin.ok q1 s1.rel (by unfold RV; rfl)⟩
    | _ => exact False.elim q1
theorem ve_one {o} (ha : VE X a f) : VE X (.BoolOp o [a] pos) f := fun W tk => pe_one (ha W tk)
variable {rest : List Expr}
theorem ve_and (ha : VE X a f) (hb : VE X (.BoolOp .And (b :: rest) pos) g) : VE X (.BoolOp .And (a :: b :: rest) pos) (xAnd f g) := fun W tk => (pe_and (pos := pos) (ha W tk) (hb W tk)).imp fun σ H Q ⟨Z, ρ, st, s, q⟩ =>
  (TEx.bind s q).mono fun v H1 ⟨Z1, st1, x, s1, l1, r1, q1⟩ => by
    cases x with
    | bl k =>
      unfold RV at r1
      refine ⟨k, r1, ?_⟩
      cases k with
      | false => exact Fin.ok q1 s1.rel (by unfold RV; rfl)
      | true => exact ⟨Z1, ρ, st1, s1, q1⟩
    | _ => exact False.elim q1
theorem ve_or (ha : VE X a f) (hb : VE X (.BoolOp .Or (b :: rest) pos) g) : VE X (.BoolOp .Or (a :: b :: rest) pos) (xOr f g) := fun W tk => (pe_or (pos := pos) (ha W tk) (hb W tk)).imp fun σ H Q ⟨Z, ρ, st, s, q⟩ =>
  (TEx.bind s q).mono fun v H1 ⟨Z1, st1, x, s1, l1, r1, q1⟩ => by
    cases x with
    | bl k =>
      unfold RV at r1
      refine ⟨k, r1, ?_⟩
      cases k with
      | true => exact Fin.ok q1 s1.rel (by unfold RV; rfl)
      | false => exact ⟨Z1, ρ, st1, s1, q1⟩
    | _ => exact False.elim q1
theorem TTx.mono {W : WX} {σ : L2.St} {H : Hp} {Q Q' : Bool → Hp → Prop} (h : TTx X W f σ H Q) (i : ∀ v H', Q v H' → Q' v H') : TTx X W f σ H Q' := by
  obtain ⟨Z, ρ, st, s, q⟩ := h
  exact ⟨Z, ρ, st, s, q.imp i⟩
theorem TTx.bind {W : WX} {α β : Type} {R : Zc → α → β → Prop} {k : Val → Store → Res α} {σ : L2.St} {H : Hp} {Q : β → Hp → Prop} {Z : Zc} {ρ : En} {st : Store}
    (s : Sta X Z ρ st σ H) (hk : ∀ x st, (∀ c, x ≠ Val.bl c) → k x st = .stk) (h : Fin R (WE W σ) ρ.base Z H st ((f ρ st).bind k) Q) :
    TTx X W f σ H (fun c H1 => ∃ Z1 st1, Sta X Z1 ρ st1 σ H1 ∧ Zle Z Z1 ∧ Fin R (WE W σ) ρ.base Z1 H1 st1 (k (.bl c) st1) Q) := by
  refine ⟨Z, ρ, st, s, ?_⟩
  cases e : f ρ st with
  | ok x st' =>
    rw [e] at h
    cases x with
    | bl c =>
      intro Z' H' v t' s' r'
      have r2 : c = v := r'
      subst r2
      exact ⟨Z', st', s.next t' s', t'.le, Fin.shift t' s' h⟩
    | _ => rw [Res.bind_ok, hk _ _ (fun c z => by cases z)] at h; exact h.elim
  | exc c fs vs st' => rw [e] at h; exact h
  | stk => rw [e] at h; exact h
theorem vt_not (ha : VT X a f) : VT X (.UnaryOp .Not a pos) (xNot f) := fun W tk => (pt_not (pos := pos) (ha W tk)).imp fun σ H Q ⟨Z, ρ, st, s, q⟩ => by
  have q' : Fin (fun _ (x y : Bool) => x = y) (WE W σ) ρ.base Z H st ((f ρ st).bind fun x st1 => match x with | .bl b => .ok (!b) st1 | _ => .stk) Q := by
    have e : (xNot f ρ st).bind asB = (f ρ st).bind (fun x st1 => match x with | .bl b => .ok (!b) st1 | _ => .stk) := by
      unfold xNot
      cases f ρ st with
      | ok x st1 => cases x <;> rfl
      | exc => rfl
      | stk => rfl
    rw [← e]; exact q
  refine (TTx.bind s (fun x st hx => ?_) q').mono fun c H1 ⟨Z1, st1, s1, l1, q1⟩ => Fin.ok q1 s1.rel rfl
  cases x with
  | bl c => exact absurd rfl (hx c)
  | _ => rfl
theorem vw_and1 (ha : VT X a f) : VW X (.BoolOp .And [a] pos) f := fun W tk => pw_and1 (ha W tk)
theorem vw_or1 (ha : VT X a f) : VW X (.BoolOp .Or [a] pos) f := fun W tk => pw_or1 (ha W tk)
theorem vw_and (ha : VT X a f) (hb : VW X (.BoolOp .And (b :: rest) pos) g) : VW X (.BoolOp .And (a :: b :: rest) pos) (xAnd f g) := fun W tk => (pw_and (pos := pos) (ha W tk) (hb W tk)).imp fun σ H Q ⟨Z, ρ, st, s, q⟩ => by
  have q' : Fin (fun _ (x y : Bool) => x = y) (WE W σ) ρ.base Z H st ((f ρ st).bind fun x st1 => match x with | .bl true => (g ρ st1).bind asB | .bl false => .ok false st1 | _ => .stk) Q := by
    have e : (xAnd f g ρ st).bind asB = (f ρ st).bind (fun x st1 => match x with | .bl true => (g ρ st1).bind asB | .bl false => .ok false st1 | _ => .stk) := by
      unfold xAnd
      cases f ρ st with
      | ok x st1 =>
        cases x with
        | bl k => cases k <;> rfl
        | _ => rfl
      | exc => rfl
      | stk => rfl
    rw [← e]; exact q
  refine (TTx.bind s (fun x st hx => ?_) q').mono fun c H1 ⟨Z1, st1, s1, l1, q1⟩ => ?_
  · cases x with
    | bl c => exact absurd rfl (hx c)
    | _ => rfl
  · cases c with
    | false => exact Fin.ok q1 s1.rel rfl
    | true => exact ⟨Z1, ρ, st1, s1, q1⟩
theorem vw_or (ha : VT X a f) (hb : VW X (.BoolOp .Or (b :: rest) pos) g) : VW X (.BoolOp .Or (a :: b :: rest) pos) (xOr f g) := fun W tk => (pw_or (pos := pos) (ha W tk) (hb W tk)).imp fun σ H Q ⟨Z, ρ, st, s, q⟩ => by
  have q' : Fin (fun _ (x y : Bool) => x = y) (WE W σ) ρ.base Z H st ((f ρ st).bind fun x st1 => match x with | .bl true => .ok true st1 | .bl false => (g ρ st1).bind asB | _ => .stk) Q := by
    have e : (xOr f g ρ st).bind asB = (f ρ st).bind (fun x st1 => match x with | .bl true => .ok true st1 | .bl false => (g ρ st1).bind asB | _ => .stk) := by
      unfold xOr
      cases f ρ st with
      | ok x st1 =>
        cases x with
        | bl k => cases k <;> rfl
        | _ => rfl
      | exc => rfl
      | stk => rfl
    rw [← e]; exact q
  refine (TTx.bind s (fun x st hx => ?_) q').mono fun c H1 ⟨Z1, st1, s1, l1, q1⟩ => ?_
  · cases x with
    | bl c => exact absurd rfl (hx c)
    | _ => rfl
  · cases c with
    | true => exact Fin.ok q1 s1.rel rfl
    | false => exact ⟨Z1, ρ, st1, s1, q1⟩
theorem vt_w (h : VW X a f) : VT X a f := fun W tk => (h W tk).pt
/-- a if t else b -/
def xIf (t f g : Ex) : Ex := fun ρ st => (t ρ st).bind fun x st1 => match x with
  | .bl true => f ρ st1
  | .bl false => g ρ st1
  | _ => .stk
theorem ve_if {t : Ex} (hc : VT X c t) (ha : VE X a f) (hb : VE X b g) : VE X (.IfExp c a b pos) (xIf t f g) := fun W tk => (pe_ifExp (pos := pos) (hc W tk) (ha W tk) (hb W tk)).imp fun σ H Q ⟨Z, ρ, st, s, q⟩ => by
  refine (TTx.bind s (fun x st hx => ?_) q).mono fun k H1 ⟨Z1, st1, s1, l1, q1⟩ => ?_
  · cases x with
    | bl c => exact absurd rfl (hx c)
    | _ => rfl
  · cases k with
    | true => exact ⟨Z1, ρ, st1, s1, q1⟩
    | false => exact ⟨Z1, ρ, st1, s1, q1⟩

/-! ### argument lists -/
def xsE : List Ex → En → Store → Res (List Val)
  | [], _, st => .ok [] st
  | f :: r, ρ, st => (f ρ st).bind fun x st1 => (xsE r ρ st1).bind fun xs st2 => .ok (x :: xs) st2
def TAx (X : Cx) (W : WX) (fs : List Ex) : TA := fun σ H Q => ∃ Z ρ st, Sta X Z ρ st σ H ∧ Fin RVs (WE W σ) ρ.base Z H st (xsE fs ρ st) Q
def VA (X : Cx) (es : List Expr) (fs : List Ex) : Prop := ∀ W, Takes X W → PA X es (TAx X W fs)
theorem TAx.mono {W : WX} {fs : List Ex} {σ : L2.St} {H : Hp} {Q Q' : List V → Hp → Prop} (h : TAx X W fs σ H Q) (i : ∀ v H', Q v H' → Q' v H') : TAx X W fs σ H Q' := by
  obtain ⟨Z, ρ, st, s, q⟩ := h
  exact ⟨Z, ρ, st, s, q.imp i⟩
theorem TAx.bind {W : WX} {fs : List Ex} {α β : Type} {R : Zc → α → β → Prop} {k : List Val → Store → Res α} {σ : L2.St} {H : Hp} {Q : β → Hp → Prop} {Z : Zc} {ρ : En} {st : Store}
    (s : Sta X Z ρ st σ H) (h : Fin R (WE W σ) ρ.base Z H st ((xsE fs ρ st).bind k) Q) :
    TAx X W fs σ H (fun v H1 => ∃ Z1 st1 x, Sta X Z1 ρ st1 σ H1 ∧ Zle Z Z1 ∧ RVs Z1 x v ∧ Fin R (WE W σ) ρ.base Z1 H1 st1 (k x st1) Q) :=
  ⟨Z, ρ, st, s, (Fin.bind (R := RVs) h).imp fun v H1 ⟨Z1, st1, x, t, r, rv, q⟩ => ⟨Z1, st1, x, s.next t r, t.le, rv, q⟩⟩
variable {es : List Expr} {fs : List Ex}
theorem va_nil : VA X [] [] := fun W tk => pa_nil.imp fun σ H Q ⟨Z, ρ, st, s, q⟩ => Fin.ok q s.rel RVs.nil
theorem va_cons (ha : VE X a f) (hr : VA X es fs) (hs : starEach (a :: es) X.env = (false, eval a X.env) :: starEach es X.env := by rfl) : VA X (a :: es) (f :: fs) := fun W tk => (pa_cons (ha W tk) (hr W tk) hs).imp fun σ H Q ⟨Z, ρ, st, s, q⟩ =>
  (TEx.bind s q).mono fun v H1 ⟨Z1, st1, x, s1, l1, r1, q1⟩ => (TAx.bind s1 q1).mono fun vs H2 ⟨Z2, st2, xs, s2, l2, r2, q2⟩ => Fin.ok q2 s2.rel (RVs.cons (RV.mono l2 x v r1) r2)
end
end SW
set_option Elab.async false
set_option linter.all false
set_option maxRecDepth 100000
namespace SW
open PySem PySem.Spec PyProof.Rows L2

/-! ### what a value holds -/
def lstOf (st : Store) : Val → Option (List Val)
  | .lst xs => some xs
  | .ref i => match st[i]? with
    | some (.lst xs) => some xs
    | _ => none
  | _ => none
def dctOf (st : Store) : Val → Option (List Key × List Val)
  | .dct ks xs => some (ks, xs)
  | .ref i => match st[i]? with
    | some (.dct ks xs) => some (ks, xs)
    | _ => none
  | _ => none
def insOf (st : Store) : Val → Option (Str × List Str × List Val)
  | .ins c fs xs => some (c, fs, xs)
  | .ref i => match st[i]? with
    | some (.ins c fs xs) => some (c, fs, xs)
    | _ => none
  | _ => none
section
variable {Z : Zc} {H : Hp} {st : Store} {x : Val} {v : V}
theorem SRel.ref_at (s : SRel Z H st) {i : Nat} {o : Ob} (r : RV Z (.ref i) v) (e : st[i]? = some o) : ∃ a, v = .ref a ∧ Z.as[i]? = some a ∧ RO Z H a o := by
  unfold RV at r
  obtain ⟨a, rfl, ha⟩ := r
  exact ⟨a, rfl, ha, (s.own i o a e ha).2⟩
theorem lst_at (s : SRel Z H st) (r : RV Z x v) {xs : List Val} (e : lstOf st x = some xs) : ∃ a vs, v = .ref a ∧ H a = some (.lst vs) ∧ RVs Z xs vs := by
  cases x with
  | lst ys =>
    unfold lstOf at e; cases e
    unfold RV at r
    obtain ⟨a, vs, rfl, h, r⟩ := r
    rcases s.sub a _ h with q | ⟨o, kvs, q, _⟩
    · exact ⟨a, vs, rfl, q, r⟩
    · cases q
  | ref i =>
    unfold lstOf at e
    cases q : st[i]? with
    | none => simp only [q] at e; cases e
    | some o =>
      simp only [q] at e
      cases o with
      | lst ys =>
        cases e
        obtain ⟨a, rfl, _, vs, h, r⟩ := s.ref_at r q
        exact ⟨a, vs, rfl, h, r⟩
      | _ => cases e
  | _ => unfold lstOf at e; cases e
theorem tup_at (s : SRel Z H st) {xs : List Val} (r : RV Z (.tup xs) v) : ∃ a vs, v = .ref a ∧ H a = some (.tup vs) ∧ RVs Z xs vs := by
  unfold RV at r
  obtain ⟨a, vs, rfl, h, r⟩ := r
  rcases s.sub a _ h with q | ⟨o, kvs, q, _⟩
  · exact ⟨a, vs, rfl, q, r⟩
  · cases q
theorem dct_at (s : SRel Z H st) (r : RV Z x v) {ks : List Key} {xs : List Val} (e : dctOf st x = some (ks, xs)) : ∃ a vs, v = .ref a ∧ Rd H a (.dK (ks.zip vs)) ∧ ks.length = vs.length ∧ RVs Z xs vs := by
  cases x with
  | dct ks' ys =>
    unfold dctOf at e; cases e
    unfold RV at r
    obtain ⟨a, vs, rfl, h, l, r⟩ := r
    rcases s.sub a _ h with q | ⟨o, kvs, q1, q2⟩
    · exact ⟨a, vs, rfl, .inl q, l, r⟩
    · exact ⟨a, vs, rfl, .inr ⟨o, q2⟩, l, r⟩
  | ref i =>
    unfold dctOf at e
    cases q : st[i]? with
    | none => simp only [q] at e; cases e
    | some o =>
      simp only [q] at e
      cases o with
      | dct ks' ys =>
        cases e
        obtain ⟨a, rfl, _, vs, h, l, r⟩ := s.ref_at r q
        exact ⟨a, vs, rfl, .inl h, l, r⟩
      | _ => cases e
  | _ => unfold dctOf at e; cases e
theorem ins_at (s : SRel Z H st) (r : RV Z x v) {c : Str} {fs : List Str} {xs : List Val} (e : insOf st x = some (c, fs, xs)) :
    ∃ a C dx vs, v = .ref a ∧ H a = some (.ins C dx (fs.zip vs)) ∧ Z.mg c = some (.ref C) ∧ fs.length = vs.length ∧ RVs Z xs vs := by
  cases x with
  | ins c' fs' ys =>
    unfold insOf at e; cases e
    unfold RV at r
    obtain ⟨a, C, dx, vs, rfl, h, m, l, r⟩ := r
    rcases s.sub a _ h with q | ⟨o, kvs, q, _⟩
    · exact ⟨a, C, dx, vs, rfl, q, m, l, r⟩
    · cases q
  | ref i =>
    unfold insOf at e
    cases q : st[i]? with
    | none => simp only [q] at e; cases e
    | some o =>
      simp only [q] at e
      cases o with
      | ins c' fs' ys =>
        cases e
        obtain ⟨a, rfl, _, C, dx, vs, h, m, l, r⟩ := s.ref_at r q
        exact ⟨a, C, dx, vs, rfl, h, m, l, r⟩
      | _ => cases e
  | _ => unfold insOf at e; cases e
end

/-! ### new lists, tuples, dicts -/
def mkL (own : Bool) (xs : List Val) (st : Store) : Res Val :=
  if xs.length ≤ sizeLine then (if own then .ok (.ref st.length) (st ++ [.lst xs]) else .ok (.lst xs) st) else .stk
def mkT (xs : List Val) (st : Store) : Res Val := if xs.length ≤ sizeLine then .ok (.tup xs) st else .stk
def mkD (own : Bool) (ks : List Key) (xs : List Val) (st : Store) : Res Val :=
  if own then .ok (.ref st.length) (st ++ [.dct ks xs]) else .ok (.dct ks xs) st
section
variable {X : Cx} {b : Nat} {Z : Zc} {H : Hp} {st : Store} {E : XK} {Q : VK}
theorem mkL_len {own : Bool} {xs : List Val} {P : Prop} (h : Fin RV E b Z H st (mkL own xs st) Q) : xs.length ≤ sizeLine := by
  unfold mkL at h
  by_cases hl : xs.length ≤ sizeLine
  · exact hl
  · rw [if_neg hl] at h; exact h.elim
theorem mkL_ok {own : Bool} {xs : List Val} {vs : List V} {p : Addr} (s : Sz X b Z st H) (r : RVs Z xs vs) (n : H p = none) (h : Fin RV E b Z H st (mkL own xs st) Q) : Q (.ref p) (upd H p (.lst vs)) := by
  unfold mkL at h
  by_cases hl : xs.length ≤ sizeLine
  · rw [if_pos hl] at h
    cases own with
    | false =>
      obtain ⟨t, r'⟩ := al_fz (b := b) (u := .lst vs) s.rel n
      refine h _ _ _ t r' ?_
      unfold RV
      exact ⟨p, vs, rfl, upd_same, RVs.mono t.le _ _ r⟩
    | true =>
      have le : Zle Z { Z with as := Z.as ++ [p] } := ⟨rfl, rfl, fun i a h => by
        show (Z.as ++ [p])[i]? = some a
        rw [List.getElem?_append_left (List.getElem?_eq_some_iff.mp h).1]; exact h, fun _ _ h => h⟩
      obtain ⟨t, r'⟩ := al_ow (b := b) (H' := upd H p (.lst vs)) (o := .lst xs) s.rel n s.bs (fun a ha _ => upd_ne ha) ⟨vs, upd_same, RVs.mono le _ _ r⟩
      refine h _ _ _ t r' ?_
      unfold RV
      exact ⟨p, rfl, by show (Z.as ++ [p])[st.length]? = some p; rw [← s.rel.len]; simp⟩
  · rw [if_neg hl] at h; exact h.elim
theorem mkT_len {xs : List Val} (h : Fin RV E b Z H st (mkT xs st) Q) : xs.length ≤ sizeLine := by
  unfold mkT at h
  by_cases hl : xs.length ≤ sizeLine
  · exact hl
  · rw [if_neg hl] at h; exact h.elim
theorem mkT_ok {xs : List Val} {vs : List V} {p : Addr} (s : Sz X b Z st H) (r : RVs Z xs vs) (n : H p = none) (h : Fin RV E b Z H st (mkT xs st) Q) : Q (.ref p) (upd H p (.tup vs)) := by
  unfold mkT at h
  by_cases hl : xs.length ≤ sizeLine
  · rw [if_pos hl] at h
    obtain ⟨t, r'⟩ := al_fz (b := b) (u := .tup vs) s.rel n
    refine h _ _ _ t r' ?_
    unfold RV
    exact ⟨p, vs, rfl, upd_same, RVs.mono t.le _ _ r⟩
  · rw [if_neg hl] at h; exact h.elim
theorem mkD_ok {own : Bool} {ks : List Key} {xs : List Val} {vs : List V} {p : Addr} (s : Sz X b Z st H) (l : ks.length = vs.length) (r : RVs Z xs vs) (n : H p = none) (h : Fin RV E b Z H st (mkD own ks xs st) Q) : Q (.ref p) (upd H p (.dK (ks.zip vs))) := by
  unfold mkD at h
  cases own with
  | false =>
    obtain ⟨t, r'⟩ := al_fz (b := b) (u := .dK (ks.zip vs)) s.rel n
    refine h _ _ _ t r' ?_
    unfold RV
    exact ⟨p, vs, rfl, upd_same, l, RVs.mono t.le _ _ r⟩
  | true =>
    have le : Zle Z { Z with as := Z.as ++ [p] } := ⟨rfl, rfl, fun i a h => by
      show (Z.as ++ [p])[i]? = some a
      rw [List.getElem?_append_left (List.getElem?_eq_some_iff.mp h).1]; exact h, fun _ _ h => h⟩
    obtain ⟨t, r'⟩ := al_ow (b := b) (H' := upd H p (.dK (ks.zip vs))) (o := .dct ks xs) s.rel n s.bs (fun a ha _ => upd_ne ha) ⟨vs, upd_same, l, RVs.mono le _ _ r⟩
    refine h _ _ _ t r' ?_
    unfold RV
    exact ⟨p, rfl, by show (Z.as ++ [p])[st.length]? = some p; rw [← s.rel.len]; simp⟩
end
section
variable {X : Cx} {es : List Expr} {fs : List Ex} {pos : Pos}
def xLst (own : Bool) (fs : List Ex) : Ex := fun ρ st => (xsE fs ρ st).bind fun xs st1 => mkL own xs st1
def xTup (fs : List Ex) : Ex := fun ρ st => (xsE fs ρ st).bind fun xs st1 => mkT xs st1
theorem ve_lst (own : Bool) (h : VA X es fs) : VE X (.List es pos) (xLst own fs) := fun W tk => (pe_lst (pos := pos) (h W tk)).imp fun σ H Q ⟨Z, ρ, st, s, q⟩ =>
  (TAx.bind s q).mono fun vs H1 ⟨Z1, st1, xs, s1, l1, r1, q1⟩ => ⟨by rw [RVs.length r1]; exact mkL_len (P := True) q1, fun p n => mkL_ok s1.sz r1 n q1⟩
theorem ve_tup {x1} (h : VA X es fs) : VE X (.Tuple es x1 pos) (xTup fs) := fun W tk => (pe_tup (pos := pos) (h W tk)).imp fun σ H Q ⟨Z, ρ, st, s, q⟩ =>
  (TAx.bind s q).mono fun vs H1 ⟨Z1, st1, xs, s1, l1, r1, q1⟩ => ⟨by rw [RVs.length r1]; exact mkT_len q1, fun p n => mkT_ok s1.sz r1 n q1⟩
def xDnew (own : Bool) : Ex := fun _ st => mkD own [] [] st
theorem ve_dnew (own : Bool) : VE X (.Dict [] [] pos) (xDnew own) := fun W tk => (pe_dnewK (pos := pos)).imp fun σ H Q ⟨Z, ρ, st, s, q⟩ => fun p n => mkD_ok s.sz rfl RVs.nil n q
end

/-! ### operators -/
section
variable {X : Cx}
theorem OpS.mk {F : Value → Value → Sem Value} {op : O2}
    (h : ∀ (E : XK) (b : Nat) (Z : Zc) (st : Store) (x y : Val) (pins : List (Addr × Obj)) (s : Shared) (σ : L2.St) (H : Hp) (a c : V) (v u : Value) (Q : VK), Inv X pins σ H s → RelV a v → RelV c u → Sz X b Z st H → RV Z x a → RV Z y c → Fin RV E b Z H st (op x y st) Q →
      wpAny (model X.prog X.w) X.A (F v u) (EP X pins σ Q) X.xe s) : OpS X F op := by
  intro pins s σ H a c v u Q I ra rc q
  obtain ⟨E, b, Z, st, x, y, sz, rx, ry, f⟩ := q
  exact h E b Z st x y pins s σ H a c v u Q I ra rc sz rx ry f
/-- ints in, an int out, where c says so -/
def iop (c : Int → Int → Bool) (g : Int → Int → Int) : O2 := fun x y st => match x, y with
  | .int i, .int j => if c i j then .ok (.int (g i j)) st else .stk
  | _, _ => .stk
def ibop (g : Int → Int → Bool) : O2 := fun x y st => match x, y with
  | .int i, .int j => .ok (.bl (g i j)) st
  | _, _ => .stk
theorem iop_ok {F : Value → Value → Sem Value} {C : Int → Int → Prop} {c : Int → Int → Bool} {g : Int → Int → Int} (h : OpR X F (rI C fun i j => .int (g i j))) (hc : ∀ i j, c i j = true → C i j) : OpS X F (iop c g) := OpS.mk fun E b Z st x y pins s σ H a d v u Q I ra rd sz rx ry f => by
  cases x with
  | int i =>
    cases y with
    | int j =>
      unfold RV at rx ry
      unfold iop at f
      by_cases e : c i j = true
      · simp only [e, if_true] at f
        exact h pins s σ H a d v u Q I ra rd ⟨i, j, rx, ry, hc i j e, Fin.ok f sz.rel (by unfold RV; rfl)⟩
      · simp only [e] at f; exact f.elim
    | _ => exact f.elim
  | _ => exact f.elim
theorem ibop_ok {F : Value → Value → Sem Value} {g : Int → Int → Bool} (h : OpR X F (rI0 fun i j => .bl (g i j))) : OpS X F (ibop g) := OpS.mk fun E b Z st x y pins s σ H a d v u Q I ra rd sz rx ry f => by
  cases x with
  | int i =>
    cases y with
    | int j =>
      unfold RV at rx ry
      exact h pins s σ H a d v u Q I ra rd ⟨i, j, rx, ry, Fin.ok f sz.rel (by unfold RV; rfl)⟩
    | _ => exact f.elim
  | _ => exact f.elim
def oSub : O2 := iop (fun _ _ => true) fun i j => i - j
theorem os_sub : OpS X (binaryOp .Sub) oSub := iop_ok (C := fun _ _ => True) (fun pins s σ H x y v u Q I rx ry ⟨i, j, e1, e2, _, q⟩ => op_sub pins s σ H x y v u Q I rx ry ⟨i, j, e1, e2, q⟩) fun _ _ _ => trivial
def oDiv : O2 := iop (fun _ j => decide (0 < j) && decide (j < 1073741824)) fun i j => i / j
theorem os_div : OpS X (binaryOp .FloorDiv) oDiv := iop_ok op_fdiv fun i j h => by
  obtain ⟨h1, h2⟩ := Bool.and_eq_true_iff.mp h
  exact ⟨of_decide_eq_true h1, of_decide_eq_true h2⟩
def oMod : O2 := iop (fun _ j => decide (0 < j)) fun i j => i % j
theorem os_mod : OpS X (binaryOp .Mod) oMod := iop_ok op_mod fun i j h => of_decide_eq_true h
def powC (i j : Int) : Bool := decide (0 ≤ j) && decide (j ≤ 1000000) && decide (i.natAbs < 2 ^ 64)
theorem powC_ok {i j : Int} (h : powC i j = true) : CPow i j := by
  obtain ⟨h1, h2⟩ := Bool.and_eq_true_iff.mp h
  obtain ⟨h0, h1⟩ := Bool.and_eq_true_iff.mp h1
  exact ⟨of_decide_eq_true h0, of_decide_eq_true h1, of_decide_eq_true h2⟩
def oPow : O2 := iop powC fun i j => i ^ j.toNat
theorem os_pow : OpS X (binaryOp .Pow) oPow := iop_ok op_pow fun _ _ h => powC_ok h
def oShl : O2 := iop powC fun i j => i * 2 ^ j.toNat
theorem os_shl : OpS X (binaryOp .LShift) oShl := iop_ok op_shl fun _ _ h => powC_ok h
def oShr : O2 := iop (fun _ j => decide (0 ≤ j)) fun i j => i / 2 ^ j.toNat
theorem os_shr : OpS X (binaryOp .RShift) oShr := iop_ok op_shr fun _ _ h => of_decide_eq_true h
def oAnd : O2 := iop (fun _ _ => true) fun i j => Builtin.bitAnd i j
theorem os_and : OpS X (binaryOp .BitAnd) oAnd := iop_ok (C := fun _ _ => True) (fun pins s σ H x y v u Q I rx ry ⟨i, j, e1, e2, _, q⟩ => op_and pins s σ H x y v u Q I rx ry ⟨i, j, e1, e2, q⟩) fun _ _ _ => trivial
def oLt : O2 := ibop fun i j => decide (i < j)
theorem os_lt : OpS X (compareOp .Lt) oLt := ibop_ok op_lt
def oLe : O2 := ibop fun i j => decide (i ≤ j)
theorem os_le : OpS X (compareOp .LtE) oLe := ibop_ok op_le
def oGt : O2 := ibop fun i j => decide (j < i)
theorem os_gt : OpS X (compareOp .Gt) oGt := ibop_ok op_gt
def oGe : O2 := ibop fun i j => decide (j ≤ i)
theorem os_ge : OpS X (compareOp .GtE) oGe := ibop_ok op_ge
def oNeg : O1 := fun x st => match x with
  | .int i => .ok (.int (-i)) st
  | _ => .stk
theorem us_neg : UnS X (unaryOp .USub) oNeg := fun pins s σ H a v Q I ra ⟨E, b, Z, st, x, sz, rx, f⟩ => by
  cases x with
  | int i =>
    unfold RV at rx
    exact un_neg pins s σ H a v Q I ra ⟨i, rx, Fin.ok f sz.rel (by unfold RV; rfl)⟩
  | _ => exact f.elim
/-- is, is not: None, a bool -/
def idOf : Val → Val → Option Bool
  | .non, .non => some true
  | .bl a, .bl b => some (a == b)
  | _, .non => some false
  | _, .bl _ => some false
  | _, _ => none
def oIs : O2 := fun x y st => match idOf x y with
  | some b => .ok (.bl b) st
  | none => .stk
def oIsNot : O2 := fun x y st => match idOf x y with
  | some b => .ok (.bl (!b)) st
  | none => .stk
theorem is_bl_gen {M : Model} {A : Around} {E : Value → Shared → Prop} {s : Shared} {Q : Value → Shared → Prop} {v : Value} {c : Bool} (hb : ∀ i, v ≠ .builtin i) (h : Q (.bool (v == .bool c)) s) : wpAny M A (compareOp .Is v (.bool c)) Q E s := by
  cases v with
  | builtin i => exact absurd rfl (hb i)
  | _ => exact wpAny_pure h
theorem isnot_bl_gen {M : Model} {A : Around} {E : Value → Shared → Prop} {s : Shared} {Q : Value → Shared → Prop} {v : Value} {c : Bool} (hb : ∀ i, v ≠ .builtin i) (h : Q (.bool (!(v == .bool c))) s) : wpAny M A (compareOp .IsNot v (.bool c)) Q E s := by
  cases v with
  | builtin i => exact absurd rfl (hb i)
  | _ => exact wpAny_pure h
theorem relV_bi {a : V} {v : Value} (r : RelV a v) (i : String) : v ≠ .builtin i := by
  cases a <;> first
    | (obtain ⟨t, rfl⟩ := r; intro z; cases z; done)
    | (cases r; intro z; cases z; done)
theorem relV_beq {a : V} {v : Value} {c : Bool} (r : RelV a v) : (v == .bool c) = decide (a = .bl c) := by
  cases a with
  | bl d =>
    cases r
    cases c <;> cases d <;> rfl
  | _ =>
    first
      | (cases r; rfl)
      | (obtain ⟨t, rfl⟩ := r; rfl)
theorem idOf_ok {Z : Zc} {x y : Val} {a c : V} {b : Bool} (rx : RV Z x a) (ry : RV Z y c) (e : idOf x y = some b) : (c = .non ∧ b = decide (a = .non)) ∨ ∃ d, c = .bl d ∧ b = decide (a = .bl d) := by
  cases y with
  | non =>
    unfold RV at ry
    refine .inl ⟨ry, ?_⟩
    cases x with
    | non => unfold RV at rx; unfold idOf at e; cases e; rw [rx]; rfl
    | bl d => unfold RV at rx; unfold idOf at e; cases e; rw [rx]; rfl
    | int d => unfold RV at rx; unfold idOf at e; cases e; rw [rx]; rfl
    | str d => unfold RV at rx; unfold idOf at e; cases e; rw [rx]; rfl
    | tup d => unfold RV at rx; unfold idOf at e; cases e; obtain ⟨a, _, rfl, _⟩ := rx; rfl
    | lst d => unfold RV at rx; unfold idOf at e; cases e; obtain ⟨a, _, rfl, _⟩ := rx; rfl
    | dct d1 d2 => unfold RV at rx; unfold idOf at e; cases e; obtain ⟨a, _, rfl, _⟩ := rx; rfl
    | ins d1 d2 d3 => unfold RV at rx; unfold idOf at e; cases e; obtain ⟨a, _, _, _, rfl, _⟩ := rx; rfl
    | ref d => unfold RV at rx; unfold idOf at e; cases e; obtain ⟨a, rfl, _⟩ := rx; rfl
    | scr d => unfold RV at rx; unfold idOf at e; cases e; obtain ⟨a, rfl, _⟩ := rx; rfl
  | bl k =>
    unfold RV at ry
    refine .inr ⟨k, ry, ?_⟩
    cases x with
    | non => unfold RV at rx; unfold idOf at e; cases e; rw [rx]; rfl
    | bl d => unfold RV at rx; unfold idOf at e; cases e; rw [rx]; cases d <;> cases k <;> rfl
    | int d => unfold RV at rx; unfold idOf at e; cases e; rw [rx]; rfl
    | str d => unfold RV at rx; unfold idOf at e; cases e; rw [rx]; rfl
    | tup d => unfold RV at rx; unfold idOf at e; cases e; obtain ⟨a, _, rfl, _⟩ := rx; rfl
    | lst d => unfold RV at rx; unfold idOf at e; cases e; obtain ⟨a, _, rfl, _⟩ := rx; rfl
    | dct d1 d2 => unfold RV at rx; unfold idOf at e; cases e; obtain ⟨a, _, rfl, _⟩ := rx; rfl
    | ins d1 d2 d3 => unfold RV at rx; unfold idOf at e; cases e; obtain ⟨a, _, _, _, rfl, _⟩ := rx; rfl
    | ref d => unfold RV at rx; unfold idOf at e; cases e; obtain ⟨a, rfl, _⟩ := rx; rfl
    | scr d => unfold RV at rx; unfold idOf at e; cases e; obtain ⟨a, rfl, _⟩ := rx; rfl
  | _ => unfold idOf at e; cases x <;> cases e
theorem os_is : OpS X (compareOp .Is) oIs := OpS.mk fun E b Z st x y pins s σ H a d v u Q I ra rd sz rx ry f => by
  unfold oIs at f
  cases e : idOf x y with
  | none => rw [e] at f; exact f.elim
  | some k =>
    rw [e] at f
    rcases idOf_ok rx ry e with ⟨rfl, ek⟩ | ⟨c, rfl, ek⟩
    · exact op_isN pins s σ H a _ v u Q I ra rd ⟨rfl, Fin.ok f sz.rel (by unfold RV; rw [ek])⟩
    · cases (show u = Value.bool c from rd)
      exact is_bl_gen (relV_bi ra) ⟨.bl k, H, I, by rw [relV_beq ra, ek]; rfl, Fin.ok f sz.rel (by unfold RV; rfl)⟩
theorem os_isnot : OpS X (compareOp .IsNot) oIsNot := OpS.mk fun E b Z st x y pins s σ H a d v u Q I ra rd sz rx ry f => by
  unfold oIsNot at f
  cases e : idOf x y with
  | none => rw [e] at f; exact f.elim
  | some k =>
    rw [e] at f
    rcases idOf_ok rx ry e with ⟨rfl, ek⟩ | ⟨c, rfl, ek⟩
    · exact op_notN pins s σ H a _ v u Q I ra rd ⟨rfl, Fin.ok f sz.rel (by unfold RV; rw [ek])⟩
    · cases (show u = Value.bool c from rd)
      exact isnot_bl_gen (relV_bi ra) ⟨.bl (!k), H, I, by rw [relV_beq ra, ek]; rfl, Fin.ok f sz.rel (by unfold RV; rfl)⟩
/-- + of ints, texts, lists, tuples (the left one not empty) -/
def oAdd (own : Bool) : O2 := fun x y st => match x, y with
  | .int i, .int j => .ok (.int (i + j)) st
  | .str i, .str j => if i.length + j.length ≤ sizeLine then .ok (.str (i ++ j)) st else .stk
  | .tup (x :: xs), .tup (y :: ys) => mkT (x :: xs ++ y :: ys) st
  | .tup (x :: xs), .tup [] => .ok (.tup (x :: xs)) st
  | x, y => match lstOf st x, lstOf st y with
    | some xs, some ys => mkL own (xs ++ ys) st
    | _, _ => .stk
theorem cat_case {E : XK} {own : Bool} {b : Nat} {Z : Zc} {st : Store} {x y : Val} {pins : List (Addr × Obj)} {s : Shared} {σ : L2.St} {H : Hp} {a d : V} {v u : Value} {Q : VK} (I : Inv X pins σ H s) (ra : RelV a v) (rd : RelV d u) (sz : Sz X b Z st H) (rx : RV Z x a) (ry : RV Z y d)
    (f : Fin RV E b Z H st (match lstOf st x, lstOf st y with
      | some xs, some ys => mkL own (xs ++ ys) st
      | _, _ => .stk) Q) : wpAny (model X.prog X.w) X.A (binaryOp .Add v u) (EP X pins σ Q) X.xe s := by
  cases ex : lstOf st x with
  | none => rw [ex] at f; exact f.elim
  | some xs =>
    cases ey : lstOf st y with
    | none => rw [ex, ey] at f; exact f.elim
    | some ys =>
      rw [ex, ey] at f
      obtain ⟨l, vs, rfl, h1, r1⟩ := lst_at sz.rel rx ex
      obtain ⟨m, us, rfl, h2, r2⟩ := lst_at sz.rel ry ey
      have hl := mkL_len (P := True) f
      rw [List.length_append] at hl
      exact op_cat pins s σ H _ _ v u Q I ra rd ⟨l, m, vs, us, rfl, rfl, h1, h2, by rw [RVs.length r1, RVs.length r2]; exact hl, fun p n => mkL_ok sz (RVs.app r1 r2) n f⟩
theorem os_add (own : Bool) : OpS X (binaryOp .Add) (oAdd own) := OpS.mk fun E b Z st x y pins s σ H a d v u Q I ra rd sz rx ry f => by
  unfold oAdd at f
  split at f
  · unfold RV at rx ry
    exact op_add pins s σ H a d v u Q I ra rd ⟨_, _, rx, ry, Fin.ok f sz.rel (by unfold RV; rfl)⟩
  · rename_i i j
    unfold RV at rx ry
    by_cases hl : i.length + j.length ≤ sizeLine
    · rw [if_pos hl] at f
      exact op_add_str pins s σ H a d v u Q I ra rd ⟨_, _, rx, ry, hl, Fin.ok f sz.rel (by unfold RV; rfl)⟩
    · rw [if_neg hl] at f; exact f.elim
  · rename_i x xs y ys
    obtain ⟨l, vs, rfl, h1, r1⟩ := tup_at sz.rel rx
    obtain ⟨m, us, rfl, h2, r2⟩ := tup_at sz.rel ry
    have hl := mkT_len f
    rw [List.length_append] at hl
    have n1 : vs ≠ [] := fun z => by subst z; have := RVs.length r1; simp at this
    have n2 : us ≠ [] := fun z => by subst z; have := RVs.length r2; simp at this
    refine op_catT pins s σ H _ _ v u Q I ra rd ⟨l, m, vs, us, rfl, rfl, SqT.of h1, SqT.of h2, n1, ?_, fun z => absurd z n2, fun _ p n => mkT_ok sz (RVs.app r1 r2) n f⟩
    rw [RVs.length r1, RVs.length r2]; exact hl
  · rename_i x xs
    obtain ⟨l, vs, rfl, h1, r1⟩ := tup_at sz.rel rx
    obtain ⟨m, us, rfl, h2, r2⟩ := tup_at sz.rel ry
    have n1 : vs ≠ [] := fun z => by subst z; have := RVs.length r1; simp at this
    have n2 : us = [] := RVs.nil_iff.mp r2
    have hl := (I.tuple (SqT.of h1)).choose_spec.2.2
    refine op_catT pins s σ H _ _ v u Q I ra rd ⟨l, m, vs, us, rfl, rfl, SqT.of h1, SqT.of h2, n1, ?_, fun z => Fin.ok f sz.rel rx, fun z => absurd n2 z⟩
    rw [n2]; simpa using hl
  · exact cat_case I ra rd sz rx ry f
/-- * of ints; a list times an int; a text times an int -/
def mulC (i j : Int) : Bool := (decide (-(2 ^ 64) < i) && decide (i < 2 ^ 64)) || (decide (-(2 ^ 64) < j) && decide (j < 2 ^ 64))
theorem mulC_ok {i j : Int} (h : mulC i j = true) : CMul i j := by
  rcases Bool.or_eq_true_iff.mp h with h | h
  · obtain ⟨h1, h2⟩ := Bool.and_eq_true_iff.mp h
    exact .inl ⟨of_decide_eq_true h1, of_decide_eq_true h2⟩
  · obtain ⟨h1, h2⟩ := Bool.and_eq_true_iff.mp h
    exact .inr ⟨of_decide_eq_true h1, of_decide_eq_true h2⟩
def oMul (own : Bool) : O2 := fun x y st => match x, y with
  | .int i, .int j => if mulC i j then .ok (.int (i * j)) st else .stk
  | x, .int k => match lstOf st x with
    | some xs => if xs.length * k.toNat ≤ sizeLine ∧ -(2 ^ 63) ≤ k ∧ k < 2 ^ 63 then mkL own (List.replicate k.toNat xs).flatten st else .stk
    | none => .stk
  | _, _ => .stk
theorem RVs.rep {Z : Zc} {xs : List Val} {vs : List V} (r : RVs Z xs vs) : ∀ k : Nat, RVs Z (List.replicate k xs).flatten (List.replicate k vs).flatten
  | 0 => RVs.nil
  | k + 1 => by
    show RVs Z (xs ++ (List.replicate k xs).flatten) (vs ++ (List.replicate k vs).flatten)
    exact RVs.app r (RVs.rep r k)
theorem os_mul (own : Bool) : OpS X (binaryOp .Mult) (oMul own) := OpS.mk fun E b Z st x y pins s σ H a d v u Q I ra rd sz rx ry f => by
  unfold oMul at f
  split at f
  · rename_i i j
    unfold RV at rx ry
    by_cases e : mulC i j = true
    · rw [if_pos e] at f
      exact op_mul pins s σ H a d v u Q I ra rd ⟨_, _, rx, ry, mulC_ok e, Fin.ok f sz.rel (by unfold RV; rfl)⟩
    · rw [if_neg e] at f; exact f.elim
  · rename_i k _
    cases ex : lstOf st x with
    | none => rw [ex] at f; exact f.elim
    | some xs =>
      rw [ex] at f
      by_cases hc : xs.length * k.toNat ≤ sizeLine ∧ -(2 ^ 63) ≤ k ∧ k < 2 ^ 63
      · simp only [hc, and_self, if_true] at f
        obtain ⟨l, vs, rfl, h1, r1⟩ := lst_at sz.rel rx ex
        unfold RV at ry
        exact op_rep pins s σ H _ _ v u Q I ra rd ⟨l, k, vs, rfl, ry, h1, hc.2.1, hc.2.2, by rw [RVs.length r1]; exact hc.1, fun p n => mkL_ok sz (RVs.rep r1 _) n f⟩
      · simp only [hc, if_false] at f; exact f.elim
  · exact f.elim
end
end SW
set_option Elab.async false
set_option linter.all false
set_option maxRecDepth 100000
namespace SW
open PySem PySem.Spec PyProof.Rows L2

/-! ### data -/
mutual
def toD : Val → Option PyData
  | .non => some .none
  | .bl b => some (.bool b)
  | .int i => some (.int i)
  | .str x => some (.str x)
  | .tup xs => (toDs xs).map .tuple
  | .lst xs => (toDs xs).map .list
  | _ => none
def toDs : List Val → Option (List PyData)
  | [] => some []
  | x :: r => match toD x, toDs r with
    | some d, some ds => some (d :: ds)
    | _, _ => none
end
def datOf (st : Store) (x : Val) : Option PyData := match x with
  | .ref _ => (match lstOf st x with
    | some xs => (toDs xs).map .list
    | none => none)
  | x => toD x
section
variable {Z : Zc} {H : Hp} {st : Store} {K : PySem.W.Frag}
mutual
theorem toD_ok (s : SRel Z H st) : ∀ (x : Val) (v : V) (d : PyData), RV Z x v → toD x = some d → Dp K H v d
  | .non, v, d, r, e => by unfold RV at r; unfold toD at e; cases e; rw [r]; exact .non
  | .bl b, v, d, r, e => by unfold RV at r; unfold toD at e; cases e; rw [r]; exact .bl b
  | .int b, v, d, r, e => by unfold RV at r; unfold toD at e; cases e; rw [r]; exact .int b
  | .str b, v, d, r, e => by unfold RV at r; unfold toD at e; cases e; rw [r]; exact .str b
  | .tup xs, v, d, r, e => by
    obtain ⟨a, vs, rfl, h, r⟩ := tup_at s r
    unfold toD at e
    cases q : toDs xs with
    | none => rw [q] at e; cases e
    | some ds => rw [q] at e; cases e; exact .tup (SqT.of h) (toDs_ok s xs vs ds r q)
  | .lst xs, v, d, r, e => by
    obtain ⟨a, vs, rfl, h, r⟩ := lst_at (xs := xs) s r rfl
    unfold toD at e
    cases q : toDs xs with
    | none => rw [q] at e; cases e
    | some ds => rw [q] at e; cases e; exact .lst (SqL.of h) (toDs_ok s xs vs ds r q)
  | .dct _ _, v, d, r, e => by unfold toD at e; cases e
  | .ins _ _ _, v, d, r, e => by unfold toD at e; cases e
  | .ref _, v, d, r, e => by unfold toD at e; cases e
  | .scr _, v, d, r, e => by unfold toD at e; cases e
theorem toDs_ok (s : SRel Z H st) : ∀ (xs : List Val) (vs : List V) (ds : List PyData), RVs Z xs vs → toDs xs = some ds → DpAll K H vs ds
  | [], vs, ds, r, e => by rw [RVs.nil_iff.mp r]; unfold toDs at e; cases e; exact .nil
  | x :: l, vs, ds, r, e => by
    obtain ⟨v, vs', rfl, h1, h2⟩ := RVs.cons_iff.mp r
    unfold toDs at e
    cases q1 : toD x with
    | none => rw [q1] at e; cases e
    | some d =>
      cases q2 : toDs l with
      | none => rw [q1, q2] at e; cases e
      | some ds' => rw [q1, q2] at e; cases e; exact .cons (toD_ok s x v d h1 q1) (toDs_ok s l vs' ds' h2 q2)
end
theorem datOf_ok (s : SRel Z H st) {x : Val} {v : V} {d : PyData} (r : RV Z x v) (e : datOf st x = some d) : Dp K H v d := by
  cases x with
  | ref i =>
    have e' : (match lstOf st (.ref i) with
      | some xs => (toDs xs).map PyData.list
      | none => none) = some d := e
    cases q : lstOf st (.ref i) with
    | none => rw [q] at e'; cases e'
    | some xs =>
      rw [q] at e'
      obtain ⟨a, vs, rfl, h, r⟩ := lst_at s r q
      cases q2 : toDs xs with
      | none => simp only [q2] at e'; cases e'
      | some ds => simp only [q2] at e'; cases e'; exact .lst (SqL.of h) (toDs_ok s xs vs ds r q2)
  | _ => exact toD_ok s _ v d r e
end
section
variable {X : Cx}
def eqD (st : Store) (x y : Val) : Option Bool := match datOf st x, datOf st y with
  | some d, some e => if SeqAt.shaped d = true ∧ SeqAt.shaped e = true then some (PyData.eqv d e) else none
  | _, _ => none
def oEq : O2 := fun x y st => match eqD st x y with
  | some b => .ok (.bl b) st
  | none => .stk
def oNe : O2 := fun x y st => match eqD st x y with
  | some b => .ok (.bl (!b)) st
  | none => .stk
theorem eqD_ok {K : PySem.W.Frag} {Z : Zc} {H : Hp} {st : Store} (s : SRel Z H st) {x y : Val} {v u : V} {b : Bool} (rx : RV Z x v) (ry : RV Z y u) (e : eqD st x y = some b) :
    ∃ d d', Dp K H v d ∧ Dp K H u d' ∧ SeqAt.shaped d = true ∧ SeqAt.shaped d' = true ∧ b = PyData.eqv d d' := by
  unfold eqD at e
  cases q1 : datOf st x with
  | none => rw [q1] at e; cases e
  | some d =>
    cases q2 : datOf st y with
    | none => rw [q1, q2] at e; cases e
    | some d' =>
      rw [q1, q2] at e
      by_cases hs : SeqAt.shaped d = true ∧ SeqAt.shaped d' = true
      · simp only [hs, and_self, if_true] at e
        exact ⟨d, d', datOf_ok s rx q1, datOf_ok s ry q2, hs.1, hs.2, (Option.some.inj e).symm⟩
      · simp only [hs, if_false] at e; cases e
theorem os_eq {k : Nat} (hr : Room k X.A) : OpS X (compareOp .Eq) oEq := OpS.mk fun E b Z st x y pins s σ H a d v u Q I ra rd sz rx ry f => by
  unfold oEq at f
  cases e : eqD st x y with
  | none => rw [e] at f; exact f.elim
  | some c =>
    rw [e] at f
    obtain ⟨d1, d2, h1, h2, h3, h4, rfl⟩ := eqD_ok sz.rel rx ry e
    exact op_eqD hr.units pins s σ H a d v u Q I ra rd ⟨d1, d2, h1, h2, h3, h4, Fin.ok f sz.rel (by unfold RV; rfl)⟩
theorem os_ne {k : Nat} (hr : Room k X.A) : OpS X (compareOp .NotEq) oNe := OpS.mk fun E b Z st x y pins s σ H a d v u Q I ra rd sz rx ry f => by
  unfold oNe at f
  cases e : eqD st x y with
  | none => rw [e] at f; exact f.elim
  | some c =>
    rw [e] at f
    obtain ⟨d1, d2, h1, h2, h3, h4, rfl⟩ := eqD_ok sz.rel rx ry e
    exact op_neD hr.units pins s σ H a d v u Q I ra rd ⟨d1, d2, h1, h2, h3, h4, Fin.ok f sz.rel (by unfold RV; rfl)⟩
/-! in: a sign in a text, a key of a dict, data in a list -/
def dfind (ks : List Key) (k : Key) : Option Nat := ks.findIdx? fun j => decide (j = k)
def keyOf : Val → Option Key
  | .int i => some (.inl i)
  | .str x => some (.inr x)
  | _ => none
def inOf (st : Store) (x y : Val) : Option Bool := match x, y with
  | .str s, .str t => if s.length = 1 then some (decide (s.cps.getD 0 0 ∈ t.cps.toList)) else none
  | x, y => match dctOf st y with
    | some (ks, _) => (match keyOf x with
      | some k => some (dfind ks k).isSome
      | none => none)
    | none => match datOf st x, datOf st y with
      | some d, some (.list ds) => if SeqAt.shaped d = true ∧ SeqAt.shaped (.list ds) = true then some (ds.any fun z => PyData.eqv z d) else none
      | _, _ => none
def oIn : O2 := fun x y st => match inOf st x y with
  | some b => .ok (.bl b) st
  | none => .stk
def oNotIn : O2 := fun x y st => match inOf st x y with
  | some b => .ok (.bl (!b)) st
  | none => .stk
theorem keyOf_ok {Z : Zc} {x : Val} {v : V} {k : Key} (r : RV Z x v) (e : keyOf x = some k) : v = kV k := by
  cases x with
  | int i => unfold keyOf at e; cases e; unfold RV at r; exact r
  | str i => unfold keyOf at e; cases e; unfold RV at r; exact r
  | _ => unfold keyOf at e; cases e
theorem valV_zip : ∀ (ks : List Key) (vs : List V) (k : Key), ks.length = vs.length → valV (ks.zip vs) k = match dfind ks k with
    | some i => vs[i]?
    | none => none
  | [], vs, k, h => rfl
  | j :: ks, [], k, h => by simp at h
  | j :: ks, v :: vs, k, h => by
    have h' : ks.length = vs.length := by simpa using h
    have ih := valV_zip ks vs k h'
    by_cases e : j = k
    · subst e
      rw [List.zip_cons_cons, valV_pos (p := (j, v)) rfl]
      unfold dfind
      rw [List.findIdx?_cons]
      simp
    · rw [List.zip_cons_cons, valV_neg (p := (j, v)) e, ih]
      unfold dfind
      rw [List.findIdx?_cons]
      simp only [e, decide_false, Bool.false_eq_true, if_false]
      cases List.findIdx? (fun j => decide (j = k)) ks <;> simp
theorem dfind_lt {ks : List Key} {k : Key} {i : Nat} (h : dfind ks k = some i) : i < ks.length := by
  unfold dfind at h
  exact (List.findIdx?_eq_some_iff_getElem.mp h).1
theorem dget_of {H : Hp} {a : Addr} {ks : List Key} {vs : List V} {k : Key} (h : Rd H a (.dK (ks.zip vs))) (l : ks.length = vs.length) : DGet H a (kV k) (match dfind ks k with
    | some i => vs[i]?
    | none => none) := .inl ⟨_, k, h, rfl, (valV_zip ks vs k l).symm⟩
theorem inOf_case {Z : Zc} {st : Store} {x y : Val} {r : Bool} (e : inOf st x y = some r) :
    (∃ s t, x = .str s ∧ y = .str t ∧ s.length = 1 ∧ r = decide (s.cps.getD 0 0 ∈ t.cps.toList)) ∨
    (∃ ks xs k, dctOf st y = some (ks, xs) ∧ keyOf x = some k ∧ r = (dfind ks k).isSome) ∨
    ∃ d ds, datOf st x = some d ∧ datOf st y = some (.list ds) ∧ SeqAt.shaped d = true ∧ SeqAt.shaped (.list ds) = true ∧ r = ds.any fun z => PyData.eqv z d := by
  unfold inOf at e
  split at e
  · rename_i s t
    by_cases h : s.length = 1
    · rw [if_pos h] at e; exact .inl ⟨s, t, rfl, rfl, h, (Option.some.inj e).symm⟩
    · rw [if_neg h] at e; cases e
  · cases q : dctOf st y with
    | some p =>
      obtain ⟨ks, xs⟩ := p
      rw [q] at e
      simp only at e
      cases q2 : keyOf x with
      | none => simp only [q2] at e; cases e
      | some k => simp only [q2] at e; exact .inr (.inl ⟨ks, xs, k, rfl, rfl, (Option.some.inj e).symm⟩)
    | none =>
      rw [q] at e
      simp only at e
      cases q1 : datOf st x with
      | none => simp only [q1] at e; cases e
      | some d =>
        cases q2 : datOf st y with
        | none => simp only [q1, q2] at e; cases e
        | some d' =>
          cases d' with
          | list ds =>
            simp only [q1, q2] at e
            by_cases hs : SeqAt.shaped d = true ∧ SeqAt.shaped (.list ds) = true
            · simp only [hs, and_self, if_true] at e
              exact .inr (.inr ⟨d, ds, rfl, rfl, hs.1, hs.2, (Option.some.inj e).symm⟩)
            · simp only [hs, if_false] at e; cases e
          | _ => simp only [q1, q2] at e; cases e
theorem one_sign {s : Str} (h : s.length = 1) : s = ⟨#[s.cps.getD 0 0]⟩ := by
  obtain ⟨c⟩ := s
  have h' : c.size = 1 := h
  have : c = #[c.getD 0 0] := by
    apply Array.ext
    · rw [h']; rfl
    · intro i h1 h2
      have : i = 0 := by omega
      subst this
      simp [Array.getD, h']
  show Str.mk c = _
  exact congrArg Str.mk this
theorem os_in {k : Nat} (hr : Room k X.A) : OpS X (compareOp .In) oIn := OpS.mk fun E b Z st x y pins s σ H a d v u Q I ra rd sz rx ry f => by
  unfold oIn at f
  cases e : inOf st x y with
  | none => rw [e] at f; exact f.elim
  | some c =>
    rw [e] at f
    rcases inOf_case (Z := Z) e with ⟨s', t, rfl, rfl, hl, rfl⟩ | ⟨ks, xs, k', h1, h2, rfl⟩ | ⟨d1, ds, h1, h2, h3, h4, rfl⟩
    · unfold RV at rx ry
      exact op_in_sign pins s σ H a d v u Q I ra rd ⟨_, t, by rw [rx, ← one_sign hl], ry, Fin.ok f sz.rel (by unfold RV; rfl)⟩
    · obtain ⟨p, vs, rfl, hd, l, r⟩ := dct_at sz.rel ry h1
      have ek := keyOf_ok rx h2
      subst ek
      cases (show u = Value.ref p from rd)
      refine d_in (hu_of hr) I (dget_of hd l) ra fun s' I' => ⟨.bl _, H, I', rfl, ?_⟩
      have e2 : (match dfind ks k' with
        | some i => vs[i]?
        | none => none).isSome = (dfind ks k').isSome := by
        cases q : dfind ks k' with
        | none => rfl
        | some i =>
          have := dfind_lt q
          simp only
          rw [List.getElem?_eq_getElem (by omega)]; rfl
      rw [e2]
      exact Fin.ok f sz.rel (by unfold RV; rfl)
    · exact op_inD (by have := hr.un; omega) pins s σ H a d v u Q I ra rd ⟨d1, ds, datOf_ok sz.rel rx h1, datOf_ok sz.rel ry h2, h3, h4, Fin.ok f sz.rel (by unfold RV; rfl)⟩
theorem os_notin {k : Nat} (hr : Room k X.A) : OpS X (compareOp .NotIn) oNotIn := OpS.mk fun E b Z st x y pins s σ H a d v u Q I ra rd sz rx ry f => by
  unfold oNotIn at f
  cases e : inOf st x y with
  | none => rw [e] at f; exact f.elim
  | some c =>
    rw [e] at f
    rcases inOf_case (Z := Z) e with ⟨s', t, rfl, rfl, hl, rfl⟩ | ⟨ks, xs, k', h1, h2, rfl⟩ | ⟨d1, ds, h1, h2, h3, h4, rfl⟩
    · unfold RV at rx ry
      exact op_notIn_sign pins s σ H a d v u Q I ra rd ⟨_, t, by rw [rx, ← one_sign hl], ry, Fin.ok f sz.rel (by unfold RV; rfl)⟩
    · obtain ⟨p, vs, rfl, hd, l, r⟩ := dct_at sz.rel ry h1
      have ek := keyOf_ok rx h2
      subst ek
      cases (show u = Value.ref p from rd)
      refine d_notIn (hu_of hr) I (dget_of hd l) ra fun s' I' => ⟨.bl _, H, I', rfl, ?_⟩
      have e2 : (match dfind ks k' with
        | some i => vs[i]?
        | none => none).isSome = (dfind ks k').isSome := by
        cases q : dfind ks k' with
        | none => rfl
        | some i =>
          have := dfind_lt q
          simp only
          rw [List.getElem?_eq_getElem (by omega)]; rfl
      rw [e2]
      exact Fin.ok f sz.rel (by unfold RV; rfl)
    · exact op_notInD (by have := hr.un; omega) pins s σ H a d v u Q I ra rd ⟨d1, ds, datOf_ok sz.rel rx h1, datOf_ok sz.rel ry h2, h3, h4, Fin.ok f sz.rel (by unfold RV; rfl)⟩
end

/-! ### subscripts -/
section
variable {X : Cx} {a b : Expr} {f g : Ex} {pos : Pos}
def oIx : O2 := fun x y st => match x, y with
  | .str z, .int i => if z.length ≤ sizeLine then (match atI z.cps.toList i with
    | some c => .ok (.str ⟨#[c]⟩) st
    | none => .stk) else .stk
  | .tup xs, .int i => (match atI xs i with
    | some x => .ok x st
    | none => .stk)
  | .scr ns, .int i => (match atI ns i with
    | some n => .ok (.int n) st
    | none => .stk)
  | x, .int i => (match lstOf st x with
    | some xs => (match atI xs i with
      | some x => .ok x st
      | none => .stk)
    | none => .stk)
  | _, _ => .stk
theorem atI_rel {Z : Zc} {xs : List Val} {vs : List V} {i : Int} {x : Val} (r : RVs Z xs vs) (e : atI xs i = some x) : ∃ v, atI vs i = some v ∧ RV Z x v := by
  unfold atI at e ⊢
  rw [RVs.length r]
  cases q : ixN xs.length i with
  | none => rw [q] at e; cases e
  | some j =>
    rw [q] at e
    exact RVs.get r e
theorem ix_lst {E : XK} {bb : Nat} {Z : Zc} {st : Store} {x : Val} {i : Int} (value slice : Expr) {pins : List (Addr × Obj)} {s : Shared} {σ : L2.St} {H : Hp} {p q : V} {v u : Value} {Q : VK} (I : Inv X pins σ H s) (rp : RelV p v) (rq : RelV q u) (sz : Sz X bb Z st H)
    (hs : subscripted slice false v u = operate [v, u] (getItem v u)) (rx : RV Z x p) (ry : q = .int i)
    (h : Fin RV E bb Z H st (match lstOf st x with
      | some xs => (match atI xs i with
        | some x => .ok x st
        | none => .stk)
      | none => .stk) Q) : wpAny (model X.prog X.w) X.A (subscriptTail value slice v u) (EP X pins σ Q) X.xe s := by
  cases e : lstOf st x with
  | none => rw [e] at h; exact h.elim
  | some xs =>
    rw [e] at h
    obtain ⟨l, vs, rfl, h1, r1⟩ := lst_at sz.rel rx e
    cases e2 : atI xs i with
    | none => simp only [e2] at h; exact h.elim
    | some y =>
      simp only [e2] at h
      obtain ⟨w, hw, rw'⟩ := atI_rel r1 e2
      exact ix_list value slice pins s σ H _ q v u Q I rp rq ⟨l, vs, i, w, rfl, ry, SqL.of h1, hw, Fin.ok h sz.rel rw'⟩ hs
theorem ixS : IxR X (rS X oIx) := by
  intro value slice pins s σ H p q v u Q I rp rq ⟨E, bb, Z, st, x, y, sz, rx, ry, h⟩ hs
  unfold oIx at h
  split at h
  · rename_i z i
    unfold RV at rx ry
    by_cases hl : z.length ≤ sizeLine
    · rw [if_pos hl] at h
      cases e : atI z.cps.toList i with
      | none => rw [e] at h; exact h.elim
      | some c =>
        rw [e] at h
        exact ix_str value slice pins s σ H p q v u Q I rp rq ⟨z, i, c, rx, ry, hl, e, Fin.ok h sz.rel (by unfold RV; rfl)⟩ hs
    · rw [if_neg hl] at h; exact h.elim
  · rename_i xs i
    unfold RV at ry
    obtain ⟨l, vs, rfl, h1, r1⟩ := tup_at sz.rel rx
    cases e : atI xs i with
    | none => rw [e] at h; exact h.elim
    | some c =>
      rw [e] at h
      obtain ⟨w, hw, rw'⟩ := atI_rel r1 e
      exact ix_tup value slice pins s σ H _ q v u Q I rp rq ⟨l, vs, i, w, rfl, ry, SqT.of h1, hw, Fin.ok h sz.rel rw'⟩ hs
  · rename_i ns i
    unfold RV at rx ry
    obtain ⟨l, rfl, h1⟩ := rx
    have h2 : SqL X.K H l (ns.map V.int) := by
      rcases h1 with (h1 | ⟨o, h1⟩) | h1
      · rcases sz.rel.sub l _ h1 with q | ⟨o, kvs, q, _⟩
        · exact .inl (.inl q)
        · cases q
      · rcases sz.rel.sub l _ h1 with q | ⟨o, kvs, q, _⟩
        · exact .inl (.inr ⟨_, q⟩)
        · cases q
      · exact .inr (by rw [← sz.K]; exact h1)
    cases e : atI ns i with
    | none => rw [e] at h; exact h.elim
    | some c =>
      rw [e] at h
      have hw : atI (ns.map V.int) i = some (.int c) := by
        unfold atI at e ⊢
        rw [List.length_map]
        cases q : ixN ns.length i with
        | none => rw [q] at e; cases e
        | some j =>
          rw [q] at e
          show (ns.map V.int)[j]? = some (.int c)
          have e' : ns[j]? = some c := e
          rw [List.getElem?_map, e']; rfl
      exact ix_list value slice pins s σ H _ q v u Q I rp rq ⟨l, _, i, _, rfl, ry, h2, hw, Fin.ok h sz.rel (by unfold RV; rfl)⟩ hs
  · unfold RV at ry
    exact ix_lst value slice I rp rq sz hs rx ry h
  · exact h.elim
theorem ve_ix (ha : VE X a f) (hb : VE X b g) (hs : PlainIx b := by intro _ _; rfl) : VE X (.Subscript a b pos) (xB oIx f g) := fun W tk => (pe_ix (pos := pos) ixS (ha W tk) (hb W tk) hs).imp fun σ H Q ⟨Z, ρ, st, s, q⟩ => two s q
/-- d[k] -/
def oDget : O2 := fun x y st => match dctOf st x, keyOf y with
  | some (ks, xs), some k => (match dfind ks k with
    | some i => (match xs[i]? with
      | some x => .ok x st
      | none => .stk)
    | none => .stk)
  | _, _ => .stk
theorem ve_dget {k : Nat} (hr : Room k X.A) (ha : VE X a f) (hb : VE X b g) (hs : NoSl b := by intro _ _; rfl) : VE X (.Subscript a b pos) (xB oDget f g) := fun W tk => (pe_dget (pos := pos) (hu_of hr) (ha W tk) (hb W tk) hs).imp fun σ H Q ⟨Z, ρ, st, s, q⟩ => by
  refine (two s q).mono fun v H1 h1 => h1.mono fun u H2 ⟨E, bb, Z2, st2, x, y, sz, rx, ry, h⟩ => ?_
  unfold oDget at h
  cases e1 : dctOf st2 x with
  | none => rw [e1] at h; exact h.elim
  | some p =>
    obtain ⟨ks, xs⟩ := p
    cases e2 : keyOf y with
    | none => rw [e1, e2] at h; exact h.elim
    | some k =>
      rw [e1, e2] at h
      simp only at h
      cases e3 : dfind ks k with
      | none => simp only [e3] at h; exact h.elim
      | some i =>
        simp only [e3] at h
        cases e4 : xs[i]? with
        | none => simp only [e4] at h; exact h.elim
        | some z =>
          simp only [e4] at h
          obtain ⟨p, vs, rfl, hd, l, r⟩ := dct_at sz.rel rx e1
          obtain ⟨w, hw, rw'⟩ := RVs.get r e4
          have ek := keyOf_ok ry e2
          subst ek
          have g := dget_of (k := k) hd l
          rw [e3] at g
          have g' : DGet H2 p (kV k) (some w) := by rw [← hw]; exact g
          exact ⟨p, w, rfl, g', Fin.ok h sz.rel rw'⟩
/-! slices -/
def xPart : Option Ex → En → Store → Res (Option Int)
  | none, _, st => .ok none st
  | some f, ρ, st => (f ρ st).bind fun x st1 => match x with
    | .int i => .ok (some i) st1
    | _ => .stk
def TOx (X : Cx) (W : WX) (f : Option Ex) : TO := fun σ H Q => ∃ Z ρ st, Sta X Z ρ st σ H ∧ Fin (fun _ (x y : Option Int) => x = y) (WE W σ) ρ.base Z H st (xPart f ρ st) Q
def VO (X : Cx) (e : Option Expr) (f : Option Ex) : Prop := ∀ W, Takes X W → PO X e (TOx X W f)
theorem vo_none : VO X none none := fun W tk => ⟨fun pins s σ H Q I ⟨Z, ρ, st, sa, q⟩ => po_none.run pins s σ H Q I (Fin.ok q sa.rel rfl)⟩
theorem vo_some (h : VE X a f) : VO X (some a) (some f) := fun W tk => ⟨fun pins s σ H Q I ⟨Z, ρ, st, sa, q⟩ => (po_some (h W tk)).run pins s σ H Q I ((TEx.bind sa q).mono fun v H1 ⟨Z1, st1, x, s1, l1, r1, q1⟩ => by
  cases x with
  | int i => unfold RV at r1; exact ⟨i, r1, Fin.ok q1 s1.rel rfl⟩
  | _ => exact q1.elim)⟩
def cutL (xs : List Val) (lo hi : Option Int) : List Val := (xs.drop (HT.sIx xs.length 0 lo)).take (HT.sIx xs.length xs.length hi - HT.sIx xs.length 0 lo)
def slOf (own : Bool) (x : Val) (lo hi : Option Int) (st : Store) : Res Val := match x with
  | .str z => if z.length ≤ sizeLine then .ok (.str (cutS z lo hi)) st else .stk
  | x => match lstOf st x with
    | some xs => mkL own (cutL xs lo hi) st
    | none => .stk
def xSl (own : Bool) (f : Ex) (lo hi : Option Ex) : Ex := fun ρ st => (f ρ st).bind fun x st1 => (xPart lo ρ st1).bind fun l st2 => (xPart hi ρ st2).bind fun h st3 => slOf own x l h st3
def rSl (X : Cx) (own : Bool) : V → Option Int → Option Int → Hp → VK → Prop := fun v lo hi H Q => ∃ E b Z st x, Sz X b Z st H ∧ RV Z x v ∧ Fin RV E b Z H st (slOf own x lo hi st) Q
theorem slS (own : Bool) : SlR X (rSl X own) := by
  intro pins s σ H v vv vl vu lo hi sl Q I rv hs pl pu ⟨E, b, Z, st, x, sz, rx, h⟩
  unfold slOf at h
  split at h
  · rename_i z
    unfold RV at rx
    by_cases hl : z.length ≤ sizeLine
    · rw [if_pos hl] at h
      exact sl_str pins s σ H v vv vl vu lo hi sl Q I rv hs pl pu ⟨z, rx, hl, Fin.ok h sz.rel (by unfold RV; rfl)⟩
    · rw [if_neg hl] at h; exact h.elim
  · cases e : lstOf st x with
    | none => rw [e] at h; exact h.elim
    | some xs =>
      rw [e] at h
      obtain ⟨l, vs, rfl, h1, r1⟩ := lst_at sz.rel rx e
      refine sl_list pins s σ H _ vv vl vu lo hi sl Q I rv hs pl pu ⟨l, vs, rfl, SqL.of h1, fun p n => mkL_ok sz ?_ n h⟩
      unfold cutV cutL
      rw [RVs.length r1]
      exact RVs.take _ (RVs.drop _ r1)
theorem TOx.bind {W : WX} {f : Option Ex} {α β : Type} {R : Zc → α → β → Prop} {k : Option Int → Store → Res α} {σ : L2.St} {H : Hp} {Q : β → Hp → Prop} {Z : Zc} {ρ : En} {st : Store}
    (s : Sta X Z ρ st σ H) (h : Fin R (WE W σ) ρ.base Z H st ((xPart f ρ st).bind k) Q) :
    TOx X W f σ H (fun v H1 => ∃ Z1 st1, Sta X Z1 ρ st1 σ H1 ∧ Zle Z Z1 ∧ Fin R (WE W σ) ρ.base Z1 H1 st1 (k v st1) Q) :=
  ⟨Z, ρ, st, s, (Fin.bind (R := fun _ (x y : Option Int) => x = y) h).imp fun v H1 ⟨Z1, st1, x, t, r, rv, q⟩ => by subst rv; exact ⟨Z1, st1, s.next t r, t.le, q⟩⟩
variable {lo hi : Option Expr} {fl fh : Option Ex} {p2 : Pos}
theorem ve_sl (own : Bool) (ha : VE X a f) (hl : VO X lo fl) (hh : VO X hi fh) : VE X (.Subscript a (.Slice lo hi none p2) pos) (xSl own f fl fh) := fun W tk => (pe_slice (pos := pos) (p2 := p2) (slS own) (ha W tk) (hl W tk) (hh W tk)).imp fun σ H Q ⟨Z, ρ, st, s, q⟩ =>
  (TEx.bind s q).mono fun v H1 ⟨Z1, st1, x, s1, l1, r1, q1⟩ => by
    obtain ⟨Z', ρ', st', s', q'⟩ := TOx.bind s1 q1
    refine ⟨Z', ρ', st', s', q'.imp fun o H2 ⟨Z2, st2, s2, l2, q2⟩ => ?_⟩
    obtain ⟨Z3, ρ3, st3, s3, q3⟩ := TOx.bind s2 q2
    refine ⟨Z3, ρ3, st3, s3, q3.imp fun o2 H3 ⟨Z4, st4, s4, l4, q4⟩ => ?_⟩
    exact ⟨_, _, Z4, st4, x, s4.sz, RV.mono (l2.trans l4) x v r1, q4⟩
def oRev (own : Bool) : O1 := fun x st => match lstOf st x with
  | some xs => mkL own xs.reverse st
  | none => .stk
theorem RVs.rev {Z : Zc} : ∀ {xs : List Val} {vs : List V}, RVs Z xs vs → RVs Z xs.reverse vs.reverse
  | [], vs, h => by rw [RVs.nil_iff.mp h]; exact RVs.nil
  | x :: r, vs, h => by
    obtain ⟨v, vs', rfl, h1, h2⟩ := RVs.cons_iff.mp h
    rw [List.reverse_cons, List.reverse_cons]
    exact RVs.app (RVs.rev h2) (RVs.cons h1 RVs.nil)
theorem ve_rev (own : Bool) {k : Nat} {p1 p3 : Pos} (ha : VE X a f) : VE X (.Subscript a (.Slice none none (some (.UnaryOp .USub (.Constant (.int 1) k p1) p2)) p3) pos) (xU (oRev own) f) := fun W tk => (pe_revL (k := k) (p1 := p1) (p2 := p2) (p3 := p3) (pos := pos) (ha W tk)).imp fun σ H Q ⟨Z, ρ, st, s, q⟩ => by
  refine (one s q).mono fun v H1 ⟨E, b, Z1, st1, x, sz, rx, h⟩ => ?_
  unfold oRev at h
  cases e : lstOf st1 x with
  | none => rw [e] at h; exact h.elim
  | some xs =>
    rw [e] at h
    obtain ⟨l, vs, rfl, h1, r1⟩ := lst_at sz.rel rx e
    exact ⟨l, vs, rfl, SqL.of h1, fun p n => mkL_ok sz (RVs.rev r1) n h⟩
end
end SW
set_option Elab.async false
set_option linter.all false
set_option maxRecDepth 100000
namespace SW
open PySem PySem.Spec PyProof.Rows L2

/-! ### calls of built-ins -/
section
variable {X : Cx}
def rCs (X : Cx) (op : MF) : List V → Hp → VK → Prop := fun vs H Q => ∃ E b Z st xs, Sz X b Z st H ∧ RVs Z xs vs ∧ Fin RV E b Z H st (op xs st) Q
def CallS (X : Cx) (F : Value) (op : MF) : Prop := CallR X F (rCs X op)
def xCall (F : MF) (fs : List Ex) : Ex := fun ρ st => (xsE fs ρ st).bind F
theorem callArgs {W : WX} {fs : List Ex} {F : MF} {σ : L2.St} {H : Hp} {Q : VK} {Z : Zc} {ρ : En} {st : Store} (s : Sta X Z ρ st σ H) (h : Fin RV (WE W σ) ρ.base Z H st (xCall F fs ρ st) Q) :
    TAx X W fs σ H fun vs H1 => rCs X F vs H1 Q := (TAx.bind s h).mono fun vs H1 ⟨Z1, st1, xs, s1, l1, r1, q1⟩ => ⟨_, _, Z1, st1, xs, s1.sz, r1, q1⟩
variable {x : Str} {p pos : Pos} {e : Expr} {es : List Expr} {fs : List Ex} {F : MF} {id T : String}
theorem ve_bi (hc : CallS X (.builtin id) F) (hm : X.mg x = none) (hv : bootBuiltins x = some (.builtin id)) (ha : VA X (e :: es) fs) (hg : Gl X x := by rfl) (hn : x ≠ "__name__" := by decide) (hdb : (x == ("__debug__" : Str)) = false := by decide)
    (he : starEach (e :: es) X.env = (false, eval e X.env) :: starEach es X.env := by rfl) (hpl : (backTo pos (starEach es X.env)).any (·.1) = false := by rfl) : VE X (.Call (.Name x p) (e :: es) [] pos) (xCall F fs) := fun W tk =>
  (pe_callB (p := p) (pos := pos) hc hg hm hv (ha W tk) hn hdb he hpl).imp fun σ H Q ⟨Z, ρ, st, s, q⟩ => callArgs s q
theorem ve_ty (hc : CallS X (.type T) F) (hm : X.mg x = none) (hv : bootBuiltins x = some (.type T)) (ha : VA X (e :: es) fs) (hg : Gl X x := by rfl) (hn : x ≠ "__name__" := by decide) (hdb : (x == ("__debug__" : Str)) = false := by decide)
    (he : starEach (e :: es) X.env = (false, eval e X.env) :: starEach es X.env := by rfl) (hpl : (backTo pos (starEach es X.env)).any (·.1) = false := by rfl) : VE X (.Call (.Name x p) (e :: es) [] pos) (xCall F fs) := fun W tk =>
  (pe_callTy (p := p) (pos := pos) hc hg hm hv (ha W tk) hn hdb he hpl).imp fun σ H Q ⟨Z, ρ, st, s, q⟩ => callArgs s q

def cLen : MF := fun xs st => match xs with
  | [.str z] => if z.length ≤ sizeLine then .ok (.int z.length) st else .stk
  | [.tup ys] => .ok (.int ys.length) st
  | [.scr ns] => .ok (.int ns.length) st
  | [x] => (match lstOf st x with
    | some ys => .ok (.int ys.length) st
    | none => (match dctOf st x with
      | some (ks, _) => .ok (.int ks.length) st
      | none => .stk))
  | _ => .stk
theorem RVs.one {Z : Zc} {x : Val} {vs : List V} (r : RVs Z [x] vs) : ∃ v, vs = [v] ∧ RV Z x v := by
  obtain ⟨v, vs', rfl, h1, h2⟩ := RVs.cons_iff.mp r
  rw [RVs.nil_iff.mp h2]; exact ⟨v, rfl, h1⟩
theorem RVs.two {Z : Zc} {x y : Val} {vs : List V} (r : RVs Z [x, y] vs) : ∃ v u, vs = [v, u] ∧ RV Z x v ∧ RV Z y u := by
  obtain ⟨v, vs', rfl, h1, h2⟩ := RVs.cons_iff.mp r
  obtain ⟨u, rfl, h3⟩ := RVs.one h2
  exact ⟨v, u, rfl, h1, h3⟩
theorem scr_at {Z : Zc} {H : Hp} {st : Store} {b : Nat} (sz : Sz X b Z st H) {ns : List Int} {v : V} (r : RV Z (.scr ns) v) : ∃ a, v = .ref a ∧ SqL X.K H a (ns.map V.int) := by
  unfold RV at r
  obtain ⟨l, rfl, h1⟩ := r
  refine ⟨l, rfl, ?_⟩
  rcases h1 with (h1 | ⟨o, h1⟩) | h1
  · rcases sz.rel.sub l _ h1 with q | ⟨o, kvs, q, _⟩
    · exact .inl (.inl q)
    · cases q
  · rcases sz.rel.sub l _ h1 with q | ⟨o, kvs, q, _⟩
    · exact .inl (.inr ⟨_, q⟩)
    · cases q
  · exact .inr (by rw [← sz.K]; exact h1)
theorem zip_len {ks : List Key} {vs : List V} (h : ks.length = vs.length) : (ks.zip vs).length = ks.length := by
  rw [List.length_zip, h]; simp
theorem cs_len : CallS X (.builtin "len") cLen := by
  intro pins s σ H vs us Q I r ⟨E, b, Z, st, xs, sz, rx, h⟩
  unfold cLen at h
  split at h
  · rename_i z
    obtain ⟨v, rfl, r1⟩ := RVs.one rx
    unfold RV at r1
    by_cases hl : z.length ≤ sizeLine
    · rw [if_pos hl] at h
      exact call_len_str pins s σ H _ us Q I r ⟨z, by rw [r1], hl, Fin.ok h sz.rel (by unfold RV; rfl)⟩
    · rw [if_neg hl] at h; exact h.elim
  · rename_i ys
    obtain ⟨v, rfl, r1⟩ := RVs.one rx
    obtain ⟨a, ws, rfl, h1, r2⟩ := tup_at sz.rel r1
    refine call_len_seq pins s σ H _ us Q I r ⟨a, ws, rfl, .inr (SqT.of h1), ?_⟩
    rw [RVs.length r2]; exact Fin.ok h sz.rel (by unfold RV; rfl)
  · rename_i ns
    obtain ⟨v, rfl, r1⟩ := RVs.one rx
    obtain ⟨a, rfl, h1⟩ := scr_at sz r1
    refine call_len_seq pins s σ H _ us Q I r ⟨a, _, rfl, .inl h1, ?_⟩
    rw [List.length_map]; exact Fin.ok h sz.rel (by unfold RV; rfl)
  · rename_i x _ _ _
    obtain ⟨v, rfl, r1⟩ := RVs.one rx
    cases e : lstOf st x with
    | some ys =>
      simp only [e] at h
      obtain ⟨a, ws, rfl, h1, r2⟩ := lst_at sz.rel r1 e
      refine call_len_seq pins s σ H _ us Q I r ⟨a, ws, rfl, .inl (SqL.of h1), ?_⟩
      rw [RVs.length r2]; exact Fin.ok h sz.rel (by unfold RV; rfl)
    | none =>
      simp only [e] at h
      cases e2 : dctOf st x with
      | none => simp only [e2] at h; exact h.elim
      | some p =>
        obtain ⟨ks, ys⟩ := p
        simp only [e2] at h
        obtain ⟨a, ws, rfl, h1, l, r2⟩ := dct_at sz.rel r1 e2
        obtain ⟨u, rfl, ru⟩ := vals1 r
        cases (show u = Value.ref a from ru)
        refine d_len I h1 fun t s' I' => ⟨.int _, H, I', ⟨t, rfl⟩, ?_⟩
        rw [zip_len l]; exact Fin.ok h sz.rel (by unfold RV; rfl)
  · exact h.elim
def cMax2 : MF := fun xs st => match xs with
  | [.int i, .int j] => .ok (.int (if j > i then j else i)) st
  | _ => .stk
def cMin2 : MF := fun xs st => match xs with
  | [.int i, .int j] => .ok (.int (if j < i then j else i)) st
  | _ => .stk
theorem cs_max2 (hc : X.calm = true := by rfl) : CallS X (.builtin "max") cMax2 := by
  intro pins s σ H vs us Q I r ⟨E, b, Z, st, xs, sz, rx, h⟩
  unfold cMax2 at h
  split at h
  · obtain ⟨v, u, rfl, r1, r2⟩ := RVs.two rx
    unfold RV at r1 r2
    exact call_max2 hc pins s σ H _ us Q I r ⟨_, _, by rw [r1, r2], Fin.ok h sz.rel (by unfold RV; rfl)⟩
  · exact h.elim
theorem cs_min2 (hc : X.calm = true := by rfl) : CallS X (.builtin "min") cMin2 := by
  intro pins s σ H vs us Q I r ⟨E, b, Z, st, xs, sz, rx, h⟩
  unfold cMin2 at h
  split at h
  · obtain ⟨v, u, rfl, r1, r2⟩ := RVs.two rx
    unfold RV at r1 r2
    exact call_min2 hc pins s σ H _ us Q I r ⟨_, _, by rw [r1, r2], Fin.ok h sz.rel (by unfold RV; rfl)⟩
  · exact h.elim
def intsOf : List Val → Option (List Int)
  | [] => some []
  | .int i :: r => (intsOf r).map (i :: ·)
  | _ :: _ => none
theorem intsOf_eq : ∀ {xs : List Val} {ns : List Int}, intsOf xs = some ns → xs = ns.map Val.int
  | [], ns, h => by unfold intsOf at h; cases h; rfl
  | x :: r, ns, h => by
    cases x with
    | int i =>
      unfold intsOf at h
      cases q : intsOf r with
      | none => rw [q] at h; cases h
      | some ms => rw [q] at h; cases h; rw [intsOf_eq q]; rfl
    | _ => unfold intsOf at h; cases h
@[simp] theorem intsOf_map (ns : List Int) : intsOf (ns.map Val.int) = some ns := by
  induction ns with
  | nil => rfl
  | cons a r ih => show (intsOf (r.map Val.int)).map (a :: ·) = _; rw [ih]; rfl
def blsOf : List Val → Option (List Bool)
  | [] => some []
  | .bl i :: r => (blsOf r).map (i :: ·)
  | _ :: _ => none
theorem blsOf_eq : ∀ {xs : List Val} {ns : List Bool}, blsOf xs = some ns → xs = ns.map Val.bl
  | [], ns, h => by unfold blsOf at h; cases h; rfl
  | x :: r, ns, h => by
    cases x with
    | bl i =>
      unfold blsOf at h
      cases q : blsOf r with
      | none => rw [q] at h; cases h
      | some ms => rw [q] at h; cases h; rw [blsOf_eq q]; rfl
    | _ => unfold blsOf at h; cases h
@[simp] theorem blsOf_map (ns : List Bool) : blsOf (ns.map Val.bl) = some ns := by
  induction ns with
  | nil => rfl
  | cons a r ih => show (blsOf (r.map Val.bl)).map (a :: ·) = _; rw [ih]; rfl
def strsOf : List Val → Option (List Str)
  | [] => some []
  | .str i :: r => (strsOf r).map (i :: ·)
  | _ :: _ => none
theorem strsOf_eq : ∀ {xs : List Val} {ns : List Str}, strsOf xs = some ns → xs = ns.map Val.str
  | [], ns, h => by unfold strsOf at h; cases h; rfl
  | x :: r, ns, h => by
    cases x with
    | str i =>
      unfold strsOf at h
      cases q : strsOf r with
      | none => rw [q] at h; cases h
      | some ms => rw [q] at h; cases h; rw [strsOf_eq q]; rfl
    | _ => unfold strsOf at h; cases h
@[simp] theorem strsOf_map (ns : List Str) : strsOf (ns.map Val.str) = some ns := by
  induction ns with
  | nil => rfl
  | cons a r ih => show (strsOf (r.map Val.str)).map (a :: ·) = _; rw [ih]; rfl
def lintsOf (st : Store) (x : Val) : Option (List Int) := (lstOf st x).bind intsOf
theorem lints_at {Z : Zc} {H : Hp} {st : Store} {x : Val} {v : V} {ns : List Int} (s : SRel Z H st) (r : RV Z x v) (e : lintsOf st x = some ns) : ∃ a, v = .ref a ∧ H a = some (.lst (ns.map V.int)) := by
  unfold lintsOf at e
  cases q : lstOf st x with
  | none => rw [q] at e; cases e
  | some xs =>
    rw [q] at e
    obtain ⟨a, vs, rfl, h, r⟩ := lst_at s r q
    have e' : intsOf xs = some ns := e
    rw [intsOf_eq e'] at r
    rw [RVs.map_int r] at h
    exact ⟨a, rfl, h⟩
def cSum : MF := fun xs st => match xs with
  | [x] => (match lintsOf st x with
    | some ns => .ok (.int ns.sum) st
    | none => .stk)
  | _ => .stk
theorem cs_sum (hc : X.calm = true := by rfl) : CallS X (.builtin "sum") cSum := by
  intro pins s σ H vs us Q I r ⟨E, b, Z, st, xs, sz, rx, h⟩
  unfold cSum at h
  split at h
  · rename_i x
    obtain ⟨v, rfl, r1⟩ := RVs.one rx
    cases e : lintsOf st x with
    | none => rw [e] at h; exact h.elim
    | some ns =>
      rw [e] at h
      obtain ⟨a, rfl, h1⟩ := lints_at sz.rel r1 e
      exact cr_sum hc pins s σ H _ us Q I r ⟨a, ns, rfl, SqL.of h1, Fin.ok h sz.rel (by unfold RV; rfl)⟩
  · exact h.elim
def maxL : List Int → Int
  | [] => 0
  | [x] => x
  | x :: r => max x (maxL r)
def minL : List Int → Int
  | [] => 0
  | [x] => x
  | x :: r => min x (minL r)
theorem maxL_spec : ∀ {ns : List Int}, ns ≠ [] → maxL ns ∈ ns ∧ ∀ y ∈ ns, y ≤ maxL ns
  | [], h => absurd rfl h
  | [x], _ => ⟨by simp [maxL], by simp [maxL]⟩
  | x :: y :: r, _ => by
    obtain ⟨h1, h2⟩ := maxL_spec (ns := y :: r) (by simp)
    have e : maxL (x :: y :: r) = max x (maxL (y :: r)) := rfl
    rw [e]
    refine ⟨?_, fun z hz => ?_⟩
    · by_cases h : x ≤ maxL (y :: r)
      · rw [Int.max_eq_right h]; exact List.mem_cons_of_mem _ h1
      · rw [Int.max_eq_left (by omega)]; exact List.mem_cons_self
    · rcases List.mem_cons.mp hz with rfl | hz
      · exact Int.le_max_left _ _
      · exact Int.le_trans (h2 z hz) (Int.le_max_right _ _)
theorem minL_spec : ∀ {ns : List Int}, ns ≠ [] → minL ns ∈ ns ∧ ∀ y ∈ ns, minL ns ≤ y
  | [], h => absurd rfl h
  | [x], _ => ⟨by simp [minL], by simp [minL]⟩
  | x :: y :: r, _ => by
    obtain ⟨h1, h2⟩ := minL_spec (ns := y :: r) (by simp)
    have e : minL (x :: y :: r) = min x (minL (y :: r)) := rfl
    rw [e]
    refine ⟨?_, fun z hz => ?_⟩
    · by_cases h : x ≤ minL (y :: r)
      · rw [Int.min_eq_left h]; exact List.mem_cons_self
      · rw [Int.min_eq_right (by omega)]; exact List.mem_cons_of_mem _ h1
    · rcases List.mem_cons.mp hz with rfl | hz
      · exact Int.min_le_left _ _
      · exact Int.le_trans (Int.min_le_right _ _) (h2 z hz)
def cMax1 : MF := fun xs st => match xs with
  | [x] => (match lintsOf st x with
    | some ns => if ns.isEmpty then .stk else .ok (.int (maxL ns)) st
    | none => .stk)
  | _ => .stk
def cMin1 : MF := fun xs st => match xs with
  | [x] => (match lintsOf st x with
    | some ns => if ns.isEmpty then .stk else .ok (.int (minL ns)) st
    | none => .stk)
  | _ => .stk
theorem cs_max1 (hc : X.calm = true := by rfl) : CallS X (.builtin "max") cMax1 := by
  intro pins s σ H vs us Q I r ⟨E, b, Z, st, xs, sz, rx, h⟩
  unfold cMax1 at h
  split at h
  · rename_i x
    obtain ⟨v, rfl, r1⟩ := RVs.one rx
    cases e : lintsOf st x with
    | none => rw [e] at h; exact h.elim
    | some ns =>
      rw [e] at h
      cases ns with
      | nil => exact h.elim
      | cons n0 nr =>
        obtain ⟨a, rfl, h1⟩ := lints_at sz.rel r1 e
        refine cr_max hc pins s σ H _ us Q I r ⟨a, _, rfl, SqL.of h1, by simp, fun m hm hle => ?_⟩
        obtain ⟨g1, g2⟩ := maxL_spec (ns := n0 :: nr) (by simp)
        have em : m = maxL (n0 :: nr) := by have h1 := hle _ g1; have h2 := g2 _ hm; omega
        rw [em]
        exact Fin.ok (x := Val.int (maxL (n0 :: nr))) h sz.rel (by unfold RV; rfl)
  · exact h.elim
theorem cs_min1 (hc : X.calm = true := by rfl) : CallS X (.builtin "min") cMin1 := by
  intro pins s σ H vs us Q I r ⟨E, b, Z, st, xs, sz, rx, h⟩
  unfold cMin1 at h
  split at h
  · rename_i x
    obtain ⟨v, rfl, r1⟩ := RVs.one rx
    cases e : lintsOf st x with
    | none => rw [e] at h; exact h.elim
    | some ns =>
      rw [e] at h
      cases ns with
      | nil => exact h.elim
      | cons n0 nr =>
        obtain ⟨a, rfl, h1⟩ := lints_at sz.rel r1 e
        refine cr_min hc pins s σ H _ us Q I r ⟨a, _, rfl, SqL.of h1, by simp, fun m hm hle => ?_⟩
        obtain ⟨g1, g2⟩ := minL_spec (ns := n0 :: nr) (by simp)
        have em : m = minL (n0 :: nr) := by have h1 := hle _ g1; have h2 := g2 _ hm; omega
        rw [em]
        exact Fin.ok (x := Val.int (minL (n0 :: nr))) h sz.rel (by unfold RV; rfl)
  · exact h.elim
def cAll : MF := fun xs st => match xs with
  | [x] => (match (lstOf st x).bind blsOf with
    | some bs => .ok (.bl (bs.all _root_.id)) st
    | none => .stk)
  | _ => .stk
theorem cs_all (hc : X.calm = true := by rfl) : CallS X (.builtin "all") cAll := by
  intro pins s σ H vs us Q I r ⟨E, b, Z, st, xs, sz, rx, h⟩
  unfold cAll at h
  split at h
  · rename_i x
    obtain ⟨v, rfl, r1⟩ := RVs.one rx
    cases q : lstOf st x with
    | none => rw [q] at h; exact h.elim
    | some ys =>
      rw [q] at h
      cases q2 : blsOf ys with
      | none => simp only [Option.bind_some, q2] at h; exact h.elim
      | some bs =>
        simp only [Option.bind_some, q2] at h
        obtain ⟨a, ws, rfl, h1, r2⟩ := lst_at sz.rel r1 q
        rw [blsOf_eq q2] at r2
        rw [RVs.map_bl r2] at h1
        exact cr_all hc pins s σ H _ us Q I r ⟨a, bs, rfl, SqL.of h1, Fin.ok h sz.rel (by unfold RV; rfl)⟩
  · exact h.elim
/-- list(x) of a list, a tuple, a dict -/
def kVal : Key → Val
  | .inl i => .int i
  | .inr x => .str x
def cList (own : Bool) : MF := fun xs st => match xs with
  | [.tup ys] => mkL own ys st
  | [x] => (match lstOf st x with
    | some ys => mkL own ys st
    | none => .stk)
  | _ => .stk
theorem cs_list (own : Bool) : CallS X (.type "list") (cList own) := by
  intro pins s σ H vs us Q I r ⟨E, b, Z, st, xs, sz, rx, h⟩
  unfold cList at h
  split at h
  · rename_i ys
    obtain ⟨v, rfl, r1⟩ := RVs.one rx
    obtain ⟨a, ws, rfl, h1, r2⟩ := tup_at sz.rel r1
    exact call_list_of pins s σ H _ us Q I r ⟨a, ws, rfl, .inr (SqT.of h1), fun l n => mkL_ok sz r2 n h⟩
  · rename_i x _
    obtain ⟨v, rfl, r1⟩ := RVs.one rx
    cases e : lstOf st x with
    | none => rw [e] at h; exact h.elim
    | some ys =>
      rw [e] at h
      obtain ⟨a, ws, rfl, h1, r2⟩ := lst_at sz.rel r1 e
      exact call_list_of pins s σ H _ us Q I r ⟨a, ws, rfl, .inl (SqL.of h1), fun l n => mkL_ok sz r2 n h⟩
  · exact h.elim
/-- tuple(x) -/
def cTuple : MF := fun xs st => match xs with
  | [.tup ys] => .ok (.tup ys) st
  | [x] => (match lstOf st x with
    | some ys => mkT ys st
    | none => .stk)
  | _ => .stk
theorem cs_tuple : CallS X (.type "tuple") cTuple := by
  intro pins s σ H vs us Q I r ⟨E, b, Z, st, xs, sz, rx, h⟩
  unfold cTuple at h
  split at h
  · rename_i ys
    obtain ⟨v, rfl, r1⟩ := RVs.one rx
    obtain ⟨a, ws, rfl, h1, r2⟩ := tup_at sz.rel r1
    exact call_tuple_of pins s σ H _ us Q I r ⟨a, ws, rfl, .inr ⟨SqT.of h1, Fin.ok h sz.rel r1⟩⟩
  · rename_i x _
    obtain ⟨v, rfl, r1⟩ := RVs.one rx
    cases e : lstOf st x with
    | none => rw [e] at h; exact h.elim
    | some ys =>
      rw [e] at h
      obtain ⟨a, ws, rfl, h1, r2⟩ := lst_at sz.rel r1 e
      exact call_tuple_of pins s σ H _ us Q I r ⟨a, ws, rfl, .inl ⟨SqL.of h1, fun l n => mkT_ok sz r2 n h⟩⟩
  · exact h.elim
/-- int(x) of an int, a bool -/
def cInt : MF := fun xs st => match xs with
  | [.int i] => .ok (.int i) st
  | [.bl k] => .ok (.int (if k then 1 else 0)) st
  | _ => .stk
theorem cs_int : CallS X (.type "int") cInt := by
  intro pins s σ H vs us Q I r ⟨E, b, Z, st, xs, sz, rx, h⟩
  unfold cInt at h
  split at h
  · obtain ⟨v, rfl, r1⟩ := RVs.one rx
    unfold RV at r1
    exact call_int1 pins s σ H _ us Q I r (.inl ⟨_, by rw [r1], Fin.ok h sz.rel (by unfold RV; rfl)⟩)
  · obtain ⟨v, rfl, r1⟩ := RVs.one rx
    unfold RV at r1
    exact call_int1 pins s σ H _ us Q I r (.inr ⟨_, by rw [r1], Fin.ok h sz.rel (by unfold RV; rfl)⟩)
  · exact h.elim
/-- str(i) -/
def cStr : MF := fun xs st => match xs with
  | [.int i] => if i.natAbs.log2 < 1920 then .ok (.str (toString i)) st else .stk
  | _ => .stk
theorem cs_str : CallS X (.type "str") cStr := by
  intro pins s σ H vs us Q I r ⟨E, b, Z, st, xs, sz, rx, h⟩
  unfold cStr at h
  split at h
  · rename_i i
    obtain ⟨v, rfl, r1⟩ := RVs.one rx
    unfold RV at r1
    by_cases hl : i.natAbs.log2 < 1920
    · rw [if_pos hl] at h
      exact call_str_int pins s σ H _ us Q I r ⟨i, by rw [r1], hl, Fin.ok h sz.rel (by unfold RV; rfl)⟩
    · rw [if_neg hl] at h; exact h.elim
  · exact h.elim

/-! ### sorted -/
def encD (x : Val) : PyData := (toD x).getD .none
def leV (x y : Val) : Bool := PySem.W.dataLe false encD x y
def tupB : PyData → Bool
  | .tuple (_ :: _) => true
  | _ => false
def othB : PyData → Bool
  | .none => false
  | .tuple _ => false
  | _ => true
def sortOk (ds : List PyData) : Bool := (ds.all fun d => ds.all fun e => PySem.W.alike d e) && ((ds.all tupB || ds.all othB) && ds.all fun d => decide (d.depth ≤ 60))
def cSorted : MF := fun xs st => match xs with
  | [x] => (match lstOf st x with
    | some ys => (match toDs ys with
      | some ds => if sortOk ds = true ∧ ys.length ≤ sizeLine then mkL false (ys.mergeSort leV) st else .stk
      | none => .stk)
    | none => .stk)
  | _ => .stk
theorem toDs_map : ∀ {ys : List Val} {ds : List PyData}, toDs ys = some ds → ys.map encD = ds ∧ ∀ y ∈ ys, toD y = some (encD y)
  | [], ds, h => by unfold toDs at h; cases h; exact ⟨rfl, fun _ h => by cases h⟩
  | y :: r, ds, h => by
    unfold toDs at h
    cases q1 : toD y with
    | none => rw [q1] at h; cases h
    | some d =>
      cases q2 : toDs r with
      | none => rw [q1, q2] at h; cases h
      | some ds' =>
        rw [q1, q2] at h; cases h
        obtain ⟨h1, h2⟩ := toDs_map q2
        have ed : encD y = d := by unfold encD; rw [q1]; rfl
        refine ⟨by rw [List.map_cons, h1, ed], fun z hz => ?_⟩
        rcases List.mem_cons.mp hz with rfl | hz
        · rw [ed]; exact q1
        · exact h2 z hz
theorem each_of {Z : Zc} : ∀ {ys : List Val} {vs : List V} {us : List Value}, RVs Z ys vs → Vals vs us → PySem.W.EachIs (fun u y => ∃ v, RelV v u ∧ RV Z y v) us ys
  | [], vs, us, r, p => by
    rw [RVs.nil_iff.mp r] at p
    cases p
    exact .nil
  | y :: l, vs, us, r, p => by
    obtain ⟨v, vs', rfl, h1, h2⟩ := RVs.cons_iff.mp r
    cases p with
    | cons p1 p2 => exact .cons ⟨v, p1, h1⟩ (each_of h2 p2)
theorem of_each {Z : Zc} : ∀ {ys : List Val} {us : List Value}, PySem.W.EachIs (fun u y => ∃ v, RelV v u ∧ RV Z y v) us ys → ∃ vs, Vals vs us ∧ RVs Z ys vs
  | _, _, .nil => ⟨[], .nil, RVs.nil⟩
  | _, _, .cons ⟨v, h1, h2⟩ t => by
    obtain ⟨vs, g1, g2⟩ := of_each t
    exact ⟨v :: vs, .cons h1 g1, RVs.cons h2 g2⟩
theorem each_dat {Z : Zc} {H : Hp} {st : Store} {pins : List (Addr × Obj)} {σ : L2.St} {s : Shared} (I : Inv X pins σ H s) (sr : SRel Z H st) : ∀ {ys : List Val} {us : List Value}, (∀ y ∈ ys, toD y = some (encD y)) →
    PySem.W.EachIs (fun u y => ∃ v, RelV v u ∧ RV Z y v) us ys → PySem.W.EachIs (fun u y => ∃ as, Reads s.heap u (encD y) as) us ys
  | _, _, _, .nil => .nil
  | y :: _, _, h, .cons ⟨v, h1, h2⟩ t => .cons (Dp.reads I (encD y) v _ (toD_ok sr y v (encD y) h2 (h y List.mem_cons_self)) h1) (each_dat I sr (fun y hy => h y (List.mem_cons_of_mem _ hy)) t)
theorem cs_sorted {k : Nat} (hr : Room k X.A) : CallS X (.builtin "sorted") cSorted := by
  intro pins s σ H vs us Q I r ⟨E, b, Z, st, xs, sz, rx, h⟩
  unfold cSorted at h
  split at h
  · rename_i x
    obtain ⟨v, rfl, r1⟩ := RVs.one rx
    cases q : lstOf st x with
    | none => rw [q] at h; exact h.elim
    | some ys =>
      rw [q] at h
      cases q2 : toDs ys with
      | none => simp only [q2] at h; exact h.elim
      | some ds =>
        simp only [q2] at h
        by_cases hs : sortOk ds = true ∧ ys.length ≤ sizeLine
        · simp only [hs, and_self, if_true] at h
          obtain ⟨a, ws, rfl, h1, r2⟩ := lst_at sz.rel r1 q
          obtain ⟨em, ed⟩ := toDs_map q2
          obtain ⟨u, rfl, ru⟩ := vals1 r
          cases (show u = Value.ref a from ru)
          obtain ⟨its, rv, hl, hz⟩ := I.list (SqL.of h1)
          have ev := each_of r2 rv
          unfold sortOk at hs
          obtain ⟨hs1, hlen⟩ := hs
          obtain ⟨ha, hs2⟩ := Bool.and_eq_true_iff.mp hs1
          obtain ⟨hk, hd⟩ := Bool.and_eq_true_iff.mp hs2
          refine PySem.W.sorted_data (R := fun u y => ∃ v, RelV v u ∧ RV Z y v) (bs := ys) (enc := encD) hl.isList ev (each_dat I sz.rel ed ev) ?_ ?_ hlen ?_ fun out ho eo => ?_
          · intro d m d' m'
            rw [em] at m m'
            exact List.all_eq_true.mp (List.all_eq_true.mp ha d m) d' m'
          · rw [em]
            rcases Bool.or_eq_true_iff.mp hk with hk | hk
            · refine .inl fun d m => ?_
              have z := List.all_eq_true.mp hk d m
              cases d with
              | tuple l =>
                cases l with
                | nil => cases z
                | cons x r => exact ⟨x, r, rfl⟩
              | _ => cases z
            · refine .inr fun d m => ?_
              have z := List.all_eq_true.mp hk d m
              cases d with
              | none => cases z
              | tuple l => cases z
              | _ => exact ⟨(fun h => by cases h), (fun _ h => by cases h)⟩
          · intro y m
            have : encD y ∈ ds := by rw [← em]; exact List.mem_map.mpr ⟨y, m, rfl⟩
            have z := of_decide_eq_true (List.all_eq_true.mp hd _ this)
            have := hr.un
            omega
          · obtain ⟨ws', g1, g2⟩ := of_each eo
            obtain ⟨c, hc⟩ := PyProof.Rows.sortedAll_at s.heap its (List.toArray out)
            have hn : H (s.heap.objs.size + 1) = none := I.hok.fresh (Nat.le_succ _)
            have hlen2 : ws'.length ≤ sizeLine := by
              rw [g1.length, ho]; exact hlen
            refine ⟨.ref (s.heap.objs.size + 1), upd H (s.heap.objs.size + 1) (.lst ws'), I.laid (t' := s.toks) (fun b o e => PyProof.Rows.sortedAll_old e) (Nat.le_succ _) ⟨hlen2, out, c, g1, hc⟩, rfl, mkL_ok sz g2 hn h⟩
        · simp only [hs, if_false] at h; exact h.elim
  · exact h.elim
end
end SW
set_option Elab.async false
set_option linter.all false
set_option maxRecDepth 100000
namespace SW
open PySem PySem.Spec PyProof.Rows L2

/-! ### statements -/
inductive SRes where
  | nx (vs : List (Option Val)) (st : Store)
  | ret (x : Val) (st : Store)
  | brk (vs : List (Option Val)) (st : Store)
  | ct (vs : List (Option Val)) (st : Store)
  | exc (c : Str) (fs : List Str) (xs : List Val) (vs : List (Option Val)) (st : Store)
  | stk
abbrev Sx := En → Store → SRes
def lift {α : Type} (ρ : En) (r : Res α) (k : α → Store → SRes) : SRes := match r with
  | .ok a st => k a st
  | .exc c fs xs st => .exc c fs xs ρ.vs st
  | .stk => .stk
@[simp] theorem lift_ok {α : Type} (ρ : En) (a : α) (st : Store) (k : α → Store → SRes) : lift ρ (.ok a st) k = k a st := rfl
@[simp] theorem lift_exc {α : Type} (ρ : En) (c : Str) (fs : List Str) (xs : List Val) (st : Store) (k : α → Store → SRes) : lift ρ (.exc c fs xs st) k = .exc c fs xs ρ.vs st := rfl
@[simp] theorem lift_stk {α : Type} (ρ : En) (k : α → Store → SRes) : lift ρ (.stk : Res α) k = .stk := rfl
def FinS (W : WX) (b : Nat) (Z : Zc) (H : Hp) (st : Store) (r : SRes) (D : Ends) : Prop := match r with
  | .nx vs st' => ∀ Z' H' σ', Tr b Z H st Z' H' st' → SRel Z' H' st' → REnv Z' vs σ' → D.nx σ' H'
  | .ret x st' => ∀ Z' H' v, Tr b Z H st Z' H' st' → SRel Z' H' st' → RV Z' x v → D.rt v H'
  | .brk vs st' => ∀ Z' H' σ', Tr b Z H st Z' H' st' → SRel Z' H' st' → REnv Z' vs σ' → D.bk σ' H'
  | .ct vs st' => ∀ Z' H' σ', Tr b Z H st Z' H' st' → SRel Z' H' st' → REnv Z' vs σ' → D.ct σ' H'
  | .exc c fs xs vs st' => ∀ Z' H' σ' cls d, Tr b Z H st Z' H' st' → SRel Z' H' st' → REnv Z' vs σ' → RX Z' H' c fs xs cls d → W cls d σ' H'
  | .stk => False
def TSx (X : Cx) (W : WX) (f : Sx) : TS := fun D σ H => ∃ Z ρ st, Sta X Z ρ st σ H ∧ FinS W ρ.base Z H st (f ρ st) D
def VS (X : Cx) (s : Stmt) (f : Sx) : Prop := ∀ W, Takes X W → PS X s (TSx X W f)
def VSs (X : Cx) (s : List Stmt) (f : Sx) : Prop := ∀ W, Takes X W → PSs X s (TSx X W f)
section
variable {X : Cx} {W : WX} {b : Nat} {Z Z1 : Zc} {H H1 : Hp} {st st1 : Store} {r : SRes} {D D' : Ends}
theorem FinS.shift (t : Tr b Z H st Z1 H1 st1) (s : SRel Z1 H1 st1) (h : FinS W b Z H st r D) : FinS W b Z1 H1 st1 r D := by
  cases r with
  | nx vs st' => exact fun Z' H' σ' t' s' e' => h Z' H' σ' (t.trans s t') s' e'
  | ret vs st' => exact fun Z' H' σ' t' s' e' => h Z' H' σ' (t.trans s t') s' e'
  | brk vs st' => exact fun Z' H' σ' t' s' e' => h Z' H' σ' (t.trans s t') s' e'
  | ct vs st' => exact fun Z' H' σ' t' s' e' => h Z' H' σ' (t.trans s t') s' e'
  | exc c fs xs vs st' => exact fun Z' H' σ' cls d t' s' e' x' => h Z' H' σ' cls d (t.trans s t') s' e' x'
  | stk => exact h
theorem TEx.lift {α : Type} {f : Ex} {σ : L2.St} {ρ : En} {k : Val → Store → SRes} (s : Sta X Z ρ st σ H) (h : FinS W ρ.base Z H st (lift ρ (f ρ st) k) D) :
    TEx X W f σ H (fun v H1 => ∃ Z1 st1 x, Sta X Z1 ρ st1 σ H1 ∧ Zle Z Z1 ∧ RV Z1 x v ∧ FinS W ρ.base Z1 H1 st1 (k x st1) D) := by
  refine ⟨Z, ρ, st, s, ?_⟩
  cases e : f ρ st with
  | ok x st' => rw [e] at h; exact fun Z' H' v t' s' r' => ⟨Z', st', x, s.next t' s', t'.le, r', FinS.shift t' s' h⟩
  | exc c fs xs st' => rw [e] at h; exact fun Z' H' cls d t' s' x' => h Z' H' σ cls d t' s' (s.env.mono t'.le) x'
  | stk => rw [e] at h; exact h
theorem TTx.lift {f : Ex} {σ : L2.St} {ρ : En} {k : Val → Store → SRes} (hk : ∀ x st, (∀ c, x ≠ Val.bl c) → k x st = .stk) (s : Sta X Z ρ st σ H) (h : FinS W ρ.base Z H st (SW.lift ρ (f ρ st) k) D) :
    TTx X W f σ H (fun c H1 => ∃ Z1 st1, Sta X Z1 ρ st1 σ H1 ∧ Zle Z Z1 ∧ FinS W ρ.base Z1 H1 st1 (k (.bl c) st1) D) := by
  refine ⟨Z, ρ, st, s, ?_⟩
  cases e : f ρ st with
  | ok x st' =>
    rw [e] at h
    cases x with
    | bl c =>
      intro Z' H' v t' s' r'
      have r2 : c = v := r'
      subst r2
      exact ⟨Z', st', s.next t' s', t'.le, FinS.shift t' s' h⟩
    | _ => rw [lift_ok, hk _ _ (fun c z => by cases z)] at h; exact h.elim
  | exc c fs vs st' => rw [e] at h; exact fun Z' H' cls d t' s' x' => h Z' H' σ cls d t' s' (s.env.mono t'.le) x'
  | stk => rw [e] at h; exact h
theorem FinS.imp {σ : L2.St} (h : FinS W b Z H st r D) (h1 : ∀ σ H, D.nx σ H → D'.nx σ H) (h2 : ∀ v H, D.rt v H → D'.rt v H) (h3 : ∀ σ H, D.bk σ H → D'.bk σ H) (h4 : ∀ σ H, D.ct σ H → D'.ct σ H) : FinS W b Z H st r D' := by
  cases r with
  | nx vs st' => exact fun Z' H' σ' t' s' e' => h1 _ _ (h Z' H' σ' t' s' e')
  | ret vs st' => exact fun Z' H' σ' t' s' e' => h2 _ _ (h Z' H' σ' t' s' e')
  | brk vs st' => exact fun Z' H' σ' t' s' e' => h3 _ _ (h Z' H' σ' t' s' e')
  | ct vs st' => exact fun Z' H' σ' t' s' e' => h4 _ _ (h Z' H' σ' t' s' e')
  | exc c fs xs vs st' => exact h
  | stk => exact h
end
section
variable {X : Cx} {s : Stmt} {ss : List Stmt} {f g : Sx} {e c : Expr} {ef t : Ex} {pos : Pos}
def sNext : Sx := fun ρ st => .nx ρ.vs st
def sSeq (f g : Sx) : Sx := fun ρ st => match f ρ st with
  | .nx vs st' => g ⟨ρ.base, vs⟩ st'
  | r => r
theorem vss_nil : VSs X [] sNext := fun W tk => pss_nil.imp fun D σ H ⟨Z, ρ, st, s, q⟩ => q Z H σ Tr.refl s.rel s.env
theorem vss_one (h : VS X s f) : VSs X [s] f := fun W tk => pss_one (h W tk)
theorem vss_cons (h : VS X s f) (h2 : VSs X ss g) : VSs X (s :: ss) (sSeq f g) := fun W tk => (pss_cons (h W tk) (h2 W tk)).imp fun D σ H ⟨Z, ρ, st, s, q⟩ => by
  refine ⟨Z, ρ, st, s, ?_⟩
  unfold sSeq at q
  cases e : f ρ st with
  | nx vs st' =>
    rw [e] at q
    exact fun Z' H' σ' t' s' e' => ⟨Z', ⟨ρ.base, vs⟩, st', ⟨t'.le.K.trans s.K, t'.le.mg.trans s.mg, e', s', Nat.le_trans s.bs t'.len⟩, FinS.shift (b := ρ.base) t' s' q⟩
  | _ => rw [e] at q; exact q
def sPass : Sx := sNext
theorem vs_pass : VS X (.Pass pos) sPass := fun W tk => ps_pass.imp fun D σ H ⟨Z, ρ, st, s, q⟩ => q Z H σ Tr.refl s.rel s.env
def sBrk : Sx := fun ρ st => .brk ρ.vs st
theorem vs_brk : VS X (.Break pos) sBrk := fun W tk => ps_break.imp fun D σ H ⟨Z, ρ, st, s, q⟩ => q Z H σ Tr.refl s.rel s.env
def sNever : Sx := fun _ _ => .stk
theorem vs_never : VS X s sNever := fun W tk => ps_never.imp fun D σ H ⟨Z, ρ, st, s, q⟩ => q
theorem vss_never : VSs X ss sNever := fun W tk => pss_never.imp fun D σ H ⟨Z, ρ, st, s, q⟩ => q
def sExpr (f : Ex) : Sx := fun ρ st => lift ρ (f ρ st) fun _ st1 => .nx ρ.vs st1
theorem vs_expr (h : VE X e ef) (hs : swapsWith e none pos.line X.env = pure false := by rfl) : VS X (.Expr e pos) (sExpr ef) := fun W tk => (ps_expr (pos := pos) (h W tk) hs).imp fun D σ H ⟨Z, ρ, st, s, q⟩ =>
  (TEx.lift (α := Val) s q).mono fun v H1 ⟨Z1, st1, x, s1, l1, r1, q1⟩ => q1 Z1 H1 σ Tr.refl s1.rel s1.env
def sRet (f : Ex) : Sx := fun ρ st => lift ρ (f ρ st) fun x st1 => .ret x st1
theorem vs_ret (h : VE X e ef) : VS X (.Return (some e) pos) (sRet ef) := fun W tk => (ps_ret (pos := pos) (h W tk)).imp fun D σ H ⟨Z, ρ, st, s, q⟩ =>
  (TEx.lift (α := Val) s q).mono fun v H1 ⟨Z1, st1, x, s1, l1, r1, q1⟩ => q1 Z1 H1 v Tr.refl s1.rel r1
def sRetN : Sx := fun _ st => .ret .non st
theorem vs_retN : VS X (.Return none pos) sRetN := fun W tk => (ps_retN (pos := pos)).imp fun D σ H ⟨Z, ρ, st, s, q⟩ => q Z H _ Tr.refl s.rel (by unfold RV; rfl)
def sIf (t : Ex) (f g : Sx) : Sx := fun ρ st => lift ρ (t ρ st) fun x st1 => match x with
  | .bl true => f ρ st1
  | .bl false => g ρ st1
  | _ => .stk
theorem vs_if {a b : List Stmt} (hc : VT X c t) (ha : VSs X a f) (hb : VSs X b g) : VS X (.If c a b pos) (sIf t f g) := fun W tk => (ps_if (pos := pos) (hc W tk) (ha W tk) (hb W tk)).imp fun D σ H ⟨Z, ρ, st, s, q⟩ => by
  refine (TTx.lift (fun x st hx => ?_) s q).mono fun k H1 ⟨Z1, st1, s1, l1, q1⟩ => ?_
  · cases x with
    | bl c => exact absurd rfl (hx c)
    | _ => rfl
  · cases k with
    | true => exact ⟨Z1, ρ, st1, s1, q1⟩
    | false => exact ⟨Z1, ρ, st1, s1, q1⟩

/-! ### targets -/
inductive Tg where
  | nm (i : Nat)
  | tup (is : List Nat)
def setsV : List Nat → List V → L2.St → L2.St
  | i :: is, v :: vs, σ => setsV is vs (σ.set i (some v))
  | _, _, σ => σ
def setsX : List Nat → List Val → List (Option Val) → List (Option Val)
  | i :: is, v :: vs, σ => setsX is vs (σ.set i (some v))
  | _, _, σ => σ
def seqOf (st : Store) : Val → Option (List Val)
  | .tup xs => some xs
  | x => lstOf st x
def Tg.go : Tg → Val → List (Option Val) → Store → Option (List (Option Val))
  | .nm i, x, vs, _ => some (vs.set i (some x))
  | .tup is, x, vs, st => match seqOf st x with
    | some xs => if xs.length = is.length then some (setsX is xs vs) else none
    | none => none
def Tg.inn (own : List Nat) : Tg → Prop
  | .nm i => i ∈ own
  | .tup is => ∀ i ∈ is, i ∈ own
def TGt (K : PySem.W.Frag) : Tg → TG
  | .nm i => gName i
  | .tup is => fun v σ H Q => ∃ a xs, v = .ref a ∧ (SqT K H a xs ∨ SqL K H a xs) ∧ xs.length = is.length ∧ Q (setsV is xs σ) H
def VG (X : Cx) (tg : Expr) (t : Tg) : Prop := PG X tg (TGt X.K t)
theorem vg_nm (i : Nat) {x : Str} (hN : X.N.Nodup) (hi : X.N[i]? = some x := by rfl) (hx : Loc X.env.scope x := by first | exact Or.inl rfl | exact Or.inr rfl) (hf : X.fn x = true ∨ X.env.scope.names.lookup x = some .local := by first | exact .inl rfl | exact .inr rfl) :
    VG X (.Name x pos) (.nm i) := pg_name hN hi hx hf
def VGs (X : Cx) (ts : List Expr) (is : List Nat) : Prop := PGs X ts (fun vs σ H Q => vs.length = is.length ∧ Q (setsV is vs σ) H)
theorem vgs_nil : VGs X [] [] := ⟨fun pins s σ H vs us Q I r ⟨hl, q⟩ => pgs_nil.run pins s σ H vs us Q I r ⟨List.eq_nil_of_length_eq_zero hl, by
  have : vs = [] := List.eq_nil_of_length_eq_zero hl
  subst this; exact q⟩⟩
theorem vgs_cons {i : Nat} {is : List Nat} {es : List Expr} (h1 : VG X e (.nm i)) (h2 : VGs X es is) (hs : (assignEach (e :: es) X.env).map (·.2) = assign e X.env :: (assignEach es X.env).map (·.2) := by rfl) : VGs X (e :: es) (i :: is) :=
  ⟨fun pins s σ H vs us Q I r ⟨hl, q⟩ => (pgs_cons (t := gName i) h1 h2 hs).run pins s σ H vs us Q I r (by
    cases vs with
    | nil => simp at hl
    | cons v vs => exact ⟨v, vs, rfl, by simpa using hl, q⟩)⟩
theorem vg_tup {es : List Expr} {k : Nat} {is : List Nat} (h : VGs X es is) (hc : X.calm = true := by rfl) (hn : (assignEach es X.env).length = is.length := by rfl) (hst : (assignEach es X.env).findIdx? (·.1) = none := by rfl) : VG X (.Tuple es k pos) (.tup is) := by
  refine ⟨fun pins s σ H v u Q I r ⟨a, xs, e1, hq, hl, q⟩ => ?_⟩
  rcases hq with hq | hq
  · exact (pg_tup (pos := pos) (k := k) hc h hn hst).run pins s σ H v u Q I r ⟨a, xs, e1, hq, hl, hl, q⟩
  · exact (pg_lst (pos := pos) (k := k) hc h hn hst).run pins s σ H v u Q I r ⟨a, xs, e1, hq, hl, hl, q⟩
theorem REnv.sets {Z : Zc} : ∀ {is : List Nat} {xs : List Val} {vs : List V} {ρ : List (Option Val)} {σ : L2.St}, RVs Z xs vs → REnv Z ρ σ → REnv Z (setsX is xs ρ) (setsV is vs σ)
  | [], xs, vs, ρ, σ, r, h => by unfold setsX setsV; exact h
  | i :: is, [], vs, ρ, σ, r, h => by rw [RVs.nil_iff.mp r]; unfold setsX setsV; exact h
  | i :: is, x :: xs, vs, ρ, σ, r, h => by
    obtain ⟨v, vs', rfl, h1, h2⟩ := RVs.cons_iff.mp r
    unfold setsX setsV
    exact REnv.sets h2 (h.set h1)
theorem Tg.ok {Z : Zc} {H : Hp} {st : Store} {t : Tg} {x : Val} {v : V} {ρ vs : List (Option Val)} {σ : L2.St} {K : PySem.W.Frag} (sr : SRel Z H st) (env : REnv Z ρ σ) (r : RV Z x v) (e : t.go x ρ st = some vs) {Q : L2.St → Hp → Prop}
    (q : ∀ σ', REnv Z vs σ' → (∀ own : List Nat, t.inn own → wipe σ' own = wipe σ own) → Q σ' H) : TGt K t v σ H Q := by
  have wset : ∀ (σ : L2.St) (i : Nat) (o : Option V) (own : List Nat), i ∈ own → wipe (σ.set i o) own = wipe σ own := by
    intro σ i o own
    induction own with
    | nil => intro h; cases h
    | cons j own ih =>
      intro h
      unfold wipe
      by_cases hj : i ∈ own
      · rw [ih hj]
      · have : i = j := by
          rcases List.mem_cons.mp h with h | h
          · exact h
          · exact absurd h hj
        subst this
        have hw : ∀ (l : List Nat) (σ : L2.St), i ∉ l → wipe (σ.set i o) l = (wipe σ l).set i o := by
          intro l
          induction l with
          | nil => intro σ _; rfl
          | cons k l ih2 =>
            intro σ hn
            unfold wipe
            rw [ih2 σ (fun z => hn (List.mem_cons_of_mem _ z))]
            exact List.set_comm _ _ (fun z => hn (by rw [z]; exact List.mem_cons_self))
        rw [hw own σ hj, List.set_set]
  cases t with
  | nm i =>
    unfold Tg.go at e
    cases e
    exact q _ (env.set r) fun own h => wset σ i _ own h
  | tup is =>
    simp only [Tg.go] at e
    have wsets : ∀ (is : List Nat) (ws : List V) (σ : L2.St) (own : List Nat), (∀ i ∈ is, i ∈ own) → wipe (setsV is ws σ) own = wipe σ own := by
      intro is
      induction is with
      | nil => intro ws σ own _; unfold setsV; rfl
      | cons i is ih =>
        intro ws σ own h
        cases ws with
        | nil => unfold setsV; rfl
        | cons w ws =>
          unfold setsV
          rw [ih ws _ own (fun j hj => h j (List.mem_cons_of_mem _ hj))]
          exact wset σ i _ own (h i List.mem_cons_self)
    cases e2 : seqOf st x with
    | none => rw [e2] at e; cases e
    | some xs =>
      rw [e2] at e
      simp only at e
      by_cases hl : xs.length = is.length
      · rw [if_pos hl] at e
        cases e
        have : ∃ a ws, v = .ref a ∧ (SqT K H a ws ∨ SqL K H a ws) ∧ RVs Z xs ws := by
          unfold seqOf at e2
          split at e2
          · cases e2
            obtain ⟨a, ws, h1, h2, h3⟩ := tup_at sr r
            exact ⟨a, ws, h1, .inl (SqT.of h2), h3⟩
          · obtain ⟨a, ws, h1, h2, h3⟩ := lst_at sr r e2
            exact ⟨a, ws, h1, .inr (SqL.of h2), h3⟩
        obtain ⟨a, ws, h1, h2, h3⟩ := this
        exact ⟨a, ws, h1, h2, by rw [RVs.length h3]; exact hl, q _ (REnv.sets h3 env) fun own h => wsets is ws σ own h⟩
      · rw [if_neg hl] at e; cases e
/-- target = value -/
def sAsg (t : Tg) (f : Ex) : Sx := fun ρ st => lift ρ (f ρ st) fun x st1 => match t.go x ρ.vs st1 with
  | some vs => .nx vs st1
  | none => .stk
theorem asg_end {W : WX} {t : Tg} {D : Ends} {σ : L2.St} {H : Hp} {Z : Zc} {ρ : En} {st : Store} (s : Sta X Z ρ st σ H) (q : FinS W ρ.base Z H st (sAsg t ef ρ st) D) :
    TEx X W ef σ H fun v H1 => TGt X.K t v σ H1 D.nx := by
  refine (TEx.lift (α := Val) s q).mono fun v H1 ⟨Z1, st1, x, s1, l1, r1, q1⟩ => ?_
  cases e : t.go x ρ.vs st1 with
  | none => rw [e] at q1; exact q1.elim
  | some vs => rw [e] at q1; exact Tg.ok s1.rel s1.env r1 e fun σ' env _ => q1 Z1 H1 σ' Tr.refl s1.rel env
theorem vs_set (i : Nat) {x : Str} {pos' : Pos} (hN : X.N.Nodup) (he : VE X e ef) (hi : X.N[i]? = some x := by rfl) (hx : Loc X.env.scope x := by first | exact Or.inl rfl | exact Or.inr rfl) (hs : swapsWith e (some (.Name x pos')) pos.line X.env = pure false := by rfl)
    (hf : X.fn x = true ∨ X.env.scope.names.lookup x = some .local := by first | exact .inl rfl | exact .inr rfl) : VS X (.Assign [.Name x pos'] e pos) (sAsg (.nm i) ef) := fun W tk => (ps_set (pos := pos) (pos' := pos') hN hi hx (he W tk) hs hf).imp fun D σ H ⟨Z, ρ, st, s, q⟩ => asg_end s q
theorem vs_unp {tg : Expr} {t : Tg} (hg : VG X tg t) (he : VE X e ef) (hs : swapsWithSole [tg] e pos.line X.env = pure false := by rfl) (hw : swappedStores [tg] e X.env = pure none := by rfl) (h1 : (assignEach [tg] X.env).map (·.2) = [assign tg X.env] := by rfl) :
    VS X (.Assign [tg] e pos) (sAsg t ef) := fun W tk => (ps_asg (pos := pos) (he W tk) hg hs hw h1).imp fun D σ H ⟨Z, ρ, st, s, q⟩ => asg_end s q
/-- a, b = x, y -/
def sPar (i j : Nat) (f g : Ex) : Sx := fun ρ st => lift ρ (f ρ st) fun x st1 => lift ρ (g ρ st1) fun y st2 => .nx ((ρ.vs.set i (some x)).set j (some y)) st2
theorem vs_par (i j : Nat) {x y : Str} {a b : Expr} {fa fb : Ex} {px py pt : Pos} {kt k2 pt2} (hN : X.N.Nodup) (ha : VE X a fa) (hb : VE X b fb) (hc : X.calm = true := by rfl) (hi : X.N[i]? = some x := by rfl) (hj : X.N[j]? = some y := by rfl) (hij : i ≠ j := by decide)
    (hx : X.env.scope.names.lookup x = some .local := by rfl) (hy : X.env.scope.names.lookup y = some .local := by rfl) (hsa : starEach [a, b] X.env = (false, eval a X.env) :: starEach [b] X.env := by rfl) (hsb : starEach [b] X.env = (false, eval b X.env) :: starEach [] X.env := by rfl)
    (hw : swappedStores [.Tuple [.Name x px, .Name y py] kt pt] (.Tuple [a, b] k2 pt2) X.env = pure (some [x, y]) := by rfl) (hs : swapsWithSole [.Tuple [.Name x px, .Name y py] kt pt] (.Tuple [a, b] k2 pt2) pos.line X.env = pure false := by rfl) :
    VS X (.Assign [.Tuple [.Name x px, .Name y py] kt pt] (.Tuple [a, b] k2 pt2) pos) (sPar i j fa fb) := fun W tk => (ps_par (pos := pos) hc hN hi hj hij hx hy (pa_cons (ha W tk) (pa_cons (hb W tk) pa_nil hsb) hsa) hw hs).imp fun D σ H ⟨Z, ρ, st, s, q⟩ => by
  refine (TEx.lift (α := Val) s q).mono fun v H1 ⟨Z1, st1, x, s1, l1, r1, q1⟩ => (TEx.lift (α := Val) s1 q1).mono fun u H2 ⟨Z2, st2, y, s2, l2, r2, q2⟩ => ?_
  exact ⟨v, u, rfl, q2 Z2 H2 _ Tr.refl s2.rel ((s2.env.set (RV.mono l2 x v r1)).set r2)⟩
end
end SW
set_option Elab.async false
set_option linter.all false
set_option maxRecDepth 100000
namespace SW
open PySem PySem.Spec PyProof.Rows L2

/-! ### while -/
def after (r : SRes) (ρ : En) (k : En → Store → SRes) : SRes := match r with
  | .nx vs st => k ⟨ρ.base, vs⟩ st
  | .ct vs st => k ⟨ρ.base, vs⟩ st
  | .brk vs st => .nx vs st
  | r => r
@[simp] theorem after_nx (vs : List (Option Val)) (st : Store) (ρ : En) (k : En → Store → SRes) : after (.nx vs st) ρ k = k ⟨ρ.base, vs⟩ st := rfl
@[simp] theorem after_ct (vs : List (Option Val)) (st : Store) (ρ : En) (k : En → Store → SRes) : after (.ct vs st) ρ k = k ⟨ρ.base, vs⟩ st := rfl
@[simp] theorem after_brk (vs : List (Option Val)) (st : Store) (ρ : En) (k : En → Store → SRes) : after (.brk vs st) ρ k = .nx vs st := rfl
@[simp] theorem after_ret (x : Val) (st : Store) (ρ : En) (k : En → Store → SRes) : after (.ret x st) ρ k = .ret x st := rfl
def whileN (t : Ex) (body : Sx) : Nat → En → Store → SRes
  | 0, _, _ => .stk
  | n + 1, ρ, st => lift ρ (t ρ st) fun x st1 => match x with
    | .bl true => after (body ρ st1) ρ (whileN t body n)
    | .bl false => .nx ρ.vs st1
    | _ => .stk
def FUEL : Nat := 100000
def sWhile (t : Ex) (body : Sx) : Sx := fun ρ st => whileN t body FUEL ρ st
section
variable {X : Cx} {W : WX} {t : Ex} {f : Sx} {D : Ends}
/-- the end of a turn -/
theorem FinS.turn {b : Nat} {Z : Zc} {H : Hp} {st : Store} {r : SRes} {vs0 : List (Option Val)} {k : En → Store → SRes} {N : L2.St → Hp → Prop} (h : FinS W b Z H st (after r ⟨b, vs0⟩ k) D)
    (hN : ∀ vs st' Z' H' σ', Tr b Z H st Z' H' st' → SRel Z' H' st' → REnv Z' vs σ' → FinS W b Z' H' st' (k ⟨b, vs⟩ st') D → N σ' H') : FinS W b Z H st r { D with nx := N, ct := N, bk := D.nx } := by
  cases r with
  | nx vs st' => exact fun Z' H' σ' t' s' e' => hN vs st' Z' H' σ' t' s' e' (FinS.shift t' s' h)
  | ct vs st' => exact fun Z' H' σ' t' s' e' => hN vs st' Z' H' σ' t' s' e' (FinS.shift t' s' h)
  | brk vs st' => exact h
  | ret x st' => exact h
  | exc c fs xs vs st' => exact h
  | stk => exact h
theorem vs_while {c : Expr} {body : List Stmt} {pos : Pos} (hp : PassesOwn (model X.prog X.w) X.A X.env X.xe) (hc : VT X c t) (hb : VSs X body f) : VS X (.While c body [] pos) (sWhile t f) := fun W tk => (ps_while (pos := pos) hp (hc W tk) (hb W tk)).imp fun D σ H ⟨Z, ρ, st, s, q⟩ => by
  refine ⟨fun m σ H => ∃ Z ρ st, Sta X Z ρ st σ H ∧ FinS W ρ.base Z H st (whileN t f m ρ st) D, ⟨FUEL, Z, ρ, st, s, q⟩, fun m σ H hw => ?_⟩
  obtain ⟨Z, ρ, st, s, q⟩ := hw
  cases m with
  | zero => exact q.elim
  | succ m =>
    unfold whileN at q
    refine (TTx.lift (fun x st hx => ?_) s q).mono fun k H1 ⟨Z1, st1, s1, l1, q1⟩ => ?_
    · cases x with
      | bl c => exact absurd rfl (hx c)
      | _ => rfl
    · cases k with
      | false =>
        rw [if_neg Bool.false_ne_true]
        exact q1 Z1 H1 σ Tr.refl s1.rel s1.env
      | true =>
        rw [if_pos rfl]
        refine ⟨fun σ' H' => ∃ m', m' < m + 1 ∧ ∃ Z ρ st, Sta X Z ρ st σ' H' ∧ FinS W ρ.base Z H' st (whileN t f m' ρ st) D, fun _ _ h => h, ⟨Z1, ρ, st1, s1, FinS.turn (vs0 := ρ.vs) q1 fun vs st' Z' H' σ' t' s' e' q' => ?_⟩⟩
        exact ⟨m, Nat.lt_succ_self _, Z', ⟨ρ.base, vs⟩, st', ⟨t'.le.K.trans s1.K, t'.le.mg.trans s1.mg, e', s', Nat.le_trans s1.bs t'.len⟩, q'⟩
end

/-! ### what a for walks -/
structure Src where
  fuel : Nat
  nxt : Store → Nat → Option (Option Val)
def Src.st (xs : List Val) : Src := ⟨xs.length + 1, fun _ i => some xs[i]?⟩
abbrev Ix := En → Store → Res Src
def JS (Z : Zc) (H : Hp) (st : Store) (s : Src) (J : It) : Prop := ∀ i b Z' H' st', Tr b Z H st Z' H' st' → SRel Z' H' st' → match s.nxt st' i with
  | some (some x) => J.go i H' ∧ ∀ v H'', J.yld i H' v H'' → ∃ Z'', Tr b Z' H' st' Z'' H'' st' ∧ SRel Z'' H'' st' ∧ RV Z'' x v
  | some none => J.stop i H'
  | none => True
def FinI (E : XK) (b : Nat) (Z : Zc) (H : Hp) (st : Store) (r : Res Src) (R : It → Hp → Prop) : Prop := match r with
  | .ok s st' => ∀ Z' H' J, Tr b Z H st Z' H' st' → SRel Z' H' st' → JS Z' H' st' s J → R J H'
  | .exc c fs vs st' => ∀ Z' H' cls d, Tr b Z H st Z' H' st' → SRel Z' H' st' → RX Z' H' c fs vs cls d → E cls d H'
  | .stk => False
def TIx (X : Cx) (W : WX) (f : Ix) : TI := fun σ H R => ∃ Z ρ st, Sta X Z ρ st σ H ∧ FinI (WE W σ) ρ.base Z H st (f ρ st) R
def VI (X : Cx) (tg e : Expr) (f : Ix) : Prop := ∀ W, Takes X W → PI X tg e (TIx X W f)
theorem JS.mono {Z Z1 : Zc} {H H1 : Hp} {st st1 : Store} {s : Src} {J : It} {b : Nat} (h : JS Z H st s J) (t : Tr b Z H st Z1 H1 st1) (r : SRel Z1 H1 st1) : JS Z1 H1 st1 s J := by
  intro i c Z' H' st' t' r'
  have e : Tr (min b c) Z H st Z' H' st' := (t.weak (Nat.min_le_left _ _)).trans r (t'.weak (Nat.min_le_right _ _))
  have q := h i (min b c) Z' H' st' e r'
  cases hx : s.nxt st' i with
  | none => trivial
  | some o =>
    rw [hx] at q
    cases o with
    | none => exact q
    | some x =>
      refine ⟨q.1, fun v H'' y => ?_⟩
      obtain ⟨Z'', t2, r2, rv⟩ := q.2 v H'' y
      exact ⟨Z'', ⟨t2.le, t2.keep, t2.new, t2.fnew, fun _ _ l => l, Nat.le_refl _⟩, r2, rv⟩
theorem FinI.shift {E : XK} {b : Nat} {Z Z1 : Zc} {H H1 : Hp} {st st1 : Store} {r : Res Src} {R : It → Hp → Prop} (t : Tr b Z H st Z1 H1 st1) (s : SRel Z1 H1 st1) (h : FinI E b Z H st r R) : FinI E b Z1 H1 st1 r R := by
  cases r with
  | ok x st' => exact fun Z' H' J t' s' j => h Z' H' J (t.trans s t') s' j
  | exc c fs vs st' => exact fun Z' H' cls d t' s' r' => h Z' H' cls d (t.trans s t') s' r'
  | stk => exact h
/-- a value, then its walk -/
def xI (o : Val → Store → Option Src) (f : Ex) : Ix := fun ρ st => (f ρ st).bind fun x st1 => match o x st1 with
  | some s => .ok s st1
  | none => .stk
theorem TEx.bindI {X : Cx} {W : WX} {f : Ex} {k : Val → Store → Res Src} {σ : L2.St} {H : Hp} {R : It → Hp → Prop} {Z : Zc} {ρ : En} {st : Store} (s : Sta X Z ρ st σ H) (h : FinI (WE W σ) ρ.base Z H st ((f ρ st).bind k) R) :
    TEx X W f σ H (fun v H1 => ∃ Z1 st1 x, Sta X Z1 ρ st1 σ H1 ∧ Zle Z Z1 ∧ RV Z1 x v ∧ FinI (WE W σ) ρ.base Z1 H1 st1 (k x st1) R) := by
  refine ⟨Z, ρ, st, s, ?_⟩
  cases e : f ρ st with
  | ok x st' => rw [e] at h; exact fun Z' H' v t' s' r' => ⟨Z', st', x, s.next t' s', t'.le, r', FinI.shift t' s' h⟩
  | exc c fs xs st' => rw [e] at h; exact h
  | stk => rw [e] at h; exact h
/-- a list or a tuple -/
def srcL (x : Val) (st : Store) : Option Src := match x with
  | .tup xs => some (.st xs)
  | .lst xs => some (.st xs)
  | .ref i => (match st[i]? with
    | some (.lst _) => some ⟨FUEL, fun st n => match st[i]? with
      | some (.lst xs) => some xs[n]?
      | _ => none⟩
    | _ => none)
  | _ => none
def iSeq (K : PySem.W.Frag) (tl : TE) : TI := fun σ H R => tl σ H fun x H1 => ∃ a, x = .ref a ∧ (((∃ xs, SqL K H1 a xs) ∧ R (Itl K a) H1) ∨ ((∃ xs, SqT K H1 a xs) ∧ R (Itt K a) H1))
theorem pi_seq {X : Cx} {tg l : Expr} {tl : TE} (hl : PE X l tl) : PI X tg l (iSeq X.K tl) := by
  refine ⟨fun pins s σ H R I h => ?_⟩
  refine thn (hl.run pins s σ H _ I h) fun v s1 ⟨x, H1, I1, r1, q1⟩ => ?_
  obtain ⟨a, rfl, q⟩ := q1
  cases r1
  have hf : ∀ b : Addr, b ∈ [s1.heap.objs.size] → FpOk X pins H1 b := fun b hb => by
    have e : b = s1.heap.objs.size := by simpa using hb
    subst e
    exact I1.fpOk (Nat.le_refl _) (I1.hok.fresh (Nat.le_refl _))
  rcases q with ⟨⟨xs, hq⟩, q⟩ | ⟨⟨xs, hq⟩, q⟩
  · obtain ⟨its, rv, p, hz⟩ := I1.list hq
    exact wpAny_pyIter_list p.isList ⟨s1.heap.objs.size, [s1.heap.objs.size], _, _, H1, rfl, I1.kept (t' := s1.toks) fun b o e => Heap.get?_push_of_some _ e, turn_list a _, ⟨_, Heap.get?_push_size _ rfl, rfl, rfl⟩, hf, q⟩
  · obtain ⟨its, rv, p, hz⟩ := I1.tuple hq
    exact wpAny_pyIter_tuple (show s1.heap.IsTuple a its.toArray from p) ⟨s1.heap.objs.size, [s1.heap.objs.size], _, _, H1, rfl, I1.kept (t' := s1.toks) fun b o e => Heap.get?_push_of_some _ e, turn_tuple a _, ⟨_, Heap.get?_push_size _ rfl, rfl, rfl⟩, hf, q⟩
section
variable {X : Cx} {tg e : Expr} {f : Ex}
theorem rv_lst_mono {Z Z' : Zc} {xs : List Val} {v : V} (l : Zle Z Z') (h : RV Z (.lst xs) v) : RV Z' (.lst xs) v := RV.mono l _ _ h
theorem js_list {K : PySem.W.Frag} {Z : Zc} {H : Hp} {st : Store} {xs : List Val} {a : Addr} (r : RV Z (.lst xs) (.ref a)) : JS Z H st (.st xs) (Itl K a) := by
  intro i b Z' H' st' t' r'
  obtain ⟨a', vs, e, h1, r2⟩ := lst_at (xs := xs) r' (RV.mono t'.le _ _ r) rfl
  cases e
  show match some xs[i]? with
    | some (some x) => _
    | some none => _
    | none => True
  cases hx : xs[i]? with
  | none =>
    refine ⟨vs, SqL.of h1, ?_⟩
    rw [RVs.length r2]; exact List.getElem?_eq_none_iff.mp hx
  | some x =>
    obtain ⟨v, hv, rv⟩ := RVs.get r2 hx
    refine ⟨⟨vs, v, SqL.of h1, hv⟩, fun u H'' y => ?_⟩
    obtain ⟨rfl, y⟩ := y
    have := y vs (SqL.of h1)
    rw [hv] at this; cases this
    exact ⟨Z', Tr.refl, r', rv⟩
theorem js_tup {K : PySem.W.Frag} {Z : Zc} {H : Hp} {st : Store} {xs : List Val} {a : Addr} (r : RV Z (.tup xs) (.ref a)) : JS Z H st (.st xs) (Itt K a) := by
  intro i b Z' H' st' t' r'
  obtain ⟨a', vs, e, h1, r2⟩ := tup_at (xs := xs) r' (RV.mono t'.le _ _ r)
  cases e
  show match some xs[i]? with
    | some (some x) => _
    | some none => _
    | none => True
  cases hx : xs[i]? with
  | none =>
    refine ⟨vs, SqT.of h1, ?_⟩
    rw [RVs.length r2]; exact List.getElem?_eq_none_iff.mp hx
  | some x =>
    obtain ⟨v, hv, rv⟩ := RVs.get r2 hx
    refine ⟨⟨vs, v, SqT.of h1, hv⟩, fun u H'' y => ?_⟩
    obtain ⟨rfl, y⟩ := y
    have := y vs (SqT.of h1)
    rw [hv] at this; cases this
    exact ⟨Z', Tr.refl, r', rv⟩
theorem js_ref {K : PySem.W.Frag} {Z : Zc} {H : Hp} {st : Store} {k : Nat} {a : Addr} {n : Nat} (r : RV Z (.ref k) (.ref a)) : JS Z H st ⟨n, fun st n => match st[k]? with
      | some (.lst xs) => some xs[n]?
      | _ => none⟩ (Itl K a) := by
  intro i b Z' H' st' t' r'
  have rr := RV.mono t'.le _ _ r
  cases e : st'[k]? with
  | none => simp only [e]
  | some o =>
    cases o with
    | lst xs =>
      obtain ⟨a', ea, _, vs, h1, r2⟩ := r'.ref_at rr e
      cases ea
      simp only [e]
      cases hx : xs[i]? with
      | none =>
        refine ⟨vs, SqL.of h1, ?_⟩
        rw [RVs.length r2]; exact List.getElem?_eq_none_iff.mp hx
      | some x =>
        obtain ⟨v, hv, rv⟩ := RVs.get r2 hx
        refine ⟨⟨vs, v, SqL.of h1, hv⟩, fun u H'' y => ?_⟩
        obtain ⟨rfl, y⟩ := y
        have := y vs (SqL.of h1)
        rw [hv] at this; cases this
        exact ⟨Z', Tr.refl, r', rv⟩
    | _ => simp only [e]
theorem vi_seq (he : VE X e f) : VI X tg e (xI srcL f) := fun W tk => (pi_seq (tg := tg) (he W tk)).imp fun σ H R ⟨Z, ρ, st, s, q⟩ => by
  refine (TEx.bindI s q).mono fun v H1 ⟨Z1, st1, x, s1, l1, r1, q1⟩ => ?_
  cases x with
  | tup xs =>
    obtain ⟨a, vs, rfl, h1, r2⟩ := tup_at s1.rel r1
    exact ⟨a, rfl, .inr ⟨⟨vs, SqT.of h1⟩, q1 Z1 H1 _ Tr.refl s1.rel (js_tup r1)⟩⟩
  | lst xs =>
    obtain ⟨a, vs, rfl, h1, r2⟩ := lst_at (xs := xs) s1.rel r1 rfl
    exact ⟨a, rfl, .inl ⟨⟨vs, SqL.of h1⟩, q1 Z1 H1 _ Tr.refl s1.rel (js_list r1)⟩⟩
  | ref k =>
    simp only [srcL] at q1
    cases e2 : st1[k]? with
    | none => rw [e2] at q1; exact q1.elim
    | some o =>
      rw [e2] at q1
      cases o with
      | lst xs =>
        obtain ⟨a, rfl, _, vs, h1, r2⟩ := s1.rel.ref_at r1 e2
        exact ⟨a, rfl, .inl ⟨⟨vs, SqL.of h1⟩, q1 Z1 H1 _ Tr.refl s1.rel (js_ref r1)⟩⟩
      | _ => exact q1.elim
  | _ => exact q1.elim
/-- ranges -/
def rngL (lo : Int) (n : Nat) : List Val := (List.range n).map fun k => .int (lo + (k : Nat))
theorem js_range {Z : Zc} {H : Hp} {st : Store} (lo : Int) (n : Nat) : JS Z H st (.st (rngL lo n)) (Itr lo n) := by
  intro i b Z' H' st' t' r'
  show match some (rngL lo n)[i]? with
    | some (some x) => _
    | some none => _
    | none => True
  unfold rngL
  rw [List.getElem?_map]
  by_cases hi : i < n
  · rw [List.getElem?_range hi]
    refine ⟨hi, fun v H'' y => ?_⟩
    obtain ⟨rfl, rfl⟩ := y
    exact ⟨Z', Tr.refl, r', by unfold RV; rfl⟩
  · rw [List.getElem?_eq_none (by simp; omega)]
    exact Nat.le_of_not_lt hi
def xR1 (f : Ex) : Ix := fun ρ st => (f ρ st).bind fun x st1 => match x with
  | .int j => if -(2 ^ 62) ≤ j ∧ j < 2 ^ 62 then .ok (.st (rngL 0 j.toNat)) st1 else .stk
  | _ => .stk
def xR2 (f g : Ex) : Ix := fun ρ st => (f ρ st).bind fun x st1 => (g ρ st1).bind fun y st2 => match x, y with
  | .int i, .int j => if -(2 ^ 62) ≤ i ∧ i < 2 ^ 62 ∧ -(2 ^ 62) ≤ j ∧ j < 2 ^ 62 then .ok (.st (rngL i (j - i).toNat)) st2 else .stk
  | _, _ => .stk
theorem vi_r1 {p pos : Pos} (hm : X.mg "range" = none) (he : VE X e f) (hg : Gl X "range" := by rfl) (hs : starEach [e] X.env = [(false, eval e X.env)] := by rfl) : VI X tg (.Call (.Name "range" p) [e] [] pos) (xR1 f) := fun W tk =>
  (pi_range1 (tg := tg) (p := p) (pos := pos) hg hm (pa_cons (he W tk) pa_nil hs) hs).imp fun σ H R ⟨Z, ρ, st, s, q⟩ => by
  refine (TEx.bindI s q).mono fun v H1 ⟨Z1, st1, x, s1, l1, r1, q1⟩ => ?_
  cases x with
  | int j =>
    unfold RV at r1
    by_cases hj : -(2 ^ 62) ≤ j ∧ j < 2 ^ 62
    · simp only [hj, and_self, if_true] at q1
      exact ⟨j, by rw [r1], hj.1, hj.2, q1 Z1 H1 _ Tr.refl s1.rel (js_range _ _)⟩
    · simp only [hj, if_false] at q1; exact q1.elim
  | _ => exact q1.elim
theorem vi_r2 {p pos : Pos} {e2 : Expr} {g : Ex} (hm : X.mg "range" = none) (he : VE X e f) (he2 : VE X e2 g) (hg : Gl X "range" := by rfl) (hs : starEach [e, e2] X.env = [(false, eval e X.env), (false, eval e2 X.env)] := by rfl) (hs2 : starEach [e2] X.env = [(false, eval e2 X.env)] := by rfl) : VI X tg (.Call (.Name "range" p) [e, e2] [] pos) (xR2 f g) := fun W tk =>
  (pi_range2 (tg := tg) (p := p) (pos := pos) hg hm (pa_cons (he W tk) (pa_cons (he2 W tk) pa_nil hs2) (by rw [hs, hs2])) hs hs2).imp fun σ H R ⟨Z, ρ, st, s, q⟩ => by
  refine (TEx.bindI s q).mono fun v H1 ⟨Z1, st1, x, s1, l1, r1, q1⟩ => (TEx.bindI s1 q1).mono fun u H2 ⟨Z2, st2, y, s2, l2, r2, q2⟩ => ?_
  cases x with
  | int i =>
    cases y with
    | int j =>
      unfold RV at r1 r2
      by_cases hj : -(2 ^ 62) ≤ i ∧ i < 2 ^ 62 ∧ -(2 ^ 62) ≤ j ∧ j < 2 ^ 62
      · simp only [hj, and_self, if_true] at q2
        exact ⟨i, j, by rw [r1, r2], hj, q2 Z2 H2 _ Tr.refl s2.rel (js_range _ _)⟩
      · simp only [hj, if_false] at q2; exact q2.elim
    | _ => exact q2.elim
  | _ => exact q2.elim
/-- enumerate(list), zip(list, list): lists that stay -/
def enumL (xs : List Val) : List Val := (xs.zipIdx).map fun p => .tup [.int (p.2 : Nat), p.1]
def zipL (xs ys : List Val) : List Val := (xs.zip ys).map fun p => .tup [p.1, p.2]
theorem enumL_get (xs : List Val) (i : Nat) : (enumL xs)[i]? = (xs[i]?).map fun x => Val.tup [.int (i : Nat), x] := by
  unfold enumL
  rw [List.getElem?_map, List.getElem?_zipIdx]
  cases xs[i]? with
  | none => rfl
  | some x => simp
theorem js_enum {K : PySem.W.Frag} {Z : Zc} {H : Hp} {st : Store} {xs : List Val} {a : Addr} (r : RV Z (.lst xs) (.ref a)) : JS Z H st (.st (enumL xs)) (Ite K a) := by
  intro i b Z' H' st' t' r'
  obtain ⟨a', vs, e, h1, r2⟩ := lst_at (xs := xs) r' (RV.mono t'.le _ _ r) rfl
  cases e
  show match some (enumL xs)[i]? with
    | some (some x) => _
    | some none => _
    | none => True
  rw [enumL_get]
  cases hx : xs[i]? with
  | none =>
    refine ⟨vs, SqL.of h1, ?_⟩
    rw [RVs.length r2]; exact List.getElem?_eq_none_iff.mp hx
  | some x =>
    obtain ⟨v, hv, rv⟩ := RVs.get r2 hx
    refine ⟨⟨vs, v, SqL.of h1, hv⟩, fun u H'' y => ?_⟩
    obtain ⟨T, x', rfl, nT, rfl, y⟩ := y
    have := y vs (SqL.of h1)
    rw [hv] at this; cases this
    obtain ⟨t2, s2⟩ := al_fz (b := b) (u := .tup [.int (i : Nat), v]) r' nT
    refine ⟨_, t2, s2, ?_⟩
    unfold RV
    exact ⟨T, _, rfl, upd_same, RVs.cons (by unfold RV; rfl) (RVs.cons (RV.mono t2.le _ _ rv) RVs.nil)⟩
theorem zipL_get (xs ys : List Val) (i : Nat) : (zipL xs ys)[i]? = match xs[i]?, ys[i]? with
    | some x, some y => some (Val.tup [x, y])
    | _, _ => none := by
  unfold zipL
  rw [List.getElem?_map]
  cases hx : xs[i]? with
  | none => rw [List.getElem?_eq_none (by have := List.getElem?_eq_none_iff.mp hx; simp; omega)]; rfl
  | some x => cases hy : ys[i]? with
    | none => rw [List.getElem?_eq_none (by have := List.getElem?_eq_none_iff.mp hy; simp; omega)]; rfl
    | some y => rw [(List.getElem?_zip_eq_some (z := (x, y))).mpr ⟨hx, hy⟩]; rfl
theorem js_zip {K : PySem.W.Frag} {Z : Zc} {H : Hp} {st : Store} {xs ys : List Val} {a c : Addr} (r : RV Z (.lst xs) (.ref a)) (q : RV Z (.lst ys) (.ref c)) : JS Z H st (.st (zipL xs ys)) (Itz K a c) := by
  intro i b Z' H' st' t' r'
  obtain ⟨a', vs, e, h1, r2⟩ := lst_at (xs := xs) r' (RV.mono t'.le _ _ r) rfl
  cases e
  obtain ⟨c', us, e, h2, r3⟩ := lst_at (xs := ys) r' (RV.mono t'.le _ _ q) rfl
  cases e
  show match some (zipL xs ys)[i]? with
    | some (some x) => _
    | some none => _
    | none => True
  rw [zipL_get]
  cases hx : xs[i]? with
  | none =>
    refine ⟨vs, us, SqL.of h1, SqL.of h2, .inl ?_⟩
    rw [RVs.length r2]; exact List.getElem?_eq_none_iff.mp hx
  | some x =>
    cases hy : ys[i]? with
    | none =>
      refine ⟨vs, us, SqL.of h1, SqL.of h2, .inr ?_⟩
      rw [RVs.length r3]; exact List.getElem?_eq_none_iff.mp hy
    | some y =>
      obtain ⟨v, hv, rv⟩ := RVs.get r2 hx
      obtain ⟨u, hu, ru⟩ := RVs.get r3 hy
      refine ⟨⟨vs, us, v, u, SqL.of h1, SqL.of h2, hv, hu⟩, fun w H'' z => ?_⟩
      obtain ⟨T, x', y', rfl, nT, rfl, z1, z2⟩ := z
      have e1 := z1 vs (SqL.of h1)
      rw [hv] at e1; cases e1
      have e2 := z2 us (SqL.of h2)
      rw [hu] at e2; cases e2
      obtain ⟨t2, s2⟩ := al_fz (b := b) (u := .tup [v, u]) r' nT
      refine ⟨_, t2, s2, ?_⟩
      unfold RV
      exact ⟨T, _, rfl, upd_same, RVs.cons (RV.mono t2.le _ _ rv) (RVs.cons (RV.mono t2.le _ _ ru) RVs.nil)⟩
/-- what a list holds now, if it is one that stays -/
def stayL : Val → Option (List Val)
  | .lst xs => some xs
  | _ => none
theorem stayL_eq {x : Val} {xs : List Val} (h : stayL x = some xs) : x = .lst xs := by
  unfold stayL at h
  split at h
  · cases h; rfl
  · cases h
def xEnum (f : Ex) : Ix := fun ρ st => (f ρ st).bind fun x st1 => match stayL x with
  | some xs => .ok (.st (enumL xs)) st1
  | none => .stk
theorem vi_enum {p pos tpos : Pos} {elts : List Expr} {kk : Nat} (hm : X.mg "enumerate" = none) (he : VE X e f) (hg : Gl X "enumerate" := by rfl) (hs : starEach [e] X.env = [(false, eval e X.env)] := by rfl) : VI X (.Tuple elts kk tpos) (.Call (.Name "enumerate" p) [e] [] pos) (xEnum f) := fun W tk =>
  (pi_enum (tpos := tpos) (elts := elts) (kk := kk) (p := p) (pos := pos) hg hm (pa_cons (he W tk) pa_nil hs) hs).imp fun σ H R ⟨Z, ρ, st, s, q⟩ => by
  refine (TEx.bindI s q).mono fun v H1 ⟨Z1, st1, x, s1, l1, r1, q1⟩ => ?_
  cases e2 : stayL x with
  | none => simp only [e2] at q1; exact q1.elim
  | some xs =>
    simp only [e2] at q1
    have hx := stayL_eq e2
    subst hx
    obtain ⟨a, vs, rfl, h1, r2⟩ := lst_at s1.rel r1 rfl
    exact ⟨a, vs, rfl, SqL.of h1, q1 Z1 H1 _ Tr.refl s1.rel (js_enum r1)⟩
def xZip (f g : Ex) : Ix := fun ρ st => (f ρ st).bind fun x st1 => (g ρ st1).bind fun y st2 => match stayL x, stayL y with
  | some xs, some ys => .ok (.st (zipL xs ys)) st2
  | _, _ => .stk
theorem vi_zip {p pos tpos : Pos} {elts : List Expr} {kk : Nat} {e2 : Expr} {g : Ex} (hm : X.mg "zip" = none) (he : VE X e f) (he2 : VE X e2 g) (hg : Gl X "zip" := by rfl) (hs : starEach [e, e2] X.env = (false, eval e X.env) :: starEach [e2] X.env := by rfl) (hs2 : starEach [e2] X.env = [(false, eval e2 X.env)] := by rfl)
    (hpl : (backTo pos (starEach [e2] X.env)).any (·.1) = false := by rfl) : VI X (.Tuple elts kk tpos) (.Call (.Name "zip" p) [e, e2] [] pos) (xZip f g) := fun W tk =>
  (pi_zip (tpos := tpos) (elts := elts) (kk := kk) (p := p) (pos := pos) hg hm (pa_cons (he W tk) (pa_cons (he2 W tk) pa_nil hs2) hs) hs hpl).imp fun σ H R ⟨Z, ρ, st, s, q⟩ => by
  refine (TEx.bindI s q).mono fun v H1 ⟨Z1, st1, x, s1, l1, r1, q1⟩ => (TEx.bindI s1 q1).mono fun u H2 ⟨Z2, st2, y, s2, l2, r2, q2⟩ => ?_
  cases e2 : stayL x with
  | none => simp only [e2] at q2; exact q2.elim
  | some xs =>
    cases e3 : stayL y with
    | none => simp only [e2, e3] at q2; exact q2.elim
    | some ys =>
      simp only [e2, e3] at q2
      have hx := stayL_eq e2
      have hy := stayL_eq e3
      subst hx; subst hy
      have r1' := RV.mono l2 _ _ r1
      obtain ⟨a, vs, rfl, h1, r3⟩ := lst_at s2.rel r1' rfl
      obtain ⟨c, us, rfl, h2, r4⟩ := lst_at s2.rel r2 rfl
      exact ⟨a, c, vs, us, rfl, SqL.of h1, SqL.of h2, q2 Z2 H2 _ Tr.refl s2.rel (js_zip r1' r2)⟩
/-- the letters of a text -/
def chrL (x : Str) : List Val := x.cps.toList.map fun c => .str ⟨#[c]⟩
theorem js_str {Z : Zc} {H : Hp} {st : Store} (x : Str) : JS Z H st (.st (chrL x)) (Its x) := by
  intro i b Z' H' st' t' r'
  show match some (chrL x)[i]? with
    | some (some x) => _
    | some none => _
    | none => True
  unfold chrL
  rw [List.getElem?_map]
  by_cases hi : i < x.cps.size
  · have e : x.cps.toList[i]? = some x.cps[i] := by rw [List.getElem?_eq_getElem (by simpa using hi)]; simp
    rw [e]
    refine ⟨hi, fun v H'' y => ?_⟩
    obtain ⟨rfl, c, hc, rfl⟩ := y
    rw [Array.getElem?_eq_getElem hi] at hc; cases hc
    exact ⟨Z', Tr.refl, r', by unfold RV; rfl⟩
  · rw [List.getElem?_eq_none (by simpa using hi)]
    exact Nat.le_of_not_lt hi
def xStr (f : Ex) : Ix := fun ρ st => (f ρ st).bind fun x st1 => match x with
  | .str x => .ok (.st (chrL x)) st1
  | _ => .stk
theorem vi_str (he : VE X e f) : VI X tg e (xStr f) := fun W tk => (pi_str (tg := tg) (he W tk)).imp fun σ H R ⟨Z, ρ, st, s, q⟩ => by
  refine (TEx.bindI s q).mono fun v H1 ⟨Z1, st1, x, s1, l1, r1, q1⟩ => ?_
  cases x with
  | str x => unfold RV at r1; exact ⟨x, r1, q1 Z1 H1 _ Tr.refl s1.rel (js_str _)⟩
  | _ => exact q1.elim
end
end SW
set_option Elab.async false
set_option linter.all false
set_option maxRecDepth 100000
namespace SW
open PySem PySem.Spec PyProof.Rows L2

/-! ### for -/
def forN (nxt : Store → Nat → Option (Option Val)) (t : Tg) (body : Sx) : Nat → Nat → En → Store → SRes
  | 0, _, _, _ => .stk
  | n + 1, i, ρ, st => match nxt st i with
    | none => .stk
    | some none => .nx ρ.vs st
    | some (some x) => match t.go x ρ.vs st with
      | none => .stk
      | some vs => after (body ⟨ρ.base, vs⟩ st) ρ (forN nxt t body n (i + 1))
def sFor (t : Tg) (src : Ix) (body : Sx) : Sx := fun ρ st => lift ρ (src ρ st) fun s st1 => forN s.nxt t body s.fuel 0 ρ st1
section
variable {X : Cx} {W : WX} {f : Sx} {D : Ends}
theorem TIx.lift {f : Ix} {σ : L2.St} {H : Hp} {Z : Zc} {ρ : En} {st : Store} {k : Src → Store → SRes} (s : Sta X Z ρ st σ H) (h : FinS W ρ.base Z H st (lift ρ (f ρ st) k) D) :
    TIx X W f σ H (fun J H1 => ∃ Z1 st1 x, Sta X Z1 ρ st1 σ H1 ∧ Zle Z Z1 ∧ JS Z1 H1 st1 x J ∧ FinS W ρ.base Z1 H1 st1 (k x st1) D) := by
  refine ⟨Z, ρ, st, s, ?_⟩
  cases e : f ρ st with
  | ok x st' => rw [e] at h; exact fun Z' H' v t' s' r' => ⟨Z', st', x, s.next t' s', t'.le, r', FinS.shift t' s' h⟩
  | exc c fs xs st' => rw [e] at h; exact fun Z' H' cls d t' s' x' => h Z' H' σ cls d t' s' (s.env.mono t'.le) x'
  | stk => rw [e] at h; exact h
theorem TIx.mono {f : Ix} {σ : L2.St} {H : Hp} {Q Q' : It → Hp → Prop} (h : TIx X W f σ H Q) (i : ∀ v H', Q v H' → Q' v H') : TIx X W f σ H Q' := by
  obtain ⟨Z, ρ, st, s, q⟩ := h
  refine ⟨Z, ρ, st, s, ?_⟩
  cases e : f ρ st with
  | ok x st' => rw [e] at q; exact fun Z' H' J t' s' j => i _ _ (q Z' H' J t' s' j)
  | exc c fs xs st' => rw [e] at q; exact q
  | stk => rw [e] at q; exact q
theorem vs_for {tg e : Expr} {t : Tg} {g : Ix} {body : List Stmt} {pos : Pos} (hp : PassesOwn (model X.prog X.w) X.A X.env X.xe) (hg : VG X tg t) (hi : VI X tg e g) (hb : VSs X body f) (hc : X.calm = true := by rfl)
    (hs : ∀ x, foldedSetIterable e X.env x = pure x := by intro _; rfl) : VS X (.For tg e body [] pos) (sFor t g f) := fun W tk => (ps_for (pos := pos) hp hc (hi W tk) hg (hb W tk) hs).imp fun D σ H ⟨Z, ρ, st, s, q⟩ => by
  refine (TIx.lift s q).mono fun J H1 ⟨Z1, st1, src, s1, l1, j1, q1⟩ => ?_
  refine ⟨fun i m σ H => ∃ Z ρ st, Sta X Z ρ st σ H ∧ JS Z H st src J ∧ FinS W ρ.base Z H st (forN src.nxt t f m i ρ st) D, ⟨src.fuel, Z1, ρ, st1, s1, j1, q1⟩, fun i m σ H hw => ?_⟩
  obtain ⟨Z, ρ, st, s, j, q⟩ := hw
  cases m with
  | zero => exact q.elim
  | succ m =>
    unfold forN at q
    have jj := j i ρ.base Z H st Tr.refl s.rel
    cases e1 : src.nxt st i with
    | none => rw [e1] at q; exact q.elim
    | some o =>
      rw [e1] at q jj
      cases o with
      | none => exact .inl ⟨jj, q Z H σ Tr.refl s.rel s.env⟩
      | some x =>
        refine .inr ⟨jj.1, fun σ' H' => ∃ m', m' < m + 1 ∧ ∃ Z ρ st, Sta X Z ρ st σ' H' ∧ JS Z H' st src J ∧ FinS W ρ.base Z H' st (forN src.nxt t f m' (i + 1) ρ st) D, fun _ _ h => h, fun v H' y => ?_⟩
        obtain ⟨Z', t', r', rv⟩ := jj.2 v H' y
        have s' := s.next t' r'
        simp only at q
        cases e2 : t.go x ρ.vs st with
        | none => rw [e2] at q; exact q.elim
        | some vs =>
          rw [e2] at q
          refine Tg.ok r' s'.env rv e2 fun σ2 env2 _ => ⟨Z', ⟨ρ.base, vs⟩, st, ⟨s'.K, s'.mg, env2, r', s'.bs⟩, FinS.turn (vs0 := ρ.vs) (FinS.shift (b := ρ.base) t' r' q) fun vs3 st3 Z3 H3 σ3 t3 s3 e3 q3 => ?_⟩
          exact ⟨m, Nat.lt_succ_self _, Z3, ⟨ρ.base, vs3⟩, st3, ⟨t3.le.K.trans s'.K, t3.le.mg.trans s'.mg, e3, s3, Nat.le_trans s'.bs t3.len⟩, (j.mono t' r').mono t3 s3, q3⟩
end

/-! ### comprehensions -/
def wipeX (ρ : List (Option Val)) : List Nat → List (Option Val)
  | [] => ρ
  | v :: vs => (wipeX ρ vs).set v none
theorem REnv.wipe {Z : Zc} {ρ : List (Option Val)} {σ : L2.St} (r : REnv Z ρ σ) : ∀ vs : List Nat, REnv Z (wipeX ρ vs) (L2.wipe σ vs)
  | [] => r
  | v :: vs => by unfold wipeX L2.wipe; exact (REnv.wipe r vs).unset
def noX {α β : Type} : Res α → (α → Store → Res β) → Res β
  | .ok a st, k => k a st
  | _, _ => .stk
@[simp] theorem noX_ok {α β : Type} (a : α) (st : Store) (k : α → Store → Res β) : noX (.ok a st) k = k a st := rfl
def lcN (nxt : Store → Nat → Option (Option Val)) (t : Tg) (tt te : Ex) (ρ0 : En) : Nat → Nat → List Val → Store → Res (List Val)
  | 0, _, _, _ => .stk
  | n + 1, i, acc, st => match nxt st i with
    | none => .stk
    | some none => .ok acc st
    | some (some x) => match t.go x ρ0.vs st with
      | none => .stk
      | some vs => noX (tt ⟨ρ0.base, vs⟩ st) fun c st1 => match c with
        | .bl true => noX (te ⟨ρ0.base, vs⟩ st1) fun y st2 => if acc.length < sizeLine then lcN nxt t tt te ρ0 n (i + 1) (acc ++ [y]) st2 else .stk
        | .bl false => lcN nxt t tt te ρ0 n (i + 1) acc st1
        | _ => .stk
def xLc (own : Bool) (t : Tg) (src : Ix) (tt te : Ex) (vs : List Nat) : Ex := fun ρ st => (src ρ st).bind fun s st1 =>
  (lcN s.nxt t tt te ⟨ρ.base, wipeX ρ.vs vs⟩ s.fuel 0 [] st1).bind fun xs st2 => mkL own xs st2
theorem Tr.set_free {b : Nat} {Z Z' : Zc} {H H' : Hp} {st st' : Store} {D : Addr} {u : HO} (t : Tr b Z H st Z' H' st') (n : H D = none) : Tr b Z H st Z' (upd H' D u) st' :=
  ⟨t.le, fun a o e m => by rw [upd_ne (ne_of_none e n)]; exact t.keep a o e m, t.new, t.fnew, t.lev, t.len⟩
theorem SRel.set_free {Z : Zc} {H : Hp} {st : Store} {D : Addr} {u : HO} (s : SRel Z H st) (na : D ∉ Z.as) (nf : Z.Fz D = none) : SRel Z (upd H D u) st :=
  ⟨s.nd, s.len, fun a v e => by
    have h : a ≠ D := ne_of_none e nf
    rw [upd_ne h]; exact s.sub a v e, fun i o a e1 e2 => by
    obtain ⟨f, r⟩ := s.own i o a e1 e2
    have h : a ≠ D := fun h => na (h ▸ List.mem_of_getElem? e2)
    exact ⟨f, r.move (Zle.refl Z) (upd_ne h)⟩⟩
/-- no exception leaves the run -/
def NoE : XK := fun _ _ _ => False
theorem TEx.run {W : WX} {X : Cx} {f : Ex} {σ : L2.St} {H : Hp} {Z : Zc} {ρ : En} {st st' : Store} {x : Val} (s : Sta X Z ρ st σ H) (e : f ρ st = .ok x st') :
    TEx X W f σ H (fun v H1 => ∃ Z1, Sta X Z1 ρ st' σ H1 ∧ Tr ρ.base Z H st Z1 H1 st' ∧ RV Z1 x v) := by
  refine ⟨Z, ρ, st, s, ?_⟩
  rw [e]; exact fun Z' H' v t' s' r' => ⟨Z', s.next t' s', t', r'⟩
theorem TTx.run {W : WX} {X : Cx} {f : Ex} {σ : L2.St} {H : Hp} {Z : Zc} {ρ : En} {st st' : Store} {c : Bool} (s : Sta X Z ρ st σ H) (e : f ρ st = .ok (.bl c) st') :
    TTx X W f σ H (fun k H1 => k = c ∧ ∃ Z1, Sta X Z1 ρ st' σ H1 ∧ Tr ρ.base Z H st Z1 H1 st') := by
  refine ⟨Z, ρ, st, s, ?_⟩
  rw [e]
  intro Z' H' v t' s' r'
  have r2 : c = v := r'
  exact ⟨r2.symm, Z', s.next t' s', t'⟩
theorem TIx.bind {f : Ix} {X : Cx} {W : WX} {α β : Type} {R : Zc → α → β → Prop} {σ : L2.St} {H : Hp} {Z : Zc} {ρ : En} {st : Store} {k : Src → Store → Res α} {Q : β → Hp → Prop} (s : Sta X Z ρ st σ H) (h : Fin R (WE W σ) ρ.base Z H st ((f ρ st).bind k) Q) :
    TIx X W f σ H (fun J H1 => ∃ Z1 st1 x, Sta X Z1 ρ st1 σ H1 ∧ Zle Z Z1 ∧ JS Z1 H1 st1 x J ∧ Fin R (WE W σ) ρ.base Z1 H1 st1 (k x st1) Q) := by
  refine ⟨Z, ρ, st, s, ?_⟩
  cases e : f ρ st with
  | ok x st' => rw [e] at h; exact fun Z' H' v t' s' r' => ⟨Z', st', x, s.next t' s', t'.le, r', Fin.shift t' s' h⟩
  | exc c fs xs st' => rw [e] at h; exact fun Z' H' cls d t' s' x' => h Z' H' cls d t' s' x'
  | stk => rw [e] at h; exact h
theorem fz_here {b : Nat} {Z1 Z : Zc} {H1 H : Hp} {st1 st : Store} {D : Addr} {u : HO} (t : Tr b Z1 H1 st1 Z H st) (s : SRel Z H st) (n : H1 D = none) (e : H D = some u) (na : D ∉ Z.as) (nf : Z.Fz D = none) :
    Tr b Z1 H1 st1 { Z with Fz := upd Z.Fz D u } H st ∧ SRel { Z with Fz := upd Z.Fz D u } H st ∧ Zle Z { Z with Fz := upd Z.Fz D u } := by
  have le : Zle Z { Z with Fz := upd Z.Fz D u } := ⟨rfl, rfl, fun _ _ h => h, fun a v e => by
    show upd Z.Fz D _ a = _
    rw [upd_ne (ne_of_none e nf)]; exact e⟩
  refine ⟨⟨t.le.trans le, t.keep, t.new, fun a v e' => ?_, t.lev, t.len⟩, ⟨s.nd, s.len, fun a v e' => ?_, fun i o a e1 e2 => ?_⟩, le⟩
  · by_cases h : a = D
    · subst h; exact .inr n
    · have e2 : upd Z.Fz D _ a = some v := e'
      rw [upd_ne h] at e2; exact t.fnew a v e2
  · by_cases h : a = D
    · subst h
      have e2 : upd Z.Fz a _ a = some v := e'
      rw [upd_same] at e2; cases e2
      exact .inl e
    · have e2 : upd Z.Fz D _ a = some v := e'
      rw [upd_ne h] at e2; exact s.sub a v e2
  · obtain ⟨f, r⟩ := s.own i o a e1 e2
    have h : a ≠ D := fun h => na (h ▸ List.mem_of_getElem? e2)
    exact ⟨by show upd Z.Fz D _ a = none; rw [upd_ne h]; exact f, r.move le rfl⟩
theorem ow_here {b : Nat} {Z1 Z : Zc} {H1 H : Hp} {st1 st : Store} {D : Addr} {o : Ob} (t : Tr b Z1 H1 st1 Z H st) (s : SRel Z H st) (hb : b ≤ st.length) (n : H1 D = none) (na : D ∉ Z.as) (nf : Z.Fz D = none) (r : RO { Z with as := Z.as ++ [D] } H D o) :
    Tr b Z1 H1 st1 { Z with as := Z.as ++ [D] } H (st ++ [o]) ∧ SRel { Z with as := Z.as ++ [D] } H (st ++ [o]) := by
  have le : Zle Z { Z with as := Z.as ++ [D] } := ⟨rfl, rfl, fun i a h => by
    show (Z.as ++ [D])[i]? = some a
    rw [List.getElem?_append_left (List.getElem?_eq_some_iff.mp h).1]; exact h, fun _ _ h => h⟩
  refine ⟨⟨t.le.trans le, t.keep, fun a m => ?_, t.fnew, fun c hc l i o' hi e => ?_, by simp; exact Nat.le_succ_of_le t.len⟩, ⟨?_, by simp [s.len], fun a u e => s.sub a u e, fun i o' a e1 e2 => ?_⟩⟩
  · have m' : a ∈ Z.as ++ [D] := m
    rcases List.mem_append.mp m' with m | m
    · exact t.new a m
    · have e : a = D := by simpa using m
      exact .inr (by rw [e]; exact n)
  · rw [List.getElem?_append_left (by omega)] at e
    exact t.lev c hc l i o' hi e
  · show (Z.as ++ [D]).Nodup
    exact List.nodup_append.mpr ⟨s.nd, by simp, fun a ha c hc => by
      have e : c = D := by simpa using hc
      rw [e]; exact fun h => na (h ▸ ha)⟩
  · have e2' : (Z.as ++ [D])[i]? = some a := e2
    by_cases hi : i < st.length
    · rw [List.getElem?_append_left hi] at e1
      rw [List.getElem?_append_left (by rw [s.len]; exact hi)] at e2'
      obtain ⟨f, r'⟩ := s.own i o' a e1 e2'
      exact ⟨f, r'.move le rfl⟩
    · have hi2 : i = st.length := by
        have := (List.getElem?_eq_some_iff.mp e1).1
        simp at this; omega
      subst hi2
      rw [List.getElem?_append_right (Nat.le_refl _)] at e1
      rw [List.getElem?_append_right (by rw [s.len]; exact Nat.le_refl _)] at e2'
      simp at e1
      simp [s.len] at e2'
      subst e1; subst e2'
      exact ⟨nf, r⟩
/-- the tests of a comprehension -/
def VTs (X : Cx) (ifs : List Expr) (f : Ex) : Prop := ∀ W, Takes X W → PTs X ifs (TTx X W f)
theorem _root_.L2.PTs.imp {X : Cx} {e : List Expr} {t t' : TT} (h : PTs X e t) (i : ∀ σ H Q, t' σ H Q → t σ H Q) : PTs X e t' := ⟨fun pins s σ H Q I q => h.run pins s σ H Q I (i σ H Q q)⟩
theorem vts_nil {X : Cx} : VTs X [] (xC (.bl true)) := fun W tk => pts_nil.imp fun σ H Q ⟨Z, ρ, st, s, q⟩ => Fin.ok (x := true) (v := true) q s.rel rfl
theorem vts_one {X : Cx} {c : Expr} {f : Ex} (h : VT X c f) : VTs X [c] f := fun W tk => pts_one (h W tk)
section
variable {X : Cx} {W : WX}
theorem sta_blk {Z : Zc} {ρ : En} {st : Store} {σ : L2.St} {H : Hp} {s : Shared} {H0 : Hp} {scope : Scope} {cenv : Env} {fp : List Addr} (h : Sta X Z ρ st σ H) : Sta (X.blk s H0 scope cenv fp) Z ρ st σ H := ⟨h.K, h.mg, h.env, h.rel, h.bs⟩
theorem asg_fin {t : Tg} {ef : Ex} {D : Ends} {σ : L2.St} {H : Hp} {Z : Zc} {ρ : En} {st : Store} (s : Sta X Z ρ st σ H) (q : FinS W ρ.base Z H st (sAsg t ef ρ st) D) :
    Fin RV (WE W σ) ρ.base Z H st (ef ρ st) (fun v H1 => TGt X.K t v σ H1 D.nx) := by
  unfold sAsg at q
  cases e : ef ρ st with
  | ok x st' =>
    rw [e] at q
    intro Z' H' v t' s' r'
    simp only [lift_ok] at q
    cases e2 : t.go x ρ.vs st' with
    | none => rw [e2] at q; exact q.elim
    | some vs => rw [e2] at q; exact Tg.ok s' (s.env.mono t'.le) r' e2 fun σ' env _ => q Z' H' σ' t' s' env
  | exc c fs xs st' => rw [e] at q; exact fun Z' H' cls d t' s' x' => q Z' H' σ cls d t' s' (s.env.mono t'.le) x'
  | stk => rw [e] at q; exact q
theorem lc_go {t : Tg} {g : Ix} {tt te : Ex} {vs : List Nat} {σ : L2.St} {H : Hp} {Q : VK} {Z : Zc} {ρ : En} {st : Store} {own : Bool} {W0 W1 : WX}
    (hv : t.inn vs) (s : Sta X Z ρ st σ H) (q : Fin RV (WE W σ) ρ.base Z H st (xLc own t g tt te vs ρ st) Q) (tx : ∀ σ H Q, TTx X W0 tt σ H Q → TTx X W1 tt σ H Q) :
    tLc (TIx X W g) (TGt X.K t) (TTx X W1 tt) (TEx X W0 te) vs σ H Q := by
  refine (TIx.bind s q).mono fun J H1 ⟨Z1, st1, src, s1, l1, j1, q1⟩ => ?_
  intro D nD
  have na : D ∉ Z1.as := fun m => by obtain ⟨_, u, e⟩ := s1.rel.at m; rw [nD] at e; cases e
  have nf : Z1.Fz D = none := by
    cases e : Z1.Fz D with
    | none => rfl
    | some u => obtain ⟨u', e'⟩ := s1.rel.fz e; rw [nD] at e'; cases e'
  refine ⟨fun i m Hc => ∃ Zx stc acc av, Tr ρ.base Z1 H1 st1 Zx Hc stc ∧ SRel Zx Hc stc ∧ D ∉ Zx.as ∧ Zx.Fz D = none ∧ Hc D = some (.lst av) ∧ RVs Zx acc av ∧
    Fin RV (WE W σ) ρ.base Z1 H1 st1 ((lcN src.nxt t tt te ⟨ρ.base, wipeX ρ.vs vs⟩ m i acc stc).bind fun xs st2 => mkL own xs st2) Q, ⟨src.fuel, Z1, st1, [], [], Tr.refl.set_free nD, s1.rel.set_free na nf, na, nf, upd_same, RVs.nil, q1⟩, ?_⟩
  rintro i m Hc ⟨Zx, stc, acc, av, tc, sc, nac, nfc, eD, ra, qc⟩
  have stac : Sta X Zx ⟨ρ.base, wipeX ρ.vs vs⟩ stc (L2.wipe σ vs) Hc := ⟨tc.le.K.trans s1.K, tc.le.mg.trans s1.mg, (s1.env.mono tc.le).wipe vs, sc, Nat.le_trans s1.bs tc.len⟩
  cases m with
  | zero => exact qc.elim
  | succ m =>
    unfold lcN at qc
    have jc := j1.mono tc sc
    have jj := jc i ρ.base Zx Hc stc Tr.refl sc
    cases e1 : src.nxt stc i with
    | none => rw [e1] at qc; exact qc.elim
    | some o =>
      rw [e1] at qc jj
      cases o with
      | none =>
        refine .inl ⟨jj, ?_⟩
        simp only [Res.bind_ok] at qc
        unfold mkL at qc
        by_cases hl : acc.length ≤ sizeLine
        · rw [if_pos hl] at qc
          cases own with
          | false =>
            obtain ⟨t2, s2, l2⟩ := fz_here (u := .lst av) tc sc nD eD nac nfc
            refine qc _ _ _ t2 s2 ?_
            unfold RV
            exact ⟨D, av, rfl, upd_same, RVs.mono l2 _ _ ra⟩
          | true =>
            have le : Zle Zx { Zx with as := Zx.as ++ [D] } := ⟨rfl, rfl, fun i a h => by
              show (Zx.as ++ [D])[i]? = some a
              rw [List.getElem?_append_left (List.getElem?_eq_some_iff.mp h).1]; exact h, fun _ _ h => h⟩
            obtain ⟨t2, s2⟩ := ow_here (o := .lst acc) tc sc stac.bs nD nac nfc ⟨av, eD, RVs.mono le _ _ ra⟩
            refine qc _ _ _ t2 s2 ?_
            unfold RV
            exact ⟨D, rfl, by show (Zx.as ++ [D])[stc.length]? = some D; rw [← sc.len]; simp⟩
        · rw [if_neg hl] at qc; exact qc.elim
      | some x =>
        refine .inr ⟨jj.1, fun Hn => ∃ m', m' < m + 1 ∧ ∃ Zx stc acc av, Tr ρ.base Z1 H1 st1 Zx Hn stc ∧ SRel Zx Hn stc ∧ D ∉ Zx.as ∧ Zx.Fz D = none ∧ Hn D = some (.lst av) ∧ RVs Zx acc av ∧
          Fin RV (WE W σ) ρ.base Z1 H1 st1 ((lcN src.nxt t tt te ⟨ρ.base, wipeX ρ.vs vs⟩ m' (i + 1) acc stc).bind fun xs st2 => mkL own xs st2) Q, fun _ h => h, fun v H' y => ?_⟩
        obtain ⟨Z', t', r', rv⟩ := jj.2 v H' y
        have s' := stac.next t' r'
        -- D through a step
        have step : ∀ {Z2 : Zc} {H2 : Hp} {st2 : Store}, Tr ρ.base Zx Hc stc Z2 H2 st2 → D ∉ Z2.as ∧ Z2.Fz D = none ∧ H2 D = some (.lst av) := fun {Z2 H2 st2} t2 => by
          refine ⟨fun m => ?_, ?_, t2.keep D _ eD nac⟩
          · rcases t2.new D m with h | h
            · exact nac h
            · rw [eD] at h; cases h
          · cases e : Z2.Fz D with
            | none => rfl
            | some u =>
              rcases t2.fnew D u e with h | h
              · rw [nfc] at h; cases h
              · rw [eD] at h; cases h
        simp only at qc
        cases e2 : t.go x (wipeX ρ.vs vs) stc with
        | none => rw [e2] at qc; exact qc.elim
        | some vs2 =>
          rw [e2] at qc
          refine Tg.ok r' s'.env rv e2 fun σ2 env2 hw => ⟨?_, ?_⟩
          · rw [hw vs hv]
            have ww : ∀ (σ : L2.St) (l : List Nat), L2.wipe (L2.wipe σ l) l = L2.wipe σ l := by
              intro σ l
              refine List.ext_getElem? fun k => ?_
              have key : ∀ (l : List Nat) (τ : L2.St), (L2.wipe τ l)[k]? = if k ∈ l ∧ k < τ.length then some none else τ[k]? := by
                intro l
                induction l with
                | nil => intro τ; simp [L2.wipe]
                | cons a l ih =>
                  intro τ
                  unfold L2.wipe
                  rw [List.getElem?_set]
                  rw [wipe_length]
                  by_cases hak : a = k
                  · subst hak
                    by_cases hlt : a < τ.length
                    · simp [hlt]
                    · simp [hlt]
                  · rw [if_neg hak, ih τ]
                    have : (k ∈ a :: l) ↔ k ∈ l := by
                      rw [List.mem_cons]
                      constructor
                      · rintro (h | h)
                        · exact absurd h.symm hak
                        · exact h
                      · exact Or.inr
                    simp only [this]
              rw [key l (L2.wipe σ l), wipe_length]
              by_cases hk : k ∈ l ∧ k < σ.length
              · rw [if_pos hk, key l σ, if_pos hk]
              · rw [if_neg hk]
            exact ww σ vs
          have s2 : Sta X Z' ⟨ρ.base, vs2⟩ stc σ2 H' := ⟨s'.K, s'.mg, env2, r', s'.bs⟩
          simp only at qc
          cases e3 : tt ⟨ρ.base, vs2⟩ stc with
          | exc => rw [e3] at qc; exact qc.elim
          | stk => rw [e3] at qc; exact qc.elim
          | ok c st3 =>
            rw [e3] at qc
            simp only [noX_ok] at qc
            cases c with
            | bl c =>
              refine tx _ _ _ ((TTx.run s2 e3).mono fun k H3 ⟨ek, Z3, s3, t3⟩ => ?_)
              subst ek
              cases k with
              | false =>
                rw [if_neg Bool.false_ne_true]
                simp only at qc
                have t33 := t'.trans r' t3
                obtain ⟨d1, d2, d3⟩ := step t33
                exact ⟨m, Nat.lt_succ_self _, Z3, st3, acc, av, tc.trans sc t33, s3.rel, d1, d2, d3, RVs.mono t33.le _ _ ra, qc⟩
              | true =>
                rw [if_pos rfl]
                simp only at qc
                cases e4 : te ⟨ρ.base, vs2⟩ st3 with
                | exc => rw [e4] at qc; exact qc.elim
                | stk => rw [e4] at qc; exact qc.elim
                | ok y st4 =>
                  rw [e4] at qc
                  simp only [noX_ok] at qc
                  refine (TEx.run s3 e4).mono fun u H4 ⟨Z4, s4, t4, r4⟩ => ?_
                  have t44 := (t'.trans r' t3).trans s3.rel t4
                  obtain ⟨d1, d2, d3⟩ := step t44
                  by_cases hl : acc.length < sizeLine
                  · rw [if_pos hl] at qc
                    refine ⟨av, d3, by rw [RVs.length ra]; exact hl, m, Nat.lt_succ_self _, Z4, st4, acc ++ [y], av ++ [u], (tc.trans sc t44).set_free nD, s4.rel.set_free d1 d2, d1, d2, upd_same, RVs.app (RVs.mono t44.le _ _ ra) (RVs.cons r4 RVs.nil), qc⟩
                  · rw [if_neg hl] at qc; exact qc.elim
            | _ => exact qc.elim
theorem ve_lc (own : Bool) {elt tg iter : Expr} {ifs : List Expr} {scope : Scope} {ow : List (Str × Nat)} {pos : Pos} {t : Tg} {g : Ix} {tt te : Ex} (hN : X.N.Nodup) (hi : VI X tg iter g) (ok : BlkOk X.N X.env.scope scope ow) (hv : t.inn (ow.map (·.2)))
    (hg : ∀ (s : Shared) (H : Hp) (C : Addr) (cl : List (Str × Addr)) (fp : List Addr), VG (X.blk s H scope (compEnvC scope cl C X.env) fp) tg t) (ht : ∀ (s : Shared) (H : Hp) (C : Addr) (cl : List (Str × Addr)) (fp : List Addr), VTs (X.blk s H scope (compEnvC scope cl C X.env) fp) ifs tt)
    (he : ∀ (s : Shared) (H : Hp) (C : Addr) (cl : List (Str × Addr)) (fp : List Addr), VE (X.blk s H scope (compEnvC scope cl C X.env) fp) elt te) (hc : X.calm = true := by rfl) (hs : ∀ x, foldedSetIterable iter X.env x = pure x := by intro _; rfl) :
    VE X (.ListComp elt [⟨tg, iter, ifs, 0⟩] scope pos) (xLc own t g tt te (ow.map (·.2))) := fun W tk =>
  (pe_lc (pos := pos) (own := ow) (g := TGt X.K t) (tt := TTx X (fun _ _ _ _ => False) tt) (te := TEx X (fun _ _ _ _ => False) te) hc hN (hi W tk) ok hg
    (fun s H C cl fp => (ht s H C cl fp _ takes0).imp fun σ H Q ⟨Z, ρ, st, s, q⟩ => ⟨Z, ρ, st, sta_blk s, q⟩) (fun s H C cl fp => (he s H C cl fp _ takes0).imp fun σ H Q ⟨Z, ρ, st, s, q⟩ => ⟨Z, ρ, st, sta_blk s, q⟩) hs).imp fun σ H Q ⟨Z, ρ, st, s, q⟩ =>
    lc_go hv s q fun _ _ _ h => h
theorem vs_setLc (own : Bool) (i : Nat) {y : Str} {py : Pos} {elt tg iter : Expr} {ifs : List Expr} {scope : Scope} {ow : List (Str × Nat)} {pos spos : Pos} {t : Tg} {g : Ix} {tt te : Ex} (hN : X.N.Nodup) (hi : VI X tg iter g) (ok : BlkOk X.N X.env.scope scope ow) (hv : t.inn (ow.map (·.2)))
    (hg : ∀ (s : Shared) (H : Hp) (C : Addr) (cl : List (Str × Addr)) (fp : List Addr), VG (X.blk s H scope (compEnvC scope cl C X.env) fp) tg t) (ht : ∀ (s : Shared) (H : Hp) (C : Addr) (cl : List (Str × Addr)) (fp : List Addr), VTs (X.blk s H scope (compEnvC scope cl C X.env) fp) ifs tt)
    (he : ∀ (s : Shared) (H : Hp) (C : Addr) (cl : List (Str × Addr)) (fp : List Addr), VE (X.blk s H scope (compEnvC scope cl C X.env) fp) elt te)
    (hsw : swapsWith (.ListComp elt [⟨tg, iter, ifs, 0⟩] scope pos) (some (.Name y py)) spos.line X.env = pure true) (hy : X.N[i]? = some y := by rfl) (hyl : X.env.scope.names.lookup y = some .local := by rfl)
    (hc : X.calm = true := by rfl) (hs : ∀ x, foldedSetIterable iter X.env x = pure x := by intro _; rfl) :
    VS X (.Assign [.Name y py] (.ListComp elt [⟨tg, iter, ifs, 0⟩] scope pos) spos) (sAsg (.nm i) (xLc own t g tt te (ow.map (·.2)))) := fun W tk =>
  (ps_setLc (pos := pos) (own := ow) (g := TGt X.K t) (tt := TTx X (fun _ _ _ _ => False) tt) (te := TEx X (fun _ _ _ _ => False) te) hc hN hy hyl hsw (hi W tk) ok hg
    (fun s H C cl fp => (ht s H C cl fp _ takes0).imp fun σ H Q ⟨Z, ρ, st, s, q⟩ => ⟨Z, ρ, st, sta_blk s, q⟩) (fun s H C cl fp => (he s H C cl fp _ takes0).imp fun σ H Q ⟨Z, ρ, st, s, q⟩ => ⟨Z, ρ, st, sta_blk s, q⟩) hs).imp fun D σ H ⟨Z, ρ, st, s, q⟩ => lc_go (Q := fun v H1 => gName i v σ H1 D.nx) hv s (asg_fin s q) fun _ _ _ h => h
end
end SW
set_option Elab.async false
set_option linter.all false
set_option maxRecDepth 100000
namespace SW
open PySem PySem.Spec PyProof.Rows L2

/-! ### what leaves a frame -/
def mapO {α β : Type} (f : α → Option β) : List α → Option (List β)
  | [] => some []
  | x :: r => match f x, mapO f r with
    | some y, some ys => some (y :: ys)
    | _, _ => none
def frzV (n : Nat) (hole : Option Nat) (st : Store) : Nat → Val → Option Val
  | 0, _ => none
  | k + 1, x => if Val.bel n x then some x else match x with
    | .tup xs => (mapO (frzV n hole st k) xs).map .tup
    | .lst xs => (mapO (frzV n hole st k) xs).map .lst
    | .dct ks xs => (mapO (frzV n hole st k) xs).map (.dct ks)
    | .ins c fs xs => (mapO (frzV n hole st k) xs).map (.ins c fs)
    | .ref i => if some i = hole then none else match st[i]? with
      | some (.lst xs) => (mapO (frzV n hole st k) xs).map .lst
      | some (.dct ks xs) => (mapO (frzV n hole st k) xs).map (.dct ks)
      | some (.ins c fs xs) => (mapO (frzV n hole st k) xs).map (.ins c fs)
      | none => none
    | _ => none
def frzO (n : Nat) (hole : Option Nat) (st : Store) (k : Nat) : Ob → Option Ob
  | .lst xs => (mapO (frzV n hole st k) xs).map .lst
  | .dct ks xs => (mapO (frzV n hole st k) xs).map (.dct ks)
  | .ins c fs xs => (mapO (frzV n hole st k) xs).map (.ins c fs)
/-- the ghosts behind a frame: its objects no longer change, but one -/
def Zc.out (Z : Zc) (H : Hp) (n : Nat) (hole : Option Addr) : Zc := { Z with
  as := Z.as.take n ++ hole.toList
  Fz := fun a => if a ∈ Z.as.drop n ∧ some a ≠ hole then H a else Z.Fz a }
section
variable {Z : Zc} {H : Hp} {st : Store} {n : Nat}
theorem cut_le_out (s : SRel Z H st) (hole : Option Addr) : Zle (Z.cut n) (Z.out H n hole) :=
  ⟨rfl, rfl, fun i a h => by
    show (Z.as.take n ++ hole.toList)[i]? = some a
    have h' : (Z.as.take n)[i]? = some a := h
    rw [List.getElem?_append_left (List.getElem?_eq_some_iff.mp h').1]; exact h', fun a u e => by
    show (if _ then _ else _) = _
    have e' : Z.Fz a = some u := e
    by_cases h : a ∈ Z.as.drop n ∧ some a ≠ hole
    · rw [(s.at (List.mem_of_mem_drop h.1)).1] at e'; cases e'
    · rw [if_neg h]; exact e'⟩
theorem out_fz (s : SRel Z H st) {hole : Option Nat} {i : Nat} {a : Addr} (ha : Z.as[i]? = some a) (hn : n ≤ i) (hh : some i ≠ hole) : (Z.out H n (hole.bind fun j => Z.as[j]?)).Fz a = H a := by
  show (if _ then _ else _) = _
  rw [if_pos]
  refine ⟨?_, fun h => ?_⟩
  · have : (Z.as.drop n)[i - n]? = some a := by rw [List.getElem?_drop, Nat.add_sub_cancel' hn]; exact ha
    exact List.mem_of_getElem? this
  · cases hole with
    | none => cases h
    | some j =>
      have hj : Z.as[j]? = some a := h.symm
      have : i = j := by
        obtain ⟨h1, e1⟩ := List.getElem?_eq_some_iff.mp ha
        obtain ⟨h2, e2⟩ := List.getElem?_eq_some_iff.mp hj
        exact (List.getElem_inj s.nd).mp (e1.trans e2.symm)
      exact hh (by rw [this])
theorem mapO_rvs {f : Val → Option Val} {Z' : Zc} (h : ∀ x y v, f x = some y → RV Z x v → RV Z' y v) : ∀ {xs ys : List Val} {vs : List V}, mapO f xs = some ys → RVs Z xs vs → RVs Z' ys vs
  | [], ys, vs, e, r => by unfold mapO at e; cases e; rw [RVs.nil_iff.mp r]; exact RVs.nil
  | x :: xs, ys, vs, e, r => by
    obtain ⟨v, vs', rfl, r1, r2⟩ := RVs.cons_iff.mp r
    unfold mapO at e
    cases e1 : f x with
    | none => simp only [e1] at e; cases e
    | some y =>
      cases e2 : mapO f xs with
      | none => simp only [e1, e2] at e; cases e
      | some ys' =>
        simp only [e1, e2] at e
        cases e
        exact RVs.cons (h x y v e1 r1) (mapO_rvs h e2 r2)
theorem map_some {α β : Type} {o : Option α} {f : α → β} {y : β} (h : o.map f = some y) : ∃ x, o = some x ∧ y = f x := by
  cases o with
  | none => cases h
  | some x => exact ⟨x, rfl, (Option.some.inj h).symm⟩
theorem frzV_rv (s : SRel Z H st) {hole : Option Nat} : ∀ (k : Nat) (x y : Val) (v : V), frzV n hole st k x = some y → RV Z x v → RV (Z.out H n (hole.bind fun j => Z.as[j]?)) y v
  | 0, x, y, v, e, r => by unfold frzV at e; cases e
  | k + 1, x, y, v, e, r => by
    unfold frzV at e
    by_cases hb : Val.bel n x = true
    · rw [if_pos hb] at e
      cases e
      exact RV.mono (cut_le_out s _) _ _ (RV.cut x v r hb)
    · rw [if_neg hb] at e
      have ih := fun x y v => frzV_rv s (hole := hole) k x y v
      cases x with
      | tup xs =>
        obtain ⟨ys, e1, rfl⟩ := map_some e
        unfold RV at r ⊢
        obtain ⟨a, vs, rfl, h1, r1⟩ := r
        exact ⟨a, vs, rfl, (cut_le_out s _).Fz _ _ h1, mapO_rvs ih e1 r1⟩
      | lst xs =>
        obtain ⟨ys, e1, rfl⟩ := map_some e
        unfold RV at r ⊢
        obtain ⟨a, vs, rfl, h1, r1⟩ := r
        exact ⟨a, vs, rfl, (cut_le_out s _).Fz _ _ h1, mapO_rvs ih e1 r1⟩
      | dct ks xs =>
        obtain ⟨ys, e1, rfl⟩ := map_some e
        unfold RV at r ⊢
        obtain ⟨a, vs, rfl, h1, l1, r1⟩ := r
        exact ⟨a, vs, rfl, (cut_le_out s _).Fz _ _ h1, l1, mapO_rvs ih e1 r1⟩
      | ins c fs xs =>
        obtain ⟨ys, e1, rfl⟩ := map_some e
        unfold RV at r ⊢
        obtain ⟨a, C, dx, vs, rfl, h1, m1, l1, r1⟩ := r
        exact ⟨a, C, dx, vs, rfl, (cut_le_out s _).Fz _ _ h1, m1, l1, mapO_rvs ih e1 r1⟩
      | ref i =>
        simp only at e
        by_cases hh : some i = hole
        · rw [if_pos hh] at e; cases e
        · rw [if_neg hh] at e
          have hn : n ≤ i := by
            unfold Val.bel at hb
            simpa using hb
          cases e2 : st[i]? with
          | none => rw [e2] at e; cases e
          | some o =>
            rw [e2] at e
            obtain ⟨a, rfl, ha, ro⟩ := s.ref_at r e2
            have hz := out_fz s ha hn hh
            cases o with
            | lst xs =>
              obtain ⟨ys, e1, rfl⟩ := map_some e
              obtain ⟨vs, h1, r1⟩ := ro
              unfold RV
              exact ⟨a, vs, rfl, hz.trans h1, mapO_rvs ih e1 r1⟩
            | dct ks xs =>
              obtain ⟨ys, e1, rfl⟩ := map_some e
              obtain ⟨vs, h1, l1, r1⟩ := ro
              unfold RV
              exact ⟨a, vs, rfl, hz.trans h1, l1, mapO_rvs ih e1 r1⟩
            | ins c fs xs =>
              obtain ⟨ys, e1, rfl⟩ := map_some e
              obtain ⟨C, dx, vs, h1, m1, l1, r1⟩ := ro
              unfold RV
              exact ⟨a, C, dx, vs, rfl, hz.trans h1, m1, l1, mapO_rvs ih e1 r1⟩
      | _ => exact absurd (by unfold Val.bel; rfl) hb
theorem bel_out {o : Ob} {Z' : Zc} {a : Addr} (h : Ob.bel n o = true) (l : Zle (Z.cut n) Z') (r : RO Z H a o) : RO Z' H a o := by
  cases o with
  | lst xs => obtain ⟨vs, q, r⟩ := r; exact ⟨vs, q, RVs.mono l _ _ (RVs.cut _ _ r h)⟩
  | dct ks xs => obtain ⟨vs, q, l1, r⟩ := r; exact ⟨vs, q, l1, RVs.mono l _ _ (RVs.cut _ _ r h)⟩
  | ins c fs xs => obtain ⟨C, dx, vs, q, m, l1, r⟩ := r; exact ⟨C, dx, vs, q, by rw [l.mg]; exact m, l1, RVs.mono l _ _ (RVs.cut _ _ r h)⟩
/-- behind the frame -/
theorem out_ok {b : Nat} {Z0 : Zc} {H0 : Hp} {st0 : Store} (hb : b ≤ st0.length) (s0 : SRel Z0 H0 st0) (t : Tr st0.length Z0 H0 st0 Z H st) (s : SRel Z H st) (hole : Option Nat) (os : List Ob)
    (hos : match hole with | none => os = [] | some i => st0.length ≤ i ∧ ∃ o a, os = [o] ∧ Z.as[i]? = some a ∧ RO (Z.out H st0.length (hole.bind fun j => Z.as[j]?)) H a o) :
    Tr b Z0 H0 st0 (Z.out H st0.length (hole.bind fun j => Z.as[j]?)) H (st.take st0.length ++ os) ∧ SRel (Z.out H st0.length (hole.bind fun j => Z.as[j]?)) H (st.take st0.length ++ os) := by
  have hn : st0.length ≤ Z.as.length := by rw [s.len]; exact t.len
  have hlen : (Z.as.take st0.length).length = st0.length := by rw [List.length_take]; exact Nat.min_eq_left hn
  have hslen : (st.take st0.length).length = st0.length := by rw [List.length_take]; exact Nat.min_eq_left t.len
  -- the first ones are those of the start
  have first : Z.as.take st0.length = Z0.as := by
    refine List.ext_getElem? fun i => ?_
    by_cases hi : i < st0.length
    · rw [List.getElem?_take, if_pos hi]
      have h1 : i < Z0.as.length := by rw [s0.len]; exact hi
      have e := t.le.as i Z0.as[i] (List.getElem?_eq_getElem h1)
      rw [e, List.getElem?_eq_getElem h1]
    · rw [List.getElem?_eq_none (by rw [hlen]; omega), List.getElem?_eq_none (by rw [s0.len]; omega)]
  have notfirst : ∀ a, a ∈ Z.as.drop st0.length → a ∉ Z0.as := fun a m1 m2 => by
    rw [← first] at m2
    have nd := s.nd
    rw [← List.take_append_drop st0.length Z.as] at nd
    exact (List.nodup_append.mp nd).2.2 a m2 a m1 rfl
  have holem : ∀ a, a ∈ (hole.bind fun j => Z.as[j]?).toList → a ∈ Z.as.drop st0.length := fun a m => by
    cases hole with
    | none => cases m
    | some j =>
      have hj : Z.as[j]? = some a := by
        cases e : Z.as[j]? with
        | none => simp [e] at m
        | some a' => simp [e] at m; rw [m]
      have : (Z.as.drop st0.length)[j - st0.length]? = some a := by rw [List.getElem?_drop, Nat.add_sub_cancel' hos.1]; exact hj
      exact List.mem_of_getElem? this
  have cl := cut_le_out (n := st0.length) s (hole.bind fun j => Z.as[j]?)
  refine ⟨⟨⟨t.le.K, t.le.mg, fun i a e => ?_, fun a u e => cl.Fz a u (t.le.Fz a u e)⟩, t.keep, fun a m => ?_, fun a u e => ?_, fun c hc l i o hi e => ?_, ?_⟩, ⟨?_, ?_, fun a u e => ?_, fun i o a e1 e2 => ?_⟩⟩
  · show (Z.as.take st0.length ++ _)[i]? = some a
    rw [first, List.getElem?_append_left (List.getElem?_eq_some_iff.mp e).1]; exact e
  · have m' : a ∈ Z.as.take st0.length ++ (hole.bind fun j => Z.as[j]?).toList := m
    rcases List.mem_append.mp m' with m | m
    · exact .inl (by rw [← first]; exact m)
    · exact t.new a (List.mem_of_mem_drop (holem a m))
  · have e' : (if a ∈ Z.as.drop st0.length ∧ some a ≠ (hole.bind fun j => Z.as[j]?) then H a else Z.Fz a) = some u := e
    by_cases h : a ∈ Z.as.drop st0.length ∧ some a ≠ (hole.bind fun j => Z.as[j]?)
    · rcases t.new a (List.mem_of_mem_drop h.1) with q | q
      · exact absurd q (notfirst a h.1)
      · exact .inr q
    · rw [if_neg h] at e'; exact t.fnew a u e'
  · have hi' : i < st0.length := by omega
    rw [List.getElem?_append_left (by rw [hslen]; exact hi'), List.getElem?_take, if_pos hi'] at e
    exact t.lev c (by omega) l i o hi e
  · rw [List.length_append, hslen]; omega
  · show (Z.as.take st0.length ++ (hole.bind fun j => Z.as[j]?).toList).Nodup
    refine List.nodup_append.mpr ⟨by rw [first]; exact s0.nd, ?_, fun x hx y hy e => ?_⟩
    · cases (hole.bind fun j => Z.as[j]?) <;> simp
    · rw [first] at hx
      exact notfirst y (holem y hy) (e ▸ hx)
  · show (Z.as.take st0.length ++ (hole.bind fun j => Z.as[j]?).toList).length = _
    rw [List.length_append, List.length_append, hlen, hslen]
    cases hole with
    | none => rw [show os = [] from hos]; rfl
    | some i =>
      obtain ⟨_, o, a, rfl, ha, _⟩ := hos
      show st0.length + (Z.as[i]?).toList.length = _
      rw [ha]; rfl
  · have e' : (if a ∈ Z.as.drop st0.length ∧ some a ≠ (hole.bind fun j => Z.as[j]?) then H a else Z.Fz a) = some u := e
    by_cases h : a ∈ Z.as.drop st0.length ∧ some a ≠ (hole.bind fun j => Z.as[j]?)
    · rw [if_pos h] at e'; exact .inl e'
    · rw [if_neg h] at e'; exact s.sub a u e'
  · have e2' : (Z.as.take st0.length ++ (hole.bind fun j => Z.as[j]?).toList)[i]? = some a := e2
    by_cases hi : i < st0.length
    · rw [List.getElem?_append_left (by rw [hslen]; exact hi), List.getElem?_take, if_pos hi] at e1
      rw [List.getElem?_append_left (by rw [hlen]; exact hi), List.getElem?_take, if_pos hi] at e2'
      obtain ⟨f, r⟩ := s.own i o a e1 e2'
      refine ⟨?_, bel_out (t.lev _ (Nat.le_refl _) s0.lev i o hi e1) cl r⟩
      show (if a ∈ Z.as.drop st0.length ∧ some a ≠ (hole.bind fun j => Z.as[j]?) then H a else Z.Fz a) = none
      rw [if_neg]
      · exact f
      · rintro ⟨m, _⟩
        refine notfirst a m ?_
        rw [← first]
        exact List.mem_of_getElem? (by rw [List.getElem?_take, if_pos hi]; exact e2')
    · cases hole with
      | none =>
        rw [show os = [] from hos, List.append_nil, List.getElem?_eq_none (by rw [hslen]; omega)] at e1
        cases e1
      | some j =>
        obtain ⟨_, o', a', rfl, ha, ro⟩ := hos
        have hb2 : ((some j).bind fun j => Z.as[j]?) = some a' := ha
        rw [List.getElem?_append_right (by rw [hslen]; omega), hslen] at e1
        rw [List.getElem?_append_right (by rw [hlen]; omega), hlen, hb2] at e2'
        have hi2 : i - st0.length = 0 := by
          have := (List.getElem?_eq_some_iff.mp e1).1
          simp at this; omega
        rw [hi2] at e1 e2'
        simp at e1 e2'
        subst e1; subst e2'
        refine ⟨?_, ro⟩
        show (if a' ∈ Z.as.drop st0.length ∧ some a' ≠ ((some j).bind fun j => Z.as[j]?) then H a' else Z.Fz a') = none
        rw [hb2, if_neg (fun h => h.2 rfl)]
        exact (s.at (List.mem_of_getElem? ha)).1
end
def FRZ : Nat := 60
/-- frz: the result is frozen; else a list, dict, object of the frame that is the result stays one that changes -/
def leaveV (frz : Bool) (n : Nat) (x : Val) (st : Store) : Res Val :=
  match frz, x with
  | false, .ref i => if i < n then .ok x (st.take n) else match st[i]? with
    | some o => match frzO n (some i) st FRZ o with
      | some o' => .ok (.ref n) (st.take n ++ [o'])
      | none => .stk
    | none => .stk
  | _, _ => match frzV n none st FRZ x with
    | some y => .ok y (st.take n)
    | none => .stk
def leaveR (frz : Bool) (n : Nat) : SRes → Res Val
  | .ret x st => leaveV frz n x st
  | .nx _ st => .ok .non (st.take n)
  | .exc c fs xs _ st => match mapO (frzV n none st FRZ) xs with
    | some ys => .exc c fs ys (st.take n)
    | none => .stk
  | _ => .stk
theorem mapO_len {α β : Type} {f : α → Option β} : ∀ {xs : List α} {ys : List β}, mapO f xs = some ys → ys.length = xs.length
  | [], ys, e => by unfold mapO at e; cases e; rfl
  | x :: xs, ys, e => by
    unfold mapO at e
    cases e1 : f x with
    | none => simp only [e1] at e; cases e
    | some y =>
      cases e2 : mapO f xs with
      | none => simp only [e1, e2] at e; cases e
      | some ys' => simp only [e1, e2] at e; cases e; simp [mapO_len e2]
theorem mapO_get {α β : Type} {f : α → Option β} : ∀ {xs : List α} {ys : List β} {i : Nat} {y : β}, mapO f xs = some ys → ys[i]? = some y → ∃ x, xs[i]? = some x ∧ f x = some y
  | [], ys, i, y, e, h => by unfold mapO at e; cases e; simp at h
  | x :: xs, ys, i, y, e, h => by
    unfold mapO at e
    cases e1 : f x with
    | none => simp only [e1] at e; cases e
    | some z =>
      cases e2 : mapO f xs with
      | none => simp only [e1, e2] at e; cases e
      | some ys' =>
        simp only [e1, e2] at e; cases e
        cases i with
        | zero => simp at h; subst h; exact ⟨x, rfl, e1⟩
        | succ i => exact mapO_get (i := i) e2 (by simpa using h)
theorem leaveR_ok {frz : Bool} {E : XK} {b : Nat} {Z0 : Zc} {H0 : Hp} {st0 : Store} {r : SRes} {Q : VK} (hb : b ≤ st0.length) (s0 : SRel Z0 H0 st0) (h : Fin RV E b Z0 H0 st0 (leaveR frz st0.length r) Q) :
    FinS (fun cls d _ H => E cls d H) st0.length Z0 H0 st0 r { nx := fun _ H' => Q .non H', rt := Q } := by
  have plain : ∀ {x : Val} {st : Store}, Fin RV E b Z0 H0 st0 (match frzV st0.length none st FRZ x with | some y => Res.ok y (st.take st0.length) | none => .stk) Q →
      FinS (fun cls d _ H => E cls d H) st0.length Z0 H0 st0 (.ret x st) { nx := fun _ H' => Q .non H', rt := Q } := by
    intro x st h
    cases e : frzV st0.length none st FRZ x with
    | none => rw [e] at h; exact h.elim
    | some y =>
      rw [e] at h
      intro Z' H' v t' s' r'
      obtain ⟨t2, s2⟩ := out_ok hb s0 t' s' none [] rfl
      rw [List.append_nil] at t2 s2
      exact h _ _ v t2 s2 (frzV_rv s' FRZ x y v e r')
  cases r with
  | nx vs st =>
    intro Z' H' σ' t' s' e'
    obtain ⟨t2, s2⟩ := out_ok hb s0 t' s' none [] rfl
    rw [List.append_nil] at t2 s2
    exact h _ _ _ t2 s2 (by unfold RV; rfl)
  | exc c fs xs vs st =>
    unfold leaveR at h
    cases e : mapO (frzV st0.length none st FRZ) xs with
    | none => simp only [e] at h; exact h.elim
    | some ys =>
      simp only [e] at h
      intro Z' H' σ' cls d t' s' e' x'
      obtain ⟨t2, s2⟩ := out_ok hb s0 t' s' none [] rfl
      rw [List.append_nil] at t2 s2
      refine h _ _ cls d t2 s2 ?_
      obtain ⟨C, e1, m1, l1, q1⟩ := x'
      refine ⟨C, e1, m1, l1.trans (mapO_len e).symm, ?_⟩
      rcases q1 with q1 | ⟨dd, fx, ed, hd, nd, q⟩
      · exact .inl q1
      · refine .inr ⟨dd, fx, ed, hd, fun m => nd ?_, fun i f x hf hx => ?_⟩
        · have m' : dd ∈ Z'.as.take st0.length ++ (Option.none (α := Addr)).toList := m
          rcases List.mem_append.mp m' with m | m
          · exact List.mem_of_mem_take m
          · cases m
        · obtain ⟨x0, hx0, ex⟩ := mapO_get e hx
          obtain ⟨v, hv, rv⟩ := q i f x0 hf hx0
          exact ⟨v, hv, frzV_rv s' (hole := none) FRZ x0 x v ex rv⟩
  | ret x st =>
    unfold leaveR leaveV at h
    cases frz with
    | true => exact plain h
    | false =>
      cases x with
      | ref i =>
        simp only at h
        intro Z' H' v t' s' r'
        by_cases hi : i < st0.length
        · rw [if_pos hi] at h
          obtain ⟨t2, s2⟩ := out_ok hb s0 t' s' none [] rfl
          rw [List.append_nil] at t2 s2
          exact h _ _ v t2 s2 (RV.mono (cut_le_out s' _) _ _ (RV.cut _ _ r' (by unfold Val.bel; exact decide_eq_true hi)))
        · rw [if_neg hi] at h
          cases e : st[i]? with
          | none => rw [e] at h; exact h.elim
          | some o =>
            rw [e] at h
            simp only at h
            cases e2 : frzO st0.length (some i) st FRZ o with
            | none => rw [e2] at h; exact h.elim
            | some o' =>
              rw [e2] at h
              obtain ⟨a, rfl, ha, ro⟩ := s'.ref_at r' e
              have ih := fun x y v => frzV_rv (n := st0.length) s' (hole := some i) FRZ x y v
              have ro' : RO (Z'.out H' st0.length ((some i).bind fun j => Z'.as[j]?)) H' a o' := by
                cases o with
                | lst xs =>
                  obtain ⟨ys, e1, rfl⟩ := map_some e2
                  obtain ⟨vs, h1, r1⟩ := ro
                  exact ⟨vs, h1, mapO_rvs ih e1 r1⟩
                | dct ks xs =>
                  obtain ⟨ys, e1, rfl⟩ := map_some e2
                  obtain ⟨vs, h1, l1, r1⟩ := ro
                  exact ⟨vs, h1, l1, mapO_rvs ih e1 r1⟩
                | ins c fs xs =>
                  obtain ⟨ys, e1, rfl⟩ := map_some e2
                  obtain ⟨C, dx, vs, h1, m1, l1, r1⟩ := ro
                  exact ⟨C, dx, vs, h1, m1, l1, mapO_rvs ih e1 r1⟩
              obtain ⟨t2, s2⟩ := out_ok hb s0 t' s' (some i) [o'] ⟨by omega, o', a, rfl, ha, ro'⟩
              refine h _ _ _ t2 s2 ?_
              unfold RV
              refine ⟨a, rfl, ?_⟩
              have hb2 : ((some i).bind fun j => Z'.as[j]?) = some a := ha
              show (Z'.as.take st0.length ++ ((some i).bind fun j => Z'.as[j]?).toList)[st0.length]? = some a
              have hlen : (Z'.as.take st0.length).length = st0.length := by rw [List.length_take, s'.len]; exact Nat.min_eq_left t'.len
              rw [List.getElem?_append_right (by rw [hlen]; exact Nat.le_refl _), hlen, hb2, Nat.sub_self]
              rfl
      | _ => exact plain h
  | brk vs st => exact h.elim
  | ct vs st => exact h.elim
  | stk => exact h.elim
end SW
set_option Elab.async false
set_option linter.all false
set_option maxRecDepth 100000
namespace SW
open PySem PySem.Spec PyProof.Rows L2

/-! ### callables -/
def SpF (K : PySem.W.Frag) (mg : Str → Option Value) (n : Nat) (F : MF) : Sp := fun vs H Q E => vs.length = n ∧ ∃ Z b st xs, Zc.K Z = K ∧ Zc.mg Z = mg ∧ SRel Z H st ∧ b ≤ st.length ∧ RVs Z xs vs ∧ Fin RV E b Z H st (F xs st) Q
/-- an initializer: the frame of the making -/
def SpI (K : PySem.W.Frag) (mg : Str → Option Value) (n m : Nat) (g : Sx) : Sp := fun vs H Q E => vs.length = n ∧ ∃ Z b st xs, Zc.K Z = K ∧ Zc.mg Z = mg ∧ SRel Z H st ∧ b ≤ st.length ∧ RVs Z xs vs ∧
  FinS (fun cls d _ H => E cls d H) b Z H st (g ⟨b, xs.map some ++ List.replicate (m - xs.length) none⟩ st) { nx := fun _ H' => Q .non H', rt := Q }
def fnM (frz : Bool) (n m : Nat) (g : Sx) : MF := fun xs st => if xs.length = n then leaveR frz st.length (g ⟨st.length, xs.map some ++ List.replicate (m - xs.length) none⟩ st) else .stk
theorem REnv.start {Z : Zc} {N : List Str} {xs : List Val} {vs : List V} (r : RVs Z xs vs) (hl : vs.length ≤ N.length) : REnv Z (xs.map some ++ List.replicate (N.length - xs.length) none) (L2.start N vs) := by
  have hx := RVs.length r
  refine ⟨by unfold L2.start; simp [hx], fun i x e => ?_⟩
  by_cases hi : i < xs.length
  · rw [List.getElem?_append_left (by simpa using hi), List.getElem?_map] at e
    cases e2 : xs[i]? with
    | none => rw [e2] at e; cases e
    | some y =>
      rw [e2] at e; cases e
      obtain ⟨v, hv, rv⟩ := RVs.get r e2
      refine ⟨v, ?_, rv⟩
      unfold L2.start
      rw [List.getElem?_append_left (by rw [List.length_map, hx]; exact hi), List.getElem?_map, hv]; rfl
  · rw [List.getElem?_append_right (by simpa using Nat.le_of_not_lt hi), List.getElem?_replicate] at e
    by_cases hh : i - (xs.map some).length < N.length - xs.length
    · rw [if_pos hh] at e; cases e
    · rw [if_neg hh] at e; cases e
section
variable {P : Program} {w : World} {K : PySem.W.Frag} {mg : Str → Option Value} {base : Heap}
theorem fn_ok (frz : Bool) {x qual : Str} {params : Arguments} {body : List Stmt} {scope : Scope} {dvs : List V} {kws : List (Str × V)} {f : Addr} {fd : FuncData} {N ps : List Str} {k : Nat} {g : Sx} (F : FunD K x qual params body scope dvs kws f fd) (S : FnScope N ps scope)
    (hb : ∀ (cdv : Value) (A : Around) (outer : List Env) (s : Shared) (H : Hp) (E : XK), Room k (A.deeper (envOfC qual scope s.heap.objs.size f cdv)) → VSs (cxOf (L2.CX P w) P w K mg base N qual scope f cdv A outer s H E) body g) :
    FnOk P w K mg base (L2.CX P w) (k + 1) f fd ps (SpF K mg ps.length (fnM frz ps.length N.length g)) := by
  have hpl : ps.length ≤ N.length := by have := congrArg List.length S.pre; rw [List.length_take] at this; omega
  refine F.ok S (fun vs H Q E h => h.1) fun cdv A outer s H vs Q E hr h => ?_
  obtain ⟨hl, Z, b, st, xs, hK, hmg, sr, hbs, r, q⟩ := h
  refine ⟨_, hb cdv A outer s H E hr _ (takes_of rfl rfl rfl rfl), Z, ⟨st.length, xs.map some ++ List.replicate (N.length - xs.length) none⟩, st, ⟨hK, hmg, REnv.start r (by rw [hl]; exact hpl), sr, Nat.le_refl _⟩, ?_⟩
  unfold fnM at q
  rw [if_pos (by rw [← RVs.length r]; exact hl)] at q
  exact leaveR_ok hbs sr q
theorem init_ok {x qual : Str} {params : Arguments} {body : List Stmt} {scope : Scope} {dvs : List V} {kws : List (Str × V)} {f : Addr} {fd : FuncData} {N ps : List Str} {k : Nat} {g : Sx} (F : FunD K x qual params body scope dvs kws f fd) (S : FnScope N ps scope)
    (hb : ∀ (cdv : Value) (A : Around) (outer : List Env) (s : Shared) (H : Hp) (E : XK), Room k (A.deeper (envOfC qual scope s.heap.objs.size f cdv)) → VSs (cxOf (L2.CX P w) P w K mg base N qual scope f cdv A outer s H E) body g) :
    FnOk P w K mg base (L2.CX P w) (k + 1) f fd ps (SpI K mg ps.length N.length g) := by
  have hpl : ps.length ≤ N.length := by have := congrArg List.length S.pre; rw [List.length_take] at this; omega
  refine F.ok S (fun vs H Q E h => h.1) fun cdv A outer s H vs Q E hr h => ?_
  obtain ⟨hl, Z, b, st, xs, hK, hmg, sr, hbs, r, q⟩ := h
  exact ⟨_, hb cdv A outer s H E hr _ (takes_of rfl rfl rfl rfl), Z, ⟨b, xs.map some ++ List.replicate (N.length - xs.length) none⟩, st, ⟨hK, hmg, REnv.start r (by rw [hl]; exact hpl), sr, hbs⟩, q⟩
end
/-- a global def, at most k calls deep, n arguments -/
structure Fn (P : Program) (w : World) (K : PySem.W.Frag) (mg : Str → Option Value) (base : Heap) (x : Str) (k : Nat) (F : MF) : Prop where
  ex : ∃ (f : Addr) (fd : FuncData) (ps : List Str) (dvs : List V) (ds : List Value) (dxs : List Val) (G : MF), mg x = some (.ref f) ∧ PySem.W.keepIn K (.ref f) = true ∧ Binds K fd ps ds ∧ Vals dvs ds ∧ (∀ Z, RVs Z dxs dvs) ∧ F = (fun xs st => G (xs ++ dxs) st) ∧ (∀ xs st, xs.length ≠ ps.length → G xs st = .stk) ∧
    FnOk P w K mg base (L2.CX P w) k f fd ps (SpF K mg ps.length G)
theorem fnM_ar {frz : Bool} {n m : Nat} {g : Sx} : ∀ xs st, xs.length ≠ n → fnM frz n m g xs st = .stk := fun xs st h => by unfold fnM; rw [if_neg h]
theorem Fn.mk' {P : Program} {w : World} {K : PySem.W.Frag} {mg : Str → Option Value} {base : Heap} {x : Str} {k : Nat} {F : MF} {f : Addr} {fd : FuncData} {ps : List Str} (hm : mg x = some (.ref f)) (hk : PySem.W.keepIn K (.ref f) = true) (hb : Binds K fd ps []) (har : ∀ xs st, xs.length ≠ ps.length → F xs st = .stk)
    (h : FnOk P w K mg base (L2.CX P w) k f fd ps (SpF K mg ps.length F)) : Fn P w K mg base x k F := ⟨f, fd, ps, [], [], [], F, hm, hk, hb, .nil, fun _ => RVs.nil, by funext xs st; rw [List.append_nil], har, h⟩
theorem Fn.mono {P : Program} {w : World} {K : PySem.W.Frag} {mg : Str → Option Value} {base : Heap} {x : Str} {j k : Nat} {F : MF} (h : Fn P w K mg base x j F) (l : j ≤ k) : Fn P w K mg base x k F := by
  obtain ⟨f, fd, ps, dvs, ds, dxs, G, hm, hk, hb, hd, hz, e, har, ok⟩ := h.ex
  exact ⟨f, fd, ps, dvs, ds, dxs, G, hm, hk, hb, hd, hz, e, har, ok.mono l⟩
def xCl (F : MF) (fs : List Ex) : Ex := fun ρ st => (xsE fs ρ st).bind fun xs st1 => F xs st1
section
variable {X : Cx} {x m : Str} {k : Nat} {F : MF} {e o : Expr} {es : List Expr} {fs : List Ex} {f : Ex} {p pos apos : Pos}
theorem ve_call (h : Fn X.prog X.w X.K X.mg X.base x k F) (hr : Room k X.A) (ha : VA X (e :: es) fs) (hg : Gl X x := by rfl) (hdb : (x == ("__debug__" : Str)) = false := by decide) (he : starEach (e :: es) X.env = (false, eval e X.env) :: starEach es X.env := by rfl) (hpl : (backTo pos (starEach es X.env)).any (·.1) = false := by rfl) :
    VE X (.Call (.Name x p) (e :: es) [] pos) (xCl F fs) := fun W tk => by
  obtain ⟨f, fd, ps, dvs, ds, dxs, G, hm, hk, hb, hd, hz, rfl, har, ok⟩ := h.ex
  refine (pe_callSD (p := p) (pos := pos) (E := WE W) ok hr hg hm hk hb hd (fun σ => passAt tk σ) (ha W tk) hdb he hpl).imp fun σ H Q ⟨Z, ρ, st, s, q⟩ => ?_
  refine (TAx.bind s q).mono fun vs H1 ⟨Z1, st1, xs, s1, l1, r1, q1⟩ => ?_
  have rr := RVs.app r1 (hz Z1)
  by_cases hn : (xs ++ dxs).length = ps.length
  · exact ⟨(RVs.length rr).trans hn, Z1, ρ.base, st1, xs ++ dxs, s1.K, s1.mg, s1.rel, s1.bs, rr, q1⟩
  · have q2 : Fin RV (WE W σ) ρ.base Z1 H1 st1 (G (xs ++ dxs) st1) Q := q1
    rw [har _ st1 hn] at q2
    exact q2.elim
/-! ### methods -/
structure Me (P : Program) (w : World) (K : PySem.W.Frag) (mg : Str → Option Value) (base : Heap) (c m : Str) (k : Nat) (F : MF) : Prop where
  ex : ∃ (C f : Addr) (fd : FuncData) (ps : List Str), mg c = some (.ref C) ∧ Cls K C ∧ Meth K C m f ∧ Binds K fd ps [] ∧ (∀ xs st, xs.length ≠ ps.length → F xs st = .stk) ∧ FnOk P w K mg base (L2.CX P w) k f fd ps (SpF K mg ps.length F)
def xMeth (c m : Str) (F : MF) (f : Ex) (fs : List Ex) : Ex := fun ρ st => (f ρ st).bind fun x st1 => match insOf st1 x with
  | some (c', ks, _) => if c' = c ∧ m ∉ ks then (xsE fs ρ st1).bind fun xs st2 => F (x :: xs) st2 else .stk
  | none => .stk
def tMethW (C : Addr) (m : Str) (sp : Sp) (E : L2.St → XK) (ta : TE) (t : TA) : TE := fun σ H Q => ta σ H fun x H1 => ∃ a dx fs, x = .ref a ∧ H1 a = some (.ins C dx fs) ∧ fs.lookup m = none ∧ t σ H1 fun vs H2 => sp (x :: vs) H2 Q (E σ)
section
variable {X : Cx} {CX : CXT} {C g : Addr} {fd : FuncData} {ps : List Str} {sp : Sp} {E : L2.St → XK} {ta : TE} {t : TA}
theorem pe_methW {pl : Sem Bool} (he : PE X o ta) (c : Cls X.K C) (hm : Meth X.K C m g) (F : FnOk X.prog X.w X.K X.mg X.base CX k g fd ps sp) (hr : Room k X.A) (hb : Binds X.K fd ps []) (hx : ∀ σ, PassesAt CX X σ (E σ)) (ha : PA X (e :: es) t)
    (hst : starEach (e :: es) X.env = (false, eval e X.env) :: starEach es X.env := by rfl) (hpl : (backTo pos (starEach es X.env)).any (·.1) = false := by rfl)
    (ht : eval (.Call (.Attribute o m apos) (e :: es) [] pos) X.env = (do
      let ov ← eval o X.env
      standAt apos.atName
      let (f, first) ← holding [ov] (getMethod ov m pl)
      callWith pos f first (backTo pos (starEach (e :: es) X.env)) (backToKw pos (keywordEach [] X.env))) := by rfl) :
    PE X (.Call (.Attribute o m apos) (e :: es) [] pos) (tMethW C m sp E ta t) := by
  refine ⟨fun pins s σ H Q I h => ?_⟩
  refine PySem.W.methodCall_KW (pl := pl) (thn (he.run pins s σ H _ I h) fun u s1 ⟨x, H1, I1, rx, a, dx, fs, ex, ea, l, q⟩ => ?_) ht
  subst ex
  obtain rfl : u = Value.ref a := rx
  refine getmeth_ok I1 ea c hm l ?_
  refine PySem.W.callWith_K (first := [.ref a]) (h₀ := X.base) I.ok.mod.kin hm.kp (thn (ha.run pos pins s1 σ H1 _ I1 q) fun us s2 ⟨vs, H2, I2, r, q2⟩ => ⟨I2.kIn, ?_⟩) hst hpl
  exact run_fnS (us := .ref a :: us) (vs := .ref a :: vs) F hr hb (hx σ) I2 (.cons rfl r) q2
theorem pe_methW0 {pl : Sem Bool} (he : PE X o ta) (c : Cls X.K C) (hm : Meth X.K C m g) (F : FnOk X.prog X.w X.K X.mg X.base CX k g fd ps sp) (hr : Room k X.A) (hb : Binds X.K fd ps []) (hx : ∀ σ, PassesAt CX X σ (E σ))
    (ht : eval (.Call (.Attribute o m apos) [] [] pos) X.env = (do
      let ov ← eval o X.env
      standAt apos.atName
      let (f, first) ← holding [ov] (getMethod ov m pl)
      callWith pos f first (backTo pos (starEach [] X.env)) (backToKw pos (keywordEach [] X.env))) := by rfl) :
    PE X (.Call (.Attribute o m apos) [] [] pos) (tMethW C m sp E ta tNil) := by
  refine ⟨fun pins s σ H Q I h => ?_⟩
  refine PySem.W.methodCall_KW (pl := pl) (thn (he.run pins s σ H _ I h) fun u s1 ⟨x, H1, I1, rx, a, dx, fs, ex, ea, l, q⟩ => ?_) ht
  subst ex
  obtain rfl : u = Value.ref a := rx
  refine getmeth_ok I1 ea c hm l ?_
  exact PySem.W.callWith_K0 (first := [.ref a]) I1.kIn hm.kp (run_fnS (us := [.ref a]) (vs := [.ref a]) F hr hb (hx σ) I1 (.cons rfl .nil) q)
end
theorem zip_lookup {m : Str} : ∀ {ks : List Str} {vs : List V}, m ∉ ks → (ks.zip vs).lookup m = none
  | [], vs, h => rfl
  | k :: ks, [], h => rfl
  | k :: ks, v :: vs, h => by
    have h1 : m ≠ k := fun z => h (z ▸ List.mem_cons_self)
    show List.lookup m ((k, v) :: ks.zip vs) = none
    rw [List.lookup_cons, show (m == k) = false from by simpa using h1]
    exact zip_lookup fun z => h (List.mem_cons_of_mem _ z)
theorem meth_go {W : WX} {c : Str} {C : Addr} {ta : TA} {σ : L2.St} {H : Hp} {Q : VK} {n : Nat} (hC : X.mg c = some (.ref C)) (har : ∀ xs st, xs.length ≠ n → F xs st = .stk) (tok : ∀ σ H Q, TAx X W fs σ H Q → ta σ H Q) {Z : Zc} {ρ : En} {st : Store} (s : Sta X Z ρ st σ H) (q : Fin RV (WE W σ) ρ.base Z H st (xMeth c m F f fs ρ st) Q) :
    tMethW C m (SpF X.K X.mg n F) (WE W) (TEx X W f) ta σ H Q := by
  refine (TEx.bind s q).mono fun v H1 ⟨Z1, st1, x, s1, l1, r1, q1⟩ => ?_
  cases e : insOf st1 x with
  | none => rw [e] at q1; exact q1.elim
  | some p =>
    obtain ⟨c', ks, xs0⟩ := p
    rw [e] at q1
    simp only at q1
    by_cases hc : c' = c ∧ m ∉ ks
    · rw [if_pos hc] at q1
      obtain ⟨rfl, hm⟩ := hc
      obtain ⟨a, C', dx, vs0, rfl, ha, hmg, _, _⟩ := ins_at s1.rel r1 e
      rw [s1.mg, hC] at hmg
      cases hmg
      refine ⟨a, dx, _, rfl, ha, zip_lookup hm, tok _ _ _ ((TAx.bind s1 q1).mono fun vs H2 ⟨Z2, st2, xs, s2, l2, r2, q2⟩ => ?_)⟩
      have rr := RVs.cons (RV.mono l2 _ _ r1) r2
      by_cases hn : (x :: xs).length = n
      · exact ⟨(RVs.length rr).trans hn, Z2, ρ.base, st2, x :: xs, s2.K, s2.mg, s2.rel, s2.bs, rr, q2⟩
      · rw [har _ st2 hn] at q2; exact q2.elim
    · rw [if_neg hc] at q1; exact q1.elim
theorem ve_meth {c : Str} {pl : Sem Bool} (h : Me X.prog X.w X.K X.mg X.base c m k F) (hr : Room k X.A) (he : VE X o f) (ha : VA X (e :: es) fs) (hst : starEach (e :: es) X.env = (false, eval e X.env) :: starEach es X.env := by rfl) (hpl : (backTo pos (starEach es X.env)).any (·.1) = false := by rfl)
    (ht : eval (.Call (.Attribute o m apos) (e :: es) [] pos) X.env = (do
      let ov ← eval o X.env
      standAt apos.atName
      let (f, first) ← holding [ov] (getMethod ov m pl)
      callWith pos f first (backTo pos (starEach (e :: es) X.env)) (backToKw pos (keywordEach [] X.env))) := by rfl) : VE X (.Call (.Attribute o m apos) (e :: es) [] pos) (xMeth c m F f fs) := fun W tk => by
  obtain ⟨C, g, fd, ps, hC, cl, me, hb, har, ok⟩ := h.ex
  exact (pe_methW (pl := pl) (pos := pos) (apos := apos) (E := WE W) (he W tk) cl me ok hr hb (fun σ => passAt tk σ) (ha W tk) hst hpl ht).imp fun σ H Q ⟨Z, ρ, st, s, q⟩ => meth_go hC har (fun _ _ _ z => z) s q
theorem ve_meth0 {c : Str} {pl : Sem Bool} (h : Me X.prog X.w X.K X.mg X.base c m k F) (hr : Room k X.A) (he : VE X o f)
    (ht : eval (.Call (.Attribute o m apos) [] [] pos) X.env = (do
      let ov ← eval o X.env
      standAt apos.atName
      let (f, first) ← holding [ov] (getMethod ov m pl)
      callWith pos f first (backTo pos (starEach [] X.env)) (backToKw pos (keywordEach [] X.env))) := by rfl) : VE X (.Call (.Attribute o m apos) [] [] pos) (xMeth c m F f []) := fun W tk => by
  obtain ⟨C, g, fd, ps, hC, cl, me, hb, har, ok⟩ := h.ex
  exact (pe_methW0 (pl := pl) (pos := pos) (apos := apos) (E := WE W) (he W tk) cl me ok hr hb (fun σ => passAt tk σ) ht).imp fun σ H Q ⟨Z, ρ, st, s, q⟩ => meth_go hC har (fun σ H Q ⟨Z, ρ, st, s, q⟩ => Fin.ok q s.rel RVs.nil) s q
/-! ### making -/
structure Mks (P : Program) (w : World) (K : PySem.W.Frag) (mg : Str → Option Value) (base : Heap) (c : Str) (k : Nat) (n m : Nat) (g : Sx) : Prop where
  ex : ∃ (C f : Addr) (fd : FuncData) (ps : List Str), mg c = some (.ref C) ∧ Mk K C f ∧ Binds K fd ps [] ∧ ps.length = n ∧ FnOk P w K mg base (L2.CX P w) k f fd ps (SpI K mg n m g)
def initR (n : Nat) : SRes → SRes
  | .nx _ st => .ret (.ref n) st
  | .ret .non st => .ret (.ref n) st
  | .exc c fs xs vs st => .exc c fs xs vs st
  | _ => .stk
def mkM (frz : Bool) (c : Str) (n m : Nat) (g : Sx) : MF := fun xs st => if xs.length + 1 = n then leaveR frz st.length (initR st.length (g ⟨st.length, (Val.ref st.length :: xs).map some ++ List.replicate (m - (xs.length + 1)) none⟩ (st ++ [.ins c [] []]))) else .stk
def tMakeW (C : Addr) (sp : Sp) (E : L2.St → XK) (t : TA) : TE := fun σ H Q => t σ H fun vs H1 => ∀ x dx, H1 x = none → H1 dx = none → dx ≠ x →
  sp (.ref x :: vs) (upd (upd H1 dx (.own x)) x (.ins C dx [])) (fun v H2 => v = .non ∧ Q (.ref x) H2) (E σ)
theorem run_makeW {CX : CXT} {C f : Addr} {fd : FuncData} {ps : List Str} {sp : Sp} {pins : List (Addr × Obj)} {σ : L2.St} {H : Hp} {s : Shared} {Q : VK} {us : List Value} {vs : List V} {E : XK} (M : Mk X.K C f) (F : FnOk X.prog X.w X.K X.mg X.base CX k f fd ps sp) (hr : Room (k + 1) X.A) (hb : Binds X.K fd ps [])
    (hx : PassesAt CX X σ E) (I : Inv X pins σ H s) (r : Vals vs us)
    (h : ∀ x dx, H x = none → H dx = none → dx ≠ x → sp (.ref x :: vs) (upd (upd H dx (.own x)) x (.ins C dx [])) (fun v H2 => v = .non ∧ Q (.ref x) H2) E) :
    wpAny (model X.prog X.w) X.A (call (.ref C) us) (EP X pins σ Q) X.xe s := by
  have hq := h (s.heap.objs.size + 1) s.heap.objs.size (I.hok.fresh (Nat.le_succ _)) (I.hok.fresh (Nat.le_refl _)) (Nat.ne_of_lt (Nat.lt_succ_self _))
  have I2 := Inv.made (C := C) I
  have r2 : Vals (V.ref (s.heap.objs.size + 1) :: vs) (Value.ref (s.heap.objs.size + 1) :: us) := .cons rfl r
  have hl : (Value.ref (s.heap.objs.size + 1) :: us).length = ps.length := by
    have e := r2.length
    rw [F.len _ _ _ _ hq] at e
    exact e.symm
  have hb2 := hb _ (Value.ref (s.heap.objs.size + 1) :: us) I2.kIn (by rw [List.append_nil]; exact hl)
  rw [List.append_nil] at hb2
  refine wpAny_call (make_map (f := f) I.kIn M.makes M.init (beq_iff_eq.mp M.fn) (codeAny_mono (F.run _ X.stack _ _ ⟨Value.ref (s.heap.objs.size + 1) :: us, []⟩ (Value.ref (s.heap.objs.size + 1) :: us) _ _ E (hr.make C us [])
    (I2.env0.make C us []) hb2 r2 hq) fun r s' hq' => ?_))
  cases r with
  | error e => exact hx pins _ _ e s' I2 hq'
  | ok fl =>
    cases fl with
    | ret u =>
      obtain ⟨v, H', I3, rv, ev, q3⟩ := I2.after hq'
      subst ev
      exact ⟨rv, ⟨V.ref (s.heap.objs.size + 1), H', I3, rfl, q3⟩⟩
    | next => exact False.elim hq'
    | brk => exact False.elim hq'
    | cont => exact False.elim hq'
theorem pe_makeW {CX : CXT} {C f : Addr} {fd : FuncData} {ps : List Str} {sp : Sp} {E : L2.St → XK} {t : TA} (M : Mk X.K C f) (F : FnOk X.prog X.w X.K X.mg X.base CX k f fd ps sp) (hr : Room (k + 1) X.A) (hg : Gl X x) (hm : X.mg x = some (.ref C)) (hb : Binds X.K fd ps []) (hx : ∀ σ, PassesAt CX X σ (E σ))
    (ha : PA X (e :: es) t) (hdb : (x == ("__debug__" : Str)) = false := by decide) (he : starEach (e :: es) X.env = (false, eval e X.env) :: starEach es X.env := by rfl) (hpl : (backTo pos (starEach es X.env)).any (·.1) = false := by rfl) :
    PE X (.Call (.Name x p) (e :: es) [] pos) (tMakeW C sp E t) := by
  refine ⟨fun pins s σ H Q I h => ?_⟩
  refine wpAny_Call_Name_kw (ld_glob I hg hm ?_ hdb)
  refine PySem.W.callWith_K (h₀ := X.base) I.ok.mod.kin M.kp (thn (ha.run pos pins s σ H _ I h) fun us s1 ⟨vs, H1, I1, r, q⟩ => ⟨I1.kIn, ?_⟩) he hpl
  exact run_makeW M F hr hb (hx σ) I1 r q
theorem ve_mk (frz : Bool) {n m : Nat} {g : Sx} (h : Mks X.prog X.w X.K X.mg X.base x k n m g) (hr : Room (k + 1) X.A) (ha : VA X (e :: es) fs) (hg : Gl X x := by rfl) (hdb : (x == ("__debug__" : Str)) = false := by decide) (he : starEach (e :: es) X.env = (false, eval e X.env) :: starEach es X.env := by rfl) (hpl : (backTo pos (starEach es X.env)).any (·.1) = false := by rfl) :
    VE X (.Call (.Name x p) (e :: es) [] pos) (xCl (mkM frz x n m g) fs) := fun W tk => by
  obtain ⟨C, f, fd, ps, hC, M, hb, hn, ok⟩ := h.ex
  refine (pe_makeW (p := p) (pos := pos) (E := WE W) M ok hr hg hC hb (fun σ => passAt tk σ) (ha W tk) hdb he hpl).imp fun σ H Q ⟨Z, ρ, st, s, q⟩ => ?_
  refine (TAx.bind s q).mono fun vs H1 ⟨Z1, st1, xs, s1, l1, r1, q1⟩ => ?_
  intro a dx na nd hne
  unfold mkM at q1
  by_cases hl : xs.length + 1 = n
  · rw [if_pos hl] at q1
    have le : Zle Z1 { Z1 with as := Z1.as ++ [a] } := ⟨rfl, rfl, fun i a' h => by
      show (Z1.as ++ [a])[i]? = some a'
      rw [List.getElem?_append_left (List.getElem?_eq_some_iff.mp h).1]; exact h, fun _ _ h => h⟩
    obtain ⟨t2, s2⟩ := al_ow (b := st1.length) (H' := upd (upd H1 dx (.own a)) a (.ins C dx [])) (o := .ins x [] []) s1.rel na (Nat.le_refl _) (fun b hb hb2 => by
      rw [upd_ne hb, upd_ne (show b ≠ dx from fun h => hb2 (by rw [h]; exact nd))]) ⟨C, dx, [], upd_same, by show Z1.mg x = _; rw [s1.mg]; exact hC, rfl, RVs.nil⟩
    have ra : RV { Z1 with as := Z1.as ++ [a] } (.ref st1.length) (.ref a) := by
      unfold RV
      exact ⟨a, rfl, by show (Z1.as ++ [a])[st1.length]? = some a; rw [← s1.rel.len]; simp⟩
    have rr := RVs.cons ra (RVs.mono le _ _ r1)
    refine ⟨(RVs.length rr).trans hl, { Z1 with as := Z1.as ++ [a] }, st1.length, st1 ++ [.ins x [] []], Val.ref st1.length :: xs, s1.K, s1.mg, s2, by simp, rr, ?_⟩
    have q2 := FinS.shift t2 s2 (leaveR_ok s1.bs s1.rel q1)
    show FinS _ _ _ _ _ (g ⟨st1.length, (Val.ref st1.length :: xs).map some ++ List.replicate (m - (xs.length + 1)) none⟩ (st1 ++ [.ins x [] []])) _
    cases e2 : g ⟨st1.length, (Val.ref st1.length :: xs).map some ++ List.replicate (m - (xs.length + 1)) none⟩ (st1 ++ [.ins x [] []]) with
    | nx vs st' =>
      rw [e2] at q2
      exact fun Z' H' σ' t' s' e' => ⟨rfl, q2 Z' H' _ t' s' (RV.mono t'.le _ _ ra)⟩
    | ret v st' =>
      rw [e2] at q2
      cases v with
      | non =>
        intro Z' H' v t' s' r'
        refine ⟨by unfold RV at r'; exact r', q2 Z' H' _ t' s' (RV.mono t'.le _ _ ra)⟩
      | _ => exact q2.elim
    | exc c fs xs vs st' => rw [e2] at q2; exact q2
    | brk vs st' => rw [e2] at q2; exact q2.elim
    | ct vs st' => rw [e2] at q2; exact q2.elim
    | stk => rw [e2] at q2; exact q2.elim
  · rw [if_neg hl] at q1; exact q1.elim
end
end SW
set_option Elab.async false
set_option linter.all false
set_option maxRecDepth 100000
namespace SW
open PySem PySem.Spec PyProof.Rows L2

/-! ### isinstance -/
def tyO : Option Ob → Option String
  | some (.lst _) => some "list"
  | some (.dct _ _) => some "dict"
  | _ => none
def tyN (st : Store) : Val → Option String
  | .non => some "NoneType" | .bl _ => some "bool" | .int _ => some "int" | .str _ => some "str" | .tup _ => some "tuple" | .lst _ => some "list" | .dct _ _ => some "dict" | .scr _ => some "list"
  | .ins _ _ _ => none
  | .ref i => tyO st[i]?
def isSub (t n : String) : Bool := t == n || (t == "bool" && n == "int")
def tys7 : List String := ["NoneType", "bool", "int", "str", "tuple", "list", "dict"]
def tys6 : List String := ["bool", "int", "str", "tuple", "list", "dict"]
theorem kit_tab : ∀ t ∈ tys7, ∀ n ∈ tys6, kitB t n = some (isSub t n) := by decide +kernel
theorem tyN_mem {st : Store} {x : Val} {t : String} (h : tyN st x = some t) : t ∈ tys7 := by
  cases x with
  | ref i =>
    have h' : tyO st[i]? = some t := h
    cases e : st[i]? with
    | none => rw [e] at h'; cases h'
    | some o => rw [e] at h'; cases o <;> cases h' <;> decide
  | ins c fs vs => cases h
  | _ => cases h; decide
/-- what an own class answers -/
structure OwnC (K : PySem.W.Frag) (C : Addr) : Prop where
  cl : Cls K C
  ha : PySem.W.findIn K (.ref C) "__class__" = some (some (.builtin "object.__class__"))
  hn : PySem.W.specialIn K (.builtin "object.__class__") "__get__" = some (some (.builtin "getset_descriptor.__get__"))
  htk : PySem.W.takesIn K (.builtin "object.__class__") = some true
  hm : PySem.W.mroIn K C (.type "object") = some true
  no : ∀ T ∈ tys6, PySem.W.kitOne K (.ref C) (.type T) = some false
def Owns (K : PySem.W.Frag) (mg : Str → Option Value) (cs : List Str) : Prop := ∀ c ∈ cs, ∀ C, mg c = some (.ref C) → OwnC K C
section
variable {X : Cx} {Z : Zc} {H : Hp} {st : Store} {b : Nat} {x : Val} {v : V}
theorem tyN_ok (s : Sz X b Z st H) (r : RV Z x v) {t : String} (h : tyN st x = some t) : TyX X.K H v (.type t) := by
  cases x with
  | non => cases h; unfold RV at r; subst r; exact .base .non
  | bl b => cases h; unfold RV at r; subst r; exact .base (.bl _)
  | int b => cases h; unfold RV at r; subst r; exact .base (.int _)
  | str b => cases h; unfold RV at r; subst r; exact .base (.str _)
  | tup xs =>
    cases h
    obtain ⟨a, vs, rfl, h1, _⟩ := tup_at s.rel r
    exact .base (.tup h1)
  | lst xs =>
    cases h
    obtain ⟨a, vs, rfl, h1, _⟩ := lst_at s.rel r rfl
    exact .base (.lst h1)
  | dct ks xs =>
    cases h
    obtain ⟨a, vs, rfl, h1, _⟩ := dct_at s.rel r rfl
    rcases h1 with h1 | ⟨o, h1⟩
    · exact .base (.dK h1)
    · exact .fDict h1
  | scr ns =>
    cases h
    obtain ⟨a, rfl, h1⟩ := scr_at s r
    rcases h1 with (h1 | ⟨o, h1⟩) | ⟨o, its, n, h1, h2, _⟩
    · exact .base (.lst h1)
    · exact .base (.frz h1)
    · exact .kList h1 h2
  | ins c fs vs => cases h
  | ref i =>
    have h' : tyO st[i]? = some t := h
    cases e : st[i]? with
    | none => rw [e] at h'; cases h'
    | some o =>
      rw [e] at h'
      obtain ⟨a, rfl, _, ro⟩ := s.rel.ref_at r e
      cases o with
      | lst xs => cases h'; obtain ⟨vs, h1, _⟩ := ro; exact .base (.lst h1)
      | dct ks xs => cases h'; obtain ⟨vs, h1, _⟩ := ro; exact .base (.dK h1)
      | ins c fs xs => cases h'
theorem ins_ty {cs : List Str} (s : Sz X b Z st H) (hI : Owns X.K X.mg cs) (r : RV Z x v) {c : Str} {fs : List Str} {xs : List Val} (e : insOf st x = some (c, fs, xs)) (hc : c ∈ cs) : ∃ C, X.mg c = some (.ref C) ∧ OwnC X.K C ∧ TyX X.K H v (.ref C) := by
  obtain ⟨a, C, dx, vs, rfl, h1, h2, _⟩ := ins_at s.rel r e
  rw [s.mg] at h2
  have o := hI c hc C h2
  exact ⟨C, h2, o, .base (.ins h1 o.cl o.ha o.hn o.htk o.hm)⟩
def isiR (cs : List Str) (Ts : List String) (x : Val) (st : Store) : Res Val := match tyN st x with
  | some t => .ok (.bl (Ts.any (isSub t))) st
  | none => match insOf st x with
    | some (c, _, _) => if c ∈ cs then .ok (.bl false) st else .stk
    | none => .stk
theorem kitAny_ty {K : PySem.W.Frag} {t : Value} {f : String → Bool} : ∀ (Ts : List String), (∀ T ∈ Ts, PySem.W.kitOne K t (.type T) = some (f T)) → PySem.W.kitAny K t (Ts.map Value.type) = some (Ts.any f)
  | [], _ => kitAny_nil
  | T :: Ts, h => by
    have h1 := h T List.mem_cons_self
    have h2 := kitAny_ty Ts fun T hT => h T (List.mem_cons_of_mem _ hT)
    rw [List.map_cons, List.any_cons]
    refine kitAny_cons h1 (fun hb => ?_) fun hb => ?_
    · rw [h2, hb]; rfl
    · rw [hb]; rfl
theorem isi_ok {cs : List Str} {Ts : List String} (hT : ∀ T ∈ Ts, T ∈ tys6) (hI : Owns X.K X.mg cs) {E : XK} {Q : VK} (s : Sz X b Z st H) (r : RV Z x v) (h : Fin RV E b Z H st (isiR cs Ts x st) Q) :
    ∃ t k, TyX X.K H v t ∧ PySem.W.kitAny X.K t (Ts.map Value.type) = some k ∧ (∀ T, Ts = [T] → PySem.W.kitOne X.K t (.type T) = some k) ∧ Q (.bl k) H ∧ Fin RV E b Z H st (.ok (.bl k) st) Q := by
  unfold isiR at h
  cases e : tyN st x with
  | some t =>
    rw [e] at h
    have hm := tyN_mem e
    have k1 : ∀ T ∈ Ts, PySem.W.kitOne X.K (.type t) (.type T) = some (isSub t T) := fun T hT' => kit_ty (kit_tab t hm T (hT T hT'))
    refine ⟨.type t, Ts.any (isSub t), tyN_ok s r e, kitAny_ty Ts k1, fun T hT' => ?_, Fin.ok h s.rel (by unfold RV; rfl), h⟩
    subst hT'
    rw [k1 T List.mem_cons_self]; simp
  | none =>
    rw [e] at h
    simp only at h
    cases e2 : insOf st x with
    | none => rw [e2] at h; exact h.elim
    | some p =>
      obtain ⟨c, fs, xs⟩ := p
      rw [e2] at h
      simp only at h
      by_cases hc : c ∈ cs
      · rw [if_pos hc] at h
        obtain ⟨C, hC, o, ty⟩ := ins_ty s hI r e2 hc
        have k1 : ∀ T ∈ Ts, PySem.W.kitOne X.K (.ref C) (.type T) = some false := fun T hT' => o.no T (hT T hT')
        refine ⟨.ref C, false, ty, ?_, fun T hT' => ?_, Fin.ok h s.rel (by unfold RV; rfl), h⟩
        · have := kitAny_ty (f := fun _ => false) Ts k1
          rw [this]; simp
        · subst hT'; exact k1 T List.mem_cons_self
      · rw [if_neg hc] at h; exact h.elim
variable {e : Expr} {f : Ex} {p pos p2 : Pos} {T T2 : String} {nT nT2 : Str}
def xIsi (cs : List Str) (Ts : List String) (f : Ex) : Ex := fun ρ st => (f ρ st).bind fun x st1 => isiR cs Ts x st1
theorem pe_tyn (hm : X.mg nT = none) (hv : bootBuiltins nT = some (.type T)) (hg : Gl X nT := by rfl) (hn : nT ≠ "__name__" := by decide) (hd : (nT == ("__debug__" : Str)) = false := by decide) : PE X (.Name nT pos) (tC (.ty T)) := pe_bltn hg hm hv rfl hn hd
theorem ve_isi1 {cs : List Str} (hm0 : X.mg "isinstance" = none) (hI : Owns X.K X.mg cs) (he : VE X e f) (hm : X.mg nT = none) (hv : bootBuiltins nT = some (.type T)) (hT : T ∈ tys6 := by decide) (hg0 : Gl X "isinstance" := by rfl) (hg : Gl X nT := by rfl) (hn : nT ≠ "__name__" := by decide) (hd : (nT == ("__debug__" : Str)) = false := by decide)
    (h1 : starEach [e, .Name nT p2] X.env = (false, eval e X.env) :: starEach [.Name nT p2] X.env := by rfl) (h2 : starEach [.Name nT p2] X.env = (false, eval (.Name nT p2) X.env) :: starEach [] X.env := by rfl) (hpl : (backTo pos (starEach [.Name nT p2] X.env)).any (·.1) = false := by rfl) :
    VE X (.Call (.Name "isinstance" p) [e, .Name nT p2] [] pos) (xIsi cs [T] f) := fun W tk =>
  (pe_callB (p := p) (pos := pos) call_isi hg0 hm0 PyProof.Rows.boot_isinstance (pa_cons (he W tk) (pa_cons (pe_tyn (pos := p2) hm hv hg hn hd) pa_nil h2) h1) (by decide) (by decide) h1 hpl).imp fun σ H Q ⟨Z, ρ, st, s, q⟩ =>
  (TEx.bind s q).mono fun v H1 ⟨Z1, st1, x, s1, l1, r1, q1⟩ => by
    obtain ⟨t, k, ty, _, k1, q2, _⟩ := isi_ok (fun T' hT' => by rw [List.mem_singleton.mp hT']; exact hT) hI s1.sz r1 q1
    exact ⟨v, .ty T, t, .type T, k, rfl, .ty T, ty, k1 T rfl, q2⟩
theorem ve_isi2 {cs : List Str} {kk : Nat} {p3 p4 : Pos} (hm0 : X.mg "isinstance" = none) (hI : Owns X.K X.mg cs) (he : VE X e f) (hm : X.mg nT = none) (hv : bootBuiltins nT = some (.type T)) (hm2 : X.mg nT2 = none) (hv2 : bootBuiltins nT2 = some (.type T2)) (hT : T ∈ tys6 := by decide) (hT2 : T2 ∈ tys6 := by decide) (hg0 : Gl X "isinstance" := by rfl)
    (hg : Gl X nT := by rfl) (hn : nT ≠ "__name__" := by decide) (hd : (nT == ("__debug__" : Str)) = false := by decide) (hg2 : Gl X nT2 := by rfl) (hn2 : nT2 ≠ "__name__" := by decide) (hd2 : (nT2 == ("__debug__" : Str)) = false := by decide)
    (h1 : starEach [e, .Tuple [.Name nT p2, .Name nT2 p3] kk p4] X.env = (false, eval e X.env) :: starEach [.Tuple [.Name nT p2, .Name nT2 p3] kk p4] X.env := by rfl) (h2 : starEach [.Tuple [.Name nT p2, .Name nT2 p3] kk p4] X.env = (false, eval (.Tuple [.Name nT p2, .Name nT2 p3] kk p4) X.env) :: starEach [] X.env := by rfl)
    (h3 : starEach [.Name nT p2, .Name nT2 p3] X.env = (false, eval (.Name nT p2) X.env) :: starEach [.Name nT2 p3] X.env := by rfl) (h4 : starEach [.Name nT2 p3] X.env = (false, eval (.Name nT2 p3) X.env) :: starEach [] X.env := by rfl)
    (hpl : (backTo pos (starEach [.Tuple [.Name nT p2, .Name nT2 p3] kk p4] X.env)).any (·.1) = false := by rfl) :
    VE X (.Call (.Name "isinstance" p) [e, .Tuple [.Name nT p2, .Name nT2 p3] kk p4] [] pos) (xIsi cs [T, T2] f) := fun W tk =>
  (pe_callB (p := p) (pos := pos) call_isiT hg0 hm0 PyProof.Rows.boot_isinstance (pa_cons (he W tk) (pa_cons (pe_tup (x1 := kk) (pos := p4) (pa_cons (pe_tyn (pos := p2) hm hv hg hn hd) (pa_cons (pe_tyn (pos := p3) hm2 hv2 hg2 hn2 hd2) pa_nil h4) h3)) pa_nil h2) h1) (by decide) (by decide) h1 hpl).imp fun σ H Q ⟨Z, ρ, st, s, q⟩ =>
  (TEx.bind s q).mono fun v H1 ⟨Z1, st1, x, s1, l1, r1, q1⟩ => by
    refine ⟨by rw [sizeLine_eq]; exact (by decide : 2 ≤ 16777216), fun a na => ?_⟩
    obtain ⟨t2, s2⟩ := al_fz (b := ρ.base) (u := .tup [V.ty T, V.ty T2]) s1.rel na
    have s3 : Sz X ρ.base { Z1 with Fz := upd Z1.Fz a (.tup [V.ty T, V.ty T2]) } st1 (upd H1 a (.tup [V.ty T, V.ty T2])) := ⟨s1.K, s1.mg, s2, s1.bs⟩
    obtain ⟨t, k, ty, k1, _, q2, _⟩ := isi_ok (fun T' hT' => by
      rcases List.mem_cons.mp hT' with h | h
      · rw [h]; exact hT
      · rw [List.mem_singleton.mp h]; exact hT2) hI s3 (RV.mono t2.le _ _ r1) (Fin.shift t2 s2 q1)
    exact ⟨v, a, [.ty T, .ty T2], t, [.type T, .type T2], k, rfl, upd_same, .cons (.ty T) (.cons (.ty T2) .nil), ty, k1, q2⟩
/-- against an own class -/
def isoR (cs : List Str) (c : Str) (x : Val) (st : Store) : Res Val := match tyN st x with
  | some _ => .ok (.bl false) st
  | none => match insOf st x with
    | some (c', _, _) => if c' ∈ cs then .ok (.bl (decide (c' = c))) st else .stk
    | none => .stk
def xIso (cs : List Str) (c : Str) (f : Ex) : Ex := fun ρ st => (f ρ st).bind fun x st1 => isoR cs c x st1
/-- the classes' answers among themselves and to the built-in ones -/
def OwnK (K : PySem.W.Frag) (mg : Str → Option Value) (cs : List Str) (c : Str) : Prop := ∀ C, mg c = some (.ref C) → (∀ t ∈ tys7, PySem.W.kitOne K (.type t) (.ref C) = some false) ∧ ∀ c' ∈ cs, ∀ C', mg c' = some (.ref C') → PySem.W.kitOne K (.ref C') (.ref C) = some (decide (c' = c))
theorem ve_iso {cs : List Str} {c : Str} {C : Addr} (hm0 : X.mg "isinstance" = none) (hI : Owns X.K X.mg cs) (hK : OwnK X.K X.mg cs c) (hC : X.mg c = some (.ref C)) (hh : PySem.W.keepIn X.K (.ref C) = true) (he : VE X e f) (hg0 : Gl X "isinstance" := by rfl) (hg : Gl X c := by rfl) (hd : (c == ("__debug__" : Str)) = false := by decide)
    (h1 : starEach [e, .Name c p2] X.env = (false, eval e X.env) :: starEach [.Name c p2] X.env := by rfl) (h2 : starEach [.Name c p2] X.env = (false, eval (.Name c p2) X.env) :: starEach [] X.env := by rfl) (hpl : (backTo pos (starEach [.Name c p2] X.env)).any (·.1) = false := by rfl) :
    VE X (.Call (.Name "isinstance" p) [e, .Name c p2] [] pos) (xIso cs c f) := fun W tk => by
  have hc : PE X (.Name c p2) (tC (.ref C)) := pe_glob hg hC rfl hd
  refine (pe_callB (p := p) (pos := pos) call_isi hg0 hm0 PyProof.Rows.boot_isinstance (pa_cons (he W tk) (pa_cons hc pa_nil h2) h1) (by decide) (by decide) h1 hpl).imp fun σ H Q ⟨Z, ρ, st, s, q⟩ => ?_
  refine (TEx.bind s q).mono fun v H1 ⟨Z1, st1, x, s1, l1, r1, q1⟩ => ?_
  obtain ⟨k1, k2⟩ := hK C hC
  unfold isoR at q1
  cases e1 : tyN st1 x with
  | some t =>
    rw [e1] at q1
    exact ⟨v, .ref C, .type t, .ref C, false, rfl, .own C, tyN_ok s1.sz r1 e1, k1 t (tyN_mem e1), Fin.ok q1 s1.rel (by unfold RV; rfl)⟩
  | none =>
    rw [e1] at q1
    simp only at q1
    cases e2 : insOf st1 x with
    | none => rw [e2] at q1; exact q1.elim
    | some p =>
      obtain ⟨c', fs, xs⟩ := p
      rw [e2] at q1
      simp only at q1
      by_cases hc : c' ∈ cs
      · rw [if_pos hc] at q1
        obtain ⟨C', hC', o, ty⟩ := ins_ty s1.sz hI r1 e2 hc
        exact ⟨v, .ref C, .ref C', .ref C, _, rfl, .own C, ty, k2 c' hc C' hC', Fin.ok q1 s1.rel (by unfold RV; rfl)⟩
      · rw [if_neg hc] at q1; exact q1.elim
end
end SW
set_option Elab.async false
set_option linter.all false
set_option maxRecDepth 100000
namespace SW
open PySem PySem.Spec PyProof.Rows L2

/-! ### methods of the built-in types -/
abbrev OM := Nat → Val → List Val → Store → Res Val
def rMt (X : Cx) (op : OM) : V → List V → Hp → VK → Prop := fun v vs H Q => ∃ E b Z st x xs, Sz X b Z st H ∧ RV Z x v ∧ RVs Z xs vs ∧ Fin RV E b Z H st (op b x xs st) Q
def MtS (X : Cx) (id : String) (op : OM) : Prop := MtR X id (rMt X op)
def okTy (st : Store) (T : String) (x : Val) : Prop := tyN st x = some T
def xBm (T : String) (op : OM) (f : Ex) (fs : List Ex) : Ex := fun ρ st => (f ρ st).bind fun x st1 => if tyN st1 x = some T then (xsE fs ρ st1).bind fun xs st2 => op ρ.base x xs st2 else .stk
section
variable {X : Cx} {Z : Zc} {H : Hp} {st : Store} {b : Nat} {x : Val} {v : V} {T id : String} {op : OM} {o e : Expr} {es : List Expr} {f : Ex} {fs : List Ex} {name : Str} {apos cpos pos : Pos}
/-- texts, lists -/
theorem tyV_of (s : Sz X b Z st H) (r : RV Z x v) (h : tyN st x = some T) (hT : T = "str" ∨ T = "list" ∨ T = "dict") (hx : ∀ ns, x ≠ .scr ns) (hfd : ∀ ks xs, x ≠ .dct ks xs) : tyV X.K T v H := by
  cases x with
  | str z => cases h; unfold RV at r; subst r; rfl
  | lst xs =>
    cases h
    obtain ⟨a, vs, rfl, h1, _⟩ := lst_at s.rel r rfl
    exact .inl ⟨rfl, vs, SqL.of h1⟩
  | ref i =>
    have h' : tyO st[i]? = some T := h
    cases e : st[i]? with
    | none => rw [e] at h'; cases h'
    | some o =>
      rw [e] at h'
      obtain ⟨a, rfl, _, ro⟩ := s.rel.ref_at r e
      cases o with
      | lst xs => cases h'; obtain ⟨vs, h1, _⟩ := ro; exact .inl ⟨rfl, vs, SqL.of h1⟩
      | dct ks xs => cases h'; obtain ⟨vs, h1, _⟩ := ro; exact .inr (.inr (.inl ⟨rfl, .inl ⟨_, h1⟩⟩))
      | ins c fs xs => cases h'
  | scr ns => exact absurd rfl (hx ns)
  | dct ks xs => exact absurd rfl (hfd ks xs)
  | ins c fs xs => cases h
  | tup xs => cases h; rcases hT with h | h | h <;> exact absurd h (by decide)
  | non => cases h; rcases hT with h | h | h <;> exact absurd h (by decide)
  | bl _ => cases h; rcases hT with h | h | h <;> exact absurd h (by decide)
  | int _ => cases h; rcases hT with h | h | h <;> exact absurd h (by decide)
def notScr : Val → Bool
  | .scr _ => false
  | .dct _ _ => false
  | _ => true
def xBM (T : String) (op : OM) (f : Ex) (fs : List Ex) : Ex := fun ρ st => (f ρ st).bind fun x st1 => if tyN st1 x = some T ∧ notScr x = true then (xsE fs ρ st1).bind fun xs st2 => op ρ.base x xs st2 else .stk
theorem ve_bm (hm : MtS X id op) (pa : PlainAttrs T) (slot : Slot T name id) (hty : typeOf (.builtin id) = pure (.type "method_descriptor")) (ho : VE X o f) (ha : VA X (e :: es) fs) (hT : T = "str" ∨ T = "list" ∨ T = "dict" := by decide)
    (hbase : attributeBase o name X.env (eval o X.env) = eval o X.env := by rfl)
    (hfew : ((backTo cpos (starEach (e :: es) X.env)).all (fun x => !x.1) && (backToKw cpos (keywordEach [] X.env)).all (fun x => x.1.isSome)
      && decide ((e :: es).length + ([] : List Keyword).length + (if ([] : List Keyword).isEmpty then 0 else 1) < 30)) = true := by rfl)
    (hline : (apos.endLine == cpos.line) = true := by rfl) (hs : starEach (e :: es) X.env = (false, eval e X.env) :: starEach es X.env := by rfl) (hplain : (backTo cpos (starEach es X.env)).any (·.1) = false := by rfl) :
    VE X (.Call (.Attribute o name apos) (e :: es) [] cpos) (xBM T op f fs) := fun W tk => (pe_bm (apos := apos) (cpos := cpos) pa slot hty hm (ho W tk) (ha W tk) hbase hfew hline hs hplain).imp fun σ H Q ⟨Z, ρ, st, s, q⟩ =>
  (TEx.bind s q).mono fun v H1 ⟨Z1, st1, x, s1, l1, r1, q1⟩ => by
    by_cases h : tyN st1 x = some T ∧ notScr x = true
    · rw [if_pos h] at q1
      refine ⟨tyV_of s1.sz r1 h.1 hT (fun ns z => by rw [z] at h; cases h.2) (fun ks xs z => by rw [z] at h; cases h.2), (TAx.bind s1 q1).mono fun vs H2 ⟨Z2, st2, xs, s2, l2, r2, q2⟩ => ?_⟩
      exact ⟨_, _, Z2, st2, x, xs, s2.sz, RV.mono l2 _ _ r1, r2, q2⟩
    · rw [if_neg h] at q1; exact q1.elim
theorem ve_bm0 (hm : MtS X id op) (pa : PlainAttrs T) (slot : Slot T name id) (hty : typeOf (.builtin id) = pure (.type "method_descriptor")) (ho : VE X o f) (hT : T = "str" ∨ T = "list" ∨ T = "dict" := by decide)
    (hbase : attributeBase o name X.env (eval o X.env) = eval o X.env := by rfl) (hline : (apos.endLine == cpos.line) = true := by rfl) :
    VE X (.Call (.Attribute o name apos) [] [] cpos) (xBM T op f []) := fun W tk => (pe_bm0 (apos := apos) (cpos := cpos) pa slot hty hm (ho W tk) hbase hline).imp fun σ H Q ⟨Z, ρ, st, s, q⟩ =>
  (TEx.bind s q).mono fun v H1 ⟨Z1, st1, x, s1, l1, r1, q1⟩ => by
    by_cases h : tyN st1 x = some T ∧ notScr x = true
    · rw [if_pos h] at q1
      exact ⟨tyV_of s1.sz r1 h.1 hT (fun ns z => by rw [z] at h; cases h.2) (fun ks xs z => by rw [z] at h; cases h.2), _, _, Z1, st1, x, [], s1.sz, r1, RVs.nil, q1⟩
    · rw [if_neg h] at q1; exact q1.elim

/-! an owned list changes -/
def chL (b i : Nat) (o : Ob) (r : Val) (st : Store) : Res Val := if b ≤ i ∨ Ob.bel i o = true then .ok r (st.set i o) else .stk
theorem chL_ok {E : XK} {Q : VK} {i : Nat} {a : Addr} {u : HO} {o : Ob} {r : Val} {rv : V} (s : SRel Z H st) (ha : Z.as[i]? = some a) (ro : RO Z (upd H a u) a o) (rr : RV Z r rv) (h : Fin RV E b Z H st (chL b i o r st) Q) : Q rv (upd H a u) := by
  unfold chL at h
  by_cases hl : b ≤ i ∨ Ob.bel i o = true
  · rw [if_pos hl] at h
    obtain ⟨t2, s2⟩ := ob_set (u := u) s ha hl ro
    exact h Z _ rv t2 s2 rr
  · rw [if_neg hl] at h; exact h.elim
theorem rv_non : RV Z .non .non := by unfold RV; rfl
def mAppend : OM := fun b x xs st => match x, xs with
  | .ref i, [y] => (match st[i]? with
    | some (.lst ys) => if ys.length < sizeLine then chL b i (.lst (ys ++ [y])) .non st else .stk
    | _ => .stk)
  | _, _ => .stk
theorem ms_append : MtS X "list.append" mAppend := by
  intro pins s σ H v vs vv us Q I rv rvs ⟨E, b, Z, st, x, xs, sz, rx, rxs, h⟩
  unfold mAppend at h
  split at h
  · rename_i i y
    obtain ⟨u, rfl, ru⟩ := RVs.one rxs
    cases e : st[i]? with
    | none => rw [e] at h; exact h.elim
    | some o =>
      rw [e] at h
      obtain ⟨a, rfl, ha, ro⟩ := sz.rel.ref_at rx e
      cases o with
      | lst ys =>
        obtain ⟨ws, h1, r1⟩ := ro
        by_cases hl : ys.length < sizeLine
        · simp only [hl, if_true] at h
          exact mt_append pins s σ H _ _ vv us Q I rv rvs ⟨a, ws, u, rfl, rfl, h1, by rw [RVs.length r1]; exact hl, chL_ok (o := .lst (ys ++ [y])) sz.rel ha ⟨_, upd_same, RVs.app r1 (RVs.cons ru RVs.nil)⟩ rv_non h⟩
        · simp only [hl, if_false] at h; exact h.elim
      | _ => exact h.elim
  · exact h.elim
def mExtend : OM := fun b x xs st => match x, xs with
  | .ref i, [y] => (match st[i]?, lstOf st y with
    | some (.lst ys), some zs => if ys.length + zs.length ≤ sizeLine then chL b i (.lst (ys ++ zs)) .non st else .stk
    | _, _ => .stk)
  | _, _ => .stk
theorem ms_extend : MtS X "list.extend" mExtend := by
  intro pins s σ H v vs vv us Q I rv rvs ⟨E, b, Z, st, x, xs, sz, rx, rxs, h⟩
  unfold mExtend at h
  split at h
  · rename_i i y
    obtain ⟨u, rfl, ru⟩ := RVs.one rxs
    cases e : st[i]? with
    | none => rw [e] at h; exact h.elim
    | some o =>
      rw [e] at h
      obtain ⟨a, rfl, ha, ro⟩ := sz.rel.ref_at rx e
      cases o with
      | lst ys =>
        obtain ⟨ws, h1, r1⟩ := ro
        cases e3 : lstOf st y with
        | none => rw [e3] at h; exact h.elim
        | some zs =>
          rw [e3] at h
          obtain ⟨c, us2, rfl, h2, r2⟩ := lst_at sz.rel ru e3
          by_cases hl : ys.length + zs.length ≤ sizeLine
          · simp only [hl, if_true] at h
            exact mt_extend pins s σ H _ _ vv us Q I rv rvs ⟨a, c, ws, us2, rfl, rfl, h1, h2, by rw [RVs.length r1, RVs.length r2]; exact hl, chL_ok (o := .lst (ys ++ zs)) sz.rel ha ⟨_, upd_same, RVs.app r1 r2⟩ rv_non h⟩
          · simp only [hl, if_false] at h; exact h.elim
      | _ => exact h.elim
  · exact h.elim
def mPopAt : OM := fun b x xs st => match x, xs with
  | .ref i, [.int k] => (match st[i]? with
    | some (.lst ys) => if -(2 ^ 63) ≤ k ∧ k < 2 ^ 63 then (match seqIndex? k ys.length with
      | some j => (match ys[j]? with
        | some y => chL b i (.lst (ys.eraseIdx j)) y st
        | none => .stk)
      | none => .stk) else .stk
    | _ => .stk)
  | _, _ => .stk
theorem ms_popAt : MtS X "list.pop" mPopAt := by
  intro pins s σ H v vs vv us Q I rv rvs ⟨E, b, Z, st, x, xs, sz, rx, rxs, h⟩
  unfold mPopAt at h
  split at h
  · rename_i i k
    obtain ⟨u, rfl, ru⟩ := RVs.one rxs
    unfold RV at ru
    subst ru
    cases e : st[i]? with
    | none => rw [e] at h; exact h.elim
    | some o =>
      rw [e] at h
      obtain ⟨a, rfl, ha, ro⟩ := sz.rel.ref_at rx e
      cases o with
      | lst ys =>
        obtain ⟨ws, h1, r1⟩ := ro
        by_cases hk : -(2 ^ 63) ≤ k ∧ k < 2 ^ 63
        · simp only [hk, and_self, if_true] at h
          cases e3 : seqIndex? k ys.length with
          | none => simp only [e3] at h; exact h.elim
          | some j =>
            simp only [e3] at h
            cases e4 : ys[j]? with
            | none => simp only [e4] at h; exact h.elim
            | some y =>
              simp only [e4] at h
              obtain ⟨w, hw, rw'⟩ := RVs.get r1 e4
              exact mt_popAt pins s σ H _ _ vv us Q I rv rvs ⟨a, ws, k, j, w, rfl, rfl, h1, hk.1, hk.2, by rw [RVs.length r1]; exact e3, hw, chL_ok (o := .lst (ys.eraseIdx j)) sz.rel ha ⟨_, upd_same, RVs.erase j r1⟩ rw' h⟩
        · simp only [hk, if_false] at h; exact h.elim
      | _ => exact h.elim
  · exact h.elim
def mInsert : OM := fun b x xs st => match x, xs with
  | .ref i, [.int k, y] => (match st[i]? with
    | some (.lst ys) => if ys.length < sizeLine ∧ 0 ≤ k ∧ k < 2 ^ 63 then chL b i (.lst (ys.take k.toNat ++ [y] ++ ys.drop k.toNat)) .non st else .stk
    | _ => .stk)
  | _, _ => .stk
theorem ms_insert : MtS X "list.insert" mInsert := by
  intro pins s σ H v vs vv us Q I rv rvs ⟨E, b, Z, st, x, xs, sz, rx, rxs, h⟩
  unfold mInsert at h
  split at h
  · rename_i i k y
    obtain ⟨u, w, rfl, ru, rw'⟩ := RVs.two rxs
    unfold RV at ru
    subst ru
    cases e : st[i]? with
    | none => rw [e] at h; exact h.elim
    | some o =>
      rw [e] at h
      obtain ⟨a, rfl, ha, ro⟩ := sz.rel.ref_at rx e
      cases o with
      | lst ys =>
        obtain ⟨ws, h1, r1⟩ := ro
        by_cases hk : ys.length < sizeLine ∧ 0 ≤ k ∧ k < 2 ^ 63
        · simp only [hk, and_self, if_true] at h
          exact mt_insert pins s σ H _ _ vv us Q I rv rvs ⟨a, ws, k, w, rfl, rfl, h1, by rw [RVs.length r1]; exact hk.1, hk.2.1, hk.2.2, chL_ok (o := .lst (ys.take k.toNat ++ [y] ++ ys.drop k.toNat)) sz.rel ha ⟨_, upd_same, RVs.app (RVs.app (RVs.take _ r1) (RVs.cons rw' RVs.nil)) (RVs.drop _ r1)⟩ rv_non h⟩
        · simp only [hk, if_false] at h; exact h.elim
      | _ => exact h.elim
  · exact h.elim
theorem ve_append (ho : VE X o f) (ha : VE X e (fs.headD (xC .non))) (hfs : fs = [fs.headD (xC .non)] := by rfl) (hs0 : starEach [e] X.env = (false, eval e X.env) :: starEach [] X.env := by rfl) (hbase : attributeBase o "append" X.env (eval o X.env) = eval o X.env := by rfl)
    (hfew : ((backTo cpos (starEach [e] X.env)).all (fun x => !x.1) && (backToKw cpos (keywordEach [] X.env)).all (fun x => x.1.isSome)
      && decide ([e].length + ([] : List Keyword).length + (if ([] : List Keyword).isEmpty then 0 else 1) < 30)) = true := by rfl)
    (hline : (apos.endLine == cpos.line) = true := by rfl) (hplain : (backTo cpos (starEach [] X.env)).any (·.1) = false := by rfl) : VE X (.Call (.Attribute o "append" apos) [e] [] cpos) (xBM "list" mAppend f fs) :=
  ve_bm ms_append PySem.F.plainAttrs_list PySem.F.slot_list_append PySem.F.type_list_append ho (by rw [hfs]; exact va_cons ha va_nil hs0) (by decide) hbase hfew hline hs0 hplain

/-! ### o[i] = v -/
def hasK (ks : List Key) (k : Key) : Bool := ks.any fun j => decide (j = k)
def dputV (ks : List Key) (xs : List Val) (k : Key) (v : Val) : List Key × List Val := if hasK ks k = true then (ks, (ks.zip xs).map fun p => if p.1 = k then v else p.2) else (ks ++ [k], xs ++ [v])
def putS (b : Nat) (st : Store) (o i v : Val) : Option Store := match o with
  | .ref n => match st[n]? with
    | some (.lst xs) => (match i with
      | .int k => (match ixN xs.length k with
        | some j => if b ≤ n ∨ Ob.bel n (.lst (xs.set j v)) = true then some (st.set n (.lst (xs.set j v))) else none
        | none => none)
      | _ => none)
    | some (.dct ks xs) => (match keyOf i with
      | some k => if ks.length < sizeLine ∧ (b ≤ n ∨ Ob.bel n (.dct (dputV ks xs k v).1 (dputV ks xs k v).2) = true) then some (st.set n (.dct (dputV ks xs k v).1 (dputV ks xs k v).2)) else none
      | none => none)
    | _ => none
  | _ => none
theorem dput_zip {k : Key} {u : V} {z : Val} (ru : RV Z z u) : ∀ {ks : List Key} {xs : List Val} {vs : List V}, ks.length = vs.length → RVs Z xs vs →
    RVs Z ((ks.zip xs).map fun p => if p.1 = k then z else p.2) ((ks.zip vs).map fun p => if p.1 = k then u else p.2) ∧ (ks.zip vs).map (fun kv => if kv.1 = k then (kv.1, u) else kv) = ks.zip ((ks.zip vs).map fun p => if p.1 = k then u else p.2)
  | [], xs, vs, hl, r => ⟨RVs.nil, rfl⟩
  | j :: ks, xs, [], hl, r => by simp at hl
  | j :: ks, [], v :: vs, hl, r => by have := RVs.nil_iff.mp r; cases this
  | j :: ks, x :: xs, v :: vs, hl, r => by
    obtain ⟨v', vs', e, r1, r2⟩ := RVs.cons_iff.mp r
    cases e
    obtain ⟨h1, h2⟩ := dput_zip ru (by simpa using hl) r2
    refine ⟨?_, ?_⟩
    · refine RVs.cons ?_ h1
      show RV Z (if j = k then z else x) (if j = k then u else v)
      by_cases hj : j = k
      · rw [if_pos hj, if_pos hj]; exact ru
      · rw [if_neg hj, if_neg hj]; exact r1
    · show (if j = k then (j, u) else (j, v)) :: (ks.zip vs).map (fun kv => if kv.1 = k then (kv.1, u) else kv) = (j, if j = k then u else v) :: ks.zip ((ks.zip vs).map fun p => if p.1 = k then u else p.2)
      rw [h2]
      by_cases hj : j = k
      · rw [if_pos hj, if_pos hj]
      · rw [if_neg hj, if_neg hj]
theorem dput_ok {ks : List Key} {xs : List Val} {vs : List V} {k : Key} {z : Val} {u : V} (hl : ks.length = vs.length) (r : RVs Z xs vs) (ru : RV Z z u) :
    ∃ vs', putK (ks.zip vs) k u = (dputV ks xs k z).1.zip vs' ∧ (dputV ks xs k z).1.length = vs'.length ∧ RVs Z (dputV ks xs k z).2 vs' := by
  unfold putK dputV
  have hany : ∀ (ks : List Key) (vs : List V), ks.length = vs.length → ((ks.zip vs).any fun kv => decide (kv.1 = k)) = hasK ks k := by
    intro ks
    induction ks with
    | nil => intro vs _; rfl
    | cons j ks ih =>
      intro vs hl
      cases vs with
      | nil => simp at hl
      | cons v vs =>
        show (decide (j = k) || ((ks.zip vs).any fun kv => decide (kv.1 = k))) = (decide (j = k) || hasK ks k)
        rw [ih vs (by simpa using hl)]
  rw [hany ks vs hl]
  by_cases h : hasK ks k = true
  · rw [if_pos h, if_pos h]
    obtain ⟨h1, h2⟩ := dput_zip (k := k) ru hl r
    refine ⟨_, h2, ?_, h1⟩
    rw [List.length_map, List.length_zip, ← hl]; simp
  · rw [if_neg h, if_neg h]
    refine ⟨vs ++ [u], ?_, by simp [hl], RVs.app r (RVs.cons ru RVs.nil)⟩
    rw [List.zip_append hl]; rfl
def rPut (X : Cx) : TSet := fun o i v H Q => ∃ b Z st x y z st', Sz X b Z st H ∧ RV Z x o ∧ RV Z y i ∧ RV Z z v ∧ putS b st x y z = some st' ∧ ∀ H', Tr b Z H st Z H' st' → SRel Z H' st' → Q H'
theorem put_ok {k : Nat} (hr : Room k X.A) : PSet X (rPut X) := by
  intro pins s σ H o i v ov iv u Q I ro ri rv ⟨b, Z, st, x, y, z, st', sz, rx, ry, rz, e, q⟩
  unfold putS at e
  cases x with
  | ref n =>
    simp only at e
    cases e1 : st[n]? with
    | none => rw [e1] at e; cases e
    | some ob =>
      rw [e1] at e
      cases ob with
      | lst xs =>
        simp only at e
        obtain ⟨a, rfl, ha, ws, h1, r1⟩ := sz.rel.ref_at rx e1
        cases y with
        | int kk =>
          simp only at e
          unfold RV at ry
          subst ry
          cases e2 : ixN xs.length kk with
          | none => rw [e2] at e; cases e
          | some j =>
            rw [e2] at e
            simp only at e
            by_cases hb : b ≤ n ∨ Ob.bel n (.lst (xs.set j z)) = true
            · rw [if_pos hb] at e
              cases e
              obtain ⟨t2, s2⟩ := ob_set (b := b) (u := .lst (ws.set j v)) (o' := .lst (xs.set j z)) sz.rel ha hb ⟨_, upd_same, RVs.set j r1 rz⟩
              exact set_list pins s σ H _ _ v ov iv u Q I ro ri rv ⟨a, ws, kk, j, rfl, rfl, h1, by rw [RVs.length r1]; exact e2, q _ t2 s2⟩
            · rw [if_neg hb] at e; cases e
        | _ => cases e
      | dct ks xs =>
        simp only at e
        obtain ⟨a, rfl, ha, ws, h1, l1, r1⟩ := sz.rel.ref_at rx e1
        cases e2 : keyOf y with
        | none => rw [e2] at e; cases e
        | some kk =>
          rw [e2] at e
          simp only at e
          have hy := keyOf_ok ry e2
          subst hy
          by_cases hb : ks.length < sizeLine ∧ (b ≤ n ∨ Ob.bel n (.dct (dputV ks xs kk z).1 (dputV ks xs kk z).2) = true)
          · rw [if_pos hb] at e
            cases e
            obtain ⟨vs', p1, p2, p3⟩ := dput_ok (k := kk) l1 r1 rz
            obtain ⟨t2, s2⟩ := ob_set (b := b) (u := .dK (putK (ks.zip ws) kk v)) (o' := .dct (dputV ks xs kk z).1 (dputV ks xs kk z).2) sz.rel ha hb.2 ⟨vs', by rw [upd_same, p1], p2, p3⟩
            refine set_dict (hu_of hr) pins s σ H _ _ v ov iv u Q I ro ri rv ⟨a, _, rfl, DPut.k h1 ?_, q _ t2 s2⟩
            rw [zip_len l1]; exact hb.1
          · rw [if_neg hb] at e; cases e
      | ins c fs xs => cases e
  | _ => cases e
def sPut (f g h : Ex) : Sx := fun ρ st => lift ρ (h ρ st) fun z st1 => lift ρ (f ρ st1) fun x st2 => lift ρ (g ρ st2) fun y st3 => match putS ρ.base st3 x y z with
  | some st4 => .nx ρ.vs st4
  | none => .stk
theorem vs_put {k : Nat} {i value : Expr} {g h : Ex} {p1 : Pos} (hr : Room k X.A) (ho : VE X o f) (hi : VE X i g) (hv : VE X value h) (hs : swapsWithSole [.Subscript o i p1] value pos.line X.env = pure false := by rfl) (hw : swappedStores [.Subscript o i p1] value X.env = pure none := by rfl)
    (h1 : (assignEach [.Subscript o i p1] X.env).map (·.2) = [assign (.Subscript o i p1) X.env] := by rfl)
    (ha : ∀ v, assign (.Subscript o i p1) X.env v = (do
      let ov ← holding [v] (eval o X.env)
      let iv ← holding [v, ov] (eval i X.env)
      standAt p1
      holding [v, ov, iv] (setItem ov iv v)
      release [v, ov, iv] []) := by intro _; rfl) : VS X (.Assign [.Subscript o i p1] value pos) (sPut f g h) := fun W tk =>
  (ps_asg (pos := pos) (hv W tk) (pg_sub (pos := p1) (ho W tk) (hi W tk) (put_ok hr) ha) hs hw h1).imp fun D σ H ⟨Z, ρ, st, s, q⟩ => by
  refine (TEx.lift (α := Val) s q).mono fun v H1 ⟨Z1, st1, z, s1, l1, r1, q1⟩ => (TEx.lift (α := Val) s1 q1).mono fun ov H2 ⟨Z2, st2, x, s2, l2, r2, q2⟩ => (TEx.lift (α := Val) s2 q2).mono fun iv H3 ⟨Z3, st3, y, s3, l3, r3, q3⟩ => ?_
  cases e : putS ρ.base st3 x y z with
  | none => rw [e] at q3; exact q3.elim
  | some st4 =>
    rw [e] at q3
    exact ⟨ρ.base, Z3, st3, x, y, z, st4, s3.sz, RV.mono l3 _ _ r2, r3, RV.mono (l2.trans l3) _ _ r1, e, fun H' t4 s4 => q3 Z3 H' σ t4 s4 (s3.env.mono t4.le)⟩

/-! ### fields -/
def Fld (K : PySem.W.Frag) (mg : Str → Option Value) (c f : Str) : Prop := ∀ C, mg c = some (.ref C) → Cls K C ∧ NoAttr K C f
def flook (n : Str) : List Str → List Val → Option Val
  | k :: ks, x :: xs => if n = k then some x else flook n ks xs
  | _, _ => none
theorem flook_ok {n : Str} : ∀ {ks : List Str} {xs : List Val} {vs : List V} {x : Val}, RVs Z xs vs → flook n ks xs = some x → ∃ v, (ks.zip vs).lookup n = some v ∧ RV Z x v
  | [], xs, vs, x, r, e => by unfold flook at e; cases e
  | k :: ks, [], vs, x, r, e => by unfold flook at e; cases e
  | k :: ks, y :: xs, vs, x, r, e => by
    obtain ⟨v, vs', rfl, r1, r2⟩ := RVs.cons_iff.mp r
    unfold flook at e
    rw [List.zip_cons_cons, List.lookup_cons]
    by_cases h : n = k
    · rw [if_pos h] at e; cases e
      rw [show (n == k) = true from by simpa using h]
      exact ⟨v, rfl, r1⟩
    · rw [if_neg h] at e
      rw [show (n == k) = false from by simpa using h]
      exact flook_ok r2 e
def xFld (c n : Str) (f : Ex) : Ex := fun ρ st => (f ρ st).bind fun x st1 => match insOf st1 x with
  | some (c', ks, xs) => if c' = c then (match flook n ks xs with
    | some y => .ok y st1
    | none => .stk) else .stk
  | none => .stk
theorem ve_fld {c n : Str} {C : Addr} (hC : X.mg c = some (.ref C)) (hF : Fld X.K X.mg c n) (he : VE X o f) (hb : attributeBase o n X.env (eval o X.env) = eval o X.env := by rfl) : VE X (.Attribute o n pos) (xFld c n f) := fun W tk => (pe_fld (pos := pos) (he W tk) hb).imp fun σ H Q ⟨Z, ρ, st, s, q⟩ => by
  refine (TEx.bind s q).mono fun v H1 ⟨Z1, st1, x, s1, l1, r1, q1⟩ => ?_
  cases e : insOf st1 x with
  | none => rw [e] at q1; exact q1.elim
  | some p =>
    obtain ⟨c', ks, xs⟩ := p
    rw [e] at q1
    simp only at q1
    by_cases hc : c' = c
    · rw [if_pos hc] at q1
      subst hc
      cases e2 : flook n ks xs with
      | none => rw [e2] at q1; exact q1.elim
      | some y =>
        rw [e2] at q1
        obtain ⟨a, C', dx, vs, rfl, h1, h2, h3, h4⟩ := ins_at s1.rel r1 e
        rw [s1.mg, hC] at h2
        cases h2
        obtain ⟨u, hu, ru⟩ := flook_ok h4 e2
        obtain ⟨f1, f2⟩ := hF C hC
        exact ⟨a, C, dx, _, u, rfl, h1, f1, f2, hu, Fin.ok q1 s1.rel ru⟩
    · rw [if_neg hc] at q1; exact q1.elim
def fputK (n : Str) : List Str → List Str
  | [] => [n]
  | k :: ks => if k = n then k :: ks else k :: fputK n ks
def fputX (n : Str) (v : Val) : List Str → List Val → List Val
  | k :: ks, x :: xs => if k = n then v :: xs else x :: fputX n v ks xs
  | _, _ => [v]
theorem fput_ok {n : Str} {z : Val} {u : V} (ru : RV Z z u) : ∀ {ks : List Str} {xs : List Val} {vs : List V}, ks.length = vs.length → RVs Z xs vs → ∃ vs', putF n u (ks.zip vs) = (fputK n ks).zip vs' ∧ (fputK n ks).length = vs'.length ∧ RVs Z (fputX n z ks xs) vs'
  | [], xs, vs, hl, r => by
    refine ⟨[u], rfl, rfl, ?_⟩
    cases xs <;> exact RVs.cons ru RVs.nil
  | k :: ks, [], vs, hl, r => by rw [RVs.nil_iff.mp r] at hl; simp at hl
  | k :: ks, x :: xs, vs, hl, r => by
    obtain ⟨v, vs', rfl, r1, r2⟩ := RVs.cons_iff.mp r
    by_cases h : k = n
    · refine ⟨u :: vs', ?_, ?_, ?_⟩
      · show (if k = n then (k, u) :: ks.zip vs' else _) = _
        rw [if_pos h]; unfold fputK; rw [if_pos h]; rfl
      · unfold fputK; rw [if_pos h]; simpa using hl
      · unfold fputX; rw [if_pos h]; exact RVs.cons ru r2
    · obtain ⟨ws, e1, e2, e3⟩ := fput_ok ru (by simpa using hl) r2
      refine ⟨v :: ws, ?_, ?_, ?_⟩
      · show (if k = n then _ else (k, v) :: putF n u (ks.zip vs')) = _
        rw [if_neg h, e1, show fputK n (k :: ks) = k :: fputK n ks from by rw [fputK, if_neg h]]; rfl
      · unfold fputK; rw [if_neg h]; simp [e2]
      · unfold fputX; rw [if_neg h]; exact RVs.cons r1 e3
def sFldS (c n : Str) (f h : Ex) : Sx := fun ρ st => lift ρ (h ρ st) fun z st1 => lift ρ (f ρ st1) fun x st2 => match x with
  | .ref i => match st2[i]? with
    | some (.ins c' ks xs) => if c' = c ∧ ks.length < 1000 ∧ (ρ.base ≤ i ∨ Ob.bel i (.ins c' (fputK n ks) (fputX n z ks xs)) = true) then .nx ρ.vs (st2.set i (.ins c' (fputK n ks) (fputX n z ks xs))) else .stk
    | _ => .stk
  | _ => .stk
theorem vs_fld {c n : Str} {C : Addr} {value : Expr} {h : Ex} {p1 : Pos} (hC : X.mg c = some (.ref C)) (hF : Fld X.K X.mg c n) (ho : VE X o f) (hv : VE X value h) (hs : swapsWith value (some (.Attribute o n p1)) pos.line X.env = pure false := by rfl) :
    VS X (.Assign [.Attribute o n p1] value pos) (sFldS c n f h) := fun W tk => (ps_fld (pos := pos) (pos' := p1) (ho W tk) (hv W tk) hs).imp fun D σ H ⟨Z, ρ, st, s, q⟩ => by
  refine (TEx.lift (α := Val) s q).mono fun v H1 ⟨Z1, st1, z, s1, l1, r1, q1⟩ => (TEx.lift (α := Val) s1 q1).mono fun ov H2 ⟨Z2, st2, x, s2, l2, r2, q2⟩ => ?_
  cases x with
  | ref i =>
    simp only at q2
    cases e : st2[i]? with
    | none => rw [e] at q2; exact q2.elim
    | some ob =>
      rw [e] at q2
      cases ob with
      | ins c' ks xs =>
        simp only at q2
        by_cases hc : c' = c ∧ ks.length < 1000 ∧ (ρ.base ≤ i ∨ Ob.bel i (.ins c' (fputK n ks) (fputX n z ks xs)) = true)
        · rw [if_pos hc] at q2
          obtain ⟨rfl, h1000, hb⟩ := hc
          obtain ⟨a, rfl, ha, C', dx, vs, h1, h2, h3, h4⟩ := s2.rel.ref_at r2 e
          have h2' := h2
          rw [s2.mg, hC] at h2'
          cases h2'
          obtain ⟨f1, f2⟩ := hF C hC
          obtain ⟨vs', p1, p2, p3⟩ := fput_ok (n := n) (RV.mono l2 _ _ r1) h3 h4
          obtain ⟨t3, s3⟩ := ob_set (b := ρ.base) (u := .ins C dx (putF n v (ks.zip vs))) s2.rel ha hb ⟨C, dx, vs', by rw [upd_same, p1], h2, p2, p3⟩
          refine ⟨a, C, dx, _, rfl, h1, f1, f2, ?_, q2 Z2 _ σ t3 s3 s2.env⟩
          rw [List.length_zip, ← h3]; simpa using h1000
        · rw [if_neg hc] at q2; exact q2.elim
      | _ => exact q2.elim
  | _ => exact q2.elim
end
end SW
set_option Elab.async false
set_option linter.all false
set_option maxRecDepth 100000
set_option maxHeartbeats 4000000
namespace SW
open PySem PySem.Spec PyProof.Rows L2

/-! ### sorted(set(list of ints)) -/
section
variable {P : Program} {w : World} {A : Around} {E : Value → Shared → Prop} {s : Shared}
set_option maxRecDepth 100000 in
set_option maxHeartbeats 3200000 in
theorem set_of_list {l : Addr} {items : Array Value} (ns : List Int) {Q : Value → Shared → Prop} (hh : A.handled = none) (hl : s.heap.IsList l items) (hit : IntsAre items.toList ns) (hb : ns.length + 1 < scanBound)
    (h : ∀ (h' : Heap) (tk c : Nat), SetR w h' s.heap.objs.size (fun j => decide (j ∈ ns)) c → c ≤ ns.length → (∀ b o, s.heap.get? b = some o → h'.get? b = some o) → Q (.ref s.heap.objs.size) { s with heap := h', toks := tk }) :
    wpAny (model P w) A (call (.type "set") [.ref l]) Q E s := by
  have hisz : items.size = ns.length := by
    have q := IntsAre.length hit
    rw [Array.length_toList] at q
    exact q
  obtain ⟨c, tl, hmro⟩ := F.called_set.mro
  have hmade := F.called_set.made
  have hsub := F.called_set.sub
  refine wpAny_call (codeAny_of_tree ?_)
  show wpAny _ _ (callAny (.type "set") _) _ _ _
  refine wpAny_pure ⟨Code.quiet_builtin _ (by decide +kernel), codeAny_builtin F.entry_type_call ?_⟩
  rw [Around.under_plain (weight_type_call_type "set" [.ref l] []) rfl]
  have h1 := F.called_set.notType
  have h2 := F.called_set.canCreate
  have hct := F.typeCall_set_1 (.ref l)
  repeat (any_goals (first | assumption | wp_step))

  refine codeAny_mono (code_set_led1 (.ref l) (E := E) (Q₁ := fun obj s₁ => obj = .ref s.heap.objs.size ∧ s₁ = { s with heap := s.heap.push { cls := .type "set", dict := none, data := .set #[] 0 (.fresh 0 0 (!w.params.followText "set-order")) } }) ⟨rfl, rfl⟩) fun r s₁ hr => ?_
  cases r with
  | error e => exact hr
  | ok fl =>
    cases fl with
    | ret obj =>
      obtain ⟨rfl, rfl⟩ := hr
      have hS : (s.heap.push { cls := .type "set", dict := none, data := .set #[] 0 (.fresh 0 0 (!w.params.followText "set-order")) }).get? s.heap.objs.size = some { cls := .type "set", dict := none, data := .set #[] 0 (.fresh 0 0 (!w.params.followText "set-order")) } := Heap.get?_push_size _ rfl
      have hT : Shared.TypeIs { s with heap := s.heap.push { cls := .type "set", dict := none, data := .set #[] 0 (.fresh 0 0 (!w.params.followText "set-order")) } } (.ref s.heap.objs.size) "set" := ⟨_, hS, rfl⟩
      have hli := F.called_set.init.lookup
      have hbi := F.called_set.init.bind (.ref s.heap.objs.size)
      repeat (any_goals (first | assumption | wp_step))

      refine codeAny_mono (codeAny_call_builtin (R := wants (fun r s₂ => r = .none ∧ ∃ h' tk c, s₂ = { s with heap := h', toks := tk } ∧ SetR w h' s.heap.objs.size (fun j => decide (j ∈ ns)) c ∧ c ≤ ns.length ∧
          (∀ b o, s.heap.get? b = some o → h'.get? b = some o)) E) F.called_set.init.plain F.entry_set_init (check_set_init_1 hT ?_)) fun r₂ s₂ hr₂ => ?_
      · obtain ⟨ol, hol, hcl, nl, hdl⟩ := hl
        obtain ⟨ocls, odict, odata, oslots⟩ := ol
        simp only at hcl hdl
        subst hcl; subst hdl
        have hol' : (s.heap.push { cls := .type "set", dict := none, data := .set #[] 0 (.fresh 0 0 (!w.params.followText "set-order")) }).get? l = some { cls := .type "list", dict := odict, data := .seq items nl, slots := oslots } := Heap.get?_push_of_some _ hol
        have hsls := F.sub_list_set
        have hslf := F.sub_list_frozenset
        have hne : (Value.type "list" == Value.type "dict") = false := by decide
        have hl1 : (s.heap.push { cls := .type "set", dict := none, data := .set #[] 0 (.fresh 0 0 (!w.params.followText "set-order")) }).IsList l items := ⟨_, hol', rfl, nl, rfl⟩
        unfold Builtin.«set.__init__» noKeywords Builtin.Frozenset.updateFrom
        generalize hPI : pyIter = PI
        wp_walk
        subst hPI

        refine wpAny_pyIter_list hl1 ?_
        refine wpAny_bind (wpAny_runValue ?_)
        have hlS : l < s.heap.objs.size := Heap.lt_size hol
        have hh3 : A.in1.in1.in1.handled = none := by simp [hh]
        have hz1 : (s.heap.push { cls := .type "set", dict := none, data := .set #[] 0 (.fresh 0 0 (!w.params.followText "set-order")) }).objs.size = s.heap.objs.size + 1 := Heap.size_push ..
        have hneI : l ≠ (s.heap.push { cls := .type "set", dict := none, data := .set #[] 0 (.fresh 0 0 (!w.params.followText "set-order")) }).objs.size := by
          rw [Heap.size_push]; exact Nat.ne_of_lt (Nat.lt_succ_of_lt hlS)
        have hSf : s.heap.objs.size ∉ [(s.heap.push { cls := .type "set", dict := none, data := .set #[] 0 (.fresh 0 0 (!w.params.followText "set-order")) }).objs.size, l] := by
          rw [Heap.size_push]; simp only [List.mem_cons, List.mem_singleton, List.not_mem_nil, or_false, not_or]
          exact ⟨Nat.ne_of_lt (Nat.lt_succ_self _), Nat.ne_of_gt hlS⟩
        have hval : ∀ (i : Nat) (v : Value), items[i]? = some v → ∃ k t, ns[i]? = some k ∧ v = .int k t := fun i v hv => by
          have hi : i < ns.length := by rw [← hisz]; exact (Array.getElem?_eq_some_iff.mp hv).1
          obtain ⟨t, e⟩ := PyProof.Rows.IntsAre.int_at hit i v (by rw [Array.getElem?_toList]; exact hv)
          refine ⟨ns[i], t, List.getElem?_eq_getElem hi, ?_⟩
          rw [e, List.getD_eq_getElem?_getD, List.getElem?_eq_getElem hi] <;> rfl
        refine set_update_ints ((Walks.list hh3 _ l hneI items).toS) s.heap.objs.size
          hSf ns hisz hb hval (items.size - 0) 0 _ (by omega) (Nat.zero_le _)
          ⟨⟨_, Heap.get?_push_size _ rfl, rfl, rfl⟩, (hl1.push _)⟩ ?hS0 ?hR
        case hS0 =>
          have hget : ((s.heap.push { cls := .type "set", dict := none, data := .set #[] 0 (.fresh 0 0 (!w.params.followText "set-order")) }).push { cls := .type "list_iterator", data := .fields #[.ref l, .int 0 0] }).get? s.heap.objs.size
              = some { cls := .type "set", dict := none, data := .set #[] 0 (.fresh 0 0 (!w.params.followText "set-order")) } := Heap.get?_push_of_some _ hS
          exact ⟨0, Nat.le_refl 0, setR_new_at hget⟩
        case hR =>
          intro s' c' hm hc' hS'
          obtain ⟨h', g2, d', tk', os'⟩ := s'
          have eg : g2 = s.gens := hm.gens
          have ed : d' = s.drawn := hm.drawn
          have eo : os' = s.os := hm.os
          subst eg; subst ed; subst eo
          show wpAny _ _ _ _ _ _
          refine wpAny_pure ?_
          show wpAny _ _ (ret Value.none) _ _ _
          rw [hisz] at hc'
          refine wpAny_pure ⟨rfl, h', tk', c', rfl, hS', hc', fun b o e => ?_⟩
          have hb0 : b < s.heap.objs.size := Heap.lt_size e
          have hb1 : b ≠ s.heap.objs.size := Nat.ne_of_lt hb0
          have hb2 : b ≠ (s.heap.push { cls := .type "set", dict := none, data := .set #[] 0 (.fresh 0 0 (!w.params.followText "set-order")) }).objs.size := by
            rw [Heap.size_push]; exact Nat.ne_of_lt (Nat.lt_succ_of_lt hb0)
          exact hm.heap b o (by simp only [List.mem_cons, List.mem_singleton, List.not_mem_nil, or_false, not_or]; exact ⟨hb1, hb2⟩) (Heap.get?_push_of_some _ (Heap.get?_push_of_some _ e))

      · cases r₂ with
        | error e => exact hr₂
        | ok fl₂ =>
          cases fl₂ with
          | ret r =>
            obtain ⟨rfl, h', tk, c', rfl, hS', hc', hk'⟩ := hr₂
            repeat (any_goals (first | assumption | wp_step))
            exact h _ _ _ hS' hc' hk'
          | _ => exact hr₂.elim
    | _ => exact hr.elim


end
def strictly : List Int → Bool
  | a :: b :: r => decide (a < b) && strictly (b :: r)
  | _ => true
theorem strictly_pw : ∀ {ns : List Int}, strictly ns = true → ns.Pairwise (· < ·)
  | [], _ => .nil
  | [a], _ => List.pairwise_singleton _ _
  | a :: b :: r, h => by
    unfold strictly at h
    obtain ⟨h1, h2⟩ := Bool.and_eq_true_iff.mp h
    have ih := strictly_pw h2
    have hab := of_decide_eq_true h1
    refine List.pairwise_cons.mpr ⟨fun x hx => ?_, ih⟩
    rcases List.mem_cons.mp hx with e | e
    · rw [e]; exact hab
    · exact Int.lt_trans hab ((List.pairwise_cons.mp ih).1 x e)
theorem pw_unique : ∀ {l m : List Int}, l.Pairwise (· < ·) → m.Pairwise (· < ·) → (∀ k, k ∈ l ↔ k ∈ m) → l = m
  | [], [], _, _, _ => rfl
  | [], b :: m, _, _, h => absurd ((h b).mpr List.mem_cons_self) (by simp)
  | a :: l, [], _, _, h => absurd ((h a).mp List.mem_cons_self) (by simp)
  | a :: l, b :: m, hl, hm, h => by
    have hl' := List.pairwise_cons.mp hl
    have hm' := List.pairwise_cons.mp hm
    have e : a = b := by
      rcases List.mem_cons.mp ((h a).mp List.mem_cons_self) with e | e
      · exact e
      · rcases List.mem_cons.mp ((h b).mpr List.mem_cons_self) with e' | e'
        · exact e'.symm
        · have := hm'.1 a e
          have := hl'.1 b e'
          omega
    subst e
    refine congrArg (a :: ·) (pw_unique hl'.2 hm'.2 fun k => ?_)
    constructor
    · intro hk
      rcases List.mem_cons.mp ((h k).mp (List.mem_cons_of_mem _ hk)) with e | e
      · have := hl'.1 k hk; omega
      · exact e
    · intro hk
      rcases List.mem_cons.mp ((h k).mpr (List.mem_cons_of_mem _ hk)) with e | e
      · have := hm'.1 k hk; omega
      · exact e
/-- sorted(set(e)) of fewer than 64 ints that ascend -/
def sset (x : Val) (st : Store) : Res Val := match lstOf st x with
  | some xs => (match intsOf xs with
    | some ns => if strictly ns = true ∧ ns.length < 64 then .ok (.lst xs) st else .stk
    | none => .stk)
  | none => .stk
def xSset (f : Ex) : Ex := fun ρ st => (f ρ st).bind fun x st1 => sset x st1
section
variable {X : Cx}
theorem pe_sset {e : Expr} {te : TE} {p p2 q pos : Pos} (hc : X.calm = true) (hg : Gl X "sorted") (hm : X.mg "sorted" = none) (hg2 : Gl X "set") (hm2 : X.mg "set" = none) (ha : PE X e te) (na : starEach [e] X.env = (false, eval e X.env) :: starEach [] X.env := by rfl) :
    PE X (.Call (.Name "sorted" p) [.Call (.Name "set" p2) [e] [] q] [] pos) (fun σ H Q => te σ H fun x H1 => ∃ (l : Addr) (ns : List Int), x = .ref l ∧ SqL X.K H1 l (ns.map V.int) ∧ ns.Pairwise (· < ·) ∧ ns.length < 64 ∧ ∀ a, H1 a = none → Q (.ref a) (upd H1 a (.lst (ns.map V.int)))) := by
  refine ⟨fun pins s σ H Q I h => ?_⟩
  refine Call_ (ld_blt I hg hm PyProof.Rows.boot_sorted ?_)
  refine PyProof.Rows.callWith_builtin1 (PyProof.Rows.args_cons ?_ rfl) rfl rfl
  refine Call_ (ld_blt I hg2 hm2 PyProof.Rows.boot_set ?_)
  refine PyProof.Rows.callWith_type1 (PyProof.Rows.args_cons (thn (ha.run pins s σ H _ I h) fun v s1 ⟨x, H1, I1, r1, q1⟩ => PyProof.Rows.args_nil ?_) na) na rfl
  obtain ⟨l, ns, rfl, hq, hpw, hl, q1⟩ := q1
  cases r1
  obtain ⟨its, r, pl, hz⟩ := I1.list hq
  have hI : IntsAre its.toArray.toList ns := by simpa using ints_of_vals r
  have hb : ns.length + 1 < scanBound := by unfold scanBound; omega
  refine set_of_list ns (I1.ok.hd hc) pl.isList hI hb fun h' tk c R1 hcn hk => ?_
  refine PyProof.Rows.args_nil ?_
  have I2 : Inv X pins σ H1 { s1 with heap := h', toks := tk } := I1.kept fun b o e => hk b o e
  refine sorted_set R1 (I2.ok.hd hc) (by omega) fun s' p0 out c0 ms k g o hp hgt hi hs hm0 hl0 => ?_
  have hms : ms = ns := pw_unique hs hpw fun k => by
    rw [hm0 k]; simp
  subst hms
  have hlen : (ms.map V.int).length ≤ sizeLine := by rw [List.length_map, sizeLine_eq]; omega
  have hn : H1 p0 = none := I2.hok.fresh hp
  have J : Inv X pins σ (upd H1 p0 (.lst (ms.map V.int))) { s1 with heap := s'.heap, gens := s'.gens, drawn := s'.drawn, toks := s'.toks } := by
    have J0 := I2.call (H' := upd H1 p0 (.lst (ms.map V.int))) (h' := s'.heap) (g' := s'.gens) (d' := s'.drawn) (t' := s'.toks) (ch := []) (Un.laid k hp hn) (I2.hok.laid k hp ⟨hlen, out.toList, c0, vals_of_ints hi, hgt⟩) (by rw [g]; exact I2.bare) (fun _ z => nomatch z)
    exact J0
  have e : s' = { s1 with heap := s'.heap, gens := s'.gens, drawn := s'.drawn, toks := s'.toks } := by
    cases s'
    cases s1
    cases o
    rfl
  rw [e]
  exact ⟨.ref p0, _, J, rfl, q1 p0 hn⟩
theorem ve_sset {e : Expr} {f : Ex} {p p2 q pos : Pos} (hm : X.mg "sorted" = none) (hm2 : X.mg "set" = none) (he : VE X e f) (hc : X.calm = true := by rfl) (hg : Gl X "sorted" := by rfl) (hg2 : Gl X "set" := by rfl) (na : starEach [e] X.env = (false, eval e X.env) :: starEach [] X.env := by rfl) :
    VE X (.Call (.Name "sorted" p) [.Call (.Name "set" p2) [e] [] q] [] pos) (xSset f) := fun W tk => (pe_sset (p := p) (p2 := p2) (q := q) (pos := pos) hc hg hm hg2 hm2 (he W tk) na).imp fun σ H Q ⟨Z, ρ, st, s, q⟩ =>
  (TEx.bind s q).mono fun v H1 ⟨Z1, st1, x, s1, l1, r1, q1⟩ => by
    unfold sset at q1
    cases e1 : lstOf st1 x with
    | none => rw [e1] at q1; exact q1.elim
    | some xs =>
      rw [e1] at q1
      simp only at q1
      cases e2 : intsOf xs with
      | none => rw [e2] at q1; exact q1.elim
      | some ns =>
        rw [e2] at q1
        simp only at q1
        by_cases h : strictly ns = true ∧ ns.length < 64
        · rw [if_pos h] at q1
          obtain ⟨a, vs, rfl, h1, r2⟩ := lst_at s1.rel r1 e1
          have hx := intsOf_eq e2
          subst hx
          have hv := RVs.map_int r2
          subst hv
          refine ⟨a, ns, rfl, SqL.of h1, strictly_pw h.1, h.2, fun p n => ?_⟩
          obtain ⟨t2, s2⟩ := al_fz (b := ρ.base) (u := .lst (ns.map V.int)) s1.rel n
          refine q1 _ _ _ t2 s2 ?_
          unfold RV
          exact ⟨p, _, rfl, upd_same, RVs.mono t2.le _ _ r2⟩
        · rw [if_neg h] at q1; exact q1.elim
end
end SW
set_option Elab.async false
set_option linter.all false
set_option maxRecDepth 100000
namespace SW
open PySem PySem.Spec PyProof.Rows L2
theorem inn_nm {i : Nat} {own : List Nat} (h : i ∈ own) : (Tg.nm i).inn own := h
theorem inn_tup {is own : List Nat} (h : ∀ i ∈ is, i ∈ own) : (Tg.tup is).inn own := h
theorem bb_len : bootBuiltins "len" = some (.builtin "len") := by decide +kernel
theorem bb_max : bootBuiltins "max" = some (.builtin "max") := by decide +kernel
theorem bb_min : bootBuiltins "min" = some (.builtin "min") := by decide +kernel
theorem bb_sum : bootBuiltins "sum" = some (.builtin "sum") := by decide +kernel
theorem bb_all : bootBuiltins "all" = some (.builtin "all") := by decide +kernel
theorem bb_sorted : bootBuiltins "sorted" = some (.builtin "sorted") := by decide +kernel
theorem bb_repr : bootBuiltins "repr" = some (.builtin "repr") := by decide +kernel
theorem bb_list : bootBuiltins "list" = some (.type "list") := by decide +kernel
theorem bb_tuple : bootBuiltins "tuple" = some (.type "tuple") := by decide +kernel
theorem bb_int : bootBuiltins "int" = some (.type "int") := by decide +kernel
theorem bb_str : bootBuiltins "str" = some (.type "str") := by decide +kernel
theorem bb_bool : bootBuiltins "bool" = some (.type "bool") := by decide +kernel
theorem bb_dict : bootBuiltins "dict" = some (.type "dict") := by decide +kernel
theorem owns_nil {K : PySem.W.Frag} {mg : Str → Option Value} : Owns K mg [] := fun c h => nomatch h
/-- what leaves a def, whatever the world -/
def CXw (P : Program) : CXT := fun outer H s E u s' => ∃ w, L2.CX P w outer H s E u s'
theorem fnok_cx {P : Program} {w : World} {K : PySem.W.Frag} {mg : Str → Option Value} {base : Heap} {k : Nat} {f : Addr} {fd : FuncData} {ps : List Str} {sp : Sp} (F : FnOk P w K mg base (L2.CX P w) k f fd ps sp) : FnOk P w K mg base (CXw P) k f fd ps sp :=
  ⟨F.len, fun A outer s H args us vs Q E hr e0 b r h => codeAny_mono (F.run A outer s H args us vs Q E hr e0 b r h) fun r s' hq => by
    cases r with
    | error e => exact ⟨w, hq⟩
    | ok fl => cases fl <;> exact hq⟩
theorem cxw_no {P : Program} (H : Hp) (s : Shared) (e : Value) (s' : Shared) (h : CXw P [] H s (fun _ _ _ => False) e s') : False := by
  obtain ⟨w, _, _, _, _, _, _, _, _, _, _, _, _, z⟩ := h
  exact z
end SW
set_option Elab.async false
set_option linter.all false
set_option maxRecDepth 100000
namespace SW
open PySem PySem.Spec PyProof.Rows L2

/-! ### what the combinators answer -/
theorem bels_ints (n : Nat) (ns : List Int) : Val.bels n (ns.map Val.int) = true := by
  rw [Val.bels_all]; simp [Val.bel]
/-- scalars lie below everything -/
def Val.flat : Val → Bool
  | .non => true | .bl _ => true | .int _ => true | .str _ => true | .scr _ => true
  | _ => false
theorem Val.flat_bel {x : Val} (h : x.flat = true) (n : Nat) : Val.bel n x = true := by
  cases x <;> first | (unfold Val.bel; rfl) | (cases h)
theorem frzV_bel {n : Nat} {hole : Option Nat} {st : Store} {k : Nat} {x : Val} (h : Val.bel n x = true) : frzV n hole st (k + 1) x = some x := by
  unfold frzV; rw [if_pos h]
theorem mapO_bel {n : Nat} {hole : Option Nat} {st : Store} {k : Nat} : ∀ {xs : List Val}, Val.bels n xs = true → mapO (frzV n hole st (k + 1)) xs = some xs
  | [], _ => rfl
  | x :: r, h => by
    unfold Val.bels at h
    obtain ⟨h1, h2⟩ := Bool.and_eq_true_iff.mp h
    unfold mapO
    rw [frzV_bel h1, mapO_bel h2]
theorem leave_bel {n : Nat} {x : Val} {st : Store} (h : Val.bel n x = true) : leaveR true n (.ret x st) = .ok x (st.take n) := by
  show (match frzV n none st (59 + 1) x with
    | some y => Res.ok y (st.take n)
    | none => .stk) = _
  rw [frzV_bel h]
theorem leave_flat {n : Nat} {x : Val} {st : Store} (h : x.flat = true) : leaveR true n (.ret x st) = .ok x (st.take n) := leave_bel (Val.flat_bel h n)
theorem leave_nx {f : Bool} {n : Nat} {vs : List (Option Val)} {st : Store} : leaveR f n (.nx vs st) = .ok .non (st.take n) := rfl
/-- a list of the frame is frozen as it leaves -/
theorem leave_list {n i : Nat} {xs : List Val} {st : Store} (hi : n ≤ i) (e : st[i]? = some (.lst xs)) (h : Val.bels n xs = true) : leaveR true n (.ret (.ref i) st) = .ok (.lst xs) (st.take n) := by
  show (match frzV n none st (58 + 1 + 1) (.ref i) with
    | some y => Res.ok y (st.take n)
    | none => .stk) = _
  have hb : ¬ Val.bel n (.ref i) = true := by unfold Val.bel; simp; omega
  unfold frzV
  rw [if_neg hb]
  simp only [e, reduceCtorEq, if_false]
  rw [mapO_bel h]; rfl
/-- .. or stays one that changes -/
theorem leave_keep {n i : Nat} {xs : List Val} {st : Store} (hi : n ≤ i) (e : st[i]? = some (.lst xs)) (h : Val.bels n xs = true) : leaveR false n (.ret (.ref i) st) = .ok (.ref n) (st.take n ++ [.lst xs]) := by
  show (if i < n then Res.ok (Val.ref i) (st.take n) else match st[i]? with
    | some o => (match frzO n (some i) st (59 + 1) o with
      | some o' => Res.ok (Val.ref n) (st.take n ++ [o'])
      | none => .stk)
    | none => .stk) = _
  rw [if_neg (by omega), e]
  show (match (mapO (frzV n (some i) st (59 + 1)) xs).map Ob.lst with
      | some o' => Res.ok (Val.ref n) (st.take n ++ [o'])
      | none => .stk) = _
  rw [mapO_bel h]; rfl
theorem take_all {st : Store} : st.take st.length = st := List.take_length
theorem take_app {st s2 : Store} : (st ++ s2).take st.length = st := by simp
/-- a call with its values -/
theorem fnM_run {frz : Bool} {n m : Nat} {g : Sx} {xs : List Val} {st : Store} (h : xs.length = n) : fnM frz n m g xs st = leaveR frz st.length (g ⟨st.length, xs.map some ++ List.replicate (m - xs.length) none⟩ st) := by
  unfold fnM; rw [if_pos h]

/-! ### the draws -/
def takeSx (c : Int) : Sx := (sSeq (sIf (xB oGt (xB oIx (xVar 0) (xC (.int 0))) (xC (.int 0))) (sSeq (sAsg (.nm 2) (xB oMod (xB oIx (xVar 0) (xC (.int 0))) (xVar 1)))
  (sSeq (sPut (xVar 0) (xC (.int 0)) (xB oDiv (xB oIx (xVar 0) (xC (.int 0))) (xVar 1)))
  (sRet (xVar 2)))) sNext)
  (sSeq (sPut (xVar 0) (xC (.int 2)) (xB (oAdd false) (xB oIx (xVar 0) (xC (.int 2))) (xC (.int 1))))
  (sSeq (sAsg (.nm 3) (xB oMod (xB oPow (xB (oAdd false) (xB (oAdd false) (xB oIx (xVar 0) (xC (.int 1))) (xB (oMul false) (xC (.int 7919)) (xB oIx (xVar 0) (xC (.int 2))))) (xC (.int c))) (xC (.int 5))) (xC (.int 2147483647))))
  (sSeq (sAsg (.nm 4) (xB oMod (xB oPow (xB (oAdd false) (xB (oAdd false) (xB oDiv (xVar 3) (xC (.int 8))) (xB (oMul false) (xB (oMul false) (xC (.int 104729)) (xB oIx (xVar 0) (xC (.int 2)))) (xB oIx (xVar 0) (xC (.int 2))))) (xC (.int 11))) (xC (.int 3))) (xC (.int 2147483587))))
  (sRet (xB oMod (xB (oAdd false) (xB oDiv (xVar 3) (xC (.int 4))) (xB (oMul false) (xC (.int 536870909)) (xB oDiv (xVar 4) (xC (.int 4))))) (xVar 1)))))))
/-- the box at i, at most m draws old -/
def Box (st : Store) (i m : Nat) : Prop := ∃ a b c : Int, st[i]? = some (.lst [.int a, .int b, .int c]) ∧ 0 ≤ a ∧ 0 ≤ b ∧ b < 2147483629 ∧ 0 ≤ c ∧ c ≤ m
theorem Box.mono {st : Store} {i m k : Nat} (h : Box st i m) (l : m ≤ k) : Box st i k := by
  obtain ⟨a, b, c, e, h1, h2, h3, h4, h5⟩ := h
  exact ⟨a, b, c, e, h1, h2, h3, h4, by omega⟩
@[simp] theorem atI3_0 (x y z : Val) : atI [x, y, z] 0 = some x := rfl
@[simp] theorem atI3_1 (x y z : Val) : atI [x, y, z] 1 = some y := rfl
@[simp] theorem atI3_2 (x y z : Val) : atI [x, y, z] 2 = some z := rfl
@[simp] theorem ixN3_0 : ixN 3 0 = some 0 := rfl
@[simp] theorem ixN3_2 : ixN 3 2 = some 2 := rfl
theorem take_run {c : Int} (hc : 0 ≤ c ∧ c < 1000000) {st : Store} {i m : Nat} {n : Int} (hb : Box st i m) (hm : m ≤ 100000) (hn : 0 < n) (hn2 : n < 1073741824) :
    ∃ (d : Int) (o : Ob), fnM true 2 5 (takeSx c) [.ref i, .int n] st = .ok (.int d) (st.set i o) ∧ 0 ≤ d ∧ d < n ∧ Box (st.set i o) i (m + 1) := by
  obtain ⟨a, b, k, e, ha, hb1, hb2, hk, hkm⟩ := hb
  have hi : i < st.length := (List.getElem?_eq_some_iff.mp e).1
  have run : fnM true 2 5 (takeSx c) [.ref i, .int n] st = leaveR true st.length (takeSx c ⟨st.length, [some (.ref i), some (.int n), none, none, none]⟩ st) := rfl
  rw [run]
  by_cases h0 : 0 < a
  · refine ⟨a % n, .lst [.int (a / n), .int b, .int k], ?_, Int.emod_nonneg _ (by omega), Int.emod_lt_of_pos _ hn, a / n, b, k, ?_, ?_, hb1, hb2, hk, by omega⟩
    · have e1 : takeSx c ⟨st.length, [some (.ref i), some (.int n), none, none, none]⟩ st = .ret (.int (a % n)) (st.set i (.lst [.int (a / n), .int b, .int k])) := by
        simp [takeSx, sSeq, sIf, xB, xVar, xC, oGt, ibop, oIx, lstOf, e, h0, sAsg, sPut, sRet, Tg.go, oMod, oDiv, iop, hn, hn2, putS, Ob.bel, Val.bels, Val.bel]
      rw [e1, leave_flat rfl]
      have : (st.set i (.lst [.int (a / n), .int b, .int k])).length = st.length := by simp
      rw [← this, take_all]
    · rw [List.getElem?_set_self hi]
    · exact Int.ediv_nonneg ha (by omega)
  · have b1 : powC (b + 7919 * (k + 1) + c) 5 = true := by
      unfold powC; simp <;> omega
    obtain ⟨one, hone⟩ : ∃ z, z = (b + 7919 * (k + 1) + c) ^ 5 % 2147483647 := ⟨_, rfl⟩
    have o1 : 0 ≤ one ∧ one < 2147483647 := by rw [hone]; exact ⟨Int.emod_nonneg _ (by decide), Int.emod_lt_of_pos _ (by decide)⟩
    have m1 : mulC 7919 (k + 1) = true := by unfold mulC; simp <;> omega
    have m2 : mulC 104729 (k + 1) = true := by unfold mulC; simp <;> omega
    have m3 : mulC (104729 * (k + 1)) (k + 1) = true := by unfold mulC; simp <;> omega
    have kk : 0 ≤ (104729 * (k + 1)) * (k + 1) ∧ (104729 * (k + 1)) * (k + 1) ≤ 104729 * 100001 * 100001 := by
      have h1 : 0 ≤ k + 1 := by omega
      have h2 : k + 1 ≤ 100001 := by omega
      refine ⟨Int.mul_nonneg (by omega) h1, ?_⟩
      exact Int.mul_le_mul (by omega) h2 h1 (by decide)
    have b2 : powC (one / 8 + (104729 * (k + 1)) * (k + 1) + 11) 3 = true := by
      unfold powC; simp <;> omega
    obtain ⟨two, htwo⟩ : ∃ z, z = (one / 8 + (104729 * (k + 1)) * (k + 1) + 11) ^ 3 % 2147483587 := ⟨_, rfl⟩
    have o2 : 0 ≤ two ∧ two < 2147483587 := by rw [htwo]; exact ⟨Int.emod_nonneg _ (by decide), Int.emod_lt_of_pos _ (by decide)⟩
    have m4 : mulC 536870909 (two / 4) = true := by unfold mulC; simp <;> omega
    refine ⟨(one / 4 + 536870909 * (two / 4)) % n, .lst [.int a, .int b, .int (k + 1)], ?_, Int.emod_nonneg _ (by omega), Int.emod_lt_of_pos _ hn, a, b, k + 1, ?_, ha, hb1, hb2, by omega, by omega⟩
    · have e1 : takeSx c ⟨st.length, [some (.ref i), some (.int n), none, none, none]⟩ st = .ret (.int ((one / 4 + 536870909 * (two / 4)) % n)) (st.set i (.lst [.int a, .int b, .int (k + 1)])) := by
        have e2 : (st.set i (.lst [.int a, .int b, .int (k + 1)]))[i]? = some (.lst [.int a, .int b, .int (k + 1)]) := List.getElem?_set_self hi
        simp [takeSx, sSeq, sIf, xB, xVar, xC, oGt, ibop, oIx, lstOf, e, e2, h0, sNext, sAsg, sPut, sRet, Tg.go, oMod, oDiv, oPow, oAdd, oMul, iop, hn, putS, Ob.bel, Val.bels, Val.bel, b1, m1, m2, m3, ← hone]
        simp [b2, ← htwo, m4, hn]
      rw [e1, leave_flat rfl]
      have : (st.set i (.lst [.int a, .int b, .int (k + 1)])).length = st.length := by simp
      rw [← this, take_all]
    · rw [List.getElem?_set_self hi]
end SW
set_option Elab.async false
set_option linter.all false
set_option maxRecDepth 100000
namespace SW
open PySem PySem.Spec PyProof.Rows L2

/-! ### comprehensions whose parts only read -/
theorem lc_go_pure {t : Tg} {tt te : Ex} {ρ0 : En} {st : Store} {xs : List Val} {G : Val → List (Option Val)} {p : Val → Bool} {g : Val → Val}
    (hg : ∀ x ∈ xs, t.go x ρ0.vs st = some (G x)) (ht : ∀ x ∈ xs, tt ⟨ρ0.base, G x⟩ st = .ok (.bl (p x)) st) (he : ∀ x ∈ xs, p x = true → te ⟨ρ0.base, G x⟩ st = .ok (g x) st) :
    ∀ (n i : Nat) (acc : List Val), n + i = xs.length + 1 → i ≤ xs.length → acc.length + (xs.length - i) ≤ sizeLine → lcN (Src.st xs).nxt t tt te ρ0 n i acc st = .ok (acc ++ ((xs.drop i).filter p).map g) st
  | 0, i, acc, h, hi, hl => by omega
  | n + 1, i, acc, h, hi, hl => by
    unfold lcN
    show (match some xs[i]? with
      | none => _
      | some none => _
      | some (some x) => _) = _
    by_cases hlt : i < xs.length
    · have e : xs[i]? = some xs[i] := List.getElem?_eq_getElem hlt
      have hm : xs[i] ∈ xs := List.getElem_mem hlt
      rw [e]
      simp only [hg _ hm, ht _ hm, noX_ok]
      have hd : xs.drop i = xs[i] :: xs.drop (i + 1) := List.drop_eq_getElem_cons hlt
      rw [hd]
      cases hp : p xs[i] with
      | false =>
        simp only
        rw [lc_go_pure hg ht he n (i + 1) acc (by omega) hlt (by omega), List.filter_cons, if_neg (by rw [hp]; simp)]
      | true =>
        simp only [he _ hm hp, noX_ok]
        rw [if_pos (by omega), lc_go_pure hg ht he n (i + 1) (acc ++ [g xs[i]]) (by omega) hlt (by simp; omega), List.filter_cons, if_pos hp]
        simp
    · have e : xs[i]? = none := List.getElem?_eq_none (by omega)
      rw [e]
      simp only
      rw [List.drop_eq_nil_of_le (by omega)]
      simp
theorem lc_pure {t : Tg} {src : Ix} {tt te : Ex} {ws : List Nat} {ρ : En} {st : Store} {xs : List Val} {G : Val → List (Option Val)} {p : Val → Bool} {g : Val → Val}
    (hs : src ρ st = .ok (.st xs) st) (hg : ∀ x ∈ xs, t.go x (wipeX ρ.vs ws) st = some (G x)) (ht : ∀ x ∈ xs, tt ⟨ρ.base, G x⟩ st = .ok (.bl (p x)) st) (he : ∀ x ∈ xs, p x = true → te ⟨ρ.base, G x⟩ st = .ok (g x) st) (hl : xs.length ≤ sizeLine) :
    xLc false t src tt te ws ρ st = .ok (.lst ((xs.filter p).map g)) st := by
  unfold xLc
  rw [hs, Res.bind_ok]
  show (lcN (Src.st xs).nxt t tt te ⟨ρ.base, wipeX ρ.vs ws⟩ (xs.length + 1) 0 [] st).bind _ = _
  rw [lc_go_pure (ρ0 := ⟨ρ.base, wipeX ρ.vs ws⟩) hg ht he (xs.length + 1) 0 [] rfl (Nat.zero_le _) (by simpa using hl), Res.bind_ok]
  unfold mkL
  have h1 : (([] : List Val) ++ ((xs.drop 0).filter p).map g).length ≤ sizeLine := by
    simp
    exact Nat.le_trans (List.length_filter_le _ _) hl
  rw [if_pos h1]; simp
/-- .. without a test -/
theorem lc_map {t : Tg} {src : Ix} {te : Ex} {ws : List Nat} {ρ : En} {st : Store} {xs : List Val} {G : Val → List (Option Val)} {g : Val → Val}
    (hs : src ρ st = .ok (.st xs) st) (hg : ∀ x ∈ xs, t.go x (wipeX ρ.vs ws) st = some (G x)) (he : ∀ x ∈ xs, te ⟨ρ.base, G x⟩ st = .ok (g x) st) (hl : xs.length ≤ sizeLine) :
    xLc false t src (xC (.bl true)) te ws ρ st = .ok (.lst (xs.map g)) st := by
  have := lc_pure (t := t) (tt := xC (.bl true)) (ws := ws) (p := fun _ => true) hs hg (fun _ _ => rfl) (fun x hx _ => he x hx) hl
  rw [this, List.filter_eq_self.mpr (fun _ _ => rfl)]
/-! .. whose parts change the store: by an invariant -/
theorem lc_inv {own : Bool} {t : Tg} {src : Ix} {te : Ex} {ws : List Nat} {ρ : En} {st : Store} {xs : List Val} {st1 : Store} (I : Nat → List Val → Store → Prop)
    (hs : src ρ st = .ok (.st xs) st1) (h0 : I 0 [] st1) (step : ∀ i x acc st, xs[i]? = some x → I i acc st → ∃ vs y st', t.go x (wipeX ρ.vs ws) st = some vs ∧ te ⟨ρ.base, vs⟩ st = .ok y st' ∧ I (i + 1) (acc ++ [y]) st') (hl : xs.length ≤ sizeLine) :
    ∃ ys st', xLc own t src (xC (.bl true)) te ws ρ st = mkL own ys st' ∧ ys.length = xs.length ∧ I xs.length ys st' := by
  have key : ∀ (n i : Nat) (acc : List Val) (st : Store), n + i = xs.length + 1 → i ≤ xs.length → acc.length = i → I i acc st →
      ∃ ys st', lcN (Src.st xs).nxt t (xC (.bl true)) te ⟨ρ.base, wipeX ρ.vs ws⟩ n i acc st = .ok ys st' ∧ ys.length = xs.length ∧ I xs.length ys st' := by
    intro n
    induction n with
    | zero => intro i acc st h hi; omega
    | succ n ih =>
      intro i acc st h hi ha hI
      unfold lcN
      show ∃ ys st', (match some xs[i]? with
        | none => _
        | some none => _
        | some (some x) => _) = Res.ok ys st' ∧ _
      by_cases hlt : i < xs.length
      · have e : xs[i]? = some xs[i] := List.getElem?_eq_getElem hlt
        obtain ⟨vs, y, st', h1, h2, h3⟩ := step i _ acc st e hI
        rw [e]
        simp only [h1, xC, noX_ok, h2]
        rw [if_pos (by omega)]
        exact ih (i + 1) (acc ++ [y]) st' (by omega) hlt (by simp [ha]) h3
      · have e : xs[i]? = none := List.getElem?_eq_none (by omega)
        have hi2 : i = xs.length := by omega
        rw [e]
        exact ⟨acc, st, rfl, by omega, by rw [← hi2]; exact hI⟩
  obtain ⟨ys, st', h1, h2, h3⟩ := key (xs.length + 1) 0 [] st1 rfl (Nat.zero_le _) rfl h0
  refine ⟨ys, st', ?_, h2, h3⟩
  unfold xLc
  rw [hs, Res.bind_ok]
  show (lcN (Src.st xs).nxt t (xC (.bl true)) te ⟨ρ.base, wipeX ρ.vs ws⟩ (xs.length + 1) 0 [] st1).bind _ = _
  rw [h1]; rfl

/-! ### for, by an invariant; Q: what the loop may answer -/
theorem for_inv {t : Tg} {body : Sx} {b : Nat} {xs : List Val} (I : Nat → List (Option Val) → Store → Prop) (Q : SRes → Prop)
    (step : ∀ i x vs st, xs[i]? = some x → I i vs st → ∃ vs1, t.go x vs st = some vs1 ∧ match body ⟨b, vs1⟩ st with
      | .nx vs' st' => I (i + 1) vs' st'
      | .ct vs' st' => I (i + 1) vs' st'
      | .brk vs' st' => Q (.nx vs' st')
      | r => Q r)
    (hd : ∀ vs st, I xs.length vs st → Q (.nx vs st)) : ∀ (n i : Nat) (vs : List (Option Val)) (st : Store), n + i = xs.length + 1 → i ≤ xs.length → I i vs st → Q (forN (Src.st xs).nxt t body n i ⟨b, vs⟩ st)
  | 0, i, vs, st, h, hi, _ => by omega
  | n + 1, i, vs, st, h, hi, hI => by
    unfold forN
    show Q (match some xs[i]? with
      | none => _
      | some none => _
      | some (some x) => _)
    by_cases hlt : i < xs.length
    · have e : xs[i]? = some xs[i] := List.getElem?_eq_getElem hlt
      obtain ⟨vs1, h1, h2⟩ := step i _ vs st e hI
      rw [e]
      simp only
      rw [h1]
      simp only
      cases e2 : body ⟨b, vs1⟩ st with
      | nx vs' st' => rw [e2] at h2; exact for_inv I Q step hd n (i + 1) vs' st' (by omega) hlt h2
      | ct vs' st' => rw [e2] at h2; exact for_inv I Q step hd n (i + 1) vs' st' (by omega) hlt h2
      | brk vs' st' => rw [e2] at h2; exact h2
      | ret x st' => rw [e2] at h2; exact h2
      | exc c fs ys vs' st' => rw [e2] at h2; exact h2
      | stk => rw [e2] at h2; exact h2
    · have e : xs[i]? = none := List.getElem?_eq_none (by omega)
      rw [e]
      exact hd vs st (by have : i = xs.length := by omega
                         rw [← this]; exact hI)
theorem sFor_inv {t : Tg} {src : Ix} {body : Sx} {ρ : En} {st st1 : Store} {xs : List Val} (I : Nat → List (Option Val) → Store → Prop) (Q : SRes → Prop) (hs : src ρ st = .ok (.st xs) st1) (h0 : I 0 ρ.vs st1)
    (step : ∀ i x vs st, xs[i]? = some x → I i vs st → ∃ vs1, t.go x vs st = some vs1 ∧ match body ⟨ρ.base, vs1⟩ st with
      | .nx vs' st' => I (i + 1) vs' st'
      | .ct vs' st' => I (i + 1) vs' st'
      | .brk vs' st' => Q (.nx vs' st')
      | r => Q r)
    (hd : ∀ vs st, I xs.length vs st → Q (.nx vs st)) : Q (sFor t src body ρ st) := by
  unfold sFor
  rw [hs, lift_ok]
  exact for_inv I Q step hd (xs.length + 1) 0 ρ.vs st1 rfl (Nat.zero_le _) h0
/-! ### while -/
theorem while_inv {t : Ex} {body : Sx} {b : Nat} (I : Nat → List (Option Val) → Store → Prop) (Q : SRes → Prop)
    (step : ∀ m vs st, I m vs st → (∃ st1, t ⟨b, vs⟩ st = .ok (.bl false) st1 ∧ Q (.nx vs st1)) ∨ (∃ st1, t ⟨b, vs⟩ st = .ok (.bl true) st1 ∧ match body ⟨b, vs⟩ st1 with
      | .nx vs' st' => ∃ k, k < m ∧ I k vs' st'
      | .ct vs' st' => ∃ k, k < m ∧ I k vs' st'
      | .brk vs' st' => Q (.nx vs' st')
      | r => Q r)) : ∀ (n m : Nat) (vs : List (Option Val)) (st : Store), m < n → I m vs st → Q (whileN t body n ⟨b, vs⟩ st)
  | 0, m, vs, st, h, _ => by omega
  | n + 1, m, vs, st, h, hI => by
    unfold whileN
    rcases step m vs st hI with ⟨st1, h1, h2⟩ | ⟨st1, h1, h2⟩
    · rw [h1, lift_ok]; exact h2
    · rw [h1, lift_ok]
      simp only
      cases e2 : body ⟨b, vs⟩ st1 with
      | nx vs' st' => rw [e2] at h2; obtain ⟨k, hk, h2⟩ := h2; exact while_inv I Q step n k vs' st' (by omega) h2
      | ct vs' st' => rw [e2] at h2; obtain ⟨k, hk, h2⟩ := h2; exact while_inv I Q step n k vs' st' (by omega) h2
      | brk vs' st' => rw [e2] at h2; exact h2
      | ret x st' => rw [e2] at h2; exact h2
      | exc c fs ys vs' st' => rw [e2] at h2; exact h2
      | stk => rw [e2] at h2; exact h2
theorem sWhile_inv {t : Ex} {body : Sx} {ρ : En} {st : Store} (I : Nat → List (Option Val) → Store → Prop) (Q : SRes → Prop)
    (step : ∀ m vs st, I m vs st → (∃ st1, t ⟨ρ.base, vs⟩ st = .ok (.bl false) st1 ∧ Q (.nx vs st1)) ∨ (∃ st1, t ⟨ρ.base, vs⟩ st = .ok (.bl true) st1 ∧ match body ⟨ρ.base, vs⟩ st1 with
      | .nx vs' st' => ∃ k, k < m ∧ I k vs' st'
      | .ct vs' st' => ∃ k, k < m ∧ I k vs' st'
      | .brk vs' st' => Q (.nx vs' st')
      | r => Q r)) (m : Nat) (hm : m < FUEL) (h0 : I m ρ.vs st) : Q (sWhile t body ρ st) := while_inv I Q step FUEL m ρ.vs st hm h0

/-! ### sorting -/
theorem leV_tl : PySem.W.TotalLe leV := PySem.W.sortLe_total _ false _
theorem leV_trans (a b c : Val) (h1 : leV a b = true) (h2 : leV b c = true) : leV a c = true := leV_tl.trans a b c h1 h2
theorem leV_total (a b : Val) : (leV a b || leV b a) = true := by
  rcases leV_tl.total a b with h | h <;> rw [h] <;> simp
theorem leV_int (a b : Int) : leV (.int a) (.int b) = decide (a ≤ b) := by
  show (!(decide (b < a) || (!decide (a < b) && false))) = decide (a ≤ b)
  by_cases h : a ≤ b
  · have : ¬ b < a := by omega
    simp [h, this]
  · have : b < a := by omega
    simp [h, this]
theorem leV_pair {a b i j : Int} (h : leV (.tup [.int a, .int i]) (.tup [.int b, .int j]) = true) : a ≤ b := by
  have h' : (!(decide ((1 : Int) < 1) || (!decide ((1 : Int) < 1) && (decide (b < a) || (!decide (a < b) && (decide ((1 : Int) < 1) || (!decide ((1 : Int) < 1) && (decide (j < i) || (!decide (i < j) && (decide ((0 : Int) < 0) || (!decide ((0 : Int) < 0) && false))))))))))) = true := h
  by_cases hab : a ≤ b
  · exact hab
  · have : b < a := by omega
    simp [this] at h'
theorem sort_pairwise (xs : List Val) : (xs.mergeSort leV).Pairwise (fun a b => leV a b = true) := List.pairwise_mergeSort leV_trans leV_total xs
theorem sort_perm (xs : List Val) : (xs.mergeSort leV).Perm xs := List.mergeSort_perm xs leV

/-! ### one behind another -/
theorem sSeq_nx {f g : Sx} {ρ : En} {st st' : Store} {vs : List (Option Val)} (h : f ρ st = .nx vs st') : sSeq f g ρ st = g ⟨ρ.base, vs⟩ st' := by unfold sSeq; rw [h]
theorem sSeq_ret {f g : Sx} {ρ : En} {st st' : Store} {x : Val} (h : f ρ st = .ret x st') : sSeq f g ρ st = .ret x st' := by unfold sSeq; rw [h]
theorem sAsg_nm {i : Nat} {f : Ex} {ρ : En} {st st' : Store} {x : Val} (h : f ρ st = .ok x st') : sAsg (.nm i) f ρ st = .nx (ρ.vs.set i (some x)) st' := by unfold sAsg; rw [h]; rfl
theorem sRet_ok {f : Ex} {ρ : En} {st st' : Store} {x : Val} (h : f ρ st = .ok x st') : sRet f ρ st = .ret x st' := by unfold sRet; rw [h]; rfl
theorem sExpr_ok {f : Ex} {ρ : En} {st st' : Store} {x : Val} (h : f ρ st = .ok x st') : sExpr f ρ st = .nx ρ.vs st' := by unfold sExpr; rw [h]; rfl
theorem sIf_t {t : Ex} {f g : Sx} {ρ : En} {st st' : Store} (h : t ρ st = .ok (.bl true) st') : sIf t f g ρ st = f ρ st' := by unfold sIf; rw [h]; rfl
theorem sIf_f {t : Ex} {f g : Sx} {ρ : En} {st st' : Store} (h : t ρ st = .ok (.bl false) st') : sIf t f g ρ st = g ρ st' := by unfold sIf; rw [h]; rfl
theorem xR1_ok {f : Ex} {ρ : En} {st st' : Store} {n : Nat} (h : f ρ st = .ok (.int n) st') (hn : n ≤ 1000000) : xR1 f ρ st = .ok (.st (rngL 0 n)) st' := by
  unfold xR1; rw [h, Res.bind_ok]
  simp only
  have hh : -(2 ^ 62) ≤ (n : Int) ∧ (n : Int) < 2 ^ 62 := by
    have e : (2 : Int) ^ 62 = 4611686018427387904 := by decide
    rw [e]; omega
  rw [if_pos hh, Int.toNat_natCast]
theorem rngL_len (lo : Int) (n : Nat) : (rngL lo n).length = n := by unfold rngL; simp
theorem rngL_get {n i : Nat} {x : Val} (h : (rngL 0 n)[i]? = some x) : i < n ∧ x = .int (i : Nat) := by
  have hi : i < n := by rw [← rngL_len 0 n]; exact (List.getElem?_eq_some_iff.mp h).1
  refine ⟨hi, ?_⟩
  unfold rngL at h
  rw [List.getElem?_map, List.getElem?_range hi] at h
  simpa using h.symm
theorem rngL_mem {n : Nat} {x : Val} (h : x ∈ rngL 0 n) : ∃ i : Nat, i < n ∧ x = .int (i : Nat) := by
  obtain ⟨i, hi⟩ := List.mem_iff_getElem?.mp h
  exact ⟨i, rngL_get hi⟩
theorem xB_ok {op : O2} {f g : Ex} {ρ : En} {st st1 st2 : Store} {x y : Val} (h : f ρ st = .ok x st1) (h2 : g ρ st1 = .ok y st2) : xB op f g ρ st = op x y st2 := by unfold xB; rw [h, Res.bind_ok, h2, Res.bind_ok]
theorem xsE1_ok {f : Ex} {ρ : En} {st s1 : Store} {x : Val} (h : f ρ st = .ok x s1) : xsE [f] ρ st = .ok [x] s1 := by unfold xsE; rw [h]; rfl
theorem xsE_cons {f : Ex} {fs : List Ex} {ρ : En} {st s1 s2 : Store} {x : Val} {xs : List Val} (h : f ρ st = .ok x s1) (h2 : xsE fs ρ s1 = .ok xs s2) : xsE (f :: fs) ρ st = .ok (x :: xs) s2 := by
  conv => lhs; unfold xsE
  rw [h, Res.bind_ok, h2]; rfl
theorem xCl_ok {F : MF} {fs : List Ex} {ρ : En} {st s1 : Store} {xs : List Val} (h : xsE fs ρ st = .ok xs s1) : xCl F fs ρ st = F xs s1 := by unfold xCl; rw [h, Res.bind_ok]
theorem xCall_ok {F : MF} {fs : List Ex} {ρ : En} {st s1 : Store} {xs : List Val} (h : xsE fs ρ st = .ok xs s1) : xCall F fs ρ st = F xs s1 := by unfold xCall; rw [h, Res.bind_ok]
/-- the same, the body's end as an equation -/
theorem sFor_eq {t : Tg} {src : Ix} {body : Sx} {ρ : En} {st st1 : Store} {xs : List Val} (I : Nat → List (Option Val) → Store → Prop) (Q : SRes → Prop) (hs : src ρ st = .ok (.st xs) st1) (h0 : I 0 ρ.vs st1)
    (step : ∀ i x vs st, xs[i]? = some x → I i vs st → ∃ vs1, t.go x vs st = some vs1 ∧ ((∃ vs' st', body ⟨ρ.base, vs1⟩ st = .nx vs' st' ∧ I (i + 1) vs' st') ∨ (∃ vs' st', body ⟨ρ.base, vs1⟩ st = .brk vs' st' ∧ Q (.nx vs' st')) ∨ (∃ y st', body ⟨ρ.base, vs1⟩ st = .ret y st' ∧ Q (.ret y st'))))
    (hd : ∀ vs st, I xs.length vs st → Q (.nx vs st)) : Q (sFor t src body ρ st) :=
  sFor_inv I Q hs h0 (fun i x vs st hx hI => by
    obtain ⟨vs1, h1, h2⟩ := step i x vs st hx hI
    refine ⟨vs1, h1, ?_⟩
    rcases h2 with ⟨vs', st', e, h⟩ | ⟨vs', st', e, h⟩ | ⟨y, st', e, h⟩
    · rw [e]; exact h
    · rw [e]; exact h
    · rw [e]; exact h) hd
/-- the answer is that one -/
def Is (r0 r : SRes) : Prop := r = r0
end SW
set_option Elab.async false
set_option linter.all false
set_option maxRecDepth 100000
set_option maxHeartbeats 0
namespace K27
open PySem PySem.Spec PyProof.Rows L2 SW
def top (i : Nat) : Stmt := PySem.Challenge.pw_stacksaw_k27_whole_no_more_laths_can_be.main.body.getD i (.Pass ⟨0, 0, 0, 0⟩)
abbrev s__law_box : Stmt := (top 28)
abbrev s__law_cell : Stmt := (top 27)
abbrev s__law_excess : Stmt := (top 31)
abbrev s__law_fewest : Stmt := (top 32)
abbrev s__law_take : Stmt := (top 29)
abbrev s__law_whole : Stmt := (top 30)
abbrev s_is_integer : Stmt := (top 6)
abbrev s_is_list : Stmt := (top 7)
abbrev s_are_counts : Stmt := (top 13)
abbrev s_check_counts : Stmt := (top 14)
abbrev s_check_height : Stmt := (top 15)
abbrev s_check_strokes : Stmt := (top 16)
abbrev s_check_all : Stmt := (top 21)
abbrev s_beyond : Stmt := (top 17)
abbrev s_bars_at : Stmt := (top 19)
abbrev s_excesses : Stmt := (top 18)
abbrev s_least_bar : Stmt := (top 20)
abbrev s_bar : Stmt := (top 22)
abbrev s_by_count : Stmt := (top 24)
abbrev s_most_laths : Stmt := (top 25)
abbrev s_law : Stmt := (top 33)
def N__law_box : List Str := ["cell"]
def x__law_box : Sx := (sRet (xLst true [(xCall cMax2 [(xC (.int 0)), (xB oSub (xVar 0) (xB oPow (xC (.int 10)) (xC (.int 18))))]), (xB oMod (xVar 0) (xC (.int 2147483629))), (xC (.int 0))]))
def m__law_box : MF := fnM false 1 1 x__law_box
def N__law_cell : List Str := ["script", "k"]
def x__law_cell : Sx := (sSeq (sIf (xB oLt (xVar 1) (xCall cLen [(xVar 0)])) (sRet (xB oIx (xVar 0) (xVar 1))) sNext)
  (sRet (xB (oAdd false) (xB (oMul false) (xC (.int 141650939)) (xVar 1)) (xC (.int 67)))))
def m__law_cell : MF := fnM true 2 2 x__law_cell
def N__law_excess : List Str := ["counts", "level", "number"]
def x__law_excess : Sx := (sRet (xCall cSum [(xLc false (.nm 2) (xI srcL (xVar 0)) (xC (.bl true)) (xCall cMax2 [(xC (.int 0)), (xB oSub (xVar 2) (xB oShl (xC (.int 1)) (xVar 1)))]) [2])]))
def m__law_excess : MF := fnM true 2 3 x__law_excess
def N__law_fewest : List Str := ["counts", "stack", "most", "level", "more"]
def x__law_fewest : Sx := (sSeq (sAsg (.nm 2) (xC (.int 0)))
  (sSeq (sFor (.nm 3) (xR1 (xC (.int 110))) (sSeq (sAsg (.nm 4) (xCl m__law_excess [(xVar 0), (xVar 3)]))
  (sSeq (sIf (xB oEq (xVar 4) (xC (.int 0))) sBrk sNext)
  (sAsg (.nm 2) (xCall cMax2 [(xVar 2), (xB (oAdd false) (xVar 3) (xB oDiv (xB oSub (xB (oAdd false) (xVar 4) (xVar 1)) (xC (.int 1))) (xVar 1)))])))))
  (sRet (xVar 2))))
def m__law_fewest : MF := fnM true 2 5 x__law_fewest
def N__law_take : List Str := ["box", "many", "digit", "one", "two"]
def x__law_take : Sx := (sSeq (sIf (xB oGt (xB oIx (xVar 0) (xC (.int 0))) (xC (.int 0))) (sSeq (sAsg (.nm 2) (xB oMod (xB oIx (xVar 0) (xC (.int 0))) (xVar 1)))
  (sSeq (sPut (xVar 0) (xC (.int 0)) (xB oDiv (xB oIx (xVar 0) (xC (.int 0))) (xVar 1)))
  (sRet (xVar 2)))) sNext)
  (sSeq (sPut (xVar 0) (xC (.int 2)) (xB (oAdd false) (xB oIx (xVar 0) (xC (.int 2))) (xC (.int 1))))
  (sSeq (sAsg (.nm 3) (xB oMod (xB oPow (xB (oAdd false) (xB (oAdd false) (xB oIx (xVar 0) (xC (.int 1))) (xB (oMul false) (xC (.int 7919)) (xB oIx (xVar 0) (xC (.int 2))))) (xC (.int 67))) (xC (.int 5))) (xC (.int 2147483647))))
  (sSeq (sAsg (.nm 4) (xB oMod (xB oPow (xB (oAdd false) (xB (oAdd false) (xB oDiv (xVar 3) (xC (.int 8))) (xB (oMul false) (xB (oMul false) (xC (.int 104729)) (xB oIx (xVar 0) (xC (.int 2)))) (xB oIx (xVar 0) (xC (.int 2))))) (xC (.int 11))) (xC (.int 3))) (xC (.int 2147483587))))
  (sRet (xB oMod (xB (oAdd false) (xB oDiv (xVar 3) (xC (.int 4))) (xB (oMul false) (xC (.int 536870909)) (xB oDiv (xVar 4) (xC (.int 4))))) (xVar 1)))))))
def m__law_take : MF := fnM true 2 5 x__law_take
def N__law_whole : List Str := ["value", "low", "high"]
def x__law_whole : Sx := (sRet (xAnd (xIsi [] ["int"] (xVar 0)) (xAnd (xB oIsNot (xVar 0) (xC (.bl true))) (xAnd (xB oIsNot (xVar 0) (xC (.bl false))) (xCh oLe oLe (xVar 1) (xVar 0) (xVar 2))))))
def m__law_whole : MF := fnM true 3 3 x__law_whole
def N_is_integer : List Str := ["value", "low", "high"]
def x_is_integer : Sx := (sRet (xAnd (xIsi [] ["int"] (xVar 0)) (xAnd (xNot (xIsi [] ["bool"] (xVar 0))) (xCh oLe oLe (xVar 1) (xVar 0) (xVar 2)))))
def m_is_integer : MF := fnM true 3 3 x_is_integer
def N_is_list : List Str := ["value", "most"]
def x_is_list : Sx := (sRet (xAnd (xIsi [] ["list", "tuple"] (xVar 0)) (xB oLe (xCall cLen [(xVar 0)]) (xVar 1))))
def m_is_list : MF := fnM true 2 2 x_is_list
def N_are_counts : List Str := ["value", "number"]
def x_are_counts : Sx := (sRet (xAnd (xCl m_is_list [(xVar 0), (xC (.int 600))]) (xCall cAll [(xLc false (.nm 1) (xI srcL (xVar 0)) (xC (.bl true)) (xCl m_is_integer [(xVar 1), (xC (.int 1)), (xC (.int 1000000000000000000000000000000))]) [1])])))
def m_are_counts : MF := fnM true 1 2 x_are_counts
def N_check_counts : List Str := ["counts"]
def x_check_counts : Sx := (sIf (xNot (xCl m_are_counts [(xVar 0)])) sNever sNext)
def m_check_counts : MF := fnM true 1 1 x_check_counts
def N_check_height : List Str := ["stack"]
def x_check_height : Sx := (sIf (xNot (xCl m_is_integer [(xVar 0), (xC (.int 1)), (xC (.int 1000000000000000000000000000000))])) sNever sNext)
def m_check_height : MF := fnM true 1 1 x_check_height
def N_check_strokes : List Str := ["strokes", "most"]
def x_check_strokes : Sx := (sIf (xNot (xCl m_is_integer [(xVar 0), (xC (.int 0)), (xVar 1)])) sNever sNext)
def m_check_strokes : MF := fnM true 2 2 x_check_strokes
def N_check_all : List Str := ["counts", "stack", "strokes"]
def x_check_all : Sx := (sSeq (sExpr (xCl m_check_counts [(xVar 0)]))
  (sSeq (sExpr (xCl m_check_height [(xVar 1)]))
  (sExpr (xCl m_check_strokes [(xVar 2), (xC (.int 1000000000000000000000000000000000))]))))
def m_check_all : MF := fnM true 3 3 x_check_all
def N_beyond : List Str := ["counts", "level", "number"]
def x_beyond : Sx := (sRet (xCall cSum [(xLc false (.nm 2) (xI srcL (xVar 0)) (xC (.bl true)) (xCall cMax2 [(xC (.int 0)), (xB oSub (xVar 2) (xB oShl (xC (.int 1)) (xVar 1)))]) [2])]))
def m_beyond : MF := fnM true 2 3 x_beyond
def N_bars_at : List Str := ["counts", "stack", "strokes", "level"]
def x_bars_at : Sx := (sRet (xAnd (xB oLe (xVar 3) (xVar 2)) (xB oGt (xCl m_beyond [(xVar 0), (xVar 3)]) (xB (oMul false) (xVar 1) (xB oSub (xVar 2) (xVar 3))))))
def m_bars_at : MF := fnM true 4 4 x_bars_at
def N_excesses : List Str := ["counts", "found", "level"]
def x_excesses : Sx := (sSeq (sAsg (.nm 1) (xLst true []))
  (sSeq (sAsg (.nm 2) (xC (.int 0)))
  (sSeq (sWhile (xB oGt (xCl m_beyond [(xVar 0), (xVar 2)]) (xC (.int 0))) (sSeq (sExpr (xBM "list" mAppend (xVar 1) [(xCl m_beyond [(xVar 0), (xVar 2)])]))
  (sAsg (.nm 2) (xB (oAdd false) (xVar 2) (xC (.int 1))))))
  (sRet (xVar 1)))))
def m_excesses : MF := fnM true 1 3 x_excesses
def N_least_bar : List Str := ["counts", "stack", "strokes", "level"]
def x_least_bar : Sx := (sSeq (sFor (.nm 3) (xR1 (xCall cLen [(xCl m_excesses [(xVar 0)])])) (sIf (xCl m_bars_at [(xVar 0), (xVar 1), (xVar 2), (xVar 3)]) (sRet (xVar 3)) sNext))
  (sRet (xC .non)))
def m_least_bar : MF := fnM true 3 4 x_least_bar
def N_bar : List Str := ["counts", "stack", "strokes"]
def x_bar : Sx := (sSeq (sExpr (xCl m_check_all [(xVar 0), (xVar 1), (xVar 2)]))
  (sRet (xCl m_least_bar [(xVar 0), (xVar 1), (xVar 2)])))
def m_bar : MF := fnM true 3 3 x_bar
def N_by_count : List Str := ["counts", "pairs", "index", "number"]
def x_by_count : Sx := (sSeq (sAsg (.nm 1) (xCall cSorted [(xLc false (.tup [2, 3]) (xEnum (xVar 0)) (xC (.bl true)) (xTup [(xVar 3), (xVar 2)]) [2, 3])]))
  (sRet (xLc false (.tup [3, 2]) (xI srcL (xVar 1)) (xC (.bl true)) (xVar 2) [3, 2])))
def m_by_count : MF := fnM true 1 4 x_by_count
def N_most_laths : List Str := ["counts", "stack", "strokes", "order", "low", "high", "middle", "index"]
def x_most_laths : Sx := (sSeq (sExpr (xCl m_check_all [(xVar 0), (xVar 1), (xVar 2)]))
  (sSeq (sAsg (.nm 3) (xCl m_by_count [(xVar 0)]))
  (sSeq (sAsg (.nm 4) (xC (.int 0)))
  (sSeq (sAsg (.nm 5) (xCall cLen [(xVar 3)]))
  (sSeq (sWhile (xB oLt (xVar 4) (xVar 5)) (sSeq (sAsg (.nm 6) (xB oDiv (xB (oAdd false) (xB (oAdd false) (xVar 4) (xVar 5)) (xC (.int 1))) (xC (.int 2))))
  (sIf (xB oIs (xCl m_least_bar [(xLc false (.nm 7) (xI srcL (xSl false (xVar 3) none (some (xVar 6)))) (xC (.bl true)) (xB oIx (xVar 0) (xVar 7)) [7]), (xVar 1), (xVar 2)]) (xC .non)) (sAsg (.nm 4) (xVar 6)) (sAsg (.nm 5) (xB oSub (xVar 6) (xC (.int 1)))))))
  (sRet (xCall cSorted [(xSl false (xVar 3) none (some (xVar 4)))])))))))
def m_most_laths : MF := fnM true 3 8 x_most_laths
def N_law : List Str := ["script", "k", "box", "counts", "stack", "strokes", "result", "lot", "some", "turn", "index"]
def x_law : Sx := (sSeq (sFor (.nm 1) (xR1 (xCall cMax2 [(xC (.int 2)), (xCall cMin2 [(xC (.int 6)), (xCall cLen [(xVar 0)])])])) (sSeq (sAsg (.nm 2) (xCl m__law_box [(xCl m__law_cell [(xVar 0), (xVar 1)])]))
  (sSeq (sAsg (.nm 3) (xLc false (.nm 9) (xR1 (xB (oAdd false) (xC (.int 1)) (xCl m__law_take [(xVar 2), (xC (.int 7))]))) (xC (.bl true)) (xB (oAdd false) (xC (.int 1)) (xCl m__law_take [(xVar 2), (xB oIx (xLst false [(xC (.int 4)), (xC (.int 12)), (xC (.int 40))]) (xCl m__law_take [(xVar 2), (xC (.int 3))]))])) [9]))
  (sSeq (sAsg (.nm 4) (xB (oAdd false) (xC (.int 1)) (xCl m__law_take [(xVar 2), (xC (.int 5))])))
  (sSeq (sAsg (.nm 5) (xB oIx (xLst false [(xCl m__law_take [(xVar 2), (xC (.int 5))]), (xCl m__law_take [(xVar 2), (xC (.int 14))]), (xB oDiv (xCl m__law_fewest [(xVar 3), (xVar 4)]) (xC (.int 2)))]) (xCl m__law_take [(xVar 2), (xC (.int 3))])))
  (sSeq (sAsg (.nm 6) (xCl m_most_laths [(xCall (cList false) [(xVar 3)]), (xVar 4), (xVar 5)]))
  (sSeq (sIf (xOr (xNot (xIsi [] ["list"] (xVar 6))) (xB oNe (xLc false (.nm 10) (xI srcL (xVar 6)) (xNot (xCl m__law_whole [(xVar 10), (xC (.int 0)), (xB oSub (xCall cLen [(xVar 3)]) (xC (.int 1)))])) (xVar 10) [10]) (xLst false []))) (sRet (xC (.bl false))) sNext)
  (sSeq (sIf (xOr (xB oNe (xSset (xVar 6)) (xVar 6)) (xB oGt (xCl m__law_fewest [(xLc false (.nm 10) (xI srcL (xVar 6)) (xC (.bl true)) (xB oIx (xVar 3) (xVar 10)) [10]), (xVar 4)]) (xVar 5))) (sRet (xC (.bl false))) sNext)
  (sSeq (sIf (xB oIsNot (xCl m_bar [(xLc false (.nm 10) (xI srcL (xVar 6)) (xC (.bl true)) (xB oIx (xVar 3) (xVar 10)) [10]), (xVar 4), (xVar 5)]) (xC .non)) (sRet (xC (.bl false))) sNext)
  (sFor (.nm 7) (xR1 (xB oShl (xC (.int 1)) (xCall cLen [(xVar 3)]))) (sSeq (sAsg (.nm 8) (xLc false (.nm 10) (xR1 (xCall cLen [(xVar 3)])) (xB oEq (xB oAnd (xB oShr (xVar 7) (xVar 10)) (xC (.int 1))) (xC (.int 1))) (xB oIx (xVar 3) (xVar 10)) [10]))
  (sIf (xAnd (xB oGt (xCall cLen [(xVar 8)]) (xCall cLen [(xVar 6)])) (xB oLe (xCl m__law_fewest [(xVar 8), (xVar 4)]) (xVar 5))) (sRet (xC (.bl false))) sNext))))))))))))
  (sRet (xC (.bl true))))
def m_law : MF := fnM true 1 11 x_law
structure Tb (K : PySem.W.Frag) (mg : Str → Option Value) : Prop where
  f_all : mg "all" = none
  f_bool : mg "bool" = none
  f_enumerate : mg "enumerate" = none
  f_int : mg "int" = none
  f_isinstance : mg "isinstance" = none
  f_len : mg "len" = none
  f_list : mg "list" = none
  f_max : mg "max" = none
  f_min : mg "min" = none
  f_range : mg "range" = none
  f_set : mg "set" = none
  f_sorted : mg "sorted" = none
  f_sum : mg "sum" = none
  f_tuple : mg "tuple" = none
  i_GREATEST_COUNT : ∃ t, mg "GREATEST_COUNT" = some (.int 1000000000000000000000000000000 t)
  i_GREATEST_STACK : ∃ t, mg "GREATEST_STACK" = some (.int 1000000000000000000000000000000 t)
  i_MOST_COUNTS : ∃ t, mg "MOST_COUNTS" = some (.int 600 t)
  i_MOST_STROKES : ∃ t, mg "MOST_STROKES" = some (.int 1000000000000000000000000000000000 t)
  owns : Owns K mg []
  d__law_box : ∃ f fd, mg "_law_box" = some (.ref f) ∧ FunD K "_law_box" "_law_box" (defArgs s__law_box) (defBody s__law_box) (defScope s__law_box) [] [] f fd
  d__law_cell : ∃ f fd, mg "_law_cell" = some (.ref f) ∧ FunD K "_law_cell" "_law_cell" (defArgs s__law_cell) (defBody s__law_cell) (defScope s__law_cell) [] [] f fd
  d__law_excess : ∃ f fd, mg "_law_excess" = some (.ref f) ∧ FunD K "_law_excess" "_law_excess" (defArgs s__law_excess) (defBody s__law_excess) (defScope s__law_excess) [] [] f fd
  d__law_fewest : ∃ f fd, mg "_law_fewest" = some (.ref f) ∧ FunD K "_law_fewest" "_law_fewest" (defArgs s__law_fewest) (defBody s__law_fewest) (defScope s__law_fewest) [] [] f fd
  d__law_take : ∃ f fd, mg "_law_take" = some (.ref f) ∧ FunD K "_law_take" "_law_take" (defArgs s__law_take) (defBody s__law_take) (defScope s__law_take) [] [] f fd
  d__law_whole : ∃ f fd, mg "_law_whole" = some (.ref f) ∧ FunD K "_law_whole" "_law_whole" (defArgs s__law_whole) (defBody s__law_whole) (defScope s__law_whole) [] [] f fd
  d_is_integer : ∃ f fd, mg "is_integer" = some (.ref f) ∧ FunD K "is_integer" "is_integer" (defArgs s_is_integer) (defBody s_is_integer) (defScope s_is_integer) [] [] f fd
  d_is_list : ∃ f fd, mg "is_list" = some (.ref f) ∧ FunD K "is_list" "is_list" (defArgs s_is_list) (defBody s_is_list) (defScope s_is_list) [] [] f fd
  d_are_counts : ∃ f fd, mg "are_counts" = some (.ref f) ∧ FunD K "are_counts" "are_counts" (defArgs s_are_counts) (defBody s_are_counts) (defScope s_are_counts) [] [] f fd
  d_check_counts : ∃ f fd, mg "check_counts" = some (.ref f) ∧ FunD K "check_counts" "check_counts" (defArgs s_check_counts) (defBody s_check_counts) (defScope s_check_counts) [] [] f fd
  d_check_height : ∃ f fd, mg "check_height" = some (.ref f) ∧ FunD K "check_height" "check_height" (defArgs s_check_height) (defBody s_check_height) (defScope s_check_height) [] [] f fd
  d_check_strokes : ∃ f fd, mg "check_strokes" = some (.ref f) ∧ FunD K "check_strokes" "check_strokes" (defArgs s_check_strokes) (defBody s_check_strokes) (defScope s_check_strokes) [] [] f fd
  d_check_all : ∃ f fd, mg "check_all" = some (.ref f) ∧ FunD K "check_all" "check_all" (defArgs s_check_all) (defBody s_check_all) (defScope s_check_all) [] [] f fd
  d_beyond : ∃ f fd, mg "beyond" = some (.ref f) ∧ FunD K "beyond" "beyond" (defArgs s_beyond) (defBody s_beyond) (defScope s_beyond) [] [] f fd
  d_bars_at : ∃ f fd, mg "bars_at" = some (.ref f) ∧ FunD K "bars_at" "bars_at" (defArgs s_bars_at) (defBody s_bars_at) (defScope s_bars_at) [] [] f fd
  d_excesses : ∃ f fd, mg "excesses" = some (.ref f) ∧ FunD K "excesses" "excesses" (defArgs s_excesses) (defBody s_excesses) (defScope s_excesses) [] [] f fd
  d_least_bar : ∃ f fd, mg "least_bar" = some (.ref f) ∧ FunD K "least_bar" "least_bar" (defArgs s_least_bar) (defBody s_least_bar) (defScope s_least_bar) [] [] f fd
  d_bar : ∃ f fd, mg "bar" = some (.ref f) ∧ FunD K "bar" "bar" (defArgs s_bar) (defBody s_bar) (defScope s_bar) [] [] f fd
  d_by_count : ∃ f fd, mg "by_count" = some (.ref f) ∧ FunD K "by_count" "by_count" (defArgs s_by_count) (defBody s_by_count) (defScope s_by_count) [] [] f fd
  d_most_laths : ∃ f fd, mg "most_laths" = some (.ref f) ∧ FunD K "most_laths" "most_laths" (defArgs s_most_laths) (defBody s_most_laths) (defScope s_most_laths) [] [] f fd
  d_law : ∃ f fd, mg "law" = some (.ref f) ∧ FunD K "law" "law" (defArgs s_law) (defBody s_law) (defScope s_law) [] [] f fd
section
variable {P : Program} {w : World} {K : PySem.W.Frag} {mg : Str → Option Value} {base : Heap}
theorem sc__law_box : FnScope N__law_box ["cell"] (defScope s__law_box) := ⟨rfl, rfl, rfl, by decide +kernel, rfl, by decide +kernel, by decide +kernel⟩
theorem ok__law_box (T : Tb K mg) : Fn P w K mg base "_law_box" 1 m__law_box := by
  obtain ⟨f, fd, hm, F⟩ := T.d__law_box
  refine Fn.mk' hm F.kp (F.bindsN fun _ _ _ _ _ _ us hl => match us, hl with | [_], _ => rfl) fnM_ar (fn_ok false F sc__law_box fun cdv A outer s H E hr => ?_)
  exact (vss_one (vs_ret (ve_lst true (va_cons (ve_bi cs_max2 T.f_max bb_max (va_cons ve_int (va_cons (ve_bin os_sub (ve_var 0) (ve_bin os_pow ve_int ve_int)) va_nil))) (va_cons (ve_bin os_mod (ve_var 0) ve_int) (va_cons ve_int va_nil))))))
theorem sc__law_cell : FnScope N__law_cell ["script", "k"] (defScope s__law_cell) := ⟨rfl, rfl, rfl, by decide +kernel, rfl, by decide +kernel, by decide +kernel⟩
theorem ok__law_cell (T : Tb K mg) : Fn P w K mg base "_law_cell" 1 m__law_cell := by
  obtain ⟨f, fd, hm, F⟩ := T.d__law_cell
  refine Fn.mk' hm F.kp (F.bindsN fun _ _ _ _ _ _ us hl => match us, hl with | [_, _], _ => rfl) fnM_ar (fn_ok true F sc__law_cell fun cdv A outer s H E hr => ?_)
  exact (vss_cons (vs_if (vt_cmp os_lt (ve_var 1) (ve_bi cs_len T.f_len bb_len (va_cons (ve_var 0) va_nil))) (vss_one (vs_ret (ve_ix (ve_var 0) (ve_var 1)))) vss_nil)
    (vss_one (vs_ret (ve_bin (os_add false) (ve_bin (os_mul false) ve_int (ve_var 1)) ve_int))))
theorem sc__law_excess : FnScope N__law_excess ["counts", "level"] (defScope s__law_excess) := ⟨rfl, rfl, rfl, by decide +kernel, rfl, by decide +kernel, by decide +kernel⟩
theorem ok__law_excess (T : Tb K mg) : Fn P w K mg base "_law_excess" 1 m__law_excess := by
  obtain ⟨f, fd, hm, F⟩ := T.d__law_excess
  refine Fn.mk' hm F.kp (F.bindsN fun _ _ _ _ _ _ us hl => match us, hl with | [_, _], _ => rfl) fnM_ar (fn_ok true F sc__law_excess fun cdv A outer s H E hr => ?_)
  exact (vss_one (vs_ret (ve_bi cs_sum T.f_sum bb_sum (va_cons (ve_lc false sc__law_excess.nd (vi_seq (ve_var 0)) (blkOk_by (own := [("number", 2)]) (by show blkC N__law_excess (defScope s__law_excess) _ _ = true; decide +kernel)) (inn_nm (by decide)) (fun _ _ _ _ _ => (vg_nm 2 sc__law_excess.nd)) (fun _ _ _ _ _ => vts_nil) (fun _ _ _ _ _ => (ve_bi cs_max2 T.f_max bb_max (va_cons ve_int (va_cons (ve_bin os_sub (ve_var 2) (ve_bin os_shl ve_int (ve_var 1))) va_nil))))) va_nil))))
theorem sc__law_fewest : FnScope N__law_fewest ["counts", "stack"] (defScope s__law_fewest) := ⟨rfl, rfl, rfl, by decide +kernel, rfl, by decide +kernel, by decide +kernel⟩
theorem ok__law_fewest (T : Tb K mg) : Fn P w K mg base "_law_fewest" 2 m__law_fewest := by
  obtain ⟨f, fd, hm, F⟩ := T.d__law_fewest
  refine Fn.mk' hm F.kp (F.bindsN fun _ _ _ _ _ _ us hl => match us, hl with | [_, _], _ => rfl) fnM_ar (fn_ok true F sc__law_fewest fun cdv A outer s H E hr => ?_)
  exact (vss_cons (vs_set 2 sc__law_fewest.nd ve_int)
    (vss_cons (vs_for (passes_of rfl) (vg_nm 3 sc__law_fewest.nd) (vi_r1 T.f_range ve_int) (vss_cons (vs_set 4 sc__law_fewest.nd (ve_call ((ok__law_excess T).mono (by decide)) hr (va_cons (ve_var 0) (va_cons (ve_var 3) va_nil))))
    (vss_cons (vs_if (vt_cmp (os_eq hr) (ve_var 4) ve_int) (vss_one vs_brk) vss_nil)
    (vss_one (vs_set 2 sc__law_fewest.nd (ve_bi cs_max2 T.f_max bb_max (va_cons (ve_var 2) (va_cons (ve_bin (os_add false) (ve_var 3) (ve_bin os_div (ve_bin os_sub (ve_bin (os_add false) (ve_var 4) (ve_var 1)) ve_int) (ve_var 1))) va_nil))))))))
    (vss_one (vs_ret (ve_var 2)))))
theorem sc__law_take : FnScope N__law_take ["box", "many"] (defScope s__law_take) := ⟨rfl, rfl, rfl, by decide +kernel, rfl, by decide +kernel, by decide +kernel⟩
theorem ok__law_take (T : Tb K mg) : Fn P w K mg base "_law_take" 1 m__law_take := by
  obtain ⟨f, fd, hm, F⟩ := T.d__law_take
  refine Fn.mk' hm F.kp (F.bindsN fun _ _ _ _ _ _ us hl => match us, hl with | [_, _], _ => rfl) fnM_ar (fn_ok true F sc__law_take fun cdv A outer s H E hr => ?_)
  exact (vss_cons (vs_if (vt_cmp os_gt (ve_ix (ve_var 0) ve_int) ve_int) (vss_cons (vs_set 2 sc__law_take.nd (ve_bin os_mod (ve_ix (ve_var 0) ve_int) (ve_var 1)))
    (vss_cons (vs_put hr (ve_var 0) ve_int (ve_bin os_div (ve_ix (ve_var 0) ve_int) (ve_var 1)))
    (vss_one (vs_ret (ve_var 2))))) vss_nil)
    (vss_cons (vs_put hr (ve_var 0) ve_int (ve_bin (os_add false) (ve_ix (ve_var 0) ve_int) ve_int))
    (vss_cons (vs_set 3 sc__law_take.nd (ve_bin os_mod (ve_bin os_pow (ve_bin (os_add false) (ve_bin (os_add false) (ve_ix (ve_var 0) ve_int) (ve_bin (os_mul false) ve_int (ve_ix (ve_var 0) ve_int))) ve_int) ve_int) ve_int))
    (vss_cons (vs_set 4 sc__law_take.nd (ve_bin os_mod (ve_bin os_pow (ve_bin (os_add false) (ve_bin (os_add false) (ve_bin os_div (ve_var 3) ve_int) (ve_bin (os_mul false) (ve_bin (os_mul false) ve_int (ve_ix (ve_var 0) ve_int)) (ve_ix (ve_var 0) ve_int))) ve_int) ve_int) ve_int))
    (vss_one (vs_ret (ve_bin os_mod (ve_bin (os_add false) (ve_bin os_div (ve_var 3) ve_int) (ve_bin (os_mul false) ve_int (ve_bin os_div (ve_var 4) ve_int))) (ve_var 1))))))))
theorem sc__law_whole : FnScope N__law_whole ["value", "low", "high"] (defScope s__law_whole) := ⟨rfl, rfl, rfl, by decide +kernel, rfl, by decide +kernel, by decide +kernel⟩
theorem ok__law_whole (T : Tb K mg) : Fn P w K mg base "_law_whole" 1 m__law_whole := by
  obtain ⟨f, fd, hm, F⟩ := T.d__law_whole
  refine Fn.mk' hm F.kp (F.bindsN fun _ _ _ _ _ _ us hl => match us, hl with | [_, _, _], _ => rfl) fnM_ar (fn_ok true F sc__law_whole fun cdv A outer s H E hr => ?_)
  exact (vss_one (vs_ret (ve_and (ve_isi1 T.f_isinstance T.owns (ve_var 0) T.f_int bb_int) (ve_and (ve_cmp os_isnot (ve_var 0) ve_bl) (ve_and (ve_cmp os_isnot (ve_var 0) ve_bl) (ve_one (ve_chain os_le os_le (ve_var 1) (ve_var 0) (ve_var 2))))))))
theorem sc_is_integer : FnScope N_is_integer ["value", "low", "high"] (defScope s_is_integer) := ⟨rfl, rfl, rfl, by decide +kernel, rfl, by decide +kernel, by decide +kernel⟩
theorem ok_is_integer (T : Tb K mg) : Fn P w K mg base "is_integer" 1 m_is_integer := by
  obtain ⟨f, fd, hm, F⟩ := T.d_is_integer
  refine Fn.mk' hm F.kp (F.bindsN fun _ _ _ _ _ _ us hl => match us, hl with | [_, _, _], _ => rfl) fnM_ar (fn_ok true F sc_is_integer fun cdv A outer s H E hr => ?_)
  exact (vss_one (vs_ret (ve_and (ve_isi1 T.f_isinstance T.owns (ve_var 0) T.f_int bb_int) (ve_and (ve_not (ve_isi1 T.f_isinstance T.owns (ve_var 0) T.f_bool bb_bool)) (ve_one (ve_chain os_le os_le (ve_var 1) (ve_var 0) (ve_var 2)))))))
theorem sc_is_list : FnScope N_is_list ["value", "most"] (defScope s_is_list) := ⟨rfl, rfl, rfl, by decide +kernel, rfl, by decide +kernel, by decide +kernel⟩
theorem ok_is_list (T : Tb K mg) : Fn P w K mg base "is_list" 1 m_is_list := by
  obtain ⟨f, fd, hm, F⟩ := T.d_is_list
  refine Fn.mk' hm F.kp (F.bindsN fun _ _ _ _ _ _ us hl => match us, hl with | [_, _], _ => rfl) fnM_ar (fn_ok true F sc_is_list fun cdv A outer s H E hr => ?_)
  exact (vss_one (vs_ret (ve_and (ve_isi2 T.f_isinstance T.owns (ve_var 0) T.f_list bb_list T.f_tuple bb_tuple) (ve_one (ve_cmp os_le (ve_bi cs_len T.f_len bb_len (va_cons (ve_var 0) va_nil)) (ve_var 1))))))
theorem sc_are_counts : FnScope N_are_counts ["value"] (defScope s_are_counts) := ⟨rfl, rfl, rfl, by decide +kernel, rfl, by decide +kernel, by decide +kernel⟩
theorem ok_are_counts (T : Tb K mg) : Fn P w K mg base "are_counts" 2 m_are_counts := by
  obtain ⟨f, fd, hm, F⟩ := T.d_are_counts
  refine Fn.mk' hm F.kp (F.bindsN fun _ _ _ _ _ _ us hl => match us, hl with | [_], _ => rfl) fnM_ar (fn_ok true F sc_are_counts fun cdv A outer s H E hr => ?_)
  exact (vss_one (vs_ret (ve_and (ve_call ((ok_is_list T).mono (by decide)) hr (va_cons (ve_var 0) (va_cons (ve_gint T.i_MOST_COUNTS) va_nil))) (ve_one (ve_bi cs_all T.f_all bb_all (va_cons (ve_lc false sc_are_counts.nd (vi_seq (ve_var 0)) (blkOk_by (own := [("number", 1)]) (by show blkC N_are_counts (defScope s_are_counts) _ _ = true; decide +kernel)) (inn_nm (by decide)) (fun _ _ _ _ _ => (vg_nm 1 sc_are_counts.nd)) (fun _ _ _ _ _ => vts_nil) (fun _ _ _ _ _ => (ve_call ((ok_is_integer T).mono (by decide)) hr (va_cons (ve_var 1) (va_cons ve_int (va_cons (ve_gint T.i_GREATEST_COUNT) va_nil)))))) va_nil))))))
theorem sc_check_counts : FnScope N_check_counts ["counts"] (defScope s_check_counts) := ⟨rfl, rfl, rfl, by decide +kernel, rfl, by decide +kernel, by decide +kernel⟩
theorem ok_check_counts (T : Tb K mg) : Fn P w K mg base "check_counts" 3 m_check_counts := by
  obtain ⟨f, fd, hm, F⟩ := T.d_check_counts
  refine Fn.mk' hm F.kp (F.bindsN fun _ _ _ _ _ _ us hl => match us, hl with | [_], _ => rfl) fnM_ar (fn_ok true F sc_check_counts fun cdv A outer s H E hr => ?_)
  exact (vss_one (vs_if (vt_not (vt_val (ve_call ((ok_are_counts T).mono (by decide)) hr (va_cons (ve_var 0) va_nil)))) (vss_one vs_never) vss_nil))
theorem sc_check_height : FnScope N_check_height ["stack"] (defScope s_check_height) := ⟨rfl, rfl, rfl, by decide +kernel, rfl, by decide +kernel, by decide +kernel⟩
theorem ok_check_height (T : Tb K mg) : Fn P w K mg base "check_height" 2 m_check_height := by
  obtain ⟨f, fd, hm, F⟩ := T.d_check_height
  refine Fn.mk' hm F.kp (F.bindsN fun _ _ _ _ _ _ us hl => match us, hl with | [_], _ => rfl) fnM_ar (fn_ok true F sc_check_height fun cdv A outer s H E hr => ?_)
  exact (vss_one (vs_if (vt_not (vt_val (ve_call ((ok_is_integer T).mono (by decide)) hr (va_cons (ve_var 0) (va_cons ve_int (va_cons (ve_gint T.i_GREATEST_STACK) va_nil)))))) (vss_one vs_never) vss_nil))
theorem sc_check_strokes : FnScope N_check_strokes ["strokes", "most"] (defScope s_check_strokes) := ⟨rfl, rfl, rfl, by decide +kernel, rfl, by decide +kernel, by decide +kernel⟩
theorem ok_check_strokes (T : Tb K mg) : Fn P w K mg base "check_strokes" 2 m_check_strokes := by
  obtain ⟨f, fd, hm, F⟩ := T.d_check_strokes
  refine Fn.mk' hm F.kp (F.bindsN fun _ _ _ _ _ _ us hl => match us, hl with | [_, _], _ => rfl) fnM_ar (fn_ok true F sc_check_strokes fun cdv A outer s H E hr => ?_)
  exact (vss_one (vs_if (vt_not (vt_val (ve_call ((ok_is_integer T).mono (by decide)) hr (va_cons (ve_var 0) (va_cons ve_int (va_cons (ve_var 1) va_nil)))))) (vss_one vs_never) vss_nil))
theorem sc_check_all : FnScope N_check_all ["counts", "stack", "strokes"] (defScope s_check_all) := ⟨rfl, rfl, rfl, by decide +kernel, rfl, by decide +kernel, by decide +kernel⟩
theorem ok_check_all (T : Tb K mg) : Fn P w K mg base "check_all" 4 m_check_all := by
  obtain ⟨f, fd, hm, F⟩ := T.d_check_all
  refine Fn.mk' hm F.kp (F.bindsN fun _ _ _ _ _ _ us hl => match us, hl with | [_, _, _], _ => rfl) fnM_ar (fn_ok true F sc_check_all fun cdv A outer s H E hr => ?_)
  exact (vss_cons (vs_expr (ve_call ((ok_check_counts T).mono (by decide)) hr (va_cons (ve_var 0) va_nil)))
    (vss_cons (vs_expr (ve_call ((ok_check_height T).mono (by decide)) hr (va_cons (ve_var 1) va_nil)))
    (vss_one (vs_expr (ve_call ((ok_check_strokes T).mono (by decide)) hr (va_cons (ve_var 2) (va_cons (ve_gint T.i_MOST_STROKES) va_nil)))))))
theorem sc_beyond : FnScope N_beyond ["counts", "level"] (defScope s_beyond) := ⟨rfl, rfl, rfl, by decide +kernel, rfl, by decide +kernel, by decide +kernel⟩
theorem ok_beyond (T : Tb K mg) : Fn P w K mg base "beyond" 1 m_beyond := by
  obtain ⟨f, fd, hm, F⟩ := T.d_beyond
  refine Fn.mk' hm F.kp (F.bindsN fun _ _ _ _ _ _ us hl => match us, hl with | [_, _], _ => rfl) fnM_ar (fn_ok true F sc_beyond fun cdv A outer s H E hr => ?_)
  exact (vss_one (vs_ret (ve_bi cs_sum T.f_sum bb_sum (va_cons (ve_lc false sc_beyond.nd (vi_seq (ve_var 0)) (blkOk_by (own := [("number", 2)]) (by show blkC N_beyond (defScope s_beyond) _ _ = true; decide +kernel)) (inn_nm (by decide)) (fun _ _ _ _ _ => (vg_nm 2 sc_beyond.nd)) (fun _ _ _ _ _ => vts_nil) (fun _ _ _ _ _ => (ve_bi cs_max2 T.f_max bb_max (va_cons ve_int (va_cons (ve_bin os_sub (ve_var 2) (ve_bin os_shl ve_int (ve_var 1))) va_nil))))) va_nil))))
theorem sc_bars_at : FnScope N_bars_at ["counts", "stack", "strokes", "level"] (defScope s_bars_at) := ⟨rfl, rfl, rfl, by decide +kernel, rfl, by decide +kernel, by decide +kernel⟩
theorem ok_bars_at (T : Tb K mg) : Fn P w K mg base "bars_at" 2 m_bars_at := by
  obtain ⟨f, fd, hm, F⟩ := T.d_bars_at
  refine Fn.mk' hm F.kp (F.bindsN fun _ _ _ _ _ _ us hl => match us, hl with | [_, _, _, _], _ => rfl) fnM_ar (fn_ok true F sc_bars_at fun cdv A outer s H E hr => ?_)
  exact (vss_one (vs_ret (ve_and (ve_cmp os_le (ve_var 3) (ve_var 2)) (ve_one (ve_cmp os_gt (ve_call ((ok_beyond T).mono (by decide)) hr (va_cons (ve_var 0) (va_cons (ve_var 3) va_nil))) (ve_bin (os_mul false) (ve_var 1) (ve_bin os_sub (ve_var 2) (ve_var 3))))))))
theorem sc_excesses : FnScope N_excesses ["counts"] (defScope s_excesses) := ⟨rfl, rfl, rfl, by decide +kernel, rfl, by decide +kernel, by decide +kernel⟩
theorem ok_excesses (T : Tb K mg) : Fn P w K mg base "excesses" 2 m_excesses := by
  obtain ⟨f, fd, hm, F⟩ := T.d_excesses
  refine Fn.mk' hm F.kp (F.bindsN fun _ _ _ _ _ _ us hl => match us, hl with | [_], _ => rfl) fnM_ar (fn_ok true F sc_excesses fun cdv A outer s H E hr => ?_)
  exact (vss_cons (vs_set 1 sc_excesses.nd (ve_lst true va_nil))
    (vss_cons (vs_set 2 sc_excesses.nd ve_int)
    (vss_cons (vs_while (passes_of rfl) (vt_cmp os_gt (ve_call ((ok_beyond T).mono (by decide)) hr (va_cons (ve_var 0) (va_cons (ve_var 2) va_nil))) ve_int) (vss_cons (vs_expr (ve_append (fs := [(xCl m_beyond [(xVar 0), (xVar 2)])]) (ve_var 1) (ve_call ((ok_beyond T).mono (by decide)) hr (va_cons (ve_var 0) (va_cons (ve_var 2) va_nil)))))
    (vss_one (vs_set 2 sc_excesses.nd (ve_bin (os_add false) (ve_var 2) ve_int)))))
    (vss_one (vs_ret (ve_var 1))))))
theorem sc_least_bar : FnScope N_least_bar ["counts", "stack", "strokes"] (defScope s_least_bar) := ⟨rfl, rfl, rfl, by decide +kernel, rfl, by decide +kernel, by decide +kernel⟩
theorem ok_least_bar (T : Tb K mg) : Fn P w K mg base "least_bar" 3 m_least_bar := by
  obtain ⟨f, fd, hm, F⟩ := T.d_least_bar
  refine Fn.mk' hm F.kp (F.bindsN fun _ _ _ _ _ _ us hl => match us, hl with | [_, _, _], _ => rfl) fnM_ar (fn_ok true F sc_least_bar fun cdv A outer s H E hr => ?_)
  exact (vss_cons (vs_for (passes_of rfl) (vg_nm 3 sc_least_bar.nd) (vi_r1 T.f_range (ve_bi cs_len T.f_len bb_len (va_cons (ve_call ((ok_excesses T).mono (by decide)) hr (va_cons (ve_var 0) va_nil)) va_nil))) (vss_one (vs_if (vt_val (ve_call ((ok_bars_at T).mono (by decide)) hr (va_cons (ve_var 0) (va_cons (ve_var 1) (va_cons (ve_var 2) (va_cons (ve_var 3) va_nil)))))) (vss_one (vs_ret (ve_var 3))) vss_nil)))
    (vss_one (vs_ret ve_non)))
theorem sc_bar : FnScope N_bar ["counts", "stack", "strokes"] (defScope s_bar) := ⟨rfl, rfl, rfl, by decide +kernel, rfl, by decide +kernel, by decide +kernel⟩
theorem ok_bar (T : Tb K mg) : Fn P w K mg base "bar" 5 m_bar := by
  obtain ⟨f, fd, hm, F⟩ := T.d_bar
  refine Fn.mk' hm F.kp (F.bindsN fun _ _ _ _ _ _ us hl => match us, hl with | [_, _, _], _ => rfl) fnM_ar (fn_ok true F sc_bar fun cdv A outer s H E hr => ?_)
  exact (vss_cons (vs_expr (ve_call ((ok_check_all T).mono (by decide)) hr (va_cons (ve_var 0) (va_cons (ve_var 1) (va_cons (ve_var 2) va_nil)))))
    (vss_one (vs_ret (ve_call ((ok_least_bar T).mono (by decide)) hr (va_cons (ve_var 0) (va_cons (ve_var 1) (va_cons (ve_var 2) va_nil)))))))
theorem sc_by_count : FnScope N_by_count ["counts"] (defScope s_by_count) := ⟨rfl, rfl, rfl, by decide +kernel, rfl, by decide +kernel, by decide +kernel⟩
theorem ok_by_count (T : Tb K mg) : Fn P w K mg base "by_count" 1 m_by_count := by
  obtain ⟨f, fd, hm, F⟩ := T.d_by_count
  refine Fn.mk' hm F.kp (F.bindsN fun _ _ _ _ _ _ us hl => match us, hl with | [_], _ => rfl) fnM_ar (fn_ok true F sc_by_count fun cdv A outer s H E hr => ?_)
  exact (vss_cons (vs_set 1 sc_by_count.nd (ve_bi (cs_sorted hr) T.f_sorted bb_sorted (va_cons (ve_lc false sc_by_count.nd (vi_enum T.f_enumerate (ve_var 0)) (blkOk_by (own := [("index", 2), ("number", 3)]) (by show blkC N_by_count (defScope s_by_count) _ _ = true; decide +kernel)) (inn_tup (by decide)) (fun _ _ _ _ _ => (vg_tup (vgs_cons (vg_nm 2 sc_by_count.nd) (vgs_cons (vg_nm 3 sc_by_count.nd) vgs_nil)))) (fun _ _ _ _ _ => vts_nil) (fun _ _ _ _ _ => (ve_tup (va_cons (ve_var 3) (va_cons (ve_var 2) va_nil))))) va_nil)))
    (vss_one (vs_ret (ve_lc false sc_by_count.nd (vi_seq (ve_var 1)) (blkOk_by (own := [("number", 3), ("index", 2)]) (by show blkC N_by_count (defScope s_by_count) _ _ = true; decide +kernel)) (inn_tup (by decide)) (fun _ _ _ _ _ => (vg_tup (vgs_cons (vg_nm 3 sc_by_count.nd) (vgs_cons (vg_nm 2 sc_by_count.nd) vgs_nil)))) (fun _ _ _ _ _ => vts_nil) (fun _ _ _ _ _ => (ve_var 2))))))
theorem sc_most_laths : FnScope N_most_laths ["counts", "stack", "strokes"] (defScope s_most_laths) := ⟨rfl, rfl, rfl, by decide +kernel, rfl, by decide +kernel, by decide +kernel⟩
theorem ok_most_laths (T : Tb K mg) : Fn P w K mg base "most_laths" 5 m_most_laths := by
  obtain ⟨f, fd, hm, F⟩ := T.d_most_laths
  refine Fn.mk' hm F.kp (F.bindsN fun _ _ _ _ _ _ us hl => match us, hl with | [_, _, _], _ => rfl) fnM_ar (fn_ok true F sc_most_laths fun cdv A outer s H E hr => ?_)
  exact (vss_cons (vs_expr (ve_call ((ok_check_all T).mono (by decide)) hr (va_cons (ve_var 0) (va_cons (ve_var 1) (va_cons (ve_var 2) va_nil)))))
    (vss_cons (vs_set 3 sc_most_laths.nd (ve_call ((ok_by_count T).mono (by decide)) hr (va_cons (ve_var 0) va_nil)))
    (vss_cons (vs_set 4 sc_most_laths.nd ve_int)
    (vss_cons (vs_set 5 sc_most_laths.nd (ve_bi cs_len T.f_len bb_len (va_cons (ve_var 3) va_nil)))
    (vss_cons (vs_while (passes_of rfl) (vt_cmp os_lt (ve_var 4) (ve_var 5)) (vss_cons (vs_set 6 sc_most_laths.nd (ve_bin os_div (ve_bin (os_add false) (ve_bin (os_add false) (ve_var 4) (ve_var 5)) ve_int) ve_int))
    (vss_one (vs_if (vt_cmp os_is (ve_call ((ok_least_bar T).mono (by decide)) hr (va_cons (ve_lc false sc_most_laths.nd (vi_seq (ve_sl false (ve_var 3) vo_none (vo_some (ve_var 6)))) (blkOk_by (own := [("index", 7)]) (by show blkC N_most_laths (defScope s_most_laths) _ _ = true; decide +kernel)) (inn_nm (by decide)) (fun _ _ _ _ _ => (vg_nm 7 sc_most_laths.nd)) (fun _ _ _ _ _ => vts_nil) (fun _ _ _ _ _ => (ve_ix (ve_var 0) (ve_var 7)))) (va_cons (ve_var 1) (va_cons (ve_var 2) va_nil)))) ve_non) (vss_one (vs_set 4 sc_most_laths.nd (ve_var 6))) (vss_one (vs_set 5 sc_most_laths.nd (ve_bin os_sub (ve_var 6) ve_int)))))))
    (vss_one (vs_ret (ve_bi (cs_sorted hr) T.f_sorted bb_sorted (va_cons (ve_sl false (ve_var 3) vo_none (vo_some (ve_var 4))) va_nil)))))))))
theorem sc_law : FnScope N_law ["script"] (defScope s_law) := ⟨rfl, rfl, rfl, by decide +kernel, rfl, by decide +kernel, by decide +kernel⟩
theorem ok_law (T : Tb K mg) : Fn P w K mg base "law" 6 m_law := by
  obtain ⟨f, fd, hm, F⟩ := T.d_law
  refine Fn.mk' hm F.kp (F.bindsN fun _ _ _ _ _ _ us hl => match us, hl with | [_], _ => rfl) fnM_ar (fn_ok true F sc_law fun cdv A outer s H E hr => ?_)
  exact (vss_cons (vs_for (passes_of rfl) (vg_nm 1 sc_law.nd) (vi_r1 T.f_range (ve_bi cs_max2 T.f_max bb_max (va_cons ve_int (va_cons (ve_bi cs_min2 T.f_min bb_min (va_cons ve_int (va_cons (ve_bi cs_len T.f_len bb_len (va_cons (ve_var 0) va_nil)) va_nil))) va_nil)))) (vss_cons (vs_set 2 sc_law.nd (ve_call ((ok__law_box T).mono (by decide)) hr (va_cons (ve_call ((ok__law_cell T).mono (by decide)) hr (va_cons (ve_var 0) (va_cons (ve_var 1) va_nil))) va_nil)))
    (vss_cons (vs_set 3 sc_law.nd (ve_lc false sc_law.nd (vi_r1 T.f_range (ve_bin (os_add false) ve_int (ve_call ((ok__law_take T).mono (by decide)) hr (va_cons (ve_var 2) (va_cons ve_int va_nil))))) (blkOk_by (own := [("turn", 9)]) (by show blkC N_law (defScope s_law) _ _ = true; decide +kernel)) (inn_nm (by decide)) (fun _ _ _ _ _ => (vg_nm 9 sc_law.nd)) (fun _ _ _ _ _ => vts_nil) (fun _ _ _ _ _ => (ve_bin (os_add false) ve_int (ve_call ((ok__law_take T).mono (by decide)) hr (va_cons (ve_var 2) (va_cons (ve_ix (ve_lst false (va_cons ve_int (va_cons ve_int (va_cons ve_int va_nil)))) (ve_call ((ok__law_take T).mono (by decide)) hr (va_cons (ve_var 2) (va_cons ve_int va_nil)))) va_nil)))))))
    (vss_cons (vs_set 4 sc_law.nd (ve_bin (os_add false) ve_int (ve_call ((ok__law_take T).mono (by decide)) hr (va_cons (ve_var 2) (va_cons ve_int va_nil)))))
    (vss_cons (vs_set 5 sc_law.nd (ve_ix (ve_lst false (va_cons (ve_call ((ok__law_take T).mono (by decide)) hr (va_cons (ve_var 2) (va_cons ve_int va_nil))) (va_cons (ve_call ((ok__law_take T).mono (by decide)) hr (va_cons (ve_var 2) (va_cons ve_int va_nil))) (va_cons (ve_bin os_div (ve_call ((ok__law_fewest T).mono (by decide)) hr (va_cons (ve_var 3) (va_cons (ve_var 4) va_nil))) ve_int) va_nil)))) (ve_call ((ok__law_take T).mono (by decide)) hr (va_cons (ve_var 2) (va_cons ve_int va_nil)))))
    (vss_cons (vs_set 6 sc_law.nd (ve_call ((ok_most_laths T).mono (by decide)) hr (va_cons (ve_ty (cs_list false) T.f_list bb_list (va_cons (ve_var 3) va_nil)) (va_cons (ve_var 4) (va_cons (ve_var 5) va_nil)))))
    (vss_cons (vs_if (vt_w (vw_or (vt_not (vt_val (ve_isi1 T.f_isinstance T.owns (ve_var 6) T.f_list bb_list))) (vw_or1 (vt_cmp (os_ne hr) (ve_lc false sc_law.nd (vi_seq (ve_var 6)) (blkOk_by (own := [("index", 10)]) (by show blkC N_law (defScope s_law) _ _ = true; decide +kernel)) (inn_nm (by decide)) (fun _ _ _ _ _ => (vg_nm 10 sc_law.nd)) (fun _ _ _ _ _ => (vts_one (vt_not (vt_val (ve_call ((ok__law_whole T).mono (by decide)) hr (va_cons (ve_var 10) (va_cons ve_int (va_cons (ve_bin os_sub (ve_bi cs_len T.f_len bb_len (va_cons (ve_var 3) va_nil)) ve_int) va_nil)))))))) (fun _ _ _ _ _ => (ve_var 10))) (ve_lst false va_nil))))) (vss_one (vs_ret ve_bl)) vss_nil)
    (vss_cons (vs_if (vt_w (vw_or (vt_cmp (os_ne hr) (ve_sset T.f_sorted T.f_set (ve_var 6)) (ve_var 6)) (vw_or1 (vt_cmp os_gt (ve_call ((ok__law_fewest T).mono (by decide)) hr (va_cons (ve_lc false sc_law.nd (vi_seq (ve_var 6)) (blkOk_by (own := [("index", 10)]) (by show blkC N_law (defScope s_law) _ _ = true; decide +kernel)) (inn_nm (by decide)) (fun _ _ _ _ _ => (vg_nm 10 sc_law.nd)) (fun _ _ _ _ _ => vts_nil) (fun _ _ _ _ _ => (ve_ix (ve_var 3) (ve_var 10)))) (va_cons (ve_var 4) va_nil))) (ve_var 5))))) (vss_one (vs_ret ve_bl)) vss_nil)
    (vss_cons (vs_if (vt_cmp os_isnot (ve_call ((ok_bar T).mono (by decide)) hr (va_cons (ve_lc false sc_law.nd (vi_seq (ve_var 6)) (blkOk_by (own := [("index", 10)]) (by show blkC N_law (defScope s_law) _ _ = true; decide +kernel)) (inn_nm (by decide)) (fun _ _ _ _ _ => (vg_nm 10 sc_law.nd)) (fun _ _ _ _ _ => vts_nil) (fun _ _ _ _ _ => (ve_ix (ve_var 3) (ve_var 10)))) (va_cons (ve_var 4) (va_cons (ve_var 5) va_nil)))) ve_non) (vss_one (vs_ret ve_bl)) vss_nil)
    (vss_one (vs_for (passes_of rfl) (vg_nm 7 sc_law.nd) (vi_r1 T.f_range (ve_bin os_shl ve_int (ve_bi cs_len T.f_len bb_len (va_cons (ve_var 3) va_nil)))) (vss_cons (vs_setLc false 8 sc_law.nd (vi_r1 T.f_range (ve_bi cs_len T.f_len bb_len (va_cons (ve_var 3) va_nil))) (blkOk_by (own := [("index", 10)]) (by show blkC N_law (defScope s_law) _ _ = true; decide +kernel)) (inn_nm (by decide)) (fun _ _ _ _ _ => (vg_nm 10 sc_law.nd)) (fun _ _ _ _ _ => (vts_one (vt_cmp (os_eq hr) (ve_bin os_and (ve_bin os_shr (ve_var 7) (ve_var 10)) ve_int) ve_int))) (fun _ _ _ _ _ => (ve_ix (ve_var 3) (ve_var 10))) (sw_true rfl rfl (by decide) (by decide)))
    (vss_one (vs_if (vt_w (vw_and (vt_cmp os_gt (ve_bi cs_len T.f_len bb_len (va_cons (ve_var 8) va_nil)) (ve_bi cs_len T.f_len bb_len (va_cons (ve_var 6) va_nil))) (vw_and1 (vt_cmp os_le (ve_call ((ok__law_fewest T).mono (by decide)) hr (va_cons (ve_var 8) (va_cons (ve_var 4) va_nil))) (ve_var 5))))) (vss_one (vs_ret ve_bl)) vss_nil))))))))))))))
    (vss_one (vs_ret ve_bl)))
end
end K27
set_option Elab.async false
set_option linter.all false
set_option maxRecDepth 100000
namespace K27
open PySem PySem.Spec PyProof.Rows L2 SW

def iv (ns : List Int) : List Val := ns.map Val.int
def mx0 (x : Int) : Int := if x > 0 then x else 0
def bey (cs : List Int) (l : Nat) : Int := (cs.map fun c => mx0 (c - 2 ^ l)).sum
theorem iv_len (ns : List Int) : (iv ns).length = ns.length := by unfold iv; simp
theorem iv_mem {ns : List Int} {x : Val} (h : x ∈ iv ns) : ∃ c ∈ ns, x = .int c := by
  unfold iv at h
  obtain ⟨c, h1, h2⟩ := List.mem_map.mp h
  exact ⟨c, h1, h2.symm⟩
def gI (f : Int → Int) : Val → Val
  | .int c => .int (f c)
  | x => x
theorem gI_map (f : Int → Int) (ns : List Int) : (iv ns).map (gI f) = iv (ns.map f) := by
  unfold iv; rw [List.map_map, List.map_map]; rfl
@[simp] theorem intsOf_iv (ns : List Int) : intsOf (iv ns) = some ns := intsOf_map ns
theorem src_lst {f : Ex} {ρ : En} {st : Store} {xs : List Val} (h : f ρ st = .ok (.lst xs) st) : xI srcL f ρ st = .ok (.st xs) st := by
  unfold xI; rw [h]; rfl
theorem powC_small {l : Nat} (h : l ≤ 1000000) : powC 1 (l : Int) = true := by
  unfold powC; simp; omega
theorem run_beyond (cs : List Int) (l : Nat) (hl : l ≤ 1000000) (hc : cs.length ≤ sizeLine) (st : Store) : m_beyond [.lst (iv cs), .int (l : Nat)] st = .ok (.int (bey cs l)) st := by
  have run : m_beyond [.lst (iv cs), .int (l : Nat)] st = leaveR true st.length (x_beyond ⟨st.length, [some (.lst (iv cs)), some (.int (l : Nat)), none]⟩ st) := rfl
  have e1 : xLc false (.nm 2) (xI srcL (xVar 0)) (xC (.bl true)) (xCall cMax2 [(xC (.int 0)), (xB oSub (xVar 2) (xB oShl (xC (.int 1)) (xVar 1)))]) [2] ⟨st.length, [some (.lst (iv cs)), some (.int (l : Nat)), none]⟩ st
      = .ok (.lst ((iv cs).map (gI fun c => mx0 (c - 2 ^ l)))) st := by
    refine lc_map (G := fun x => [some (.lst (iv cs)), some (.int (l : Nat)), some x]) (src_lst rfl) (fun x _ => rfl) (fun x hx => ?_) (by rw [iv_len]; exact hc)
    obtain ⟨c, _, rfl⟩ := iv_mem hx
    simp [xCall, xsE, xC, xB, xVar, oSub, oShl, iop, powC_small hl, cMax2, gI, mx0]
  rw [run]
  have e2 : x_beyond ⟨st.length, [some (.lst (iv cs)), some (.int (l : Nat)), none]⟩ st = .ret (.int (bey cs l)) st := by
    unfold x_beyond sRet
    simp only [xCall, xsE]
    rw [e1, gI_map]
    simp [cSum, lintsOf, lstOf, bey]
  rw [e2, leave_flat rfl, take_all]
theorem run_excess (cs : List Int) (l : Nat) (hl : l ≤ 1000000) (hc : cs.length ≤ sizeLine) (st : Store) : m__law_excess [.lst (iv cs), .int (l : Nat)] st = .ok (.int (bey cs l)) st := run_beyond cs l hl hc st
theorem mx0_nn (x : Int) : 0 ≤ mx0 x := by unfold mx0; split <;> omega
theorem mx0_mono {x y : Int} (h : x ≤ y) : mx0 x ≤ mx0 y := by unfold mx0; split <;> split <;> omega
theorem sum_nn {α : Type} {f : α → Int} (h : ∀ x, 0 ≤ f x) : ∀ l : List α, 0 ≤ (l.map f).sum
  | [] => by simp
  | a :: l => by
    have := sum_nn h l
    have := h a
    simp; omega
theorem bey_nn (cs : List Int) (l : Nat) : 0 ≤ bey cs l := sum_nn (fun c => mx0_nn _) cs
theorem sum_mono {α : Type} {f g : α → Int} : ∀ l : List α, (∀ x ∈ l, f x ≤ g x) → (l.map f).sum ≤ (l.map g).sum
  | [], _ => by simp
  | a :: l, h => by
    have := sum_mono l fun x hx => h x (List.mem_cons_of_mem _ hx)
    have := h a List.mem_cons_self
    simp; omega
theorem pow_le {l k : Nat} (h : l ≤ k) : (2 : Int) ^ l ≤ 2 ^ k := by
  have h1 := Nat.pow_le_pow_right (n := 2) (by decide) h
  have h2 : ((2 ^ l : Nat) : Int) ≤ ((2 ^ k : Nat) : Int) := by exact_mod_cast h1
  simpa using h2
theorem bey_anti (cs : List Int) {l k : Nat} (h : l ≤ k) : bey cs k ≤ bey cs l := sum_mono cs fun c _ => mx0_mono (by have := pow_le h; omega)
theorem bey_top {cs : List Int} (h : ∀ c ∈ cs, c ≤ 64) : bey cs 6 = 0 := by
  have h1 : bey cs 6 ≤ (cs.map fun _ => (0 : Int)).sum := sum_mono cs fun c hc => by
    have := h c hc
    unfold mx0
    have e : (2 : Int) ^ 6 = 64 := by decide
    rw [e]
    rw [if_neg (by omega)]; exact Int.le_refl _
  have h2 := bey_nn cs 6
  have h3 : (cs.map fun _ => (0 : Int)).sum = 0 := by
    clear h h1 h2
    induction cs with
    | nil => rfl
    | cons a l ih => simp [ih]
  omega
/-- the number of levels -/
theorem levels {cs : List Int} (h : ∀ c ∈ cs, c ≤ 64) : ∃ L : Nat, L ≤ 6 ∧ bey cs L = 0 ∧ ∀ l < L, 0 < bey cs l := by
  have key : ∀ n : Nat, n ≤ 6 → bey cs n = 0 → ∃ L : Nat, L ≤ n ∧ bey cs L = 0 ∧ ∀ l < L, 0 < bey cs l := by
    intro n
    induction n with
    | zero => exact fun _ e => ⟨0, Nat.le_refl _, e, fun l hl => by omega⟩
    | succ n ih =>
      intro hn e
      by_cases e0 : bey cs n = 0
      · obtain ⟨L, h1, h2⟩ := ih (by omega) e0
        exact ⟨L, by omega, h2⟩
      · refine ⟨n + 1, Nat.le_refl _, e, fun l hl => ?_⟩
        have h1 := bey_anti cs (show l ≤ n by omega)
        have h2 := bey_nn cs n
        omega
  exact key 6 (Nat.le_refl _) (bey_top h)

def exs (cs : List Int) (n : Nat) : List Int := (List.range n).map (bey cs)
theorem exs_succ (cs : List Int) (n : Nat) : exs cs (n + 1) = exs cs n ++ [bey cs n] := by unfold exs; rw [List.range_succ]; simp
theorem iv_succ (cs : List Int) (n : Nat) : iv (exs cs (n + 1)) = iv (exs cs n) ++ [.int (bey cs n)] := by rw [exs_succ]; unfold iv; simp
theorem small_line {n : Nat} (h : n ≤ 1000) : n ≤ sizeLine := by rw [sizeLine_eq]; omega
theorem lt_line {n : Nat} (h : n ≤ 1000) : n < sizeLine := by rw [sizeLine_eq]; omega
theorem run_excesses {cs : List Int} (hc : cs.length ≤ 1000) {L : Nat} (hL : L ≤ 6) (h0 : bey cs L = 0) (hp : ∀ l < L, 0 < bey cs l) (st : Store) : m_excesses [.lst (iv cs)] st = .ok (.lst (iv (exs cs L))) st := by
  have run : m_excesses [.lst (iv cs)] st = leaveR true st.length (x_excesses ⟨st.length, [some (.lst (iv cs)), none, none]⟩ st) := rfl
  have hcl := small_line hc
  have e3 : Is (.nx [some (.lst (iv cs)), some (.ref st.length), some (.int L)] (st ++ [.lst (iv (exs cs L))])) (sWhile (xB oGt (xCl m_beyond [(xVar 0), (xVar 2)]) (xC (.int 0))) (sSeq (sExpr (xBM "list" mAppend (xVar 1) [(xCl m_beyond [(xVar 0), (xVar 2)])])) (sAsg (.nm 2) (xB (oAdd false) (xVar 2) (xC (.int 1)))))
      ⟨st.length, [some (.lst (iv cs)), some (.ref st.length), some (.int 0)]⟩ (st ++ [.lst []])) := by
    refine sWhile_inv (fun m vs s => ∃ l : Nat, l + m = L ∧ vs = [some (.lst (iv cs)), some (.ref st.length), some (.int l)] ∧ s = st ++ [.lst (iv (exs cs l))]) _
      ?_ L (by unfold FUEL; omega) ⟨0, by omega, rfl, rfl⟩
    rintro m vs s ⟨l, hl, rfl, rfl⟩
    have hb : ∀ s, m_beyond [.lst (iv cs), .int (l : Nat)] s = .ok (.int (bey cs l)) s := fun s => run_beyond cs l (by omega) hcl s
    have ht : (xB oGt (xCl m_beyond [(xVar 0), (xVar 2)]) (xC (.int 0))) ⟨st.length, [some (.lst (iv cs)), some (.ref st.length), some (.int l)]⟩ (st ++ [.lst (iv (exs cs l))]) = .ok (.bl (decide (0 < bey cs l))) (st ++ [.lst (iv (exs cs l))]) := by
      simp [xB, xCl, xsE, xVar, xC, hb, oGt, ibop]
    by_cases hlt : l < L
    · refine .inr ⟨_, by rw [ht, show decide (0 < bey cs l) = true from decide_eq_true (hp l hlt)], ?_⟩
      have hlen : (exs cs l).length < sizeLine := by unfold exs; simp; exact lt_line (by omega)
      have hlen2 : (iv (exs cs l)).length < sizeLine := by rw [iv_len]; exact hlen
      have e4 : (sSeq (sExpr (xBM "list" mAppend (xVar 1) [(xCl m_beyond [(xVar 0), (xVar 2)])])) (sAsg (.nm 2) (xB (oAdd false) (xVar 2) (xC (.int 1))))) ⟨st.length, [some (.lst (iv cs)), some (.ref st.length), some (.int l)]⟩ (st ++ [.lst (iv (exs cs l))])
          = .nx [some (.lst (iv cs)), some (.ref st.length), some (.int (l + 1))] (st ++ [.lst (iv (exs cs (l + 1)))]) := by
        simp [sSeq, sExpr, xBM, xVar, tyN, tyO, notScr, xsE, xCl, hb, mAppend, hlen2, chL, sAsg, Tg.go, xB, xC, oAdd, iv_succ]
      show match sSeq _ _ _ _ with
        | .nx vs' st' => _
        | .ct vs' st' => _
        | .brk vs' st' => _
        | r => _
      rw [e4]
      exact ⟨m - 1, by omega, l + 1, by omega, by push_cast; rfl, rfl⟩
    · have : l = L := by omega
      subst this
      exact .inl ⟨_, by rw [ht, h0]; rfl, rfl⟩
  have e2 : x_excesses ⟨st.length, [some (.lst (iv cs)), none, none]⟩ st = .ret (.ref st.length) (st ++ [.lst (iv (exs cs L))]) := by
    unfold x_excesses
    rw [sSeq_nx (sAsg_nm (x := .ref st.length) (st' := st ++ [.lst []]) (by simp [xLst, xsE, mkL])), sSeq_nx (sAsg_nm (x := .int 0) (st' := st ++ [.lst []]) rfl)]
    exact (sSeq_nx e3).trans rfl
  rw [run, e2, leave_list (xs := iv (exs cs L)) (Nat.le_refl _) (by simp) (bels_ints _ _), take_app]
/-- can be sawn -/
def Feas (cs : List Int) (s t : Int) : Prop := ∀ l : Nat, (l : Int) ≤ t → bey cs l ≤ s * (t - l)
theorem run_bars {cs : List Int} (hc : cs.length ≤ 1000) {s t : Int} (hs : 0 < s ∧ s ≤ 5) {l : Nat} (hl : l ≤ 1000) (st : Store) : m_bars_at [.lst (iv cs), .int s, .int t, .int (l : Nat)] st = .ok (.bl (decide ((l : Int) ≤ t) && decide (s * (t - l) < bey cs l))) st := by
  have run : m_bars_at [.lst (iv cs), .int s, .int t, .int (l : Nat)] st = leaveR true st.length (x_bars_at ⟨st.length, [some (.lst (iv cs)), some (.int s), some (.int t), some (.int (l : Nat))]⟩ st) := rfl
  have hb : ∀ st, m_beyond [.lst (iv cs), .int (l : Nat)] st = .ok (.int (bey cs l)) st := fun st => run_beyond cs l (by omega) (small_line hc) st
  have hm : mulC s (t - l) = true := by unfold mulC; simp; omega
  have e : x_bars_at ⟨st.length, [some (.lst (iv cs)), some (.int s), some (.int t), some (.int (l : Nat))]⟩ st = .ret (.bl (decide ((l : Int) ≤ t) && decide (s * (t - l) < bey cs l))) st := by
    by_cases h : (l : Int) ≤ t
    · simp [x_bars_at, sRet, xAnd, xB, xVar, oLe, oGt, ibop, xCl, xsE, hb, oMul, hm, oSub, iop, h]
    · simp [x_bars_at, sRet, xAnd, xB, xVar, oLe, oGt, ibop, xCl, xsE, hb, oMul, hm, oSub, iop, h]
  rw [run, e, leave_flat rfl, take_all]
def QL (cs : List Int) (s t : Int) (st : Store) (r : SRes) : Prop := (∃ l : Int, r = .ret (.int l) st ∧ ¬ Feas cs s t) ∨ (∃ vs, r = .nx vs st ∧ Feas cs s t)
theorem run_least {cs : List Int} (hc : cs.length ≤ 1000) (h64 : ∀ c ∈ cs, c ≤ 64) {s t : Int} (hs : 0 < s ∧ s ≤ 5) (st : Store) : ∃ r, m_least_bar [.lst (iv cs), .int s, .int t] st = .ok r st ∧ ((r = .non ∧ Feas cs s t) ∨ ((∃ l, r = .int l) ∧ ¬ Feas cs s t)) := by
  obtain ⟨L, hL, h0, hp⟩ := levels h64
  have run : m_least_bar [.lst (iv cs), .int s, .int t] st = leaveR true st.length (x_least_bar ⟨st.length, [some (.lst (iv cs)), some (.int s), some (.int t), none]⟩ st) := rfl
  have he : ∀ st, m_excesses [.lst (iv cs)] st = .ok (.lst (iv (exs cs L))) st := fun st => run_excesses hc hL h0 hp st
  have hlen : (iv (exs cs L)).length = L := by rw [iv_len]; unfold exs; simp
  have hsrc : xR1 (xCall cLen [(xCl m_excesses [(xVar 0)])]) ⟨st.length, [some (.lst (iv cs)), some (.int s), some (.int t), none]⟩ st = .ok (.st (rngL 0 L)) st := by
    refine xR1_ok ?_ (by omega)
    simp [xCall, xsE, xCl, xVar, he, cLen, lstOf, hlen]
  have key : QL cs s t st (sFor (.nm 3) (xR1 (xCall cLen [(xCl m_excesses [(xVar 0)])])) (sIf (xCl m_bars_at [(xVar 0), (xVar 1), (xVar 2), (xVar 3)]) (sRet (xVar 3)) sNext) ⟨st.length, [some (.lst (iv cs)), some (.int s), some (.int t), none]⟩ st) := by
    refine sFor_inv (fun i vs s' => s' = st ∧ (∃ o, vs = [some (.lst (iv cs)), some (.int s), some (.int t), o]) ∧ ∀ l < i, ¬ ((l : Int) ≤ t ∧ s * (t - l) < bey cs l)) _ hsrc ⟨rfl, ⟨_, rfl⟩, fun l hl => by omega⟩ ?_ ?_
    · rintro i x vs s' hx ⟨rfl, ⟨o, rfl⟩, hi⟩
      obtain ⟨hil, rfl⟩ := rngL_get hx
      refine ⟨[some (.lst (iv cs)), some (.int s), some (.int t), some (.int (i : Nat))], rfl, ?_⟩
      have hb := run_bars (t := t) hc hs (l := i) (by omega) s'
      have hbody : sIf (xCl m_bars_at [(xVar 0), (xVar 1), (xVar 2), (xVar 3)]) (sRet (xVar 3)) sNext ⟨s'.length, [some (.lst (iv cs)), some (.int s), some (.int t), some (.int (i : Nat))]⟩ s'
          = if (i : Int) ≤ t ∧ s * (t - i) < bey cs i then .ret (.int (i : Nat)) s' else .nx [some (.lst (iv cs)), some (.int s), some (.int t), some (.int (i : Nat))] s' := by
        by_cases h1 : (i : Int) ≤ t
        · by_cases h2 : s * (t - i) < bey cs i
          · simp [sIf, xCl, xsE, xVar, hb, h1, h2, sRet]
          · simp [sIf, xCl, xsE, xVar, hb, h1, h2, sNext]
        · simp [sIf, xCl, xsE, xVar, hb, h1, sNext]
      show match sIf _ _ _ _ _ with
        | .nx vs' st' => _
        | .ct vs' st' => _
        | .brk vs' st' => _
        | r => _
      rw [hbody]
      by_cases h : (i : Int) ≤ t ∧ s * (t - i) < bey cs i
      · rw [if_pos h]
        refine .inl ⟨_, rfl, fun hf => ?_⟩
        have := hf i h.1
        omega
      · rw [if_neg h]
        refine ⟨rfl, ⟨_, rfl⟩, fun l hl => ?_⟩
        by_cases hli : l = i
        · subst hli; exact h
        · exact hi l (by omega)
    · rintro vs s' ⟨rfl, ⟨o, rfl⟩, hi⟩
      refine .inr ⟨_, rfl, fun l hl => ?_⟩
      rw [rngL_len] at hi
      by_cases hlL : l < L
      · have := hi l hlL
        omega
      · have h1 := bey_anti cs (show L ≤ l by omega)
        have : 0 ≤ s * (t - l) := Int.mul_nonneg (by omega) (by omega)
        omega
  rcases key with ⟨l, hx, hf⟩ | ⟨vs, hx, hf⟩
  · exact ⟨.int l, by rw [run]; unfold x_least_bar; rw [sSeq_ret hx, leave_flat rfl, take_all], .inr ⟨⟨_, rfl⟩, hf⟩⟩
  · exact ⟨.non, by rw [run]; unfold x_least_bar; rw [sSeq_nx hx]; show leaveR true st.length (.ret .non st) = _; rw [leave_flat rfl, take_all], .inl ⟨rfl, hf⟩⟩
end K27
set_option Elab.async false
set_option linter.all false
set_option maxRecDepth 100000
namespace K27
open PySem PySem.Spec PyProof.Rows L2 SW

/-! ### equal lists of ints -/
theorem toDs_iv : ∀ ns : List Int, toDs (iv ns) = some (ns.map PyData.int)
  | [] => rfl
  | n :: ns => by
    show (match toD (.int n), toDs (iv ns) with
      | some d, some ds => some (d :: ds)
      | _, _ => none) = _
    rw [toDs_iv ns]; rfl
theorem lay_ints : ∀ ns : List Int, PyData.canLayAll0 (ns.map PyData.int) = true
  | [] => by rw [List.map_nil, PyData.canLayAll0]
  | n :: ns => by rw [List.map_cons, PyData.canLayAll0, lay_ints ns, PyData.canLay0]; rfl
theorem depth_ints : ∀ ns : List Int, PyData.depthAll (ns.map PyData.int) ≤ 1
  | [] => by rw [List.map_nil, PyData.depthAll]; omega
  | n :: ns => by
    have := depth_ints ns
    rw [List.map_cons, PyData.depthAll, PyData.depth]; omega
theorem shaped_ints (ns : List Int) : SeqAt.shaped (.list (ns.map PyData.int)) = true := by
  have := depth_ints ns
  unfold SeqAt.shaped
  rw [PyData.canLay0, lay_ints ns, PyData.depth]
  simp; omega
theorem eqv_ints : ∀ ns : List Int, PyData.eqvAll (ns.map PyData.int) (ns.map PyData.int) = true
  | [] => by rw [List.map_nil, PyData.eqvAll]
  | n :: ns => by rw [List.map_cons, PyData.eqvAll, eqv_ints ns, PyData.eqv]; simp
theorem ne_same (ns : List Int) (st : Store) : oNe (.lst (iv ns)) (.lst (iv ns)) st = .ok (.bl false) st := by
  have e : datOf st (.lst (iv ns)) = some (.list (ns.map PyData.int)) := by
    show (toDs (iv ns)).map PyData.list = _
    rw [toDs_iv]; rfl
  unfold oNe eqD
  rw [e]
  simp only [shaped_ints, and_self, if_true, PyData.eqv, eqv_ints]
  rfl
theorem eq_int (st : Store) (a b : Int) : oEq (.int a) (.int b) st = .ok (.bl (a == b)) st := rfl

/-! ### the law's fewest strokes -/
theorem cdiv_le {b s q : Int} (hs : 0 < s) : (b + s - 1) / s ≤ q ↔ b ≤ s * q := by
  constructor
  · intro h
    have h1 : (b + s - 1) / s < q + 1 := by omega
    have h2 := (Int.ediv_lt_iff_lt_mul hs).mp h1
    have e : (q + 1) * s = s * q + s := by rw [Int.add_mul, Int.mul_comm q s, Int.one_mul]
    omega
  · intro h
    have h1 : (b + s - 1) / s < q + 1 := (Int.ediv_lt_iff_lt_mul hs).mpr (by
      have e : (q + 1) * s = s * q + s := by rw [Int.add_mul, Int.mul_comm q s, Int.one_mul]
      omega)
    omega
def fwBody : Sx := (sSeq (sAsg (.nm 4) (xCl m__law_excess [(xVar 0), (xVar 3)]))
  (sSeq (sIf (xB oEq (xVar 4) (xC (.int 0))) sBrk sNext)
  (sAsg (.nm 2) (xCall cMax2 [(xVar 2), (xB (oAdd false) (xVar 3) (xB oDiv (xB oSub (xB (oAdd false) (xVar 4) (xVar 1)) (xC (.int 1))) (xVar 1)))]))))
def QF (cs : List Int) (s : Int) (st : Store) (r : SRes) : Prop := ∃ (v : Int) (o1 o2 : Option Val), r = .nx [some (.lst (iv cs)), some (.int s), some (.int v), o1, o2] st ∧ 0 ≤ v ∧ ∀ t : Int, 0 ≤ t → (v ≤ t ↔ Feas cs s t)
theorem run_fewest {cs : List Int} (hc : cs.length ≤ 1000) (h64 : ∀ c ∈ cs, c ≤ 64) {s : Int} (hs : 0 < s ∧ s ≤ 5) (st : Store) :
    ∃ v : Int, m__law_fewest [.lst (iv cs), .int s] st = .ok (.int v) st ∧ 0 ≤ v ∧ ∀ t : Int, 0 ≤ t → (v ≤ t ↔ Feas cs s t) := by
  obtain ⟨L, hL, h0, hp⟩ := levels h64
  have run : m__law_fewest [.lst (iv cs), .int s] st = leaveR true st.length (x__law_fewest ⟨st.length, [some (.lst (iv cs)), some (.int s), none, none, none]⟩ st) := rfl
  have key : QF cs s st (sFor (.nm 3) (xR1 (xC (.int 110))) fwBody ⟨st.length, [some (.lst (iv cs)), some (.int s), some (.int 0), none, none]⟩ st) := by
    refine sFor_inv (xs := rngL 0 110) (fun i vs s' => s' = st ∧ i ≤ L ∧ ∃ (v : Int) (o1 o2 : Option Val), vs = [some (.lst (iv cs)), some (.int s), some (.int v), o1, o2] ∧ 0 ≤ v ∧ ∀ t : Int, 0 ≤ t → (v ≤ t ↔ ∀ l < i, bey cs l ≤ s * (t - l))) _ (xR1_ok (n := 110) rfl (by decide)) ⟨rfl, Nat.zero_le _, 0, none, none, rfl, Int.le_refl _, fun t ht => ⟨fun _ l hl => by omega, fun _ => ht⟩⟩ ?_ ?_
    · rintro i x vs s' hx ⟨rfl, hiL, v, o1, o2, rfl, hv, hi⟩
      obtain ⟨hil, rfl⟩ := rngL_get hx
      refine ⟨[some (.lst (iv cs)), some (.int s), some (.int v), some (.int (i : Nat)), o2], rfl, ?_⟩
      have hb : ∀ st, m__law_excess [.lst (iv cs), .int (i : Nat)] st = .ok (.int (bey cs i)) st := fun st => run_excess cs i (by omega) (small_line hc) st
      have e1 : (sAsg (.nm 4) (xCl m__law_excess [(xVar 0), (xVar 3)])) ⟨s'.length, [some (.lst (iv cs)), some (.int s), some (.int v), some (.int (i : Nat)), o2]⟩ s' = .nx [some (.lst (iv cs)), some (.int s), some (.int v), some (.int (i : Nat)), some (.int (bey cs i))] s' := by
        simp [sAsg, xCl, xsE, xVar, hb, Tg.go]
      by_cases hi0 : bey cs i = 0
      · have e2 : fwBody ⟨s'.length, [some (.lst (iv cs)), some (.int s), some (.int v), some (.int (i : Nat)), o2]⟩ s' = .brk [some (.lst (iv cs)), some (.int s), some (.int v), some (.int (i : Nat)), some (.int (bey cs i))] s' := by
          unfold fwBody
          rw [sSeq_nx e1]
          simp [sSeq, sIf, xB, xVar, xC, eq_int, hi0, sBrk]
        show match fwBody _ _ with
          | .nx vs' st' => _
          | .ct vs' st' => _
          | .brk vs' st' => _
          | r => _
        rw [e2]
        have hiL2 : i = L := by
          by_cases h : i < L
          · have := hp i h; omega
          · omega
        subst hiL2
        refine ⟨v, _, _, rfl, hv, fun t ht => (hi t ht).trans ⟨fun h l hl => ?_, fun h l hl => ?_⟩⟩
        · by_cases hlL : l < i
          · exact h l hlL
          · have h1 := bey_anti cs (show i ≤ l by omega)
            have : 0 ≤ s * (t - l) := Int.mul_nonneg (by omega) (by omega)
            omega
        · by_cases hlt : (l : Int) ≤ t
          · exact h l hlt
          · exfalso
            have h1 := h t.toNat (by omega)
            have h2 := hp t.toNat (by omega)
            have h3 : s * (t - (t.toNat : Int)) = 0 := by rw [Int.toNat_of_nonneg ht, Int.sub_self, Int.mul_zero]
            omega
      · have hpi : 0 < bey cs i := by have := bey_nn cs i; omega
        have hd : 0 < s ∧ s < 1073741824 := by omega
        have hib : (bey cs i == 0) = false := by simpa using hi0
        have e2 : fwBody ⟨s'.length, [some (.lst (iv cs)), some (.int s), some (.int v), some (.int (i : Nat)), o2]⟩ s' = .nx [some (.lst (iv cs)), some (.int s), some (.int (if (i : Int) + (bey cs i + s - 1) / s > v then (i : Int) + (bey cs i + s - 1) / s else v)), some (.int (i : Nat)), some (.int (bey cs i))] s' := by
          unfold fwBody
          rw [sSeq_nx e1]
          simp [sSeq, sIf, xB, xVar, xC, eq_int, hib, sNext, sAsg, xCall, xsE, oAdd, oDiv, oSub, iop, hd, cMax2, Tg.go]
        show match fwBody _ _ with
          | .nx vs' st' => _
          | .ct vs' st' => _
          | .brk vs' st' => _
          | r => _
        rw [e2]
        have hiL2 : i < L := by
          by_cases h : i = L
          · rw [h] at hi0; exact absurd h0 hi0
          · omega
        refine ⟨rfl, hiL2, _, _, _, rfl, by split <;> omega, fun t ht => ?_⟩
        have hc2 := cdiv_le (b := bey cs i) (q := t - i) hs.1
        have hsp : (if (i : Int) + (bey cs i + s - 1) / s > v then (i : Int) + (bey cs i + s - 1) / s else v) ≤ t ↔ v ≤ t ∧ (bey cs i + s - 1) / s ≤ t - i := by
          split <;> omega
        rw [hsp, hi t ht, hc2]
        constructor
        · rintro ⟨h1, h2⟩ l hl
          by_cases hli : l = i
          · rw [hli]; exact h2
          · exact h1 l (by omega)
        · intro h
          exact ⟨fun l hl => h l (by omega), h i (by omega)⟩
    · rintro vs s' ⟨rfl, hiL, _⟩
      rw [rngL_len] at hiL
      omega
  obtain ⟨v, o1, o2, hx, hv, ht⟩ := key
  refine ⟨v, ?_, hv, ht⟩
  rw [run]
  have e : x__law_fewest ⟨st.length, [some (.lst (iv cs)), some (.int s), none, none, none]⟩ st = .ret (.int v) st := by
    unfold x__law_fewest
    rw [sSeq_nx (sAsg_nm (x := .int 0) (st' := st) rfl)]
    have hx' : sFor (.nm 3) (xR1 (xC (.int 110))) (sSeq (sAsg (.nm 4) (xCl m__law_excess [(xVar 0), (xVar 3)]))
      (sSeq (sIf (xB oEq (xVar 4) (xC (.int 0))) sBrk sNext)
      (sAsg (.nm 2) (xCall cMax2 [(xVar 2), (xB (oAdd false) (xVar 3) (xB oDiv (xB oSub (xB (oAdd false) (xVar 4) (xVar 1)) (xC (.int 1))) (xVar 1)))])))) ⟨st.length, [some (.lst (iv cs)), some (.int s), some (.int 0), none, none]⟩ st = .nx [some (.lst (iv cs)), some (.int s), some (.int v), o1, o2] st := hx
    exact (sSeq_nx hx').trans rfl
  rw [e, leave_flat rfl, take_all]

/-! ### the checks -/
theorem isi_int (n : Int) (st : Store) : isiR [] ["int"] (.int n) st = .ok (.bl true) st := rfl
theorem isi_bool (n : Int) (st : Store) : isiR [] ["bool"] (.int n) st = .ok (.bl false) st := rfl
theorem run_integer {n lo hi : Int} (h : lo ≤ n ∧ n ≤ hi) (st : Store) : m_is_integer [.int n, .int lo, .int hi] st = .ok (.bl true) st := by
  have run : m_is_integer [.int n, .int lo, .int hi] st = leaveR true st.length (x_is_integer ⟨st.length, [some (.int n), some (.int lo), some (.int hi)]⟩ st) := rfl
  have e : x_is_integer ⟨st.length, [some (.int n), some (.int lo), some (.int hi)]⟩ st = .ret (.bl true) st := by
    simp [x_is_integer, sRet, xAnd, xIsi, xVar, isi_int, isi_bool, xNot, xCh, oLe, ibop, h]
  rw [run, e, leave_flat rfl, take_all]
theorem run_check_all {cs : List Int} (hc : cs.length ≤ 600) (h1 : ∀ c ∈ cs, 1 ≤ c ∧ c ≤ 1000) {s t : Int} (hs : 0 < s ∧ s ≤ 5) (ht : 0 ≤ t ∧ t ≤ 1000000) (st : Store) : m_check_all [.lst (iv cs), .int s, .int t] st = .ok .non st := by
  have run : m_check_all [.lst (iv cs), .int s, .int t] st = leaveR true st.length (x_check_all ⟨st.length, [some (.lst (iv cs)), some (.int s), some (.int t)]⟩ st) := rfl
  have a1 : ∀ st, m_are_counts [.lst (iv cs)] st = .ok (.bl true) st := fun st => by
    have run : m_are_counts [.lst (iv cs)] st = leaveR true st.length (x_are_counts ⟨st.length, [some (.lst (iv cs)), none]⟩ st) := rfl
    have b1 : ∀ st, m_is_list [.lst (iv cs), .int 600] st = .ok (.bl true) st := fun st => by
      have run : m_is_list [.lst (iv cs), .int 600] st = leaveR true st.length (x_is_list ⟨st.length, [some (.lst (iv cs)), some (.int 600)]⟩ st) := rfl
      have hl : ((iv cs).length : Int) ≤ 600 := by rw [iv_len]; omega
      have e : x_is_list ⟨st.length, [some (.lst (iv cs)), some (.int 600)]⟩ st = .ret (.bl true) st := by
        have hi : isiR [] ["list", "tuple"] (.lst (iv cs)) st = .ok (.bl true) st := rfl
        simp [x_is_list, sRet, xAnd, xIsi, xVar, hi, xB, xCall, xsE, cLen, lstOf, oLe, ibop, hl]
      rw [run, e, leave_flat rfl, take_all]
    have e1 : xLc false (.nm 1) (xI srcL (xVar 0)) (xC (.bl true)) (xCl m_is_integer [(xVar 1), (xC (.int 1)), (xC (.int 1000000000000000000000000000000))]) [1] ⟨st.length, [some (.lst (iv cs)), none]⟩ st = .ok (.lst ((iv cs).map fun _ => .bl true)) st := by
      refine lc_map (G := fun x => [some (.lst (iv cs)), some x]) (src_lst rfl) (fun x _ => rfl) (fun x hx => ?_) (by rw [iv_len]; exact small_line (by omega))
      obtain ⟨c, hm, rfl⟩ := iv_mem hx
      have := run_integer (n := c) (lo := 1) (hi := 1000000000000000000000000000000) (by have := h1 c hm; omega) st
      simp [xCl, xsE, xVar, xC, this]
    have e : x_are_counts ⟨st.length, [some (.lst (iv cs)), none]⟩ st = .ret (.bl true) st := by
      unfold x_are_counts
      refine sRet_ok ?_
      unfold xAnd
      have q1 : xCl m_is_list [(xVar 0), (xC (.int 600))] ⟨st.length, [some (.lst (iv cs)), none]⟩ st = .ok (.bl true) st := by
        simp [xCl, xsE, xVar, xC, b1]
      rw [q1, Res.bind_ok]
      simp only [xCall, xsE]
      rw [e1]
      have q2 : ∀ zs : List Val, blsOf (zs.map fun _ => Val.bl true) = some (zs.map fun _ => true) := by
        intro zs
        induction zs with
        | nil => rfl
        | cons z zs ih => show (blsOf (zs.map fun _ => Val.bl true)).map (true :: ·) = _; rw [ih]; rfl
      simp [cAll, lstOf, q2]
    rw [run, e, leave_flat rfl, take_all]
  have a2 : ∀ st, m_check_counts [.lst (iv cs)] st = .ok .non st := fun st => by
    have run : m_check_counts [.lst (iv cs)] st = leaveR true st.length (x_check_counts ⟨st.length, [some (.lst (iv cs))]⟩ st) := rfl
    have e : x_check_counts ⟨st.length, [some (.lst (iv cs))]⟩ st = .nx [some (.lst (iv cs))] st := by
      simp [x_check_counts, sIf, xNot, xCl, xsE, xVar, a1, sNext]
    rw [run, e, leave_nx, take_all]
  have a3 : ∀ st, m_check_height [.int s] st = .ok .non st := fun st => by
    have run : m_check_height [.int s] st = leaveR true st.length (x_check_height ⟨st.length, [some (.int s)]⟩ st) := rfl
    have := run_integer (n := s) (lo := 1) (hi := 1000000000000000000000000000000) (by omega) st
    have e : x_check_height ⟨st.length, [some (.int s)]⟩ st = .nx [some (.int s)] st := by
      simp [x_check_height, sIf, xNot, xCl, xsE, xVar, xC, this, sNext]
    rw [run, e, leave_nx, take_all]
  have a4 : ∀ st, m_check_strokes [.int t, .int 1000000000000000000000000000000000] st = .ok .non st := fun st => by
    have run : m_check_strokes [.int t, .int 1000000000000000000000000000000000] st = leaveR true st.length (x_check_strokes ⟨st.length, [some (.int t), some (.int 1000000000000000000000000000000000)]⟩ st) := rfl
    have := run_integer (n := t) (lo := 0) (hi := 1000000000000000000000000000000000) (by omega) st
    have e : x_check_strokes ⟨st.length, [some (.int t), some (.int 1000000000000000000000000000000000)]⟩ st = .nx [some (.int t), some (.int 1000000000000000000000000000000000)] st := by
      simp [x_check_strokes, sIf, xNot, xCl, xsE, xVar, xC, this, sNext]
    rw [run, e, leave_nx, take_all]
  have e : x_check_all ⟨st.length, [some (.lst (iv cs)), some (.int s), some (.int t)]⟩ st = .nx [some (.lst (iv cs)), some (.int s), some (.int t)] st := by
    simp [x_check_all, sSeq, sExpr, xCl, xsE, xVar, xC, a2, a3, a4]
  rw [run, e, leave_nx, take_all]
end K27
set_option Elab.async false
set_option linter.all false
set_option maxRecDepth 100000
namespace K27
open PySem PySem.Spec PyProof.Rows L2 SW

/-! ### pairs -/
def pr (p : Int × Int) : Val := .tup [.int p.1, .int p.2]
def unpr : Val → Int × Int
  | .tup [.int a, .int b] => (a, b)
  | _ => (0, 0)
@[simp] theorem unpr_pr (p : Int × Int) : unpr (pr p) = p := rfl
def prs (cs : List Int) : List (Int × Int) := cs.zipIdx.map fun p => (p.1, (p.2 : Int))
theorem enum_iv (cs : List Int) : enumL (iv cs) = (prs cs).map fun p => Val.tup [.int p.2, .int p.1] := by
  unfold enumL iv prs
  rw [List.zipIdx_map]
  simp [List.map_map, Function.comp_def]
theorem prs_fst (cs : List Int) : (prs cs).map (·.1) = cs := by
  unfold prs
  rw [List.map_map]
  exact List.zipIdx_map_fst 0 cs
theorem prs_mem {cs : List Int} {p : Int × Int} (h : p ∈ prs cs) : ∃ i : Nat, p.2 = (i : Int) ∧ cs[i]? = some p.1 := by
  unfold prs at h
  obtain ⟨⟨c, i⟩, hm, rfl⟩ := List.mem_map.mp h
  exact ⟨i, rfl, (List.mem_zipIdx_iff_getElem?).mp hm⟩
theorem prs_snd (cs : List Int) : (prs cs).map (·.2) = (List.range cs.length).map fun i => ((i : Nat) : Int) := by
  unfold prs
  rw [List.map_map]
  have : (cs.zipIdx.map fun p => p.2) = List.range cs.length := by
    rw [List.zipIdx_map_snd, List.range_eq_range']
  rw [← this, List.map_map]; rfl
theorem prs_len (cs : List Int) : (prs cs).length = cs.length := by unfold prs; simp
theorem toDs_pr : ∀ ps : List (Int × Int), toDs (ps.map pr) = some (ps.map fun p => PyData.tuple [.int p.1, .int p.2])
  | [] => rfl
  | p :: ps => by
    show (match toD (pr p), toDs (ps.map pr) with
      | some d, some ds => some (d :: ds)
      | _, _ => none) = _
    rw [toDs_pr ps]; rfl
theorem sortOk_pr (ps : List (Int × Int)) : sortOk (ps.map fun p => PyData.tuple [.int p.1, .int p.2]) = true := by
  unfold sortOk
  simp [PySem.W.alike, PySem.W.alikeAll, tupB, PyData.depth, PyData.depthAll]
theorem sortOk_ints (ns : List Int) : sortOk (ns.map PyData.int) = true := by
  unfold sortOk
  simp [PySem.W.alike, othB, PyData.depth]
theorem run_sort_pr {ps : List (Int × Int)} (hl : ps.length ≤ 1000) (st : Store) : cSorted [.lst (ps.map pr)] st = .ok (.lst ((ps.map pr).mergeSort leV)) st := by
  have h1 : (ps.map pr).length ≤ sizeLine := by rw [List.length_map]; exact small_line hl
  have h2 : ((ps.map pr).mergeSort leV).length ≤ sizeLine := by rw [List.length_mergeSort]; exact h1
  unfold cSorted
  simp only [lstOf, toDs_pr, sortOk_pr, true_and]
  rw [if_pos h1]
  unfold mkL
  rw [if_pos h2]; rfl
theorem run_sort_iv {ns : List Int} (hl : ns.length ≤ 1000) (st : Store) : cSorted [.lst (iv ns)] st = .ok (.lst ((iv ns).mergeSort leV)) st := by
  have h1 : (iv ns).length ≤ sizeLine := by rw [iv_len]; exact small_line hl
  have h2 : ((iv ns).mergeSort leV).length ≤ sizeLine := by rw [List.length_mergeSort]; exact h1
  unfold cSorted
  simp only [lstOf, toDs_iv, sortOk_ints, true_and]
  rw [if_pos h1]
  unfold mkL
  rw [if_pos h2]; rfl
/-- the sorted pairs -/
theorem sorted_pairs (ps : List (Int × Int)) : ∃ qs : List (Int × Int), (ps.map pr).mergeSort leV = qs.map pr ∧ qs.Perm ps ∧ qs.Pairwise (fun p q => p.1 ≤ q.1) := by
  have hp := sort_perm (ps.map pr)
  have hs := sort_pairwise (ps.map pr)
  have hmem : ∀ x ∈ (ps.map pr).mergeSort leV, pr (unpr x) = x := fun x hx => by
    obtain ⟨p, _, rfl⟩ := List.mem_map.mp (hp.mem_iff.mp hx)
    rfl
  have e : (ps.map pr).mergeSort leV = (((ps.map pr).mergeSort leV).map unpr).map pr := by
    rw [List.map_map]
    conv => lhs; rw [← List.map_id ((ps.map pr).mergeSort leV)]
    exact List.map_congr_left fun x hx => (hmem x hx).symm
  refine ⟨_, e, ?_, ?_⟩
  · have := hp.map unpr
    rw [List.map_map] at this
    have e2 : ps.map (unpr ∘ pr) = ps := by
      conv => rhs; rw [← List.map_id ps]
      exact List.map_congr_left fun p _ => rfl
    rw [e2] at this; exact this
  · rw [List.pairwise_map]
    refine List.Pairwise.imp_of_mem (fun {a b} ha hb h => ?_) hs
    rw [← hmem a ha, ← hmem b hb] at h
    exact leV_pair h
theorem sorted_ints (ns : List Int) : ∃ ms : List Int, (iv ns).mergeSort leV = iv ms ∧ ms.Perm ns ∧ ms.Pairwise (· ≤ ·) := by
  have hp := sort_perm (iv ns)
  have hs := sort_pairwise (iv ns)
  let un : Val → Int := fun x => match x with
    | .int i => i
    | _ => 0
  have hmem : ∀ x ∈ (iv ns).mergeSort leV, Val.int (un x) = x := fun x hx => by
    obtain ⟨c, _, rfl⟩ := iv_mem (hp.mem_iff.mp hx)
    rfl
  refine ⟨((iv ns).mergeSort leV).map un, ?_, ?_, ?_⟩
  · unfold iv
    rw [List.map_map]
    conv => lhs; rw [← List.map_id ((ns.map Val.int).mergeSort leV)]
    exact List.map_congr_left fun x hx => (hmem x hx).symm
  · have := hp.map un
    unfold iv at this
    rw [List.map_map] at this
    have e2 : ns.map (un ∘ Val.int) = ns := by
      conv => rhs; rw [← List.map_id ns]
      exact List.map_congr_left fun p _ => rfl
    rw [e2] at this; exact this
  · rw [List.pairwise_map]
    refine List.Pairwise.imp_of_mem (fun {a b} ha hb h => ?_) hs
    rw [← hmem a ha, ← hmem b hb, leV_int] at h
    exact of_decide_eq_true h
theorem run_by_count {cs : List Int} (hc : cs.length ≤ 600) : ∃ qs : List (Int × Int), qs.Perm (prs cs) ∧ qs.Pairwise (fun p q => p.1 ≤ q.1) ∧ ∀ st, m_by_count [.lst (iv cs)] st = .ok (.lst (iv (qs.map (·.2)))) st := by
  obtain ⟨qs, e, hp, hs⟩ := sorted_pairs (prs cs)
  refine ⟨qs, hp, hs, fun st => ?_⟩
  have run : m_by_count [.lst (iv cs)] st = leaveR true st.length (x_by_count ⟨st.length, [some (.lst (iv cs)), none, none, none]⟩ st) := rfl
  have hlp : (prs cs).length ≤ 600 := by rw [prs_len]; exact hc
  have hlq : qs.length ≤ 600 := by rw [hp.length_eq]; exact hlp
  have e1 : xLc false (.tup [2, 3]) (xEnum (xVar 0)) (xC (.bl true)) (xTup [(xVar 3), (xVar 2)]) [2, 3] ⟨st.length, [some (.lst (iv cs)), none, none, none]⟩ st = .ok (.lst ((prs cs).map pr)) st := by
    have q := lc_map (t := .tup [2, 3]) (src := xEnum (xVar 0)) (te := xTup [(xVar 3), (xVar 2)]) (ws := [2, 3]) (ρ := ⟨st.length, [some (.lst (iv cs)), none, none, none]⟩) (st := st) (xs := enumL (iv cs))
      (G := fun x => match x with | .tup [a, b] => [some (.lst (iv cs)), none, some a, some b] | _ => []) (g := fun x => match x with | .tup [a, b] => .tup [b, a] | x => x) rfl ?_ ?_ (by rw [enum_iv, List.length_map]; exact small_line (by omega))
    · rw [q, enum_iv, List.map_map]; rfl
    · intro x hx
      rw [enum_iv] at hx
      obtain ⟨p, _, rfl⟩ := List.mem_map.mp hx
      rfl
    · intro x hx
      rw [enum_iv] at hx
      obtain ⟨p, _, rfl⟩ := List.mem_map.mp hx
      have : ([Val.int p.1, Val.int p.2] : List Val).length ≤ sizeLine := small_line (by simp)
      simp [xTup, xsE, xVar, mkT, this]
      exact this
  have e2 : xCall cSorted [(xLc false (.tup [2, 3]) (xEnum (xVar 0)) (xC (.bl true)) (xTup [(xVar 3), (xVar 2)]) [2, 3])] ⟨st.length, [some (.lst (iv cs)), none, none, none]⟩ st = .ok (.lst (qs.map pr)) st := by
    simp only [xCall, xsE]
    rw [e1]
    simp only [Res.bind_ok]
    rw [run_sort_pr (by omega), e]
  have e3 : xLc false (.tup [3, 2]) (xI srcL (xVar 1)) (xC (.bl true)) (xVar 2) [3, 2] ⟨st.length, [some (.lst (iv cs)), some (.lst (qs.map pr)), none, none]⟩ st = .ok (.lst (iv (qs.map (·.2)))) st := by
    have q := lc_map (t := .tup [3, 2]) (src := xI srcL (xVar 1)) (te := xVar 2) (ws := [3, 2]) (ρ := ⟨st.length, [some (.lst (iv cs)), some (.lst (qs.map pr)), none, none]⟩) (st := st) (xs := qs.map pr)
      (G := fun x => match x with | .tup [a, b] => [some (.lst (iv cs)), some (.lst (qs.map pr)), some b, some a] | _ => []) (g := fun x => match x with | .tup [a, b] => b | x => x) (src_lst rfl) ?_ ?_ (by rw [List.length_map]; exact small_line (by omega))
    · rw [q, List.map_map]
      unfold iv
      rw [List.map_map]; rfl
    · intro x hx
      obtain ⟨p, _, rfl⟩ := List.mem_map.mp hx
      rfl
    · intro x hx
      obtain ⟨p, _, rfl⟩ := List.mem_map.mp hx
      rfl
  have e4 : x_by_count ⟨st.length, [some (.lst (iv cs)), none, none, none]⟩ st = .ret (.lst (iv (qs.map (·.2)))) st := by
    unfold x_by_count
    rw [sSeq_nx (sAsg_nm e2)]
    exact sRet_ok e3
  have hb : Val.bel st.length (.lst (iv (qs.map (·.2)))) = true := by unfold Val.bel; exact bels_ints _ _
  rw [run, e4, leave_bel hb, take_all]

/-! ### the smallest are the best -/
theorem sum_erase {φ : Int → Int} {a : Int} : ∀ {u : List Int}, a ∈ u → (u.map φ).sum = φ a + ((u.erase a).map φ).sum
  | b :: u, h => by
    by_cases hb : b = a
    · subst hb; simp
    · have ha : a ∈ u := by
        rcases List.mem_cons.mp h with e | e
        · exact absurd e.symm hb
        · exact e
      rw [List.erase_cons_tail (by simpa using hb)]
      have := sum_erase (φ := φ) ha
      simp; omega
theorem best {φ : Int → Int} (hm : ∀ x y, x ≤ y → φ x ≤ φ y) (hn : ∀ x, 0 ≤ φ x) : ∀ {S : List Int}, S.Pairwise (· ≤ ·) → ∀ (u : List Int), (∀ x, u.count x ≤ S.count x) → ∀ k ≤ u.length, ((S.take k).map φ).sum ≤ (u.map φ).sum
  | S, hS, u, hu, 0, hk => by
    have := sum_nn hn u
    simpa using this
  | [], hS, u, hu, k + 1, hk => by
    have := sum_nn hn u
    simpa using this
  | a :: S, hS, u, hu, k + 1, hk => by
    obtain ⟨h1, h2⟩ := List.pairwise_cons.mp hS
    by_cases ha : a ∈ u
    · rw [sum_erase ha]
      have ih := best hm hn h2 (u.erase a) (fun x => by
        have := hu x
        by_cases hx : x = a
        · subst hx
          rw [List.count_erase_self]
          rw [List.count_cons_self] at this
          omega
        · rw [List.count_erase_of_ne hx]
          rw [List.count_cons_of_ne (by exact fun h => hx h.symm)] at this
          exact this) k (by rw [List.length_erase_of_mem ha]; omega)
      rw [List.take_succ_cons, List.map_cons, List.sum_cons]; omega
    · cases u with
      | nil => simp at hk
      | cons b u =>
        have hbS : b ∈ S := by
          have := hu b
          have hne : a ≠ b := fun h => ha (h ▸ List.mem_cons_self)
          rw [List.count_cons_self, List.count_cons_of_ne hne] at this
          exact List.count_pos_iff.mp (by omega)
        have ih := best hm hn h2 u (fun x => by
          have := hu x
          by_cases hx : x = a
          · subst hx
            have h5 : u.count x = 0 := List.count_eq_zero.mpr fun h => ha (List.mem_cons_of_mem _ h)
            omega
          · have h3 : (a :: S).count x = S.count x := List.count_cons_of_ne (fun h => hx h.symm)
            have h4 : u.count x ≤ (b :: u).count x := List.count_le_count_cons
            omega) k (by simpa using hk)
        have := hm a b (h1 b hbS)
        rw [List.take_succ_cons, List.map_cons, List.sum_cons, List.map_cons, List.sum_cons]; omega
theorem perm_sum {φ : Int → Int} {u v : List Int} (h : u.Perm v) : (u.map φ).sum = (v.map φ).sum := by
  induction h with
  | nil => rfl
  | cons x _ ih => rw [List.map_cons, List.map_cons, List.sum_cons, List.sum_cons, ih]
  | swap x y l => simp only [List.map_cons, List.sum_cons]; omega
  | trans _ _ i1 i2 => rw [i1, i2]
theorem Feas.perm {u v : List Int} (h : u.Perm v) {s t : Int} (f : Feas u s t) : Feas v s t := fun l hl => by
  have := f l hl
  unfold bey at this ⊢
  rw [← perm_sum h]; exact this
theorem Feas.take {S u cs : List Int} (hS : S.Pairwise (· ≤ ·)) (hp : S.Perm cs) (hu : ∀ x, u.count x ≤ cs.count x) {k : Nat} (hk : k ≤ u.length) {s t : Int} (f : Feas u s t) : Feas (S.take k) s t := fun l hl => by
  have h1 := f l hl
  have h2 := best (φ := fun c => mx0 (c - 2 ^ l)) (fun x y h => mx0_mono (by omega)) (fun x => mx0_nn _) hS u (fun x => by rw [hp.count_eq]; exact hu x) k hk
  unfold bey at h1 ⊢
  omega
end K27
set_option Elab.async false
set_option linter.all false
set_option maxRecDepth 100000
namespace K27
open PySem PySem.Spec PyProof.Rows L2 SW

/-- pairs of a value and its place -/
def At (cs : List Int) (p : Int × Int) : Prop := ∃ i : Nat, p.2 = (i : Int) ∧ cs[i]? = some p.1
theorem ix_iv {cs : List Int} {i : Nat} {c : Int} (h : cs[i]? = some c) (st : Store) : oIx (.lst (iv cs)) (.int (i : Nat)) st = .ok (.int c) st := by
  have : atI (iv cs) ((i : Nat) : Int) = some (.int c) := atI_nat (by unfold iv; rw [List.getElem?_map, h]; rfl)
  simp [oIx, lstOf, this]
theorem run_sel {cs : List Int} {ps : List (Int × Int)} (hp : ∀ p ∈ ps, At cs p) (hl : ps.length ≤ 1000) {src : Ix} {a k : Nat} {ρ : En} {st : Store} (hs : src ρ st = .ok (.st (iv (ps.map (·.2)))) st)
    (hv : ∀ x, ((wipeX ρ.vs [k]).set k (some x))[a]? = some (some (.lst (iv cs)))) (hk : ∀ x, ((wipeX ρ.vs [k]).set k (some x))[k]? = some (some x)) :
    xLc false (.nm k) src (xC (.bl true)) (xB oIx (xVar a) (xVar k)) [k] ρ st = .ok (.lst (iv (ps.map (·.1)))) st := by
  have q := lc_map (t := .nm k) (src := src) (te := xB oIx (xVar a) (xVar k)) (ws := [k]) (ρ := ρ) (st := st) (xs := iv (ps.map (·.2)))
    (G := fun x => (wipeX ρ.vs [k]).set k (some x)) (g := gI fun j => cs.getD j.toNat 0) hs (fun x _ => rfl) ?_ (by rw [iv_len, List.length_map]; exact small_line hl)
  · rw [q, gI_map, List.map_map]
    congr 3
    refine List.map_congr_left fun p hp' => ?_
    obtain ⟨i, e1, e2⟩ := hp p hp'
    show cs.getD p.2.toNat 0 = p.1
    rw [e1, Int.toNat_natCast, List.getD_eq_getElem?_getD, e2]; rfl
  · intro x hx
    obtain ⟨j, hj, rfl⟩ := iv_mem hx
    obtain ⟨p, hp', rfl⟩ := List.mem_map.mp hj
    obtain ⟨i, e1, e2⟩ := hp p hp'
    have h1 := hv (.int p.2)
    have h2 := hk (.int p.2)
    unfold xB xVar
    rw [h1, h2]
    show oIx (.lst (iv cs)) (.int p.2) st = .ok (.int (cs.getD p.2.toNat 0)) st
    rw [e1, ix_iv e2, Int.toNat_natCast, List.getD_eq_getElem?_getD, e2]; rfl
theorem run_cut {xs : List Val} (hl : xs.length ≤ 1000) {m : Nat} (hm : m ≤ xs.length) {f g : Ex} {ρ : En} {st : Store} (hf : f ρ st = .ok (.lst xs) st) (hg : g ρ st = .ok (.int (m : Nat)) st) : xSl false f none (some g) ρ st = .ok (.lst (xs.take m)) st := by
  unfold xSl xPart
  rw [hf]
  simp only [Res.bind_ok]
  rw [hg]
  simp only [Res.bind_ok]
  have e : cutL xs none (some (m : Int)) = xs.take m := by
    unfold cutL
    rw [HT.sIx_none, HT.sIx_nat, Nat.min_eq_left hm]
    simp
  have h2 : (xs.take m).length ≤ sizeLine := small_line (by rw [List.length_take]; omega)
  unfold slOf
  simp only [lstOf, e, mkL, if_pos h2]
  rfl
theorem iv_take (ns : List Int) (m : Nat) : (iv ns).take m = iv (ns.take m) := by unfold iv; rw [List.map_take]
def QM (cs : List Int) (qs : List (Int × Int)) (s t : Int) (st : Store) (r : SRes) : Prop := ∃ (low : Nat) (o1 o2 o3 : Option Val), r = .nx [some (.lst (iv cs)), some (.int s), some (.int t), some (.lst (iv (qs.map (·.2)))), some (.int (low : Nat)), o1, o2, o3] st ∧ low ≤ qs.length ∧ Feas ((qs.map (·.1)).take low) s t ∧
  (low < qs.length → ¬ Feas ((qs.map (·.1)).take (low + 1)) s t)
theorem run_most {cs : List Int} (hc : cs.length ≤ 600) (h1 : ∀ c ∈ cs, 1 ≤ c ∧ c ≤ 64) {s t : Int} (hs : 0 < s ∧ s ≤ 5) (ht : 0 ≤ t ∧ t ≤ 1000000) (st : Store) : ∃ (qs : List (Int × Int)) (low : Nat) (ms : List Int), qs.Perm (prs cs) ∧ qs.Pairwise (fun p q => p.1 ≤ q.1) ∧ low ≤ qs.length ∧
    Feas ((qs.map (·.1)).take low) s t ∧ (low < qs.length → ¬ Feas ((qs.map (·.1)).take (low + 1)) s t) ∧ ms.Perm ((qs.map (·.2)).take low) ∧ ms.Pairwise (· ≤ ·) ∧ m_most_laths [.lst (iv cs), .int s, .int t] st = .ok (.lst (iv ms)) st := by
  obtain ⟨qs, hq, hqs, hby⟩ := run_by_count hc
  have hql : qs.length ≤ 600 := by rw [hq.length_eq, prs_len]; exact hc
  have hAt : ∀ p ∈ qs, At cs p := fun p hp => prs_mem (hq.mem_iff.mp hp)
  have hmem : ∀ p ∈ qs, 1 ≤ p.1 ∧ p.1 ≤ 64 := fun p hp => by
    obtain ⟨i, _, e2⟩ := hAt p hp
    exact h1 _ (List.mem_of_getElem? e2)
  have key : QM cs qs s t st (sWhile (xB oLt (xVar 4) (xVar 5)) (sSeq (sAsg (.nm 6) (xB oDiv (xB (oAdd false) (xB (oAdd false) (xVar 4) (xVar 5)) (xC (.int 1))) (xC (.int 2))))
      (sIf (xB oIs (xCl m_least_bar [(xLc false (.nm 7) (xI srcL (xSl false (xVar 3) none (some (xVar 6)))) (xC (.bl true)) (xB oIx (xVar 0) (xVar 7)) [7]), (xVar 1), (xVar 2)]) (xC .non)) (sAsg (.nm 4) (xVar 6)) (sAsg (.nm 5) (xB oSub (xVar 6) (xC (.int 1))))))
      ⟨st.length, [some (.lst (iv cs)), some (.int s), some (.int t), some (.lst (iv (qs.map (·.2)))), some (.int 0), some (.int qs.length), none, none]⟩ st) := by
    refine sWhile_inv (fun m vs s' => s' = st ∧ ∃ (low high : Nat) (o2 o3 : Option Val), vs = [some (.lst (iv cs)), some (.int s), some (.int t), some (.lst (iv (qs.map (·.2)))), some (.int (low : Nat)), some (.int (high : Nat)), o2, o3] ∧ low + m = high ∧ high ≤ qs.length ∧ Feas ((qs.map (·.1)).take low) s t ∧
      (high < qs.length → ¬ Feas ((qs.map (·.1)).take (high + 1)) s t)) _ ?_ qs.length (by unfold FUEL; omega) ⟨rfl, 0, qs.length, none, none, rfl, by omega, Nat.le_refl _, ?_, fun h => by omega⟩
    · rintro m vs s' ⟨rfl, low, high, o2, o3, rfl, hm, hh, hf, hn⟩
      have htst : (xB oLt (xVar 4) (xVar 5)) ⟨s'.length, [some (.lst (iv cs)), some (.int s), some (.int t), some (.lst (iv (qs.map (·.2)))), some (.int (low : Nat)), some (.int (high : Nat)), o2, o3]⟩ s' = .ok (.bl (decide ((low : Int) < high))) s' := rfl
      by_cases hlt : low < high
      · refine .inr ⟨s', by rw [htst, decide_eq_true (show (low : Int) < high by omega)], ?_⟩
        obtain ⟨mid, hmid⟩ : ∃ mid : Nat, mid = (low + high + 1) / 2 := ⟨_, rfl⟩
        have e1 : (sAsg (.nm 6) (xB oDiv (xB (oAdd false) (xB (oAdd false) (xVar 4) (xVar 5)) (xC (.int 1))) (xC (.int 2)))) ⟨s'.length, [some (.lst (iv cs)), some (.int s), some (.int t), some (.lst (iv (qs.map (·.2)))), some (.int (low : Nat)), some (.int (high : Nat)), o2, o3]⟩ s'
            = .nx [some (.lst (iv cs)), some (.int s), some (.int t), some (.lst (iv (qs.map (·.2)))), some (.int (low : Nat)), some (.int (high : Nat)), some (.int (mid : Nat)), o3] s' := by
          have : ((low : Int) + (high : Int) + 1) / 2 = (mid : Nat) := by rw [hmid]; omega
          simp [sAsg, xB, xVar, xC, oAdd, oDiv, iop, Tg.go, this]
        have hmid2 : low < mid ∧ mid ≤ high := by omega
        have e2 : xLc false (.nm 7) (xI srcL (xSl false (xVar 3) none (some (xVar 6)))) (xC (.bl true)) (xB oIx (xVar 0) (xVar 7)) [7] ⟨s'.length, [some (.lst (iv cs)), some (.int s), some (.int t), some (.lst (iv (qs.map (·.2)))), some (.int (low : Nat)), some (.int (high : Nat)), some (.int (mid : Nat)), o3]⟩ s'
            = .ok (.lst (iv ((qs.take mid).map (·.1)))) s' := by
          refine run_sel (ps := qs.take mid) (fun p hp => hAt p (List.mem_of_mem_take hp)) (by rw [List.length_take]; omega) (src_lst ?_) (fun _ => rfl) (fun _ => rfl)
          rw [run_cut (xs := iv (qs.map (·.2))) (m := mid) (by rw [iv_len, List.length_map]; omega) (by rw [iv_len, List.length_map]; omega) rfl rfl, iv_take, List.map_take]
        obtain ⟨r, hr1, hr2⟩ := run_least (cs := (qs.take mid).map (·.1)) (s := s) (t := t) (by rw [List.length_map, List.length_take]; omega) (fun c hc => by
          obtain ⟨p, hp, rfl⟩ := List.mem_map.mp hc
          exact (hmem p (List.mem_of_mem_take hp)).2) hs s'
        have e3 : (xCl m_least_bar [(xLc false (.nm 7) (xI srcL (xSl false (xVar 3) none (some (xVar 6)))) (xC (.bl true)) (xB oIx (xVar 0) (xVar 7)) [7]), (xVar 1), (xVar 2)]) ⟨s'.length, [some (.lst (iv cs)), some (.int s), some (.int t), some (.lst (iv (qs.map (·.2)))), some (.int (low : Nat)), some (.int (high : Nat)), some (.int (mid : Nat)), o3]⟩ s' = .ok r s' := by
          unfold xCl xsE
          rw [e2]
          exact hr1
        rw [List.map_take] at hr2
        show match sSeq _ _ _ _ with
          | .nx vs' st' => _
          | .ct vs' st' => _
          | .brk vs' st' => _
          | r => _
        rw [sSeq_nx e1]
        rcases hr2 with ⟨rfl, hf2⟩ | ⟨⟨l, rfl⟩, hf2⟩
        · have e4 : (xB oIs (xCl m_least_bar [(xLc false (.nm 7) (xI srcL (xSl false (xVar 3) none (some (xVar 6)))) (xC (.bl true)) (xB oIx (xVar 0) (xVar 7)) [7]), (xVar 1), (xVar 2)]) (xC .non)) ⟨s'.length, [some (.lst (iv cs)), some (.int s), some (.int t), some (.lst (iv (qs.map (·.2)))), some (.int (low : Nat)), some (.int (high : Nat)), some (.int (mid : Nat)), o3]⟩ s' = .ok (.bl true) s' := by
            rw [xB_ok e3 rfl]; rfl
          rw [sIf_t e4]
          exact ⟨high - mid, by omega, rfl, mid, high, _, _, rfl, by omega, hh, hf2, hn⟩
        · have e4 : (xB oIs (xCl m_least_bar [(xLc false (.nm 7) (xI srcL (xSl false (xVar 3) none (some (xVar 6)))) (xC (.bl true)) (xB oIx (xVar 0) (xVar 7)) [7]), (xVar 1), (xVar 2)]) (xC .non)) ⟨s'.length, [some (.lst (iv cs)), some (.int s), some (.int t), some (.lst (iv (qs.map (·.2)))), some (.int (low : Nat)), some (.int (high : Nat)), some (.int (mid : Nat)), o3]⟩ s' = .ok (.bl false) s' := by
            rw [xB_ok e3 rfl]; rfl
          rw [sIf_f e4]
          have e5 : (sAsg (.nm 5) (xB oSub (xVar 6) (xC (.int 1)))) ⟨s'.length, [some (.lst (iv cs)), some (.int s), some (.int t), some (.lst (iv (qs.map (·.2)))), some (.int (low : Nat)), some (.int (high : Nat)), some (.int (mid : Nat)), o3]⟩ s'
              = .nx [some (.lst (iv cs)), some (.int s), some (.int t), some (.lst (iv (qs.map (·.2)))), some (.int (low : Nat)), some (.int ((mid - 1 : Nat) : Nat)), some (.int (mid : Nat)), o3] s' := by
            have : (mid : Int) - 1 = ((mid - 1 : Nat) : Int) := by omega
            simp [sAsg, xB, xVar, xC, oSub, iop, Tg.go, this]
          rw [e5]
          refine ⟨mid - 1 - low, by omega, rfl, low, mid - 1, _, _, rfl, by omega, by omega, hf, fun _ => ?_⟩
          rw [show mid - 1 + 1 = mid by omega]; exact hf2
      · have : low = high := by omega
        subst this
        exact .inl ⟨s', by rw [htst]; simp, low, _, _, _, rfl, hh, hf, hn⟩
    · intro l hl
      have : (bey ((qs.map (·.1)).take 0) l) = 0 := by unfold bey; simp
      rw [this]
      exact Int.mul_nonneg (by omega) (by omega)
  obtain ⟨low, o1, o2, o3, hx, hl, hf, hn⟩ := key
  obtain ⟨ms, em, pm, sm⟩ := sorted_ints ((qs.map (·.2)).take low)
  refine ⟨qs, low, ms, hq, hqs, hl, hf, hn, pm, sm, ?_⟩
  have run : m_most_laths [.lst (iv cs), .int s, .int t] st = leaveR true st.length (x_most_laths ⟨st.length, [some (.lst (iv cs)), some (.int s), some (.int t), none, none, none, none, none]⟩ st) := rfl
  have e1 : x_most_laths ⟨st.length, [some (.lst (iv cs)), some (.int s), some (.int t), none, none, none, none, none]⟩ st = .ret (.lst (iv ms)) st := by
    unfold x_most_laths
    have hca := run_check_all hc (fun c hc' => ⟨(h1 c hc').1, by have := (h1 c hc').2; omega⟩) hs ht st
    have q1 : xCl m_check_all [(xVar 0), (xVar 1), (xVar 2)] ⟨st.length, [some (.lst (iv cs)), some (.int s), some (.int t), none, none, none, none, none]⟩ st = .ok .non st := by
      simp [xCl, xsE, xVar, hca]
    rw [sSeq_nx (sExpr_ok q1)]
    have q2 : xCl m_by_count [(xVar 0)] ⟨st.length, [some (.lst (iv cs)), some (.int s), some (.int t), none, none, none, none, none]⟩ st = .ok (.lst (iv (qs.map (·.2)))) st := by
      simp [xCl, xsE, xVar, hby]
    rw [sSeq_nx (sAsg_nm q2), sSeq_nx (sAsg_nm (x := .int 0) (st' := st) rfl)]
    have q3 : xCall cLen [(xVar 3)] ⟨st.length, [some (.lst (iv cs)), some (.int s), some (.int t), some (.lst (iv (qs.map (·.2)))), some (.int 0), none, none, none]⟩ st = .ok (.int qs.length) st := by
      simp [xCall, xsE, xVar, cLen, lstOf, iv_len]
    have q3' := sAsg_nm (i := 5) q3
    refine (sSeq_nx q3').trans ?_
    refine (sSeq_nx hx).trans ?_
    refine sRet_ok ?_
    have q4 := run_cut (xs := iv (qs.map (·.2))) (m := low) (f := xVar 3) (g := xVar 4) (ρ := ⟨st.length, [some (.lst (iv cs)), some (.int s), some (.int t), some (.lst (iv (qs.map (·.2)))), some (.int (low : Nat)), o1, o2, o3]⟩) (st := st) (by rw [iv_len, List.length_map]; omega) (by rw [iv_len, List.length_map]; omega) rfl rfl
    show (xsE [xSl false (xVar 3) none (some (xVar 4))] ⟨st.length, [some (.lst (iv cs)), some (.int s), some (.int t), some (.lst (iv (qs.map (·.2)))), some (.int (low : Nat)), o1, o2, o3]⟩ st).bind cSorted = _
    unfold xsE
    rw [q4]
    simp only [Res.bind_ok, xsE]
    rw [iv_take, run_sort_iv (by rw [List.length_take, List.length_map]; omega), em]
  have hb : Val.bel st.length (.lst (iv ms)) = true := by unfold Val.bel; exact bels_ints _ _
  rw [run, e1, leave_bel hb, take_all]
end K27
set_option Elab.async false
set_option linter.all false
set_option maxRecDepth 100000
namespace K27
open PySem PySem.Spec PyProof.Rows L2 SW

theorem run_cell (ns : List Int) (i : Nat) (hi : i < 1000) (hn : ns.length ≤ 63) (st : Store) : ∃ c : Int, m__law_cell [.scr ns, .int (i : Nat)] st = .ok (.int c) st := by
  have run : m__law_cell [.scr ns, .int (i : Nat)] st = leaveR true st.length (x__law_cell ⟨st.length, [some (.scr ns), some (.int (i : Nat))]⟩ st) := rfl
  by_cases h : i < ns.length
  · refine ⟨ns[i], ?_⟩
    have ha : atI ns ((i : Nat) : Int) = some ns[i] := atI_nat (List.getElem?_eq_getElem h)
    have e : x__law_cell ⟨st.length, [some (.scr ns), some (.int (i : Nat))]⟩ st = .ret (.int ns[i]) st := by
      simp [x__law_cell, sSeq, sIf, xB, xVar, oLt, ibop, xCall, xsE, cLen, h, sRet, oIx, ha]
    rw [run, e, leave_flat rfl, take_all]
  · refine ⟨141650939 * (i : Nat) + 67, ?_⟩
    have hm : mulC 141650939 (i : Nat) = true := by unfold mulC; simp <;> omega
    have e : x__law_cell ⟨st.length, [some (.scr ns), some (.int (i : Nat))]⟩ st = .ret (.int (141650939 * (i : Nat) + 67)) st := by
      simp [x__law_cell, sSeq, sIf, xB, xVar, xC, oLt, ibop, xCall, xsE, cLen, h, sNext, sRet, oMul, hm, oAdd]
    rw [run, e, leave_flat rfl, take_all]
theorem run_box (c : Int) (st : Store) : ∃ o, m__law_box [.int c] st = .ok (.ref st.length) (st ++ [o]) ∧ Box (st ++ [o]) st.length 0 := by
  have run : m__law_box [.int c] st = leaveR false st.length (x__law_box ⟨st.length, [some (.int c)]⟩ st) := rfl
  obtain ⟨a, ha⟩ : ∃ a : Int, a = (if c - 10 ^ 18 > 0 then c - 10 ^ 18 else 0) := ⟨_, rfl⟩
  have hl : [Val.int a, .int (c % 2147483629), .int 0].length ≤ sizeLine := small_line (by simp)
  have hp : powC 10 18 = true := by decide
  have e : x__law_box ⟨st.length, [some (.int c)]⟩ st = .ret (.ref st.length) (st ++ [.lst [.int a, .int (c % 2147483629), .int 0]]) := by
    refine sRet_ok ?_
    unfold xLst
    have q : xsE [(xCall cMax2 [(xC (.int 0)), (xB oSub (xVar 0) (xB oPow (xC (.int 10)) (xC (.int 18))))]), (xB oMod (xVar 0) (xC (.int 2147483629))), (xC (.int 0))] ⟨st.length, [some (.int c)]⟩ st = .ok [.int a, .int (c % 2147483629), .int 0] st := by
      simp [xsE, xCall, xC, xB, xVar, oSub, oPow, oMod, iop, hp, cMax2, ha]
    rw [q, Res.bind_ok]
    unfold mkL
    rw [if_pos hl]; rfl
  refine ⟨.lst [.int a, .int (c % 2147483629), .int 0], ?_, a, c % 2147483629, 0, by simp, by rw [ha]; split <;> omega, Int.emod_nonneg _ (by decide), Int.emod_lt_of_pos _ (by decide), Int.le_refl _, by simp⟩
  rw [run, e, leave_keep (xs := [.int a, .int (c % 2147483629), .int 0]) (Nat.le_refl _) (by simp) (bels_ints _ [a, c % 2147483629, 0]), take_app]
theorem take_eq : m__law_take = fnM true 2 5 (takeSx 67) := rfl
/-- one draw -/
theorem draw {st : Store} {i m : Nat} {n : Int} (hb : Box st i m) (hm : m ≤ 100000) (hn : 0 < n) (hn2 : n < 1073741824) : ∃ (d : Int) (st' : Store), m__law_take [.ref i, .int n] st = .ok (.int d) st' ∧ 0 ≤ d ∧ d < n ∧ Box st' i (m + 1) := by
  obtain ⟨d, o, h1, h2, h3, h4⟩ := take_run (c := 67) (by decide) hb hm hn hn2
  exact ⟨d, _, h1, h2, h3, h4⟩
theorem draw_x {st : Store} {i m : Nat} {n : Int} {ρ : En} {k : Nat} (hk : ρ.vs[k]? = some (some (.ref i))) (hb : Box st i m) (hm : m ≤ 100000) (hn : 0 < n) (hn2 : n < 1073741824) :
    ∃ (d : Int) (st' : Store), xCl m__law_take [(xVar k), (xC (.int n))] ρ st = .ok (.int d) st' ∧ 0 ≤ d ∧ d < n ∧ Box st' i (m + 1) := by
  obtain ⟨d, st', h1, h2⟩ := draw hb hm hn hn2
  refine ⟨d, st', ?_, h2⟩
  have e : xVar k ρ st = .ok (.ref i) st := by unfold xVar; rw [hk]
  unfold xCl xsE
  rw [e]
  exact h1
theorem run_whole {n lo hi : Int} (h : lo ≤ n ∧ n ≤ hi) (st : Store) : m__law_whole [.int n, .int lo, .int hi] st = .ok (.bl true) st := by
  have run : m__law_whole [.int n, .int lo, .int hi] st = leaveR true st.length (x__law_whole ⟨st.length, [some (.int n), some (.int lo), some (.int hi)]⟩ st) := rfl
  have e : x__law_whole ⟨st.length, [some (.int n), some (.int lo), some (.int hi)]⟩ st = .ret (.bl true) st := by
    simp [x__law_whole, sRet, xAnd, xIsi, xVar, xC, isi_int, xB, oIsNot, SW.idOf, xCh, oLe, ibop, h]
  rw [run, e, leave_flat rfl, take_all]
theorem run_bar {cs : List Int} (hc : cs.length ≤ 600) (h1 : ∀ c ∈ cs, 1 ≤ c ∧ c ≤ 64) {s t : Int} (hs : 0 < s ∧ s ≤ 5) (ht : 0 ≤ t ∧ t ≤ 1000000) (hf : Feas cs s t) (st : Store) : m_bar [.lst (iv cs), .int s, .int t] st = .ok .non st := by
  have run : m_bar [.lst (iv cs), .int s, .int t] st = leaveR true st.length (x_bar ⟨st.length, [some (.lst (iv cs)), some (.int s), some (.int t)]⟩ st) := rfl
  have hca := run_check_all hc (fun c hc' => ⟨(h1 c hc').1, by have := (h1 c hc').2; omega⟩) hs ht st
  obtain ⟨r, hr, hr2⟩ := run_least (t := t) (by omega) (fun c hc' => (h1 c hc').2) hs st
  have : r = .non := by
    rcases hr2 with ⟨h, _⟩ | ⟨_, h⟩
    · exact h
    · exact absurd hf h
  subst this
  have e : x_bar ⟨st.length, [some (.lst (iv cs)), some (.int s), some (.int t)]⟩ st = .ret .non st := by
    simp [x_bar, sSeq, sExpr, xCl, xsE, xVar, hca, hr, sRet]
  rw [run, e, leave_flat rfl, take_all]
theorem sum_le64 : ∀ {cs : List Int}, (∀ c ∈ cs, c ≤ 64) → bey cs 0 ≤ 64 * cs.length
  | [], _ => by unfold bey; simp
  | c :: cs, h => by
    have ih := sum_le64 (cs := cs) fun x hx => h x (List.mem_cons_of_mem _ hx)
    have h1 := h c List.mem_cons_self
    have h2 : mx0 (c - 2 ^ 0) ≤ 64 := by unfold mx0; split <;> simp at * <;> omega
    unfold bey at ih ⊢
    simp only [List.map_cons, List.sum_cons, List.length_cons]
    omega
theorem feas_big {cs : List Int} (hl : cs.length ≤ 7) (h64 : ∀ c ∈ cs, c ≤ 64) {s : Int} (hs : 0 < s) : Feas cs s 1000 := fun l hl2 => by
  obtain ⟨L, hL, h0, hp⟩ := levels h64
  by_cases h : l < L
  · have h1 := sum_le64 h64
    have h2 := bey_anti cs (Nat.zero_le l)
    have h3 : 1 * (1000 - (l : Int)) ≤ s * (1000 - l) := Int.mul_le_mul_of_nonneg_right (by omega) (by omega)
    omega
  · have h1 := bey_anti cs (show L ≤ l by omega)
    have : 0 ≤ s * (1000 - (l : Int)) := Int.mul_nonneg (by omega) (by omega)
    omega

/-- what a round's names hold -/
def Sl (ns : List Int) (vs : List (Option Val)) : Prop := ∃ o1 o2 o3 o4 o5 o6 o7 o8 o9 o10, vs = [some (.scr ns), o1, o2, o3, o4, o5, o6, o7, o8, o9, o10]
def xCounts : Ex := (xLc false (.nm 9) (xR1 (xB (oAdd false) (xC (.int 1)) (xCl m__law_take [(xVar 2), (xC (.int 7))]))) (xC (.bl true)) (xB (oAdd false) (xC (.int 1)) (xCl m__law_take [(xVar 2), (xB oIx (xLst false [(xC (.int 4)), (xC (.int 12)), (xC (.int 40))]) (xCl m__law_take [(xVar 2), (xC (.int 3))]))])) [9])
theorem run_counts {ρ : En} {st : Store} {b : Nat} {V : Option Val → List (Option Val)} (hv0 : ρ.vs[2]? = some (some (.ref b))) (hV : ∀ x, (wipeX ρ.vs [9]).set 9 (some x) = V (some x)) (hv : ∀ x, (V x)[2]? = some (some (.ref b))) (hb : Box st b 0) :
    ∃ (cs : List Int) (st' : Store), xCounts ρ st = .ok (.lst (iv cs)) st' ∧ 1 ≤ cs.length ∧ cs.length ≤ 7 ∧ (∀ c ∈ cs, 1 ≤ c ∧ c ≤ 40) ∧ Box st' b 20 := by
  obtain ⟨d, st1, e1, d0, d1, hb1⟩ := draw_x hv0 hb (by omega) (n := 7) (by decide) (by decide)
  have hs : xR1 (xB (oAdd false) (xC (.int 1)) (xCl m__law_take [(xVar 2), (xC (.int 7))])) ρ st = .ok (.st (rngL 0 (1 + d).toNat)) st1 := by
    refine xR1_ok ?_ (by omega)
    rw [xB_ok rfl e1]
    show Res.ok (Val.int (1 + d)) st1 = _
    rw [Int.toNat_of_nonneg (by omega)]
  have hlen : (rngL 0 (1 + d).toNat).length = (1 + d).toNat := rngL_len _ _
  refine Exists.elim (lc_inv (own := false) (t := .nm 9) (te := xB (oAdd false) (xC (.int 1)) (xCl m__law_take [(xVar 2), (xB oIx (xLst false [(xC (.int 4)), (xC (.int 12)), (xC (.int 40))]) (xCl m__law_take [(xVar 2), (xC (.int 3))]))])) (ws := [9]) (ρ := ρ) (st := st) (st1 := st1) (xs := rngL 0 (1 + d).toNat)
    (fun i acc s => ∃ cs : List Int, acc = iv cs ∧ (∀ c ∈ cs, 1 ≤ c ∧ c ≤ 40) ∧ Box s b (1 + 2 * i)) hs ⟨[], rfl, (fun c h => by cases h), hb1⟩ ?_ (by rw [hlen]; exact small_line (by omega))) ?_
  · rintro i x acc s hx ⟨cs, rfl, hcs, hbs⟩
    obtain ⟨hi, rfl⟩ := rngL_get hx
    have hV2 : ∀ x, ((wipeX ρ.vs [9]).set 9 (some x))[2]? = some (some (.ref b)) := fun x => by rw [hV]; exact hv _
    obtain ⟨d2, s2, q1, q2, q3, hb2⟩ := draw_x (ρ := ⟨ρ.base, (wipeX ρ.vs [9]).set 9 (some (.int (i : Nat)))⟩) (hV2 _) hbs (by omega) (n := 3) (by decide) (by decide)
    obtain ⟨w, hw, hw0, hw1⟩ : ∃ w : Int, oIx (.lst [.int 4, .int 12, .int 40]) (.int d2) s2 = .ok (.int w) s2 ∧ 0 < w ∧ w ≤ 40 := by
      have : d2 = 0 ∨ d2 = 1 ∨ d2 = 2 := by omega
      rcases this with rfl | rfl | rfl
      · exact ⟨4, rfl, by decide, by decide⟩
      · exact ⟨12, rfl, by decide, by decide⟩
      · exact ⟨40, rfl, by decide, by decide⟩
    have hl3 : ([Val.int 4, .int 12, .int 40] : List Val).length ≤ sizeLine := small_line (by simp)
    have q4 : xLst false [(xC (.int 4)), (xC (.int 12)), (xC (.int 40))] ⟨ρ.base, (wipeX ρ.vs [9]).set 9 (some (.int (i : Nat)))⟩ s = .ok (.lst [.int 4, .int 12, .int 40]) s := by
      unfold xLst
      show mkL false [Val.int 4, .int 12, .int 40] s = _
      unfold mkL
      rw [if_pos hl3]; rfl
    have q5 := (xB_ok (op := oIx) q4 q1).trans hw
    obtain ⟨d3, s3, r1, r2, r3, hb3⟩ := draw hb2 (by omega) hw0 (by omega)
    have q6 : xCl m__law_take [(xVar 2), (xB oIx (xLst false [(xC (.int 4)), (xC (.int 12)), (xC (.int 40))]) (xCl m__law_take [(xVar 2), (xC (.int 3))]))] ⟨ρ.base, (wipeX ρ.vs [9]).set 9 (some (.int (i : Nat)))⟩ s = .ok (.int d3) s3 := by
      have e : xVar 2 ⟨ρ.base, (wipeX ρ.vs [9]).set 9 (some (.int (i : Nat)))⟩ s = .ok (.ref b) s := by unfold xVar; rw [hV2]
      exact (xCl_ok (xsE_cons e (xsE1_ok q5))).trans r1
    refine ⟨_, .int (1 + d3), s3, rfl, ?_, cs ++ [1 + d3], by unfold iv; simp, fun c hc => ?_, hb3.mono (by omega)⟩
    · rw [xB_ok rfl q6]; rfl
    · rcases List.mem_append.mp hc with hc | hc
      · exact hcs c hc
      · rw [List.mem_singleton.mp hc]; omega
  · rintro ys ⟨st', h1, h2, cs, h3, h4, h5⟩
    subst h3
    refine ⟨cs, st', ?_, ?_, ?_, h4, h5.mono (by rw [hlen]; omega)⟩
    · unfold xCounts
      rw [h1]
      unfold mkL
      rw [if_pos (by rw [h2, hlen]; exact small_line (by omega))]; rfl
    · rw [iv_len, hlen] at h2; omega
    · rw [iv_len, hlen] at h2; omega
end K27
set_option Elab.async false
set_option linter.all false
set_option maxRecDepth 100000
namespace K27
open PySem PySem.Spec PyProof.Rows L2 SW

theorem strict_of : ∀ {ms : List Int}, ms.Pairwise (· < ·) → strictly ms = true
  | [], _ => rfl
  | [a], _ => rfl
  | a :: b :: r, h => by
    obtain ⟨h1, h2⟩ := List.pairwise_cons.mp h
    unfold strictly
    rw [decide_eq_true (h1 b List.mem_cons_self), strict_of h2]; rfl
theorem lt_of_nodup : ∀ {ms : List Int}, ms.Pairwise (· ≤ ·) → ms.Nodup → ms.Pairwise (· < ·)
  | [], _, _ => .nil
  | a :: r, h, n => by
    obtain ⟨h1, h2⟩ := List.pairwise_cons.mp h
    obtain ⟨n1, n2⟩ := List.nodup_cons.mp n
    refine List.pairwise_cons.mpr ⟨fun x hx => ?_, lt_of_nodup h2 n2⟩
    have := h1 x hx
    have : a ≠ x := fun e => n1 (e ▸ hx)
    omega
def sel (cs ms : List Int) : List (Int × Int) := ms.map fun j => (cs.getD j.toNat 0, j)
theorem sel_snd (cs ms : List Int) : (sel cs ms).map (·.2) = ms := by
  unfold sel; rw [List.map_map]
  conv => rhs; rw [← List.map_id ms]
  exact List.map_congr_left fun _ _ => rfl
/-- what the result holds -/
structure Good (cs ms : List Int) (s t : Int) : Prop where
  lt : ms.Pairwise (· < ·)
  at_ : ∀ p ∈ sel cs ms, At cs p
  feas : Feas ((sel cs ms).map (·.1)) s t
  top : ∀ u : List Int, (∀ x, u.count x ≤ cs.count x) → ms.length < u.length → ¬ Feas u s t
theorem good_of {cs : List Int} {s t : Int} {qs : List (Int × Int)} {low : Nat} {ms : List Int} (hq : qs.Perm (prs cs)) (hqs : qs.Pairwise (fun p q => p.1 ≤ q.1)) (hl : low ≤ qs.length) (hf : Feas ((qs.map (·.1)).take low) s t)
    (hn : low < qs.length → ¬ Feas ((qs.map (·.1)).take (low + 1)) s t) (pm : ms.Perm ((qs.map (·.2)).take low)) (sm : ms.Pairwise (· ≤ ·)) : Good cs ms s t := by
  have hAt : ∀ p ∈ qs, At cs p := fun p hp => prs_mem (hq.mem_iff.mp hp)
  have hS : (qs.map (·.1)).Pairwise (· ≤ ·) := List.pairwise_map.mpr hqs
  have hSp : (qs.map (·.1)).Perm cs := by
    have := hq.map (·.1)
    rw [prs_fst] at this; exact this
  have hnd : (qs.map (·.2)).Nodup := by
    have := hq.map (·.2)
    rw [prs_snd] at this
    refine this.nodup_iff.mpr ?_
    refine (List.pairwise_map.mpr ?_ : List.Pairwise (· ≠ ·) _)
    exact List.Pairwise.imp (fun h e => h (by exact_mod_cast e)) List.nodup_range
  have hml : ms.length = low := by rw [pm.length_eq, List.length_take, List.length_map]; omega
  -- a place's value
  have hval : ∀ p ∈ qs, cs.getD p.2.toNat 0 = p.1 := fun p hp => by
    obtain ⟨i, e1, e2⟩ := hAt p hp
    rw [e1, Int.toNat_natCast, List.getD_eq_getElem?_getD, e2]; rfl
  have hsel : (sel cs ((qs.map (·.2)).take low)) = qs.take low := by
    unfold sel
    rw [← List.map_take, List.map_map]
    conv => rhs; rw [← List.map_id (qs.take low)]
    refine List.map_congr_left fun p hp => ?_
    show (cs.getD p.2.toNat 0, p.2) = p
    rw [hval p (List.mem_of_mem_take hp)]
  have hperm : (sel cs ms).Perm (qs.take low) := by
    rw [← hsel]; exact pm.map _
  refine ⟨lt_of_nodup sm (pm.nodup_iff.mpr (hnd.sublist (List.take_sublist _ _))), fun p hp => hAt p (List.mem_of_mem_take (hperm.mem_iff.mp hp)), ?_, fun u hu hlen hfu => ?_⟩
  · refine Feas.perm ?_ hf
    rw [← List.map_take]
    exact (hperm.map _).symm
  · have hul : u.length ≤ cs.length := by
      have : u.length ≤ (qs.map (·.1)).length := by
        -- by counts
        have key : ∀ (u S : List Int), (∀ x, u.count x ≤ S.count x) → u.length ≤ S.length := by
          intro u
          induction u with
          | nil => intro S _; simp
          | cons a u ih =>
            intro S h
            have ha : a ∈ S := List.count_pos_iff.mp (by have := h a; rw [List.count_cons_self] at this; omega)
            have := ih (S.erase a) fun x => by
              by_cases hx : x = a
              · subst hx
                have := h x
                rw [List.count_cons_self] at this
                rw [List.count_erase_self]; omega
              · have := h x
                have e : (a :: u).count x = u.count x := List.count_cons_of_ne (fun z => hx z.symm)
                rw [List.count_erase_of_ne hx]; omega
            rw [List.length_erase_of_mem ha] at this
            have := List.length_pos_of_mem ha
            simp; omega
        exact key u _ fun x => by rw [hSp.count_eq]; exact hu x
      rw [hSp.length_eq] at this; exact this
    have hlq : qs.length = cs.length := by rw [hq.length_eq, prs_len]
    exact hn (by omega) (Feas.take hS hSp hu (by omega) hfu)
theorem xOr_ff {f g : Ex} {ρ : En} {st s1 s2 : Store} (h : f ρ st = .ok (.bl false) s1) (h2 : g ρ s1 = .ok (.bl false) s2) : xOr f g ρ st = .ok (.bl false) s2 := by unfold xOr; rw [h, Res.bind_ok]; exact h2
theorem xNot_ok {f : Ex} {ρ : En} {st s1 : Store} {b : Bool} (h : f ρ st = .ok (.bl b) s1) : xNot f ρ st = .ok (.bl (!b)) s1 := by unfold xNot; rw [h]; rfl
def lotBit (i j : Nat) : Bool := (Builtin.bitAnd ((i : Int) / (2 : Int) ^ j) (1 : Int)) == (1 : Int)
/-- the checks of a round -/
def tail : Sx := (sSeq (sIf (xOr (xNot (xIsi [] ["list"] (xVar 6))) (xB oNe (xLc false (.nm 10) (xI srcL (xVar 6)) (xNot (xCl m__law_whole [(xVar 10), (xC (.int 0)), (xB oSub (xCall cLen [(xVar 3)]) (xC (.int 1)))])) (xVar 10) [10]) (xLst false []))) (sRet (xC (.bl false))) sNext)
  (sSeq (sIf (xOr (xB oNe (xSset (xVar 6)) (xVar 6)) (xB oGt (xCl m__law_fewest [(xLc false (.nm 10) (xI srcL (xVar 6)) (xC (.bl true)) (xB oIx (xVar 3) (xVar 10)) [10]), (xVar 4)]) (xVar 5))) (sRet (xC (.bl false))) sNext)
  (sSeq (sIf (xB oIsNot (xCl m_bar [(xLc false (.nm 10) (xI srcL (xVar 6)) (xC (.bl true)) (xB oIx (xVar 3) (xVar 10)) [10]), (xVar 4), (xVar 5)]) (xC .non)) (sRet (xC (.bl false))) sNext)
  (sFor (.nm 7) (xR1 (xB oShl (xC (.int 1)) (xCall cLen [(xVar 3)]))) (sSeq (sAsg (.nm 8) (xLc false (.nm 10) (xR1 (xCall cLen [(xVar 3)])) (xB oEq (xB oAnd (xB oShr (xVar 7) (xVar 10)) (xC (.int 1))) (xC (.int 1))) (xB oIx (xVar 3) (xVar 10)) [10]))
  (sIf (xAnd (xB oGt (xCall cLen [(xVar 8)]) (xCall cLen [(xVar 6)])) (xB oLe (xCl m__law_fewest [(xVar 8), (xVar 4)]) (xVar 5))) (sRet (xC (.bl false))) sNext))))))
def QR (ns : List Int) (r : SRes) : Prop := ∃ vs st, r = .nx vs st ∧ Sl ns vs
theorem run_lot {ns cs ms : List Int} (hc : cs.length ≤ 7) (h64 : ∀ c ∈ cs, c ≤ 64) {s t : Int} (hs : 0 < s ∧ s ≤ 5) (ht : 0 ≤ t ∧ t ≤ 1000000) (hg : Good cs ms s t) {o1 o2 o8 o9 o10 : Option Val} {b : Nat} {st : Store} (i : Nat) :
    ∃ u : List Int, (sSeq (sAsg (.nm 8) (xLc false (.nm 10) (xR1 (xCall cLen [(xVar 3)])) (xB oEq (xB oAnd (xB oShr (xVar 7) (xVar 10)) (xC (.int 1))) (xC (.int 1))) (xB oIx (xVar 3) (xVar 10)) [10]))
      (sIf (xAnd (xB oGt (xCall cLen [(xVar 8)]) (xCall cLen [(xVar 6)])) (xB oLe (xCl m__law_fewest [(xVar 8), (xVar 4)]) (xVar 5))) (sRet (xC (.bl false))) sNext)) ⟨b, [some (.scr ns), o1, o2, some (.lst (iv cs)), some (.int s), some (.int t), some (.lst (iv ms)), some (.int (i : Nat)), o8, o9, o10]⟩ st
      = .nx [some (.scr ns), o1, o2, some (.lst (iv cs)), some (.int s), some (.int t), some (.lst (iv ms)), some (.int (i : Nat)), some (.lst (iv u)), o9, o10] st := by
  obtain ⟨pb, hpb⟩ : ∃ pb : Nat → Bool, pb = lotBit i := ⟨_, rfl⟩
  have e0 : xR1 (xCall cLen [(xVar 3)]) ⟨b, [some (.scr ns), o1, o2, some (.lst (iv cs)), some (.int s), some (.int t), some (.lst (iv ms)), some (.int (i : Nat)), o8, o9, o10]⟩ st = .ok (.st (rngL 0 cs.length)) st := by
    have q : xCall cLen [(xVar 3)] ⟨b, [some (.scr ns), o1, o2, some (.lst (iv cs)), some (.int s), some (.int t), some (.lst (iv ms)), some (.int (i : Nat)), o8, o9, o10]⟩ st = .ok (.int (cs.length : Nat)) st := by
      simp [xCall, xsE, xVar, cLen, lstOf, iv_len]
    exact xR1_ok q (Nat.le_trans hc (by decide))
  have e1 := lc_pure (t := .nm 10) (src := xR1 (xCall cLen [(xVar 3)])) (tt := xB oEq (xB oAnd (xB oShr (xVar 7) (xVar 10)) (xC (.int 1))) (xC (.int 1))) (te := xB oIx (xVar 3) (xVar 10)) (ws := [10]) (ρ := ⟨b, [some (.scr ns), o1, o2, some (.lst (iv cs)), some (.int s), some (.int t), some (.lst (iv ms)), some (.int (i : Nat)), o8, o9, o10]⟩) (st := st) (xs := rngL 0 cs.length)
    (G := fun x => [some (.scr ns), o1, o2, some (.lst (iv cs)), some (.int s), some (.int t), some (.lst (iv ms)), some (.int (i : Nat)), o8, o9, some x]) (p := fun x => match x with | .int j => pb j.toNat | _ => false) (g := gI fun j => cs.getD j.toNat 0) e0 (fun x _ => rfl) (fun x hx => ?_) (fun x hx _ => ?_) (by rw [rngL_len]; exact small_line (by omega))
  · obtain ⟨u, hu, hcount⟩ : ∃ u : List Int, (((rngL 0 cs.length).filter fun x => match x with | .int j => pb j.toNat | _ => false).map (gI fun j => cs.getD j.toNat 0)) = iv u ∧ u.Sublist cs := by
      refine ⟨((List.range cs.length).filter pb).map fun j => cs.getD j 0, ?_, ?_⟩
      · unfold rngL iv
        rw [List.filter_map, List.map_map, List.map_map]
        have e : ((fun x : Val => match x with | .int j => pb j.toNat | _ => false) ∘ fun k : Nat => Val.int (0 + (k : Int))) = pb := by
          funext k
          show pb (0 + (k : Int)).toNat = pb k
          rw [Int.zero_add, Int.toNat_natCast]
        rw [e]
        refine List.map_congr_left fun k _ => ?_
        show Val.int (cs.getD (0 + (k : Int)).toNat 0) = .int (cs.getD k 0)
        rw [Int.zero_add, Int.toNat_natCast]
      · have e : (List.range cs.length).map (fun j => cs.getD j 0) = cs := by
          refine List.ext_getElem? fun k => ?_
          rw [List.getElem?_map]
          by_cases hk : k < cs.length
          · rw [List.getElem?_range hk, List.getElem?_eq_getElem hk]
            show some (cs.getD k 0) = _
            rw [List.getD_eq_getElem?_getD, List.getElem?_eq_getElem hk]; rfl
          · rw [List.getElem?_eq_none (by simp; omega), List.getElem?_eq_none (by omega)]; rfl
        have := (List.filter_sublist (p := pb) (l := List.range cs.length)).map fun j => cs.getD j 0
        rw [e] at this; exact this
    rw [hu] at e1
    have hul : u.length ≤ 7 := Nat.le_trans hcount.length_le hc
    have hu1 : ∀ c ∈ u, c ≤ 64 := fun c hc' => h64 c (hcount.subset hc')
    obtain ⟨w, hw1, hw2, hw3⟩ := run_fewest (cs := u) (by omega) hu1 hs st
    have hcond : (xAnd (xB oGt (xCall cLen [(xVar 8)]) (xCall cLen [(xVar 6)])) (xB oLe (xCl m__law_fewest [(xVar 8), (xVar 4)]) (xVar 5))) ⟨b, [some (.scr ns), o1, o2, some (.lst (iv cs)), some (.int s), some (.int t), some (.lst (iv ms)), some (.int (i : Nat)), some (.lst (iv u)), o9, o10]⟩ st = .ok (.bl false) st := by
      by_cases hlen : ms.length < u.length
      · have hnf := hg.top u (fun x => hcount.count_le x) hlen
        have hwt : ¬ w ≤ t := fun h => hnf ((hw3 t ht.1).mp h)
        simp [xAnd, xB, xCall, xsE, xVar, cLen, lstOf, iv_len, oGt, ibop, hlen, xCl, hw1, oLe, hwt]
      · simp [xAnd, xB, xCall, xsE, xVar, cLen, lstOf, iv_len, oGt, ibop, hlen]
    refine ⟨u, (sSeq_nx (sAsg_nm (i := 8) e1)).trans ?_⟩
    exact (sIf_f hcond).trans rfl
  · obtain ⟨j, hj, rfl⟩ := rngL_mem hx
    show (xB oEq (xB oAnd (xB oShr (xVar 7) (xVar 10)) (xC (.int 1))) (xC (.int 1))) _ st = .ok (.bl (pb ((j : Nat) : Int).toNat)) st
    rw [Int.toNat_natCast, hpb]
    have h0 : (0 : Int) ≤ (j : Nat) := by omega
    simp [xB, xVar, xC, oShr, iop, h0, oAnd, eq_int, lotBit]
  · obtain ⟨j, hj, rfl⟩ := rngL_mem hx
    have hk : cs[j]? = some (cs.getD j 0) := by rw [List.getD_eq_getElem?_getD, List.getElem?_eq_getElem hj]; rfl
    refine (xB_ok (f := xVar 3) (g := xVar 10) (x := .lst (iv cs)) (y := .int (j : Nat)) rfl rfl).trans ?_
    rw [ix_iv hk]; rfl

theorem run_tail {ns cs ms : List Int} (hc1 : 1 ≤ cs.length) (hc : cs.length ≤ 7) (h1 : ∀ c ∈ cs, 1 ≤ c ∧ c ≤ 40) {s t : Int} (hs : 0 < s ∧ s ≤ 5) (ht : 0 ≤ t ∧ t ≤ 1000000) (hg : Good cs ms s t) {o1 o2 o7 o8 o9 o10 : Option Val} {b : Nat} {st : Store} :
    QR ns (tail ⟨b, [some (.scr ns), o1, o2, some (.lst (iv cs)), some (.int s), some (.int t), some (.lst (iv ms)), o7, o8, o9, o10]⟩ st) := by
  have h64 : ∀ c ∈ cs, c ≤ 64 := fun c hc' => by have := (h1 c hc').2; omega
  have hval : ∀ j ∈ ms, 0 ≤ j ∧ j < cs.length := fun j hj => by
    obtain ⟨i, e1, e2⟩ := hg.at_ (cs.getD j.toNat 0, j) (List.mem_map.mpr ⟨j, hj, rfl⟩)
    have := (List.getElem?_eq_some_iff.mp e2).1
    have e1' : j = (i : Int) := e1
    omega
  have hml : ms.length ≤ 7 := by
    by_cases h : ms.length ≤ 7
    · exact h
    · exfalso
      -- strictly ascending numbers below 7
      have key : ∀ (l : List Int) (k : Int), l.Pairwise (· < ·) → (∀ x ∈ l, k ≤ x ∧ x < 7) → (l.length : Int) ≤ max 0 (7 - k) := by
        intro l
        induction l with
        | nil => intro k _ _; simp; omega
        | cons a l ih =>
          intro k hp hb
          obtain ⟨p1, p2⟩ := List.pairwise_cons.mp hp
          have ha := hb a List.mem_cons_self
          have := ih (a + 1) p2 fun x hx => by
            have := p1 x hx
            have := hb x (List.mem_cons_of_mem _ hx)
            omega
          simp only [List.length_cons]
          omega
      have := key ms 0 hg.lt fun x hx => by have := hval x hx; omega
      omega
  unfold tail
  -- every index is whole
  have c1 : xLc false (.nm 10) (xI srcL (xVar 6)) (xNot (xCl m__law_whole [(xVar 10), (xC (.int 0)), (xB oSub (xCall cLen [(xVar 3)]) (xC (.int 1)))])) (xVar 10) [10] ⟨b, [some (.scr ns), o1, o2, some (.lst (iv cs)), some (.int s), some (.int t), some (.lst (iv ms)), o7, o8, o9, o10]⟩ st = .ok (.lst (iv [])) st := by
    have q := lc_pure (t := .nm 10) (src := xI srcL (xVar 6)) (tt := xNot (xCl m__law_whole [(xVar 10), (xC (.int 0)), (xB oSub (xCall cLen [(xVar 3)]) (xC (.int 1)))])) (te := xVar 10) (ws := [10]) (ρ := ⟨b, [some (.scr ns), o1, o2, some (.lst (iv cs)), some (.int s), some (.int t), some (.lst (iv ms)), o7, o8, o9, o10]⟩) (st := st) (xs := iv ms)
      (G := fun x => [some (.scr ns), o1, o2, some (.lst (iv cs)), some (.int s), some (.int t), some (.lst (iv ms)), o7, o8, o9, some x]) (p := fun _ => false) (g := fun x => x) (src_lst rfl) (fun x _ => rfl) (fun x hx => ?_) (fun x hx h => by cases h) (by rw [iv_len]; exact small_line (by omega))
    · rw [q]; simp [iv]
    · obtain ⟨j, hj, rfl⟩ := iv_mem hx
      have hw := run_whole (n := j) (lo := 0) (hi := (cs.length : Int) - 1) (by have := hval j hj; omega) st
      refine xNot_ok (b := true) ?_
      refine (xCl_ok (xs := [.int j, .int 0, .int ((cs.length : Int) - 1)]) (s1 := st) ?_).trans hw
      simp [xsE, xVar, xC, xB, xCall, cLen, lstOf, iv_len, oSub, iop]
  have k1 : (xOr (xNot (xIsi [] ["list"] (xVar 6))) (xB oNe (xLc false (.nm 10) (xI srcL (xVar 6)) (xNot (xCl m__law_whole [(xVar 10), (xC (.int 0)), (xB oSub (xCall cLen [(xVar 3)]) (xC (.int 1)))])) (xVar 10) [10]) (xLst false []))) ⟨b, [some (.scr ns), o1, o2, some (.lst (iv cs)), some (.int s), some (.int t), some (.lst (iv ms)), o7, o8, o9, o10]⟩ st = .ok (.bl false) st := by
    refine xOr_ff (s1 := st) (xNot_ok (b := true) rfl) ?_
    have e0 : xLst false [] ⟨b, [some (.scr ns), o1, o2, some (.lst (iv cs)), some (.int s), some (.int t), some (.lst (iv ms)), o7, o8, o9, o10]⟩ st = .ok (.lst (iv [])) st := by
      unfold xLst xsE
      show mkL false [] st = _
      unfold mkL
      rw [if_pos (small_line (by simp))]; rfl
    exact (xB_ok c1 e0).trans (ne_same [] st)
  rw [sSeq_nx ((sIf_f k1).trans rfl)]
  -- the same laths, each once
  have c2 : xLc false (.nm 10) (xI srcL (xVar 6)) (xC (.bl true)) (xB oIx (xVar 3) (xVar 10)) [10] ⟨b, [some (.scr ns), o1, o2, some (.lst (iv cs)), some (.int s), some (.int t), some (.lst (iv ms)), o7, o8, o9, o10]⟩ st = .ok (.lst (iv ((sel cs ms).map (·.1)))) st := by
    refine run_sel (ps := sel cs ms) hg.at_ (by unfold sel; rw [List.length_map]; omega) (src_lst ?_) (fun _ => rfl) (fun _ => rfl)
    rw [sel_snd]; rfl
  have hsl : ((sel cs ms).map (·.1)).length ≤ 7 := by unfold sel; rw [List.length_map, List.length_map]; exact hml
  have hs1 : ∀ c ∈ (sel cs ms).map (·.1), 1 ≤ c ∧ c ≤ 40 := fun c hc' => by
    obtain ⟨p, hp, rfl⟩ := List.mem_map.mp hc'
    obtain ⟨i, _, e2⟩ := hg.at_ p hp
    exact h1 _ (List.mem_of_getElem? e2)
  obtain ⟨v, hv1, hv2, hv3⟩ := run_fewest (cs := (sel cs ms).map (·.1)) (by omega) (fun c hc' => by have := (hs1 c hc').2; omega) hs st
  have hvt : v ≤ t := (hv3 t ht.1).mpr hg.feas
  have k2 : (xOr (xB oNe (xSset (xVar 6)) (xVar 6)) (xB oGt (xCl m__law_fewest [(xLc false (.nm 10) (xI srcL (xVar 6)) (xC (.bl true)) (xB oIx (xVar 3) (xVar 10)) [10]), (xVar 4)]) (xVar 5))) ⟨b, [some (.scr ns), o1, o2, some (.lst (iv cs)), some (.int s), some (.int t), some (.lst (iv ms)), o7, o8, o9, o10]⟩ st = .ok (.bl false) st := by
    have e0 : xSset (xVar 6) ⟨b, [some (.scr ns), o1, o2, some (.lst (iv cs)), some (.int s), some (.int t), some (.lst (iv ms)), o7, o8, o9, o10]⟩ st = .ok (.lst (iv ms)) st := by
      show (match intsOf (iv ms) with
        | some ns => if strictly ns = true ∧ ns.length < 64 then Res.ok (Val.lst (iv ms)) st else .stk
        | none => .stk) = _
      rw [intsOf_iv]
      simp only
      rw [if_pos ⟨strict_of hg.lt, by omega⟩]
    refine xOr_ff (s1 := st) ((xB_ok e0 rfl).trans (ne_same ms st)) ?_
    have e1 := (xCl_ok (F := m__law_fewest) (xsE_cons c2 (xsE1_ok (f := xVar 4) rfl))).trans hv1
    refine (xB_ok e1 rfl).trans ?_
    show Res.ok (Val.bl (decide (t < v))) st = _
    rw [decide_eq_false (by omega)]
  rw [sSeq_nx ((sIf_f k2).trans rfl)]
  -- no bar
  have k3 : (xB oIsNot (xCl m_bar [(xLc false (.nm 10) (xI srcL (xVar 6)) (xC (.bl true)) (xB oIx (xVar 3) (xVar 10)) [10]), (xVar 4), (xVar 5)]) (xC .non)) ⟨b, [some (.scr ns), o1, o2, some (.lst (iv cs)), some (.int s), some (.int t), some (.lst (iv ms)), o7, o8, o9, o10]⟩ st = .ok (.bl false) st := by
    have hb := run_bar (cs := (sel cs ms).map (·.1)) (by omega) (fun c hc' => by have := hs1 c hc'; omega) hs ht hg.feas st
    have e1 := (xCl_ok (F := m_bar) (xsE_cons c2 (xsE_cons (f := xVar 4) rfl (xsE1_ok (f := xVar 5) rfl)))).trans hb
    exact (xB_ok e1 rfl).trans rfl
  rw [sSeq_nx ((sIf_f k3).trans rfl)]
  -- no greater lot
  have hpow : ∃ n : Nat, n ≤ 128 ∧ xB oShl (xC (.int 1)) (xCall cLen [(xVar 3)]) ⟨b, [some (.scr ns), o1, o2, some (.lst (iv cs)), some (.int s), some (.int t), some (.lst (iv ms)), o7, o8, o9, o10]⟩ st = .ok (.int n) st := by
    refine ⟨2 ^ cs.length, ?_, ?_⟩
    · exact Nat.le_trans (Nat.pow_le_pow_right (by decide) hc) (by decide)
    · have e : xCall cLen [(xVar 3)] ⟨b, [some (.scr ns), o1, o2, some (.lst (iv cs)), some (.int s), some (.int t), some (.lst (iv ms)), o7, o8, o9, o10]⟩ st = .ok (.int cs.length) st := by
        simp [xCall, xsE, xVar, cLen, lstOf, iv_len]
      refine (xB_ok rfl e).trans ?_
      show (if powC 1 (cs.length : Int) = true then Res.ok (Val.int (1 * 2 ^ (cs.length : Int).toNat)) st else .stk) = _
      rw [if_pos (powC_small (by omega)), Int.toNat_natCast, Int.one_mul]
      push_cast; rfl
  obtain ⟨n, hn, hpow⟩ := hpow
  refine sFor_eq (fun i vs s' => s' = st ∧ ∃ o7 o8 o9 o10, vs = [some (.scr ns), o1, o2, some (.lst (iv cs)), some (.int s), some (.int t), some (.lst (iv ms)), o7, o8, o9, o10]) (QR ns) (xs := rngL 0 n) (xR1_ok hpow (show n ≤ 1000000 by omega)) ⟨rfl, o7, o8, o9, o10, rfl⟩ ?_ ?_
  · rintro i x vs s' hx ⟨rfl, o7, o8, o9, o10, rfl⟩
    obtain ⟨_, rfl⟩ := rngL_get hx
    obtain ⟨u, hu⟩ := run_lot (ns := ns) hc h64 hs ht hg (o1 := o1) (o2 := o2) (o8 := o8) (o9 := o9) (o10 := o10) (b := b) (st := s') i
    exact ⟨_, rfl, .inl ⟨_, _, hu, rfl, _, _, _, _, rfl⟩⟩
  · rintro vs s' ⟨rfl, o7, o8, o9, o10, rfl⟩
    exact ⟨_, _, rfl, _, _, _, _, _, _, _, _, _, _, rfl⟩
end K27
set_option Elab.async false
set_option linter.all false
set_option maxRecDepth 100000
namespace K27
open PySem PySem.Spec PyProof.Rows L2 SW

theorem oix3 {a b c d : Int} (h : 0 ≤ d ∧ d < 3) (st : Store) : ∃ v, oIx (.lst [.int a, .int b, .int c]) (.int d) st = .ok (.int v) st ∧ (v = a ∨ v = b ∨ v = c) := by
  have : d = 0 ∨ d = 1 ∨ d = 2 := by omega
  rcases this with rfl | rfl | rfl
  · exact ⟨a, rfl, .inl rfl⟩
  · exact ⟨b, rfl, .inr (.inl rfl)⟩
  · exact ⟨c, rfl, .inr (.inr rfl)⟩
def bodyS : Sx := (sSeq (sAsg (.nm 2) (xCl m__law_box [(xCl m__law_cell [(xVar 0), (xVar 1)])]))
  (sSeq (sAsg (.nm 3) xCounts)
  (sSeq (sAsg (.nm 4) (xB (oAdd false) (xC (.int 1)) (xCl m__law_take [(xVar 2), (xC (.int 5))])))
  (sSeq (sAsg (.nm 5) (xB oIx (xLst false [(xCl m__law_take [(xVar 2), (xC (.int 5))]), (xCl m__law_take [(xVar 2), (xC (.int 14))]), (xB oDiv (xCl m__law_fewest [(xVar 3), (xVar 4)]) (xC (.int 2)))]) (xCl m__law_take [(xVar 2), (xC (.int 3))])))
  (sSeq (sAsg (.nm 6) (xCl m_most_laths [(xCall (cList false) [(xVar 3)]), (xVar 4), (xVar 5)]))
  tail)))))
theorem run_round {ns : List Int} (hn : ns.length ≤ 63) {i : Nat} (hi : i < 1000) {b : Nat} {o2 o3 o4 o5 o6 o7 o8 o9 o10 : Option Val} (st : Store) : QR ns (bodyS ⟨b, [some (.scr ns), some (.int (i : Nat)), o2, o3, o4, o5, o6, o7, o8, o9, o10]⟩ st) := by
  obtain ⟨c, hcell⟩ := run_cell ns i hi hn st
  obtain ⟨o, hbox, hB⟩ := run_box c st
  unfold bodyS
  have a1 : xCl m__law_box [(xCl m__law_cell [(xVar 0), (xVar 1)])] ⟨b, [some (.scr ns), some (.int (i : Nat)), o2, o3, o4, o5, o6, o7, o8, o9, o10]⟩ st = .ok (.ref st.length) (st ++ [o]) :=
    (xCl_ok (xsE1_ok ((xCl_ok (xsE_cons (f := xVar 0) rfl (xsE1_ok (f := xVar 1) rfl))).trans hcell))).trans hbox
  rw [sSeq_nx (sAsg_nm (i := 2) a1)]
  obtain ⟨cs, s1, hcs, hc1, hc7, hc40, hB1⟩ := run_counts (ρ := ⟨b, [some (.scr ns), some (.int (i : Nat)), some (.ref st.length), o3, o4, o5, o6, o7, o8, o9, o10]⟩) (st := st ++ [o]) (b := st.length)
    (V := fun x => [some (.scr ns), some (.int (i : Nat)), some (.ref st.length), o3, o4, o5, o6, o7, o8, x, o10]) rfl (fun _ => rfl) (fun _ => rfl) hB
  refine Eq.mpr (congrArg (QR ns) (sSeq_nx (sAsg_nm (i := 3) hcs))) ?_
  obtain ⟨d1, s2, e1, d10, d11, hB2⟩ := draw_x (k := 2) (ρ := ⟨b, [some (.scr ns), some (.int (i : Nat)), some (.ref st.length), some (.lst (iv cs)), o4, o5, o6, o7, o8, o9, o10]⟩) rfl hB1 (by omega) (n := 5) (by decide) (by decide)
  have a4 : (xB (oAdd false) (xC (.int 1)) (xCl m__law_take [(xVar 2), (xC (.int 5))])) ⟨b, [some (.scr ns), some (.int (i : Nat)), some (.ref st.length), some (.lst (iv cs)), o4, o5, o6, o7, o8, o9, o10]⟩ s1 = .ok (.int (1 + d1)) s2 := (xB_ok (f := xC (.int 1)) rfl e1).trans rfl
  refine Eq.mpr (congrArg (QR ns) (sSeq_nx (sAsg_nm (i := 4) a4))) ?_
  obtain ⟨s, hs⟩ : ∃ s : Int, s = 1 + d1 := ⟨_, rfl⟩
  rw [← hs]
  have hs5 : 0 < s ∧ s ≤ 5 := by omega
  have h64 : ∀ c ∈ cs, c ≤ 64 := fun c hc => by have := (hc40 c hc).2; omega
  obtain ⟨d2, s3, e2, d20, d21, hB3⟩ := draw_x (k := 2) (ρ := ⟨b, [some (.scr ns), some (.int (i : Nat)), some (.ref st.length), some (.lst (iv cs)), some (.int s), o5, o6, o7, o8, o9, o10]⟩) rfl hB2 (by omega) (n := 5) (by decide) (by decide)
  obtain ⟨d3, s4, e3, d30, d31, hB4⟩ := draw_x (k := 2) (ρ := ⟨b, [some (.scr ns), some (.int (i : Nat)), some (.ref st.length), some (.lst (iv cs)), some (.int s), o5, o6, o7, o8, o9, o10]⟩) rfl hB3 (by omega) (n := 14) (by decide) (by decide)
  obtain ⟨v, hv1, hv2, hv3⟩ := run_fewest (cs := cs) (by omega) h64 hs5 s4
  have hv1000 : v ≤ 1000 := (hv3 1000 (by decide)).mpr (feas_big hc7 h64 hs5.1)
  have e4 : (xB oDiv (xCl m__law_fewest [(xVar 3), (xVar 4)]) (xC (.int 2))) ⟨b, [some (.scr ns), some (.int (i : Nat)), some (.ref st.length), some (.lst (iv cs)), some (.int s), o5, o6, o7, o8, o9, o10]⟩ s4 = .ok (.int (v / 2)) s4 :=
    (xB_ok ((xCl_ok (xsE_cons (f := xVar 3) rfl (xsE1_ok (f := xVar 4) rfl))).trans hv1) (g := xC (.int 2)) rfl).trans rfl
  have e5 : xLst false [(xCl m__law_take [(xVar 2), (xC (.int 5))]), (xCl m__law_take [(xVar 2), (xC (.int 14))]), (xB oDiv (xCl m__law_fewest [(xVar 3), (xVar 4)]) (xC (.int 2)))] ⟨b, [some (.scr ns), some (.int (i : Nat)), some (.ref st.length), some (.lst (iv cs)), some (.int s), o5, o6, o7, o8, o9, o10]⟩ s2 = .ok (.lst [.int d2, .int d3, .int (v / 2)]) s4 := by
    unfold xLst
    rw [xsE_cons e2 (xsE_cons e3 (xsE1_ok e4)), Res.bind_ok]
    unfold mkL
    rw [if_pos (small_line (by simp))]; rfl
  obtain ⟨d4, s5, e6, d40, d41, hB5⟩ := draw_x (k := 2) (ρ := ⟨b, [some (.scr ns), some (.int (i : Nat)), some (.ref st.length), some (.lst (iv cs)), some (.int s), o5, o6, o7, o8, o9, o10]⟩) rfl hB4 (by omega) (n := 3) (by decide) (by decide)
  obtain ⟨t, ht1, ht2⟩ := oix3 (a := d2) (b := d3) (c := v / 2) ⟨d40, d41⟩ s5
  have a5 := (xB_ok (op := oIx) e5 e6).trans ht1
  refine Eq.mpr (congrArg (QR ns) (sSeq_nx (sAsg_nm (i := 5) a5))) ?_
  have ht : 0 ≤ t ∧ t ≤ 1000000 := by omega
  obtain ⟨qs, low, ms, hq, hqs, hl, hf, hnf, pm, sm, hmost⟩ := run_most (cs := cs) (by omega) (fun c hc => by have := hc40 c hc; omega) hs5 ht s5
  have hg := good_of hq hqs hl hf hnf pm sm
  have e7 : xCall (cList false) [(xVar 3)] ⟨b, [some (.scr ns), some (.int (i : Nat)), some (.ref st.length), some (.lst (iv cs)), some (.int s), some (.int t), o6, o7, o8, o9, o10]⟩ s5 = .ok (.lst (iv cs)) s5 := by
    refine (xCall_ok (xsE1_ok (f := xVar 3) rfl)).trans ?_
    show mkL false (iv cs) s5 = _
    unfold mkL
    rw [if_pos (by rw [iv_len]; exact small_line (by omega))]; rfl
  have a6 := (xCl_ok (F := m_most_laths) (xsE_cons e7 (xsE_cons (f := xVar 4) rfl (xsE1_ok (f := xVar 5) rfl)))).trans hmost
  refine Eq.mpr (congrArg (QR ns) (sSeq_nx (sAsg_nm (i := 6) a6))) ?_
  exact run_tail hc1 hc7 hc40 hs5 ht hg
theorem law_true (ns : List Int) (hn : ns.length ≤ 63) : m_law [.scr ns] [] = .ok (.bl true) [] := by
  have run : m_law [.scr ns] [] = leaveR true 0 (x_law ⟨0, [some (.scr ns), none, none, none, none, none, none, none, none, none, none]⟩ []) := rfl
  obtain ⟨n, hn6, hmx⟩ : ∃ n : Nat, n ≤ 6 ∧ (xCall cMax2 [(xC (.int 2)), (xCall cMin2 [(xC (.int 6)), (xCall cLen [(xVar 0)])])]) ⟨0, [some (.scr ns), none, none, none, none, none, none, none, none, none, none]⟩ [] = .ok (.int n) [] := by
    have e0 : xCall cLen [(xVar 0)] ⟨0, [some (.scr ns), none, none, none, none, none, none, none, none, none, none]⟩ [] = .ok (.int ns.length) [] := rfl
    have e1 : xCall cMin2 [(xC (.int 6)), (xCall cLen [(xVar 0)])] ⟨0, [some (.scr ns), none, none, none, none, none, none, none, none, none, none]⟩ [] = .ok (.int (if (ns.length : Int) < 6 then (ns.length : Int) else 6)) [] := (xCall_ok (xsE_cons (f := xC (.int 6)) rfl (xsE1_ok e0))).trans rfl
    have e2 : (xCall cMax2 [(xC (.int 2)), (xCall cMin2 [(xC (.int 6)), (xCall cLen [(xVar 0)])])]) ⟨0, [some (.scr ns), none, none, none, none, none, none, none, none, none, none]⟩ [] = .ok (.int (if (if (ns.length : Int) < 6 then (ns.length : Int) else 6) > 2 then (if (ns.length : Int) < 6 then (ns.length : Int) else 6) else 2)) [] := (xCall_ok (xsE_cons (f := xC (.int 2)) rfl (xsE1_ok e1))).trans rfl
    refine ⟨(if (if (ns.length : Int) < 6 then (ns.length : Int) else 6) > 2 then (if (ns.length : Int) < 6 then (ns.length : Int) else 6) else 2).toNat, by split <;> split <;> omega, ?_⟩
    rw [e2, Int.toNat_of_nonneg (by split <;> split <;> omega)]
  have key : QR ns (sFor (.nm 1) (xR1 (xCall cMax2 [(xC (.int 2)), (xCall cMin2 [(xC (.int 6)), (xCall cLen [(xVar 0)])])])) bodyS ⟨0, [some (.scr ns), none, none, none, none, none, none, none, none, none, none]⟩ []) := by
    refine sFor_eq (fun i vs s' => Sl ns vs) (QR ns) (xs := rngL 0 n) (xR1_ok hmx (by omega)) ⟨_, _, _, _, _, _, _, _, _, _, rfl⟩ ?_ (fun vs s' h => ⟨vs, s', rfl, h⟩)
    rintro i x vs s' hx ⟨o1, o2, o3, o4, o5, o6, o7, o8, o9, o10, rfl⟩
    obtain ⟨hi, rfl⟩ := rngL_get hx
    obtain ⟨vs', s2, h1, h2⟩ := run_round hn (i := i) (by omega) (b := 0) (o2 := o2) (o3 := o3) (o4 := o4) (o5 := o5) (o6 := o6) (o7 := o7) (o8 := o8) (o9 := o9) (o10 := o10) s'
    exact ⟨_, rfl, .inl ⟨vs', s2, h1, h2⟩⟩
  obtain ⟨vs, s', hx, _⟩ := key
  have e : x_law ⟨0, [some (.scr ns), none, none, none, none, none, none, none, none, none, none]⟩ [] = .ret (.bl true) s' := (sSeq_nx hx).trans rfl
  rw [run, e, leave_flat rfl]; rfl
end K27
set_option Elab.async false
set_option linter.all false
set_option maxRecDepth 100000
set_option maxHeartbeats 0
namespace K27
open PySem PySem.Spec PyProof.Rows L2 SW
def d__law_box : He.DefD := ⟨("_law_box", none), "_law_box", "_law_box", defArgs s__law_box, defBody s__law_box, defScope s__law_box, [], []⟩
def d__law_cell : He.DefD := ⟨("_law_cell", none), "_law_cell", "_law_cell", defArgs s__law_cell, defBody s__law_cell, defScope s__law_cell, [], []⟩
def d__law_excess : He.DefD := ⟨("_law_excess", none), "_law_excess", "_law_excess", defArgs s__law_excess, defBody s__law_excess, defScope s__law_excess, [], []⟩
def d__law_fewest : He.DefD := ⟨("_law_fewest", none), "_law_fewest", "_law_fewest", defArgs s__law_fewest, defBody s__law_fewest, defScope s__law_fewest, [], []⟩
def d__law_take : He.DefD := ⟨("_law_take", none), "_law_take", "_law_take", defArgs s__law_take, defBody s__law_take, defScope s__law_take, [], []⟩
def d__law_whole : He.DefD := ⟨("_law_whole", none), "_law_whole", "_law_whole", defArgs s__law_whole, defBody s__law_whole, defScope s__law_whole, [], []⟩
def d_is_integer : He.DefD := ⟨("is_integer", none), "is_integer", "is_integer", defArgs s_is_integer, defBody s_is_integer, defScope s_is_integer, [], []⟩
def d_is_list : He.DefD := ⟨("is_list", none), "is_list", "is_list", defArgs s_is_list, defBody s_is_list, defScope s_is_list, [], []⟩
def d_are_counts : He.DefD := ⟨("are_counts", none), "are_counts", "are_counts", defArgs s_are_counts, defBody s_are_counts, defScope s_are_counts, [], []⟩
def d_check_counts : He.DefD := ⟨("check_counts", none), "check_counts", "check_counts", defArgs s_check_counts, defBody s_check_counts, defScope s_check_counts, [], []⟩
def d_check_height : He.DefD := ⟨("check_height", none), "check_height", "check_height", defArgs s_check_height, defBody s_check_height, defScope s_check_height, [], []⟩
def d_check_strokes : He.DefD := ⟨("check_strokes", none), "check_strokes", "check_strokes", defArgs s_check_strokes, defBody s_check_strokes, defScope s_check_strokes, [], []⟩
def d_check_all : He.DefD := ⟨("check_all", none), "check_all", "check_all", defArgs s_check_all, defBody s_check_all, defScope s_check_all, [], []⟩
def d_beyond : He.DefD := ⟨("beyond", none), "beyond", "beyond", defArgs s_beyond, defBody s_beyond, defScope s_beyond, [], []⟩
def d_bars_at : He.DefD := ⟨("bars_at", none), "bars_at", "bars_at", defArgs s_bars_at, defBody s_bars_at, defScope s_bars_at, [], []⟩
def d_excesses : He.DefD := ⟨("excesses", none), "excesses", "excesses", defArgs s_excesses, defBody s_excesses, defScope s_excesses, [], []⟩
def d_least_bar : He.DefD := ⟨("least_bar", none), "least_bar", "least_bar", defArgs s_least_bar, defBody s_least_bar, defScope s_least_bar, [], []⟩
def d_bar : He.DefD := ⟨("bar", none), "bar", "bar", defArgs s_bar, defBody s_bar, defScope s_bar, [], []⟩
def d_by_count : He.DefD := ⟨("by_count", none), "by_count", "by_count", defArgs s_by_count, defBody s_by_count, defScope s_by_count, [], []⟩
def d_most_laths : He.DefD := ⟨("most_laths", none), "most_laths", "most_laths", defArgs s_most_laths, defBody s_most_laths, defScope s_most_laths, [], []⟩
def d_law : He.DefD := ⟨("law", none), "law", "law", defArgs s_law, defBody s_law, defScope s_law, [], []⟩
def fn : List He.DefD := [d__law_box, d__law_cell, d__law_excess, d__law_fewest, d__law_take, d__law_whole, d_is_integer, d_is_list, d_are_counts, d_check_counts, d_check_height, d_check_strokes, d_check_all, d_beyond, d_bars_at, d_excesses, d_least_bar, d_bar, d_by_count, d_most_laths, d_law]
def fa_0 : List He.Fa := [.glo "_law_box", .glo "_law_cell", .glo "_law_excess", .glo "_law_fewest", .glo "_law_take", .glo "_law_whole", .glo "is_integer", .glo "is_list", .glo "are_counts", .glo "check_counts", .glo "check_height", .glo "check_strokes", .glo "check_all", .glo "beyond", .glo "bars_at", .glo "excesses", .glo "least_bar", .glo "bar", .glo "by_count", .glo "most_laths"]
def fa_1 : List He.Fa := [.glo "law", .free "all", .free "bool", .free "enumerate", .free "int", .free "isinstance", .free "len", .free "list", .free "max", .free "min", .free "range", .free "set", .free "sorted", .free "sum", .free "tuple", .int "GREATEST_COUNT" 1000000000000000000000000000000, .int "GREATEST_STACK" 1000000000000000000000000000000, .int "MOST_COUNTS" 600, .int "MOST_STROKES" 1000000000000000000000000000000000]
def fa : List He.Fa := fa_0 ++ fa_1
def lo_0 : List PySem.Str := ["SawError", "BadStack", "BadCounts", "BadStrokes", "is_integer", "is_list", "MOST_COUNTS", "GREATEST_COUNT", "GREATEST_STACK", "MOST_STROKES", "are_counts", "check_counts", "check_height", "check_strokes", "beyond", "excesses", "bars_at", "least_bar", "check_all", "bar", "by_count", "most_laths", "_law_cell", "_law_box", "_law_take", "_law_whole", "_law_excess", "_law_fewest"]
def lo : List PySem.Str := lo_0
abbrev R : PySem.W.OpenRow := PySem.W.OpenLaw.row PySem.Challenge.rw_stacksaw_k27_whole_no_more_laths_can_be
abbrev hk : PySem.W.Hook := He.hookD 5 fa fn
def ob (s : PySem.W.SharedT) : He.AlD := He.obsDG 5 fa fn (HandSHeadRun.getT s)
theorem ob_eq (s : PySem.W.SharedT) : ob s = hk.obs s.abs := He.obsDG_eq (HandSHeadRun.getT_eq s)
theorem run (w : World) : HandSHeadRun.RunEq R (PySem.W.view R.prog [33]) hk ob 20000 lo w := by
  intro os
  kernel_rfl
theorem facts {K : PySem.W.Frag} {h : Heap} {mg : Str → Option Value} (X : K.In h) (G : h.Ns mainGlobals mg) (c : He.SaysD fa fn K) : Tb K mg where
  f_all := He.free_ok X G (c.fact 21 (f := .free "all") rfl)
  f_bool := He.free_ok X G (c.fact 22 (f := .free "bool") rfl)
  f_enumerate := He.free_ok X G (c.fact 23 (f := .free "enumerate") rfl)
  f_int := He.free_ok X G (c.fact 24 (f := .free "int") rfl)
  f_isinstance := He.free_ok X G (c.fact 25 (f := .free "isinstance") rfl)
  f_len := He.free_ok X G (c.fact 26 (f := .free "len") rfl)
  f_list := He.free_ok X G (c.fact 27 (f := .free "list") rfl)
  f_max := He.free_ok X G (c.fact 28 (f := .free "max") rfl)
  f_min := He.free_ok X G (c.fact 29 (f := .free "min") rfl)
  f_range := He.free_ok X G (c.fact 30 (f := .free "range") rfl)
  f_set := He.free_ok X G (c.fact 31 (f := .free "set") rfl)
  f_sorted := He.free_ok X G (c.fact 32 (f := .free "sorted") rfl)
  f_sum := He.free_ok X G (c.fact 33 (f := .free "sum") rfl)
  f_tuple := He.free_ok X G (c.fact 34 (f := .free "tuple") rfl)
  i_GREATEST_COUNT := He.int_ok X G (c.fact 35 (f := .int "GREATEST_COUNT" 1000000000000000000000000000000) rfl)
  i_GREATEST_STACK := He.int_ok X G (c.fact 36 (f := .int "GREATEST_STACK" 1000000000000000000000000000000) rfl)
  i_MOST_COUNTS := He.int_ok X G (c.fact 37 (f := .int "MOST_COUNTS" 600) rfl)
  i_MOST_STROKES := He.int_ok X G (c.fact 38 (f := .int "MOST_STROKES" 1000000000000000000000000000000000) rfl)
  owns := owns_nil
  d__law_box := by
    obtain ⟨fd, F⟩ := c.def_ 0 (d := d__law_box) rfl
    exact ⟨_, fd, He.glo_ok X G (c.fact 0 (f := .glo "_law_box") rfl), F⟩
  d__law_cell := by
    obtain ⟨fd, F⟩ := c.def_ 1 (d := d__law_cell) rfl
    exact ⟨_, fd, He.glo_ok X G (c.fact 1 (f := .glo "_law_cell") rfl), F⟩
  d__law_excess := by
    obtain ⟨fd, F⟩ := c.def_ 2 (d := d__law_excess) rfl
    exact ⟨_, fd, He.glo_ok X G (c.fact 2 (f := .glo "_law_excess") rfl), F⟩
  d__law_fewest := by
    obtain ⟨fd, F⟩ := c.def_ 3 (d := d__law_fewest) rfl
    exact ⟨_, fd, He.glo_ok X G (c.fact 3 (f := .glo "_law_fewest") rfl), F⟩
  d__law_take := by
    obtain ⟨fd, F⟩ := c.def_ 4 (d := d__law_take) rfl
    exact ⟨_, fd, He.glo_ok X G (c.fact 4 (f := .glo "_law_take") rfl), F⟩
  d__law_whole := by
    obtain ⟨fd, F⟩ := c.def_ 5 (d := d__law_whole) rfl
    exact ⟨_, fd, He.glo_ok X G (c.fact 5 (f := .glo "_law_whole") rfl), F⟩
  d_is_integer := by
    obtain ⟨fd, F⟩ := c.def_ 6 (d := d_is_integer) rfl
    exact ⟨_, fd, He.glo_ok X G (c.fact 6 (f := .glo "is_integer") rfl), F⟩
  d_is_list := by
    obtain ⟨fd, F⟩ := c.def_ 7 (d := d_is_list) rfl
    exact ⟨_, fd, He.glo_ok X G (c.fact 7 (f := .glo "is_list") rfl), F⟩
  d_are_counts := by
    obtain ⟨fd, F⟩ := c.def_ 8 (d := d_are_counts) rfl
    exact ⟨_, fd, He.glo_ok X G (c.fact 8 (f := .glo "are_counts") rfl), F⟩
  d_check_counts := by
    obtain ⟨fd, F⟩ := c.def_ 9 (d := d_check_counts) rfl
    exact ⟨_, fd, He.glo_ok X G (c.fact 9 (f := .glo "check_counts") rfl), F⟩
  d_check_height := by
    obtain ⟨fd, F⟩ := c.def_ 10 (d := d_check_height) rfl
    exact ⟨_, fd, He.glo_ok X G (c.fact 10 (f := .glo "check_height") rfl), F⟩
  d_check_strokes := by
    obtain ⟨fd, F⟩ := c.def_ 11 (d := d_check_strokes) rfl
    exact ⟨_, fd, He.glo_ok X G (c.fact 11 (f := .glo "check_strokes") rfl), F⟩
  d_check_all := by
    obtain ⟨fd, F⟩ := c.def_ 12 (d := d_check_all) rfl
    exact ⟨_, fd, He.glo_ok X G (c.fact 12 (f := .glo "check_all") rfl), F⟩
  d_beyond := by
    obtain ⟨fd, F⟩ := c.def_ 13 (d := d_beyond) rfl
    exact ⟨_, fd, He.glo_ok X G (c.fact 13 (f := .glo "beyond") rfl), F⟩
  d_bars_at := by
    obtain ⟨fd, F⟩ := c.def_ 14 (d := d_bars_at) rfl
    exact ⟨_, fd, He.glo_ok X G (c.fact 14 (f := .glo "bars_at") rfl), F⟩
  d_excesses := by
    obtain ⟨fd, F⟩ := c.def_ 15 (d := d_excesses) rfl
    exact ⟨_, fd, He.glo_ok X G (c.fact 15 (f := .glo "excesses") rfl), F⟩
  d_least_bar := by
    obtain ⟨fd, F⟩ := c.def_ 16 (d := d_least_bar) rfl
    exact ⟨_, fd, He.glo_ok X G (c.fact 16 (f := .glo "least_bar") rfl), F⟩
  d_bar := by
    obtain ⟨fd, F⟩ := c.def_ 17 (d := d_bar) rfl
    exact ⟨_, fd, He.glo_ok X G (c.fact 17 (f := .glo "bar") rfl), F⟩
  d_by_count := by
    obtain ⟨fd, F⟩ := c.def_ 18 (d := d_by_count) rfl
    exact ⟨_, fd, He.glo_ok X G (c.fact 18 (f := .glo "by_count") rfl), F⟩
  d_most_laths := by
    obtain ⟨fd, F⟩ := c.def_ 19 (d := d_most_laths) rfl
    exact ⟨_, fd, He.glo_ok X G (c.fact 19 (f := .glo "most_laths") rfl), F⟩
  d_law := by
    obtain ⟨fd, F⟩ := c.def_ 20 (d := d_law) rfl
    exact ⟨_, fd, He.glo_ok X G (c.fact 20 (f := .glo "law") rfl), F⟩
theorem fnok_law {P : Program} {w : World} {K : PySem.W.Frag} {mg : Str → Option Value} {base : Heap} (T : Tb K mg) {f : Addr} {fd : FuncData} (F : FunD K "law" "law" (defArgs s_law) (defBody s_law) (defScope s_law) [] [] f fd) :
    FnOk P w K mg base (L2.CX P w) 6 f fd ["script"] (SpF K mg 1 m_law) := by
  obtain ⟨f0, fd0, hm, F0⟩ := T.d_law
  refine (fn_ok true F sc_law fun cdv A outer s H E hr => ?_)
  exact (vss_cons (vs_for (passes_of rfl) (vg_nm 1 sc_law.nd) (vi_r1 T.f_range (ve_bi cs_max2 T.f_max bb_max (va_cons ve_int (va_cons (ve_bi cs_min2 T.f_min bb_min (va_cons ve_int (va_cons (ve_bi cs_len T.f_len bb_len (va_cons (ve_var 0) va_nil)) va_nil))) va_nil)))) (vss_cons (vs_set 2 sc_law.nd (ve_call ((ok__law_box T).mono (by decide)) hr (va_cons (ve_call ((ok__law_cell T).mono (by decide)) hr (va_cons (ve_var 0) (va_cons (ve_var 1) va_nil))) va_nil)))
    (vss_cons (vs_set 3 sc_law.nd (ve_lc false sc_law.nd (vi_r1 T.f_range (ve_bin (os_add false) ve_int (ve_call ((ok__law_take T).mono (by decide)) hr (va_cons (ve_var 2) (va_cons ve_int va_nil))))) (blkOk_by (own := [("turn", 9)]) (by show blkC N_law (defScope s_law) _ _ = true; decide +kernel)) (inn_nm (by decide)) (fun _ _ _ _ _ => (vg_nm 9 sc_law.nd)) (fun _ _ _ _ _ => vts_nil) (fun _ _ _ _ _ => (ve_bin (os_add false) ve_int (ve_call ((ok__law_take T).mono (by decide)) hr (va_cons (ve_var 2) (va_cons (ve_ix (ve_lst false (va_cons ve_int (va_cons ve_int (va_cons ve_int va_nil)))) (ve_call ((ok__law_take T).mono (by decide)) hr (va_cons (ve_var 2) (va_cons ve_int va_nil)))) va_nil)))))))
    (vss_cons (vs_set 4 sc_law.nd (ve_bin (os_add false) ve_int (ve_call ((ok__law_take T).mono (by decide)) hr (va_cons (ve_var 2) (va_cons ve_int va_nil)))))
    (vss_cons (vs_set 5 sc_law.nd (ve_ix (ve_lst false (va_cons (ve_call ((ok__law_take T).mono (by decide)) hr (va_cons (ve_var 2) (va_cons ve_int va_nil))) (va_cons (ve_call ((ok__law_take T).mono (by decide)) hr (va_cons (ve_var 2) (va_cons ve_int va_nil))) (va_cons (ve_bin os_div (ve_call ((ok__law_fewest T).mono (by decide)) hr (va_cons (ve_var 3) (va_cons (ve_var 4) va_nil))) ve_int) va_nil)))) (ve_call ((ok__law_take T).mono (by decide)) hr (va_cons (ve_var 2) (va_cons ve_int va_nil)))))
    (vss_cons (vs_set 6 sc_law.nd (ve_call ((ok_most_laths T).mono (by decide)) hr (va_cons (ve_ty (cs_list false) T.f_list bb_list (va_cons (ve_var 3) va_nil)) (va_cons (ve_var 4) (va_cons (ve_var 5) va_nil)))))
    (vss_cons (vs_if (vt_w (vw_or (vt_not (vt_val (ve_isi1 T.f_isinstance T.owns (ve_var 6) T.f_list bb_list))) (vw_or1 (vt_cmp (os_ne hr) (ve_lc false sc_law.nd (vi_seq (ve_var 6)) (blkOk_by (own := [("index", 10)]) (by show blkC N_law (defScope s_law) _ _ = true; decide +kernel)) (inn_nm (by decide)) (fun _ _ _ _ _ => (vg_nm 10 sc_law.nd)) (fun _ _ _ _ _ => (vts_one (vt_not (vt_val (ve_call ((ok__law_whole T).mono (by decide)) hr (va_cons (ve_var 10) (va_cons ve_int (va_cons (ve_bin os_sub (ve_bi cs_len T.f_len bb_len (va_cons (ve_var 3) va_nil)) ve_int) va_nil)))))))) (fun _ _ _ _ _ => (ve_var 10))) (ve_lst false va_nil))))) (vss_one (vs_ret ve_bl)) vss_nil)
    (vss_cons (vs_if (vt_w (vw_or (vt_cmp (os_ne hr) (ve_sset T.f_sorted T.f_set (ve_var 6)) (ve_var 6)) (vw_or1 (vt_cmp os_gt (ve_call ((ok__law_fewest T).mono (by decide)) hr (va_cons (ve_lc false sc_law.nd (vi_seq (ve_var 6)) (blkOk_by (own := [("index", 10)]) (by show blkC N_law (defScope s_law) _ _ = true; decide +kernel)) (inn_nm (by decide)) (fun _ _ _ _ _ => (vg_nm 10 sc_law.nd)) (fun _ _ _ _ _ => vts_nil) (fun _ _ _ _ _ => (ve_ix (ve_var 3) (ve_var 10)))) (va_cons (ve_var 4) va_nil))) (ve_var 5))))) (vss_one (vs_ret ve_bl)) vss_nil)
    (vss_cons (vs_if (vt_cmp os_isnot (ve_call ((ok_bar T).mono (by decide)) hr (va_cons (ve_lc false sc_law.nd (vi_seq (ve_var 6)) (blkOk_by (own := [("index", 10)]) (by show blkC N_law (defScope s_law) _ _ = true; decide +kernel)) (inn_nm (by decide)) (fun _ _ _ _ _ => (vg_nm 10 sc_law.nd)) (fun _ _ _ _ _ => vts_nil) (fun _ _ _ _ _ => (ve_ix (ve_var 3) (ve_var 10)))) (va_cons (ve_var 4) (va_cons (ve_var 5) va_nil)))) ve_non) (vss_one (vs_ret ve_bl)) vss_nil)
    (vss_one (vs_for (passes_of rfl) (vg_nm 7 sc_law.nd) (vi_r1 T.f_range (ve_bin os_shl ve_int (ve_bi cs_len T.f_len bb_len (va_cons (ve_var 3) va_nil)))) (vss_cons (vs_setLc false 8 sc_law.nd (vi_r1 T.f_range (ve_bi cs_len T.f_len bb_len (va_cons (ve_var 3) va_nil))) (blkOk_by (own := [("index", 10)]) (by show blkC N_law (defScope s_law) _ _ = true; decide +kernel)) (inn_nm (by decide)) (fun _ _ _ _ _ => (vg_nm 10 sc_law.nd)) (fun _ _ _ _ _ => (vts_one (vt_cmp (os_eq hr) (ve_bin os_and (ve_bin os_shr (ve_var 7) (ve_var 10)) ve_int) ve_int))) (fun _ _ _ _ _ => (ve_ix (ve_var 3) (ve_var 10))) (sw_true rfl rfl (by decide) (by decide)))
    (vss_one (vs_if (vt_w (vw_and (vt_cmp os_gt (ve_bi cs_len T.f_len bb_len (va_cons (ve_var 8) va_nil)) (ve_bi cs_len T.f_len bb_len (va_cons (ve_var 6) va_nil))) (vw_and1 (vt_cmp os_le (ve_call ((ok__law_fewest T).mono (by decide)) hr (va_cons (ve_var 8) (va_cons (ve_var 4) va_nil))) (ve_var 5))))) (vss_one (vs_ret ve_bl)) vss_nil))))))))))))))
    (vss_one (vs_ret ve_bl)))
theorem sp_law {K : PySem.W.Frag} {mg : Str → Option Value} {H : Hp} {a : Addr} {ns : List Int} (hl : ns.length ≤ 63) (hS : SqL K H a (ns.map V.int)) : SpF K mg 1 m_law [.ref a] H (fun v _ => v = .bl true) fun _ _ _ => False := by
  refine ⟨rfl, ⟨K, mg, [], H⟩, 0, [], [.scr ns], rfl, rfl, ⟨List.nodup_nil, rfl, fun b u e => .inl e, fun i o b e => by simp at e⟩, Nat.le_refl _, RVs.cons ?_ RVs.nil, ?_⟩
  · unfold RV; exact ⟨a, rfl, hS⟩
  · rw [law_true ns hl]
    intro Z' H' v t s r
    unfold RV at r; exact r

end K27
open PySem PySem.W PySem.Calls PyProof.Rows in
theorem PySem.Challenge.cw_stacksaw_k27_whole_no_more_laths_can_be_holds : PySem.Challenge.rw_stacksaw_k27_whole_no_more_laths_can_be.Holds := by
  w_on; o_law
  refine HandSHeadRun.head_any (r := OpenLaw.row PySem.Challenge.rw_stacksaw_k27_whole_no_more_laths_can_be) (q := view (OpenLaw.row PySem.Challenge.rw_stacksaw_k27_whole_no_more_laths_can_be).prog [33]) (H := K27.hk) (ob := K27.ob) (M := 20000) (loose := K27.lo) (d := HandSHeadRun.topDef (OpenLaw.row PySem.Challenge.rw_stacksaw_k27_whole_no_more_laths_can_be).prog 33) (kwd := []) K27.ob_eq
    (by kernel_rfl) (fun s => by kernel_rfl) K27.run (by kernel_rfl) (by kernel_rfl) (by kernel_rfl) (by rfl) (by first | assumption | decide +kernel) (by decide +kernel) ⟨rfl, rfl, rfl, rfl, rfl, by decide +kernel⟩ ?hw ?hc
  case hw => w_witness2
  case hc =>
    refine L2.walk_ofE (l := PySem.Challenge.rw_stacksaw_k27_whole_no_more_laths_can_be) (n := 63) (k := 6) (x := "script") (CX := SW.CXw (PySem.Challenge.rw_stacksaw_k27_whole_no_more_laths_can_be).prog) rfl (by decide) (by kernel_rfl) ⟨rfl, by decide, by decide⟩ ?F SW.cxw_no
    intro w mg fa h Y G hmg0
    obtain ⟨K, KX, c⟩ := Y
    have hmg : mg ("law" : PySem.Str) = some (.ref fa) := by
      have e : (HandSHeadRun.topDef (OpenLaw.row PySem.Challenge.rw_stacksaw_k27_whole_no_more_laths_can_be).prog 33).name = ("law" : PySem.Str) := by kernel_rfl
      rw [← e]
      exact hmg0
    have T := K27.facts KX G c
    obtain ⟨fd, F⟩ := c.def_ 20 (d := K27.d_law) rfl
    have e := hmg.symm.trans (He.glo_ok KX G (c.fact 20 (f := .glo "law") rfl))
    cases e
    have b := L2.FunD.bindsA (ps := ["script"]) F fun _ _ _ _ _ _ us hl => match us, hl with | [_], _ => rfl
    exact ⟨K, fd, _, KX, fun s v => b s [v] rfl, fun H a ns hl _ hS => K27.sp_law hl hS, fun base _ _ => SW.fnok_cx (K27.fnok_law T F)⟩
