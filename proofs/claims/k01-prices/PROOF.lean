import PyProof.Rows.All
import Wide.All
import OpenK.AllK
import Wide.FinOn
import HandS.ForMost
import HandS.Steps
import HandS.Exc
import HandS.TryOnly
import HandS.ExcOwn
import HandS.WordsExc
import HandS.IsInst
import HandS.More
import HandS.Flow
import HandS.Strs
import PySem.Challenge.RW_fareweb_k01_prices
set_option Elab.async false
set_option linter.all false
set_option maxRecDepth 100000
set_option maxHeartbeats 4000000

/-! The base of these proofs: names for the operators' readings, small steps for readings, heaps. -/
namespace FW
open PySem PySem.Spec PyProof.Rows L2

/-! ### the operators' readings by short names -/
def rNeg : V → Hp → VK → Prop := rU fun i => .int (-i)
def rAddI : R2 := rI0 fun i j => .int (i + j)
def rSubI : R2 := rI0 fun i j => .int (i - j)
def rMulI : R2 := rI CMul fun i j => .int (i * j)
def rModI : R2 := rI (fun _ j => 0 < j) fun i j => .int (i % j)
def rDivI : R2 := rI CDiv fun i j => .int (i / j)
def rPowI : R2 := rI CPow fun i j => .int (i ^ j.toNat)
def rLtI : R2 := rI0 fun i j => .bl (decide (i < j))
def rLeI : R2 := rI0 fun i j => .bl (decide (i ≤ j))
def rGtI : R2 := rI0 fun i j => .bl (decide (j < i))
def rGeI : R2 := rI0 fun i j => .bl (decide (j ≤ i))
def rLenS (K : PySem.W.Frag) : List V → Hp → VK → Prop := fun xs H Q => ∃ p ys, xs = [.ref p] ∧ (SqL K H p ys ∨ SqT K H p ys) ∧ Q (.int ys.length) H
def rLenT : List V → Hp → VK → Prop := fun xs H Q => ∃ z, xs = [.str z] ∧ z.length ≤ sizeLine ∧ Q (.int z.length) H
def rListS (K : PySem.W.Frag) : List V → Hp → VK → Prop := fun xs H Q => ∃ p ys, xs = [.ref p] ∧ (SqL K H p ys ∨ SqT K H p ys) ∧ ∀ l, H l = none → Q (.ref l) (upd H l (.lst ys))
def rMin2 : List V → Hp → VK → Prop := fun xs H Q => ∃ i j, xs = [.int i, .int j] ∧ Q (.int (if j < i then j else i)) H
def rMax2 : List V → Hp → VK → Prop := fun xs H Q => ∃ i j, xs = [.int i, .int j] ∧ Q (.int (if j > i then j else i)) H
def rAbs : List V → Hp → VK → Prop := fun xs H Q => ∃ i, xs = [.int i] ∧ Q (.int (if i < 0 then -i else i)) H
def rInt1 : List V → Hp → VK → Prop := fun xs H Q => (∃ i, xs = [.int i] ∧ Q (.int i) H) ∨ ∃ k, xs = [.bl k] ∧ Q (.int (if k then 1 else 0)) H
def tTryOnly (K : PySem.W.Frag) (c : Value) (tb : WX → TS) (ts : Addr → Value → Option Addr → TS) : TS := fun D σ H => tb (wOnly K c ts (fun _ _ _ _ => False) D) D σ H

def tIsi (K : PySem.W.Frag) (ta : TE) (c : V) : TE := fun σ H Q => ta σ H fun x H1 => rIsi K [x, c] H1 Q

/-- a loop's word, closed: rd stops at it -/
structure Hold (P : Prop) : Prop where
  h : P

/-! ### heaps -/
theorem _root_.L2.Same.new {H : Hp} {p : Addr} {o : HO} (h : H p = none) : Same H (upd H p o) := fun b x e => by
  rw [upd_ne (ne_of_none e h)]
  exact e
theorem _root_.L2.Same.mut {H H' : Hp} {p : Addr} {o : HO} (s : Same H H') (h : H p = none) : Same H (upd H' p o) := fun b x e => by
  rw [upd_ne (ne_of_none e h)]
  exact s b x e
theorem _root_.L2.Same.tup {K : PySem.W.Frag} {H H' : Hp} {a : Addr} {xs : List V} (e : Same H H') (h : SqT K H a xs) : SqT K H' a xs := by
  rcases h with (h | ⟨o, h⟩) | h
  · exact .inl (.inl (e _ _ h))
  · exact .inl (.inr ⟨o, e _ _ h⟩)
  · exact .inr h
theorem putF_le (f : Str) (v : V) : ∀ fs : List (Str × V), (putF f v fs).length ≤ fs.length + 1
  | [] => Nat.le_refl _
  | (g, w) :: r => by
    unfold putF
    split
    · simp
    · have := putF_le f v r
      simp only [List.length_cons]
      omega
theorem putF_1 {f : Str} {v : V} : (putF f v []).length < 1000 := by have := putF_le f v []; simp only [List.length_nil] at this; omega
theorem putF_2 {f g : Str} {v u : V} : (putF f v (putF g u [])).length < 1000 := by
  have h1 := putF_le f v (putF g u [])
  have h2 := putF_le g u []
  simp only [List.length_nil] at h2
  omega
theorem sq_ne {K : PySem.W.Frag} {H : Hp} {a b : Addr} {o : HO} {xs : List V} (n : b ≠ a) (h : SqL K H b xs) : SqL K (upd H a o) b xs := by
  rcases h with (h | ⟨u, h⟩) | h
  · exact .inl (.inl (by rw [upd_ne n]; exact h))
  · exact .inl (.inr ⟨u, by rw [upd_ne n]; exact h⟩)
  · exact .inr h
theorem st_ne {K : PySem.W.Frag} {H : Hp} {a b : Addr} {o : HO} {xs : List V} (n : b ≠ a) (h : SqT K H b xs) : SqT K (upd H a o) b xs := by
  rcases h with (h | ⟨u, h⟩) | h
  · exact .inl (.inl (by rw [upd_ne n]; exact h))
  · exact .inl (.inr ⟨u, by rw [upd_ne n]; exact h⟩)
  · exact .inr h
theorem sq_ins {K : PySem.W.Frag} {H : Hp} {a b C dx : Addr} {o : HO} {fs : List (Str × V)} {xs : List V} (e : H a = some (.ins C dx fs)) (h : SqL K H b xs) : SqL K (upd H a o) b xs := by
  rcases h with (h | ⟨u, h⟩) | h
  · exact .inl (.inl (by rw [upd_ne (ne_of h e (by intro z; cases z))]; exact h))
  · exact .inl (.inr ⟨u, by rw [upd_ne (ne_of h e (by intro z; cases z))]; exact h⟩)
  · exact .inr h
theorem st_ins {K : PySem.W.Frag} {H : Hp} {a b C dx : Addr} {o : HO} {fs : List (Str × V)} {xs : List V} (e : H a = some (.ins C dx fs)) (h : SqT K H b xs) : SqT K (upd H a o) b xs := by
  rcases h with (h | ⟨u, h⟩) | h
  · exact .inl (.inl (by rw [upd_ne (ne_of h e (by intro z; cases z))]; exact h))
  · exact .inl (.inr ⟨u, by rw [upd_ne (ne_of h e (by intro z; cases z))]; exact h⟩)
  · exact .inr h
theorem st_lst {K : PySem.W.Frag} {H : Hp} {a b : Addr} {o : HO} {ys xs : List V} (e : H a = some (.lst ys)) (h : SqT K H b xs) : SqT K (upd H a o) b xs := by
  rcases h with (h | ⟨u, h⟩) | h
  · exact .inl (.inl (by rw [upd_ne (ne_of h e (by intro z; cases z))]; exact h))
  · exact .inl (.inr ⟨u, by rw [upd_ne (ne_of h e (by intro z; cases z))]; exact h⟩)
  · exact .inr h
theorem sq_new {K : PySem.W.Frag} {H : Hp} {a b : Addr} {o : HO} {xs : List V} (e : H a = none) (h : SqL K H b xs) : SqL K (upd H a o) b xs := L2.Same.seq (Same.new e) h
theorem st_new {K : PySem.W.Frag} {H : Hp} {a b : Addr} {o : HO} {xs : List V} (e : H a = none) (h : SqT K H b xs) : SqT K (upd H a o) b xs := Same.tup (Same.new e) h
theorem ne_sym {a b : Addr} (h : a ≠ b) : b ≠ a := fun e => h e.symm
theorem upd_other {H : Hp} {a b : Addr} {o : HO} {u : Option HO} (h : b ≠ a) (e : H b = u) : upd H a o b = u := by rw [upd_ne h]; exact e
theorem ite_dT {p : Prop} [Decidable p] {A B : Prop} (h : p) (k : A) : if decide p = true then A else B := by
  rw [decide_eq_true h]
  exact iteT k
theorem ite_dF {p : Prop} [Decidable p] {A B : Prop} (h : ¬ p) (k : B) : if decide p = true then A else B := by
  rw [decide_eq_false h]
  exact iteF k
theorem ite_d {p : Prop} [Decidable p] {A B : Prop} (h1 : p → A) (h2 : ¬ p → B) : if decide p = true then A else B := by
  by_cases h : p
  · exact ite_dT h (h1 h)
  · exact ite_dF h (h2 h)
theorem ite_nT {p : Prop} [Decidable p] {A B : Prop} (h : ¬ p) (k : A) : if (!decide p) = true then A else B := by
  rw [decide_eq_false h]
  exact iteT k
theorem ite_nF {p : Prop} [Decidable p] {A B : Prop} (h : p) (k : B) : if (!decide p) = true then A else B := by
  rw [decide_eq_true h]
  exact iteF k
theorem ite_n {p : Prop} [Decidable p] {A B : Prop} (h1 : ¬ p → A) (h2 : p → B) : if (!decide p) = true then A else B := by
  by_cases h : p
  · exact ite_nF h (h2 h)
  · exact ite_nT h (h1 h)
theorem ite_b {b : Bool} {A B : Prop} (h1 : b = true → A) (h2 : b = false → B) : if b = true then A else B := by
  cases b with
  | true => exact iteT (h1 rfl)
  | false => exact iteF (h2 rfl)
theorem small {n m : Nat} (h : n ≤ 100000) : n ≤ sizeLine := Nat.le_trans h (by decide)
theorem small_lt {n : Nat} (h : n < 100000) : n < sizeLine := Nat.lt_of_lt_of_le h (by decide)
theorem small_le {n : Nat} (h : n ≤ 100000) : n ≤ sizeLine := Nat.le_trans h (by decide)
theorem atI_lt {α : Type} {xs : List α} {i : Int} {v : α} (h0 : 0 ≤ i) (h : xs[i.toNat]? = some v) : atI xs i = some v := by
  have e : i = ((i.toNat : Nat) : Int) := (Int.toNat_of_nonneg h0).symm
  rw [e]
  exact atI_nat h
theorem atI_map {ns : List Int} {i : Int} (h0 : 0 ≤ i) (h1 : i < ns.length) : atI (ns.map V.int) i = some (V.int (ns.getD i.toNat 0)) := by
  have h : i.toNat < ns.length := by omega
  refine atI_lt h0 ?_
  rw [List.getElem?_map, List.getElem?_eq_getElem h, List.getD_eq_getElem?_getD, List.getElem?_eq_getElem h]
  rfl


/-! ### a heap without one object: what is said of it stays when that object is changed -/
def del (H : Hp) (a : Addr) : Hp := fun b => if b = a then none else H b
theorem del_at {H : Hp} {a : Addr} : del H a a = none := by unfold del; rw [if_pos rfl]
theorem del_ne {H : Hp} {a b : Addr} (h : b ≠ a) : del H a b = H b := by unfold del; rw [if_neg h]
theorem del_get {H : Hp} {a b : Addr} {o : HO} (h : del H a b = some o) : H b = some o ∧ b ≠ a := by
  by_cases e : b = a
  · rw [e, del_at] at h
    cases h
  · exact ⟨by rw [del_ne e] at h; exact h, e⟩
theorem del_upd {H : Hp} {a : Addr} {o : HO} : del (upd H a o) a = del H a := by
  funext b
  by_cases e : b = a
  · rw [e, del_at, del_at]
  · rw [del_ne e, del_ne e, upd_ne e]
theorem upd_del {H : Hp} {a : Addr} {o : HO} : upd (del H a) a o = upd H a o := by
  funext b
  by_cases e : b = a
  · rw [e, upd_same, upd_same]
  · rw [upd_ne e, upd_ne e, del_ne e]
theorem del_upd_ne {H : Hp} {a b : Addr} {o : HO} (n : b ≠ a) : del (upd H b o) a = upd (del H a) b o := by
  funext c
  by_cases e : c = a
  · rw [e, del_at, upd_ne (ne_sym n), del_at]
  · by_cases f : c = b
    · rw [f, del_ne n, upd_same, upd_same]
    · rw [del_ne e, upd_ne f, upd_ne f, del_ne e]
theorem del_sub (H : Hp) (a : Addr) : Same (del H a) H := fun b o e => (del_get e).1
theorem _root_.L2.Same.del2 {H H' : Hp} (a : Addr) (s : Same H H') : Same (del H a) (del H' a) := fun b o e => by
  obtain ⟨e1, n⟩ := del_get e
  rw [del_ne n]
  exact s _ _ e1
/-- what stood ahead of a's making stands still -/
theorem _root_.L2.Same.delN {H H' : Hp} {a : Addr} (s : Same H H') (h : H a = none) : Same H (del H' a) := fun b o e => by
  rw [del_ne (ne_of_none e h)]
  exact s _ _ e
theorem del_new {H : Hp} {a : Addr} {o : HO} (h : H a = none) : del (upd H a o) a = H := by
  rw [del_upd]
  funext b
  by_cases e : b = a
  · rw [e, del_at, h]
  · rw [del_ne e]

/-- a heap without the objects at hs -/
def dels (H : Hp) (hs : List Addr) : Hp := fun b => if b ∈ hs then none else H b
theorem dels_in {H : Hp} {hs : List Addr} {a : Addr} (h : a ∈ hs) : dels H hs a = none := by unfold dels; rw [if_pos h]
theorem dels_out {H : Hp} {hs : List Addr} {a : Addr} (h : a ∉ hs) : dels H hs a = H a := by unfold dels; rw [if_neg h]
theorem dels_get {H : Hp} {hs : List Addr} {a : Addr} {o : HO} (h : dels H hs a = some o) : H a = some o ∧ a ∉ hs := by
  by_cases c : a ∈ hs
  · rw [dels_in c] at h
    cases h
  · exact ⟨by rw [dels_out c] at h; exact h, c⟩
theorem dels_sub (H : Hp) (hs : List Addr) : Same (dels H hs) H := fun b o e => (dels_get e).1
theorem _root_.L2.Same.dels2 {H H' : Hp} (hs : List Addr) (s : Same H H') : Same (dels H hs) (dels H' hs) := fun b o e => by
  obtain ⟨e1, n⟩ := dels_get e
  rw [dels_out n]
  exact s _ _ e1
theorem _root_.L2.Same.delsN {H H' : Hp} {hs : List Addr} (s : Same H H') (h : ∀ a ∈ hs, H a = none) : Same H (dels H' hs) := fun b o e => by
  rw [dels_out fun m => ne_of_none e (h b m) rfl]
  exact s _ _ e

/-! ### comprehensions -/
/-- what turn i gives: a value, or nothing; the heap may grow -/
theorem lc_rangeF {lo : Int} {n : Nat} {g : TG} {tt : TT} {te : TE} {vs : List Nat} {σ : L2.St} {H1 : Hp} {D : Addr} {Qd : Hp → Prop} (hD : H1 D = none) (hn : n ≤ 50000) (F : Nat → Option V)
    (hs : ∀ (i : Nat) (H' : Hp), i < n → Same H1 H' → ∀ (G : V → Hp → Prop) (N : Hp → Prop), (∀ y H'', F i = some y → Same H' H'' → G y H'') → (∀ H'', F i = none → Same H' H'' → N H'') →
      g (.int (lo + i)) (wipe σ vs) H' fun σ2 H2 => wipe σ2 vs = wipe σ vs ∧ tt σ2 H2 fun b H3 => if b = true then te σ2 H3 G else N H3)
    (hd : ∀ H'', Same H1 (del H'' D) → H'' D = some (.lst ((List.range n).filterMap F)) → Qd H'') :
    ∃ W : Nat → Nat → Hp → Prop, (∃ m, W 0 m (upd H1 D (.lst []))) ∧ ∀ i m H, W i m H →
      ((Itr lo n).stop i H ∧ Qd H) ∨ ((Itr lo n).go i H ∧ ∃ Nx : Hp → Prop, (∀ H', Nx H' → ∃ m', m' < m ∧ W (i + 1) m' H') ∧ ∀ x H', (Itr lo n).yld i H x H' → g x (wipe σ vs) H' fun σ2 H2 => wipe σ2 vs = wipe σ vs ∧ tt σ2 H2 fun b H3 =>
        if b = true then te σ2 H3 fun y H4 => ∃ acc, H4 D = some (.lst acc) ∧ acc.length < sizeLine ∧ Nx (upd H4 D (.lst (acc ++ [y]))) else Nx H3) := by
  refine lc_range (fun i H' => Same H1 (del H' D) ∧ H' D = some (.lst ((List.range i).filterMap F))) ⟨by rw [del_new hD]; exact Same.refl _, upd_same⟩ (fun i H' hi ⟨p1, p2⟩ => ?_) (fun H' ⟨p1, p2⟩ => hd H' p1 p2)
  refine hs i H' hi (p1.trans (del_sub _ _)) _ _ (fun y H'' e s => ⟨_, s _ _ p2, ?_, p1.trans (by rw [del_upd]; exact s.del2 D), ?_⟩) (fun H'' e s => ⟨p1.trans (s.del2 D), ?_⟩)
  · refine small_lt ?_
    have h1 := List.length_filterMap_le F (List.range i)
    rw [List.length_range] at h1
    omega
  · rw [upd_same, List.range_succ, List.filterMap_append, List.filterMap_cons, e]
    rfl
  · rw [s _ _ p2, List.range_succ, List.filterMap_append, List.filterMap_cons, e, List.filterMap_nil, List.append_nil]
theorem filterMap_take {α β : Type} (f : α → Option β) {l : List α} {i : Nat} {x : α} (h : l[i]? = some x) : (l.take (i + 1)).filterMap f = (l.take i).filterMap f ++ (f x).toList := by
  rw [List.take_add_one, h, List.filterMap_append, Option.toList_some, List.filterMap_cons]
  cases f x <;> rfl
theorem lc_listF {K : PySem.W.Frag} {a : Addr} {xs : List V} {g : TG} {tt : TT} {te : TE} {vs : List Nat} {σ : L2.St} {H1 : Hp} {D : Addr} {Qd : Hp → Prop} (hD : H1 D = none) (hS : SqL K H1 a xs) (hn : xs.length ≤ 50000) (F : V → Option V)
    (hs : ∀ (i : Nat) (x : V) (H' : Hp), xs[i]? = some x → Same H1 H' → ∀ (G : V → Hp → Prop) (N : Hp → Prop), (∀ y H'', F x = some y → Same H' H'' → G y H'') → (∀ H'', F x = none → Same H' H'' → N H'') →
      g x (wipe σ vs) H' fun σ2 H2 => wipe σ2 vs = wipe σ vs ∧ tt σ2 H2 fun b H3 => if b = true then te σ2 H3 G else N H3)
    (hd : ∀ H'', Same H1 (del H'' D) → H'' D = some (.lst (xs.filterMap F)) → Qd H'') :
    ∃ W : Nat → Nat → Hp → Prop, (∃ m, W 0 m (upd H1 D (.lst []))) ∧ ∀ i m H, W i m H →
      ((Itl K a).stop i H ∧ Qd H) ∨ ((Itl K a).go i H ∧ ∃ Nx : Hp → Prop, (∀ H', Nx H' → ∃ m', m' < m ∧ W (i + 1) m' H') ∧ ∀ x H', (Itl K a).yld i H x H' → g x (wipe σ vs) H' fun σ2 H2 => wipe σ2 vs = wipe σ vs ∧ tt σ2 H2 fun b H3 =>
        if b = true then te σ2 H3 fun y H4 => ∃ acc, H4 D = some (.lst acc) ∧ acc.length < sizeLine ∧ Nx (upd H4 D (.lst (acc ++ [y]))) else Nx H3) := by
  refine lc_list (xs := xs) (fun i H' => Same H1 (del H' D) ∧ H' D = some (.lst ((xs.take i).filterMap F))) ⟨by rw [del_new hD]; exact Same.refl _, upd_same⟩ (fun i H' _ ⟨p1, p2⟩ => (p1.trans (del_sub _ _)).seq hS) (fun i x H' hx ⟨p1, p2⟩ => ?_) (fun H' ⟨p1, p2⟩ => hd H' p1 (by rw [List.take_length] at p2; exact p2))
  have hi : i < xs.length := (List.getElem?_eq_some_iff.mp hx).1
  refine hs i x H' hx (p1.trans (del_sub _ _)) _ _ (fun y H'' e s => ⟨_, s _ _ p2, ?_, p1.trans (by rw [del_upd]; exact s.del2 D), ?_⟩) (fun H'' e s => ⟨p1.trans (s.del2 D), ?_⟩)
  · refine small_lt ?_
    have h1 := List.length_filterMap_le F (xs.take i)
    rw [List.length_take] at h1
    omega
  · rw [upd_same, filterMap_take F hx, e]
    rfl
  · rw [s _ _ p2, filterMap_take F hx, e]
    simp
/-- each turn gives a value of which P holds (P stays while the heap grows) -/
theorem lc_rangeP {lo : Int} {n : Nat} {g : TG} {tt : TT} {te : TE} {vs : List Nat} {σ : L2.St} {H1 : Hp} {D : Addr} {Qd : Hp → Prop} (hD : H1 D = none) (hn : n ≤ 50000) (P : Nat → V → Hp → Prop) (hP : ∀ i y H H', P i y H → Same H H' → P i y H')
    (hs : ∀ (i : Nat) (H' : Hp), i < n → Same H1 H' → ∀ (G : V → Hp → Prop) (N : Hp → Prop), (∀ y H'', P i y (del H'' D) → Same H' H'' → G y H'') →
      g (.int (lo + i)) (wipe σ vs) H' fun σ2 H2 => wipe σ2 vs = wipe σ vs ∧ tt σ2 H2 fun b H3 => if b = true then te σ2 H3 G else N H3)
    (hd : ∀ H'' ys, Same H1 (del H'' D) → H'' D = some (.lst ys) → ys.length = n → (∀ (i : Nat) y, ys[i]? = some y → P i y (del H'' D)) → Qd H'') :
    ∃ W : Nat → Nat → Hp → Prop, (∃ m, W 0 m (upd H1 D (.lst []))) ∧ ∀ i m H, W i m H →
      ((Itr lo n).stop i H ∧ Qd H) ∨ ((Itr lo n).go i H ∧ ∃ Nx : Hp → Prop, (∀ H', Nx H' → ∃ m', m' < m ∧ W (i + 1) m' H') ∧ ∀ x H', (Itr lo n).yld i H x H' → g x (wipe σ vs) H' fun σ2 H2 => wipe σ2 vs = wipe σ vs ∧ tt σ2 H2 fun b H3 =>
        if b = true then te σ2 H3 fun y H4 => ∃ acc, H4 D = some (.lst acc) ∧ acc.length < sizeLine ∧ Nx (upd H4 D (.lst (acc ++ [y]))) else Nx H3) := by
  refine lc_range (fun i H' => Same H1 (del H' D) ∧ ∃ ys, H' D = some (.lst ys) ∧ ys.length = i ∧ ∀ (j : Nat) y, ys[j]? = some y → P j y (del H' D)) ⟨by rw [del_new hD]; exact Same.refl _, [], upd_same, rfl, fun j y h => by simp at h⟩ (fun i H' hi ⟨p1, ys, p2, p3, p4⟩ => ?_) (fun H' ⟨p1, ys, p2, p3, p4⟩ => hd H' ys p1 p2 p3 p4)
  refine hs i H' hi (p1.trans (del_sub _ _)) _ _ (fun y H'' hy s => ⟨_, s _ _ p2, small_lt (by omega), p1.trans (by rw [del_upd]; exact s.del2 D), ys ++ [y], upd_same, by simp [p3], fun j z hz => ?_⟩)
  rw [del_upd]
  by_cases e : j < ys.length
  · rw [List.getElem?_append_left e] at hz
    exact hP _ _ _ _ (p4 j z hz) (s.del2 D)
  · rw [List.getElem?_append_right (by omega)] at hz
    have e0 : j - ys.length = 0 := by
      cases q : j - ys.length with
      | zero => rfl
      | succ m => rw [q] at hz; simp at hz
    rw [e0] at hz
    have ez : y = z := Option.some.inj hz
    have ej : j = i := by omega
    rw [← ez, ej]
    exact hy
theorem lc_listP {K : PySem.W.Frag} {a : Addr} {xs : List V} {g : TG} {tt : TT} {te : TE} {vs : List Nat} {σ : L2.St} {H1 : Hp} {D : Addr} {Qd : Hp → Prop} (hD : H1 D = none) (hS : SqL K H1 a xs) (hn : xs.length ≤ 50000) (P : Nat → V → Hp → Prop) (hP : ∀ i y H H', P i y H → Same H H' → P i y H')
    (hs : ∀ (i : Nat) (x : V) (H' : Hp), xs[i]? = some x → Same H1 H' → H' D ≠ none → ∀ (G : V → Hp → Prop) (N : Hp → Prop), (∀ y H'', P i y (del H'' D) → Same H' H'' → G y H'') →
      g x (wipe σ vs) H' fun σ2 H2 => wipe σ2 vs = wipe σ vs ∧ tt σ2 H2 fun b H3 => if b = true then te σ2 H3 G else N H3)
    (hd : ∀ H'' ys, Same H1 (del H'' D) → H'' D = some (.lst ys) → ys.length = xs.length → (∀ (i : Nat) y, ys[i]? = some y → P i y (del H'' D)) → Qd H'') :
    ∃ W : Nat → Nat → Hp → Prop, (∃ m, W 0 m (upd H1 D (.lst []))) ∧ ∀ i m H, W i m H →
      ((Itl K a).stop i H ∧ Qd H) ∨ ((Itl K a).go i H ∧ ∃ Nx : Hp → Prop, (∀ H', Nx H' → ∃ m', m' < m ∧ W (i + 1) m' H') ∧ ∀ x H', (Itl K a).yld i H x H' → g x (wipe σ vs) H' fun σ2 H2 => wipe σ2 vs = wipe σ vs ∧ tt σ2 H2 fun b H3 =>
        if b = true then te σ2 H3 fun y H4 => ∃ acc, H4 D = some (.lst acc) ∧ acc.length < sizeLine ∧ Nx (upd H4 D (.lst (acc ++ [y]))) else Nx H3) := by
  refine lc_list (xs := xs) (fun i H' => Same H1 (del H' D) ∧ ∃ ys, H' D = some (.lst ys) ∧ ys.length = i ∧ ∀ (j : Nat) y, ys[j]? = some y → P j y (del H' D)) ⟨by rw [del_new hD]; exact Same.refl _, [], upd_same, rfl, fun j y h => by simp at h⟩ (fun i H' _ ⟨p1, p2⟩ => (p1.trans (del_sub _ _)).seq hS) (fun i x H' hx ⟨p1, ys, p2, p3, p4⟩ => ?_) (fun H' ⟨p1, ys, p2, p3, p4⟩ => hd H' ys p1 p2 p3 p4)
  have hi : i < xs.length := (List.getElem?_eq_some_iff.mp hx).1
  refine hs i x H' hx (p1.trans (del_sub _ _)) (by rw [p2]; intro z; cases z) _ _ (fun y H'' hy s => ⟨_, s _ _ p2, small_lt (by omega), p1.trans (by rw [del_upd]; exact s.del2 D), ys ++ [y], upd_same, by simp [p3], fun j z hz => ?_⟩)
  rw [del_upd]
  by_cases e : j < ys.length
  · rw [List.getElem?_append_left e] at hz
    exact hP _ _ _ _ (p4 j z hz) (s.del2 D)
  · rw [List.getElem?_append_right (by omega)] at hz
    have e0 : j - ys.length = 0 := by
      cases q : j - ys.length with
      | zero => rfl
      | succ m => rw [q] at hz; simp at hz
    rw [e0] at hz
    have ez : y = z := Option.some.inj hz
    have ej : j = i := by omega
    rw [← ez, ej]
    exact hy

theorem fm_some {α β : Type} {f : α → β} {l : List α} : l.filterMap (fun k => some (f k)) = l.map f := by
  induction l with
  | nil => rfl
  | cons a r ih => rw [List.filterMap_cons, ih]; rfl
/-- the new objects that a comprehension has made so far, at addrs -/
structure News (H1 : Hp) (D : Addr) (obj : Nat → HO) (addrs : List Addr) (H' : Hp) : Prop where
  same : Same H1 (del H' D)
  lst : H' D = some (.lst (addrs.map V.ref))
  nd : addrs.Nodup
  old : ∀ p ∈ addrs, H1 p = none
  at_ : ∀ (j : Nat) (p : Addr), addrs[j]? = some p → del H' D p = some (obj j)
theorem News.snoc {H1 H' H'' : Hp} {D l : Addr} {obj : Nat → HO} {addrs : List Addr} (N : News H1 D obj addrs H') (hl : H' l = none) (s : Same H' H'') (e : H'' l = some (obj addrs.length)) :
    News H1 D obj (addrs ++ [l]) (upd H'' D (.lst (addrs.map V.ref ++ [.ref l]))) where
  same := by rw [del_upd]; exact N.same.trans (s.del2 D)
  lst := by rw [upd_same, List.map_append]; rfl
  nd := by
    refine List.nodup_append.mpr ⟨N.nd, by simp, fun a ha b hb => ?_⟩
    have eb : b = l := by simpa using hb
    rw [eb]
    intro e2
    obtain ⟨j, hj⟩ := List.mem_iff_getElem?.mp ha
    have := (del_get (N.at_ j a hj)).1
    rw [e2, hl] at this
    cases this
  old := fun p hp => by
    rcases List.mem_append.mp hp with h | h
    · exact N.old p h
    · have ep : p = l := by simpa using h
      rw [ep]
      cases q : H1 l with
      | none => rfl
      | some o =>
        have := (del_get (N.same l o q)).1
        rw [hl] at this
        cases this
  at_ := fun j p hj => by
    rw [del_upd]
    by_cases c : j < addrs.length
    · rw [List.getElem?_append_left c] at hj
      exact s.del2 D _ _ (N.at_ j p hj)
    · have hjl : j < (addrs ++ [l]).length := (List.getElem?_eq_some_iff.mp hj).1
      rw [List.length_append, List.length_singleton] at hjl
      have ej : j = addrs.length := by omega
      rw [ej, List.getElem?_append_right (Nat.le_refl _), Nat.sub_self] at hj
      have ep : l = p := Option.some.inj hj
      have nlD : l ≠ D := fun z => by rw [z, N.lst] at hl; cases hl
      rw [← ep, del_ne nlD, e, ej]
theorem News.nil {H1 : Hp} {D : Addr} {obj : Nat → HO} (hD : H1 D = none) : News H1 D obj [] (upd H1 D (.lst [])) where
  same := by rw [del_new hD]; exact Same.refl _
  lst := upd_same
  nd := List.nodup_nil
  old := fun p hp => by simp at hp
  at_ := fun j p h => by simp at h
/-- each turn makes one new object -/
theorem lc_rangeN {lo : Int} {n : Nat} {g : TG} {tt : TT} {te : TE} {vs : List Nat} {σ : L2.St} {H1 : Hp} {D : Addr} {Qd : Hp → Prop} (hD : H1 D = none) (hn : n ≤ 50000) (obj : Nat → HO)
    (hs : ∀ (i : Nat) (H' : Hp), i < n → Same H1 H' → ∀ (G : V → Hp → Prop) (N : Hp → Prop), (∀ l H'', H' l = none → Same H' H'' → H'' l = some (obj i) → G (.ref l) H'') →
      g (.int (lo + i)) (wipe σ vs) H' fun σ2 H2 => wipe σ2 vs = wipe σ vs ∧ tt σ2 H2 fun b H3 => if b = true then te σ2 H3 G else N H3)
    (hd : ∀ H'' addrs, addrs.length = n → News H1 D obj addrs H'' → Qd H'') :
    ∃ W : Nat → Nat → Hp → Prop, (∃ m, W 0 m (upd H1 D (.lst []))) ∧ ∀ i m H, W i m H →
      ((Itr lo n).stop i H ∧ Qd H) ∨ ((Itr lo n).go i H ∧ ∃ Nx : Hp → Prop, (∀ H', Nx H' → ∃ m', m' < m ∧ W (i + 1) m' H') ∧ ∀ x H', (Itr lo n).yld i H x H' → g x (wipe σ vs) H' fun σ2 H2 => wipe σ2 vs = wipe σ vs ∧ tt σ2 H2 fun b H3 =>
        if b = true then te σ2 H3 fun y H4 => ∃ acc, H4 D = some (.lst acc) ∧ acc.length < sizeLine ∧ Nx (upd H4 D (.lst (acc ++ [y]))) else Nx H3) := by
  refine lc_range (fun i H' => ∃ addrs : List Addr, addrs.length = i ∧ News H1 D obj addrs H') ⟨[], rfl, News.nil hD⟩ (fun i H' hi ⟨addrs, hl, N⟩ => ?_) (fun H' ⟨addrs, hl, N⟩ => hd H' addrs hl N)
  refine hs i H' hi (N.same.trans (del_sub _ _)) _ _ (fun l H'' h1 s e => ⟨_, s _ _ N.lst, small_lt (by rw [List.length_map]; omega), addrs ++ [l], by simp [hl], N.snoc h1 s (by rw [hl]; exact e)⟩)
theorem lc_listN {K : PySem.W.Frag} {a : Addr} {xs : List V} {g : TG} {tt : TT} {te : TE} {vs : List Nat} {σ : L2.St} {H1 : Hp} {D : Addr} {Qd : Hp → Prop} (hD : H1 D = none) (hS : SqL K H1 a xs) (hn : xs.length ≤ 50000) (obj : Nat → HO)
    (hs : ∀ (i : Nat) (x : V) (H' : Hp), xs[i]? = some x → Same H1 H' → ∀ (G : V → Hp → Prop) (N : Hp → Prop), (∀ l H'', H' l = none → Same H' H'' → H'' l = some (obj i) → G (.ref l) H'') →
      g x (wipe σ vs) H' fun σ2 H2 => wipe σ2 vs = wipe σ vs ∧ tt σ2 H2 fun b H3 => if b = true then te σ2 H3 G else N H3)
    (hd : ∀ H'' addrs, addrs.length = xs.length → News H1 D obj addrs H'' → Qd H'') :
    ∃ W : Nat → Nat → Hp → Prop, (∃ m, W 0 m (upd H1 D (.lst []))) ∧ ∀ i m H, W i m H →
      ((Itl K a).stop i H ∧ Qd H) ∨ ((Itl K a).go i H ∧ ∃ Nx : Hp → Prop, (∀ H', Nx H' → ∃ m', m' < m ∧ W (i + 1) m' H') ∧ ∀ x H', (Itl K a).yld i H x H' → g x (wipe σ vs) H' fun σ2 H2 => wipe σ2 vs = wipe σ vs ∧ tt σ2 H2 fun b H3 =>
        if b = true then te σ2 H3 fun y H4 => ∃ acc, H4 D = some (.lst acc) ∧ acc.length < sizeLine ∧ Nx (upd H4 D (.lst (acc ++ [y]))) else Nx H3) := by
  refine lc_list (xs := xs) (fun i H' => ∃ addrs : List Addr, addrs.length = i ∧ News H1 D obj addrs H') ⟨[], rfl, News.nil hD⟩ (fun i H' _ ⟨addrs, hl, N⟩ => (N.same.trans (del_sub _ _)).seq hS) (fun i x H' hx ⟨addrs, hl, N⟩ => ?_) (fun H' ⟨addrs, hl, N⟩ => hd H' addrs hl N)
  have hi : i < xs.length := (List.getElem?_eq_some_iff.mp hx).1
  refine hs i x H' hx (N.same.trans (del_sub _ _)) _ _ (fun l H'' h1 s e => ⟨_, s _ _ N.lst, small_lt (by rw [List.length_map]; omega), addrs ++ [l], by simp [hl], N.snoc h1 s (by rw [hl]; exact e)⟩)

/-! ### data to be compared -/
mutual
theorem Dp.same {K : PySem.W.Frag} {H H' : Hp} (s : Same H H') : ∀ (d : PyData) (v : V), Dp K H v d → Dp K H' v d
  | .none, _, h => by cases h; exact .non
  | .bool b, _, h => by cases h; exact .bl b
  | .int i, _, h => by cases h; exact .int i
  | .str x, _, h => by cases h; exact .str x
  | .list ds, _, h => by
    cases h with
    | lst hs ha => exact .lst (s.seq hs) (DpAll.same s ds _ ha)
  | .tuple ds, _, h => by
    cases h with
    | tup hs ha => exact .tup (Same.tup s hs) (DpAll.same s ds _ ha)
  | .dict _, _, h => by cases h
theorem DpAll.same {K : PySem.W.Frag} {H H' : Hp} (s : Same H H') : ∀ (ds : List PyData) (vs : List V), DpAll K H vs ds → DpAll K H' vs ds
  | [], _, h => by cases h; exact .nil
  | d :: ds, _, h => by
    cases h with
    | cons h1 h2 => exact .cons (Dp.same s d _ h1) (DpAll.same s ds _ h2)
end
/-- shaped, and no deeper than n -/
def Shp (n : Nat) (d : PyData) : Prop := d.canLay0 = true ∧ d.depth ≤ n
theorem Shp.all {n : Nat} : ∀ {ds : List PyData}, (∀ d ∈ ds, Shp n d) → PyData.canLayAll0 ds = true ∧ PyData.depthAll ds ≤ n
  | [], _ => ⟨rfl, Nat.zero_le _⟩
  | d :: ds, h => by
    obtain ⟨h1, h2⟩ := h d List.mem_cons_self
    obtain ⟨h3, h4⟩ := Shp.all (ds := ds) fun x hx => h x (List.mem_cons_of_mem _ hx)
    refine ⟨?_, ?_⟩
    · show (d.canLay0 && PyData.canLayAll0 ds) = true
      rw [h1, h3]
      rfl
    · show max d.depth (PyData.depthAll ds) ≤ n
      omega
theorem Shp.list {n : Nat} {ds : List PyData} (h : ∀ d ∈ ds, Shp n d) : Shp (n + 1) (.list ds) := by
  obtain ⟨h1, h2⟩ := Shp.all h
  exact ⟨h1, Nat.succ_le_succ h2⟩
theorem Shp.tuple {n : Nat} {ds : List PyData} (h : ∀ d ∈ ds, Shp n d) : Shp (n + 1) (.tuple ds) := by
  obtain ⟨h1, h2⟩ := Shp.all h
  exact ⟨h1, Nat.succ_le_succ h2⟩
theorem Shp.int (n : Nat) (i : Int) : Shp n (.int i) := ⟨rfl, Nat.zero_le _⟩
theorem Shp.non (n : Nat) : Shp n .none := ⟨rfl, Nat.zero_le _⟩
theorem Shp.ok {n : Nat} {d : PyData} (h : Shp n d) (hn : n ≤ 64) : SeqAt.shaped d = true := by
  unfold SeqAt.shaped
  rw [h.1, decide_eq_true (Nat.le_trans h.2 hn)]
  rfl
theorem Shp.refl {n : Nat} {d : PyData} (h : Shp n d) : PyData.eqv d d = true := SeqAt.eqv_refl d h.1
theorem dpAll_ints {K : PySem.W.Frag} {H : Hp} : ∀ ns : List Int, DpAll K H (ns.map V.int) (ns.map PyData.int)
  | [] => .nil
  | n :: r => .cons (.int n) (dpAll_ints r)
theorem dp_ints {K : PySem.W.Frag} {H : Hp} {a : Addr} {ns : List Int} (h : SqL K H a (ns.map V.int)) : Dp K H (.ref a) (.list (ns.map PyData.int)) := .lst h (dpAll_ints ns)
theorem shp_ints (ns : List Int) : Shp 1 (.list (ns.map PyData.int)) := Shp.list fun d hd => by
  obtain ⟨i, _, rfl⟩ := List.mem_map.mp hd
  exact Shp.int 0 i
/-- == of equal data, as the reading of op_eqD, op_neD wants it -/
theorem eqD_yes {K : PySem.W.Frag} {H : Hp} {x y : V} {d : PyData} {n : Nat} {Q : VK} (h1 : Dp K H x d) (h2 : Dp K H y d) (hs : Shp n d) (hn : n ≤ 64) (q : Q (.bl true) H) : rEqD K x y H Q :=
  ⟨d, d, h1, h2, hs.ok hn, hs.ok hn, by rw [hs.refl]; exact q⟩
theorem neD_no {K : PySem.W.Frag} {H : Hp} {x y : V} {d : PyData} {n : Nat} {Q : VK} (h1 : Dp K H x d) (h2 : Dp K H y d) (hs : Shp n d) (hn : n ≤ 64) (q : Q (.bl false) H) : rNeD K x y H Q :=
  ⟨d, d, h1, h2, hs.ok hn, hs.ok hn, by rw [hs.refl]; exact q⟩
/-! ### isinstance -/
theorem isi_yes {K : PySem.W.Frag} {H : Hp} {x : V} {T : String} {Q : VK} (h : TyOf K H x (.type T)) (hk : kitB T T = some true) (q : Q (.bl true) H) : rIsi K [x, .ty T] H Q :=
  ⟨x, .ty T, .type T, .type T, true, rfl, .ty T, .base h, kit_ty hk, q⟩
theorem isi_no {K : PySem.W.Frag} {H : Hp} {x : V} {T U : String} {Q : VK} (h : TyOf K H x (.type T)) (hk : kitB T U = some false) (q : Q (.bl false) H) : rIsi K [x, .ty U] H Q :=
  ⟨x, .ty U, .type T, .type U, false, rfl, .ty U, .base h, kit_ty hk, q⟩
theorem kb_int : kitB "int" "int" = some true := by decide +kernel
theorem kb_intbool : kitB "int" "bool" = some false := by decide +kernel
theorem kb_list : kitB "list" "list" = some true := by decide +kernel
theorem kb_tuple : kitB "tuple" "tuple" = some true := by decide +kernel
theorem pe_gc {X : Cx} {x : Str} {pos : Pos} {v : V} (hg : Gl X x) (h : ∃ u, X.mg x = some u ∧ RelV v u) (hd : (x == ("__debug__" : Str)) = false := by decide) : PE X (.Name x pos) (tC v) := by
  obtain ⟨u, hm, r⟩ := h
  exact pe_glob hg hm r hd
theorem glob_int {mg : Str → Option Value} {x : Str} {i : Int} (h : ∃ t, mg x = some (.int i t)) : ∃ u, mg x = some u ∧ RelV (.int i) u := let ⟨t, e⟩ := h; ⟨_, e, t, rfl⟩
theorem cx_none {P : Program} {w : World} {H : Hp} {s s' : Shared} {e : Value} (z : L2.CX P w [] H s (fun _ _ _ => False) e s') : False := by
  obtain ⟨_, _, _, _, _, _, _, _, _, _, _, _, z⟩ := z
  exact z
end FW

local macro_rules | `(tactic| walk_at "ne") => `(tactic| first
  | (assumption)
  | (refine' FW.ne_sym ?_; assumption)
  | (refine' L2.ne_of_none ?ka ?kb; (case kb => assumption); (case ka => walk_at "hf"))
  | (refine' FW.ne_sym (L2.ne_of_none ?ka ?kb); (case kb => assumption); (case ka => walk_at "hf"))
  | (refine' L2.ne_of ?ka ?kb ?kc; (case ka => walk_at "hf"); (case kb => walk_at "hf"); (case kc => (intro z; cases z)))
  | (fail "ne"))
local macro_rules | `(tactic| walk_at "hf") => `(tactic| first
  | (assumption)
  | (exact L2.upd_same)
  | (refine' FW.upd_other ?ka ?kb; (case kb => walk_at "hf"); (case ka => walk_at "ne"))
  | (refine' (by assumption : L2.Same _ _) _ _ ?kc; (case kc => walk_at "hf"))
  | (fail "hf"))
local macro_rules | `(tactic| walk_at "sq") => `(tactic| first
  | (assumption)
  | (refine' L2.SqL.of ?ka; (case ka => walk_at "hf"))
  | (refine' FW.sq_new ?ka ?kb; (case ka => assumption); (case kb => walk_at "sq"))
  | (refine' FW.sq_ins ?ka ?kb; (case ka => walk_at "hf"); (case kb => walk_at "sq"))
  | (refine' FW.sq_ne ?ka ?kb; (case ka => walk_at "ne"); (case kb => walk_at "sq"))
  | (refine' L2.Same.seq (by assumption) ?kc; (case kc => walk_at "sq"))
  | (fail "sq"))
local macro_rules | `(tactic| walk_at "st") => `(tactic| first
  | (assumption)
  | (refine' L2.SqT.of ?ka; (case ka => walk_at "hf"))
  | (refine' FW.st_new ?ka ?kb; (case ka => assumption); (case kb => walk_at "st"))
  | (refine' FW.st_lst ?ka ?kb; (case ka => walk_at "hf"); (case kb => walk_at "st"))
  | (refine' FW.st_ins ?ka ?kb; (case ka => walk_at "hf"); (case kb => walk_at "st"))
  | (refine' FW.st_ne ?ka ?kb; (case ka => walk_at "ne"); (case kb => walk_at "st"))
  | (refine' L2.Same.tup (by assumption) ?kc; (case kc => walk_at "st"))
  | (fail "st"))
local macro_rules | `(tactic| walk_at "side") => `(tactic| first
  | (assumption)
  | (exact rfl)
  | (show L2.SqL _ _ _ _; walk_at "sq")
  | (show L2.SqT _ _ _ _; walk_at "st")
  | (show _ ∨ _; first | (refine' Or.inl ?_; walk_at "sq") | (refine' Or.inr ?_; walk_at "st"))
  | (show L2.tyV _ _ _ _; refine' Or.inl (And.intro rfl ?_); apply Exists.intro; walk_at "sq")
  | (show L2.TruV _ (V.ref _) _ _; first | (refine' Or.inl ?_; apply Exists.intro; refine' And.intro ?kq rfl; (case kq => walk_at "sq")) | (refine' Or.inr (Or.inl ?_); apply Exists.intro; refine' And.intro ?kq rfl; (case kq => walk_at "st")))
  | ((with_reducible show _ = some _); walk_at "hf")
  | (apply Exists.intro; first | walk_at "sq" | walk_at "st")
  | ((with_reducible show L2.CPow _ _); exact ⟨by decide, by decide, by decide⟩)
  | ((with_reducible show L2.CDiv _ _); exact ⟨by omega, by omega⟩)
  | ((with_reducible show L2.CMul _ _); first | (exact Or.inr ⟨by omega, by omega⟩) | (exact Or.inl ⟨by omega, by omega⟩))
  | (exact FW.putF_1)
  | (exact FW.putF_2)
  | (decide)
  | (omega)
  | (dsimp only; omega)
  | (simp only [List.length_cons, List.length_nil, List.length_append, List.length_map, List.length_set, List.length_range]; omega)
  | (refine' FW.small_le ?_; simp only [List.length_cons, List.length_nil, List.length_append, List.length_map]; omega)
  | (refine' FW.small_lt ?_; simp only [List.length_cons, List.length_nil, List.length_append, List.length_map]; omega))
local macro_rules | `(tactic| walk_at "rd1") => `(tactic| first
  | ((fail_if_success (show ∃ W : Nat → _, _)); apply Exists.intro)
  | (refine And.intro ?ks ?_; (case ks => walk_at "side"))
  | (refine FW.ite_dT ?ks ?_; (case ks => first | assumption | omega))
  | (refine FW.ite_dF ?ks ?_; (case ks => first | assumption | omega))
  | (refine FW.ite_nT ?ks ?_; (case ks => first | assumption | omega))
  | (refine FW.ite_nF ?ks ?_; (case ks => first | assumption | omega))
  | (refine L2.iteT ?_)
  | (refine L2.iteF ?_))
local macro_rules | `(tactic| walk_at "rd") => `(tactic| repeat (walk_at "rd1"))
local macro_rules | `(tactic| walk_at "len") => `(tactic| (intro vs H Q E h; repeat (first | (obtain ⟨e, _⟩ := h; subst e; rfl) | (obtain ⟨_, h⟩ := h))))
/-! Prices: what the defs of fareweb/prices.py promise. -/
namespace FW
open PySem PySem.Spec PyProof.Rows L2

/-- the classes' addresses -/
structure Ad where
  c_FareError : Addr
  c_BadLink : Addr
  c_BadStop : Addr
  c_NoWay : Addr
  c_BadPrices : Addr
  c_BadZones : Addr
  c_PastDay : Addr
  c_Tariff : Addr
  c_Web : Addr
  c_Ledger : Addr

/-- the least of a list -/
def lowL : List Int → Int
  | [] => 0
  | [a] => a
  | a :: b :: r => min a (lowL (b :: r))
theorem lowL_le : ∀ {l : List Int} {x : Int}, x ∈ l → lowL l ≤ x
  | [], _, h => by simp at h
  | [a], x, h => by
    have e : x = a := by simpa using h
    subst e
    exact Int.le_refl _
  | a :: b :: r, x, h => by
    show min a (lowL (b :: r)) ≤ x
    rcases List.mem_cons.mp h with e | h
    · subst e
      omega
    · have := lowL_le (l := b :: r) h
      omega
theorem lowL_mem : ∀ {l : List Int}, l ≠ [] → lowL l ∈ l
  | [], h => absurd rfl h
  | [a], _ => by simp [lowL]
  | a :: b :: r, _ => by
    have ih := lowL_mem (l := b :: r) (by simp)
    show min a (lowL (b :: r)) ∈ _
    by_cases c : a ≤ lowL (b :: r)
    · rw [Int.min_eq_left c]
      exact List.mem_cons_self
    · rw [Int.min_eq_right (by omega)]
      exact List.mem_cons_of_mem _ ih
theorem lowL_is {l : List Int} {m : Int} (h : m ∈ l) (hl : ∀ x ∈ l, m ≤ x) : lowL l = m := by
  have h1 := lowL_le h
  have h2 := hl _ (lowL_mem (by intro e; rw [e] at h; cases h))
  omega
/-- the price at k in a row (from one) -/
def pr (row : List Int) (k : Int) : Int := row.getD (k - 1).toNat 0
/-- the least price for so many zones or more -/
def low (row : List Int) (z : Int) : Int := lowL (row.drop (z - 1).toNat)
theorem pr_mem {row : List Int} {z k : Int} (h1 : 1 ≤ z) (h2 : z ≤ k) (h3 : k ≤ row.length) : pr row k ∈ row.drop (z - 1).toNat := by
  have hk : (k - 1).toNat < row.length := by omega
  unfold pr
  rw [List.getD_eq_getElem?_getD, List.getElem?_eq_getElem hk]
  refine List.mem_iff_getElem?.mpr ⟨(k - 1).toNat - (z - 1).toNat, ?_⟩
  rw [List.getElem?_drop]
  have e : (z - 1).toNat + ((k - 1).toNat - (z - 1).toNat) = (k - 1).toNat := by omega
  rw [e, List.getElem?_eq_getElem hk]
  rfl
theorem mem_pr {row : List Int} {z x : Int} (h1 : 1 ≤ z) (h : x ∈ row.drop (z - 1).toNat) : ∃ k : Int, z ≤ k ∧ k ≤ row.length ∧ pr row k = x := by
  obtain ⟨i, hi⟩ := List.mem_iff_getElem?.mp h
  rw [List.getElem?_drop] at hi
  obtain ⟨hlt, e⟩ := List.getElem?_eq_some_iff.mp hi
  refine ⟨z + i, by omega, by omega, ?_⟩
  unfold pr
  have e2 : (z + (i : Int) - 1).toNat = (z - 1).toNat + i := by omega
  rw [e2, List.getD_eq_getElem?_getD, hi]
  rfl
theorem low_le {row : List Int} {z k : Int} (h1 : 1 ≤ z) (h2 : z ≤ k) (h3 : k ≤ row.length) : low row z ≤ pr row k := lowL_le (pr_mem h1 h2 h3)
theorem low_at {row : List Int} {z : Int} (h1 : 1 ≤ z) (h3 : z ≤ row.length) : ∃ k : Int, z ≤ k ∧ k ≤ row.length ∧ pr row k = low row z := by
  refine mem_pr h1 (lowL_mem fun e => ?_)
  have := pr_mem h1 (Int.le_refl z) h3
  rw [e] at this
  cases this
theorem low_is {row : List Int} {z b : Int} (h1 : 1 ≤ z) (h2 : z ≤ b) (h3 : b ≤ row.length) (hl : ∀ k : Int, z ≤ k → k ≤ row.length → pr row b ≤ pr row k) : low row z = pr row b :=
  lowL_is (pr_mem h1 h2 h3) fun x hx => by
    obtain ⟨k, a, b', rfl⟩ := mem_pr h1 hx
    exact hl k a b'
theorem low_mono {row : List Int} {z y : Int} (h1 : 1 ≤ z) (h2 : z ≤ y) (h3 : y ≤ row.length) : low row z ≤ low row y := by
  obtain ⟨k, a, b, e⟩ := low_at (row := row) (z := y) (by omega) h3
  rw [← e]
  exact low_le h1 (by omega) b
theorem low_nn {row : List Int} {z : Int} (h : ∀ x ∈ row, 0 ≤ x) : 0 ≤ low row z := by
  unfold low
  by_cases e : row.drop (z - 1).toNat = []
  · rw [e]
    exact Int.le_refl _
  · exact h _ (List.mem_of_mem_drop (lowL_mem e))

/-! ### promises -/
def sp_need_zones (K : PySem.W.Frag) (A : Ad) : Sp := fun vs H Q E => ∃ z : Int, vs = [.int z] ∧ (1 ≤ z ∧ z ≤ 5 → Q .non H) ∧ (¬ (1 ≤ z ∧ z ≤ 5) → E (.ref A.c_BadZones) none H)
/-- the row is read; b: for how many zones the cheapest ticket is -/
def sp_cheapest (K : PySem.W.Frag) (A : Ad) : Sp := fun vs H Q E => ∃ (a : Addr) (row : List Int) (z : Int), vs = [.ref a, .int z] ∧ SqL K H a (row.map V.int) ∧ row.length = 5 ∧
  (1 ≤ z ∧ z ≤ 5 → ∀ (b : Int) (p : Addr) (H' : Hp), z ≤ b → b ≤ 5 → pr row b = low row z → Same H H' → H p = none → H' p = some (.tup [.int b, .int (low row z)]) → Q (.ref p) H') ∧
  (¬ (1 ≤ z ∧ z ≤ 5) → E (.ref A.c_BadZones) none H)

theorem f_sd : ¬ (("singles" : Str) = "days") := by decide +kernel
theorem f_sw : ¬ (("singles" : Str) = "weeks") := by decide +kernel
theorem f_dw : ¬ (("days" : Str) = "weeks") := by decide +kernel
/-- the attributes, in the order in which __init__ stores them -/
def tarF (a b c : Addr) : List (Str × V) := putF "weeks" (.ref c) (putF "days" (.ref b) (putF "singles" (.ref a) []))
theorem tarF_s (a b c : Addr) : (tarF a b c).lookup ("singles" : Str) = some (.ref a) := by
  unfold tarF
  rw [lookup_putF, if_neg f_sw, lookup_putF, if_neg f_sd, lookup_putF, if_pos rfl]
theorem tarF_d (a b c : Addr) : (tarF a b c).lookup ("days" : Str) = some (.ref b) := by
  unfold tarF
  rw [lookup_putF, if_neg f_dw, lookup_putF, if_pos rfl]
theorem tarF_w (a b c : Addr) : (tarF a b c).lookup ("weeks" : Str) = some (.ref c) := by
  unfold tarF
  rw [lookup_putF, if_pos rfl]
theorem tarF_no (a b c : Addr) {m : Str} (h1 : ¬ m = "singles") (h2 : ¬ m = "days") (h3 : ¬ m = "weeks") : (tarF a b c).lookup m = none := by
  unfold tarF
  rw [lookup_putF, if_neg h3, lookup_putF, if_neg h2, lookup_putF, if_neg h1]
  rfl
/-- five prices from nought on -/
def Row5 (row : List Int) : Prop := row.length = 5 ∧ ∀ x ∈ row, 0 ≤ x
/-- a tariff stands at p: its three lists at a, b, c -/
structure TarAt (A : Ad) (H : Hp) (p a b c : Addr) (S D W : List Int) : Prop where
  ob : ∃ dx, H p = some (.ins A.c_Tariff dx (tarF a b c))
  hs : H a = some (.lst (S.map V.int))
  hd : H b = some (.lst (D.map V.int))
  hw : H c = some (.lst (W.map V.int))
  rs : Row5 S
  rd : Row5 D
  rw : Row5 W
theorem TarAt.same {A : Ad} {H H' : Hp} {p a b c : Addr} {S D W : List Int} (t : TarAt A H p a b c S D W) (s : Same H H') : TarAt A H' p a b c S D W :=
  ⟨let ⟨dx, e⟩ := t.ob; ⟨dx, s _ _ e⟩, s _ _ t.hs, s _ _ t.hd, s _ _ t.hw, t.rs, t.rd, t.rw⟩
theorem TarAt.dels {A : Ad} {H : Hp} {p a b c : Addr} {S D W : List Int} {hs : List Addr} (t : TarAt A H p a b c S D W) (np : p ∉ hs) (na : a ∉ hs) (nb : b ∉ hs) (nc : c ∉ hs) : TarAt A (dels H hs) p a b c S D W :=
  ⟨let ⟨dx, e⟩ := t.ob; ⟨dx, by rw [dels_out np]; exact e⟩, by rw [dels_out na]; exact t.hs, by rw [dels_out nb]; exact t.hd, by rw [dels_out nc]; exact t.hw, t.rs, t.rd, t.rw⟩
def Tar (A : Ad) (H : Hp) (p : Addr) (S D W : List Int) : Prop := ∃ a b c, TarAt A H p a b c S D W
theorem Tar.same {A : Ad} {H H' : Hp} {p : Addr} {S D W : List Int} (t : Tar A H p S D W) (s : Same H H') : Tar A H' p S D W :=
  let ⟨a, b, c, h⟩ := t; ⟨a, b, c, h.same s⟩
/-- Tariff(singles, days, weeks): three lists of whole numbers; a new tariff with lists of its own, or BadPrices -/
def sp_Tariff_init (K : PySem.W.Frag) (A : Ad) : Sp := fun vs H Q E => ∃ (p dx a b c : Addr) (S D W : List Int), vs = [.ref p, .ref a, .ref b, .ref c] ∧ H p = some (.ins A.c_Tariff dx []) ∧
  SqL K H a (S.map V.int) ∧ SqL K H b (D.map V.int) ∧ SqL K H c (W.map V.int) ∧
  (Row5 S ∧ Row5 D ∧ Row5 W → ∀ (a' b' c' : Addr) (H' : Hp), TarAt A H' p a' b' c' S D W → H a' = none → H b' = none → H c' = none → a' ≠ b' → a' ≠ c' → b' ≠ c' → (∀ x o, H x = some o → x ≠ p → H' x = some o) → Q .non H') ∧
  (¬ (Row5 S ∧ Row5 D ∧ Row5 W) → ∀ H', Same H H' → E (.ref A.c_BadPrices) none H')
def spPrice (K : PySem.W.Frag) (A : Ad) (f : List Int → List Int → List Int → List Int) : Sp := fun vs H Q E => ∃ (p : Addr) (S D W : List Int) (z : Int), vs = [.ref p, .int z] ∧ Tar A H p S D W ∧
  (1 ≤ z ∧ z ≤ 5 → ∀ H', Same H H' → Q (.int (low (f S D W) z)) H') ∧ (¬ (1 ≤ z ∧ z ≤ 5) → E (.ref A.c_BadZones) none H)
def sp_Tariff_single (K : PySem.W.Frag) (A : Ad) : Sp := spPrice K A fun S _ _ => S
def sp_Tariff_day (K : PySem.W.Frag) (A : Ad) : Sp := spPrice K A fun _ D _ => D
def sp_Tariff_week (K : PySem.W.Frag) (A : Ad) : Sp := spPrice K A fun _ _ W => W
/-- what the walk asks of the class -/
structure OkT (K : PySem.W.Frag) (A : Ad) : Prop where
  cl : Cls K A.c_Tariff
  nS : NoAttr K A.c_Tariff "singles"
  nD : NoAttr K A.c_Tariff "days"
  nW : NoAttr K A.c_Tariff "weeks"
end FW

namespace FW
open PySem PySem.Spec PyProof.Rows L2
def N_need_zones : List Str := ["zones"]
def t_need_zones (K : PySem.W.Frag) (A : Ad) (E : XK) : TS :=
 tIfS (tOr (tTest (tOp rLtI (tVar 0) (tC (.int 1)))) (tTest (tOp rGtI (tVar 0) (tC (.int 5))))) (tRaise E (.ref A.c_BadZones)) (tNext)
def N_cheapest : List Str := ["row", "zones", "best", "size"]
def t_cheapest (K : PySem.W.Frag) (A : Ad) (E : XK) : TS :=
 tSeq (tDrop (tCall (sp_need_zones K A) [] E (tCons (tVar 1) (tNil))))
 (tSeq (tAsg (tVar 1) (gName 2))
 (tSeq (tFor (iRng2 (tCons (tVar 1) (tCons (tOp rAdd (tC (.int 5)) (tC (.int 1))) (tNil)))) (gName 3) (tIfS (tTest (tOp rLtI (tOp (rIxL K) (tVar 0) (tOp rSub (tVar 3) (tC (.int 1)))) (tOp (rIxL K) (tVar 0) (tOp rSub (tVar 2) (tC (.int 1)))))) (tAsg (tVar 3) (gName 2)) (tNext)))
 (tRet (tTup (tCons (tVar 2) (tCons (tOp (rIxL K) (tVar 0) (tOp rSub (tVar 2) (tC (.int 1)))) (tNil)))))))
def N_Tariff_init : List Str := ["self", "singles", "days", "weeks", "row"]
def t_Tariff_init (K : PySem.W.Frag) (A : Ad) (E : XK) : TS :=
 tSeq (tFor (iList K (tLst (tCons (tVar 1) (tCons (tVar 2) (tCons (tVar 3) (tNil)))))) (gName 4) (tIfS (tOr (tTest (tOp rNe (tCB (rLenS K) (tCons (tVar 4) (tNil))) (tC (.int 5)))) (tTest (tOp rLtI (tCB (rMin K) (tCons (tVar 4) (tNil))) (tC (.int 0))))) (tRaise E (.ref A.c_BadPrices)) (tNext)))
 (tSeq (sFld K (tVar 0) (tCB (rListS K) (tCons (tVar 1) (tNil))) "singles")
 (tSeq (sFld K (tVar 0) (tCB (rListS K) (tCons (tVar 2) (tNil))) "days")
 (sFld K (tVar 0) (tCB (rListS K) (tCons (tVar 3) (tNil))) "weeks")))
def N_Tariff_single : List Str := ["self", "zones"]
def t_Tariff_single (K : PySem.W.Frag) (A : Ad) (E : XK) : TS :=
 tRet (tOp (rIxT K) (tCall (sp_cheapest K A) [] E (tCons (tFld K (tVar 0) "singles") (tCons (tVar 1) (tNil)))) (tC (.int 1)))
def N_Tariff_day : List Str := ["self", "zones"]
def t_Tariff_day (K : PySem.W.Frag) (A : Ad) (E : XK) : TS :=
 tRet (tOp (rIxT K) (tCall (sp_cheapest K A) [] E (tCons (tFld K (tVar 0) "days") (tCons (tVar 1) (tNil)))) (tC (.int 1)))
def N_Tariff_week : List Str := ["self", "zones"]
def t_Tariff_week (K : PySem.W.Frag) (A : Ad) (E : XK) : TS :=
 tRet (tOp (rIxT K) (tCall (sp_cheapest K A) [] E (tCons (tFld K (tVar 0) "weeks") (tCons (tVar 1) (tNil)))) (tC (.int 1)))
end FW

/-! Prices: the readings. -/
namespace FW
open PySem PySem.Spec PyProof.Rows L2
section
variable {K : PySem.W.Frag} {A : Ad} {vs : List V} {H : Hp} {Q : VK} {E : XK}
theorem rd_need_zones (h : sp_need_zones K A vs H Q E) : t_need_zones K A E { nx := fun _ H' => Q .non H', rt := Q } (start N_need_zones vs) H := by
  obtain ⟨z, rfl, k1, k2⟩ := h
  unfold t_need_zones
  walk_at "rd"
  refine ite_d (fun c => ?_) (fun c => ?_)
  · walk_at "rd"
    exact k2 (by omega)
  · walk_at "rd"
    refine ite_d (fun c2 => ?_) (fun c2 => ?_)
    · exact k2 (by omega)
    · exact k1 (by omega)
theorem rd_cheapest (h : sp_cheapest K A vs H Q E) : t_cheapest K A E { nx := fun _ H' => Q .non H', rt := Q } (start N_cheapest vs) H := by
  obtain ⟨a, row, z, rfl, hS, hl, k1, k2⟩ := h
  unfold t_cheapest
  walk_at "rd"
  refine ⟨fun hz => ?_, k2⟩
  walk_at "rd"
  refine for_range (lo := z) (n := (5 + 1 - z).toNat) (fun i σ H' => H' = H ∧ ∃ (b : Int) (o : Option V), σ = [some (.ref a), some (.int z), some (.int b), o] ∧ z ≤ b ∧ b ≤ 5 ∧ ∀ k : Int, z ≤ k → k < z + i → pr row b ≤ pr row k) ⟨rfl, z, none, rfl, Int.le_refl _, hz.2, fun k h1 h2 => absurd h2 (by omega)⟩ ?_ ?_
  · rintro i σ H' hi ⟨rfl, b, o, rfl, h1, h2, h3⟩
    have e1 : atI (row.map V.int) (z + (i : Int) - 1) = some (V.int (pr row (z + i))) := atI_map (by omega) (by omega)
    have e2 : atI (row.map V.int) (b - 1) = some (V.int (pr row b)) := atI_map (by omega) (by omega)
    walk_at "rd"
    refine ite_d (fun c => ?_) (fun c => ?_)
    · refine ⟨_, rfl, rfl, z + i, _, rfl, by omega, by omega, fun k g1 g2 => ?_⟩
      by_cases e : k = z + i
      · rw [e]
        exact Int.le_refl _
      · have := h3 k g1 (by omega)
        omega
    · refine ⟨rfl, b, _, rfl, by omega, by omega, fun k g1 g2 => ?_⟩
      by_cases e : k = z + i
      · rw [e]
        omega
      · exact h3 k g1 (by omega)
  · rintro σ H' ⟨rfl, b, o, rfl, h1, h2, h3⟩
    have e2 : atI (row.map V.int) (b - 1) = some (V.int (pr row b)) := atI_map (by omega) (by omega)
    have el : low row z = pr row b := low_is hz.1 h1 (by omega) fun k g1 g2 => h3 k g1 (by omega)
    walk_at "rd"
    intro p hp
    refine k1 hz b p _ h1 h2 el.symm (Same.new hp) hp ?_
    rw [el]
    exact upd_same
/-- is the row good? asked of each of the three rows -/
theorem rd_Tariff_init (O : OkT K A) (h : sp_Tariff_init K A vs H Q E) : t_Tariff_init K A E { nx := fun _ H' => Q .non H', rt := Q } (start N_Tariff_init vs) H := by
  obtain ⟨p, dx, a, b, c, S, D, W, rfl, hp, hS, hD, hW, k1, k2⟩ := h
  unfold t_Tariff_init
  walk_at "rd"
  intro l hl
  walk_at "rd"
  have nlp : p ≠ l := ne_of_none hp hl
  have aux : ∀ (i : Nat) (x : V), ([.ref a, .ref b, .ref c] : List V)[i]? = some x → ∃ (q : Addr) (r : List Int), x = V.ref q ∧ SqL K H q (r.map V.int) ∧ [S, D, W][i]? = some r := by
    intro i x hx
    match i, hx with
    | 0, hx => cases hx; exact ⟨a, S, rfl, hS, rfl⟩
    | 1, hx => cases hx; exact ⟨b, D, rfl, hD, rfl⟩
    | 2, hx => cases hx; exact ⟨c, W, rfl, hW, rfl⟩
    | i + 3, hx => simp at hx
  have all : (∀ r ∈ [S, D, W], Row5 r) ↔ (Row5 S ∧ Row5 D ∧ Row5 W) := by simp
  have S1 : Same H (upd H l (.lst [.ref a, .ref b, .ref c])) := Same.new hl
  generalize hH1 : upd H l (.lst [.ref a, .ref b, .ref c]) = H1 at *
  have hl1 : H1 l = some (.lst [.ref a, .ref b, .ref c]) := by rw [← hH1]; exact upd_same
  refine for_list (K := K) (a := l) (xs := [.ref a, .ref b, .ref c]) (fun i σ H' => H' = H1 ∧ ∃ o : Option V, σ = [some (.ref p), some (.ref a), some (.ref b), some (.ref c), o] ∧ ∀ r ∈ [S, D, W].take i, Row5 r) ⟨rfl, none, rfl, fun r hr => by simp at hr⟩ ?_ ?_ ?_
  · rintro i σ H' _ ⟨rfl, _⟩
    walk_at "sq"
  · rintro i x σ H' hx ⟨rfl, o, rfl, hr⟩
    obtain ⟨q, r, rfl, hq, hri⟩ := aux i x hx
    have hq1 := S1.seq hq
    have mem : r ∈ [S, D, W] := List.mem_iff_getElem?.mpr ⟨i, hri⟩
    have nx : Row5 r → ∀ r' ∈ [S, D, W].take (i + 1), Row5 r' := fun h5 r' h' => by
      rw [List.take_add_one, hri] at h'
      rcases List.mem_append.mp h' with h' | h'
      · exact hr r' h'
      · have : r' = r := by simpa using h'
        rw [this]
        exact h5
    walk_at "rd"
    refine ite_n (fun c1 => ?_) (fun c1 => ?_)
    · refine k2 (fun z => ?_) _ S1
      have h5 := (all.mpr z r mem).1
      exact c1 (by rw [List.length_map, h5]; rfl)
    · have h5 : r.length = 5 := by
        have := V.int.inj c1
        rw [List.length_map] at this
        omega
      walk_at "rd"
      intro m hm hle
      walk_at "rd"
      refine ite_d (fun c2 => ?_) (fun c2 => ?_)
      · refine k2 (fun z => ?_) _ S1
        have := (all.mpr z r mem).2 m hm
        omega
      · exact ⟨rfl, _, rfl, nx ⟨h5, fun x hx => by have := hle x hx; omega⟩⟩
  · rintro σ H' ⟨rfl, o, rfl, hr⟩
    have all5 := all.mp hr
    have hp1 : H' p = some (.ins A.c_Tariff dx []) := S1 _ _ hp
    have hS1 := S1.seq hS
    have hD1 := S1.seq hD
    have hW1 := S1.seq hW
    have clT := O.cl
    have nS := O.nS
    have nD := O.nD
    have nW := O.nW
    walk_at "rd"
    intro a' ha'
    have npa : p ≠ a' := ne_of_none hp1 ha'
    walk_at "rd"
    intro b' hb'
    have nba : b' ≠ a' := fun e => by
      rw [e, upd_ne (ne_sym npa), upd_same] at hb'
      cases hb'
    have npb : p ≠ b' := fun e => by
      rw [← e, upd_same] at hb'
      cases hb'
    have hb0 : H' b' = none := by rw [upd_ne (ne_sym npb), upd_ne nba] at hb'; exact hb'
    walk_at "rd"
    intro c' hc'
    have npc : p ≠ c' := fun e => by
      rw [← e, upd_same] at hc'
      cases hc'
    rw [upd_ne (ne_sym npc)] at hc'
    have nbc : c' ≠ b' := fun e => by
      rw [e, upd_same] at hc'
      cases hc'
    rw [upd_ne nbc, upd_ne (ne_sym npc)] at hc'
    have nac : c' ≠ a' := fun e => by
      rw [e, upd_same] at hc'
      cases hc'
    rw [upd_ne nac] at hc'
    have nap := ne_sym npa
    have nbp := ne_sym npb
    have ncp := ne_sym npc
    have nab := ne_sym nba
    have ncb := ne_sym nbc
    have nca := ne_sym nac
    walk_at "rd"
    refine k1 all5 a' b' c' _ ⟨⟨dx, upd_same⟩, by walk_at "hf", by walk_at "hf", by walk_at "hf", all5.1, all5.2.1, all5.2.2⟩ (S1.free ha') (S1.free hb0) (S1.free hc') nab nca ncb fun x o hx hxp => ?_
    have h1 := S1 _ _ hx
    have n1 := ne_of_none h1 ha'
    have n2 := ne_of_none h1 hb0
    have n3 := ne_of_none h1 hc'
    walk_at "hf"
theorem rd_price {f : List Int → List Int → List Int → List Int} {n : Str} (O : OkT K A) (hf : ∀ {H : Hp} {p : Addr} {S D W : List Int}, Tar A H p S D W → ∃ (dx a b c q : Addr), H p = some (.ins A.c_Tariff dx (tarF a b c)) ∧ (tarF a b c).lookup n = some (.ref q) ∧ H q = some (.lst ((f S D W).map V.int)) ∧ (f S D W).length = 5)
    (nn : NoAttr K A.c_Tariff n) (h : spPrice K A f vs H Q E) :
    tRet (tOp (rIxT K) (tCall (sp_cheapest K A) [] E (tCons (tFld K (tVar 0) n) (tCons (tVar 1) (tNil)))) (tC (.int 1))) { nx := fun _ H' => Q .non H', rt := Q } (start ["self", "zones"] vs) H := by
  obtain ⟨p, S, D, W, z, rfl, T, k1, k2⟩ := h
  obtain ⟨dx, a, b, c, q, h1, h2, h3, h4⟩ := hf T
  have cl := O.cl
  walk_at "rd"
  refine ⟨fun hz b p2 H' g1 g2 g3 g4 g5 g6 => ?_, k2⟩
  walk_at "rd"
  exact k1 hz _ g4
theorem tar_s {H : Hp} {p : Addr} {S D W : List Int} (T : Tar A H p S D W) : ∃ (dx a b c q : Addr), H p = some (.ins A.c_Tariff dx (tarF a b c)) ∧ (tarF a b c).lookup ("singles" : Str) = some (.ref q) ∧ H q = some (.lst (S.map V.int)) ∧ S.length = 5 :=
  let ⟨a, b, c, t⟩ := T; let ⟨dx, e⟩ := t.ob; ⟨dx, a, b, c, a, e, tarF_s a b c, t.hs, t.rs.1⟩
theorem tar_d {H : Hp} {p : Addr} {S D W : List Int} (T : Tar A H p S D W) : ∃ (dx a b c q : Addr), H p = some (.ins A.c_Tariff dx (tarF a b c)) ∧ (tarF a b c).lookup ("days" : Str) = some (.ref q) ∧ H q = some (.lst (D.map V.int)) ∧ D.length = 5 :=
  let ⟨a, b, c, t⟩ := T; let ⟨dx, e⟩ := t.ob; ⟨dx, a, b, c, b, e, tarF_d a b c, t.hd, t.rd.1⟩
theorem tar_w {H : Hp} {p : Addr} {S D W : List Int} (T : Tar A H p S D W) : ∃ (dx a b c q : Addr), H p = some (.ins A.c_Tariff dx (tarF a b c)) ∧ (tarF a b c).lookup ("weeks" : Str) = some (.ref q) ∧ H q = some (.lst (W.map V.int)) ∧ W.length = 5 :=
  let ⟨a, b, c, t⟩ := T; let ⟨dx, e⟩ := t.ob; ⟨dx, a, b, c, c, e, tarF_w a b c, t.hw, t.rw.1⟩
theorem rd_Tariff_single (O : OkT K A) (h : sp_Tariff_single K A vs H Q E) : t_Tariff_single K A E { nx := fun _ H' => Q .non H', rt := Q } (start N_Tariff_single vs) H := rd_price O tar_s O.nS h
theorem rd_Tariff_day (O : OkT K A) (h : sp_Tariff_day K A vs H Q E) : t_Tariff_day K A E { nx := fun _ H' => Q .non H', rt := Q } (start N_Tariff_day vs) H := rd_price O tar_d O.nD h
theorem rd_Tariff_week (O : OkT K A) (h : sp_Tariff_week K A vs H Q E) : t_Tariff_week K A E { nx := fun _ H' => Q .non H', rt := Q } (start N_Tariff_week vs) H := rd_price O tar_w O.nW h
end
end FW

/-! What the laws' helpers promise that many laws have. -/
namespace FW
open PySem PySem.Spec PyProof.Rows L2
/-- a cell of the script, nought beyond it -/
def cell (ns : List Int) (k : Int) : Int := ns.getD k.toNat 0
def sp_l_cell_at (K : PySem.W.Frag) (A : Ad) : Sp := fun vs H Q _ => ∃ (a : Addr) (ns : List Int) (k : Int), vs = [.ref a, .int k] ∧ SqL K H a (ns.map V.int) ∧ 0 ≤ k ∧ Q (.int (cell ns k)) H
def sp_l_whole (K : PySem.W.Frag) (A : Ad) : Sp := fun vs H Q _ => ∃ i : Int, vs = [.int i] ∧ Q (.bl true) H
/-- the least price of a row from its zones on -/
def sp_l_least (K : PySem.W.Frag) (A : Ad) : Sp := fun vs H Q _ => ∃ (a : Addr) (row : List Int) (z : Int), vs = [.ref a, .int z] ∧ SqL K H a (row.map V.int) ∧ row.length = 5 ∧ 1 ≤ z ∧ z ≤ 5 ∧ ∀ H', Same H H' → Q (.int (low row z)) H'
/-- a list that is made holds the same whole numbers as another -/
def sp_l_same (K : PySem.W.Frag) (A : Ad) : Sp := fun vs H Q _ => ∃ (a b : Addr) (xs : List Int), vs = [.ref a, .ref b] ∧ H a = some (.lst (xs.map V.int)) ∧ SqL K H b (xs.map V.int) ∧ xs.length ≤ 50000 ∧ Q (.bl true) H
/-- a law: of at most 63 numbers it says True -/
def spLaw (K : PySem.W.Frag) : Sp := fun vs H Q _ => ∃ (a : Addr) (ns : List Int), vs = [.ref a] ∧ SqL K H a (ns.map V.int) ∧ ns.length ≤ 63 ∧ ∀ H', Q (.bl true) H'
end FW

namespace FW
open PySem PySem.Spec PyProof.Rows L2
def sp_law (K : PySem.W.Frag) (A : Ad) : Sp := spLaw K
end FW

namespace FW
open PySem PySem.Spec PyProof.Rows L2
def N_l_cell_at : List Str := ["_law_script", "_law_k"]
def t_l_cell_at (K : PySem.W.Frag) (A : Ad) (E : XK) : TS :=
 tSeq (tIfS (tTest (tOp rLtI (tVar 1) (tCB (rLenS K) (tCons (tVar 0) (tNil))))) (tRet (tOp (rIxL K) (tVar 0) (tVar 1))) (tNext))
 (tRet (tC (.int 0)))
def N_l_whole : List Str := ["_law_found"]
def t_l_whole (K : PySem.W.Frag) (A : Ad) (E : XK) : TS :=
 tRet (tAndV (tIsi K (tVar 0) (.ty "int")) (tNotV (tIsi K (tVar 0) (.ty "bool"))))
def N_l_least : List Str := ["_law_row", "_law_zones", "_law_price", "_law_other"]
def t_l_least (K : PySem.W.Frag) (A : Ad) (E : XK) : TS :=
 tSeq (tAsg (tOp (rIxL K) (tVar 0) (tOp rSub (tVar 1) (tC (.int 1)))) (gName 2))
 (tSeq (tFor (iList K (tSl (rSlL K) (tVar 0) (tPart (tVar 1)) (tNoPart))) (gName 3) (tIfS (tTest (tOp rLtI (tVar 3) (tVar 2))) (tAsg (tVar 3) (gName 2)) (tNext)))
 (tRet (tVar 2)))
def N_l_same : List Str := ["_law_found", "_law_row", "_law_k"]
def t_l_same (K : PySem.W.Frag) (A : Ad) (E : XK) : TS :=
 tSeq (tIfS (tOr (tNot (tB (tIsi K (tVar 0) (.ty "list")))) (tTest (tOp rNe (tCB (rLenS K) (tCons (tVar 0) (tNil))) (tCB (rLenS K) (tCons (tVar 1) (tNil)))))) (tRet (tC (.bl false))) (tNext))
 (tSeq (tFor (iRng1 (tCons (tCB (rLenS K) (tCons (tVar 1) (tNil))) (tNil))) (gName 2) (tIfS (tOr (tNot (tB (tCall (sp_l_whole K A) [] E0 (tCons (tOp (rIxL K) (tVar 0) (tVar 2)) (tNil))))) (tTest (tOp rNe (tOp (rIxL K) (tVar 0) (tVar 2)) (tOp (rIxL K) (tVar 1) (tVar 2))))) (tRet (tC (.bl false))) (tNext)))
 (tRet (tC (.bl true))))
@[irreducible] def t_law_s11 (K : PySem.W.Frag) (A : Ad) (E : XK) : TS :=
 tRet (tAndV (tCall (sp_l_whole K A) [] E0 (tCons (tC (.int 5)) (tNil))) (tOp rEq (tC (.int 5)) (tC (.int 5))))
@[irreducible] def t_law_s10 (K : PySem.W.Frag) (A : Ad) (E : XK) : TS :=
 tSeq (tFor (iRng1 (tCons (tC (.int 3)) (tNil))) (gName 4) (tIfS (tNot (tB (tCall (sp_l_same K A) [] E0 (tCons (tOp (rIxL K) (tLst (tCons (tFld K (tVar 6) "singles") (tCons (tFld K (tVar 6) "days") (tCons (tFld K (tVar 6) "weeks") (tNil))))) (tVar 4)) (tCons (tOp (rIxL K) (tVar 3) (tVar 4)) (tNil)))))) (tRet (tC (.bl false))) (tNext)))
 (t_law_s11 K A E)
@[irreducible] def t_law_s9 (K : PySem.W.Frag) (A : Ad) (E : XK) : TS :=
 tSeq (tIfS (tTest (tOp (rNeD K) (tVar 7) (tLst (tCons (tMeth A.c_Tariff "single" (sp_Tariff_single K A) [] E0 (tVar 6) (tCons (tVar 2) (tNil))) (tCons (tMeth A.c_Tariff "day" (sp_Tariff_day K A) [] E0 (tVar 6) (tCons (tVar 2) (tNil))) (tCons (tMeth A.c_Tariff "week" (sp_Tariff_week K A) [] E0 (tVar 6) (tCons (tVar 2) (tNil))) (tNil))))))) (tRet (tC (.bl false))) (tNext))
 (t_law_s10 K A E)
@[irreducible] def t_law_s8 (K : PySem.W.Frag) (A : Ad) (E : XK) : TS :=
 tSeq (tFor (iRng1 (tCons (tC (.int 3)) (tNil))) (gName 4) (tSeq (tIfS (tOr (tNot (tB (tCall (sp_l_whole K A) [] E0 (tCons (tOp (rIxL K) (tVar 7) (tVar 4)) (tNil))))) (tTest (tOp rNe (tOp (rIxL K) (tVar 7) (tVar 4)) (tCall (sp_l_least K A) [] E0 (tCons (tOp (rIxL K) (tVar 3) (tVar 4)) (tCons (tVar 2) (tNil))))))) (tRet (tC (.bl false))) (tNext))
 (tSeq (tIfS (tNot (tB (tCall (sp_l_same K A) [] E0 (tCons (tOp (rIxL K) (tVar 5) (tVar 4)) (tCons (tOp (rIxL K) (tVar 3) (tVar 4)) (tNil)))))) (tRet (tC (.bl false))) (tNext))
 (tAsg (tOp (rIxL K) (tLst (tCons (tOp rPowI (tC (.int 10)) (tC (.int 13))) (tCons (tC (.int 0)) (tNil)))) (tOp rModI (tOp rDivI (tCall (sp_l_cell_at K A) [] E0 (tCons (tVar 0) (tCons (tC (.int 0)) (tNil)))) (tC (.int 3))) (tC (.int 2)))) (gSub (tOp (rIxL K) (tVar 5) (tVar 4)) (tOp rSub (tVar 2) (tC (.int 1))) rSetL)))))
 (t_law_s9 K A E)
@[irreducible] def t_law_s7 (K : PySem.W.Frag) (A : Ad) (E : XK) : TS :=
 tSeq (tAsg (tLst (tCons (tMeth A.c_Tariff "single" (sp_Tariff_single K A) [] E0 (tVar 6) (tCons (tVar 2) (tNil))) (tCons (tMeth A.c_Tariff "day" (sp_Tariff_day K A) [] E0 (tVar 6) (tCons (tVar 2) (tNil))) (tCons (tMeth A.c_Tariff "week" (sp_Tariff_week K A) [] E0 (tVar 6) (tCons (tVar 2) (tNil))) (tNil))))) (gName 7))
 (t_law_s8 K A E)
@[irreducible] def t_law_s6 (K : PySem.W.Frag) (A : Ad) (E : XK) : TS :=
 tSeq (tAsg (tMake A.c_Tariff (sp_Tariff_init K A) [] E0 (tCons (tOp (rIxL K) (tVar 5) (tC (.int 0))) (tCons (tOp (rIxL K) (tVar 5) (tC (.int 1))) (tCons (tOp (rIxL K) (tVar 5) (tC (.int 2))) (tNil))))) (gName 6))
 (t_law_s7 K A E)
@[irreducible] def t_law_s5 (K : PySem.W.Frag) (A : Ad) (E : XK) : TS :=
 tSeq (tAsg (tLc (iList K (tVar 3)) (gName 9) (tYes) (tCB (rListS K) (tCons (tVar 9) (tNil))) [9]) (gName 5))
 (t_law_s6 K A E)
@[irreducible] def t_law_s4 (K : PySem.W.Frag) (A : Ad) (E : XK) : TS :=
 tSeq (tFor (iRng1 (tCons (tC (.int 3)) (tNil))) (gName 4) (tDrop (tBM K "list" rAppend (tVar 3) (tCons (tLc (iRng1 (tCons (tC (.int 5)) (tNil))) (gName 8) (tYes) (tOp rModI (tCall (sp_l_cell_at K A) [] E0 (tCons (tVar 0) (tCons (tOp rAdd (tOp rAdd (tC (.int 2)) (tOp rMulI (tC (.int 5)) (tVar 4))) (tVar 8)) (tNil)))) (tVar 1)) [8]) (tNil)))))
 (t_law_s5 K A E)
@[irreducible] def t_law_s3 (K : PySem.W.Frag) (A : Ad) (E : XK) : TS :=
 tSeq (tAsg (tLst (tNil)) (gName 3))
 (t_law_s4 K A E)
@[irreducible] def t_law_s2 (K : PySem.W.Frag) (A : Ad) (E : XK) : TS :=
 tSeq (tAsg (tOp rAdd (tC (.int 1)) (tOp rModI (tCall (sp_l_cell_at K A) [] E0 (tCons (tVar 0) (tCons (tC (.int 1)) (tNil)))) (tC (.int 5)))) (gName 2))
 (t_law_s3 K A E)
@[irreducible] def t_law_s1 (K : PySem.W.Frag) (A : Ad) (E : XK) : TS :=
 tSeq (tIfS (tTest (tOp rEq (tOp rModI (tCall (sp_l_cell_at K A) [] E0 (tCons (tVar 0) (tCons (tC (.int 0)) (tNil)))) (tC (.int 3))) (tC (.int 1)))) (tAsg (tC (.int 4)) (gName 1)) (tNext))
 (t_law_s2 K A E)
def N_law : List Str := ["_law_script", "_law_most", "_law_zones", "_law_rows", "_law_sort", "_law_handed", "_law_tariff", "_law_found", "_law_k", "_law_row"]
def t_law (K : PySem.W.Frag) (A : Ad) (E : XK) : TS :=
 tSeq (tAsg (tOp rPowI (tC (.int 10)) (tC (.int 12))) (gName 1))
 (t_law_s1 K A E)
end FW

namespace FW
open PySem PySem.Spec PyProof.Rows L2
section
variable {K : PySem.W.Frag} {A : Ad} {vs : List V} {H : Hp} {Q : VK} {E : XK}
theorem rd_l_cell_at (h : sp_l_cell_at K A vs H Q E) : t_l_cell_at K A E { nx := fun _ H' => Q .non H', rt := Q } (start N_l_cell_at vs) H := by
  obtain ⟨a, ns, k, rfl, hS, h0, q⟩ := h
  unfold t_l_cell_at
  walk_at "rd"
  rw [List.length_map]
  refine ite_d (fun c => ?_) (fun c => ?_)
  · have e : atI (ns.map V.int) k = some (.int (cell ns k)) := atI_map h0 c
    walk_at "rd"
    exact q
  · have e : cell ns k = 0 := by
      unfold cell
      rw [List.getD_eq_getElem?_getD, List.getElem?_eq_none (by omega)]
      rfl
    rw [e] at q
    exact q
theorem rd_l_whole (h : sp_l_whole K A vs H Q E) : t_l_whole K A E { nx := fun _ H' => Q .non H', rt := Q } (start N_l_whole vs) H := by
  obtain ⟨i, rfl, q⟩ := h
  unfold t_l_whole
  refine ⟨_, rfl, isi_yes (.int i) kb_int ⟨_, rfl, iteT ⟨_, rfl, isi_no (.int i) kb_intbool ⟨_, rfl, q⟩⟩⟩⟩
theorem cut_from {xs : List V} {z : Int} (h0 : 0 ≤ z) : cutV xs (some z) none = xs.drop z.toNat := by
  obtain ⟨n, rfl⟩ := Int.eq_ofNat_of_zero_le h0
  unfold cutV
  rw [HT.sIx_nat xs.length 0 n, HT.sIx_none]
  by_cases c : n ≤ xs.length
  · rw [Nat.min_eq_left c, Int.toNat_natCast]
    exact List.take_of_length_le (by rw [List.length_drop]; exact Nat.le_refl _)
  · rw [Nat.min_eq_right (by omega), List.drop_of_length_le (Nat.le_refl _), List.drop_of_length_le (by omega)]
    simp
theorem low_fold (a : Int) : ∀ l : List Int, lowL (a :: l) = l.foldl (fun m x => if x < m then x else m) a
  | [] => rfl
  | b :: r => by
    rw [List.foldl_cons]
    by_cases c : b < a
    · rw [if_pos c, ← low_fold b r]
      show min a (lowL (b :: r)) = _
      have := lowL_le (l := b :: r) (x := b) List.mem_cons_self
      omega
    · rw [if_neg c, ← low_fold a r]
      cases r with
      | nil => show min a b = a; omega
      | cons d r =>
        show min a (min b (lowL (d :: r))) = min a (lowL (d :: r))
        omega
theorem rd_l_least (h : sp_l_least K A vs H Q E) : t_l_least K A E { nx := fun _ H' => Q .non H', rt := Q } (start N_l_least vs) H := by
  obtain ⟨a, row, z, rfl, hS, hl, h1, h2, q⟩ := h
  have e0 : atI (row.map V.int) (z - 1) = some (.int (pr row z)) := atI_map (by omega) (by omega)
  unfold t_l_least
  walk_at "rd"
  intro p hp
  have s1 : Same H (upd H p (.lst (cutV (row.map V.int) (some z) none))) := Same.new hp
  have hp1 : upd H p (.lst (cutV (row.map V.int) (some z) none)) p = some (.lst ((row.drop z.toNat).map V.int)) := by
    rw [upd_same, cut_from (by omega), List.map_drop]
  generalize upd H p (.lst (cutV (row.map V.int) (some z) none)) = H1 at *
  walk_at "rd"
  refine for_list (K := K) (a := p) (xs := (row.drop z.toNat).map V.int) (fun i σ H' => H' = H1 ∧ ∃ o : Option V, σ = [some (.ref a), some (.int z), some (.int (((row.drop z.toNat).take i).foldl (fun m x => if x < m then x else m) (pr row z))), o]) ⟨rfl, none, rfl⟩ ?_ ?_ ?_
  · rintro i σ H' _ ⟨rfl, _⟩
    walk_at "sq"
  · rintro i x σ H' hx ⟨rfl, o, rfl⟩
    rw [List.getElem?_map] at hx
    obtain ⟨y, hy, rfl⟩ := Option.map_eq_some_iff.mp hx
    have et : (row.drop z.toNat).take (i + 1) = (row.drop z.toNat).take i ++ [y] := by rw [List.take_add_one, hy]; rfl
    walk_at "rd"
    refine ite_d (fun c => ?_) (fun c => ?_)
    · rw [et, List.foldl_append, List.foldl_cons, List.foldl_nil, if_pos c]
      exact ⟨_, rfl, rfl, _, rfl⟩
    · rw [et, List.foldl_append, List.foldl_cons, List.foldl_nil, if_neg c]
      exact ⟨rfl, _, rfl⟩
  · rintro σ H' ⟨rfl, o, rfl⟩
    rw [List.length_map, List.take_length, ← low_fold]
    have e : pr row z :: row.drop z.toNat = row.drop (z - 1).toNat := by
      have hz : (z - 1).toNat < row.length := by omega
      rw [List.drop_eq_getElem_cons hz]
      unfold pr
      rw [List.getD_eq_getElem?_getD, List.getElem?_eq_getElem hz]
      have e2 : (z - 1).toNat + 1 = z.toNat := by omega
      rw [e2]
      rfl
    rw [e]
    exact ⟨_, rfl, q _ s1⟩
theorem rd_l_same (h : sp_l_same K A vs H Q E) : t_l_same K A E { nx := fun _ H' => Q .non H', rt := Q } (start N_l_same vs) H := by
  obtain ⟨a, b, xs, rfl, ha, hb, hl, q⟩ := h
  unfold t_l_same
  refine ⟨_, rfl, isi_yes (.lst ha) kb_list ⟨_, rfl, iteF ?_⟩⟩
  walk_at "rd"
  refine ite_nF rfl ?_
  walk_at "rd"
  refine for_range (lo := 0) (fun i σ H' => H' = H ∧ ∃ o : Option V, σ = [some (.ref a), some (.ref b), o]) ⟨rfl, none, rfl⟩ ?_ ?_
  · rintro i σ H' hi ⟨rfl, o, rfl⟩
    rw [List.length_map] at hi
    have e : atI (xs.map V.int) (0 + (i : Int)) = some (.int (xs.getD i 0)) := by
      rw [Int.zero_add]
      exact atI_map (by omega) (by omega)
    walk_at "rd"
    refine ite_nF rfl ?_
    exact ⟨rfl, _, rfl⟩
  · rintro σ H' ⟨rfl, o, rfl⟩
    exact q
/-- the s-th row of prices -/
def rowOf (ns : List Int) (most : Int) (first : Int) (s : Nat) : List Int := (List.range 5).map fun (k : Nat) => cell ns (first + 5 * (s : Int) + (k : Int)) % most
theorem rowOf_len (ns : List Int) (most first : Int) (s : Nat) : (rowOf ns most first s).length = 5 := by
  unfold rowOf
  rw [List.length_map, List.length_range]
theorem rowOf_ok {ns : List Int} {most first : Int} {s : Nat} (h : 0 < most) : Row5 (rowOf ns most first s) := ⟨rowOf_len _ _ _ _, fun x hx => by
  obtain ⟨k, _, rfl⟩ := List.mem_map.mp hx
  exact Int.emod_nonneg _ (by omega)⟩
/-- what stands still behind the law's seventh row: the rows at rs, the tariff at T, the list of the handed ones at W, in a heap without the handed ones hs -/
structure K1 (K : PySem.W.Frag) (A : Ad) (ns : List Int) (most z : Int) (a R W T F : Addr) (rs hs : List Addr) (B : Hp) : Prop where
  sc : SqL K B a (ns.map V.int)
  r1 : B R = some (.lst (rs.map V.ref))
  rl : rs.length = 3
  rr : ∀ (j : Nat) (p : Addr), rs[j]? = some p → B p = some (.lst ((rowOf ns most 2 j).map V.int))
  w1 : B W = some (.lst (hs.map V.ref))
  hl : hs.length = 3
  nd : hs.Nodup
  hn : ∀ h ∈ hs, B h = none
  ta : Tar A B T (rowOf ns most 2 0) (rowOf ns most 2 1) (rowOf ns most 2 2)
  f1 : B F = some (.lst [.int (low (rowOf ns most 2 0) z), .int (low (rowOf ns most 2 1) z), .int (low (rowOf ns most 2 2) z)])
theorem low3 {ns : List Int} {most z : Int} {i : Nat} (hi : i < 3) : ([.int (low (rowOf ns most 2 0) z), .int (low (rowOf ns most 2 1) z), .int (low (rowOf ns most 2 2) z)] : List V)[i]? = some (.int (low (rowOf ns most 2 i) z)) := by
  match i, hi with
  | 0, _ => rfl
  | 1, _ => rfl
  | 2, _ => rfl
theorem at_ref {addrs : List Addr} {i : Nat} {p : Addr} (h : addrs[i]? = some p) : atI (addrs.map V.ref) (0 + (i : Int)) = some (.ref p) := by
  rw [Int.zero_add]
  exact atI_nat (by rw [List.getElem?_map, h]; rfl)
theorem get_some {α : Type} {l : List α} {i : Nat} (h : i < l.length) : ∃ x, l[i]? = some x := ⟨l[i], List.getElem?_eq_getElem h⟩
theorem rd_law10 {most z : Int} (O : OkT K A) {a R W T F : Addr} {rs hs : List Addr} {ns : List Int} {D : Ends} {B H : Hp} {o8 o9 o4 : Option V} (C : K1 K A ns most z a R W T F rs hs B) (s : Same B H) (q : ∀ H', D.rt (.bl true) H') :
    t_law_s10 K A E D [some (.ref a), some (.int most), some (.int z), some (.ref R), o4, some (.ref W), some (.ref T), some (.ref F), o8, o9] H := by
  unfold t_law_s10 t_law_s11
  obtain ⟨a', b', c', t⟩ := C.ta
  walk_at "rd"
  refine for_range (lo := 0) (fun i σ H' => Hold (∃ (o : Option V), σ = [some (.ref a), some (.int most), some (.int z), some (.ref R), o, some (.ref W), some (.ref T), some (.ref F), o8, o9] ∧ Same B H')) ⟨o4, rfl, s⟩ ?_ ?_
  · rintro i σ H' hi ⟨o, rfl, s⟩
    have hi3 : i < 3 := hi
    obtain ⟨dx, hT⟩ := t.ob
    have hT := s _ _ hT
    have cl := O.cl
    have nS := O.nS
    have nD := O.nD
    have nW := O.nW
    have e1 := tarF_s a' b' c'
    have e2 := tarF_d a' b' c'
    have e3 := tarF_w a' b' c'
    walk_at "rd"
    intro l hl
    obtain ⟨p, hp⟩ := get_some (l := rs) (i := i) (by rw [C.rl]; exact hi3)
    obtain ⟨u, hu1, hu2⟩ : ∃ u : Addr, ([.ref a', .ref b', .ref c'] : List V)[i]? = some (.ref u) ∧ H' u = some (.lst ((rowOf ns most 2 i).map V.int)) := by
      match i, hi3 with
      | 0, _ => exact ⟨a', rfl, s _ _ t.hs⟩
      | 1, _ => exact ⟨b', rfl, s _ _ t.hd⟩
      | 2, _ => exact ⟨c', rfl, s _ _ t.hw⟩
    have e4 : atI ([.ref a', .ref b', .ref c'] : List V) (0 + (i : Int)) = some (.ref u) := by rw [Int.zero_add]; exact atI_nat hu1
    have e5 := at_ref hp
    have s2 : Same H' (upd H' l (.lst [.ref a', .ref b', .ref c'])) := Same.new hl
    have r1 := s _ _ C.r1
    have rp := s _ _ (C.rr i p hp)
    have r5 := rowOf_len ns most 2 i
    walk_at "rd"
    exact ⟨_, rfl, s.trans s2⟩
  · rintro σ H' ⟨o, rfl, s⟩
    walk_at "rd"
    exact q _
theorem rd_law8 {most z : Int} (O : OkT K A) (hm : 0 < most) (h1 : 1 ≤ z) (h5 : z ≤ 5) {a R W T F : Addr} {rs hs : List Addr} {ns : List Int} {D : Ends} {B H : Hp} {o8 o9 o4 : Option V} (C : K1 K A ns most z a R W T F rs hs B) (s : Same B H)
    (hh : ∀ (j : Nat) (h : Addr), hs[j]? = some h → H h = some (.lst ((rowOf ns most 2 j).map V.int))) (q : ∀ H', D.rt (.bl true) H') :
    t_law_s8 K A E D [some (.ref a), some (.int most), some (.int z), some (.ref R), o4, some (.ref W), some (.ref T), some (.ref F), o8, o9] H := by
  unfold t_law_s8
  walk_at "rd"
  refine for_range (lo := 0) (fun i σ H' => Hold (∃ (o : Option V), σ = [some (.ref a), some (.int most), some (.int z), some (.ref R), o, some (.ref W), some (.ref T), some (.ref F), o8, o9] ∧ Same B H' ∧
    ∀ (j : Nat) (h : Addr), i ≤ j → hs[j]? = some h → H' h = some (.lst ((rowOf ns most 2 j).map V.int)))) ⟨o4, rfl, s, fun j h _ e => hh j h e⟩ ?_ ?_
  · rintro i σ H' hi ⟨o, rfl, s, hh⟩
    have hi3 : i < 3 := hi
    have sc := s.seq C.sc
    have f1 := s _ _ C.f1
    have eF : atI ([.int (low (rowOf ns most 2 0) z), .int (low (rowOf ns most 2 1) z), .int (low (rowOf ns most 2 2) z)] : List V) (0 + (i : Int)) = some (.int (low (rowOf ns most 2 i) z)) := by rw [Int.zero_add]; exact atI_nat (low3 hi3)
    obtain ⟨p, hp⟩ := get_some (l := rs) (i := i) (by rw [C.rl]; exact hi3)
    obtain ⟨h, hhi⟩ := get_some (l := hs) (i := i) (by rw [C.hl]; exact hi3)
    have e5 := at_ref hp
    have e6 := at_ref hhi
    have r1 := s _ _ C.r1
    have rp := s _ _ (C.rr i p hp)
    have w1 := s _ _ C.w1
    have r5 := rowOf_len ns most 2 i
    have h7 := hh i h (Nat.le_refl _) hhi
    walk_at "rd"
    intro H2 s2
    walk_at "rd"
    refine ite_nF rfl ?_
    walk_at "rd"
    intro l hl
    have c1 : 0 ≤ cell ns 0 / 3 % 2 := Int.emod_nonneg _ (by decide)
    have c2 : cell ns 0 / 3 % 2 < 2 := Int.emod_lt_of_pos _ (by decide)
    obtain ⟨w, hw⟩ : ∃ w : Int, atI ([V.int (10 ^ (13 : Int).toNat), V.int 0] : List V) (cell ns 0 / 3 % 2) = some (.int w) := by
      rcases (by omega : cell ns 0 / 3 % 2 = 0 ∨ cell ns 0 / 3 % 2 = 1) with e | e
      · rw [e]; exact ⟨_, rfl⟩
      · rw [e]; exact ⟨_, rfl⟩
    have eI : ixN ((rowOf ns most 2 i).map V.int).length (z - 1) = some (z - 1).toNat := by
      rw [List.length_map, r5]
      unfold ixN
      rw [if_pos (by omega), if_pos (by omega)]
    have hm : h ∈ hs := List.mem_iff_getElem?.mpr ⟨i, hhi⟩
    have s3 := ((s.trans s2).trans (Same.new (o := .lst [V.int (10 ^ (13 : Int).toNat), V.int 0]) hl))
    walk_at "rd"
    refine ⟨_, rfl, s3.mut (C.hn h hm), fun j h' hij hj => ?_⟩
    have hne : h' ≠ h := fun e => by
      rw [e] at hj
      have := nd_ix C.nd hj hhi
      omega
    have h8 := s2 _ _ (hh j h' (by omega) hj)
    rw [upd_ne hne, upd_ne (ne_of_none h8 hl)]
    exact h8
  · rintro σ H' ⟨o, rfl, s, hh⟩
    unfold t_law_s9
    have f1 := s _ _ C.f1
    have ta := C.ta.same s
    have eE := ta
    obtain ⟨a', b', c', t⟩ := id ta
    obtain ⟨dx, hT⟩ := t.ob
    have no1 : (tarF a' b' c').lookup ("single" : Str) = none := tarF_no _ _ _ (by decide +kernel) (by decide +kernel) (by decide +kernel)
    have no2 : (tarF a' b' c').lookup ("day" : Str) = none := tarF_no _ _ _ (by decide +kernel) (by decide +kernel) (by decide +kernel)
    have no3 : (tarF a' b' c').lookup ("week" : Str) = none := tarF_no _ _ _ (by decide +kernel) (by decide +kernel) (by decide +kernel)
    walk_at "rd"
    refine ⟨fun _ H2 s2 => ?_, fun c => absurd ⟨h1, h5⟩ c⟩
    have ta2 := ta.same s2
    walk_at "rd"
    refine ⟨fun _ H3 s3 => ?_, fun c => absurd ⟨h1, h5⟩ c⟩
    have ta3 := ta2.same s3
    walk_at "rd"
    refine ⟨fun _ H4 s4 => ?_, fun c => absurd ⟨h1, h5⟩ c⟩
    walk_at "rd"
    intro l hl
    have s5 : Same H' (upd H4 l (.lst [.int (low (rowOf ns most 2 0) z), .int (low (rowOf ns most 2 1) z), .int (low (rowOf ns most 2 2) z)])) := ((s2.trans s3).trans s4).trans (Same.new hl)
    refine neD_no (d := .list ([low (rowOf ns most 2 0) z, low (rowOf ns most 2 1) z, low (rowOf ns most 2 2) z].map PyData.int)) (n := 1) ?_ ?_ (shp_ints _) (by decide) ?_
    · exact dp_ints (ns := [low (rowOf ns most 2 0) z, low (rowOf ns most 2 1) z, low (rowOf ns most 2 2) z]) (SqL.of (s5 _ _ f1))
    · exact dp_ints (ns := [low (rowOf ns most 2 0) z, low (rowOf ns most 2 1) z, low (rowOf ns most 2 2) z]) (SqL.of upd_same)
    · walk_at "rd"
      exact rd_law10 O C (s.trans s5) q
/-- the tariff and what is read off it -/
theorem rd_law6 {most z : Int} (O : OkT K A) (hm : 0 < most) (h1 : 1 ≤ z) (h5 : z ≤ 5) {a R W : Addr} {rs hs : List Addr} {ns : List Int} {D : Ends} {H : Hp} {o8 o9 o4 : Option V} (sc : SqL K (dels H hs) a (ns.map V.int))
    (r1 : dels H hs R = some (.lst (rs.map V.ref))) (rl : rs.length = 3) (rr : ∀ (j : Nat) (p : Addr), rs[j]? = some p → dels H hs p = some (.lst ((rowOf ns most 2 j).map V.int)))
    (w1 : dels H hs W = some (.lst (hs.map V.ref))) (hl : hs.length = 3) (nd : hs.Nodup) (hh : ∀ (j : Nat) (h : Addr), hs[j]? = some h → H h = some (.lst ((rowOf ns most 2 j).map V.int))) (q : ∀ H', D.rt (.bl true) H') :
    t_law_s6 K A E D [some (.ref a), some (.int most), some (.int z), some (.ref R), o4, some (.ref W), none, none, o8, o9] H := by
  unfold t_law_s6 t_law_s7
  obtain ⟨u0, g0⟩ := get_some (l := hs) (i := 0) (by omega)
  obtain ⟨u1, g1⟩ := get_some (l := hs) (i := 1) (by omega)
  obtain ⟨u2, g2⟩ := get_some (l := hs) (i := 2) (by omega)
  have f0 := hh 0 u0 g0
  have f1 := hh 1 u1 g1
  have f2 := hh 2 u2 g2
  have m0 : atI (hs.map V.ref) 0 = some (.ref u0) := at_ref g0
  have m1 : atI (hs.map V.ref) 1 = some (.ref u1) := at_ref g1
  have m2 : atI (hs.map V.ref) 2 = some (.ref u2) := at_ref g2
  have w1' := dels_sub _ _ _ _ w1
  walk_at "rd"
  intro T dx nT ndx nex
  have sN : Same H (upd (upd H dx (.own T)) T (.ins A.c_Tariff dx [])) := (Same.new ndx).mut nT
  have t1 : (upd (upd H dx (.own T)) T (.ins A.c_Tariff dx [])) T = some (.ins A.c_Tariff dx []) := upd_same
  have f0' := SqL.of (K := K) (sN _ _ f0)
  have f1' := SqL.of (K := K) (sN _ _ f1)
  have f2' := SqL.of (K := K) (sN _ _ f2)
  generalize hN : upd (upd H dx (.own T)) T (.ins A.c_Tariff dx []) = HN at *
  walk_at "rd"
  refine ⟨fun _ a' b' c' H2 t na nb nc nab nac nbc kp => ?_, fun c => absurd ⟨rowOf_ok hm, rowOf_ok hm, rowOf_ok hm⟩ c⟩
  have s2 : Same H H2 := fun b o e => kp b o (sN b o e) (ne_of_none e nT)
  have out : ∀ x, HN x = none → x ∉ hs := fun x hx m => by
    obtain ⟨j, hj⟩ := List.mem_iff_getElem?.mp m
    exact ne_of_none (sN _ _ (hh j x hj)) hx rfl
  have nTh : T ∉ hs := fun m => by
    obtain ⟨j, hj⟩ := List.mem_iff_getElem?.mp m
    exact ne_of_none (hh j T hj) nT rfl
  have ta : Tar A H2 T (rowOf ns most 2 0) (rowOf ns most 2 1) (rowOf ns most 2 2) := ⟨_, _, _, t⟩
  obtain ⟨dx2, hT⟩ := t.ob
  have no1 : (tarF a' b' c').lookup ("single" : Str) = none := tarF_no _ _ _ (by decide +kernel) (by decide +kernel) (by decide +kernel)
  have no2 : (tarF a' b' c').lookup ("day" : Str) = none := tarF_no _ _ _ (by decide +kernel) (by decide +kernel) (by decide +kernel)
  have no3 : (tarF a' b' c').lookup ("week" : Str) = none := tarF_no _ _ _ (by decide +kernel) (by decide +kernel) (by decide +kernel)
  walk_at "rd"
  refine ⟨fun _ H3 s3 => ?_, fun c => absurd ⟨h1, h5⟩ c⟩
  have ta3 := ta.same s3
  walk_at "rd"
  refine ⟨fun _ H4 s4 => ?_, fun c => absurd ⟨h1, h5⟩ c⟩
  have ta4 := ta3.same s4
  walk_at "rd"
  refine ⟨fun _ H5 s5 => ?_, fun c => absurd ⟨h1, h5⟩ c⟩
  walk_at "rd"
  intro F hF
  have s25 : Same H2 H5 := (s3.trans s4).trans s5
  have nF : F ∉ hs := fun m => by
    obtain ⟨j, hj⟩ := List.mem_iff_getElem?.mp m
    exact ne_of_none (s25 _ _ (s2 _ _ (hh j F hj))) hF rfl
  have s6 : Same H2 (upd H5 F (.lst [.int (low (rowOf ns most 2 0) z), .int (low (rowOf ns most 2 1) z), .int (low (rowOf ns most 2 2) z)])) := s25.trans (Same.new hF)
  have sB := (s2.trans s6).dels2 hs
  refine rd_law8 (rs := rs) (hs := hs) O hm h1 h5 ⟨sB.seq sc, sB _ _ r1, rl, fun j p hj => sB _ _ (rr j p hj), sB _ _ w1, hl, nd, fun h m => dels_in m, ?_, ?_⟩ (dels_sub _ _) (fun j h hj => s6 _ _ (s2 _ _ (hh j h hj))) q
  · exact ⟨_, _, _, (t.same s6).dels nTh (out _ na) (out _ nb) (out _ nc)⟩
  · rw [dels_out nF]
    exact upd_same
theorem rd_law4 {most z : Int} (O : OkT K A) {a : Addr} {ns : List Int} {D : Ends} {H : Hp} {R : Addr} (hS : SqL K H a (ns.map V.int)) (hm : 0 < most) (h1 : 1 ≤ z) (h5 : z ≤ 5) (hR : H R = none) (q : ∀ H', D.rt (.bl true) H') :
    t_law_s4 K A E D [some (.ref a), some (.int most), some (.int z), some (.ref R), none, none, none, none, none, none] (upd H R (.lst [])) := by
  unfold t_law_s4
  walk_at "rd"
  refine for_range (lo := 0) (fun i σ H' => Hold (∃ (o : Option V) (addrs : List Addr), σ = [some (.ref a), some (.int most), some (.int z), some (.ref R), o, none, none, none, none, none] ∧ Same H (del H' R) ∧ H' R = some (.lst (addrs.map V.ref)) ∧ addrs.length = i ∧
    ∀ (j : Nat) (p : Addr), addrs[j]? = some p → del H' R p = some (.lst ((rowOf ns most 2 j).map V.int)))) ⟨none, [], rfl, by rw [del_new hR]; exact Same.refl _, upd_same, rfl, fun j p h => by simp at h⟩ ?_ ?_
  · rintro i σ H' hi ⟨o, addrs, rfl, s1, r1, hla, hrows⟩
    have s1' := s1.trans (del_sub _ _)
    walk_at "rd"
    intro D1 hD1
    have hi3 : i < 3 := hi
    refine lc_rangeF hD1 (by decide) (fun k => some (V.int (cell ns (2 + 5 * (0 + (i : Int)) + (0 + (k : Int))) % most))) ?_ ?_
    · intro k H2 hk s2 G N hG hN
      walk_at "rd"
      exact hG _ _ rfl (Same.refl _)
    · intro H2 s2 e2
      have s2' := s2.trans (del_sub _ _)
      walk_at "rd"
      have nRD : R ≠ D1 := ne_of_none r1 hD1
      refine ⟨_, addrs ++ [D1], rfl, ?_, ?_, by simp [hla], fun j p hj => ?_⟩
      · rw [del_upd]
        exact s1.trans (s2'.del2 R)
      · rw [upd_same, List.map_append]
        rfl
      · rw [del_upd]
        by_cases c : j < addrs.length
        · rw [List.getElem?_append_left c] at hj
          exact s2'.del2 R _ _ (hrows j p hj)
        · have hjl : j < (addrs ++ [D1]).length := (List.getElem?_eq_some_iff.mp hj).1
          rw [List.length_append, List.length_singleton] at hjl
          have ej : j = addrs.length := by omega
          rw [ej, List.getElem?_append_right (Nat.le_refl _), Nat.sub_self] at hj
          have ep : D1 = p := Option.some.inj hj
          rw [← ep, del_ne (ne_sym nRD), e2, ej, hla]
          unfold rowOf
          rw [List.map_map]
          simp only [Int.zero_add]
          rw [fm_some]
          rfl
  · rintro σ H' ⟨o, addrs, rfl, s1, r1, hla, hrows⟩
    have hla : addrs.length = 3 := hla
    unfold t_law_s5
    have s1' := s1.trans (del_sub _ _)
    walk_at "rd"
    intro W hW
    refine lc_listN (a := R) hW (SqL.of r1) (by rw [List.length_map]; omega) (fun j => .lst ((rowOf ns most 2 j).map V.int)) ?_ ?_
    · intro i x H2 hx s2 G N hG
      rw [List.getElem?_map] at hx
      obtain ⟨p, hp, rfl⟩ := Option.map_eq_some_iff.mp hx
      have rp := s2 _ _ (del_sub _ _ _ _ (hrows i p hp))
      walk_at "rd"
      intro l hl
      exact hG _ _ hl (Same.new hl) upd_same
    · intro H2 hs hhl N
      rw [List.length_map] at hhl
      have sB : Same H' (dels H2 hs) := (N.same.trans (del_sub _ _)).delsN N.old
      have nW : W ∉ hs := fun m => by
        obtain ⟨j, hj⟩ := List.mem_iff_getElem?.mp m
        exact (del_get (N.at_ j W hj)).2 rfl
      refine rd_law6 (rs := addrs) (hs := hs) O hm h1 h5 (sB.seq (s1'.seq hS)) (sB _ _ r1) hla (fun j p hj => sB _ _ (del_sub _ _ _ _ (hrows j p hj))) (by rw [dels_out nW]; exact N.lst) (by omega) N.nd (fun j h hj => (del_get (N.at_ j h hj)).1) q
theorem rd_law (O : OkT K A) (h : sp_law K A vs H Q E) : t_law K A E { nx := fun _ H' => Q .non H', rt := Q } (start N_law vs) H := by
  obtain ⟨a, ns, rfl, hS, hl, q⟩ := h
  have hz1 : 0 ≤ cell ns 1 % 5 := Int.emod_nonneg _ (by decide)
  have hz2 : cell ns 1 % 5 < 5 := Int.emod_lt_of_pos _ (by decide)
  unfold t_law t_law_s1 t_law_s2 t_law_s3
  walk_at "rd"
  refine ite_d (fun c => ?_) (fun c => ?_)
  · walk_at "rd"
    intro R hR
    exact rd_law4 (most := 4) O hS (by decide) (by omega) (by omega) hR q
  · walk_at "rd"
    intro R hR
    exact rd_law4 (most := 1000000000000) O hS (by decide) (by omega) (by omega) hR q
end
end FW

namespace FW
open PySem PySem.Spec PyProof.Rows L2
def topS (i : Nat) : Stmt := PySem.Challenge.pw_fareweb_k01_prices.main.body.getD i (.Pass ⟨0, 0, 0, 0⟩)
abbrev s_need_zones : Stmt := topS 6
abbrev s_cheapest : Stmt := topS 7
abbrev s_Tariff_init : Stmt := inClass (topS 8) 0
abbrev s_Tariff_single : Stmt := inClass (topS 8) 1
abbrev s_Tariff_day : Stmt := inClass (topS 8) 2
abbrev s_Tariff_week : Stmt := inClass (topS 8) 3
abbrev s_l_cell_at : Stmt := topS 10
abbrev s_l_whole : Stmt := topS 11
abbrev s_l_least : Stmt := topS 12
abbrev s_l_same : Stmt := topS 13
abbrev s_law : Stmt := topS 14
theorem sc_need_zones : FnScope N_need_zones ["zones"] (defScope s_need_zones) := ⟨rfl, rfl, rfl, by decide +kernel, rfl, by decide +kernel, by decide +kernel⟩
theorem sc_cheapest : FnScope N_cheapest ["row", "zones"] (defScope s_cheapest) := ⟨rfl, rfl, rfl, by decide +kernel, rfl, by decide +kernel, by decide +kernel⟩
theorem sc_Tariff_init : FnScope N_Tariff_init ["self", "singles", "days", "weeks"] (defScope s_Tariff_init) := ⟨rfl, rfl, rfl, by decide +kernel, rfl, by decide +kernel, by decide +kernel⟩
theorem sc_Tariff_single : FnScope N_Tariff_single ["self", "zones"] (defScope s_Tariff_single) := ⟨rfl, rfl, rfl, by decide +kernel, rfl, by decide +kernel, by decide +kernel⟩
theorem sc_Tariff_day : FnScope N_Tariff_day ["self", "zones"] (defScope s_Tariff_day) := ⟨rfl, rfl, rfl, by decide +kernel, rfl, by decide +kernel, by decide +kernel⟩
theorem sc_Tariff_week : FnScope N_Tariff_week ["self", "zones"] (defScope s_Tariff_week) := ⟨rfl, rfl, rfl, by decide +kernel, rfl, by decide +kernel, by decide +kernel⟩
theorem sc_l_cell_at : FnScope N_l_cell_at ["_law_script", "_law_k"] (defScope s_l_cell_at) := ⟨rfl, rfl, rfl, by decide +kernel, rfl, by decide +kernel, by decide +kernel⟩
theorem sc_l_whole : FnScope N_l_whole ["_law_found"] (defScope s_l_whole) := ⟨rfl, rfl, rfl, by decide +kernel, rfl, by decide +kernel, by decide +kernel⟩
theorem sc_l_least : FnScope N_l_least ["_law_row", "_law_zones"] (defScope s_l_least) := ⟨rfl, rfl, rfl, by decide +kernel, rfl, by decide +kernel, by decide +kernel⟩
theorem sc_l_same : FnScope N_l_same ["_law_found", "_law_row"] (defScope s_l_same) := ⟨rfl, rfl, rfl, by decide +kernel, rfl, by decide +kernel, by decide +kernel⟩
theorem sc_law : FnScope N_law ["_law_script"] (defScope s_law) := ⟨rfl, rfl, rfl, by decide +kernel, rfl, by decide +kernel, by decide +kernel⟩
structure Txt (K : PySem.W.Frag) (mg : Str → Option Value) (A : Ad) where
  a_need_zones : Addr
  d_need_zones : FuncData
  F_need_zones : Fun K "need_zones" "need_zones" s_need_zones a_need_zones d_need_zones
  b_need_zones : Binds K d_need_zones ["zones"] []
  g_need_zones : mg "need_zones" = some (.ref a_need_zones)
  k_need_zones : PySem.W.keepIn K (.ref a_need_zones) = true
  a_cheapest : Addr
  d_cheapest : FuncData
  F_cheapest : Fun K "cheapest" "cheapest" s_cheapest a_cheapest d_cheapest
  b_cheapest : Binds K d_cheapest ["row", "zones"] []
  g_cheapest : mg "cheapest" = some (.ref a_cheapest)
  k_cheapest : PySem.W.keepIn K (.ref a_cheapest) = true
  a_Tariff_init : Addr
  d_Tariff_init : FuncData
  F_Tariff_init : Fun K "__init__" "Tariff.__init__" s_Tariff_init a_Tariff_init d_Tariff_init
  b_Tariff_init : Binds K d_Tariff_init ["self", "singles", "days", "weeks"] []
  M_Tariff : Mk K A.c_Tariff a_Tariff_init
  a_Tariff_single : Addr
  d_Tariff_single : FuncData
  F_Tariff_single : Fun K "single" "Tariff.single" s_Tariff_single a_Tariff_single d_Tariff_single
  b_Tariff_single : Binds K d_Tariff_single ["self", "zones"] []
  h_Tariff_single : Meth K A.c_Tariff "single" a_Tariff_single
  a_Tariff_day : Addr
  d_Tariff_day : FuncData
  F_Tariff_day : Fun K "day" "Tariff.day" s_Tariff_day a_Tariff_day d_Tariff_day
  b_Tariff_day : Binds K d_Tariff_day ["self", "zones"] []
  h_Tariff_day : Meth K A.c_Tariff "day" a_Tariff_day
  a_Tariff_week : Addr
  d_Tariff_week : FuncData
  F_Tariff_week : Fun K "week" "Tariff.week" s_Tariff_week a_Tariff_week d_Tariff_week
  b_Tariff_week : Binds K d_Tariff_week ["self", "zones"] []
  h_Tariff_week : Meth K A.c_Tariff "week" a_Tariff_week
  a_l_cell_at : Addr
  d_l_cell_at : FuncData
  F_l_cell_at : Fun K "_law_cell_at" "_law_cell_at" s_l_cell_at a_l_cell_at d_l_cell_at
  b_l_cell_at : Binds K d_l_cell_at ["_law_script", "_law_k"] []
  g_l_cell_at : mg "_law_cell_at" = some (.ref a_l_cell_at)
  k_l_cell_at : PySem.W.keepIn K (.ref a_l_cell_at) = true
  a_l_whole : Addr
  d_l_whole : FuncData
  F_l_whole : Fun K "_law_whole" "_law_whole" s_l_whole a_l_whole d_l_whole
  b_l_whole : Binds K d_l_whole ["_law_found"] []
  g_l_whole : mg "_law_whole" = some (.ref a_l_whole)
  k_l_whole : PySem.W.keepIn K (.ref a_l_whole) = true
  a_l_least : Addr
  d_l_least : FuncData
  F_l_least : Fun K "_law_least" "_law_least" s_l_least a_l_least d_l_least
  b_l_least : Binds K d_l_least ["_law_row", "_law_zones"] []
  g_l_least : mg "_law_least" = some (.ref a_l_least)
  k_l_least : PySem.W.keepIn K (.ref a_l_least) = true
  a_l_same : Addr
  d_l_same : FuncData
  F_l_same : Fun K "_law_same" "_law_same" s_l_same a_l_same d_l_same
  b_l_same : Binds K d_l_same ["_law_found", "_law_row"] []
  g_l_same : mg "_law_same" = some (.ref a_l_same)
  k_l_same : PySem.W.keepIn K (.ref a_l_same) = true
  a_law : Addr
  d_law : FuncData
  F_law : Fun K "law" "law" s_law a_law d_law
  b_law : Binds K d_law ["_law_script"] []
  g_law : mg "law" = some (.ref a_law)
  k_law : PySem.W.keepIn K (.ref a_law) = true
  L_Tariff : Cls K A.c_Tariff
  g_Tariff : mg "Tariff" = some (.ref A.c_Tariff)
  n_Tariff_days : NoAttr K A.c_Tariff "days"
  n_Tariff_singles : NoAttr K A.c_Tariff "singles"
  n_Tariff_weeks : NoAttr K A.c_Tariff "weeks"
  z_bool : mg "bool" = none
  z_int : mg "int" = none
  z_isinstance : mg "isinstance" = none
  z_len : mg "len" = none
  z_list : mg "list" = none
  z_min : mg "min" = none
  z_range : mg "range" = none
  c_MOST_ZONES : ∃ t, mg "MOST_ZONES" = some (.int 5 t)
  g_FareError : mg "FareError" = some (.ref A.c_FareError)
  x_FareError : PySem.W.excIn K A.c_FareError [.type "ValueError", .type "Exception", .type "BaseException", .type "object"] "ValueError.__new__" = true
  k_FareError : PySem.W.keepIn K (.ref A.c_FareError) = true
  y_FareError : PySem.W.subIn K (.ref A.c_FareError) (.type "BaseException") = some true
  t_FareError : PySem.W.typeIn K (.ref A.c_FareError) = some (.type "type")
  g_BadPrices : mg "BadPrices" = some (.ref A.c_BadPrices)
  x_BadPrices : PySem.W.excIn K A.c_BadPrices [.type "ValueError", .type "Exception", .type "BaseException", .type "object"] "ValueError.__new__" = true
  k_BadPrices : PySem.W.keepIn K (.ref A.c_BadPrices) = true
  y_BadPrices : PySem.W.subIn K (.ref A.c_BadPrices) (.type "BaseException") = some true
  t_BadPrices : PySem.W.typeIn K (.ref A.c_BadPrices) = some (.type "type")
  g_BadZones : mg "BadZones" = some (.ref A.c_BadZones)
  x_BadZones : PySem.W.excIn K A.c_BadZones [.type "ValueError", .type "Exception", .type "BaseException", .type "object"] "ValueError.__new__" = true
  k_BadZones : PySem.W.keepIn K (.ref A.c_BadZones) = true
  y_BadZones : PySem.W.subIn K (.ref A.c_BadZones) (.type "BaseException") = some true
  t_BadZones : PySem.W.typeIn K (.ref A.c_BadZones) = some (.type "type")
theorem Txt.okT {K : PySem.W.Frag} {mg : Str → Option Value} {A : Ad} (T : Txt K mg A) : OkT K A := ⟨T.L_Tariff, T.n_Tariff_singles, T.n_Tariff_days, T.n_Tariff_weeks⟩
section
variable {P : Program} {w : World} {K : PySem.W.Frag} {mg : Str → Option Value} {base : Heap} {A : Ad}
theorem ok_need_zones (T : Txt K mg A) : FnOk P w K mg base (L2.CX P w) 1 T.a_need_zones T.d_need_zones ["zones"] (sp_need_zones K A) := by
  refine T.F_need_zones.okX sc_need_zones (by unfold sp_need_zones; walk_at "len") (fun cdv B outer s H vs Q E hr h => ⟨t_need_zones K A E, ?_, rd_need_zones h⟩)
  exact pss_one (ps_if (PW.pt (pw_or (pt_cmpR op_lt (pv 0) (pe_int) (nomark _)) (pw_or1 (pt_cmpR op_gt (pv 0) (pe_gc rfl (glob_int T.c_MOST_ZONES)) (nomark _))))) (pss_one (ps_raise rfl (takes_of rfl rfl rfl rfl) (pmk_own PySem.F.excBase_ValueError T.x_BadZones T.g_BadZones T.k_BadZones (raises_own T.y_BadZones T.t_BadZones) (by exact rfl)))) (pss_nil))
theorem ok_cheapest (T : Txt K mg A) : FnOk P w K mg base (L2.CX P w) 2 T.a_cheapest T.d_cheapest ["row", "zones"] (sp_cheapest K A) := by
  refine T.F_cheapest.okX sc_cheapest (by unfold sp_cheapest; walk_at "len") (fun cdv B outer s H vs Q E hr h => ⟨t_cheapest K A E, ?_, rd_cheapest h⟩)
  exact pss_cons (ps_expr (pe_call (ok_need_zones T) (hr.mono (by decide)) (by rfl) T.g_need_zones T.k_need_zones T.b_need_zones .nil (passes_call (takes_of rfl rfl rfl rfl) (fun _ _ _ _ h => h)) (pa_cons (pv 1) (pa_nil))))  (pss_cons (ps_set (i := 2) sc_cheapest.nd rfl (by first | exact Or.inl rfl | exact Or.inr rfl) (pv 1))  (pss_cons (ps_for (passes_of rfl) rfl (pi_range2 (by rfl) T.z_range (pa_cons (pv 1) (pa_cons (pe_op op_add (pe_gc rfl (glob_int T.c_MOST_ZONES)) (pe_int)) (pa_nil)))) (pg_name (i := 3) sc_cheapest.nd rfl (by first | exact Or.inl rfl | exact Or.inr rfl)) (pss_one (ps_if (pt_cmpR op_lt (pe_ix ix_list (pv 0) (pe_op op_sub (pv 3) (pe_int)) (fun _ _ => rfl)) (pe_ix ix_list (pv 0) (pe_op op_sub (pv 2) (pe_int)) (fun _ _ => rfl)) (nomark _)) (pss_one (ps_set (i := 2) sc_cheapest.nd rfl (by first | exact Or.inl rfl | exact Or.inr rfl) (pv 3))) (pss_nil))))  (pss_one (ps_ret (pe_tup (pa_cons (pv 2) (pa_cons (pe_ix ix_list (pv 0) (pe_op op_sub (pv 2) (pe_int)) (fun _ _ => rfl)) (pa_nil))))))))
theorem ok_Tariff_init (T : Txt K mg A) : FnOk P w K mg base (L2.CX P w) 1 T.a_Tariff_init T.d_Tariff_init ["self", "singles", "days", "weeks"] (sp_Tariff_init K A) := by
  refine T.F_Tariff_init.okX sc_Tariff_init (by unfold sp_Tariff_init; walk_at "len") (fun cdv B outer s H vs Q E hr h => ⟨t_Tariff_init K A E, ?_, rd_Tariff_init T.okT h⟩)
  exact pss_cons (ps_for (passes_of rfl) rfl (pi_list (pe_lst (pa_cons (pv 1) (pa_cons (pv 2) (pa_cons (pv 3) (pa_nil)))))) (pg_name (i := 4) sc_Tariff_init.nd rfl (by first | exact Or.inl rfl | exact Or.inr rfl)) (pss_one (ps_if (PW.pt (pw_or (pt_cmpR op_ne (pe_callB call_len_seq (by rfl) T.z_len (by decide +kernel) (pa_cons (pv 4) (pa_nil))) (pe_gc rfl (glob_int T.c_MOST_ZONES)) (nomark _)) (pw_or1 (pt_cmpR op_lt (pe_callB (cr_min rfl) (by rfl) T.z_min (by decide +kernel) (pa_cons (pv 4) (pa_nil))) (pe_int) (nomark _))))) (pss_one (ps_raise rfl (takes_of rfl rfl rfl rfl) (pmk_own PySem.F.excBase_ValueError T.x_BadPrices T.g_BadPrices T.k_BadPrices (raises_own T.y_BadPrices T.t_BadPrices) (by exact rfl)))) (pss_nil))))  (pss_cons (ps_fld (pv 0) (pe_callTy call_list_of (by rfl) T.z_list (by decide +kernel) (pa_cons (pv 1) (pa_nil))) rfl)  (pss_cons (ps_fld (pv 0) (pe_callTy call_list_of (by rfl) T.z_list (by decide +kernel) (pa_cons (pv 2) (pa_nil))) rfl)  (pss_one (ps_fld (pv 0) (pe_callTy call_list_of (by rfl) T.z_list (by decide +kernel) (pa_cons (pv 3) (pa_nil))) rfl))))
theorem ok_Tariff_single (T : Txt K mg A) : FnOk P w K mg base (L2.CX P w) 3 T.a_Tariff_single T.d_Tariff_single ["self", "zones"] (sp_Tariff_single K A) := by
  refine T.F_Tariff_single.okX sc_Tariff_single (by unfold sp_Tariff_single; walk_at "len") (fun cdv B outer s H vs Q E hr h => ⟨t_Tariff_single K A E, ?_, rd_Tariff_single T.okT h⟩)
  exact pss_one (ps_ret (pe_ix ix_tup (pe_call (ok_cheapest T) (hr.mono (by decide)) (by rfl) T.g_cheapest T.k_cheapest T.b_cheapest .nil (passes_call (takes_of rfl rfl rfl rfl) (fun _ _ _ _ h => h)) (pa_cons (pe_fld (pv 0) rfl) (pa_cons (pv 1) (pa_nil)))) (pe_int) (fun _ _ => rfl)))
theorem ok_Tariff_day (T : Txt K mg A) : FnOk P w K mg base (L2.CX P w) 3 T.a_Tariff_day T.d_Tariff_day ["self", "zones"] (sp_Tariff_day K A) := by
  refine T.F_Tariff_day.okX sc_Tariff_day (by unfold sp_Tariff_day; walk_at "len") (fun cdv B outer s H vs Q E hr h => ⟨t_Tariff_day K A E, ?_, rd_Tariff_day T.okT h⟩)
  exact pss_one (ps_ret (pe_ix ix_tup (pe_call (ok_cheapest T) (hr.mono (by decide)) (by rfl) T.g_cheapest T.k_cheapest T.b_cheapest .nil (passes_call (takes_of rfl rfl rfl rfl) (fun _ _ _ _ h => h)) (pa_cons (pe_fld (pv 0) rfl) (pa_cons (pv 1) (pa_nil)))) (pe_int) (fun _ _ => rfl)))
theorem ok_Tariff_week (T : Txt K mg A) : FnOk P w K mg base (L2.CX P w) 3 T.a_Tariff_week T.d_Tariff_week ["self", "zones"] (sp_Tariff_week K A) := by
  refine T.F_Tariff_week.okX sc_Tariff_week (by unfold sp_Tariff_week; walk_at "len") (fun cdv B outer s H vs Q E hr h => ⟨t_Tariff_week K A E, ?_, rd_Tariff_week T.okT h⟩)
  exact pss_one (ps_ret (pe_ix ix_tup (pe_call (ok_cheapest T) (hr.mono (by decide)) (by rfl) T.g_cheapest T.k_cheapest T.b_cheapest .nil (passes_call (takes_of rfl rfl rfl rfl) (fun _ _ _ _ h => h)) (pa_cons (pe_fld (pv 0) rfl) (pa_cons (pv 1) (pa_nil)))) (pe_int) (fun _ _ => rfl)))
theorem ok_l_cell_at (T : Txt K mg A) : FnOk P w K mg base (L2.CX P w) 1 T.a_l_cell_at T.d_l_cell_at ["_law_script", "_law_k"] (sp_l_cell_at K A) := by
  refine T.F_l_cell_at.okX sc_l_cell_at (by unfold sp_l_cell_at; walk_at "len") (fun cdv B outer s H vs Q E hr h => ⟨t_l_cell_at K A E, ?_, rd_l_cell_at h⟩)
  exact pss_cons (ps_if (pt_cmpR op_lt (pv 1) (pe_callB call_len_seq (by rfl) T.z_len (by decide +kernel) (pa_cons (pv 0) (pa_nil))) (nomark _)) (pss_one (ps_ret (pe_ix ix_list (pv 0) (pv 1) (fun _ _ => rfl)))) (pss_nil))  (pss_one (ps_ret (pe_int)))
theorem ok_l_whole (T : Txt K mg A) : FnOk P w K mg base (L2.CX P w) 1 T.a_l_whole T.d_l_whole ["_law_found"] (sp_l_whole K A) := by
  refine T.F_l_whole.okX sc_l_whole (by unfold sp_l_whole; walk_at "len") (fun cdv B outer s H vs Q E hr h => ⟨t_l_whole K A E, ?_, rd_l_whole h⟩)
  exact pss_one (ps_ret (pe_and (pe_callB call_isi (by rfl) T.z_isinstance (by decide +kernel) (pa_cons (pv 0) (pa_cons (pe_bltn (v := .ty "int") (by rfl) T.z_int (by decide +kernel) rfl) (pa_nil)))) (pe_one (pe_not (pe_callB call_isi (by rfl) T.z_isinstance (by decide +kernel) (pa_cons (pv 0) (pa_cons (pe_bltn (v := .ty "bool") (by rfl) T.z_bool (by decide +kernel) rfl) (pa_nil))))))))
theorem ok_l_least (T : Txt K mg A) : FnOk P w K mg base (L2.CX P w) 1 T.a_l_least T.d_l_least ["_law_row", "_law_zones"] (sp_l_least K A) := by
  refine T.F_l_least.okX sc_l_least (by unfold sp_l_least; walk_at "len") (fun cdv B outer s H vs Q E hr h => ⟨t_l_least K A E, ?_, rd_l_least h⟩)
  exact pss_cons (ps_set (i := 2) sc_l_least.nd rfl (by first | exact Or.inl rfl | exact Or.inr rfl) (pe_ix ix_list (pv 0) (pe_op op_sub (pv 1) (pe_int)) (fun _ _ => rfl)))  (pss_cons (ps_for (passes_of rfl) rfl (pi_list (pe_slice sl_list (pv 0) (po_some (pv 1)) (po_none))) (pg_name (i := 3) sc_l_least.nd rfl (by first | exact Or.inl rfl | exact Or.inr rfl)) (pss_one (ps_if (pt_cmpR op_lt (pv 3) (pv 2) (nomark _)) (pss_one (ps_set (i := 2) sc_l_least.nd rfl (by first | exact Or.inl rfl | exact Or.inr rfl) (pv 3))) (pss_nil))))  (pss_one (ps_ret (pv 2))))
theorem ok_l_same (T : Txt K mg A) : FnOk P w K mg base (L2.CX P w) 2 T.a_l_same T.d_l_same ["_law_found", "_law_row"] (sp_l_same K A) := by
  refine T.F_l_same.okX sc_l_same (by unfold sp_l_same; walk_at "len") (fun cdv B outer s H vs Q E hr h => ⟨t_l_same K A E, ?_, rd_l_same h⟩)
  exact pss_cons (ps_if (PW.pt (pw_or (pt_not (pt_val (pe_callB call_isi (by rfl) T.z_isinstance (by decide +kernel) (pa_cons (pv 0) (pa_cons (pe_bltn (v := .ty "list") (by rfl) T.z_list (by decide +kernel) rfl) (pa_nil)))))) (pw_or1 (pt_cmpR op_ne (pe_callB call_len_seq (by rfl) T.z_len (by decide +kernel) (pa_cons (pv 0) (pa_nil))) (pe_callB call_len_seq (by rfl) T.z_len (by decide +kernel) (pa_cons (pv 1) (pa_nil))) (nomark _))))) (pss_one (ps_ret (pe_bl))) (pss_nil))  (pss_cons (ps_for (passes_of rfl) rfl (pi_range1 (by rfl) T.z_range (pa_cons (pe_callB call_len_seq (by rfl) T.z_len (by decide +kernel) (pa_cons (pv 1) (pa_nil))) (pa_nil))) (pg_name (i := 2) sc_l_same.nd rfl (by first | exact Or.inl rfl | exact Or.inr rfl)) (pss_one (ps_if (PW.pt (pw_or (pt_not (pt_val (pe_call (ok_l_whole T) (hr.mono (by decide)) (by rfl) T.g_l_whole T.k_l_whole T.b_l_whole .nil passL (pa_cons (pe_ix ix_list (pv 0) (pv 2) (fun _ _ => rfl)) (pa_nil))))) (pw_or1 (pt_cmpR op_ne (pe_ix ix_list (pv 0) (pv 2) (fun _ _ => rfl)) (pe_ix ix_list (pv 1) (pv 2) (fun _ _ => rfl)) (nomark _))))) (pss_one (ps_ret (pe_bl))) (pss_nil))))  (pss_one (ps_ret (pe_bl))))
theorem ok_law (T : Txt K mg A) : FnOk P w K mg base (L2.CX P w) 4 T.a_law T.d_law ["_law_script"] (sp_law K A) := by
  refine T.F_law.okX sc_law (by unfold sp_law; walk_at "len") (fun cdv B outer s H vs Q E hr h => ⟨t_law K A E, ?_, rd_law T.okT h⟩)
  unfold t_law t_law_s1 t_law_s2 t_law_s3 t_law_s4 t_law_s5 t_law_s6 t_law_s7 t_law_s8 t_law_s9 t_law_s10 t_law_s11
  exact pss_cons (ps_set (i := 1) sc_law.nd rfl (by first | exact Or.inl rfl | exact Or.inr rfl) (pe_op op_pow (pe_int) (pe_int)))  (pss_cons (ps_if (pt_cmpR op_eq (pe_op op_mod (pe_call (ok_l_cell_at T) (hr.mono (by decide)) (by rfl) T.g_l_cell_at T.k_l_cell_at T.b_l_cell_at .nil passL (pa_cons (pv 0) (pa_cons (pe_int) (pa_nil)))) (pe_int)) (pe_int) (nomark _)) (pss_one (ps_set (i := 1) sc_law.nd rfl (by first | exact Or.inl rfl | exact Or.inr rfl) (pe_int))) (pss_nil))  (pss_cons (ps_set (i := 2) sc_law.nd rfl (by first | exact Or.inl rfl | exact Or.inr rfl) (pe_op op_add (pe_int) (pe_op op_mod (pe_call (ok_l_cell_at T) (hr.mono (by decide)) (by rfl) T.g_l_cell_at T.k_l_cell_at T.b_l_cell_at .nil passL (pa_cons (pv 0) (pa_cons (pe_int) (pa_nil)))) (pe_int))))  (pss_cons (ps_set (i := 3) sc_law.nd rfl (by first | exact Or.inl rfl | exact Or.inr rfl) (pe_lst pa_nil))  (pss_cons (ps_for (passes_of rfl) rfl (pi_range1 (by rfl) T.z_range (pa_cons (pe_int) (pa_nil))) (pg_name (i := 4) sc_law.nd rfl (by first | exact Or.inl rfl | exact Or.inr rfl)) (pss_one (ps_expr (pe_bm PySem.F.plainAttrs_list PySem.F.slot_list_append PySem.F.type_list_append mt_append (pv 3) (pa_cons (pe_lc (own := [("_law_k", 8)]) rfl sc_law.nd (pi_range1 (by rfl) T.z_range (pa_cons (pe_int) (pa_nil))) (blkOk_by (N := N_law) (sc := defScope s_law) (by decide +kernel)) (fun _ _ _ _ _ => pg_name (i := 8) sc_law.nd rfl (by first | exact Or.inl rfl | exact Or.inr rfl)) (fun _ _ _ _ _ => pts_nil) (fun _ _ _ _ _ => pe_op op_mod (pe_call (ok_l_cell_at T) (hr.mono (by decide)) (by rfl) T.g_l_cell_at T.k_l_cell_at T.b_l_cell_at .nil passL (pa_cons (pv 0) (pa_cons (pe_op op_add (pe_op op_add (pe_int) (pe_op op_mul (pe_int) (pv 4))) (pv 8)) (pa_nil)))) (pv 1))) (pa_nil))))))  (pss_cons (ps_setLc (i := 5) (own := [("_law_row", 9)]) rfl sc_law.nd rfl rfl (sw_true rfl rfl rfl (by decide +kernel)) (pi_list (pv 3)) (blkOk_by (N := N_law) (sc := defScope s_law) (by decide +kernel)) (fun _ _ _ _ _ => pg_name (i := 9) sc_law.nd rfl (by first | exact Or.inl rfl | exact Or.inr rfl)) (fun _ _ _ _ _ => pts_nil) (fun _ _ _ _ _ => pe_callTy call_list_of (by rfl) T.z_list (by decide +kernel) (pa_cons (pv 9) (pa_nil))))  (pss_cons (ps_set (i := 6) sc_law.nd rfl (by first | exact Or.inl rfl | exact Or.inr rfl) (pe_make T.M_Tariff (ok_Tariff_init T) (hr.mono (by decide)) (by rfl) T.g_Tariff T.b_Tariff_init .nil passL (pa_cons (pe_ix ix_list (pv 5) (pe_int) (fun _ _ => rfl)) (pa_cons (pe_ix ix_list (pv 5) (pe_int) (fun _ _ => rfl)) (pa_cons (pe_ix ix_list (pv 5) (pe_int) (fun _ _ => rfl)) (pa_nil))))))  (pss_cons (ps_set (i := 7) sc_law.nd rfl (by first | exact Or.inl rfl | exact Or.inr rfl) (pe_lst (pa_cons (pe_meth (pv 6) T.L_Tariff T.h_Tariff_single (ok_Tariff_single T) (hr.mono (by decide)) T.b_Tariff_single .nil passL (pa_cons (pv 2) (pa_nil))) (pa_cons (pe_meth (pv 6) T.L_Tariff T.h_Tariff_day (ok_Tariff_day T) (hr.mono (by decide)) T.b_Tariff_day .nil passL (pa_cons (pv 2) (pa_nil))) (pa_cons (pe_meth (pv 6) T.L_Tariff T.h_Tariff_week (ok_Tariff_week T) (hr.mono (by decide)) T.b_Tariff_week .nil passL (pa_cons (pv 2) (pa_nil))) (pa_nil))))))  (pss_cons (ps_for (passes_of rfl) rfl (pi_range1 (by rfl) T.z_range (pa_cons (pe_int) (pa_nil))) (pg_name (i := 4) sc_law.nd rfl (by first | exact Or.inl rfl | exact Or.inr rfl)) (pss_cons (ps_if (PW.pt (pw_or (pt_not (pt_val (pe_call (ok_l_whole T) (hr.mono (by decide)) (by rfl) T.g_l_whole T.k_l_whole T.b_l_whole .nil passL (pa_cons (pe_ix ix_list (pv 7) (pv 4) (fun _ _ => rfl)) (pa_nil))))) (pw_or1 (pt_cmpR op_ne (pe_ix ix_list (pv 7) (pv 4) (fun _ _ => rfl)) (pe_call (ok_l_least T) (hr.mono (by decide)) (by rfl) T.g_l_least T.k_l_least T.b_l_least .nil passL (pa_cons (pe_ix ix_list (pv 3) (pv 4) (fun _ _ => rfl)) (pa_cons (pv 2) (pa_nil)))) (nomark _))))) (pss_one (ps_ret (pe_bl))) (pss_nil))  (pss_cons (ps_if (pt_not (pt_val (pe_call (ok_l_same T) (hr.mono (by decide)) (by rfl) T.g_l_same T.k_l_same T.b_l_same .nil passL (pa_cons (pe_ix ix_list (pv 5) (pv 4) (fun _ _ => rfl)) (pa_cons (pe_ix ix_list (pv 3) (pv 4) (fun _ _ => rfl)) (pa_nil)))))) (pss_one (ps_ret (pe_bl))) (pss_nil))  (pss_one (ps_asg (pe_ix ix_list (pe_lst (pa_cons (pe_op op_pow (pe_int) (pe_int)) (pa_cons (pe_int) (pa_nil)))) (pe_op op_mod (pe_op op_fdiv (pe_call (ok_l_cell_at T) (hr.mono (by decide)) (by rfl) T.g_l_cell_at T.k_l_cell_at T.b_l_cell_at .nil passL (pa_cons (pv 0) (pa_cons (pe_int) (pa_nil)))) (pe_int)) (pe_int)) (fun _ _ => rfl)) (pg_sub (pe_ix ix_list (pv 5) (pv 4) (fun _ _ => rfl)) (pe_op op_sub (pv 2) (pe_int)) set_list))))))  (pss_cons (ps_if (pt_cmpR (op_neD (hr.units)) (pv 7) (pe_lst (pa_cons (pe_meth (pv 6) T.L_Tariff T.h_Tariff_single (ok_Tariff_single T) (hr.mono (by decide)) T.b_Tariff_single .nil passL (pa_cons (pv 2) (pa_nil))) (pa_cons (pe_meth (pv 6) T.L_Tariff T.h_Tariff_day (ok_Tariff_day T) (hr.mono (by decide)) T.b_Tariff_day .nil passL (pa_cons (pv 2) (pa_nil))) (pa_cons (pe_meth (pv 6) T.L_Tariff T.h_Tariff_week (ok_Tariff_week T) (hr.mono (by decide)) T.b_Tariff_week .nil passL (pa_cons (pv 2) (pa_nil))) (pa_nil))))) (nomark _)) (pss_one (ps_ret (pe_bl))) (pss_nil))  (pss_cons (ps_for (passes_of rfl) rfl (pi_range1 (by rfl) T.z_range (pa_cons (pe_int) (pa_nil))) (pg_name (i := 4) sc_law.nd rfl (by first | exact Or.inl rfl | exact Or.inr rfl)) (pss_one (ps_if (pt_not (pt_val (pe_call (ok_l_same T) (hr.mono (by decide)) (by rfl) T.g_l_same T.k_l_same T.b_l_same .nil passL (pa_cons (pe_ix ix_list (pe_lst (pa_cons (pe_fld (pv 6) rfl) (pa_cons (pe_fld (pv 6) rfl) (pa_cons (pe_fld (pv 6) rfl) (pa_nil))))) (pv 4) (fun _ _ => rfl)) (pa_cons (pe_ix ix_list (pv 3) (pv 4) (fun _ _ => rfl)) (pa_nil)))))) (pss_one (ps_ret (pe_bl))) (pss_nil))))  (pss_one (ps_ret (pe_and (pe_call (ok_l_whole T) (hr.mono (by decide)) (by rfl) T.g_l_whole T.k_l_whole T.b_l_whole .nil passL (pa_cons (pe_gc rfl (glob_int T.c_MOST_ZONES)) (pa_nil))) (pe_one (pe_cmpR op_eq (pe_gc rfl (glob_int T.c_MOST_ZONES)) (pe_int) (nomark _))))))))))))))))
end
end FW

namespace FW
open PySem PySem.Spec PyProof.Rows L2
theorem all_mk {l : PySem.W.OpenLaw} {w : World} {K : PySem.W.Frag} {h : Heap} {mg : Str → Option Value} {fa : Addr} (X : K.In h) (G : h.Ns mainGlobals mg) (hfa : mg "law" = some (.ref fa))
  {C_FareError C_BadPrices C_BadZones C_Tariff f_need_zones f_cheapest f_Tariff_init f_Tariff_single f_Tariff_day f_Tariff_week f_l_cell_at f_l_whole f_l_least f_l_same f_law : Addr} {od_need_zones an_need_zones od_cheapest an_cheapest od_Tariff_init an_Tariff_init od_Tariff_single an_Tariff_single od_Tariff_day an_Tariff_day od_Tariff_week an_Tariff_week od_l_cell_at an_l_cell_at od_l_whole an_l_whole od_l_least an_l_least od_l_same an_l_same od_law an_law : Option Addr} {sl_need_zones sl_cheapest sl_Tariff_init sl_Tariff_single sl_Tariff_day sl_Tariff_week sl_l_cell_at sl_l_whole sl_l_least sl_l_same sl_law : Array (Option Value)} {oc_need_zones kV_need_zones dc_need_zones pm_need_zones cd_need_zones ct_need_zones oc_cheapest kV_cheapest dc_cheapest pm_cheapest cd_cheapest ct_cheapest oc_Tariff_init kV_Tariff_init dc_Tariff_init pm_Tariff_init cd_Tariff_init ct_Tariff_init oc_Tariff_single kV_Tariff_single dc_Tariff_single pm_Tariff_single cd_Tariff_single ct_Tariff_single oc_Tariff_day kV_Tariff_day dc_Tariff_day pm_Tariff_day cd_Tariff_day ct_Tariff_day oc_Tariff_week kV_Tariff_week dc_Tariff_week pm_Tariff_week cd_Tariff_week ct_Tariff_week oc_l_cell_at kV_l_cell_at dc_l_cell_at pm_l_cell_at cd_l_cell_at ct_l_cell_at oc_l_whole kV_l_whole dc_l_whole pm_l_whole cd_l_whole ct_l_whole oc_l_least kV_l_least dc_l_least pm_l_least cd_l_least ct_l_least oc_l_same kV_l_same dc_l_same pm_l_same cd_l_same ct_l_same oc_law kV_law dc_law pm_law cd_law ct_law : Value} {tk_MOST_ZONES : Tok}
  (aE_FareError : PySem.W.nsIn K mainGlobals "FareError" = some (some (.ref C_FareError)))
  (xE_FareError : PySem.W.excIn K C_FareError [.type "ValueError", .type "Exception", .type "BaseException", .type "object"] "ValueError.__new__" = true)
  (kE_FareError : PySem.W.keepIn K (.ref C_FareError) = true)
  (yE_FareError : PySem.W.subIn K (.ref C_FareError) (.type "BaseException") = some true)
  (tE_FareError : PySem.W.typeIn K (.ref C_FareError) = some (.type "type"))
  (aE_BadPrices : PySem.W.nsIn K mainGlobals "BadPrices" = some (some (.ref C_BadPrices)))
  (xE_BadPrices : PySem.W.excIn K C_BadPrices [.type "ValueError", .type "Exception", .type "BaseException", .type "object"] "ValueError.__new__" = true)
  (kE_BadPrices : PySem.W.keepIn K (.ref C_BadPrices) = true)
  (yE_BadPrices : PySem.W.subIn K (.ref C_BadPrices) (.type "BaseException") = some true)
  (tE_BadPrices : PySem.W.typeIn K (.ref C_BadPrices) = some (.type "type"))
  (aE_BadZones : PySem.W.nsIn K mainGlobals "BadZones" = some (some (.ref C_BadZones)))
  (xE_BadZones : PySem.W.excIn K C_BadZones [.type "ValueError", .type "Exception", .type "BaseException", .type "object"] "ValueError.__new__" = true)
  (kE_BadZones : PySem.W.keepIn K (.ref C_BadZones) = true)
  (yE_BadZones : PySem.W.subIn K (.ref C_BadZones) (.type "BaseException") = some true)
  (tE_BadZones : PySem.W.typeIn K (.ref C_BadZones) = some (.type "type"))
  (aC_Tariff : PySem.W.nsIn K mainGlobals "Tariff" = some (some (.ref C_Tariff)))
  (pC_Tariff : PySem.W.plainGet K C_Tariff Str.empty = true)
  (dC_Tariff : PySem.W.hasDictIn K C_Tariff = true)
  (oC_Tariff : PySem.W.plainOver K C_Tariff = true)
  (sC_Tariff : PySem.W.findIn K (.ref C_Tariff) "__setattr__" = some (some (.builtin "object.__setattr__")))
  (mC_Tariff : PySem.W.makesIn K C_Tariff = true)
  (kC_Tariff : PySem.W.keepIn K (.ref C_Tariff) = true)
  (n_Tariff_days : PySem.W.findIn K (.ref C_Tariff) "days" = some none)
  (n_Tariff_singles : PySem.W.findIn K (.ref C_Tariff) "singles" = some none)
  (n_Tariff_weeks : PySem.W.findIn K (.ref C_Tariff) "weeks" = some none)
  (a_need_zones : PySem.W.nsIn K mainGlobals "need_zones" = some (some (.ref f_need_zones)))
  (l_need_zones : K.lookup f_need_zones = some ⟨oc_need_zones, od_need_zones, .func (PySem.W.fnOf "need_zones" "need_zones" (defArgs s_need_zones) (defBody s_need_zones) (defScope s_need_zones) .none kV_need_zones dc_need_zones pm_need_zones an_need_zones cd_need_zones ct_need_zones), sl_need_zones⟩)
  (c_need_zones : PySem.W.codeIn K cd_need_zones "need_zones" = true)
  (k_need_zones : PySem.W.keepIn K (.ref f_need_zones) = true)
  (a_cheapest : PySem.W.nsIn K mainGlobals "cheapest" = some (some (.ref f_cheapest)))
  (l_cheapest : K.lookup f_cheapest = some ⟨oc_cheapest, od_cheapest, .func (PySem.W.fnOf "cheapest" "cheapest" (defArgs s_cheapest) (defBody s_cheapest) (defScope s_cheapest) .none kV_cheapest dc_cheapest pm_cheapest an_cheapest cd_cheapest ct_cheapest), sl_cheapest⟩)
  (c_cheapest : PySem.W.codeIn K cd_cheapest "cheapest" = true)
  (k_cheapest : PySem.W.keepIn K (.ref f_cheapest) = true)
  (a_Tariff_init : PySem.W.findIn K (.ref C_Tariff) "__init__" = some (some (.ref f_Tariff_init)))
  (i_Tariff_init : PySem.W.isFn K (.ref f_Tariff_init) = true)
  (l_Tariff_init : K.lookup f_Tariff_init = some ⟨oc_Tariff_init, od_Tariff_init, .func (PySem.W.fnOf "__init__" "Tariff.__init__" (defArgs s_Tariff_init) (defBody s_Tariff_init) (defScope s_Tariff_init) .none kV_Tariff_init dc_Tariff_init pm_Tariff_init an_Tariff_init cd_Tariff_init ct_Tariff_init), sl_Tariff_init⟩)
  (c_Tariff_init : PySem.W.codeIn K cd_Tariff_init "Tariff.__init__" = true)
  (k_Tariff_init : PySem.W.keepIn K (.ref f_Tariff_init) = true)
  (a_Tariff_single : PySem.W.findIn K (.ref C_Tariff) "single" = some (some (.ref f_Tariff_single)))
  (i_Tariff_single : PySem.W.isFn K (.ref f_Tariff_single) = true)
  (l_Tariff_single : K.lookup f_Tariff_single = some ⟨oc_Tariff_single, od_Tariff_single, .func (PySem.W.fnOf "single" "Tariff.single" (defArgs s_Tariff_single) (defBody s_Tariff_single) (defScope s_Tariff_single) .none kV_Tariff_single dc_Tariff_single pm_Tariff_single an_Tariff_single cd_Tariff_single ct_Tariff_single), sl_Tariff_single⟩)
  (c_Tariff_single : PySem.W.codeIn K cd_Tariff_single "Tariff.single" = true)
  (k_Tariff_single : PySem.W.keepIn K (.ref f_Tariff_single) = true)
  (a_Tariff_day : PySem.W.findIn K (.ref C_Tariff) "day" = some (some (.ref f_Tariff_day)))
  (i_Tariff_day : PySem.W.isFn K (.ref f_Tariff_day) = true)
  (l_Tariff_day : K.lookup f_Tariff_day = some ⟨oc_Tariff_day, od_Tariff_day, .func (PySem.W.fnOf "day" "Tariff.day" (defArgs s_Tariff_day) (defBody s_Tariff_day) (defScope s_Tariff_day) .none kV_Tariff_day dc_Tariff_day pm_Tariff_day an_Tariff_day cd_Tariff_day ct_Tariff_day), sl_Tariff_day⟩)
  (c_Tariff_day : PySem.W.codeIn K cd_Tariff_day "Tariff.day" = true)
  (k_Tariff_day : PySem.W.keepIn K (.ref f_Tariff_day) = true)
  (a_Tariff_week : PySem.W.findIn K (.ref C_Tariff) "week" = some (some (.ref f_Tariff_week)))
  (i_Tariff_week : PySem.W.isFn K (.ref f_Tariff_week) = true)
  (l_Tariff_week : K.lookup f_Tariff_week = some ⟨oc_Tariff_week, od_Tariff_week, .func (PySem.W.fnOf "week" "Tariff.week" (defArgs s_Tariff_week) (defBody s_Tariff_week) (defScope s_Tariff_week) .none kV_Tariff_week dc_Tariff_week pm_Tariff_week an_Tariff_week cd_Tariff_week ct_Tariff_week), sl_Tariff_week⟩)
  (c_Tariff_week : PySem.W.codeIn K cd_Tariff_week "Tariff.week" = true)
  (k_Tariff_week : PySem.W.keepIn K (.ref f_Tariff_week) = true)
  (a_l_cell_at : PySem.W.nsIn K mainGlobals "_law_cell_at" = some (some (.ref f_l_cell_at)))
  (l_l_cell_at : K.lookup f_l_cell_at = some ⟨oc_l_cell_at, od_l_cell_at, .func (PySem.W.fnOf "_law_cell_at" "_law_cell_at" (defArgs s_l_cell_at) (defBody s_l_cell_at) (defScope s_l_cell_at) .none kV_l_cell_at dc_l_cell_at pm_l_cell_at an_l_cell_at cd_l_cell_at ct_l_cell_at), sl_l_cell_at⟩)
  (c_l_cell_at : PySem.W.codeIn K cd_l_cell_at "_law_cell_at" = true)
  (k_l_cell_at : PySem.W.keepIn K (.ref f_l_cell_at) = true)
  (a_l_whole : PySem.W.nsIn K mainGlobals "_law_whole" = some (some (.ref f_l_whole)))
  (l_l_whole : K.lookup f_l_whole = some ⟨oc_l_whole, od_l_whole, .func (PySem.W.fnOf "_law_whole" "_law_whole" (defArgs s_l_whole) (defBody s_l_whole) (defScope s_l_whole) .none kV_l_whole dc_l_whole pm_l_whole an_l_whole cd_l_whole ct_l_whole), sl_l_whole⟩)
  (c_l_whole : PySem.W.codeIn K cd_l_whole "_law_whole" = true)
  (k_l_whole : PySem.W.keepIn K (.ref f_l_whole) = true)
  (a_l_least : PySem.W.nsIn K mainGlobals "_law_least" = some (some (.ref f_l_least)))
  (l_l_least : K.lookup f_l_least = some ⟨oc_l_least, od_l_least, .func (PySem.W.fnOf "_law_least" "_law_least" (defArgs s_l_least) (defBody s_l_least) (defScope s_l_least) .none kV_l_least dc_l_least pm_l_least an_l_least cd_l_least ct_l_least), sl_l_least⟩)
  (c_l_least : PySem.W.codeIn K cd_l_least "_law_least" = true)
  (k_l_least : PySem.W.keepIn K (.ref f_l_least) = true)
  (a_l_same : PySem.W.nsIn K mainGlobals "_law_same" = some (some (.ref f_l_same)))
  (l_l_same : K.lookup f_l_same = some ⟨oc_l_same, od_l_same, .func (PySem.W.fnOf "_law_same" "_law_same" (defArgs s_l_same) (defBody s_l_same) (defScope s_l_same) .none kV_l_same dc_l_same pm_l_same an_l_same cd_l_same ct_l_same), sl_l_same⟩)
  (c_l_same : PySem.W.codeIn K cd_l_same "_law_same" = true)
  (k_l_same : PySem.W.keepIn K (.ref f_l_same) = true)
  (a_law : PySem.W.nsIn K mainGlobals "law" = some (some (.ref f_law)))
  (l_law : K.lookup f_law = some ⟨oc_law, od_law, .func (PySem.W.fnOf "law" "law" (defArgs s_law) (defBody s_law) (defScope s_law) .none kV_law dc_law pm_law an_law cd_law ct_law), sl_law⟩)
  (c_law : PySem.W.codeIn K cd_law "law" = true)
  (k_law : PySem.W.keepIn K (.ref f_law) = true)
  (z_bool : PySem.W.nsIn K mainGlobals "bool" = some none)
  (z_int : PySem.W.nsIn K mainGlobals "int" = some none)
  (z_isinstance : PySem.W.nsIn K mainGlobals "isinstance" = some none)
  (z_len : PySem.W.nsIn K mainGlobals "len" = some none)
  (z_list : PySem.W.nsIn K mainGlobals "list" = some none)
  (z_min : PySem.W.nsIn K mainGlobals "min" = some none)
  (z_range : PySem.W.nsIn K mainGlobals "range" = some none)
  (v_MOST_ZONES : PySem.W.nsIn K mainGlobals "MOST_ZONES" = some (some (.int 5 tk_MOST_ZONES))) :
  ∃ fd : FuncData, (∀ (s : Shared) (v : Value), BindsTo s fd ⟨[v], []⟩ [("_law_script", v)]) ∧ ∀ base : Heap, K.In base → base.Ns mainGlobals mg → FnOk l.prog w K mg base (L2.CX l.prog w) 4 fa fd ["_law_script"] (spLaw K) := by
  have e := hfa.symm.trans (PySem.W.mg_of X G a_law)
  cases e
  let A : Ad := { c_FareError := C_FareError, c_BadLink := fa, c_BadStop := fa, c_NoWay := fa, c_BadPrices := C_BadPrices, c_BadZones := C_BadZones, c_PastDay := fa, c_Tariff := C_Tariff, c_Web := fa, c_Ledger := fa }
  have F_need_zones := fun_mk (st := s_need_zones) l_need_zones c_need_zones k_need_zones
  have b_need_zones := F_need_zones.binds (ps := ["zones"]) fun _ _ _ _ _ _ us hl => match us, hl with | [_], _ => rfl
  have F_cheapest := fun_mk (st := s_cheapest) l_cheapest c_cheapest k_cheapest
  have b_cheapest := F_cheapest.binds (ps := ["row", "zones"]) fun _ _ _ _ _ _ us hl => match us, hl with | [_, _], _ => rfl
  have F_Tariff_init := fun_mk (st := s_Tariff_init) l_Tariff_init c_Tariff_init k_Tariff_init
  have b_Tariff_init := F_Tariff_init.binds (ps := ["self", "singles", "days", "weeks"]) fun _ _ _ _ _ _ us hl => match us, hl with | [_, _, _, _], _ => rfl
  have F_Tariff_single := fun_mk (st := s_Tariff_single) l_Tariff_single c_Tariff_single k_Tariff_single
  have b_Tariff_single := F_Tariff_single.binds (ps := ["self", "zones"]) fun _ _ _ _ _ _ us hl => match us, hl with | [_, _], _ => rfl
  have F_Tariff_day := fun_mk (st := s_Tariff_day) l_Tariff_day c_Tariff_day k_Tariff_day
  have b_Tariff_day := F_Tariff_day.binds (ps := ["self", "zones"]) fun _ _ _ _ _ _ us hl => match us, hl with | [_, _], _ => rfl
  have F_Tariff_week := fun_mk (st := s_Tariff_week) l_Tariff_week c_Tariff_week k_Tariff_week
  have b_Tariff_week := F_Tariff_week.binds (ps := ["self", "zones"]) fun _ _ _ _ _ _ us hl => match us, hl with | [_, _], _ => rfl
  have F_l_cell_at := fun_mk (st := s_l_cell_at) l_l_cell_at c_l_cell_at k_l_cell_at
  have b_l_cell_at := F_l_cell_at.binds (ps := ["_law_script", "_law_k"]) fun _ _ _ _ _ _ us hl => match us, hl with | [_, _], _ => rfl
  have F_l_whole := fun_mk (st := s_l_whole) l_l_whole c_l_whole k_l_whole
  have b_l_whole := F_l_whole.binds (ps := ["_law_found"]) fun _ _ _ _ _ _ us hl => match us, hl with | [_], _ => rfl
  have F_l_least := fun_mk (st := s_l_least) l_l_least c_l_least k_l_least
  have b_l_least := F_l_least.binds (ps := ["_law_row", "_law_zones"]) fun _ _ _ _ _ _ us hl => match us, hl with | [_, _], _ => rfl
  have F_l_same := fun_mk (st := s_l_same) l_l_same c_l_same k_l_same
  have b_l_same := F_l_same.binds (ps := ["_law_found", "_law_row"]) fun _ _ _ _ _ _ us hl => match us, hl with | [_, _], _ => rfl
  have F_law := fun_mk (st := s_law) l_law c_law k_law
  have b_law := F_law.binds (ps := ["_law_script"]) fun _ _ _ _ _ _ us hl => match us, hl with | [_], _ => rfl
  let T : Txt K mg A := {
    a_need_zones := f_need_zones, d_need_zones := _, F_need_zones := F_need_zones, b_need_zones := b_need_zones,
    g_need_zones := PySem.W.mg_of X G a_need_zones, k_need_zones := k_need_zones,
    a_cheapest := f_cheapest, d_cheapest := _, F_cheapest := F_cheapest, b_cheapest := b_cheapest,
    g_cheapest := PySem.W.mg_of X G a_cheapest, k_cheapest := k_cheapest,
    a_Tariff_init := f_Tariff_init, d_Tariff_init := _, F_Tariff_init := F_Tariff_init, b_Tariff_init := b_Tariff_init,
    M_Tariff := ⟨mC_Tariff, a_Tariff_init, i_Tariff_init, kC_Tariff⟩,
    a_Tariff_single := f_Tariff_single, d_Tariff_single := _, F_Tariff_single := F_Tariff_single, b_Tariff_single := b_Tariff_single,
    h_Tariff_single := ⟨a_Tariff_single, i_Tariff_single, k_Tariff_single⟩,
    a_Tariff_day := f_Tariff_day, d_Tariff_day := _, F_Tariff_day := F_Tariff_day, b_Tariff_day := b_Tariff_day,
    h_Tariff_day := ⟨a_Tariff_day, i_Tariff_day, k_Tariff_day⟩,
    a_Tariff_week := f_Tariff_week, d_Tariff_week := _, F_Tariff_week := F_Tariff_week, b_Tariff_week := b_Tariff_week,
    h_Tariff_week := ⟨a_Tariff_week, i_Tariff_week, k_Tariff_week⟩,
    a_l_cell_at := f_l_cell_at, d_l_cell_at := _, F_l_cell_at := F_l_cell_at, b_l_cell_at := b_l_cell_at,
    g_l_cell_at := PySem.W.mg_of X G a_l_cell_at, k_l_cell_at := k_l_cell_at,
    a_l_whole := f_l_whole, d_l_whole := _, F_l_whole := F_l_whole, b_l_whole := b_l_whole,
    g_l_whole := PySem.W.mg_of X G a_l_whole, k_l_whole := k_l_whole,
    a_l_least := f_l_least, d_l_least := _, F_l_least := F_l_least, b_l_least := b_l_least,
    g_l_least := PySem.W.mg_of X G a_l_least, k_l_least := k_l_least,
    a_l_same := f_l_same, d_l_same := _, F_l_same := F_l_same, b_l_same := b_l_same,
    g_l_same := PySem.W.mg_of X G a_l_same, k_l_same := k_l_same,
    a_law := fa, d_law := _, F_law := F_law, b_law := b_law,
    g_law := PySem.W.mg_of X G a_law, k_law := k_law,
    L_Tariff := ⟨pC_Tariff, dC_Tariff, oC_Tariff, sC_Tariff⟩, g_Tariff := PySem.W.mg_of X G aC_Tariff,
    n_Tariff_days := n_Tariff_days,
    n_Tariff_singles := n_Tariff_singles,
    n_Tariff_weeks := n_Tariff_weeks,
    z_bool := PySem.W.mg_none_of X G z_bool,
    z_int := PySem.W.mg_none_of X G z_int,
    z_isinstance := PySem.W.mg_none_of X G z_isinstance,
    z_len := PySem.W.mg_none_of X G z_len,
    z_list := PySem.W.mg_none_of X G z_list,
    z_min := PySem.W.mg_none_of X G z_min,
    z_range := PySem.W.mg_none_of X G z_range,
    c_MOST_ZONES := ⟨_, PySem.W.mg_of X G v_MOST_ZONES⟩,
    g_FareError := PySem.W.mg_of X G aE_FareError, x_FareError := xE_FareError, k_FareError := kE_FareError, y_FareError := yE_FareError, t_FareError := tE_FareError,
    g_BadPrices := PySem.W.mg_of X G aE_BadPrices, x_BadPrices := xE_BadPrices, k_BadPrices := kE_BadPrices, y_BadPrices := yE_BadPrices, t_BadPrices := tE_BadPrices,
    g_BadZones := PySem.W.mg_of X G aE_BadZones, x_BadZones := xE_BadZones, k_BadZones := kE_BadZones, y_BadZones := yE_BadZones, t_BadZones := tE_BadZones }
  exact ⟨PySem.W.fnOf "law" "law" (defArgs s_law) (defBody s_law) (defScope s_law) .none kV_law dc_law pm_law an_law cd_law ct_law, fun s v => .of_eq rfl, fun base _ _ => ok_law (A := A) (P := l.prog) (w := w) (base := base) T⟩
theorem walk {l : PySem.W.OpenLaw} {q : Program} {loose : List Str} {XP : (Str → Option Value) → Heap → Prop} {YP : World → Heap → Prop} {d : DefRec} {K : Params → PySem.W.Frag} (hn : l.most = some 63) (hdf : d.params.defaults = [])
    (hY : ∀ (w : World) (h : Heap), YP w h → (K w.params).In h)
    (F : ∀ (w : World) (mg : Str → Option Value) (fa : Addr) (h : Heap), (K w.params).In h → h.Ns mainGlobals mg → mg d.name = some (.ref fa) →
      ∃ fd : FuncData, (∀ (s : Shared) (u : Value), BindsTo s fd ⟨[u], []⟩ [("_law_script", u)]) ∧ ∀ base : Heap, (K w.params).In base → base.Ns mainGlobals mg → FnOk l.prog w (K w.params) mg base (L2.CX l.prog w) 4 fa fd ["_law_script"] (spLaw (K w.params))) :
    PySem.W.WalkO q loose XP YP l.row.toRowW d [] (fun f vs => PySem.call f vs) :=
  L2.walk_of (n := 63) (k := 4) (x := "_law_script") (CX := fun w => L2.CX l.prog w) (sp := fun w => spLaw (K w.params)) hn (by decide) hdf ⟨rfl, by decide, by decide⟩ hY F (fun _ _ a ns hl _ hS => ⟨a, ns, rfl, hS, hl, fun _ => rfl⟩) fun _ _ _ _ _ z => cx_none z
end FW
open PySem PySem.W PyProof.Rows
set_option maxRecDepth 100000 in
set_option maxHeartbeats 0 in
theorem PySem.Challenge.cw_fareweb_k01_prices_holds : PySem.Challenge.rw_fareweb_k01_prices.Holds := by
  w_on; o_law; k_head; (case hw => w_witness2)
  k_fill
  refine FW.walk (l := PySem.Challenge.rw_fareweb_k01_prices) rfl rfl (fun w h Y => PySem.W.kIn_of Y) ?F
  case F =>
    intro w mg fa h KX G hmg
    refine' FW.all_mk KX G hmg ?aE_FareError ?xE_FareError ?kE_FareError ?yE_FareError ?tE_FareError ?aE_BadPrices ?xE_BadPrices ?kE_BadPrices ?yE_BadPrices ?tE_BadPrices ?aE_BadZones ?xE_BadZones ?kE_BadZones ?yE_BadZones ?tE_BadZones ?aC_Tariff ?pC_Tariff ?dC_Tariff ?oC_Tariff ?sC_Tariff ?mC_Tariff ?kC_Tariff ?n_Tariff_days ?n_Tariff_singles ?n_Tariff_weeks ?a_need_zones ?l_need_zones ?c_need_zones ?k_need_zones ?a_cheapest ?l_cheapest ?c_cheapest ?k_cheapest ?a_Tariff_init ?i_Tariff_init ?l_Tariff_init ?c_Tariff_init ?k_Tariff_init ?a_Tariff_single ?i_Tariff_single ?l_Tariff_single ?c_Tariff_single ?k_Tariff_single ?a_Tariff_day ?i_Tariff_day ?l_Tariff_day ?c_Tariff_day ?k_Tariff_day ?a_Tariff_week ?i_Tariff_week ?l_Tariff_week ?c_Tariff_week ?k_Tariff_week ?a_l_cell_at ?l_l_cell_at ?c_l_cell_at ?k_l_cell_at ?a_l_whole ?l_l_whole ?c_l_whole ?k_l_whole ?a_l_least ?l_l_least ?c_l_least ?k_l_least ?a_l_same ?l_l_same ?c_l_same ?k_l_same ?a_law ?l_law ?c_law ?k_law ?z_bool ?z_int ?z_isinstance ?z_len ?z_list ?z_min ?z_range ?v_MOST_ZONES
    (case aE_FareError => k_is)
    (case xE_FareError => k_exc)
    (case kE_FareError => k_is)
    (case yE_FareError => k_is)
    (case tE_FareError => k_is)
    (case aE_BadPrices => k_is)
    (case xE_BadPrices => k_exc)
    (case kE_BadPrices => k_is)
    (case yE_BadPrices => k_is)
    (case tE_BadPrices => k_is)
    (case aE_BadZones => k_is)
    (case xE_BadZones => k_exc)
    (case kE_BadZones => k_is)
    (case yE_BadZones => k_is)
    (case tE_BadZones => k_is)
    (case aC_Tariff => k_is)
    (case pC_Tariff => k_is)
    (case dC_Tariff => k_is)
    (case oC_Tariff => k_is)
    (case sC_Tariff => k_is)
    (case mC_Tariff => k_is)
    (case kC_Tariff => k_is)
    (case n_Tariff_days => k_is)
    (case n_Tariff_singles => k_is)
    (case n_Tariff_weeks => k_is)
    (case a_need_zones => k_is)
    (case l_need_zones => k_is)
    (case c_need_zones => k_is)
    (case k_need_zones => k_is)
    (case a_cheapest => k_is)
    (case l_cheapest => k_is)
    (case c_cheapest => k_is)
    (case k_cheapest => k_is)
    (case a_Tariff_init => k_is)
    (case i_Tariff_init => k_is)
    (case l_Tariff_init => k_is)
    (case c_Tariff_init => k_is)
    (case k_Tariff_init => k_is)
    (case a_Tariff_single => k_is)
    (case i_Tariff_single => k_is)
    (case l_Tariff_single => k_is)
    (case c_Tariff_single => k_is)
    (case k_Tariff_single => k_is)
    (case a_Tariff_day => k_is)
    (case i_Tariff_day => k_is)
    (case l_Tariff_day => k_is)
    (case c_Tariff_day => k_is)
    (case k_Tariff_day => k_is)
    (case a_Tariff_week => k_is)
    (case i_Tariff_week => k_is)
    (case l_Tariff_week => k_is)
    (case c_Tariff_week => k_is)
    (case k_Tariff_week => k_is)
    (case a_l_cell_at => k_is)
    (case l_l_cell_at => k_is)
    (case c_l_cell_at => k_is)
    (case k_l_cell_at => k_is)
    (case a_l_whole => k_is)
    (case l_l_whole => k_is)
    (case c_l_whole => k_is)
    (case k_l_whole => k_is)
    (case a_l_least => k_is)
    (case l_l_least => k_is)
    (case c_l_least => k_is)
    (case k_l_least => k_is)
    (case a_l_same => k_is)
    (case l_l_same => k_is)
    (case c_l_same => k_is)
    (case k_l_same => k_is)
    (case a_law => k_is)
    (case l_law => k_is)
    (case c_law => k_is)
    (case k_law => k_is)
    (case z_bool => k_is)
    (case z_int => k_is)
    (case z_isinstance => k_is)
    (case z_len => k_is)
    (case z_list => k_is)
    (case z_min => k_is)
    (case z_range => k_is)
    (case v_MOST_ZONES => k_is)
#print axioms PySem.Challenge.cw_fareweb_k01_prices_holds

