import PyProof.Rows.All
import Wide.All
import OpenK.AllK
import Wide.FinOn
import HandS.ForMost
import HandS.Steps
import HandS.Exc
import HandS.TryOnly
import HandS.ExcOwn
import HandS.WordsExc
import HandS.IsInst
import HandS.More
import HandS.Flow
import HandS.Strs
import HandS.SetFor
import HandS.ExcIs
import HandS.Rev
import HandS.Deep
import HandS.Conv
import PySem.Challenge.RW_fareweb_k10_whole_cards_pay_the_least
set_option Elab.async false
set_option linter.all false
set_option maxRecDepth 100000
set_option maxHeartbeats 4000000

/-! The base of these proofs: names for the operators' readings, small steps for readings, heaps. -/
namespace FW
open PySem PySem.Spec PyProof.Rows L2

/-! ### the operators' readings by short names -/
def rNeg : V → Hp → VK → Prop := rU fun i => .int (-i)
def rAddI : R2 := rI0 fun i j => .int (i + j)
def rSubI : R2 := rI0 fun i j => .int (i - j)
def rMulI : R2 := rI CMul fun i j => .int (i * j)
def rModI : R2 := rI (fun _ j => 0 < j) fun i j => .int (i % j)
def rDivI : R2 := rI CDiv fun i j => .int (i / j)
def rPowI : R2 := rI CPow fun i j => .int (i ^ j.toNat)
def rLtI : R2 := rI0 fun i j => .bl (decide (i < j))
def rLeI : R2 := rI0 fun i j => .bl (decide (i ≤ j))
def rGtI : R2 := rI0 fun i j => .bl (decide (j < i))
def rGeI : R2 := rI0 fun i j => .bl (decide (j ≤ i))
def rLenS (K : PySem.W.Frag) : List V → Hp → VK → Prop := fun xs H Q => ∃ p ys, xs = [.ref p] ∧ (SqL K H p ys ∨ SqT K H p ys) ∧ Q (.int ys.length) H
def rLenT : List V → Hp → VK → Prop := fun xs H Q => ∃ z, xs = [.str z] ∧ z.length ≤ sizeLine ∧ Q (.int z.length) H
def rListS (K : PySem.W.Frag) : List V → Hp → VK → Prop := fun xs H Q => ∃ p ys, xs = [.ref p] ∧ (SqL K H p ys ∨ SqT K H p ys) ∧ ∀ l, H l = none → Q (.ref l) (upd H l (.lst ys))
def rMin2 : List V → Hp → VK → Prop := fun xs H Q => ∃ i j, xs = [.int i, .int j] ∧ Q (.int (if j < i then j else i)) H
def rMax2 : List V → Hp → VK → Prop := fun xs H Q => ∃ i j, xs = [.int i, .int j] ∧ Q (.int (if j > i then j else i)) H
def rAbs : List V → Hp → VK → Prop := fun xs H Q => ∃ i, xs = [.int i] ∧ Q (.int (if i < 0 then -i else i)) H
def rInt1 : List V → Hp → VK → Prop := fun xs H Q => (∃ i, xs = [.int i] ∧ Q (.int i) H) ∨ ∃ k, xs = [.bl k] ∧ Q (.int (if k then 1 else 0)) H
def tTryOnly (K : PySem.W.Frag) (c : Value) (tb : WX → TS) (ts : Addr → Value → Option Addr → TS) : TS := fun D σ H => tb (wOnly K c ts (fun _ _ _ _ => False) D) D σ H


/-- a loop's word, closed: rd stops at it -/
structure Hold (P : Prop) : Prop where
  h : P
def rIsH (K : PySem.W.Frag) : List V → Hp → VK → Prop := fun xs H Q => Hold (rIsi K xs H Q)
theorem call_isH {X : Cx} : CallR X (.builtin "isinstance") (rIsH X.K) := fun pins s σ H xs us Q I r h => call_isi pins s σ H xs us Q I r h.h
def tIsi (K : PySem.W.Frag) (ta : TE) (c : V) : TE := fun σ H Q => ta σ H fun x H1 => rIsH K [x, c] H1 Q

/-! ### heaps -/
theorem _root_.L2.Same.new {H : Hp} {p : Addr} {o : HO} (h : H p = none) : Same H (upd H p o) := fun b x e => by
  rw [upd_ne (ne_of_none e h)]
  exact e
theorem _root_.L2.Same.mut {H H' : Hp} {p : Addr} {o : HO} (s : Same H H') (h : H p = none) : Same H (upd H' p o) := fun b x e => by
  rw [upd_ne (ne_of_none e h)]
  exact s b x e
theorem _root_.L2.Same.tup {K : PySem.W.Frag} {H H' : Hp} {a : Addr} {xs : List V} (e : Same H H') (h : SqT K H a xs) : SqT K H' a xs := by
  rcases h with (h | ⟨o, h⟩) | h
  · exact .inl (.inl (e _ _ h))
  · exact .inl (.inr ⟨o, e _ _ h⟩)
  · exact .inr h
theorem putF_le (f : Str) (v : V) : ∀ fs : List (Str × V), (putF f v fs).length ≤ fs.length + 1
  | [] => Nat.le_refl _
  | (g, w) :: r => by
    unfold putF
    split
    · simp
    · have := putF_le f v r
      simp only [List.length_cons]
      omega
theorem putF_1 {f : Str} {v : V} : (putF f v []).length < 1000 := by have := putF_le f v []; simp only [List.length_nil] at this; omega
theorem putF_2 {f g : Str} {v u : V} : (putF f v (putF g u [])).length < 1000 := by
  have h1 := putF_le f v (putF g u [])
  have h2 := putF_le g u []
  simp only [List.length_nil] at h2
  omega
theorem sq_ne {K : PySem.W.Frag} {H : Hp} {a b : Addr} {o : HO} {xs : List V} (n : b ≠ a) (h : SqL K H b xs) : SqL K (upd H a o) b xs := by
  rcases h with (h | ⟨u, h⟩) | h
  · exact .inl (.inl (by rw [upd_ne n]; exact h))
  · exact .inl (.inr ⟨u, by rw [upd_ne n]; exact h⟩)
  · exact .inr h
theorem st_ne {K : PySem.W.Frag} {H : Hp} {a b : Addr} {o : HO} {xs : List V} (n : b ≠ a) (h : SqT K H b xs) : SqT K (upd H a o) b xs := by
  rcases h with (h | ⟨u, h⟩) | h
  · exact .inl (.inl (by rw [upd_ne n]; exact h))
  · exact .inl (.inr ⟨u, by rw [upd_ne n]; exact h⟩)
  · exact .inr h
theorem sq_ins {K : PySem.W.Frag} {H : Hp} {a b C dx : Addr} {o : HO} {fs : List (Str × V)} {xs : List V} (e : H a = some (.ins C dx fs)) (h : SqL K H b xs) : SqL K (upd H a o) b xs := by
  rcases h with (h | ⟨u, h⟩) | h
  · exact .inl (.inl (by rw [upd_ne (ne_of h e (by intro z; cases z))]; exact h))
  · exact .inl (.inr ⟨u, by rw [upd_ne (ne_of h e (by intro z; cases z))]; exact h⟩)
  · exact .inr h
theorem st_ins {K : PySem.W.Frag} {H : Hp} {a b C dx : Addr} {o : HO} {fs : List (Str × V)} {xs : List V} (e : H a = some (.ins C dx fs)) (h : SqT K H b xs) : SqT K (upd H a o) b xs := by
  rcases h with (h | ⟨u, h⟩) | h
  · exact .inl (.inl (by rw [upd_ne (ne_of h e (by intro z; cases z))]; exact h))
  · exact .inl (.inr ⟨u, by rw [upd_ne (ne_of h e (by intro z; cases z))]; exact h⟩)
  · exact .inr h
theorem st_lst {K : PySem.W.Frag} {H : Hp} {a b : Addr} {o : HO} {ys xs : List V} (e : H a = some (.lst ys)) (h : SqT K H b xs) : SqT K (upd H a o) b xs := by
  rcases h with (h | ⟨u, h⟩) | h
  · exact .inl (.inl (by rw [upd_ne (ne_of h e (by intro z; cases z))]; exact h))
  · exact .inl (.inr ⟨u, by rw [upd_ne (ne_of h e (by intro z; cases z))]; exact h⟩)
  · exact .inr h
theorem sq_new {K : PySem.W.Frag} {H : Hp} {a b : Addr} {o : HO} {xs : List V} (e : H a = none) (h : SqL K H b xs) : SqL K (upd H a o) b xs := L2.Same.seq (Same.new e) h
theorem st_new {K : PySem.W.Frag} {H : Hp} {a b : Addr} {o : HO} {xs : List V} (e : H a = none) (h : SqT K H b xs) : SqT K (upd H a o) b xs := Same.tup (Same.new e) h
theorem ne_sym {a b : Addr} (h : a ≠ b) : b ≠ a := fun e => h e.symm
theorem upd_other {H : Hp} {a b : Addr} {o : HO} {u : Option HO} (h : b ≠ a) (e : H b = u) : upd H a o b = u := by rw [upd_ne h]; exact e
theorem ite_dT {p : Prop} [Decidable p] {A B : Prop} (h : p) (k : A) : if decide p = true then A else B := by
  rw [decide_eq_true h]
  exact iteT k
theorem ite_dF {p : Prop} [Decidable p] {A B : Prop} (h : ¬ p) (k : B) : if decide p = true then A else B := by
  rw [decide_eq_false h]
  exact iteF k
theorem ite_d {p : Prop} [Decidable p] {A B : Prop} (h1 : p → A) (h2 : ¬ p → B) : if decide p = true then A else B := by
  by_cases h : p
  · exact ite_dT h (h1 h)
  · exact ite_dF h (h2 h)
theorem ite_nT {p : Prop} [Decidable p] {A B : Prop} (h : ¬ p) (k : A) : if (!decide p) = true then A else B := by
  rw [decide_eq_false h]
  exact iteT k
theorem ite_nF {p : Prop} [Decidable p] {A B : Prop} (h : p) (k : B) : if (!decide p) = true then A else B := by
  rw [decide_eq_true h]
  exact iteF k
theorem ite_n {p : Prop} [Decidable p] {A B : Prop} (h1 : ¬ p → A) (h2 : p → B) : if (!decide p) = true then A else B := by
  by_cases h : p
  · exact ite_nF h (h2 h)
  · exact ite_nT h (h1 h)
theorem ite_b {b : Bool} {A B : Prop} (h1 : b = true → A) (h2 : b = false → B) : if b = true then A else B := by
  cases b with
  | true => exact iteT (h1 rfl)
  | false => exact iteF (h2 rfl)
theorem small {n m : Nat} (h : n ≤ 100000) : n ≤ sizeLine := Nat.le_trans h (by decide)
theorem small_lt {n : Nat} (h : n < 100000) : n < sizeLine := Nat.lt_of_lt_of_le h (by decide)
theorem small_le {n : Nat} (h : n ≤ 100000) : n ≤ sizeLine := Nat.le_trans h (by decide)
theorem atI_lt {α : Type} {xs : List α} {i : Int} {v : α} (h0 : 0 ≤ i) (h : xs[i.toNat]? = some v) : atI xs i = some v := by
  have e : i = ((i.toNat : Nat) : Int) := (Int.toNat_of_nonneg h0).symm
  rw [e]
  exact atI_nat h
theorem atI_map {ns : List Int} {i : Int} (h0 : 0 ≤ i) (h1 : i < ns.length) : atI (ns.map V.int) i = some (V.int (ns.getD i.toNat 0)) := by
  have h : i.toNat < ns.length := by omega
  refine atI_lt h0 ?_
  rw [List.getElem?_map, List.getElem?_eq_getElem h, List.getD_eq_getElem?_getD, List.getElem?_eq_getElem h]
  rfl


/-! ### a heap without one object: what is said of it stays when that object is changed -/
def del (H : Hp) (a : Addr) : Hp := fun b => if b = a then none else H b
theorem del_at {H : Hp} {a : Addr} : del H a a = none := by unfold del; rw [if_pos rfl]
theorem del_ne {H : Hp} {a b : Addr} (h : b ≠ a) : del H a b = H b := by unfold del; rw [if_neg h]
theorem del_get {H : Hp} {a b : Addr} {o : HO} (h : del H a b = some o) : H b = some o ∧ b ≠ a := by
  by_cases e : b = a
  · rw [e, del_at] at h
    cases h
  · exact ⟨by rw [del_ne e] at h; exact h, e⟩
theorem del_upd {H : Hp} {a : Addr} {o : HO} : del (upd H a o) a = del H a := by
  funext b
  by_cases e : b = a
  · rw [e, del_at, del_at]
  · rw [del_ne e, del_ne e, upd_ne e]
theorem upd_del {H : Hp} {a : Addr} {o : HO} : upd (del H a) a o = upd H a o := by
  funext b
  by_cases e : b = a
  · rw [e, upd_same, upd_same]
  · rw [upd_ne e, upd_ne e, del_ne e]
theorem upd_del_self {H : Hp} {a : Addr} {o : HO} (h : H a = some o) : upd (del H a) a o = H := by
  funext b
  by_cases e : b = a
  · rw [e, upd_same, h]
  · rw [upd_ne e, del_ne e]
theorem del_upd_ne {H : Hp} {a b : Addr} {o : HO} (n : b ≠ a) : del (upd H b o) a = upd (del H a) b o := by
  funext c
  by_cases e : c = a
  · rw [e, del_at, upd_ne (ne_sym n), del_at]
  · by_cases f : c = b
    · rw [f, del_ne n, upd_same, upd_same]
    · rw [del_ne e, upd_ne f, upd_ne f, del_ne e]
theorem del_sub (H : Hp) (a : Addr) : Same (del H a) H := fun b o e => (del_get e).1
theorem _root_.L2.Same.del2 {H H' : Hp} (a : Addr) (s : Same H H') : Same (del H a) (del H' a) := fun b o e => by
  obtain ⟨e1, n⟩ := del_get e
  rw [del_ne n]
  exact s _ _ e1
/-- what stood ahead of a's making stands still -/
theorem _root_.L2.Same.delN {H H' : Hp} {a : Addr} (s : Same H H') (h : H a = none) : Same H (del H' a) := fun b o e => by
  rw [del_ne (ne_of_none e h)]
  exact s _ _ e
theorem del_new {H : Hp} {a : Addr} {o : HO} (h : H a = none) : del (upd H a o) a = H := by
  rw [del_upd]
  funext b
  by_cases e : b = a
  · rw [e, del_at, h]
  · rw [del_ne e]

/-- a heap without the objects at hs -/
def dels (H : Hp) (hs : List Addr) : Hp := fun b => if b ∈ hs then none else H b
theorem dels_in {H : Hp} {hs : List Addr} {a : Addr} (h : a ∈ hs) : dels H hs a = none := by unfold dels; rw [if_pos h]
theorem dels_out {H : Hp} {hs : List Addr} {a : Addr} (h : a ∉ hs) : dels H hs a = H a := by unfold dels; rw [if_neg h]
theorem dels_get {H : Hp} {hs : List Addr} {a : Addr} {o : HO} (h : dels H hs a = some o) : H a = some o ∧ a ∉ hs := by
  by_cases c : a ∈ hs
  · rw [dels_in c] at h
    cases h
  · exact ⟨by rw [dels_out c] at h; exact h, c⟩
theorem dels_sub (H : Hp) (hs : List Addr) : Same (dels H hs) H := fun b o e => (dels_get e).1
theorem _root_.L2.Same.dels2 {H H' : Hp} (hs : List Addr) (s : Same H H') : Same (dels H hs) (dels H' hs) := fun b o e => by
  obtain ⟨e1, n⟩ := dels_get e
  rw [dels_out n]
  exact s _ _ e1
theorem _root_.L2.Same.delsN {H H' : Hp} {hs : List Addr} (s : Same H H') (h : ∀ a ∈ hs, H a = none) : Same H (dels H' hs) := fun b o e => by
  rw [dels_out fun m => ne_of_none e (h b m) rfl]
  exact s _ _ e

/-! ### comprehensions -/
/-- what turn i gives: a value, or nothing; the heap may grow -/
theorem lc_rangeF {lo : Int} {n : Nat} {g : TG} {tt : TT} {te : TE} {vs : List Nat} {σ : L2.St} {H1 : Hp} {D : Addr} {Qd : Hp → Prop} (hD : H1 D = none) (hn : n ≤ 50000) (F : Nat → Option V)
    (hs : ∀ (i : Nat) (H' : Hp), i < n → Same H1 H' → ∀ (G : V → Hp → Prop) (N : Hp → Prop), (∀ y H'', F i = some y → Same H' H'' → G y H'') → (∀ H'', F i = none → Same H' H'' → N H'') →
      g (.int (lo + i)) (wipe σ vs) H' fun σ2 H2 => wipe σ2 vs = wipe σ vs ∧ tt σ2 H2 fun b H3 => if b = true then te σ2 H3 G else N H3)
    (hd : ∀ H'', Same H1 (del H'' D) → H'' D = some (.lst ((List.range n).filterMap F)) → Qd H'') :
    ∃ W : Nat → Nat → Hp → Prop, (∃ m, W 0 m (upd H1 D (.lst []))) ∧ ∀ i m H, W i m H →
      ((Itr lo n).stop i H ∧ Qd H) ∨ ((Itr lo n).go i H ∧ ∃ Nx : Hp → Prop, (∀ H', Nx H' → ∃ m', m' < m ∧ W (i + 1) m' H') ∧ ∀ x H', (Itr lo n).yld i H x H' → g x (wipe σ vs) H' fun σ2 H2 => wipe σ2 vs = wipe σ vs ∧ tt σ2 H2 fun b H3 =>
        if b = true then te σ2 H3 fun y H4 => ∃ acc, H4 D = some (.lst acc) ∧ acc.length < sizeLine ∧ Nx (upd H4 D (.lst (acc ++ [y]))) else Nx H3) := by
  refine lc_range (fun i H' => Same H1 (del H' D) ∧ H' D = some (.lst ((List.range i).filterMap F))) ⟨by rw [del_new hD]; exact Same.refl _, upd_same⟩ (fun i H' hi ⟨p1, p2⟩ => ?_) (fun H' ⟨p1, p2⟩ => hd H' p1 p2)
  refine hs i H' hi (p1.trans (del_sub _ _)) _ _ (fun y H'' e s => ⟨_, s _ _ p2, ?_, p1.trans (by rw [del_upd]; exact s.del2 D), ?_⟩) (fun H'' e s => ⟨p1.trans (s.del2 D), ?_⟩)
  · refine small_lt ?_
    have h1 := List.length_filterMap_le F (List.range i)
    rw [List.length_range] at h1
    omega
  · rw [upd_same, List.range_succ, List.filterMap_append, List.filterMap_cons, e]
    rfl
  · rw [s _ _ p2, List.range_succ, List.filterMap_append, List.filterMap_cons, e, List.filterMap_nil, List.append_nil]
theorem filterMap_take {α β : Type} (f : α → Option β) {l : List α} {i : Nat} {x : α} (h : l[i]? = some x) : (l.take (i + 1)).filterMap f = (l.take i).filterMap f ++ (f x).toList := by
  rw [List.take_add_one, h, List.filterMap_append, Option.toList_some, List.filterMap_cons]
  cases f x <;> rfl
theorem lc_listF {K : PySem.W.Frag} {a : Addr} {xs : List V} {g : TG} {tt : TT} {te : TE} {vs : List Nat} {σ : L2.St} {H1 : Hp} {D : Addr} {Qd : Hp → Prop} (hD : H1 D = none) (hS : SqL K H1 a xs) (hn : xs.length ≤ 50000) (F : V → Option V)
    (hs : ∀ (i : Nat) (x : V) (H' : Hp), xs[i]? = some x → Same H1 H' → ∀ (G : V → Hp → Prop) (N : Hp → Prop), (∀ y H'', F x = some y → Same H' H'' → G y H'') → (∀ H'', F x = none → Same H' H'' → N H'') →
      g x (wipe σ vs) H' fun σ2 H2 => wipe σ2 vs = wipe σ vs ∧ tt σ2 H2 fun b H3 => if b = true then te σ2 H3 G else N H3)
    (hd : ∀ H'', Same H1 (del H'' D) → H'' D = some (.lst (xs.filterMap F)) → Qd H'') :
    ∃ W : Nat → Nat → Hp → Prop, (∃ m, W 0 m (upd H1 D (.lst []))) ∧ ∀ i m H, W i m H →
      ((Itl K a).stop i H ∧ Qd H) ∨ ((Itl K a).go i H ∧ ∃ Nx : Hp → Prop, (∀ H', Nx H' → ∃ m', m' < m ∧ W (i + 1) m' H') ∧ ∀ x H', (Itl K a).yld i H x H' → g x (wipe σ vs) H' fun σ2 H2 => wipe σ2 vs = wipe σ vs ∧ tt σ2 H2 fun b H3 =>
        if b = true then te σ2 H3 fun y H4 => ∃ acc, H4 D = some (.lst acc) ∧ acc.length < sizeLine ∧ Nx (upd H4 D (.lst (acc ++ [y]))) else Nx H3) := by
  refine lc_list (xs := xs) (fun i H' => Same H1 (del H' D) ∧ H' D = some (.lst ((xs.take i).filterMap F))) ⟨by rw [del_new hD]; exact Same.refl _, upd_same⟩ (fun i H' _ ⟨p1, p2⟩ => (p1.trans (del_sub _ _)).seq hS) (fun i x H' hx ⟨p1, p2⟩ => ?_) (fun H' ⟨p1, p2⟩ => hd H' p1 (by rw [List.take_length] at p2; exact p2))
  have hi : i < xs.length := (List.getElem?_eq_some_iff.mp hx).1
  refine hs i x H' hx (p1.trans (del_sub _ _)) _ _ (fun y H'' e s => ⟨_, s _ _ p2, ?_, p1.trans (by rw [del_upd]; exact s.del2 D), ?_⟩) (fun H'' e s => ⟨p1.trans (s.del2 D), ?_⟩)
  · refine small_lt ?_
    have h1 := List.length_filterMap_le F (xs.take i)
    rw [List.length_take] at h1
    omega
  · rw [upd_same, filterMap_take F hx, e]
    rfl
  · rw [s _ _ p2, filterMap_take F hx, e]
    simp
theorem lc_tupF {K : PySem.W.Frag} {a : Addr} {xs : List V} {g : TG} {tt : TT} {te : TE} {vs : List Nat} {σ : L2.St} {H1 : Hp} {D : Addr} {Qd : Hp → Prop} (hD : H1 D = none) (hS : SqT K H1 a xs) (hn : xs.length ≤ 50000) (F : V → Option V)
    (hs : ∀ (i : Nat) (x : V) (H' : Hp), xs[i]? = some x → Same H1 H' → ∀ (G : V → Hp → Prop) (N : Hp → Prop), (∀ y H'', F x = some y → Same H' H'' → G y H'') → (∀ H'', F x = none → Same H' H'' → N H'') →
      g x (wipe σ vs) H' fun σ2 H2 => wipe σ2 vs = wipe σ vs ∧ tt σ2 H2 fun b H3 => if b = true then te σ2 H3 G else N H3)
    (hd : ∀ H'', Same H1 (del H'' D) → H'' D = some (.lst (xs.filterMap F)) → Qd H'') :
    ∃ W : Nat → Nat → Hp → Prop, (∃ m, W 0 m (upd H1 D (.lst []))) ∧ ∀ i m H, W i m H →
      ((Itt K a).stop i H ∧ Qd H) ∨ ((Itt K a).go i H ∧ ∃ Nx : Hp → Prop, (∀ H', Nx H' → ∃ m', m' < m ∧ W (i + 1) m' H') ∧ ∀ x H', (Itt K a).yld i H x H' → g x (wipe σ vs) H' fun σ2 H2 => wipe σ2 vs = wipe σ vs ∧ tt σ2 H2 fun b H3 =>
        if b = true then te σ2 H3 fun y H4 => ∃ acc, H4 D = some (.lst acc) ∧ acc.length < sizeLine ∧ Nx (upd H4 D (.lst (acc ++ [y]))) else Nx H3) := by
  refine lc_tup (xs := xs) (fun i H' => Same H1 (del H' D) ∧ H' D = some (.lst ((xs.take i).filterMap F))) ⟨by rw [del_new hD]; exact Same.refl _, upd_same⟩ (fun i H' _ ⟨p1, p2⟩ => Same.tup (p1.trans (del_sub _ _)) hS) (fun i x H' hx ⟨p1, p2⟩ => ?_) (fun H' ⟨p1, p2⟩ => hd H' p1 (by rw [List.take_length] at p2; exact p2))
  have hi : i < xs.length := (List.getElem?_eq_some_iff.mp hx).1
  refine hs i x H' hx (p1.trans (del_sub _ _)) _ _ (fun y H'' e s => ⟨_, s _ _ p2, ?_, p1.trans (by rw [del_upd]; exact s.del2 D), ?_⟩) (fun H'' e s => ⟨p1.trans (s.del2 D), ?_⟩)
  · refine small_lt ?_
    have h1 := List.length_filterMap_le F (xs.take i)
    rw [List.length_take] at h1
    omega
  · rw [upd_same, filterMap_take F hx, e]
    rfl
  · rw [s _ _ p2, filterMap_take F hx, e]
    simp
/-- each turn gives a value of which P holds (P stays while the heap grows) -/
theorem lc_rangeP {lo : Int} {n : Nat} {g : TG} {tt : TT} {te : TE} {vs : List Nat} {σ : L2.St} {H1 : Hp} {D : Addr} {Qd : Hp → Prop} (hD : H1 D = none) (hn : n ≤ 50000) (P : Nat → V → Hp → Prop) (hP : ∀ i y H H', P i y H → Same H H' → P i y H')
    (hs : ∀ (i : Nat) (H' : Hp), i < n → Same H1 H' → ∀ (G : V → Hp → Prop) (N : Hp → Prop), (∀ y H'', P i y (del H'' D) → Same H' H'' → G y H'') →
      g (.int (lo + i)) (wipe σ vs) H' fun σ2 H2 => wipe σ2 vs = wipe σ vs ∧ tt σ2 H2 fun b H3 => if b = true then te σ2 H3 G else N H3)
    (hd : ∀ H'' ys, Same H1 (del H'' D) → H'' D = some (.lst ys) → ys.length = n → (∀ (i : Nat) y, ys[i]? = some y → P i y (del H'' D)) → Qd H'') :
    ∃ W : Nat → Nat → Hp → Prop, (∃ m, W 0 m (upd H1 D (.lst []))) ∧ ∀ i m H, W i m H →
      ((Itr lo n).stop i H ∧ Qd H) ∨ ((Itr lo n).go i H ∧ ∃ Nx : Hp → Prop, (∀ H', Nx H' → ∃ m', m' < m ∧ W (i + 1) m' H') ∧ ∀ x H', (Itr lo n).yld i H x H' → g x (wipe σ vs) H' fun σ2 H2 => wipe σ2 vs = wipe σ vs ∧ tt σ2 H2 fun b H3 =>
        if b = true then te σ2 H3 fun y H4 => ∃ acc, H4 D = some (.lst acc) ∧ acc.length < sizeLine ∧ Nx (upd H4 D (.lst (acc ++ [y]))) else Nx H3) := by
  refine lc_range (fun i H' => Same H1 (del H' D) ∧ ∃ ys, H' D = some (.lst ys) ∧ ys.length = i ∧ ∀ (j : Nat) y, ys[j]? = some y → P j y (del H' D)) ⟨by rw [del_new hD]; exact Same.refl _, [], upd_same, rfl, fun j y h => by simp at h⟩ (fun i H' hi ⟨p1, ys, p2, p3, p4⟩ => ?_) (fun H' ⟨p1, ys, p2, p3, p4⟩ => hd H' ys p1 p2 p3 p4)
  refine hs i H' hi (p1.trans (del_sub _ _)) _ _ (fun y H'' hy s => ⟨_, s _ _ p2, small_lt (by omega), p1.trans (by rw [del_upd]; exact s.del2 D), ys ++ [y], upd_same, by simp [p3], fun j z hz => ?_⟩)
  rw [del_upd]
  by_cases e : j < ys.length
  · rw [List.getElem?_append_left e] at hz
    exact hP _ _ _ _ (p4 j z hz) (s.del2 D)
  · rw [List.getElem?_append_right (by omega)] at hz
    have e0 : j - ys.length = 0 := by
      cases q : j - ys.length with
      | zero => rfl
      | succ m => rw [q] at hz; simp at hz
    rw [e0] at hz
    have ez : y = z := Option.some.inj hz
    have ej : j = i := by omega
    rw [← ez, ej]
    exact hy
theorem lc_listP {K : PySem.W.Frag} {a : Addr} {xs : List V} {g : TG} {tt : TT} {te : TE} {vs : List Nat} {σ : L2.St} {H1 : Hp} {D : Addr} {Qd : Hp → Prop} (hD : H1 D = none) (hS : SqL K H1 a xs) (hn : xs.length ≤ 50000) (P : Nat → V → Hp → Prop) (hP : ∀ i y H H', P i y H → Same H H' → P i y H')
    (hs : ∀ (i : Nat) (x : V) (H' : Hp), xs[i]? = some x → Same H1 H' → H' D ≠ none → ∀ (G : V → Hp → Prop) (N : Hp → Prop), (∀ y H'', P i y (del H'' D) → Same H' H'' → G y H'') →
      g x (wipe σ vs) H' fun σ2 H2 => wipe σ2 vs = wipe σ vs ∧ tt σ2 H2 fun b H3 => if b = true then te σ2 H3 G else N H3)
    (hd : ∀ H'' ys, Same H1 (del H'' D) → H'' D = some (.lst ys) → ys.length = xs.length → (∀ (i : Nat) y, ys[i]? = some y → P i y (del H'' D)) → Qd H'') :
    ∃ W : Nat → Nat → Hp → Prop, (∃ m, W 0 m (upd H1 D (.lst []))) ∧ ∀ i m H, W i m H →
      ((Itl K a).stop i H ∧ Qd H) ∨ ((Itl K a).go i H ∧ ∃ Nx : Hp → Prop, (∀ H', Nx H' → ∃ m', m' < m ∧ W (i + 1) m' H') ∧ ∀ x H', (Itl K a).yld i H x H' → g x (wipe σ vs) H' fun σ2 H2 => wipe σ2 vs = wipe σ vs ∧ tt σ2 H2 fun b H3 =>
        if b = true then te σ2 H3 fun y H4 => ∃ acc, H4 D = some (.lst acc) ∧ acc.length < sizeLine ∧ Nx (upd H4 D (.lst (acc ++ [y]))) else Nx H3) := by
  refine lc_list (xs := xs) (fun i H' => Same H1 (del H' D) ∧ ∃ ys, H' D = some (.lst ys) ∧ ys.length = i ∧ ∀ (j : Nat) y, ys[j]? = some y → P j y (del H' D)) ⟨by rw [del_new hD]; exact Same.refl _, [], upd_same, rfl, fun j y h => by simp at h⟩ (fun i H' _ ⟨p1, p2⟩ => (p1.trans (del_sub _ _)).seq hS) (fun i x H' hx ⟨p1, ys, p2, p3, p4⟩ => ?_) (fun H' ⟨p1, ys, p2, p3, p4⟩ => hd H' ys p1 p2 p3 p4)
  have hi : i < xs.length := (List.getElem?_eq_some_iff.mp hx).1
  refine hs i x H' hx (p1.trans (del_sub _ _)) (by rw [p2]; intro z; cases z) _ _ (fun y H'' hy s => ⟨_, s _ _ p2, small_lt (by omega), p1.trans (by rw [del_upd]; exact s.del2 D), ys ++ [y], upd_same, by simp [p3], fun j z hz => ?_⟩)
  rw [del_upd]
  by_cases e : j < ys.length
  · rw [List.getElem?_append_left e] at hz
    exact hP _ _ _ _ (p4 j z hz) (s.del2 D)
  · rw [List.getElem?_append_right (by omega)] at hz
    have e0 : j - ys.length = 0 := by
      cases q : j - ys.length with
      | zero => rfl
      | succ m => rw [q] at hz; simp at hz
    rw [e0] at hz
    have ez : y = z := Option.some.inj hz
    have ej : j = i := by omega
    rw [← ez, ej]
    exact hy

theorem fm_some {α β : Type} {f : α → β} {l : List α} : l.filterMap (fun k => some (f k)) = l.map f := by
  induction l with
  | nil => rfl
  | cons a r ih => rw [List.filterMap_cons, ih]; rfl
/-- the new objects that a comprehension has made so far, at addrs -/
structure News (H1 : Hp) (D : Addr) (obj : Nat → HO) (addrs : List Addr) (H' : Hp) : Prop where
  same : Same H1 (del H' D)
  lst : H' D = some (.lst (addrs.map V.ref))
  nd : addrs.Nodup
  old : ∀ p ∈ addrs, H1 p = none
  at_ : ∀ (j : Nat) (p : Addr), addrs[j]? = some p → del H' D p = some (obj j)
theorem News.snoc {H1 H' H'' : Hp} {D l : Addr} {obj : Nat → HO} {addrs : List Addr} (N : News H1 D obj addrs H') (hl : H' l = none) (s : Same H' H'') (e : H'' l = some (obj addrs.length)) :
    News H1 D obj (addrs ++ [l]) (upd H'' D (.lst (addrs.map V.ref ++ [.ref l]))) where
  same := by rw [del_upd]; exact N.same.trans (s.del2 D)
  lst := by rw [upd_same, List.map_append]; rfl
  nd := by
    refine List.nodup_append.mpr ⟨N.nd, by simp, fun a ha b hb => ?_⟩
    have eb : b = l := by simpa using hb
    rw [eb]
    intro e2
    obtain ⟨j, hj⟩ := List.mem_iff_getElem?.mp ha
    have := (del_get (N.at_ j a hj)).1
    rw [e2, hl] at this
    cases this
  old := fun p hp => by
    rcases List.mem_append.mp hp with h | h
    · exact N.old p h
    · have ep : p = l := by simpa using h
      rw [ep]
      cases q : H1 l with
      | none => rfl
      | some o =>
        have := (del_get (N.same l o q)).1
        rw [hl] at this
        cases this
  at_ := fun j p hj => by
    rw [del_upd]
    by_cases c : j < addrs.length
    · rw [List.getElem?_append_left c] at hj
      exact s.del2 D _ _ (N.at_ j p hj)
    · have hjl : j < (addrs ++ [l]).length := (List.getElem?_eq_some_iff.mp hj).1
      rw [List.length_append, List.length_singleton] at hjl
      have ej : j = addrs.length := by omega
      rw [ej, List.getElem?_append_right (Nat.le_refl _), Nat.sub_self] at hj
      have ep : l = p := Option.some.inj hj
      have nlD : l ≠ D := fun z => by rw [z, N.lst] at hl; cases hl
      rw [← ep, del_ne nlD, e, ej]
theorem News.nil {H1 : Hp} {D : Addr} {obj : Nat → HO} (hD : H1 D = none) : News H1 D obj [] (upd H1 D (.lst [])) where
  same := by rw [del_new hD]; exact Same.refl _
  lst := upd_same
  nd := List.nodup_nil
  old := fun p hp => by simp at hp
  at_ := fun j p h => by simp at h
/-- each turn makes one new object -/
theorem lc_rangeN {lo : Int} {n : Nat} {g : TG} {tt : TT} {te : TE} {vs : List Nat} {σ : L2.St} {H1 : Hp} {D : Addr} {Qd : Hp → Prop} (hD : H1 D = none) (hn : n ≤ 50000) (obj : Nat → HO)
    (hs : ∀ (i : Nat) (H' : Hp), i < n → Same H1 H' → ∀ (G : V → Hp → Prop) (N : Hp → Prop), (∀ l H'', H' l = none → Same H' H'' → H'' l = some (obj i) → G (.ref l) H'') →
      g (.int (lo + i)) (wipe σ vs) H' fun σ2 H2 => wipe σ2 vs = wipe σ vs ∧ tt σ2 H2 fun b H3 => if b = true then te σ2 H3 G else N H3)
    (hd : ∀ H'' addrs, addrs.length = n → News H1 D obj addrs H'' → Qd H'') :
    ∃ W : Nat → Nat → Hp → Prop, (∃ m, W 0 m (upd H1 D (.lst []))) ∧ ∀ i m H, W i m H →
      ((Itr lo n).stop i H ∧ Qd H) ∨ ((Itr lo n).go i H ∧ ∃ Nx : Hp → Prop, (∀ H', Nx H' → ∃ m', m' < m ∧ W (i + 1) m' H') ∧ ∀ x H', (Itr lo n).yld i H x H' → g x (wipe σ vs) H' fun σ2 H2 => wipe σ2 vs = wipe σ vs ∧ tt σ2 H2 fun b H3 =>
        if b = true then te σ2 H3 fun y H4 => ∃ acc, H4 D = some (.lst acc) ∧ acc.length < sizeLine ∧ Nx (upd H4 D (.lst (acc ++ [y]))) else Nx H3) := by
  refine lc_range (fun i H' => ∃ addrs : List Addr, addrs.length = i ∧ News H1 D obj addrs H') ⟨[], rfl, News.nil hD⟩ (fun i H' hi ⟨addrs, hl, N⟩ => ?_) (fun H' ⟨addrs, hl, N⟩ => hd H' addrs hl N)
  refine hs i H' hi (N.same.trans (del_sub _ _)) _ _ (fun l H'' h1 s e => ⟨_, s _ _ N.lst, small_lt (by rw [List.length_map]; omega), addrs ++ [l], by simp [hl], N.snoc h1 s (by rw [hl]; exact e)⟩)
theorem lc_listN {K : PySem.W.Frag} {a : Addr} {xs : List V} {g : TG} {tt : TT} {te : TE} {vs : List Nat} {σ : L2.St} {H1 : Hp} {D : Addr} {Qd : Hp → Prop} (hD : H1 D = none) (hS : SqL K H1 a xs) (hn : xs.length ≤ 50000) (obj : Nat → HO)
    (hs : ∀ (i : Nat) (x : V) (H' : Hp), xs[i]? = some x → Same H1 H' → ∀ (G : V → Hp → Prop) (N : Hp → Prop), (∀ l H'', H' l = none → Same H' H'' → H'' l = some (obj i) → G (.ref l) H'') →
      g x (wipe σ vs) H' fun σ2 H2 => wipe σ2 vs = wipe σ vs ∧ tt σ2 H2 fun b H3 => if b = true then te σ2 H3 G else N H3)
    (hd : ∀ H'' addrs, addrs.length = xs.length → News H1 D obj addrs H'' → Qd H'') :
    ∃ W : Nat → Nat → Hp → Prop, (∃ m, W 0 m (upd H1 D (.lst []))) ∧ ∀ i m H, W i m H →
      ((Itl K a).stop i H ∧ Qd H) ∨ ((Itl K a).go i H ∧ ∃ Nx : Hp → Prop, (∀ H', Nx H' → ∃ m', m' < m ∧ W (i + 1) m' H') ∧ ∀ x H', (Itl K a).yld i H x H' → g x (wipe σ vs) H' fun σ2 H2 => wipe σ2 vs = wipe σ vs ∧ tt σ2 H2 fun b H3 =>
        if b = true then te σ2 H3 fun y H4 => ∃ acc, H4 D = some (.lst acc) ∧ acc.length < sizeLine ∧ Nx (upd H4 D (.lst (acc ++ [y]))) else Nx H3) := by
  refine lc_list (xs := xs) (fun i H' => ∃ addrs : List Addr, addrs.length = i ∧ News H1 D obj addrs H') ⟨[], rfl, News.nil hD⟩ (fun i H' _ ⟨addrs, hl, N⟩ => (N.same.trans (del_sub _ _)).seq hS) (fun i x H' hx ⟨addrs, hl, N⟩ => ?_) (fun H' ⟨addrs, hl, N⟩ => hd H' addrs hl N)
  have hi : i < xs.length := (List.getElem?_eq_some_iff.mp hx).1
  refine hs i x H' hx (N.same.trans (del_sub _ _)) _ _ (fun l H'' h1 s e => ⟨_, s _ _ N.lst, small_lt (by rw [List.length_map]; omega), addrs ++ [l], by simp [hl], N.snoc h1 s (by rw [hl]; exact e)⟩)

/-! ### data to be compared -/
mutual
theorem Dp.same {K : PySem.W.Frag} {H H' : Hp} (s : Same H H') : ∀ (d : PyData) (v : V), Dp K H v d → Dp K H' v d
  | .none, _, h => by cases h; exact .non
  | .bool b, _, h => by cases h; exact .bl b
  | .int i, _, h => by cases h; exact .int i
  | .str x, _, h => by cases h; exact .str x
  | .list ds, _, h => by
    cases h with
    | lst hs ha => exact .lst (s.seq hs) (DpAll.same s ds _ ha)
  | .tuple ds, _, h => by
    cases h with
    | tup hs ha => exact .tup (Same.tup s hs) (DpAll.same s ds _ ha)
  | .dict _, _, h => by cases h
theorem DpAll.same {K : PySem.W.Frag} {H H' : Hp} (s : Same H H') : ∀ (ds : List PyData) (vs : List V), DpAll K H vs ds → DpAll K H' vs ds
  | [], _, h => by cases h; exact .nil
  | d :: ds, _, h => by
    cases h with
    | cons h1 h2 => exact .cons (Dp.same s d _ h1) (DpAll.same s ds _ h2)
end
/-- shaped, and no deeper than n -/
def Shp (n : Nat) (d : PyData) : Prop := d.canLay0 = true ∧ d.depth ≤ n
theorem Shp.all {n : Nat} : ∀ {ds : List PyData}, (∀ d ∈ ds, Shp n d) → PyData.canLayAll0 ds = true ∧ PyData.depthAll ds ≤ n
  | [], _ => ⟨rfl, Nat.zero_le _⟩
  | d :: ds, h => by
    obtain ⟨h1, h2⟩ := h d List.mem_cons_self
    obtain ⟨h3, h4⟩ := Shp.all (ds := ds) fun x hx => h x (List.mem_cons_of_mem _ hx)
    refine ⟨?_, ?_⟩
    · show (d.canLay0 && PyData.canLayAll0 ds) = true
      rw [h1, h3]
      rfl
    · show max d.depth (PyData.depthAll ds) ≤ n
      omega
theorem Shp.list {n : Nat} {ds : List PyData} (h : ∀ d ∈ ds, Shp n d) : Shp (n + 1) (.list ds) := by
  obtain ⟨h1, h2⟩ := Shp.all h
  exact ⟨h1, Nat.succ_le_succ h2⟩
theorem Shp.tuple {n : Nat} {ds : List PyData} (h : ∀ d ∈ ds, Shp n d) : Shp (n + 1) (.tuple ds) := by
  obtain ⟨h1, h2⟩ := Shp.all h
  exact ⟨h1, Nat.succ_le_succ h2⟩
theorem Shp.int (n : Nat) (i : Int) : Shp n (.int i) := ⟨rfl, Nat.zero_le _⟩
theorem Shp.non (n : Nat) : Shp n .none := ⟨rfl, Nat.zero_le _⟩
theorem Shp.ok {n : Nat} {d : PyData} (h : Shp n d) (hn : n ≤ 64) : SeqAt.shaped d = true := by
  unfold SeqAt.shaped
  rw [h.1, decide_eq_true (Nat.le_trans h.2 hn)]
  rfl
theorem Shp.refl {n : Nat} {d : PyData} (h : Shp n d) : PyData.eqv d d = true := SeqAt.eqv_refl d h.1
theorem dpAll_ints {K : PySem.W.Frag} {H : Hp} : ∀ ns : List Int, DpAll K H (ns.map V.int) (ns.map PyData.int)
  | [] => .nil
  | n :: r => .cons (.int n) (dpAll_ints r)
theorem dp_ints {K : PySem.W.Frag} {H : Hp} {a : Addr} {ns : List Int} (h : SqL K H a (ns.map V.int)) : Dp K H (.ref a) (.list (ns.map PyData.int)) := .lst h (dpAll_ints ns)
theorem shp_ints (ns : List Int) : Shp 1 (.list (ns.map PyData.int)) := Shp.list fun d hd => by
  obtain ⟨i, _, rfl⟩ := List.mem_map.mp hd
  exact Shp.int 0 i
/-- == of equal data, as the reading of op_eqD, op_neD wants it -/
def rEqH (K : PySem.W.Frag) : R2 := fun x y H Q => Hold (rEqD K x y H Q)
def rNeH (K : PySem.W.Frag) : R2 := fun x y H Q => Hold (rNeD K x y H Q)
theorem op_eqH {X : Cx} (hu : X.A.units + 64 < cLine) : OpR X (compareOp .Eq) (rEqH X.K) := fun pins s σ H x y v u Q I rx ry h => op_eqD hu pins s σ H x y v u Q I rx ry h.h
theorem op_neH {X : Cx} (hu : X.A.units + 64 < cLine) : OpR X (compareOp .NotEq) (rNeH X.K) := fun pins s σ H x y v u Q I rx ry h => op_neD hu pins s σ H x y v u Q I rx ry h.h
theorem eqD_yes {K : PySem.W.Frag} {H : Hp} {x y : V} {d : PyData} {n : Nat} {Q : VK} (h1 : Dp K H x d) (h2 : Dp K H y d) (hs : Shp n d) (hn : n ≤ 64) (q : Q (.bl true) H) : rEqH K x y H Q :=
  .mk ⟨d, d, h1, h2, hs.ok hn, hs.ok hn, by rw [hs.refl]; exact q⟩
theorem neD_no {K : PySem.W.Frag} {H : Hp} {x y : V} {d : PyData} {n : Nat} {Q : VK} (h1 : Dp K H x d) (h2 : Dp K H y d) (hs : Shp n d) (hn : n ≤ 64) (q : Q (.bl false) H) : rNeH K x y H Q :=
  .mk ⟨d, d, h1, h2, hs.ok hn, hs.ok hn, by rw [hs.refl]; exact q⟩
/-! ### isinstance -/
theorem isi_yes {K : PySem.W.Frag} {H : Hp} {x : V} {T : String} {Q : VK} (h : TyOf K H x (.type T)) (hk : kitB T T = some true) (q : Q (.bl true) H) : rIsH K [x, .ty T] H Q :=
  .mk ⟨x, .ty T, .type T, .type T, true, rfl, .ty T, .base h, kit_ty hk, q⟩
theorem isi_no {K : PySem.W.Frag} {H : Hp} {x : V} {T U : String} {Q : VK} (h : TyOf K H x (.type T)) (hk : kitB T U = some false) (q : Q (.bl false) H) : rIsH K [x, .ty U] H Q :=
  .mk ⟨x, .ty U, .type T, .type U, false, rfl, .ty U, .base h, kit_ty hk, q⟩
theorem kb_int : kitB "int" "int" = some true := by decide +kernel
theorem kb_intbool : kitB "int" "bool" = some false := by decide +kernel
theorem kb_list : kitB "list" "list" = some true := by decide +kernel
theorem kb_tuple : kitB "tuple" "tuple" = some true := by decide +kernel
/-- a loop over enumerate(a list) -/
theorem for_enumL {K : PySem.W.Frag} {a : Addr} {xs : List V} {g : TG} {tb : TS} {D : Ends} {σ : L2.St} {H : Hp} (Pv : Nat → L2.St → Hp → Prop) (h0 : Pv 0 σ H) (hl : ∀ i σ H, i ≤ xs.length → Pv i σ H → SqL K H a xs)
    (hs : ∀ (i : Nat) (x : V) (σ : L2.St) (H : Hp) (T : Addr), xs[i]? = some x → Pv i σ H → H T = none → g (.ref T) σ (upd H T (.tup [.int (i : Nat), x])) fun σ2 H2 => tb { D with nx := Pv (i + 1), ct := Pv (i + 1), bk := D.nx } σ2 H2) (hd : ∀ σ H, Pv xs.length σ H → D.nx σ H) :
    ∃ W : Nat → Nat → L2.St → Hp → Prop, (∃ m, W 0 m σ H) ∧ ∀ i m σ H, W i m σ H →
      ((Ite K a).stop i H ∧ D.nx σ H) ∨ ((Ite K a).go i H ∧ ∃ N : L2.St → Hp → Prop, (∀ σ' H', N σ' H' → ∃ m', m' < m ∧ W (i + 1) m' σ' H') ∧ ∀ v H', (Ite K a).yld i H v H' → g v σ H' fun σ2 H2 => tb { D with nx := N, ct := N, bk := D.nx } σ2 H2) := by
  refine ⟨fun i m σ H => m = xs.length - i ∧ i ≤ xs.length ∧ Pv i σ H, ⟨xs.length, rfl, Nat.zero_le _, h0⟩, ?_⟩
  rintro i m σ H ⟨rfl, hi, p⟩
  have q := hl i σ H hi p
  by_cases c : i < xs.length
  · refine .inr ⟨⟨xs, xs[i], q, List.getElem?_eq_getElem c⟩, Pv (i + 1), fun σ' H' p' => ⟨xs.length - (i + 1), by omega, rfl, c, p'⟩, ?_⟩
    rintro v H' ⟨T, x, rfl, nT, rfl, hx⟩
    exact hs i x σ H T (hx xs q) p nT
  · have e : i = xs.length := by omega
    subst e
    exact .inl ⟨⟨xs, q, Nat.le_refl _⟩, hd σ H p⟩
theorem pe_gc {X : Cx} {x : Str} {pos : Pos} {v : V} (hg : Gl X x) (h : ∃ u, X.mg x = some u ∧ RelV v u) (hd : (x == ("__debug__" : Str)) = false := by decide) : PE X (.Name x pos) (tC v) := by
  obtain ⟨u, hm, r⟩ := h
  exact pe_glob hg hm r hd
theorem glob_int {mg : Str → Option Value} {x : Str} {i : Int} (h : ∃ t, mg x = some (.int i t)) : ∃ u, mg x = some u ∧ RelV (.int i) u := let ⟨t, e⟩ := h; ⟨_, e, t, rfl⟩
theorem cx_none {P : Program} {w : World} {H : Hp} {s s' : Shared} {e : Value} (z : L2.CX P w [] H s (fun _ _ _ => False) e s') : False := by
  obtain ⟨_, _, _, _, _, _, _, _, _, _, _, _, z⟩ := z
  exact z
/-! ### list.insert -/
def rInsert : V → List V → Hp → VK → Prop := fun x vs H Q => ∃ (l : Addr) (xs : List V) (i : Int) (y : V), x = .ref l ∧ vs = [.int i, y] ∧ H l = some (.lst xs) ∧ xs.length < sizeLine ∧ 0 ≤ i ∧ i < 2 ^ 63 ∧ Q .non (upd H l (.lst (xs.take i.toNat ++ [y] ++ xs.drop i.toNat)))
theorem mt_ins {X : Cx} : MtR X "list.insert" rInsert := mt_insert

/-! ### a caught exception's suite, isinstance of it -/
/-- the suite's word, where the exception is of an own class without attributes of its own -/
def tExc (K : PySem.W.Frag) (cls : Value) (d : Option Addr) (t : Addr → TS) : TS := fun D σ H => Hold (∃ C, cls = .ref C ∧ d = none ∧ ExcC K C ∧ t C D σ H)
theorem pss_exc {X : Cx} {cls : Value} {d : Option Addr} {ss : List Stmt} {t : Addr → TS} (h : ∀ C, cls = .ref C → d = none → ExcC X.K C → PSs X ss (t C)) : PSs X ss (tExc X.K cls d t) :=
  ⟨fun pins s σ H D I q => let ⟨C, e1, e2, c, q⟩ := q.h; (h C e1 e2 c).run pins s σ H D I q⟩
def rIsEH (K : PySem.W.Frag) (C a : Addr) : List V → Hp → VK → Prop := fun xs H Q => Hold (rIsE K C a xs H Q)
theorem call_isEH {X : Cx} {a : Addr} {C : Addr} {cls : Value} {d : Option Addr} {oe : Obj} {pn : List (Addr × Obj)} (hC : ExcC X.K C) (e1 : cls = .ref C) (e2 : d = none) (hz : Zc cls d oe) (hf : ∃ vs, oe.data = .fields vs) : CallR (X.suite a ((a, oe) :: pn)) (.builtin "isinstance") (rIsEH X.K C a) :=
  fun pins s σ H xs us Q I r h => call_isE hC (by rw [← e1, ← e2]; exact hz) hf pins s σ H xs us Q I r h.h
theorem isE_own {K : PySem.W.Frag} {C a c : Addr} {b : Bool} {H : Hp} {Q : VK} (h : PySem.W.kitOne K (.ref C) (.ref c) = some b) (q : Q (.bl b) H) : rIsEH K C a [.ref a, .ref c] H Q := .mk ⟨_, .ref c, b, rfl, fun _ r => r, h, q⟩
theorem isE_ty {K : PySem.W.Frag} {C a : Addr} {c : String} {b : Bool} {H : Hp} {Q : VK} (h : PySem.W.kitOne K (.ref C) (.type c) = some b) (q : Q (.bl b) H) : rIsEH K C a [.ref a, .ty c] H Q := .mk ⟨_, .type c, b, rfl, fun _ r => r, h, q⟩
def tTryAs (K : PySem.W.Frag) (c : Value) (i : Nat) (tb : WX → TS) (ts : Addr → Addr → TS) : TS := fun D σ H => tb (wAs K c i (fun a cls d => tExc K cls d (fun C => ts a C)) (fun _ _ _ _ => False) D) D σ H
/-- what is known of a class by its written part -/
structure ClsE (K : PySem.W.Frag) (C : Addr) : Prop where
  bx : PySem.W.subIn K (.ref C) (.type "BaseException") = some true
  hd : PySem.W.hasDictIn K C = true
  ty : PySem.W.typeIn K (.ref C) = some (.type "type")
theorem kit_own {K : PySem.W.Frag} {C D : Addr} {b : Bool} (c : ClsE K C) (h : PySem.W.subIn K (.ref D) (.ref C) = some b) (hs : PySem.W.subIn K (.ref D) (.ref D) = some true) : PySem.W.kitOne K (.ref D) (.ref C) = some b := by
  obtain ⟨cd, hc, _⟩ := PySem.W.any_some c.hd
  unfold PySem.W.kitOne
  by_cases e : D = C
  · subst e
    rw [hs] at h
    rw [if_pos (beq_iff_eq.mpr rfl)]
    exact h
  · rw [if_neg (fun z => e (Value.ref.inj (beq_iff_eq.mp z)))]
    show (if ((PySem.W.clsIn K C).isSome && PySem.W.typeIn K (.ref C) == some (.type "type")) = true then PySem.W.subIn K (.ref D) (.ref C) else none) = some b
    have e3 : ((PySem.W.clsIn K C).isSome && PySem.W.typeIn K (.ref C) == some (.type "type")) = true := by
      rw [hc, c.ty]
      exact beq_self_eq_true (some (Value.type "type"))
    rw [if_pos e3]
    exact h
theorem kit_type {K : PySem.W.Frag} {D : Addr} {T : String} {b : Bool} (hm : PySem.W.kitMeta T = true) (h : PySem.W.subIn K (.ref D) (.type T) = some b) : PySem.W.kitOne K (.ref D) (.type T) = some b := by
  unfold PySem.W.kitOne
  rw [if_neg (fun z => by have := beq_iff_eq.mp z; cases this)]
  show (if PySem.W.kitMeta T = true then PySem.W.subIn K (.ref D) (.type T) else none) = some b
  rw [if_pos hm]
  exact h
theorem meta_ve : PySem.W.kitMeta "ValueError" = true := by decide +kernel
/-- an except clause that meets an exception -/
theorem was {K : PySem.W.Frag} {C c : Addr} {i : Nat} {t : Addr → Addr → TS} {Wout : WX} {D : Ends} {σ : L2.St} {H : Hp} (hx : PySem.W.exmOne K (.ref C) (.ref c) = some true) (hC : ExcC K C)
    (q : ∀ a, H a = none → t a C { nx := fun σ' H' => D.nx (σ'.set i none) H', rt := D.rt, bk := fun σ' H' => D.bk (σ'.set i none) H', ct := fun σ' H' => D.ct (σ'.set i none) H' } (σ.set i (some (.ref a))) H) :
    wAs K (.ref c) i (fun a cls d => tExc K cls d (t a)) Wout D (.ref C) none σ H := ⟨true, hx, fun _ a ha => .mk ⟨C, rfl, rfl, hC, q a ha⟩, fun z => nomatch z⟩
/-! ### x not in a list of data -/
def rNotInH (K : PySem.W.Frag) : R2 := fun x y H Q => Hold (rNotInD K x y H Q)
theorem op_notInH {X : Cx} (hu : X.A.units + 65 < cLine) : OpR X (compareOp .NotIn) (rNotInH X.K) := fun pins s σ H x y v u Q I rx ry h => op_notInD hu pins s σ H x y v u Q I rx ry h.h
theorem notIn_no {K : PySem.W.Frag} {H : Hp} {x y : V} {d : PyData} {ds : List PyData} {n m : Nat} {Q : VK} (h1 : Dp K H x d) (h2 : Dp K H y (.list ds)) (s1 : Shp n d) (s2 : Shp m (.list ds)) (hn : n ≤ 64) (hm : m ≤ 64) (mem : d ∈ ds) (q : Q (.bl false) H) : rNotInH K x y H Q := .mk ⟨d, ds, h1, h2, s1.ok hn, s2.ok hm, by
  have e : (ds.any fun z => PyData.eqv z d) = true := List.any_eq_true.mpr ⟨d, mem, s1.refl⟩
  rw [e]
  exact q⟩
theorem notIn_any {K : PySem.W.Frag} {H : Hp} {x y : V} {d : PyData} {ds : List PyData} {n m : Nat} {Q : VK} (h1 : Dp K H x d) (h2 : Dp K H y (.list ds)) (s1 : Shp n d) (s2 : Shp m (.list ds)) (hn : n ≤ 64) (hm : m ≤ 64) (q : ∀ b, Q (.bl b) H) : rNotInH K x y H Q := .mk ⟨d, ds, h1, h2, s1.ok hn, s2.ok hm, q _⟩

/-! ### o.m(..) in a try's body -/
def tMethS (C : Addr) (m : Str) (sp : Sp) (E : L2.St → XK) (to : TE) (t : TA) : TE := fun σ H Q => to σ H fun x H1 => ∃ (a dx : Addr) (fs : List (Str × V)), x = .ref a ∧ H1 a = some (.ins C dx fs) ∧ fs.lookup m = none ∧ t σ H1 fun vs H2 => sp (.ref a :: vs) H2 Q (E σ)
theorem pe_methS {X : Cx} {CX : CXT} {k : Nat} {f C : Addr} {fd : FuncData} {ps : List Str} {sp : Sp} {E : L2.St → XK} {m : Str} {pos apos : Pos} {e1 o : Expr} {es : List Expr} {to : TE} {t : TA} {pl : Sem Bool}
    (ho : PE X o to) (c : Cls X.K C) (hm : Meth X.K C m f) (F : FnOk X.prog X.w X.K X.mg X.base CX k f fd ps sp)
    (hr : Room k X.A) (hb : Binds X.K fd ps []) (hx : ∀ σ, PassesAt CX X σ (E σ)) (ha : PA X (e1 :: es) t)
    (hs : starEach (e1 :: es) X.env = (false, eval e1 X.env) :: starEach es X.env := by rfl)
    (hl : (backTo pos (starEach es X.env)).any (·.1) = false := by rfl)
    (he : eval (.Call (.Attribute o m apos) (e1 :: es) [] pos) X.env = (do
      let v ← eval o X.env
      standAt apos.atName
      let (g, first) ← holding [v] (getMethod v m pl)
      callWith pos g first (backTo pos (starEach (e1 :: es) X.env)) (backToKw pos (keywordEach [] X.env))) := by rfl) :
    PE X (.Call (.Attribute o m apos) (e1 :: es) [] pos) (tMethS C m sp E to t) := by
  refine ⟨fun pins s σ H Q I h => ?_⟩
  refine PySem.W.methodCall_KW (pl := pl) (thn (ho.run pins s σ H _ I h) fun u s1 ⟨x, H1, I1, rx, a, dx, fs, ex, ea, l, q⟩ => ?_) he
  subst ex
  cases (show u = Value.ref a from rx)
  refine getmeth_ok I1 ea c hm l ?_
  refine PySem.W.callWith_K (first := [.ref a]) (h₀ := X.base) I.ok.mod.kin hm.kp (thn (ha.run pos pins s1 σ H1 _ I1 q) fun us s2 ⟨vs, H2, I2, r, q2⟩ => ⟨I2.kIn, ?_⟩) hs hl
  exact run_fnS (us := .ref a :: us) (vs := .ref a :: vs) F hr hb (hx σ) I2 (.cons rfl r) q2
end FW

local macro_rules | `(tactic| walk_at "ne") => `(tactic| first
  | (assumption)
  | (refine' FW.ne_sym ?_; assumption)
  | (refine' L2.ne_of_none ?ka ?kb; (case kb => assumption); (case ka => walk_at "hf"))
  | (refine' FW.ne_sym (L2.ne_of_none ?ka ?kb); (case kb => assumption); (case ka => walk_at "hf"))
  | (refine' L2.ne_of ?ka ?kb ?kc; (case ka => walk_at "hf"); (case kb => walk_at "hf"); (case kc => (intro z; cases z)))
  | (fail "ne"))
local macro_rules | `(tactic| walk_at "hf") => `(tactic| first
  | (assumption)
  | (exact L2.upd_same)
  | (refine' FW.upd_other ?ka ?kb; (case kb => walk_at "hf"); (case ka => walk_at "ne"))
  | (refine' (by assumption : L2.Same _ _) _ _ ?kc; (case kc => walk_at "hf"))
  | (fail "hf"))
local macro_rules | `(tactic| walk_at "sq") => `(tactic| first
  | (assumption)
  | (refine' L2.SqL.of ?ka; (case ka => walk_at "hf"))
  | (refine' FW.sq_new ?ka ?kb; (case ka => assumption); (case kb => walk_at "sq"))
  | (refine' FW.sq_ins ?ka ?kb; (case ka => walk_at "hf"); (case kb => walk_at "sq"))
  | (refine' FW.sq_ne ?ka ?kb; (case ka => walk_at "ne"); (case kb => walk_at "sq"))
  | (refine' L2.Same.seq (by assumption) ?kc; (case kc => walk_at "sq"))
  | (fail "sq"))
local macro_rules | `(tactic| walk_at "st") => `(tactic| first
  | (assumption)
  | (refine' L2.SqT.of ?ka; (case ka => walk_at "hf"))
  | (refine' FW.st_new ?ka ?kb; (case ka => assumption); (case kb => walk_at "st"))
  | (refine' FW.st_lst ?ka ?kb; (case ka => walk_at "hf"); (case kb => walk_at "st"))
  | (refine' FW.st_ins ?ka ?kb; (case ka => walk_at "hf"); (case kb => walk_at "st"))
  | (refine' FW.st_ne ?ka ?kb; (case ka => walk_at "ne"); (case kb => walk_at "st"))
  | (refine' L2.Same.tup (by assumption) ?kc; (case kc => walk_at "st"))
  | (fail "st"))
local macro_rules | `(tactic| walk_at "side") => `(tactic| first
  | (assumption)
  | (exact rfl)
  | (show L2.SqL _ _ _ _; walk_at "sq")
  | (show L2.SqT _ _ _ _; walk_at "st")
  | (show _ ∨ _; first | (refine' Or.inl ?_; walk_at "sq") | (refine' Or.inr ?_; walk_at "st"))
  | (show L2.tyV _ _ _ _; refine' Or.inl (And.intro rfl ?_); apply Exists.intro; walk_at "sq")
  | (show L2.TruV _ (L2.V.ref _) _ _; first | (refine' Or.inl ?_; apply Exists.intro; refine' And.intro ?kq rfl; (case kq => walk_at "sq")) | (refine' Or.inr (Or.inl ?_); apply Exists.intro; refine' And.intro ?kq rfl; (case kq => walk_at "st")))
  | ((with_reducible show _ = some _); walk_at "hf")
  | (apply Exists.intro; first | walk_at "sq" | walk_at "st")
  | ((with_reducible show L2.CPow _ _); exact ⟨by decide, by decide, by decide⟩)
  | ((with_reducible show L2.CDiv _ _); exact ⟨by omega, by omega⟩)
  | ((with_reducible show L2.CMul _ _); first | (exact Or.inr ⟨by omega, by omega⟩) | (exact Or.inl ⟨by omega, by omega⟩))
  | (exact FW.putF_1)
  | (exact FW.putF_2)
  | (decide)
  | (omega)
  | (dsimp only; omega)
  | (dsimp only; decide)
  | (simp only [List.length_cons, List.length_nil, List.length_append, List.length_map, List.length_set, List.length_range]; omega)
  | (refine' FW.small_le ?_; (try simp only [List.length_cons, List.length_nil, List.length_append, List.length_map]); omega)
  | (refine' FW.small_lt ?_; (try simp only [List.length_cons, List.length_nil, List.length_append, List.length_map]); omega))
local macro_rules | `(tactic| walk_at "rd1") => `(tactic| first
  | ((fail_if_success (show ∃ W : Nat → _, _)); apply Exists.intro)
  | (refine And.intro ?ks ?_; (case ks => walk_at "side"))
  | (refine FW.ite_dT ?ks ?_; (case ks => first | (assumption) | (exact rfl) | (omega) | (simp only [List.length_cons, List.length_nil]; omega)))
  | (refine FW.ite_dF ?ks ?_; (case ks => first | (assumption) | (intro z; cases z; done) | (omega) | (simp only [List.length_cons, List.length_nil]; omega)))
  | (refine FW.ite_nT ?ks ?_; (case ks => first | (assumption) | (intro z; cases z; done) | (omega) | (simp only [List.length_cons, List.length_nil]; omega)))
  | (refine FW.ite_nF ?ks ?_; (case ks => first | (assumption) | (exact rfl) | (omega) | (simp only [List.length_cons, List.length_nil]; omega)))
  | (refine L2.iteT ?_)
  | (refine L2.iteF ?_)
  | (refine FW.isi_yes (L2.TyOf.int _) FW.kb_int ?_)
  | (refine FW.isi_no (L2.TyOf.int _) FW.kb_intbool ?_)
  | (refine' FW.isi_yes (L2.TyOf.tup ?ks) FW.kb_tuple ?_; (case ks => walk_at "hf"))
  | (refine' FW.isi_yes (L2.TyOf.lst ?ks) FW.kb_list ?_; (case ks => walk_at "hf"))
  | (refine' FW.isE_own ?ks ?_; (case ks => assumption))
  | (refine' FW.isE_ty ?ks ?_; (case ks => assumption)))
local macro_rules | `(tactic| walk_at "rd") => `(tactic| repeat (walk_at "rd1"))
local macro_rules | `(tactic| walk_at "len") => `(tactic| (intro vs H Q E h; repeat (first | (obtain ⟨e, _⟩ := h; subst e; rfl) | (obtain ⟨_, h⟩ := h))))
/-! Prices: what the defs of fareweb/prices.py promise. -/
namespace FW
open PySem PySem.Spec PyProof.Rows L2

/-- the classes' addresses -/
structure Ad where
  c_FareError : Addr
  c_BadLink : Addr
  c_BadStop : Addr
  c_NoWay : Addr
  c_BadPrices : Addr
  c_BadZones : Addr
  c_PastDay : Addr
  c_Tariff : Addr
  c_Web : Addr
  c_Ledger : Addr

/-- the least of a list -/
def lowL : List Int → Int
  | [] => 0
  | [a] => a
  | a :: b :: r => min a (lowL (b :: r))
theorem lowL_le : ∀ {l : List Int} {x : Int}, x ∈ l → lowL l ≤ x
  | [], _, h => by simp at h
  | [a], x, h => by
    have e : x = a := by simpa using h
    subst e
    exact Int.le_refl _
  | a :: b :: r, x, h => by
    show min a (lowL (b :: r)) ≤ x
    rcases List.mem_cons.mp h with e | h
    · subst e
      omega
    · have := lowL_le (l := b :: r) h
      omega
theorem lowL_mem : ∀ {l : List Int}, l ≠ [] → lowL l ∈ l
  | [], h => absurd rfl h
  | [a], _ => by simp [lowL]
  | a :: b :: r, _ => by
    have ih := lowL_mem (l := b :: r) (by simp)
    show min a (lowL (b :: r)) ∈ _
    by_cases c : a ≤ lowL (b :: r)
    · rw [Int.min_eq_left c]
      exact List.mem_cons_self
    · rw [Int.min_eq_right (by omega)]
      exact List.mem_cons_of_mem _ ih
theorem lowL_is {l : List Int} {m : Int} (h : m ∈ l) (hl : ∀ x ∈ l, m ≤ x) : lowL l = m := by
  have h1 := lowL_le h
  have h2 := hl _ (lowL_mem (by intro e; rw [e] at h; cases h))
  omega
/-- the price at k in a row (from one) -/
def pr (row : List Int) (k : Int) : Int := row.getD (k - 1).toNat 0
/-- the least price for so many zones or more -/
def low (row : List Int) (z : Int) : Int := lowL (row.drop (z - 1).toNat)
theorem pr_mem {row : List Int} {z k : Int} (h1 : 1 ≤ z) (h2 : z ≤ k) (h3 : k ≤ row.length) : pr row k ∈ row.drop (z - 1).toNat := by
  have hk : (k - 1).toNat < row.length := by omega
  unfold pr
  rw [List.getD_eq_getElem?_getD, List.getElem?_eq_getElem hk]
  refine List.mem_iff_getElem?.mpr ⟨(k - 1).toNat - (z - 1).toNat, ?_⟩
  rw [List.getElem?_drop]
  have e : (z - 1).toNat + ((k - 1).toNat - (z - 1).toNat) = (k - 1).toNat := by omega
  rw [e, List.getElem?_eq_getElem hk]
  rfl
theorem mem_pr {row : List Int} {z x : Int} (h1 : 1 ≤ z) (h : x ∈ row.drop (z - 1).toNat) : ∃ k : Int, z ≤ k ∧ k ≤ row.length ∧ pr row k = x := by
  obtain ⟨i, hi⟩ := List.mem_iff_getElem?.mp h
  rw [List.getElem?_drop] at hi
  obtain ⟨hlt, e⟩ := List.getElem?_eq_some_iff.mp hi
  refine ⟨z + i, by omega, by omega, ?_⟩
  unfold pr
  have e2 : (z + (i : Int) - 1).toNat = (z - 1).toNat + i := by omega
  rw [e2, List.getD_eq_getElem?_getD, hi]
  rfl
theorem low_le {row : List Int} {z k : Int} (h1 : 1 ≤ z) (h2 : z ≤ k) (h3 : k ≤ row.length) : low row z ≤ pr row k := lowL_le (pr_mem h1 h2 h3)
theorem low_at {row : List Int} {z : Int} (h1 : 1 ≤ z) (h3 : z ≤ row.length) : ∃ k : Int, z ≤ k ∧ k ≤ row.length ∧ pr row k = low row z := by
  refine mem_pr h1 (lowL_mem fun e => ?_)
  have := pr_mem h1 (Int.le_refl z) h3
  rw [e] at this
  cases this
theorem low_is {row : List Int} {z b : Int} (h1 : 1 ≤ z) (h2 : z ≤ b) (h3 : b ≤ row.length) (hl : ∀ k : Int, z ≤ k → k ≤ row.length → pr row b ≤ pr row k) : low row z = pr row b :=
  lowL_is (pr_mem h1 h2 h3) fun x hx => by
    obtain ⟨k, a, b', rfl⟩ := mem_pr h1 hx
    exact hl k a b'
theorem low_mono {row : List Int} {z y : Int} (h1 : 1 ≤ z) (h2 : z ≤ y) (h3 : y ≤ row.length) : low row z ≤ low row y := by
  obtain ⟨k, a, b, e⟩ := low_at (row := row) (z := y) (by omega) h3
  rw [← e]
  exact low_le h1 (by omega) b
theorem low_nn {row : List Int} {z : Int} (h : ∀ x ∈ row, 0 ≤ x) : 0 ≤ low row z := by
  unfold low
  by_cases e : row.drop (z - 1).toNat = []
  · rw [e]
    exact Int.le_refl _
  · exact h _ (List.mem_of_mem_drop (lowL_mem e))

/-! ### promises -/
def sp_need_zones (K : PySem.W.Frag) (A : Ad) : Sp := fun vs H Q E => ∃ z : Int, vs = [.int z] ∧ (1 ≤ z ∧ z ≤ 5 → Q .non H) ∧ (¬ (1 ≤ z ∧ z ≤ 5) → E (.ref A.c_BadZones) none H)
/-- the row is read; b: for how many zones the cheapest ticket is -/
def sp_cheapest (K : PySem.W.Frag) (A : Ad) : Sp := fun vs H Q E => ∃ (a : Addr) (row : List Int) (z : Int), vs = [.ref a, .int z] ∧ SqL K H a (row.map V.int) ∧ row.length = 5 ∧
  (1 ≤ z ∧ z ≤ 5 → ∀ (b : Int) (p : Addr) (H' : Hp), z ≤ b → b ≤ 5 → pr row b = low row z → Same H H' → H p = none → H' p = some (.tup [.int b, .int (low row z)]) → Q (.ref p) H') ∧
  (¬ (1 ≤ z ∧ z ≤ 5) → E (.ref A.c_BadZones) none H)

theorem f_sd : ¬ (("singles" : Str) = "days") := by decide +kernel
theorem f_sw : ¬ (("singles" : Str) = "weeks") := by decide +kernel
theorem f_dw : ¬ (("days" : Str) = "weeks") := by decide +kernel
/-- the attributes, in the order in which __init__ stores them -/
def tarF (a b c : Addr) : List (Str × V) := putF "weeks" (.ref c) (putF "days" (.ref b) (putF "singles" (.ref a) []))
theorem tarF_s (a b c : Addr) : (tarF a b c).lookup ("singles" : Str) = some (.ref a) := by
  unfold tarF
  rw [lookup_putF, if_neg f_sw, lookup_putF, if_neg f_sd, lookup_putF, if_pos rfl]
theorem tarF_d (a b c : Addr) : (tarF a b c).lookup ("days" : Str) = some (.ref b) := by
  unfold tarF
  rw [lookup_putF, if_neg f_dw, lookup_putF, if_pos rfl]
theorem tarF_w (a b c : Addr) : (tarF a b c).lookup ("weeks" : Str) = some (.ref c) := by
  unfold tarF
  rw [lookup_putF, if_pos rfl]
theorem tarF_no (a b c : Addr) {m : Str} (h1 : ¬ m = "singles") (h2 : ¬ m = "days") (h3 : ¬ m = "weeks") : (tarF a b c).lookup m = none := by
  unfold tarF
  rw [lookup_putF, if_neg h3, lookup_putF, if_neg h2, lookup_putF, if_neg h1]
  rfl
/-- five prices from nought on -/
def Row5 (row : List Int) : Prop := row.length = 5 ∧ ∀ x ∈ row, 0 ≤ x
/-- a tariff stands at p: its three lists at a, b, c -/
structure TarAt (A : Ad) (H : Hp) (p a b c : Addr) (S D W : List Int) : Prop where
  ob : ∃ dx, H p = some (.ins A.c_Tariff dx (tarF a b c))
  hs : H a = some (.lst (S.map V.int))
  hd : H b = some (.lst (D.map V.int))
  hw : H c = some (.lst (W.map V.int))
  rs : Row5 S
  rd : Row5 D
  rw : Row5 W
theorem TarAt.same {A : Ad} {H H' : Hp} {p a b c : Addr} {S D W : List Int} (t : TarAt A H p a b c S D W) (s : Same H H') : TarAt A H' p a b c S D W :=
  ⟨let ⟨dx, e⟩ := t.ob; ⟨dx, s _ _ e⟩, s _ _ t.hs, s _ _ t.hd, s _ _ t.hw, t.rs, t.rd, t.rw⟩
theorem TarAt.dels {A : Ad} {H : Hp} {p a b c : Addr} {S D W : List Int} {hs : List Addr} (t : TarAt A H p a b c S D W) (np : p ∉ hs) (na : a ∉ hs) (nb : b ∉ hs) (nc : c ∉ hs) : TarAt A (dels H hs) p a b c S D W :=
  ⟨let ⟨dx, e⟩ := t.ob; ⟨dx, by rw [dels_out np]; exact e⟩, by rw [dels_out na]; exact t.hs, by rw [dels_out nb]; exact t.hd, by rw [dels_out nc]; exact t.hw, t.rs, t.rd, t.rw⟩
def Tar (A : Ad) (H : Hp) (p : Addr) (S D W : List Int) : Prop := ∃ a b c, TarAt A H p a b c S D W
theorem Tar.same {A : Ad} {H H' : Hp} {p : Addr} {S D W : List Int} (t : Tar A H p S D W) (s : Same H H') : Tar A H' p S D W :=
  let ⟨a, b, c, h⟩ := t; ⟨a, b, c, h.same s⟩
/-- Tariff(singles, days, weeks): three lists of whole numbers; a new tariff with lists of its own, or BadPrices -/
def sp_Tariff_init (K : PySem.W.Frag) (A : Ad) : Sp := fun vs H Q E => ∃ (p dx a b c : Addr) (S D W : List Int), vs = [.ref p, .ref a, .ref b, .ref c] ∧ H p = some (.ins A.c_Tariff dx []) ∧
  SqL K H a (S.map V.int) ∧ SqL K H b (D.map V.int) ∧ SqL K H c (W.map V.int) ∧
  (Row5 S ∧ Row5 D ∧ Row5 W → ∀ (a' b' c' : Addr) (H' : Hp), TarAt A H' p a' b' c' S D W → H a' = none → H b' = none → H c' = none → a' ≠ b' → a' ≠ c' → b' ≠ c' → (∀ x o, H x = some o → x ≠ p → H' x = some o) → Q .non H') ∧
  (¬ (Row5 S ∧ Row5 D ∧ Row5 W) → ∀ H', Same H H' → E (.ref A.c_BadPrices) none H')
def spPrice (K : PySem.W.Frag) (A : Ad) (f : List Int → List Int → List Int → List Int) : Sp := fun vs H Q E => ∃ (p : Addr) (S D W : List Int) (z : Int), vs = [.ref p, .int z] ∧ Tar A H p S D W ∧
  (1 ≤ z ∧ z ≤ 5 → ∀ H', Same H H' → Q (.int (low (f S D W) z)) H') ∧ (¬ (1 ≤ z ∧ z ≤ 5) → E (.ref A.c_BadZones) none H)
def sp_Tariff_single (K : PySem.W.Frag) (A : Ad) : Sp := spPrice K A fun S _ _ => S
def sp_Tariff_day (K : PySem.W.Frag) (A : Ad) : Sp := spPrice K A fun _ D _ => D
def sp_Tariff_week (K : PySem.W.Frag) (A : Ad) : Sp := spPrice K A fun _ _ W => W
/-- what the walk asks of the class -/
structure OkT (K : PySem.W.Frag) (A : Ad) : Prop where
  cl : Cls K A.c_Tariff
  nS : NoAttr K A.c_Tariff "singles"
  nD : NoAttr K A.c_Tariff "days"
  nW : NoAttr K A.c_Tariff "weeks"
theorem tar_s {A : Ad} {H : Hp} {p : Addr} {S D W : List Int} (T : Tar A H p S D W) : ∃ (dx a b c q : Addr), H p = some (.ins A.c_Tariff dx (tarF a b c)) ∧ (tarF a b c).lookup ("singles" : Str) = some (.ref q) ∧ H q = some (.lst (S.map V.int)) ∧ S.length = 5 :=
  let ⟨a, b, c, t⟩ := T; let ⟨dx, e⟩ := t.ob; ⟨dx, a, b, c, a, e, tarF_s a b c, t.hs, t.rs.1⟩
theorem tar_d {A : Ad} {H : Hp} {p : Addr} {S D W : List Int} (T : Tar A H p S D W) : ∃ (dx a b c q : Addr), H p = some (.ins A.c_Tariff dx (tarF a b c)) ∧ (tarF a b c).lookup ("days" : Str) = some (.ref q) ∧ H q = some (.lst (D.map V.int)) ∧ D.length = 5 :=
  let ⟨a, b, c, t⟩ := T; let ⟨dx, e⟩ := t.ob; ⟨dx, a, b, c, b, e, tarF_d a b c, t.hd, t.rd.1⟩
theorem tar_w {A : Ad} {H : Hp} {p : Addr} {S D W : List Int} (T : Tar A H p S D W) : ∃ (dx a b c q : Addr), H p = some (.ins A.c_Tariff dx (tarF a b c)) ∧ (tarF a b c).lookup ("weeks" : Str) = some (.ref q) ∧ H q = some (.lst (W.map V.int)) ∧ W.length = 5 :=
  let ⟨a, b, c, t⟩ := T; let ⟨dx, e⟩ := t.ob; ⟨dx, a, b, c, c, e, tarF_w a b c, t.hw, t.rw.1⟩
/-- isinstance of an exception of the class D: which of the classes take it (all of them FareError and ValueError) -/
structure IsX (K : PySem.W.Frag) (A : Ad) (D : Addr) (l s n p z d : Bool) : Prop where
  c : ExcC K D
  x : PySem.W.exmOne K (.ref D) (.ref A.c_FareError) = some true
  f : PySem.W.kitOne K (.ref D) (.ref A.c_FareError) = some true
  v : PySem.W.kitOne K (.ref D) (.type "ValueError") = some true
  l : PySem.W.kitOne K (.ref D) (.ref A.c_BadLink) = some l
  s : PySem.W.kitOne K (.ref D) (.ref A.c_BadStop) = some s
  n : PySem.W.kitOne K (.ref D) (.ref A.c_NoWay) = some n
  p : PySem.W.kitOne K (.ref D) (.ref A.c_BadPrices) = some p
  z : PySem.W.kitOne K (.ref D) (.ref A.c_BadZones) = some z
  d : PySem.W.kitOne K (.ref D) (.ref A.c_PastDay) = some d
end FW

namespace FW
open PySem PySem.Spec PyProof.Rows L2
def N_need_zones : List Str := ["zones"]
def t_need_zones (K : PySem.W.Frag) (A : Ad) (E : XK) : TS :=
 tIfS (tOr (tTest (tOp rLtI (tVar 0) (tC (.int 1)))) (tTest (tOp rGtI (tVar 0) (tC (.int 5))))) (tRaise E (.ref A.c_BadZones)) (tNext)
def N_cheapest : List Str := ["row", "zones", "best", "size"]
def t_cheapest (K : PySem.W.Frag) (A : Ad) (E : XK) : TS :=
 tSeq (tDrop (tCall (sp_need_zones K A) [] E (tCons (tVar 1) (tNil))))
 (tSeq (tAsg (tVar 1) (gName 2))
 (tSeq (tFor (iRng2 (tCons (tVar 1) (tCons (tOp rAdd (tC (.int 5)) (tC (.int 1))) (tNil)))) (gName 3) (tIfS (tTest (tOp rLtI (tOp (rIxL K) (tVar 0) (tOp rSub (tVar 3) (tC (.int 1)))) (tOp (rIxL K) (tVar 0) (tOp rSub (tVar 2) (tC (.int 1)))))) (tAsg (tVar 3) (gName 2)) (tNext)))
 (tRet (tTup (tCons (tVar 2) (tCons (tOp (rIxL K) (tVar 0) (tOp rSub (tVar 2) (tC (.int 1)))) (tNil)))))))
def N_Tariff_init : List Str := ["self", "singles", "days", "weeks", "row"]
def t_Tariff_init (K : PySem.W.Frag) (A : Ad) (E : XK) : TS :=
 tSeq (tFor (iList K (tLst (tCons (tVar 1) (tCons (tVar 2) (tCons (tVar 3) (tNil)))))) (gName 4) (tIfS (tOr (tTest (tOp rNe (tCB (rLenS K) (tCons (tVar 4) (tNil))) (tC (.int 5)))) (tTest (tOp rLtI (tCB (rMin K) (tCons (tVar 4) (tNil))) (tC (.int 0))))) (tRaise E (.ref A.c_BadPrices)) (tNext)))
 (tSeq (sFld K (tVar 0) (tCB (rListS K) (tCons (tVar 1) (tNil))) "singles")
 (tSeq (sFld K (tVar 0) (tCB (rListS K) (tCons (tVar 2) (tNil))) "days")
 (sFld K (tVar 0) (tCB (rListS K) (tCons (tVar 3) (tNil))) "weeks")))
def N_Tariff_single : List Str := ["self", "zones"]
def t_Tariff_single (K : PySem.W.Frag) (A : Ad) (E : XK) : TS :=
 tRet (tOp (rIxT K) (tCall (sp_cheapest K A) [] E (tCons (tFld K (tVar 0) "singles") (tCons (tVar 1) (tNil)))) (tC (.int 1)))
def N_Tariff_day : List Str := ["self", "zones"]
def t_Tariff_day (K : PySem.W.Frag) (A : Ad) (E : XK) : TS :=
 tRet (tOp (rIxT K) (tCall (sp_cheapest K A) [] E (tCons (tFld K (tVar 0) "days") (tCons (tVar 1) (tNil)))) (tC (.int 1)))
def N_Tariff_week : List Str := ["self", "zones"]
def t_Tariff_week (K : PySem.W.Frag) (A : Ad) (E : XK) : TS :=
 tRet (tOp (rIxT K) (tCall (sp_cheapest K A) [] E (tCons (tFld K (tVar 0) "weeks") (tCons (tVar 1) (tNil)))) (tC (.int 1)))
end FW

/-! Prices: the readings. -/
namespace FW
open PySem PySem.Spec PyProof.Rows L2
section
variable {K : PySem.W.Frag} {A : Ad} {vs : List V} {H : Hp} {Q : VK} {E : XK}
theorem rd_need_zones (h : sp_need_zones K A vs H Q E) : t_need_zones K A E { nx := fun _ H' => Q .non H', rt := Q } (start N_need_zones vs) H := by
  obtain ⟨z, rfl, k1, k2⟩ := h
  unfold t_need_zones
  walk_at "rd"
  refine ite_d (fun c => ?_) (fun c => ?_)
  · walk_at "rd"
    exact k2 (by omega)
  · walk_at "rd"
    refine ite_d (fun c2 => ?_) (fun c2 => ?_)
    · exact k2 (by omega)
    · exact k1 (by omega)
theorem rd_cheapest (h : sp_cheapest K A vs H Q E) : t_cheapest K A E { nx := fun _ H' => Q .non H', rt := Q } (start N_cheapest vs) H := by
  obtain ⟨a, row, z, rfl, hS, hl, k1, k2⟩ := h
  unfold t_cheapest
  walk_at "rd"
  refine ⟨fun hz => ?_, k2⟩
  walk_at "rd"
  refine for_range (lo := z) (n := (5 + 1 - z).toNat) (fun i σ H' => H' = H ∧ ∃ (b : Int) (o : Option V), σ = [some (.ref a), some (.int z), some (.int b), o] ∧ z ≤ b ∧ b ≤ 5 ∧ ∀ k : Int, z ≤ k → k < z + i → pr row b ≤ pr row k) ⟨rfl, z, none, rfl, Int.le_refl _, hz.2, fun k h1 h2 => absurd h2 (by omega)⟩ ?_ ?_
  · rintro i σ H' hi ⟨rfl, b, o, rfl, h1, h2, h3⟩
    have e1 : atI (row.map V.int) (z + (i : Int) - 1) = some (V.int (pr row (z + i))) := atI_map (by omega) (by omega)
    have e2 : atI (row.map V.int) (b - 1) = some (V.int (pr row b)) := atI_map (by omega) (by omega)
    walk_at "rd"
    refine ite_d (fun c => ?_) (fun c => ?_)
    · refine ⟨_, rfl, rfl, z + i, _, rfl, by omega, by omega, fun k g1 g2 => ?_⟩
      by_cases e : k = z + i
      · rw [e]
        exact Int.le_refl _
      · have := h3 k g1 (by omega)
        omega
    · refine ⟨rfl, b, _, rfl, by omega, by omega, fun k g1 g2 => ?_⟩
      by_cases e : k = z + i
      · rw [e]
        omega
      · exact h3 k g1 (by omega)
  · rintro σ H' ⟨rfl, b, o, rfl, h1, h2, h3⟩
    have e2 : atI (row.map V.int) (b - 1) = some (V.int (pr row b)) := atI_map (by omega) (by omega)
    have el : low row z = pr row b := low_is hz.1 h1 (by omega) fun k g1 g2 => h3 k g1 (by omega)
    walk_at "rd"
    intro p hp
    refine k1 hz b p _ h1 h2 el.symm (Same.new hp) hp ?_
    rw [el]
    exact upd_same
/-- is the row good? asked of each of the three rows -/
theorem rd_Tariff_init (O : OkT K A) (h : sp_Tariff_init K A vs H Q E) : t_Tariff_init K A E { nx := fun _ H' => Q .non H', rt := Q } (start N_Tariff_init vs) H := by
  obtain ⟨p, dx, a, b, c, S, D, W, rfl, hp, hS, hD, hW, k1, k2⟩ := h
  unfold t_Tariff_init
  walk_at "rd"
  intro l hl
  walk_at "rd"
  have nlp : p ≠ l := ne_of_none hp hl
  have aux : ∀ (i : Nat) (x : V), ([.ref a, .ref b, .ref c] : List V)[i]? = some x → ∃ (q : Addr) (r : List Int), x = V.ref q ∧ SqL K H q (r.map V.int) ∧ [S, D, W][i]? = some r := by
    intro i x hx
    match i, hx with
    | 0, hx => cases hx; exact ⟨a, S, rfl, hS, rfl⟩
    | 1, hx => cases hx; exact ⟨b, D, rfl, hD, rfl⟩
    | 2, hx => cases hx; exact ⟨c, W, rfl, hW, rfl⟩
    | i + 3, hx => simp at hx
  have all : (∀ r ∈ [S, D, W], Row5 r) ↔ (Row5 S ∧ Row5 D ∧ Row5 W) := by simp
  have S1 : Same H (upd H l (.lst [.ref a, .ref b, .ref c])) := Same.new hl
  generalize hH1 : upd H l (.lst [.ref a, .ref b, .ref c]) = H1 at *
  have hl1 : H1 l = some (.lst [.ref a, .ref b, .ref c]) := by rw [← hH1]; exact upd_same
  refine for_list (K := K) (a := l) (xs := [.ref a, .ref b, .ref c]) (fun i σ H' => H' = H1 ∧ ∃ o : Option V, σ = [some (.ref p), some (.ref a), some (.ref b), some (.ref c), o] ∧ ∀ r ∈ [S, D, W].take i, Row5 r) ⟨rfl, none, rfl, fun r hr => by simp at hr⟩ ?_ ?_ ?_
  · rintro i σ H' _ ⟨rfl, _⟩
    walk_at "sq"
  · rintro i x σ H' hx ⟨rfl, o, rfl, hr⟩
    obtain ⟨q, r, rfl, hq, hri⟩ := aux i x hx
    have hq1 := S1.seq hq
    have mem : r ∈ [S, D, W] := List.mem_iff_getElem?.mpr ⟨i, hri⟩
    have nx : Row5 r → ∀ r' ∈ [S, D, W].take (i + 1), Row5 r' := fun h5 r' h' => by
      rw [List.take_add_one, hri] at h'
      rcases List.mem_append.mp h' with h' | h'
      · exact hr r' h'
      · have : r' = r := by simpa using h'
        rw [this]
        exact h5
    walk_at "rd"
    refine ite_n (fun c1 => ?_) (fun c1 => ?_)
    · refine k2 (fun z => ?_) _ S1
      have h5 := (all.mpr z r mem).1
      exact c1 (by rw [List.length_map, h5]; rfl)
    · have h5 : r.length = 5 := by
        have := V.int.inj c1
        rw [List.length_map] at this
        omega
      walk_at "rd"
      intro m hm hle
      walk_at "rd"
      refine ite_d (fun c2 => ?_) (fun c2 => ?_)
      · refine k2 (fun z => ?_) _ S1
        have := (all.mpr z r mem).2 m hm
        omega
      · exact ⟨rfl, _, rfl, nx ⟨h5, fun x hx => by have := hle x hx; omega⟩⟩
  · rintro σ H' ⟨rfl, o, rfl, hr⟩
    have all5 := all.mp hr
    have hp1 : H' p = some (.ins A.c_Tariff dx []) := S1 _ _ hp
    have hS1 := S1.seq hS
    have hD1 := S1.seq hD
    have hW1 := S1.seq hW
    have clT := O.cl
    have nS := O.nS
    have nD := O.nD
    have nW := O.nW
    walk_at "rd"
    intro a' ha'
    have npa : p ≠ a' := ne_of_none hp1 ha'
    walk_at "rd"
    intro b' hb'
    have nba : b' ≠ a' := fun e => by
      rw [e, upd_ne (ne_sym npa), upd_same] at hb'
      cases hb'
    have npb : p ≠ b' := fun e => by
      rw [← e, upd_same] at hb'
      cases hb'
    have hb0 : H' b' = none := by rw [upd_ne (ne_sym npb), upd_ne nba] at hb'; exact hb'
    walk_at "rd"
    intro c' hc'
    have npc : p ≠ c' := fun e => by
      rw [← e, upd_same] at hc'
      cases hc'
    rw [upd_ne (ne_sym npc)] at hc'
    have nbc : c' ≠ b' := fun e => by
      rw [e, upd_same] at hc'
      cases hc'
    rw [upd_ne nbc, upd_ne (ne_sym npc)] at hc'
    have nac : c' ≠ a' := fun e => by
      rw [e, upd_same] at hc'
      cases hc'
    rw [upd_ne nac] at hc'
    have nap := ne_sym npa
    have nbp := ne_sym npb
    have ncp := ne_sym npc
    have nab := ne_sym nba
    have ncb := ne_sym nbc
    have nca := ne_sym nac
    walk_at "rd"
    refine k1 all5 a' b' c' _ ⟨⟨dx, upd_same⟩, by walk_at "hf", by walk_at "hf", by walk_at "hf", all5.1, all5.2.1, all5.2.2⟩ (S1.free ha') (S1.free hb0) (S1.free hc') nab nca ncb fun x o hx hxp => ?_
    have h1 := S1 _ _ hx
    have n1 := ne_of_none h1 ha'
    have n2 := ne_of_none h1 hb0
    have n3 := ne_of_none h1 hc'
    walk_at "hf"
theorem rd_price {f : List Int → List Int → List Int → List Int} {n : Str} (O : OkT K A) (hf : ∀ {H : Hp} {p : Addr} {S D W : List Int}, Tar A H p S D W → ∃ (dx a b c q : Addr), H p = some (.ins A.c_Tariff dx (tarF a b c)) ∧ (tarF a b c).lookup n = some (.ref q) ∧ H q = some (.lst ((f S D W).map V.int)) ∧ (f S D W).length = 5)
    (nn : NoAttr K A.c_Tariff n) (h : spPrice K A f vs H Q E) :
    tRet (tOp (rIxT K) (tCall (sp_cheapest K A) [] E (tCons (tFld K (tVar 0) n) (tCons (tVar 1) (tNil)))) (tC (.int 1))) { nx := fun _ H' => Q .non H', rt := Q } (start ["self", "zones"] vs) H := by
  obtain ⟨p, S, D, W, z, rfl, T, k1, k2⟩ := h
  obtain ⟨dx, a, b, c, q, h1, h2, h3, h4⟩ := hf T
  have cl := O.cl
  walk_at "rd"
  refine ⟨fun hz b p2 H' g1 g2 g3 g4 g5 g6 => ?_, k2⟩
  walk_at "rd"
  exact k1 hz _ g4
theorem rd_Tariff_single (O : OkT K A) (h : sp_Tariff_single K A vs H Q E) : t_Tariff_single K A E { nx := fun _ H' => Q .non H', rt := Q } (start N_Tariff_single vs) H := rd_price O tar_s O.nS h
theorem rd_Tariff_day (O : OkT K A) (h : sp_Tariff_day K A vs H Q E) : t_Tariff_day K A E { nx := fun _ H' => Q .non H', rt := Q } (start N_Tariff_day vs) H := rd_price O tar_d O.nD h
theorem rd_Tariff_week (O : OkT K A) (h : sp_Tariff_week K A vs H Q E) : t_Tariff_week K A E { nx := fun _ H' => Q .non H', rt := Q } (start N_Tariff_week vs) H := rd_price O tar_w O.nW h
end
end FW

/-! set(xs) of a list of whole numbers; list(reversed(xs)). -/
namespace FW
open PySem PySem.Spec PyProof.Rows L2
section
variable {P : Program} {w : World} {A : Around} {E : Value → Shared → Prop} {s : Shared}
/-- the empty set's object, as the model makes it -/
abbrev set0 (w : World) : Obj := { cls := .type "set", dict := none, data := .set #[] 0 (.fresh 0 0 (!w.params.followText "set-order")) }
set_option maxHeartbeats 6400000 in
theorem call_setL {l : Addr} {xs : Array Value} (ns : List Int) {Q : Value → Shared → Prop} (calm : A.handled = none) (isl : s.heap.IsList l xs) (wh : IntsAre xs.toList ns) (few : ns.length + 1 < scanBound)
    (fin : ∀ (g : Heap) (tk c : Nat), SetR w g s.heap.objs.size (fun j => decide (j ∈ ns)) c → (∀ b o, s.heap.get? b = some o → g.get? b = some o) → Q (.ref s.heap.objs.size) { s with heap := g, toks := tk }) :
    wpAny (model P w) A (call (.type "set") [.ref l]) Q E s := by
  have esz : xs.size = ns.length := by have q := IntsAre.length wh; rw [Array.length_toList] at q; exact q
  have mro := PySem.F.called_set.mro
  obtain ⟨mc, mt, hmro⟩ := mro
  have made := PySem.F.called_set.made
  have subs := PySem.F.called_set.sub
  refine wpAny_call (codeAny_of_tree ?_)
  show wpAny _ _ (callAny (Value.type "set") _) _ _ _
  refine wpAny_pure ⟨Code.quiet_builtin _ (by decide +kernel), codeAny_builtin PySem.F.entry_type_call ?_⟩
  rw [Around.under_plain (weight_type_call_type "set" [Value.ref l] []) rfl]
  have nt := PySem.F.called_set.notType
  have cc := PySem.F.called_set.canCreate
  have tc := PySem.F.typeCall_set_1 (.ref l)
  repeat (any_goals (first | assumption | wp_step))
  refine codeAny_mono (code_set_led1 (w := w) (.ref l) (E := E) (Q₁ := fun v s1 => v = .ref s.heap.objs.size ∧ s1 = { s with heap := s.heap.push (set0 w) }) ⟨rfl, rfl⟩) fun r s1 hr => ?_
  cases r with
  | error e => exact hr
  | ok fl =>
    cases fl with
    | ret ob =>
      obtain ⟨rfl, rfl⟩ := hr
      have at0 : (s.heap.push (set0 w)).get? s.heap.objs.size = some (set0 w) := Heap.get?_push_size _ rfl
      have ty0 : Shared.TypeIs { s with heap := s.heap.push (set0 w) } (.ref s.heap.objs.size) "set" := ⟨_, at0, rfl⟩
      have lk0 := PySem.F.called_set.init.lookup
      have bd0 := PySem.F.called_set.init.bind (.ref s.heap.objs.size)
      repeat (any_goals (first | assumption | wp_step))
      refine codeAny_mono (codeAny_call_builtin (R := wants (fun r s2 => r = .none ∧ ∃ g tk c, s2 = { s with heap := g, toks := tk } ∧ SetR w g s.heap.objs.size (fun j => decide (j ∈ ns)) c ∧ ∀ b o, s.heap.get? b = some o → g.get? b = some o) E)
        PySem.F.called_set.init.plain PySem.F.entry_set_init (check_set_init_1 ty0 ?_)) fun r2 s2 hr2 => ?_
      · obtain ⟨ol, atl, ccl, nl, dtl⟩ := isl
        obtain ⟨k1, k2, k3, k4⟩ := ol
        simp only at ccl dtl
        subst ccl dtl
        have at1 : (s.heap.push (set0 w)).get? l = some { cls := .type "list", dict := k2, data := .seq xs nl, slots := k4 } := Heap.get?_push_of_some _ atl
        have sub1 := PySem.F.sub_list_set
        have sub2 := PySem.F.sub_list_frozenset
        have ned : (Value.type "list" == Value.type "dict") = false := by decide
        have isl1 : (s.heap.push (set0 w)).IsList l xs := ⟨_, at1, rfl, nl, rfl⟩
        unfold Builtin.«set.__init__» noKeywords Builtin.Frozenset.updateFrom
        generalize hPI : pyIter = PI
        wp_walk
        subst hPI
        refine wpAny_pyIter_list isl1 ?_
        refine wpAny_bind (wpAny_runValue ?_)
        have ltl : l < s.heap.objs.size := Heap.lt_size atl
        have calm3 : A.in1.in1.in1.handled = none := by simp [calm]
        have szp : (s.heap.push (set0 w)).objs.size = s.heap.objs.size + 1 := Heap.size_push ..
        have nel : l ≠ (s.heap.push (set0 w)).objs.size := by rw [szp]; exact Nat.ne_of_lt (Nat.lt_succ_of_lt ltl)
        have nin : s.heap.objs.size ∉ [(s.heap.push (set0 w)).objs.size, l] := by
          intro m
          rcases List.mem_cons.mp m with m | m
          · rw [szp] at m; omega
          · have : s.heap.objs.size = l := by simpa using m
            exact Nat.ne_of_gt ltl this
        have vals : ∀ (i : Nat) (v : Value), xs[i]? = some v → ∃ k t, ns[i]? = some k ∧ v = .int k t := fun i v hv => by
          have hi : i < ns.length := by rw [← esz]; exact (Array.getElem?_eq_some_iff.mp hv).1
          obtain ⟨t, e⟩ := PyProof.Rows.IntsAre.int_at wh i v (by rw [Array.getElem?_toList]; exact hv)
          refine ⟨ns[i], t, List.getElem?_eq_getElem hi, ?_⟩
          rw [e, List.getD_eq_getElem?_getD, List.getElem?_eq_getElem hi]
          rfl
        refine set_update_ints ((Walks.list calm3 _ l nel xs).toS) s.heap.objs.size nin ns esz few vals (xs.size - 0) 0 _ (by omega) (Nat.zero_le _) ⟨⟨_, Heap.get?_push_size _ rfl, rfl, rfl⟩, isl1.push _⟩ ?c0 ?c1
        case c0 => exact ⟨0, Nat.le_refl 0, setR_new_at (Heap.get?_push_of_some _ at0)⟩
        case c1 =>
          intro s9 c9 mv _ R9
          obtain ⟨g9, gn9, dr9, tk9, os9⟩ := s9
          have q1 : gn9 = s.gens := mv.gens
          have q2 : dr9 = s.drawn := mv.drawn
          have q3 : os9 = s.os := mv.os
          subst q1 q2 q3
          show wpAny _ _ _ _ _ _
          refine wpAny_pure ?_
          show wpAny _ _ (ret Value.none) _ _ _
          refine wpAny_pure ⟨rfl, g9, tk9, c9, rfl, R9, fun b o e => ?_⟩
          have lb : b < s.heap.objs.size := Heap.lt_size e
          refine mv.heap b o (fun m => ?_) (Heap.get?_push_of_some _ (Heap.get?_push_of_some _ e))
          rcases List.mem_cons.mp m with m | m
          · exact Nat.ne_of_lt lb m
          · have : b = (s.heap.push (set0 w)).objs.size := by simpa using m
            rw [szp] at this
            exact Nat.ne_of_lt (Nat.lt_succ_of_lt lb) this
      · cases r2 with
        | error e => exact hr2
        | ok fl2 =>
          cases fl2 with
          | ret r =>
            obtain ⟨rfl, g, tk, c, rfl, R, kp⟩ := hr2
            repeat (any_goals (first | assumption | wp_step))
            exact fin _ _ _ R kp
          | _ => exact hr2.elim
    | _ => exact hr.elim
end
/-- set(xs): its members once each in out -/
def rSetI (K : PySem.W.Frag) (w : World) : List V → Hp → VK → Prop := fun vs H Q => ∃ (a : Addr) (ns : List Int), vs = [.ref a] ∧ SqL K H a (ns.map V.int) ∧ ns.length ≤ 1000 ∧
  ∀ (p : Addr) (out : List Int), H p = none → out.Nodup → (∀ k, k ∈ out ↔ k ∈ ns) → Q (.ref p) (upd H p (SetO w p (fun j => decide (j ∈ ns)) out.length))
theorem cr_setI {X : Cx} (hc : X.calm = true) : CallR X (.type "set") (rSetI X.K X.w) := by
  intro pins s σ H vs us Q I r h
  obtain ⟨a, ns, rfl, hS, hl, q⟩ := h
  rw [Vals.ref1 r]
  obtain ⟨its, rv, pl, hz⟩ := I.list hS
  refine call_setL ns (I.ok.hd hc) pl.isList (by simpa using ints_of_vals rv) (by unfold scanBound; omega) fun g tk c R kp => ?_
  obtain ⟨o, es, ep, t, ho, ex, hd, good, nd, mem, sz, fits, en, ris, led⟩ := id R
  have nn : H s.heap.objs.size = none := I.hok.fresh (Nat.le_refl _)
  have e1 : c = (es.toList.map keyOf).length := by rw [List.length_map, Array.length_toList, en]
  rw [e1] at R
  have J : Inv X pins σ (upd H s.heap.objs.size (SetO X.w s.heap.objs.size (fun j => decide (j ∈ ns)) (es.toList.map keyOf).length)) { s with heap := g, gens := s.gens, drawn := s.drawn, toks := tk } :=
    I.call (ch := []) (Un.laid kp (Nat.le_refl _) nn) (I.hok.laid kp (Nat.le_refl _) (setO_new R)) I.bare (fun _ z => nomatch z)
  exact ⟨.ref _, _, J, rfl, q _ _ nn nd fun k => by rw [← mem k]; simp⟩
end FW

/-! Covers: what the defs of fareweb/covers.py promise. -/
namespace FW
open PySem PySem.Spec PyProof.Rows L2

/-- a ticket: of a week, of a day, a single -/
inductive Tk where
  | wk (z p : Int)
  | dy (d z p : Int)
  | sg (d r z p : Int)
def Tk.vals : Tk → List V
  | .wk z p => [.str "week", .int z, .int p]
  | .dy d z p => [.str "day", .int d, .int z, .int p]
  | .sg d r z p => [.str "single", .int d, .int r, .int z, .int p]
def Tk.price : Tk → Int
  | .wk _ p => p
  | .dy _ _ p => p
  | .sg _ _ _ p => p
def tkCost (ts : List Tk) : Int := (ts.map Tk.price).sum
theorem tkCost_nil : tkCost [] = 0 := rfl
theorem tkCost_cons (t : Tk) (ts : List Tk) : tkCost (t :: ts) = t.price + tkCost ts := by
  unfold tkCost
  rw [List.map_cons, List.sum_cons]
theorem tkCost_append (a b : List Tk) : tkCost (a ++ b) = tkCost a + tkCost b := by
  unfold tkCost
  rw [List.map_append, List.sum_append]
/-- the tickets stand at these places -/
abbrev TkL (H : Hp) (xs : List V) (ts : List Tk) : Prop := Paired (fun v t => ∃ q, v = V.ref q ∧ H q = some (.tup t.vals)) xs ts
theorem TkL.same {H H' : Hp} (s : Same H H') : ∀ {xs : List V} {ts : List Tk}, TkL H xs ts → TkL H' xs ts
  | _, _, .nil => .nil
  | _, _, .cons ⟨q, e, h⟩ r => .cons ⟨q, e, s _ _ h⟩ (TkL.same s r)
theorem TkL.upd {H : Hp} {R : Addr} {ys : List V} {o : HO} (hR : H R = some (.lst ys)) : ∀ {xs : List V} {ts : List Tk}, TkL H xs ts → TkL (L2.upd H R o) xs ts
  | _, _, .nil => .nil
  | _, _, .cons ⟨q, e, h⟩ r => .cons ⟨q, e, by rw [upd_ne (ne_of h hR (by intro z; cases z))]; exact h⟩ (TkL.upd hR r)
theorem TkL.del {H : Hp} {R : Addr} {ys : List V} (hR : H R = some (.lst ys)) : ∀ {xs : List V} {ts : List Tk}, TkL H xs ts → TkL (FW.del H R) xs ts
  | _, _, .nil => .nil
  | _, _, .cons ⟨q, e, h⟩ r => .cons ⟨q, e, by rw [del_ne (ne_of h hR (by intro z; cases z))]; exact h⟩ (TkL.del hR r)
theorem TkL.snoc {H : Hp} {xs : List V} {ts : List Tk} {q : Addr} {t : Tk} (a : TkL H xs ts) (h : H q = some (.tup t.vals)) : TkL H (xs ++ [.ref q]) (ts ++ [t]) := Paired.snoc a ⟨q, rfl, h⟩
theorem TkL.app {H : Hp} : ∀ {xs ys : List V} {ts us : List Tk}, TkL H xs ts → TkL H ys us → TkL H (xs ++ ys) (ts ++ us)
  | _, _, _, _, .nil, b => b
  | _, _, _, _, .cons h r, b => .cons h (TkL.app r b)
theorem TkL.len {H : Hp} {xs : List V} {ts : List Tk} (a : TkL H xs ts) : xs.length = ts.length := Paired.length a
theorem Tk.inj {t u : Tk} (h : t.vals = u.vals) : t = u := by
  cases t <;> cases u <;> simp only [Tk.vals, List.cons.injEq, V.int.injEq, and_true, true_and, reduceCtorEq, and_false, false_and] at h
  · obtain ⟨a, b⟩ := h; rw [a, b]
  · obtain ⟨a, b, c⟩ := h; rw [a, b, c]
  · obtain ⟨a, b, c, d⟩ := h; rw [a, b, c, d]
theorem TkL.inj {H : Hp} : ∀ {xs : List V} {ts us : List Tk}, TkL H xs ts → TkL H xs us → ts = us
  | _, _, _, .nil, .nil => rfl
  | _, _, _, .cons ⟨q, e, h⟩ r, .cons ⟨q2, e2, h2⟩ r2 => by
    rw [e] at e2
    cases e2
    have e3 := h.symm.trans h2
    rw [Tk.inj (HO.tup.inj (Option.some.inj e3)), TkL.inj r r2]
theorem TkL.get {H : Hp} : ∀ {xs : List V} {ts : List Tk} {i : Nat} {x : V}, TkL H xs ts → xs[i]? = some x → ∃ t q, ts[i]? = some t ∧ x = .ref q ∧ H q = some (.tup t.vals)
  | _, _, _, _, .nil, h => by simp at h
  | _, _, 0, x, .cons ⟨q, e, h⟩ r, hx => ⟨_, q, rfl, by rw [← e]; exact (Option.some.inj hx).symm, h⟩
  | _, _, i + 1, x, .cons _ r, hx => TkL.get (i := i) r hx

/-! ### the least cost -/
/-- what the singles cost of the rides that are not served up to m zones -/
def sgSum (S : List Int) (m : Int) (rides : List Int) : Int := ((rides.filter fun z => decide (m < z)).map (low S)).sum
def ownCost (D : List Int) (own : Int) : Int := if 0 < own then low D own else 0
def dayCost (S D : List Int) (held : Int) (rides : List Int) (own : Int) : Int := ownCost D own + sgSum S (max held own) rides
def dayBest (S D : List Int) (held : Int) (rides : List Int) : Int := lowL ((0 :: rides).map (dayCost S D held rides))
def weekCost (S D W : List Int) (days : List (List Int)) (held : Int) : Int := ownCost W held + (days.map (dayBest S D held)).sum
def weekBest (S D W : List Int) (days : List (List Int)) : Int := lowL ((0 :: days.flatten).map (weekCost S D W days))
def In5 (z : Int) : Prop := 1 ≤ z ∧ z ≤ 5
instance (z : Int) : Decidable (In5 z) := by unfold In5; infer_instance

/-! ### which tickets are told -/
structure DayOk (S D : List Int) (d held : Int) (rides : List Int) (ts : List Tk) : Prop where
  ok : ∀ t ∈ ts, (∃ z, t = .dy d z (pr D z) ∧ In5 z) ∨ ∃ (r : Nat) (z : Int), t = .sg d r z (pr S z) ∧ r < rides.length ∧ In5 z
  served : ∀ (r : Nat) (z : Int), rides[r]? = some z → z ≤ held ∨ (∃ y, .dy d y (pr D y) ∈ ts ∧ z ≤ y) ∨ ∃ y, .sg d r y (pr S y) ∈ ts ∧ z ≤ y
structure WeekOk (S D W : List Int) (days : List (List Int)) (ts : List Tk) : Prop where
  ok : ∀ t ∈ ts, (∃ z, t = .wk z (pr W z) ∧ In5 z) ∨ (∃ (d : Nat) (z : Int), t = .dy d z (pr D z) ∧ d < days.length ∧ In5 z) ∨
    ∃ (d r : Nat) (z : Int) (rides : List Int), t = .sg d r z (pr S z) ∧ days[d]? = some rides ∧ r < rides.length ∧ In5 z
  served : ∀ (d r : Nat) (rides : List Int) (z : Int), days[d]? = some rides → rides[r]? = some z → (∃ y, .wk y (pr W y) ∈ ts ∧ z ≤ y) ∨ (∃ y, .dy d y (pr D y) ∈ ts ∧ z ≤ y) ∨ ∃ y, .sg d r y (pr S y) ∈ ts ∧ z ≤ y

/-! ### the heap: a list of lists of whole numbers -/
structure LLAt (K : PySem.W.Frag) (H : Hp) (a : Addr) (ps : List Addr) (days : List (List Int)) : Prop where
  sq : SqL K H a (ps.map V.ref)
  len : ps.length = days.length
  at_ : ∀ (i : Nat) (p : Addr) (r : List Int), ps[i]? = some p → days[i]? = some r → H p = some (.lst (r.map V.int))
theorem LLAt.same {K : PySem.W.Frag} {H H' : Hp} {a : Addr} {ps : List Addr} {days : List (List Int)} (l : LLAt K H a ps days) (s : Same H H') : LLAt K H' a ps days :=
  ⟨s.seq l.sq, l.len, fun i p r h1 h2 => s _ _ (l.at_ i p r h1 h2)⟩
def LL (K : PySem.W.Frag) (H : Hp) (a : Addr) (days : List (List Int)) : Prop := ∃ ps, LLAt K H a ps days
theorem LL.same {K : PySem.W.Frag} {H H' : Hp} {a : Addr} {days : List (List Int)} (l : LL K H a days) (s : Same H H') : LL K H' a days := let ⟨ps, h⟩ := l; ⟨ps, h.same s⟩

/-! ### promises -/
def sp_cost_of (K : PySem.W.Frag) (A : Ad) : Sp := fun vs H Q _ => ∃ (a : Addr) (xs : List V) (ts : List Tk), vs = [.ref a] ∧ SqL K H a xs ∧ TkL H xs ts ∧ xs.length ≤ 40000 ∧ ∀ H', Same H H' → Q (.int (tkCost ts)) H'
def sp_for_day (K : PySem.W.Frag) (A : Ad) : Sp := fun vs H Q _ => ∃ (p a : Addr) (d held : Int) (S D W rides : List Int), vs = [.ref p, .int d, .ref a, .int held] ∧ Tar A H p S D W ∧ SqL K H a (rides.map V.int) ∧ (∀ z ∈ rides, In5 z) ∧ rides.length ≤ 1000 ∧
  ∀ (l : Addr) (xs : List V) (ts : List Tk) (H' : Hp), Same H H' → H l = none → H' l = some (.lst xs) → TkL H' xs ts → DayOk S D d held rides ts → tkCost ts = dayBest S D held rides → ts.length ≤ 2 * rides.length → Q (.ref l) H'
def sp_for_week (K : PySem.W.Frag) (A : Ad) : Sp := fun vs H Q _ => ∃ (p a : Addr) (held : Int) (S D W : List Int) (days : List (List Int)), vs = [.ref p, .ref a, .int held] ∧ Tar A H p S D W ∧ LL K H a days ∧ (∀ r ∈ days, ∀ z ∈ r, In5 z) ∧ days.flatten.length ≤ 1000 ∧ days.length ≤ 20 ∧ 0 ≤ held ∧ held ≤ 5 ∧
  ∀ (l : Addr) (xs : List V) (ts : List Tk) (H' : Hp), Same H H' → H l = none → H' l = some (.lst xs) → TkL H' xs ts → WeekOk S D W days ts → tkCost ts = weekCost S D W days held → ts.length ≤ 2 * days.flatten.length + held.toNat → Q (.ref l) H'
def sp_least (K : PySem.W.Frag) (A : Ad) : Sp := fun vs H Q E => ∃ (p a : Addr) (S D W : List Int) (days : List (List Int)), vs = [.ref p, .ref a] ∧ Tar A H p S D W ∧ LL K H a days ∧ days.flatten.length ≤ 1000 ∧ days.length ≤ 20 ∧
  ((∀ r ∈ days, ∀ z ∈ r, In5 z) → ∀ (t l : Addr) (xs : List V) (ts : List Tk) (H' : Hp), Same H H' → H l = none → H t = none → H' t = some (.tup [.int (weekBest S D W days), .ref l]) → H' l = some (.lst xs) → TkL H' xs ts → WeekOk S D W days ts →
    tkCost ts = weekBest S D W days → ts.length ≤ 7 * days.flatten.length → Q (.ref t) H') ∧
  (¬ (∀ r ∈ days, ∀ z ∈ r, In5 z) → E (.ref A.c_BadZones) none H)
end FW

namespace FW
open PySem PySem.Spec PyProof.Rows L2
def N_cost_of : List Str := ["tickets", "ticket"]
def t_cost_of (K : PySem.W.Frag) (A : Ad) (E : XK) : TS :=
 tRet (tCB (rSum K) (tCons (tLc (iList K (tVar 0)) (gName 1) (tYes) (tOp (rIxT K) (tVar 1) (tUn rNeg (tC (.int 1)))) [1]) (tNil)))
@[irreducible] def t_for_day_b1_s3 (K : PySem.W.Frag) (A : Ad) (w : World) (E : XK) : TS :=
 tIfS (tOr (tTest (tOp rIsN (tVar 4) (tC .non))) (tTest (tOp rLtI (tCall (sp_cost_of K A) [] E0 (tCons (tVar 6) (tNil))) (tCall (sp_cost_of K A) [] E0 (tCons (tVar 4) (tNil)))))) (tAsg (tVar 6) (gName 4)) (tNext)
@[irreducible] def t_for_day_b1_s2 (K : PySem.W.Frag) (A : Ad) (w : World) (E : XK) : TS :=
 tSeq (tFor (iEnum K (tCons (tVar 2) (tNil))) (gTup K 2 (gCons (gName 8) (gCons (gName 9) (gNil)))) (tIfS (tTest (tOp rGtI (tVar 9) (tCB rMax2 (tCons (tVar 3) (tCons (tVar 5) (tNil)))))) (tSeq (tAsg (tCall (sp_cheapest K A) [] E0 (tCons (tFld K (tVar 0) "singles") (tCons (tVar 9) (tNil)))) (gName 7))
 (tDrop (tBM K "list" rAppend (tVar 6) (tCons (tTup (tCons (tC (.str "single")) (tCons (tVar 1) (tCons (tVar 8) (tCons (tOp (rIxT K) (tVar 7) (tC (.int 0))) (tCons (tOp (rIxT K) (tVar 7) (tC (.int 1))) (tNil))))))) (tNil))))) (tNext)))
 (t_for_day_b1_s3 K A w E)
@[irreducible] def t_for_day_b1_s1 (K : PySem.W.Frag) (A : Ad) (w : World) (E : XK) : TS :=
 tSeq (tIfS (tTest (tOp rGtI (tVar 5) (tC (.int 0)))) (tSeq (tAsg (tCall (sp_cheapest K A) [] E0 (tCons (tFld K (tVar 0) "days") (tCons (tVar 5) (tNil)))) (gName 7))
 (tDrop (tBM K "list" rAppend (tVar 6) (tCons (tTup (tCons (tC (.str "day")) (tCons (tVar 1) (tCons (tOp (rIxT K) (tVar 7) (tC (.int 0))) (tCons (tOp (rIxT K) (tVar 7) (tC (.int 1))) (tNil)))))) (tNil))))) (tNext))
 (t_for_day_b1_s2 K A w E)
@[irreducible] def t_for_day_b1 (K : PySem.W.Frag) (A : Ad) (w : World) (E : XK) : TS :=
 tSeq (tAsg (tLst (tNil)) (gName 6))
 (t_for_day_b1_s1 K A w E)
@[irreducible] def t_for_day_s3 (K : PySem.W.Frag) (A : Ad) (w : World) (E : XK) : TS :=
 tRet (tVar 4)
@[irreducible] def t_for_day_s2 (K : PySem.W.Frag) (A : Ad) (w : World) (E : XK) : TS :=
 tSeq (tFor (iList K (tOp rCat (tLst (tCons (tC (.int 0)) (tNil))) (tCB (rSortedSet w) (tCons (tCB (rSetI K w) (tCons (tVar 2) (tNil))) (tNil))))) (gName 5) (t_for_day_b1 K A w E))
 (t_for_day_s3 K A w E)
@[irreducible] def t_for_day_s1 (K : PySem.W.Frag) (A : Ad) (w : World) (E : XK) : TS :=
 tSeq (tAsg (tC .non) (gName 4))
 (t_for_day_s2 K A w E)
def N_for_day : List Str := ["tariff", "day", "rides", "held", "best", "own", "row", "pair", "ride", "zones"]
def t_for_day (K : PySem.W.Frag) (A : Ad) (w : World) (E : XK) : TS :=
 tSeq (tIfS (tNot (tTru K (tVar 2))) (tRet (tLst (tNil))) (tNext))
 (t_for_day_s1 K A w E)
@[irreducible] def t_for_week_s3 (K : PySem.W.Frag) (A : Ad) (E : XK) : TS :=
 tRet (tVar 3)
@[irreducible] def t_for_week_s2 (K : PySem.W.Frag) (A : Ad) (E : XK) : TS :=
 tSeq (tFor (iEnum K (tCons (tVar 1) (tNil))) (gTup K 2 (gCons (gName 5) (gCons (gName 6) (gNil)))) (tDrop (tBM K "list" rExtend (tVar 3) (tCons (tCall (sp_for_day K A) [] E0 (tCons (tVar 0) (tCons (tVar 5) (tCons (tVar 6) (tCons (tVar 2) (tNil)))))) (tNil)))))
 (t_for_week_s3 K A E)
@[irreducible] def t_for_week_s1 (K : PySem.W.Frag) (A : Ad) (E : XK) : TS :=
 tSeq (tIfS (tTest (tOp rGtI (tVar 2) (tC (.int 0)))) (tSeq (tAsg (tCall (sp_cheapest K A) [] E0 (tCons (tFld K (tVar 0) "weeks") (tCons (tVar 2) (tNil)))) (gName 4))
 (tDrop (tBM K "list" rAppend (tVar 3) (tCons (tTup (tCons (tC (.str "week")) (tCons (tOp (rIxT K) (tVar 4) (tC (.int 0))) (tCons (tOp (rIxT K) (tVar 4) (tC (.int 1))) (tNil))))) (tNil))))) (tNext))
 (t_for_week_s2 K A E)
def N_for_week : List Str := ["tariff", "days", "held", "row", "pair", "day", "rides"]
def t_for_week (K : PySem.W.Frag) (A : Ad) (E : XK) : TS :=
 tSeq (tAsg (tLst (tNil)) (gName 3))
 (t_for_week_s1 K A E)
@[irreducible] def t_least_b1_s1 (K : PySem.W.Frag) (A : Ad) (w : World) (E : XK) : TS :=
 tIfS (tOr (tTest (tOp rIsN (tVar 5) (tC .non))) (tTest (tOp rLtI (tCall (sp_cost_of K A) [] E0 (tCons (tVar 7) (tNil))) (tCall (sp_cost_of K A) [] E0 (tCons (tVar 5) (tNil)))))) (tAsg (tVar 7) (gName 5)) (tNext)
@[irreducible] def t_least_b1 (K : PySem.W.Frag) (A : Ad) (w : World) (E : XK) : TS :=
 tSeq (tAsg (tCall (sp_for_week K A) [] E0 (tCons (tVar 0) (tCons (tVar 1) (tCons (tVar 6) (tNil))))) (gName 7))
 (t_least_b1_s1 K A w E)
@[irreducible] def t_least_s5 (K : PySem.W.Frag) (A : Ad) (w : World) (E : XK) : TS :=
 tRet (tTup (tCons (tCall (sp_cost_of K A) [] E0 (tCons (tVar 5) (tNil))) (tCons (tVar 5) (tNil))))
@[irreducible] def t_least_s4 (K : PySem.W.Frag) (A : Ad) (w : World) (E : XK) : TS :=
 tSeq (tFor (iList K (tOp rCat (tLst (tCons (tC (.int 0)) (tNil))) (tCB (rSortedSet w) (tCons (tCB (rSetI K w) (tCons (tVar 4) (tNil))) (tNil))))) (gName 6) (t_least_b1 K A w E))
 (t_least_s5 K A w E)
@[irreducible] def t_least_s3 (K : PySem.W.Frag) (A : Ad) (w : World) (E : XK) : TS :=
 tSeq (tAsg (tC .non) (gName 5))
 (t_least_s4 K A w E)
@[irreducible] def t_least_s2 (K : PySem.W.Frag) (A : Ad) (w : World) (E : XK) : TS :=
 tSeq (tFor (iList K (tVar 1)) (gName 2) (tDrop (tBM K "list" rExtend (tVar 4) (tCons (tVar 2) (tNil)))))
 (t_least_s3 K A w E)
@[irreducible] def t_least_s1 (K : PySem.W.Frag) (A : Ad) (w : World) (E : XK) : TS :=
 tSeq (tAsg (tLst (tNil)) (gName 4))
 (t_least_s2 K A w E)
def N_least : List Str := ["tariff", "days", "rides", "zones", "found", "best", "held", "row"]
def t_least (K : PySem.W.Frag) (A : Ad) (w : World) (E : XK) : TS :=
 tSeq (tFor (iList K (tVar 1)) (gName 2) (tFor (iList K (tVar 2)) (gName 3) (tDrop (tCall (sp_need_zones K A) [] E (tCons (tVar 3) (tNil))))))
 (t_least_s1 K A w E)
end FW

/-! Covers: the readings. -/
namespace FW
open PySem PySem.Spec PyProof.Rows L2
section
variable {K : PySem.W.Frag} {A : Ad} {w : World} {vs : List V} {H : Hp} {Q : VK} {E : XK}
theorem tk_last (t : Tk) : atI t.vals (-1) = some (.int t.price) := by
  cases t <;> rfl
theorem filterMap_tk {H : Hp} {F : V → Option V} : ∀ {xs : List V} {ts : List Tk}, TkL H xs ts → (∀ (q : Addr) (t : Tk), H q = some (.tup t.vals) → F (.ref q) = some (.int t.price)) → xs.filterMap F = (ts.map Tk.price).map V.int
  | _, _, .nil, _ => rfl
  | _, _, .cons ⟨q, e, h⟩ r, hF => by
    subst e
    rw [List.filterMap_cons, hF q _ h, filterMap_tk r hF]
    rfl
/-- what a ticket's place gives -/
theorem rd_cost_of (h : sp_cost_of K A vs H Q E) : t_cost_of K A E { nx := fun _ H' => Q .non H', rt := Q } (start N_cost_of vs) H := by
  obtain ⟨a, xs, ts, rfl, hS, hT, hl, q⟩ := h
  unfold t_cost_of
  walk_at "rd"
  intro D hD
  refine lc_listF (F := fun v => match v with
    | .ref p => (match H p with
      | some (.tup ys) => atI ys (-1)
      | _ => none)
    | _ => none) hD hS (by omega) ?_ ?_
  · intro i x H2 hx s2 G N hG hN
    obtain ⟨t, p, ht, rfl, hp⟩ := hT.get hx
    have hp2 := s2 _ _ hp
    have el := tk_last t
    walk_at "rd"
    refine hG _ _ ?_ (Same.refl _)
    dsimp only
    rw [hp]
    exact el
  · intro H2 s2 e2
    rw [filterMap_tk hT fun p t hp => by dsimp only; rw [hp]; exact tk_last t] at e2
    have s2' := s2.trans (del_sub _ _)
    walk_at "rd"
    exact q _ s2'
/-! ### one day -/
/-- the tickets of a row that is being filled: the first n rides are looked at -/
structure RowOk (S D : List Int) (d held own : Int) (rides : List Int) (n : Nat) (ts : List Tk) : Prop where
  ok : ∀ t ∈ ts, (∃ z, t = .dy d z (pr D z) ∧ In5 z) ∨ ∃ (r : Nat) (z : Int), t = .sg d r z (pr S z) ∧ r < rides.length ∧ In5 z
  served : ∀ (r : Nat) (z : Int), r < n → rides[r]? = some z → z ≤ held ∨ (∃ y, .dy d y (pr D y) ∈ ts ∧ z ≤ y) ∨ ∃ y, .sg d r y (pr S y) ∈ ts ∧ z ≤ y
  owns : own ≤ 0 ∨ ∃ y, .dy d y (pr D y) ∈ ts ∧ own ≤ y
  cost : tkCost ts = ownCost D own + sgSum S (max held own) (rides.take n)
  len : ts.length ≤ n + 1
theorem sgSum_take {S : List Int} {m : Int} {rides : List Int} {n : Nat} {z : Int} (h : rides[n]? = some z) : sgSum S m (rides.take (n + 1)) = sgSum S m (rides.take n) + if m < z then low S z else 0 := by
  unfold sgSum
  rw [List.take_add_one, h, Option.toList_some, List.filter_append, List.map_append, List.sum_append]
  congr 1
  by_cases c : m < z
  · rw [if_pos c, List.filter_cons, if_pos (by simpa using c)]
    simp
  · rw [if_neg c, List.filter_cons, if_neg (by simpa using c)]
    rfl
theorem max_if (a b : Int) : (if b > a then b else a) = max a b := by
  by_cases c : b > a
  · rw [if_pos c]; omega
  · rw [if_neg c]; omega
theorem nodup_le5 {l : List Int} (nd : l.Nodup) (h : ∀ z ∈ l, In5 z) : l.length ≤ 5 := by
  have h2 : l ⊆ [1, 2, 3, 4, 5] := fun z hz => by
    have := h z hz
    unfold In5 at this
    have : z = 1 ∨ z = 2 ∨ z = 3 ∨ z = 4 ∨ z = 5 := by omega
    simpa using this
  exact List.Nodup.length_le_of_subset nd h2
theorem rowOk_skip {S D : List Int} {d held own : Int} {rides : List Int} {n : Nat} {ts : List Tk} {z : Int} (o : RowOk S D d held own rides n ts) (h : rides[n]? = some z) (hz : In5 z) (c : ¬ max held own < z) : RowOk S D d held own rides (n + 1) ts where
  ok := o.ok
  served := fun r y hr hy => by
    by_cases e : r < n
    · exact o.served r y e hy
    · have er : r = n := by omega
      rw [er, h] at hy
      cases hy
      have hz1 : 1 ≤ z := hz.1
      rcases o.owns with g | ⟨x, g1, g2⟩
      · exact .inl (by omega)
      · by_cases e2 : z ≤ held
        · exact .inl e2
        · exact .inr (.inl ⟨x, g1, by omega⟩)
  owns := o.owns
  cost := by rw [sgSum_take h, if_neg c, Int.add_zero]; exact o.cost
  len := by have := o.len; omega
theorem rowOk_sg {S D : List Int} {d held own : Int} {rides : List Int} {n : Nat} {ts : List Tk} {z b : Int} (o : RowOk S D d held own rides n ts) (h : rides[n]? = some z) (hb : In5 b) (hzb : z ≤ b) (e : pr S b = low S z) (c : max held own < z) :
    RowOk S D d held own rides (n + 1) (ts ++ [.sg d (n : Nat) b (pr S b)]) where
  ok := fun t ht => by
    rcases List.mem_append.mp ht with g | g
    · exact o.ok t g
    · have g : t = .sg d (n : Nat) b (pr S b) := by simpa using g
      exact .inr ⟨n, b, g, (List.getElem?_eq_some_iff.mp h).1, hb⟩
  served := fun r y hr hy => by
    by_cases e : r < n
    · rcases o.served r y e hy with g | ⟨x, g1, g2⟩ | ⟨x, g1, g2⟩
      · exact .inl g
      · exact .inr (.inl ⟨x, List.mem_append.mpr (.inl g1), g2⟩)
      · exact .inr (.inr ⟨x, List.mem_append.mpr (.inl g1), g2⟩)
    · have er : r = n := by omega
      rw [er, h] at hy
      cases hy
      exact .inr (.inr ⟨b, List.mem_append.mpr (.inr (by rw [er]; exact List.mem_singleton.mpr rfl)), hzb⟩)
  owns := by
    rcases o.owns with g | ⟨x, g1, g2⟩
    · exact .inl g
    · exact .inr ⟨x, List.mem_append.mpr (.inl g1), g2⟩
  cost := by
    rw [tkCost_append, sgSum_take h, if_pos c, o.cost, tkCost_cons, tkCost_nil, ← e]
    show _ + (pr S b + 0) = _
    omega
  len := by have := o.len; rw [List.length_append, List.length_singleton]; omega
/-- two heaps' Same, from what stood ahead of the loop -/
theorem rd_for_day_b3 {p a R : Addr} {d held own : Int} {S D W rides : List Int} {H0 HL H : Hp} {Dn : Ends} {o4 : V} {o7 o8 o9 : Option V} (hR : H R = none) {xs : List V} {ts : List Tk}
    (hx : TkL H xs ts) (ok : RowOk S D d held own rides rides.length ts) (sm : xs.length ≤ 2000)
    (hbest : o4 = .non ∨ ∃ (b : Addr) (ys : List V) (us : List Tk), o4 = .ref b ∧ H b = some (.lst ys) ∧ TkL H ys us ∧ ys.length ≤ 2000)
    (k1 : (o4 = .non ∨ ∃ (b : Addr) (ys : List V) (us : List Tk), o4 = .ref b ∧ H b = some (.lst ys) ∧ TkL H ys us ∧ tkCost ts < tkCost us) → ∀ H', Same (upd H R (.lst xs)) H' → Dn.nx [some (.ref p), some (.int d), some (.ref a), some (.int held), some (.ref R), some (.int own), some (.ref R), o7, o8, o9] H')
    (k2 : (∃ (b : Addr) (ys : List V) (us : List Tk), o4 = .ref b ∧ H b = some (.lst ys) ∧ TkL H ys us ∧ tkCost us ≤ tkCost ts) → ∀ H', Same (upd H R (.lst xs)) H' → Dn.nx [some (.ref p), some (.int d), some (.ref a), some (.int held), some o4, some (.int own), some (.ref R), o7, o8, o9] H') :
    t_for_day_b1_s3 K A w E Dn [some (.ref p), some (.int d), some (.ref a), some (.int held), some o4, some (.int own), some (.ref R), o7, o8, o9] (upd H R (.lst xs)) := by
  unfold t_for_day_b1_s3
  rcases hbest with rfl | ⟨b, ys, us, rfl, hb, hu, sm2⟩
  · walk_at "rd"
    exact k1 (.inl rfl) _ (Same.refl _)
  · have hx' : TkL (upd H R (.lst xs)) xs ts := hx.same (Same.new hR)
    have hu' : TkL (upd H R (.lst xs)) ys us := hu.same (Same.new hR)
    walk_at "rd"
    intro H2 s2
    have hu2 := hu'.same s2
    walk_at "rd"
    intro H3 s3
    walk_at "rd"
    refine ite_d (fun c => ?_) (fun c => ?_)
    · walk_at "rd"
      exact k1 (.inr ⟨b, ys, us, rfl, hb, hu, c⟩) _ (s2.trans s3)
    · exact k2 ⟨b, ys, us, rfl, hb, hu, by omega⟩ _ (s2.trans s3)
/-- the rides one by one -/
theorem rd_for_day_b2 {p a R : Addr} {d held own : Int} {S D W rides : List Int} {H : Hp} {Dn : Ends} {o4 : V} {o7 o8 o9 : Option V} (O : OkT K A) (hR : H R = none) {xs : List V} {ts : List Tk} (hT : Tar A H p S D W) (hS : SqL K H a (rides.map V.int)) (h5 : ∀ z ∈ rides, In5 z) (hl : rides.length ≤ 1000)
    (hx : TkL H xs ts) (ok : RowOk S D d held own rides 0 ts)
    (q : ∀ (H' : Hp) (xs' : List V) (ts' : List Tk) (o7 o8 o9 : Option V), Same H (del H' R) → H' R = some (.lst xs') → TkL (del H' R) xs' ts' → RowOk S D d held own rides rides.length ts' →
      t_for_day_b1_s3 K A w E Dn [some (.ref p), some (.int d), some (.ref a), some (.int held), some o4, some (.int own), some (.ref R), o7, o8, o9] H') :
    t_for_day_b1_s2 K A w E Dn [some (.ref p), some (.int d), some (.ref a), some (.int held), some o4, some (.int own), some (.ref R), o7, o8, o9] (upd H R (.lst xs)) := by
  unfold t_for_day_b1_s2
  have hS' : SqL K (upd H R (.lst xs)) a (rides.map V.int) := sq_new hR hS
  walk_at "rd"
  refine for_enumL (K := K) (a := a) (xs := rides.map V.int) (fun i σ H' => Hold (∃ (o7 o8 o9 : Option V) (xs' : List V) (ts' : List Tk), σ = [some (.ref p), some (.int d), some (.ref a), some (.int held), some o4, some (.int own), some (.ref R), o7, o8, o9] ∧ Same H (del H' R) ∧ H' R = some (.lst xs') ∧ TkL (del H' R) xs' ts' ∧ RowOk S D d held own rides i ts')) ⟨o7, o8, o9, xs, ts, rfl, ?_, upd_same, ?_, ok⟩ ?_ ?_ ?_
  · rw [del_new hR]; exact Same.refl _
  · rw [del_new hR]; exact hx
  · rintro i σ H' _ ⟨o7, o8, o9, xs', ts', rfl, s1, r1, hx, ok⟩
    exact (s1.trans (del_sub _ _)).seq hS
  · rintro i x σ H' T hi ⟨o7, o8, o9, xs', ts', rfl, s1, r1, hx, ok⟩ hT0
    rw [List.getElem?_map] at hi
    obtain ⟨z, hz, rfl⟩ := Option.map_eq_some_iff.mp hi
    have hz5 : In5 z := h5 z (List.mem_iff_getElem?.mpr ⟨i, hz⟩)
    have hir : i < rides.length := (List.getElem?_eq_some_iff.mp hz).1
    walk_at "rd"
    have sT : Same H' (upd H' T (.tup [V.int (i : Nat), V.int z])) := Same.new hT0
    have r2 := sT _ _ r1
    have hx2 := hx.same (sT.del2 R)
    have s2 := s1.trans (sT.del2 R)
    generalize upd H' T (.tup [V.int (i : Nat), V.int z]) = H2 at *
    rw [max_if]
    refine ite_d (fun c => ?_) (fun c => ?_)
    · have s2' := s2.trans (del_sub _ _)
      have hT2 := hT.same s2'
      obtain ⟨dx, a1, b1, c1, u, e1, e2, e3, e4⟩ := tar_s hT2
      have cl := O.cl
      have nS := O.nS
      walk_at "rd"
      refine ⟨fun _ b u2 H3 g1 g2 g3 g4 g5 g6 => ?_, fun c => absurd hz5 c⟩
      walk_at "rd"
      intro v hv
      have r3 := g4 _ _ r2
      have sv : Same H3 (upd H3 v (.tup [V.str "single", V.int d, V.int (i : Nat), V.int b, V.int (low S z)])) := Same.new hv
      have nv : v ≠ R := ne_sym (ne_of_none r3 hv)
      have lx := hx2.len
      have lt := ok.len
      walk_at "rd"
      refine ⟨_, _, _, xs' ++ [.ref v], ts' ++ [.sg d (i : Nat) b (pr S b)], rfl, ?_, upd_same, ?_, rowOk_sg ok hz ⟨by have := hz5.1; omega, g2⟩ g1 g3 c⟩
      · rw [del_upd]
        exact s2.trans ((g4.trans sv).del2 R)
      · rw [del_upd]
        refine (hx2.same ((g4.trans sv).del2 R)).snoc ?_
        rw [del_ne nv, upd_same, g3]
        rfl
    · exact ⟨_, _, _, xs', ts', rfl, s2, r2, hx2, rowOk_skip ok hz hz5 c⟩
  · rintro σ H' ⟨o7, o8, o9, xs', ts', rfl, s1, r1, hx, ok⟩
    rw [List.length_map] at ok
    exact q H' xs' ts' _ _ _ s1 r1 hx ok
/-- one turn: a day ticket for so many zones, or none -/
theorem rd_for_day_b1 {p a : Addr} {d held own : Int} {S D W rides : List Int} {H : Hp} {Dn : Ends} {o4 : V} {o6 o7 o8 o9 : Option V} (O : OkT K A) (hT : Tar A H p S D W) (hS : SqL K H a (rides.map V.int)) (h5 : ∀ z ∈ rides, In5 z) (hl : rides.length ≤ 1000) (ho : own = 0 ∨ In5 own)
    (hbest : o4 = .non ∨ ∃ (b : Addr) (ys : List V) (us : List Tk), o4 = .ref b ∧ H b = some (.lst ys) ∧ TkL H ys us ∧ ys.length ≤ 2000)
    (q : ∀ (H' : Hp) (R : Addr) (xs : List V) (ts : List Tk) (o7 o8 o9 : Option V) (v : V), Same H H' → H R = none → H' R = some (.lst xs) → TkL H' xs ts → RowOk S D d held own rides rides.length ts →
      ((v = .ref R ∧ (o4 = .non ∨ ∃ (b : Addr) (ys : List V) (us : List Tk), o4 = .ref b ∧ H b = some (.lst ys) ∧ TkL H ys us ∧ tkCost ts < tkCost us)) ∨ (v = o4 ∧ ∃ (b : Addr) (ys : List V) (us : List Tk), o4 = .ref b ∧ H b = some (.lst ys) ∧ TkL H ys us ∧ tkCost us ≤ tkCost ts)) →
      Dn.nx [some (.ref p), some (.int d), some (.ref a), some (.int held), some v, some (.int own), some (.ref R), o7, o8, o9] H') :
    t_for_day_b1 K A w E Dn [some (.ref p), some (.int d), some (.ref a), some (.int held), some o4, some (.int own), o6, o7, o8, o9] H := by
  unfold t_for_day_b1 t_for_day_b1_s1
  walk_at "rd"
  intro R hR
  have fin : ∀ (Hb : Hp) (xs : List V) (ts : List Tk) (o7 o8 o9 : Option V), Same H Hb → Hb R = none → TkL Hb xs ts → RowOk S D d held own rides 0 ts →
      t_for_day_b1_s2 K A w E Dn [some (.ref p), some (.int d), some (.ref a), some (.int held), some o4, some (.int own), some (.ref R), o7, o8, o9] (upd Hb R (.lst xs)) := by
    intro Hb xs ts o7 o8 o9 sb hb hx ok
    refine rd_for_day_b2 (p := p) (W := W) O hb (hT.same sb) (sb.seq hS) h5 hl hx ok fun H' xs' ts' o7 o8 o9 s1 r1 hx1 ok1 => ?_
    have e : H' = upd (del H' R) R (.lst xs') := (upd_del_self r1).symm
    rw [e]
    have s2 : Same H (del H' R) := sb.trans s1
    have sx : Same (del H' R) (upd (del H' R) R (.lst xs')) := Same.new del_at
    have lx := hx1.len
    have lt := ok1.len
    refine rd_for_day_b3 (H0 := H) (HL := H) (S := S) (D := D) (W := W) (rides := rides) del_at hx1 ok1 (by omega) ?_ (fun g H'' s => ?_) (fun g H'' s => ?_)
    · rcases hbest with g | ⟨b, ys, us, g1, g2, g3, g4⟩
      · exact .inl g
      · exact .inr ⟨b, ys, us, g1, s2 _ _ g2, g3.same s2, g4⟩
    · refine q H'' R xs' ts' _ _ _ _ ((s2.trans sx).trans s) hR (s _ _ upd_same) (hx1.same (sx.trans s)) ok1 (.inl ⟨rfl, ?_⟩)
      rcases g with g | ⟨b, ys, us, g1, g2, g3, g4⟩
      · exact .inl g
      · rcases hbest with z | ⟨b', ys', us', z1, z2, z3, z4⟩
        · exact .inl z
        · exact .inr ⟨b', ys', us', z1, z2, z3, by
            rw [z1] at g1
            cases g1
            have e1 := (s2 _ _ z2).symm.trans g2
            cases e1
            rw [(z3.same s2).inj g3]
            exact g4⟩
    · refine q H'' R xs' ts' _ _ _ _ ((s2.trans sx).trans s) hR (s _ _ upd_same) (hx1.same (sx.trans s)) ok1 (.inr ⟨rfl, ?_⟩)
      obtain ⟨b, ys, us, g1, g2, g3, g4⟩ := g
      rcases hbest with z | ⟨b', ys', us', z1, z2, z3, z4⟩
      · rw [z] at g1
        cases g1
      · exact ⟨b', ys', us', z1, z2, z3, by
          rw [z1] at g1
          cases g1
          have e1 := (s2 _ _ z2).symm.trans g2
          cases e1
          rw [(z3.same s2).inj g3]
          exact g4⟩
  walk_at "rd"
  refine ite_d (fun c => ?_) (fun c => ?_)
  · have ho5 : In5 own := by
      rcases ho with g | g
      · omega
      · exact g
    have sR : Same H (upd H R (.lst [])) := Same.new hR
    have hT2 := hT.same sR
    obtain ⟨dx, a1, b1, c1, u, e1, e2, e3, e4⟩ := tar_d hT2
    have cl := O.cl
    have nD := O.nD
    walk_at "rd"
    refine ⟨fun _ b u2 H3 g1 g2 g3 g4 g5 g6 => ?_, fun c => absurd ho5 c⟩
    walk_at "rd"
    intro v hv
    have r3 := g4 _ _ (upd_same (H := H) (a := R) (o := .lst []))
    have sv : Same H3 (upd H3 v (.tup [V.str "day", V.int d, V.int b, V.int (low D own)])) := Same.new hv
    have nv : v ≠ R := ne_sym (ne_of_none r3 hv)
    walk_at "rd"
    rw [← upd_del]
    refine fin _ [.ref v] [.dy d b (pr D b)] _ _ _ ?_ del_at ?_ ?_
    · have := (g4.trans sv).del2 R
      rw [del_new hR] at this
      exact this
    · refine .cons ⟨v, rfl, ?_⟩ .nil
      rw [del_ne nv, upd_same, g3]
      rfl
    · refine ⟨fun t ht => .inl ⟨b, by simpa using ht, by have := ho5.1; omega, g2⟩, fun r z hr => absurd hr (Nat.not_lt_zero _), .inr ⟨b, List.mem_singleton.mpr rfl, g1⟩, ?_, by simp⟩
      rw [tkCost_cons, tkCost_nil]
      unfold ownCost
      rw [if_pos c]
      show pr D b + 0 = low D own + 0
      rw [g3]
  · have ho0 : own = 0 := by
      rcases ho with g | g
      · exact g
      · have := g.1; omega
    walk_at "rd"
    refine fin H [] [] _ _ _ (Same.refl _) hR .nil ⟨fun t ht => by simp at ht, fun r z hr => absurd hr (Nat.not_lt_zero _), .inl (by omega), ?_, by simp⟩
    unfold ownCost
    rw [if_neg c]
    rfl
theorem rowOk_day {S D : List Int} {d held own : Int} {rides : List Int} {ts : List Tk} (o : RowOk S D d held own rides rides.length ts) : DayOk S D d held rides ts :=
  ⟨o.ok, fun r z h => o.served r z (List.getElem?_eq_some_iff.mp h).1 h⟩
theorem rowOk_cost {S D : List Int} {d held own : Int} {rides : List Int} {ts : List Tk} (o : RowOk S D d held own rides rides.length ts) : tkCost ts = dayCost S D held rides own := by
  have := o.cost
  rw [List.take_length] at this
  exact this
theorem lowL_snoc {l : List Int} {x : Int} (h : l ≠ []) : lowL (l ++ [x]) = min (lowL l) x := by
  by_cases c : x < lowL l
  · rw [Int.min_eq_right (by omega)]
    refine lowL_is (by simp) fun y hy => ?_
    rcases List.mem_append.mp hy with g | g
    · have := lowL_le g
      omega
    · have : y = x := by simpa using g
      omega
  · rw [Int.min_eq_left (by omega)]
    refine lowL_is (List.mem_append.mpr (.inl (lowL_mem h))) fun y hy => ?_
    rcases List.mem_append.mp hy with g | g
    · exact lowL_le g
    · have : y = x := by simpa using g
      omega
/-- the same members, the same least value -/
theorem lowL_same {l m : List Int} (hl : l ≠ []) (h : ∀ x, x ∈ l ↔ x ∈ m) : lowL l = lowL m :=
  (lowL_is ((h _).mp (lowL_mem hl)) fun x hx => lowL_le ((h x).mpr hx)).symm
theorem rd_for_day (O : OkT K A) (h : sp_for_day K A vs H Q E) : t_for_day K A w E { nx := fun _ H' => Q .non H', rt := Q } (start N_for_day vs) H := by
  obtain ⟨p, a, d, held, S, D, W, rides, rfl, hT, hS, h5, hl, q⟩ := h
  unfold t_for_day
  walk_at "rd"
  by_cases e : rides = []
  · subst e
    walk_at "rd"
    intro l hl
    refine q l [] [] _ (Same.new hl) hl upd_same .nil ⟨fun t ht => by simp at ht, fun r z h => by simp at h⟩ ?_ (Nat.zero_le _)
    rfl
  · have en : (rides.map V.int).isEmpty = false := by
      cases rides with
      | nil => exact absurd rfl e
      | cons _ _ => rfl
    rw [en]
    unfold t_for_day_s1 t_for_day_s2
    walk_at "rd"
    intro l0 hl0
    have s0 : Same H (upd H l0 (.lst [V.int 0])) := Same.new hl0
    walk_at "rd"
    intro g out hg nd mem
    have l5 := nodup_le5 nd fun z hz => h5 z ((mem z).mp hz)
    have sg : Same (upd H l0 (.lst [V.int 0])) (upd (upd H l0 (.lst [V.int 0])) g (SetO w g (fun j => decide (j ∈ rides)) out.length)) := Same.new hg
    walk_at "rd"
    intro ns u hns hmem hlen hu
    have su : Same (upd (upd H l0 (.lst [V.int 0])) g (SetO w g (fun j => decide (j ∈ rides)) out.length)) (upd (upd (upd H l0 (.lst [V.int 0])) g (SetO w g (fun j => decide (j ∈ rides)) out.length)) u (.lst (ns.map V.int))) := Same.new hu
    have f0 := su _ _ (sg _ _ (upd_same (H := H) (a := l0) (o := .lst [V.int 0])))
    walk_at "rd"
    intro v hv
    have sL : Same H (upd (upd (upd (upd H l0 (.lst [V.int 0])) g (SetO w g (fun j => decide (j ∈ rides)) out.length)) u (.lst (ns.map V.int))) v (.lst ([V.int 0] ++ ns.map V.int))) := ((s0.trans sg).trans su).trans (Same.new hv)
    have eL : (upd (upd (upd (upd H l0 (.lst [V.int 0])) g (SetO w g (fun j => decide (j ∈ rides)) out.length)) u (.lst (ns.map V.int))) v (.lst ([V.int 0] ++ ns.map V.int))) v = some (.lst ((0 :: ns).map V.int)) := upd_same
    generalize upd (upd (upd (upd H l0 (.lst [V.int 0])) g (SetO w g (fun j => decide (j ∈ rides)) out.length)) u (.lst (ns.map V.int))) v (.lst ([V.int 0] ++ ns.map V.int)) = HL at *
    walk_at "rd"
    refine for_list (K := K) (a := v) (xs := (0 :: ns).map V.int) (fun i σ H' => Hold (∃ (o4 : V) (o5 o6 o7 o8 o9 : Option V), σ = [some (.ref p), some (.int d), some (.ref a), some (.int held), some o4, o5, o6, o7, o8, o9] ∧ Same HL H' ∧
      ((i = 0 ∧ o4 = .non) ∨ ∃ (b : Addr) (ys : List V) (us : List Tk), o4 = .ref b ∧ H b = none ∧ H' b = some (.lst ys) ∧ TkL H' ys us ∧ DayOk S D d held rides us ∧ tkCost us = lowL (((0 :: ns).take i).map (dayCost S D held rides)) ∧ us.length ≤ rides.length + 1 ∧ 0 < i)))
      ⟨.non, _, _, _, _, _, rfl, Same.refl _, .inl ⟨rfl, rfl⟩⟩ (fun i σ H' _ ⟨_, _, _, _, _, _, _, s, _⟩ => SqL.of (s _ _ eL)) ?_ ?_
    · rintro i x σ H' hx ⟨o4, o5, o6, o7, o8, o9, rfl, s, hb⟩
      rw [List.getElem?_map] at hx
      obtain ⟨own, hown, rfl⟩ := Option.map_eq_some_iff.mp hx
      have mo : own ∈ 0 :: ns := List.mem_iff_getElem?.mpr ⟨i, hown⟩
      have ho : own = 0 ∨ In5 own := by
        rcases List.mem_cons.mp mo with g | g
        · exact .inl g
        · exact .inr (h5 _ (by simpa using (hmem own).mp g))
      have sH := sL.trans s
      have et : (0 :: ns).take (i + 1) = (0 :: ns).take i ++ [own] := by rw [List.take_add_one, hown]; rfl
      refine rd_for_day_b1 (p := p) (S := S) (D := D) (W := W) (rides := rides) O (hT.same sH) (sH.seq hS) h5 hl ho ?_ ?_
      · rcases hb with ⟨_, g⟩ | ⟨b, ys, us, g1, _, g2, g3, _, _, g6, _⟩
        · exact .inl g
        · exact .inr ⟨b, ys, us, g1, g2, g3, by rw [g3.len]; omega⟩
      · intro H2 R xs ts o7 o8 o9 v4 s2 hR r2 hx ok hv
        refine ⟨v4, _, _, _, _, _, rfl, s.trans s2, .inr ?_⟩
        have hR0 : H R = none := sH.free hR
        rcases hv with ⟨rfl, hv⟩ | ⟨rfl, b', ys', us', z1, z2, z3, z4⟩
        · refine ⟨R, xs, ts, rfl, hR0, r2, hx, rowOk_day ok, ?_, ok.len, Nat.succ_pos _⟩
          rw [et, List.map_append, rowOk_cost ok]
          rcases hb with ⟨g0, _⟩ | ⟨b, ys, us, g1, g1', g2, g3, g4, g5, g6, g7⟩
          · rw [g0]; rfl
          · have hne : ((0 :: ns).take i).map (dayCost S D held rides) ≠ [] := by
              cases i with
              | zero => exact absurd g7 (Nat.lt_irrefl _)
              | succ _ => simp
            show _ = lowL (_ ++ [dayCost S D held rides own])
            rw [lowL_snoc hne, ← g5]
            rcases hv with z | ⟨b', ys', us', z1, z2, z3, z4⟩
            · rw [z] at g1; cases g1
            · rw [z1] at g1
              cases g1
              cases z2.symm.trans g2
              rw [z3.inj g3, rowOk_cost ok] at z4
              omega
        · rcases hb with ⟨_, g⟩ | ⟨b, ys, us, g1, g1', g2, g3, g4, g5, g6, g7⟩
          · rw [z1] at g; cases g
          · have hne : ((0 :: ns).take i).map (dayCost S D held rides) ≠ [] := by
              cases i with
              | zero => exact absurd g7 (Nat.lt_irrefl _)
              | succ _ => simp
            refine ⟨b, ys, us, g1, g1', s2 _ _ g2, g3.same s2, g4, ?_, g6, Nat.succ_pos _⟩
            rw [et, List.map_append]
            show _ = lowL (_ ++ [dayCost S D held rides own])
            rw [lowL_snoc hne, ← g5]
            rw [z1] at g1
            cases g1
            cases z2.symm.trans g2
            rw [z3.inj g3, rowOk_cost ok] at z4
            omega
    · rintro σ H' ⟨o4, o5, o6, o7, o8, o9, rfl, s, hb⟩
      unfold t_for_day_s3
      rcases hb with ⟨g0, _⟩ | ⟨b, ys, us, rfl, g1', g2, g3, g4, g5, g6, g7⟩
      · simp at g0
      · walk_at "rd"
        have e1 : 0 < rides.length := List.length_pos_iff.mpr e
        refine q b ys us H' (sL.trans s) g1' g2 g3 g4 ?_ (by omega)
        rw [List.length_map, List.take_length] at g5
        rw [g5]
        unfold dayBest
        refine lowL_same (by simp) fun x => ?_
        have mm : ∀ k, k ∈ 0 :: ns ↔ k ∈ 0 :: rides := fun k => by
          rw [List.mem_cons, List.mem_cons, hmem k]
          simp
        constructor
        · intro hx
          obtain ⟨k, hk, rfl⟩ := List.mem_map.mp hx
          exact List.mem_map.mpr ⟨k, (mm k).mp hk, rfl⟩
        · intro hx
          obtain ⟨k, hk, rfl⟩ := List.mem_map.mp hx
          exact List.mem_map.mpr ⟨k, (mm k).mpr hk, rfl⟩
/-! ### a week -/
theorem len_flatten {days : List (List Int)} {r : List Int} (h : r ∈ days) : r.length ≤ days.flatten.length := by
  induction days with
  | nil => simp at h
  | cons a l ih =>
    rw [List.flatten_cons, List.length_append]
    rcases List.mem_cons.mp h with e | h
    · rw [e]; omega
    · have := ih h; omega
theorem len_take_flatten (days : List (List Int)) (i : Nat) : (days.take i).flatten.length ≤ days.flatten.length := by
  have e : days.flatten = (days.take i).flatten ++ (days.drop i).flatten := by rw [← List.flatten_append, List.take_append_drop]
  rw [e, List.length_append]
  omega
structure WRow (S D W : List Int) (held : Int) (days : List (List Int)) (n : Nat) (ts : List Tk) : Prop where
  ok : ∀ t ∈ ts, (∃ z, t = .wk z (pr W z) ∧ In5 z) ∨ (∃ (d : Nat) (z : Int), t = .dy d z (pr D z) ∧ d < days.length ∧ In5 z) ∨
    ∃ (d r : Nat) (z : Int) (rides : List Int), t = .sg d r z (pr S z) ∧ days[d]? = some rides ∧ r < rides.length ∧ In5 z
  served : ∀ (d r : Nat) (rides : List Int) (z : Int), d < n → days[d]? = some rides → rides[r]? = some z → z ≤ held ∨ (∃ y, .dy d y (pr D y) ∈ ts ∧ z ≤ y) ∨ ∃ y, .sg d r y (pr S y) ∈ ts ∧ z ≤ y
  owns : held ≤ 0 ∨ ∃ y, .wk y (pr W y) ∈ ts ∧ held ≤ y
  cost : tkCost ts = ownCost W held + ((days.take n).map (dayBest S D held)).sum
  len : ts.length ≤ 2 * (days.take n).flatten.length + held.toNat
theorem wRow_next {S D W : List Int} {held : Int} {days : List (List Int)} {n : Nat} {ts us : List Tk} {rides : List Int} (o : WRow S D W held days n ts) (h : days[n]? = some rides) (g : DayOk S D (n : Nat) held rides us) (c : tkCost us = dayBest S D held rides) (l : us.length ≤ 2 * rides.length) :
    WRow S D W held days (n + 1) (ts ++ us) where
  ok := fun t ht => by
    rcases List.mem_append.mp ht with m | m
    · exact o.ok t m
    · rcases g.ok t m with ⟨z, e, h5⟩ | ⟨r, z, e, hr, h5⟩
      · exact .inr (.inl ⟨n, z, e, (List.getElem?_eq_some_iff.mp h).1, h5⟩)
      · exact .inr (.inr ⟨n, r, z, rides, e, h, hr, h5⟩)
  served := fun d r rs z hd hrs hz => by
    by_cases e : d < n
    · rcases o.served d r rs z e hrs hz with m | ⟨y, m1, m2⟩ | ⟨y, m1, m2⟩
      · exact .inl m
      · exact .inr (.inl ⟨y, List.mem_append.mpr (.inl m1), m2⟩)
      · exact .inr (.inr ⟨y, List.mem_append.mpr (.inl m1), m2⟩)
    · have ed : d = n := by omega
      subst ed
      rw [h] at hrs
      cases hrs
      rcases g.served r z hz with m | ⟨y, m1, m2⟩ | ⟨y, m1, m2⟩
      · exact .inl m
      · exact .inr (.inl ⟨y, List.mem_append.mpr (.inr m1), m2⟩)
      · exact .inr (.inr ⟨y, List.mem_append.mpr (.inr m1), m2⟩)
  owns := by
    rcases o.owns with m | ⟨y, m1, m2⟩
    · exact .inl m
    · exact .inr ⟨y, List.mem_append.mpr (.inl m1), m2⟩
  cost := by
    rw [tkCost_append, o.cost, c, List.take_add_one, h, Option.toList_some, List.map_append, List.sum_append]
    simp only [List.map_cons, List.map_nil, List.sum_cons, List.sum_nil]
    omega
  len := by
    have := o.len
    rw [List.length_append, List.take_add_one, h, Option.toList_some, List.flatten_append, List.length_append]
    simp only [List.flatten_cons, List.flatten_nil, List.append_nil]
    omega
theorem rd_for_week3 {p a R : Addr} {held : Int} {S D W : List Int} {days : List (List Int)} {H : Hp} {o4 o5 o6 : Option V} {Dn : Ends} (O : OkT K A) (hR : H R = none) {xs : List V} {ts : List Tk} (hT : Tar A H p S D W) (hL : LL K H a days) (h5 : ∀ r ∈ days, ∀ z ∈ r, In5 z) (hl : days.flatten.length ≤ 1000) (hd : days.length ≤ 20) (hh : held ≤ 5)
    (hx : TkL H xs ts) (ok : WRow S D W held days 0 ts)
    (q : ∀ (H' : Hp) (xs' : List V) (ts' : List Tk), Same H (del H' R) → H' R = some (.lst xs') → TkL (del H' R) xs' ts' → WRow S D W held days days.length ts' → Dn.rt (.ref R) H') :
    t_for_week_s2 K A E Dn [some (.ref p), some (.ref a), some (.int held), some (.ref R), o4, o5, o6] (upd H R (.lst xs)) := by
  unfold t_for_week_s2
  obtain ⟨ps, hps⟩ := hL
  have sq0 := sq_new (o := .lst xs) hR hps.sq
  walk_at "rd"
  refine for_enumL (K := K) (a := a) (xs := ps.map V.ref) (fun i σ H' => Hold (∃ (o5 o6 : Option V) (xs' : List V) (ts' : List Tk), σ = [some (.ref p), some (.ref a), some (.int held), some (.ref R), o4, o5, o6] ∧ Same H (del H' R) ∧ H' R = some (.lst xs') ∧ TkL (del H' R) xs' ts' ∧ WRow S D W held days i ts')) ⟨o5, o6, xs, ts, rfl, ?_, upd_same, ?_, ok⟩ ?_ ?_ ?_
  · rw [del_new hR]; exact Same.refl _
  · rw [del_new hR]; exact hx
  · rintro i σ H' _ ⟨o5, o6, xs', ts', rfl, s1, r1, hx, ok⟩
    exact (s1.trans (del_sub _ _)).seq hps.sq
  · rintro i x σ H' T hi ⟨o5, o6, xs', ts', rfl, s1, r1, hx, ok⟩ hT0
    rw [List.getElem?_map] at hi
    obtain ⟨u, hu, rfl⟩ := Option.map_eq_some_iff.mp hi
    have hil : i < days.length := by rw [← hps.len]; exact (List.getElem?_eq_some_iff.mp hu).1
    have hr : days[i]? = some days[i] := List.getElem?_eq_getElem hil
    have hrm : days[i] ∈ days := List.getElem_mem hil
    have hdu := hps.at_ i u _ hu hr
    have sT : Same H' (upd H' T (.tup [V.int (i : Nat), V.ref u])) := Same.new hT0
    have s2 : Same H (del (upd H' T (.tup [V.int (i : Nat), V.ref u])) R) := s1.trans (sT.del2 R)
    have s2' := s2.trans (del_sub _ _)
    have hT2 := hT.same s2'
    have hdu2 := SqL.of (K := K) (s2' _ _ hdu)
    have r2 := sT _ _ r1
    have lx := hx.len
    have lt := ok.len
    have b5 := h5 _ hrm
    have b6 := Nat.le_trans (len_flatten hrm) hl
    have b7 := len_take_flatten days i
    walk_at "rd"
    intro l ys us H3 s3 hl3 e3 hy dok dc dl
    have r3 := s3 _ _ r2
    have ly := hy.len
    walk_at "rd"
    refine ⟨_, _, xs' ++ ys, ts' ++ us, rfl, ?_, upd_same, ?_, wRow_next ok hr dok dc dl⟩
    · rw [del_upd]
      exact s2.trans (s3.del2 R)
    · rw [del_upd]
      exact (hx.same ((sT.trans s3).del2 R)).app (hy.del r3)
  · rintro σ H' ⟨o5, o6, xs', ts', rfl, s1, r1, hx, ok⟩
    rw [List.length_map, hps.len] at ok
    unfold t_for_week_s3
    walk_at "rd"
    exact q H' xs' ts' s1 r1 hx ok
theorem wRow_week {S D W : List Int} {held : Int} {days : List (List Int)} {ts : List Tk} (o : WRow S D W held days days.length ts) (h5 : ∀ r ∈ days, ∀ z ∈ r, In5 z) : WeekOk S D W days ts :=
  ⟨o.ok, fun d r rides z hd hr => by
    rcases o.served d r rides z (List.getElem?_eq_some_iff.mp hd).1 hd hr with m | m | m
    · have z1 : 1 ≤ z := (h5 _ (List.mem_of_getElem? hd) _ (List.mem_of_getElem? hr)).1
      rcases o.owns with g | ⟨y, g1, g2⟩
      · omega
      · exact .inl ⟨y, g1, by omega⟩
    · exact .inr (.inl m)
    · exact .inr (.inr m)⟩
theorem rd_for_week (O : OkT K A) (h : sp_for_week K A vs H Q E) : t_for_week K A E { nx := fun _ H' => Q .non H', rt := Q } (start N_for_week vs) H := by
  obtain ⟨p, a, held, S, D, W, days, rfl, hT, hL, h5, hl, hd, h0, hh, q⟩ := h
  unfold t_for_week t_for_week_s1
  walk_at "rd"
  intro R hR
  have fin : ∀ (Hb : Hp) (xs : List V) (ts : List Tk) (o4 o5 o6 : Option V), Same H Hb → Hb R = none → TkL Hb xs ts → WRow S D W held days 0 ts →
      t_for_week_s2 K A E { nx := fun _ H' => Q .non H', rt := Q } [some (.ref p), some (.ref a), some (.int held), some (.ref R), o4, o5, o6] (upd Hb R (.lst xs)) := by
    intro Hb xs ts o4 o5 o6 sb hb hx ok
    refine rd_for_week3 O hb (hT.same sb) (hL.same sb) h5 hl hd hh hx ok fun H' xs' ts' s1 r1 hx1 ok1 => ?_
    have s2 := sb.trans s1
    have lt := ok1.len
    have cost := ok1.cost
    rw [List.take_length] at cost
    exact q R xs' ts' H' (s2.trans (del_sub _ _)) hR r1 (hx1.same (del_sub _ _)) (wRow_week ok1 h5) cost (by rw [List.take_length] at lt; exact lt)
  walk_at "rd"
  refine ite_d (fun c => ?_) (fun c => ?_)
  · have sR : Same H (upd H R (.lst [])) := Same.new hR
    have hT2 := hT.same sR
    obtain ⟨dx, a1, b1, c1, u, e1, e2, e3, e4⟩ := tar_w hT2
    have cl := O.cl
    have nW := O.nW
    walk_at "rd"
    refine ⟨fun _ b u2 H3 g1 g2 g3 g4 g5 g6 => ?_, fun c => absurd (show 1 ≤ held ∧ held ≤ 5 by omega) c⟩
    walk_at "rd"
    intro v hv
    have r3 := g4 _ _ (upd_same (H := H) (a := R) (o := .lst []))
    have sv : Same H3 (upd H3 v (.tup [V.str "week", V.int b, V.int (low W held)])) := Same.new hv
    have nv : v ≠ R := ne_sym (ne_of_none r3 hv)
    walk_at "rd"
    rw [← upd_del]
    refine fin _ [.ref v] [.wk b (pr W b)] _ _ _ ?_ del_at ?_ ?_
    · have := (g4.trans sv).del2 R
      rw [del_new hR] at this
      exact this
    · refine .cons ⟨v, rfl, ?_⟩ .nil
      rw [del_ne nv, upd_same, g3]
      rfl
    · refine ⟨fun t ht => .inl ⟨b, by simpa using ht, by omega, g2⟩, fun d r rs z hr => absurd hr (Nat.not_lt_zero _), .inr ⟨b, List.mem_singleton.mpr rfl, g1⟩, ?_, by rw [List.length_singleton]; omega⟩
      rw [tkCost_cons, tkCost_nil]
      unfold ownCost
      rw [if_pos c]
      show pr W b + 0 = low W held + 0
      rw [g3]
  · walk_at "rd"
    refine fin H [] [] _ _ _ (Same.refl _) hR .nil ⟨fun t ht => by simp at ht, fun d r rs z hr => absurd hr (Nat.not_lt_zero _), .inl (by omega), ?_, by simp⟩
    unfold ownCost
    rw [if_neg c]
    rfl
/-! ### the least -/
/-- the best of all weeks' tickets -/
theorem rd_least3 {p a F : Addr} {S D W : List Int} {days : List (List Int)} {H : Hp} {o2 o3 o5 o6 o7 : Option V} {Dn : Ends} (O : OkT K A) (hT : Tar A H p S D W) (hL : LL K H a days) (hF : SqL K H F (days.flatten.map V.int)) (h5 : ∀ r ∈ days, ∀ z ∈ r, In5 z) (hl : days.flatten.length ≤ 1000) (hd : days.length ≤ 20)
    (q : ∀ (t l : Addr) (xs : List V) (ts : List Tk) (H' : Hp), Same H H' → H l = none → H t = none → H' t = some (.tup [.int (weekBest S D W days), .ref l]) → H' l = some (.lst xs) → TkL H' xs ts → WeekOk S D W days ts → tkCost ts = weekBest S D W days → ts.length ≤ 7 * days.flatten.length → Dn.rt (.ref t) H') :
    t_least_s3 K A w E Dn [some (.ref p), some (.ref a), o2, o3, some (.ref F), o5, o6, o7] H := by
  unfold t_least_s3 t_least_s4
  have f5 : ∀ z ∈ days.flatten, In5 z := fun z hz => by
    obtain ⟨r, hr, hz⟩ := List.mem_flatten.mp hz
    exact h5 r hr z hz
  walk_at "rd"
  intro l0 hl0
  have s0 : Same H (upd H l0 (.lst [V.int 0])) := Same.new hl0
  walk_at "rd"
  intro g out hg nd mem
  have l5 := nodup_le5 nd fun z hz => f5 z ((mem z).mp hz)
  have sg : Same (upd H l0 (.lst [V.int 0])) (upd (upd H l0 (.lst [V.int 0])) g (SetO w g (fun j => decide (j ∈ days.flatten)) out.length)) := Same.new hg
  walk_at "rd"
  intro ns u hns hmem hlen hu
  have su : Same (upd (upd H l0 (.lst [V.int 0])) g (SetO w g (fun j => decide (j ∈ days.flatten)) out.length)) (upd (upd (upd H l0 (.lst [V.int 0])) g (SetO w g (fun j => decide (j ∈ days.flatten)) out.length)) u (.lst (ns.map V.int))) := Same.new hu
  have f0 := su _ _ (sg _ _ (upd_same (H := H) (a := l0) (o := .lst [V.int 0])))
  walk_at "rd"
  intro v hv
  have sL : Same H (upd (upd (upd (upd H l0 (.lst [V.int 0])) g (SetO w g (fun j => decide (j ∈ days.flatten)) out.length)) u (.lst (ns.map V.int))) v (.lst ([V.int 0] ++ ns.map V.int))) := ((s0.trans sg).trans su).trans (Same.new hv)
  have eL : (upd (upd (upd (upd H l0 (.lst [V.int 0])) g (SetO w g (fun j => decide (j ∈ days.flatten)) out.length)) u (.lst (ns.map V.int))) v (.lst ([V.int 0] ++ ns.map V.int))) v = some (.lst ((0 :: ns).map V.int)) := upd_same
  generalize upd (upd (upd (upd H l0 (.lst [V.int 0])) g (SetO w g (fun j => decide (j ∈ days.flatten)) out.length)) u (.lst (ns.map V.int))) v (.lst ([V.int 0] ++ ns.map V.int)) = HL at *
  walk_at "rd"
  refine for_list (K := K) (a := v) (xs := (0 :: ns).map V.int) (fun i σ H' => Hold (∃ (o5 : V) (o6 o7 : Option V), σ = [some (.ref p), some (.ref a), o2, o3, some (.ref F), some o5, o6, o7] ∧ Same HL H' ∧
    ((i = 0 ∧ o5 = .non) ∨ ∃ (b : Addr) (ys : List V) (us : List Tk), o5 = .ref b ∧ H b = none ∧ H' b = some (.lst ys) ∧ TkL H' ys us ∧ WeekOk S D W days us ∧ tkCost us = lowL (((0 :: ns).take i).map (weekCost S D W days)) ∧ us.length ≤ 7 * days.flatten.length ∧ 0 < i)))
    ⟨.non, _, _, rfl, Same.refl _, .inl ⟨rfl, rfl⟩⟩ (fun i σ H' _ ⟨_, _, _, _, s, _⟩ => SqL.of (s _ _ eL)) ?_ ?_
  · rintro i x σ H' hx ⟨o5, o6, o7, rfl, s, hb⟩
    rw [List.getElem?_map] at hx
    obtain ⟨own, hown, rfl⟩ := Option.map_eq_some_iff.mp hx
    have mo : own ∈ 0 :: ns := List.mem_iff_getElem?.mpr ⟨i, hown⟩
    have ho : 0 ≤ own ∧ own ≤ 5 := by
      rcases List.mem_cons.mp mo with g | g
      · omega
      · have := f5 _ (by simpa using (hmem own).mp g)
        exact ⟨by have := this.1; omega, this.2⟩
    have hw : 2 * days.flatten.length + own.toNat ≤ 7 * days.flatten.length := by
      rcases List.mem_cons.mp mo with g | g
      · rw [g]
        omega
      · have hm2 : own ∈ days.flatten := by simpa using (hmem own).mp g
        have := List.length_pos_of_mem hm2
        omega
    have sH := sL.trans s
    have et : (0 :: ns).take (i + 1) = (0 :: ns).take i ++ [own] := by rw [List.take_add_one, hown]; rfl
    have hT2 := hT.same sH
    have hL2 := hL.same sH
    unfold t_least_b1 t_least_b1_s1
    obtain ⟨ho0, ho1⟩ := ho
    walk_at "rd"
    intro R xs ts H2 s2 hR r2 hx wok wc wl
    have lx := hx.len
    replace wl := Nat.le_trans wl hw
    have hR0 : H R = none := sH.free hR
    rcases hb with ⟨g0, rfl⟩ | ⟨b, ys, us, rfl, g1', g2, g3, g4, g5, g6, g7⟩
    · walk_at "rd"
      refine ⟨_, _, _, rfl, s.trans s2, .inr ⟨R, xs, ts, rfl, hR0, r2, hx, wok, ?_, wl, Nat.succ_pos _⟩⟩
      rw [et, List.map_append, wc, g0]
      rfl
    · have hne : ((0 :: ns).take i).map (weekCost S D W days) ≠ [] := by
        cases i with
        | zero => exact absurd g7 (Nat.lt_irrefl _)
        | succ _ => simp
      have b2 := s2 _ _ g2
      have g3' := g3.same s2
      have ly := g3.len
      walk_at "rd"
      intro H3 s3
      have g3'' := g3'.same s3
      walk_at "rd"
      intro H4 s4
      have s24 := s3.trans s4
      walk_at "rd"
      refine ite_d (fun c => ?_) (fun c => ?_)
      · walk_at "rd"
        refine ⟨_, _, _, rfl, (s.trans s2).trans s24, .inr ⟨R, xs, ts, rfl, hR0, s24 _ _ r2, hx.same s24, wok, ?_, wl, Nat.succ_pos _⟩⟩
        rw [et, List.map_append]
        show _ = lowL (_ ++ [weekCost S D W days own])
        rw [lowL_snoc hne, ← g5, ← wc]
        omega
      · refine ⟨_, _, _, rfl, (s.trans s2).trans s24, .inr ⟨b, ys, us, rfl, g1', s24 _ _ b2, g3'.same s24, g4, ?_, g6, Nat.succ_pos _⟩⟩
        rw [et, List.map_append]
        show _ = lowL (_ ++ [weekCost S D W days own])
        rw [lowL_snoc hne, ← g5, ← wc]
        omega
  · rintro σ H' ⟨o5, o6, o7, rfl, s, hb⟩
    unfold t_least_s5
    rcases hb with ⟨g0, _⟩ | ⟨b, ys, us, rfl, g1', g2, g3, g4, g5, g6, g7⟩
    · simp at g0
    · have ly := g3.len
      walk_at "rd"
      intro H2 s2
      walk_at "rd"
      intro t ht
      have st : Same H2 (upd H2 t (.tup [V.int (tkCost us), V.ref b])) := Same.new ht
      have ec : tkCost us = weekBest S D W days := by
        rw [List.length_map, List.take_length] at g5
        rw [g5]
        unfold weekBest
        refine lowL_same (by simp) fun x => ?_
        have mm : ∀ k, k ∈ 0 :: ns ↔ k ∈ 0 :: days.flatten := fun k => by
          rw [List.mem_cons, List.mem_cons, hmem k]
          simp
        constructor
        · intro hx
          obtain ⟨k, hk, rfl⟩ := List.mem_map.mp hx
          exact List.mem_map.mpr ⟨k, (mm k).mp hk, rfl⟩
        · intro hx
          obtain ⟨k, hk, rfl⟩ := List.mem_map.mp hx
          exact List.mem_map.mpr ⟨k, (mm k).mpr hk, rfl⟩
      have sall := (sL.trans s).trans (s2.trans st)
      refine q t b ys us _ sall g1' (((sL.trans s).trans s2).free ht) (by rw [upd_same, ec]) ((s2.trans st) _ _ g2) (g3.same (s2.trans st)) g4 ec g6
theorem rd_least (O : OkT K A) (h : sp_least K A vs H Q E) : t_least K A w E { nx := fun _ H' => Q .non H', rt := Q } (start N_least vs) H := by
  obtain ⟨p, a, S, D, W, days, rfl, hT, hL, hl, hd, k1, k2⟩ := h
  obtain ⟨ps, hps⟩ := id hL
  have psq := hps.sq
  have bad : ∀ r ∈ days, ∀ z ∈ r, ¬ In5 z → E (.ref A.c_BadZones) none H := fun r hr z hz c => k2 fun all => c (all r hr z hz)
  unfold t_least t_least_s1
  walk_at "rd"
  refine for_list (K := K) (a := a) (xs := ps.map V.ref) (fun i σ H' => Hold (H' = H ∧ ∃ (o2 o3 : Option V), σ = [some (.ref p), some (.ref a), o2, o3, none, none, none, none] ∧ ∀ r ∈ days.take i, ∀ z ∈ r, In5 z)) ⟨rfl, none, none, rfl, fun r hr => by simp at hr⟩ (fun i σ H' _ ⟨e, _⟩ => by rw [e]; exact psq) ?_ ?_
  · rintro i x σ H' hx ⟨rfl, o2, o3, rfl, h5⟩
    rw [List.getElem?_map] at hx
    obtain ⟨u, hu, rfl⟩ := Option.map_eq_some_iff.mp hx
    have hil : i < days.length := by rw [← hps.len]; exact (List.getElem?_eq_some_iff.mp hu).1
    have hr : days[i]? = some days[i] := List.getElem?_eq_getElem hil
    have hrm : days[i] ∈ days := List.getElem_mem hil
    have hdu := hps.at_ i u _ hu hr
    have b2 := bad _ hrm
    generalize days[i] = rides at *
    walk_at "rd"
    refine for_list (K := K) (a := u) (xs := rides.map V.int) (fun j σ H2 => Hold (H2 = H' ∧ ∃ o3 : Option V, σ = [some (.ref p), some (.ref a), some (.ref u), o3, none, none, none, none] ∧ ∀ z ∈ rides.take j, In5 z)) ⟨rfl, o3, rfl, fun z hz => by simp at hz⟩ (fun j σ H2 _ ⟨e, _⟩ => by rw [e]; exact SqL.of hdu) ?_ ?_
    · rintro j y σ H2 hy ⟨rfl, o3, rfl, g5⟩
      rw [List.getElem?_map] at hy
      obtain ⟨z, hz, rfl⟩ := Option.map_eq_some_iff.mp hy
      have hzm : z ∈ rides := List.mem_iff_getElem?.mpr ⟨j, hz⟩
      walk_at "rd"
      refine ⟨fun c => ?_, fun c => b2 z hzm c⟩
      refine ⟨rfl, _, rfl, fun y hy => ?_⟩
      rw [List.take_add_one, hz] at hy
      rcases List.mem_append.mp hy with g | g
      · exact g5 y g
      · have : y = z := by simpa using g
        rw [this]
        exact c
    · rintro σ H2 ⟨rfl, o3, rfl, g5⟩
      rw [List.length_map, List.take_length] at g5
      refine ⟨rfl, _, _, rfl, fun r hr' => ?_⟩
      rw [List.take_add_one, hr] at hr'
      rcases List.mem_append.mp hr' with g | g
      · exact h5 r g
      · have : r = rides := by simpa using g
        rw [this]
        exact g5
  · rintro σ H' ⟨rfl, o2, o3, rfl, h5⟩
    rw [List.length_map, hps.len, List.take_length] at h5
    walk_at "rd"
    intro F hF
    unfold t_least_s2
    have psq1 := sq_new (o := .lst []) hF psq
    walk_at "rd"
    refine for_list (K := K) (a := a) (xs := ps.map V.ref) (fun i σ H2 => Hold (Same H' (del H2 F) ∧ H2 F = some (.lst ((days.take i).flatten.map V.int)) ∧ ∃ (o2 : Option V), σ = [some (.ref p), some (.ref a), o2, o3, some (.ref F), none, none, none])) ⟨by rw [del_new hF]; exact Same.refl _, upd_same, o2, rfl⟩ (fun i σ H2 _ ⟨s, _⟩ => (s.trans (del_sub _ _)).seq psq) ?_ ?_
    · rintro i x σ H2 hx ⟨s, f1, o2, rfl⟩
      rw [List.getElem?_map] at hx
      obtain ⟨u, hu, rfl⟩ := Option.map_eq_some_iff.mp hx
      have hil : i < days.length := by rw [← hps.len]; exact (List.getElem?_eq_some_iff.mp hu).1
      have hr : days[i]? = some days[i] := List.getElem?_eq_getElem hil
      have hrm : days[i] ∈ days := List.getElem_mem hil
      have hdu := (s.trans (del_sub _ _)) _ _ (hps.at_ i u _ hu hr)
      have lf : (days.take (i + 1)).flatten.length ≤ 1000 := by
        have e : days.flatten = (days.take (i + 1)).flatten ++ (days.drop (i + 1)).flatten := by rw [← List.flatten_append, List.take_append_drop]
        rw [e, List.length_append] at hl
        omega
      have et : (days.take (i + 1)).flatten = (days.take i).flatten ++ days[i] := by
        rw [List.take_add_one, hr, Option.toList_some, List.flatten_append]
        simp only [List.flatten_cons, List.flatten_nil, List.append_nil]
      rw [et, List.length_append] at lf
      walk_at "rd"
      refine ⟨?_, ?_, _, rfl⟩
      · rw [del_upd]; exact s
      · rw [upd_same, et, List.map_append]
    · rintro σ H2 ⟨s, f1, o2, rfl⟩
      rw [List.length_map, hps.len, List.take_length] at f1
      have s2 := s.trans (del_sub _ _)
      walk_at "rd"
      exact rd_least3 O (hT.same s2) (hL.same s2) (SqL.of f1) h5 hl hd fun t l xs ts H3 s3 hl3 ht3 e1 e2 e3 e4 e5 e6 => k1 h5 t l xs ts H3 (s2.trans s3) (s2.free hl3) (s2.free ht3) e1 e2 e3 e4 e5 e6
end
end FW

/-! Web: the levels, in plain Lean. -/
namespace FW
open PySem PySem.Spec PyProof.Rows L2
abbrev Fnd := List (Option (Int × Nat))
def fd (F : Fnd) (s : Nat) : Option (Int × Nat) := F.getD s none
def zn (zones : List Int) (s : Nat) : Int := zones.getD s 0
def wt (zones : List Int) (a b : Nat) : Int := if zn zones a = zn zones b then 0 else 1
def Lk (links : List (Nat × Nat)) (a b : Nat) : Prop := (a, b) ∈ links ∨ (b, a) ∈ links
theorem Lk.symm {links : List (Nat × Nat)} {a b : Nat} (h : Lk links a b) : Lk links b a := h.elim .inr .inl
theorem wt_symm (zones : List Int) (a b : Nat) : wt zones a b = wt zones b a := by
  unfold wt
  by_cases c : zn zones a = zn zones b
  · rw [if_pos c, if_pos c.symm]
  · rw [if_neg c, if_neg (fun z => c z.symm)]
theorem wt_or (zones : List Int) (a b : Nat) : wt zones a b = 0 ∨ wt zones a b = 1 := by
  unfold wt
  split
  · exact .inl rfl
  · exact .inr rfl
def nbr1 (s : Nat) (p : Nat × Nat) : List Nat := (if p.1 = s then [p.2] else []) ++ (if p.2 = s then [p.1] else [])
def nbr (links : List (Nat × Nat)) (s : Nat) : List Nat := links.flatMap (nbr1 s)
theorem mem_nbr {links : List (Nat × Nat)} {s o : Nat} : o ∈ nbr links s ↔ Lk links s o := by
  unfold nbr Lk
  rw [List.mem_flatMap]
  constructor
  · rintro ⟨⟨a, b⟩, hp, ho⟩
    unfold nbr1 at ho
    rcases List.mem_append.mp ho with h | h
    · by_cases c : a = s
      · rw [if_pos c] at h
        have e := List.mem_singleton.mp h
        rw [e, ← c]
        exact .inl hp
      · rw [if_neg c] at h
        cases h
    · by_cases c : b = s
      · rw [if_pos c] at h
        have e := List.mem_singleton.mp h
        rw [e, ← c]
        exact .inr hp
      · rw [if_neg c] at h
        cases h
  · rintro (h | h)
    · exact ⟨_, h, List.mem_append_left _ (by rw [if_pos rfl]; exact List.mem_singleton.mpr rfl)⟩
    · exact ⟨_, h, List.mem_append_right _ (by rw [if_pos rfl]; exact List.mem_singleton.mpr rfl)⟩
theorem nbr_len (links : List (Nat × Nat)) (s : Nat) : (nbr links s).length ≤ 2 * links.length := by
  unfold nbr
  induction links with
  | nil => exact Nat.le_refl _
  | cons p r ih =>
    rw [List.flatMap_cons, List.length_append, List.length_cons]
    have : (nbr1 s p).length ≤ 2 := by
      unfold nbr1
      rw [List.length_append]
      split <;> split <;> simp
    omega
structure WebOk (zones : List Int) (links : List (Nat × Nat)) : Prop where
  ok : ∀ p ∈ links, p.1 < zones.length ∧ p.2 < zones.length ∧ p.1 ≠ p.2
  hn : zones.length ≤ 70
  hL : links.length ≤ 300
theorem WebOk.lk {zones : List Int} {links : List (Nat × Nat)} (w : WebOk zones links) {a b : Nat} (h : Lk links a b) : a < zones.length ∧ b < zones.length ∧ a ≠ b := by
  rcases h with h | h
  · exact w.ok _ h
  · have := w.ok _ h
    exact ⟨this.2.1, this.1, fun e => this.2.2 e.symm⟩
/-- may the pair be taken at the level k -/
def PairOk (zones : List Int) (links : List (Nat × Nat)) (start : Nat) (k : Int) (F : Fnd) (p : Nat × Nat) : Prop :=
  p.1 < zones.length ∧ p.2 < zones.length ∧ ((p.1 = start ∧ p.2 = start ∧ k = 1) ∨ ∃ lf pf, fd F p.2 = some (lf, pf) ∧ Lk links p.2 p.1 ∧ k = lf + wt zones p.2 p.1)
/-- stops without a level -/
def free (F : Fnd) : Nat := (F.filter Option.isNone).length
theorem free_set : ∀ {F : Fnd} {s : Nat} {x : Int × Nat}, F[s]? = some none → free (F.set s (some x)) + 1 = free F
  | [], s, x, h => by simp at h
  | o :: F, 0, x, h => by
    have e : o = none := Option.some.inj h
    subst e
    rfl
  | o :: F, s + 1, x, h => by
    have ih := free_set (F := F) (s := s) (x := x) h
    unfold free at ih ⊢
    rw [List.set_cons_succ]
    cases o with
    | none => simp only [List.filter_cons_of_pos, Option.isNone_none, List.length_cons]; omega
    | some y => simpa using ih
theorem free_le (F : Fnd) : free F ≤ F.length := List.length_filter_le _ _
/-- where one level is spread: stops that wait, stops one zone further -/
structure Sprd (zones : List Int) (links : List (Nat × Nat)) (start : Nat) (k : Int) (F : Fnd) (wa fr : List (Nat × Nat)) (rk : Nat → Nat) (T : Nat) : Prop where
  len : F.length = zones.length
  tree : ∀ v c u, fd F v = some (c, u) → (v = start ∧ c = 1 ∧ u = start) ∨ (v ≠ start ∧ ∃ cu pu, fd F u = some (cu, pu) ∧ Lk links u v ∧ c = cu + wt zones u v ∧ rk u < rk v)
  lv : ∀ v c u, fd F v = some (c, u) → 1 ≤ c ∧ c ≤ k ∧ rk v < T ∧ u < zones.length
  kept : ∀ a la pa b, fd F a = some (la, pa) → Lk links a b → (∃ lb pb, fd F b = some (lb, pb) ∧ lb ≤ la + wt zones a b) ∨
    (fd F b = none ∧ ((la + wt zones a b = k ∧ ∃ f, (b, f) ∈ wa) ∨ (la = k ∧ wt zones a b = 1 ∧ ∃ f, (b, f) ∈ fr)))
  wa_ : ∀ p ∈ wa, PairOk zones links start k F p
  fr_ : ∀ p ∈ fr, p.1 < zones.length ∧ p.2 < zones.length ∧ ∃ pf, fd F p.2 = some (k, pf) ∧ Lk links p.2 p.1 ∧ wt zones p.2 p.1 = 1
  st : fd F start = some (1, start) ∨ ((∀ v, fd F v = none) ∧ wa = [(start, start)] ∧ fr = [])
  k1 : 1 ≤ k
  tb : T + free F ≤ zones.length
theorem fd_set {F : Fnd} {s v : Nat} {x : Option (Int × Nat)} (h : s < F.length) : fd (F.set s x) v = if v = s then x else fd F v := by
  unfold fd
  by_cases c : v = s
  · rw [if_pos c, c, List.getD_eq_getElem?_getD, List.getElem?_set_self h]
    rfl
  · rw [if_neg c, List.getD_eq_getElem?_getD, List.getD_eq_getElem?_getD, List.getElem?_set_ne (fun z => c z.symm)]
/-- a stop that has its level already -/
theorem Sprd.skip {zones : List Int} {links : List (Nat × Nat)} {start : Nat} {k : Int} {F : Fnd} {ws fr : List (Nat × Nat)} {s f : Nat} {rk : Nat → Nat} {T : Nat} (h : Sprd zones links start k F (ws ++ [(s, f)]) fr rk T) (hs : fd F s ≠ none) : Sprd zones links start k F ws fr rk T where
  len := h.len
  tree := h.tree
  lv := h.lv
  kept := fun a la pa b ha hl => by
    rcases h.kept a la pa b ha hl with g | ⟨g, ⟨g1, x, g2⟩ | g1⟩
    · exact .inl g
    · refine .inr ⟨g, .inl ⟨g1, x, ?_⟩⟩
      rcases List.mem_append.mp g2 with m | m
      · exact m
      · have e := List.mem_singleton.mp m
        cases e
        exact absurd g hs
    · exact .inr ⟨g, .inr g1⟩
  wa_ := fun p hp => h.wa_ p (List.mem_append_left _ hp)
  fr_ := h.fr_
  st := by
    rcases h.st with g | ⟨g, _⟩
    · exact .inl g
    · exact absurd (g s) hs
  k1 := h.k1
  tb := h.tb
/-- a stop that is come to: its neighbours wait, or lie one zone further -/
theorem Sprd.take {zones : List Int} {links : List (Nat × Nat)} {start : Nat} {k : Int} {F : Fnd} {ws fr : List (Nat × Nat)} {s f : Nat} {rk : Nat → Nat} {T : Nat} (W : WebOk zones links) (h : Sprd zones links start k F (ws ++ [(s, f)]) fr rk T) (hs : fd F s = none) :
    Sprd zones links start k (F.set s (some (k, f))) (ws ++ ((nbr links s).filter fun o => decide (zn zones o = zn zones s)).map (fun o => (o, s))) (fr ++ ((nbr links s).filter fun o => !decide (zn zones o = zn zones s)).map (fun o => (o, s))) (fun v => if v = s then T else rk v) (T + 1) := by
  obtain ⟨hs1, hf1, po⟩ := h.wa_ (s, f) (List.mem_append_right _ (List.mem_singleton.mpr rfl))
  have hs1 : s < zones.length := hs1
  have hf1 : f < zones.length := hf1
  have hl : s < F.length := by rw [h.len]; exact hs1
  have fds : fd (F.set s (some (k, f))) s = some (k, f) := by rw [fd_set hl, if_pos rfl]
  have fdo : ∀ v, v ≠ s → fd (F.set s (some (k, f))) v = fd F v := fun v c => by rw [fd_set hl, if_neg c]
  have ne : ∀ {v c u}, fd F v = some (c, u) → v ≠ s := fun e z => by rw [z, hs] at e; cases e
  have k1 := h.k1
  -- the pair that is taken
  have po2 : (s = start ∧ f = start ∧ k = 1 ∧ fd F start = none) ∨ (s ≠ start ∧ ∃ lf pf, fd F f = some (lf, pf) ∧ Lk links f s ∧ k = lf + wt zones f s) := by
    by_cases c : s = start
    · refine .inl ⟨c, ?_, ?_, by rw [← c]; exact hs⟩
      · rcases po with ⟨_, e, _⟩ | ⟨lf, pf, g1, g2, g3⟩
        · exact e
        · rcases h.st with g | ⟨g, _⟩
          · rw [← c, hs] at g; cases g
          · have := g f
            rw [show fd F f = some (lf, pf) from g1] at this
            cases this
      · rcases po with ⟨_, _, e⟩ | ⟨lf, pf, g1, g2, g3⟩
        · exact e
        · rcases h.st with g | ⟨g, _⟩
          · rw [← c, hs] at g; cases g
          · have := g f
            rw [show fd F f = some (lf, pf) from g1] at this
            cases this
    · rcases po with ⟨e, _⟩ | g
      · exact absurd e c
      · exact .inr ⟨c, g⟩
  have fs1 : free (F.set s (some (k, f))) + 1 = free F := free_set (by
    unfold fd at hs
    rw [List.getD_eq_getElem?_getD, List.getElem?_eq_getElem hl] at hs
    rw [List.getElem?_eq_getElem hl]
    exact congrArg some hs)
  refine ⟨by rw [List.length_set]; exact h.len, ?_, ?_, ?_, ?_, ?_, ?_, k1, by have := h.tb; omega⟩
  · intro v c u e
    by_cases cv : v = s
    · subst cv
      rw [fds] at e
      cases e
      rcases po2 with ⟨e1, e2, e3, _⟩ | ⟨e0, lf, pf, e1, e2, e3⟩
      · exact .inl ⟨e1, e3, e2⟩
      · refine .inr ⟨e0, lf, pf, by rw [fdo _ (ne e1)]; exact e1, e2, e3, ?_⟩
        rw [if_neg (ne e1), if_pos rfl]
        exact (h.lv _ _ _ e1).2.2.1
    · rw [fdo v cv] at e
      rcases h.tree v c u e with g | ⟨g0, cu, pu, g1, g2, g3, g4⟩
      · exact .inl g
      · refine .inr ⟨g0, cu, pu, by rw [fdo _ (ne g1)]; exact g1, g2, g3, ?_⟩
        rw [if_neg (ne g1), if_neg cv]
        exact g4
  · intro v c u e
    by_cases cv : v = s
    · subst cv
      rw [fds] at e
      cases e
      rw [if_pos rfl]
      exact ⟨k1, Int.le_refl _, Nat.lt_succ_self _, hf1⟩
    · rw [fdo v cv] at e
      rw [if_neg cv]
      have := h.lv v c u e
      exact ⟨this.1, this.2.1, Nat.lt_succ_of_lt this.2.2.1, this.2.2.2⟩
  · intro a la pa b ha hlk
    by_cases ca : a = s
    · subst ca
      rw [fds] at ha
      cases ha
      have hb : b ≠ a := fun e => (W.lk hlk).2.2 e.symm
      rw [fdo b hb]
      cases eb : fd F b with
      | some x =>
        obtain ⟨lb, pb⟩ := x
        refine .inl ⟨lb, pb, rfl, ?_⟩
        have := (h.lv b lb pb eb).2.1
        rcases wt_or zones a b with w | w <;> omega
      | none =>
        refine .inr ⟨rfl, ?_⟩
        have mb := mem_nbr.mpr hlk
        by_cases c : zn zones b = zn zones a
        · refine .inl ⟨?_, a, List.mem_append_right _ (List.mem_map.mpr ⟨b, List.mem_filter.mpr ⟨mb, decide_eq_true c⟩, rfl⟩)⟩
          unfold wt
          rw [if_pos c.symm]
          omega
        · refine .inr ⟨rfl, ?_, a, List.mem_append_right _ (List.mem_map.mpr ⟨b, List.mem_filter.mpr ⟨mb, by rw [decide_eq_false c]; rfl⟩, rfl⟩)⟩
          unfold wt
          rw [if_neg (fun e => c e.symm)]
    · rw [fdo a ca] at ha
      by_cases cb : b = s
      · subst cb
        rw [fds]
        refine .inl ⟨k, f, rfl, ?_⟩
        rcases h.kept a la pa b ha hlk with ⟨lb, pb, g, _⟩ | ⟨g, ⟨g1, _⟩ | ⟨g1, g2, _⟩⟩
        · rw [hs] at g; cases g
        · omega
        · omega
      · rw [fdo b cb]
        rcases h.kept a la pa b ha hlk with g | ⟨g, ⟨g1, x, g2⟩ | ⟨g1, g2, x, g3⟩⟩
        · exact .inl g
        · refine .inr ⟨g, .inl ⟨g1, x, ?_⟩⟩
          rcases List.mem_append.mp g2 with m | m
          · exact List.mem_append_left _ m
          · have e := List.mem_singleton.mp m
            cases e
            exact absurd rfl cb
        · exact .inr ⟨g, .inr ⟨g1, g2, x, List.mem_append_left _ g3⟩⟩
  · intro p hp
    rcases List.mem_append.mp hp with m | m
    · obtain ⟨q1, q2, q3⟩ := h.wa_ p (List.mem_append_left _ m)
      refine ⟨q1, q2, q3.elim .inl fun ⟨lf, pf, g1, g2, g3⟩ => .inr ⟨lf, pf, by rw [fdo _ (ne g1)]; exact g1, g2, g3⟩⟩
    · obtain ⟨o, ho, rfl⟩ := List.mem_map.mp m
      obtain ⟨ho1, ho2⟩ := List.mem_filter.mp ho
      have lk := mem_nbr.mp ho1
      have c := of_decide_eq_true ho2
      refine ⟨(W.lk lk).2.1, hs1, .inr ⟨k, f, fds, lk, ?_⟩⟩
      show k = k + wt zones s o
      unfold wt
      rw [if_pos c.symm]
      omega
  · intro p hp
    rcases List.mem_append.mp hp with m | m
    · obtain ⟨q1, q2, pf, g1, g2, g3⟩ := h.fr_ p m
      exact ⟨q1, q2, pf, by rw [fdo _ (ne g1)]; exact g1, g2, g3⟩
    · obtain ⟨o, ho, rfl⟩ := List.mem_map.mp m
      obtain ⟨ho1, ho2⟩ := List.mem_filter.mp ho
      have lk := mem_nbr.mp ho1
      have c : ¬ zn zones o = zn zones s := by simpa using ho2
      refine ⟨(W.lk lk).2.1, hs1, f, fds, lk, ?_⟩
      show wt zones s o = 1
      unfold wt
      rw [if_neg (fun e => c e.symm)]
  · refine .inl ?_
    rcases po2 with ⟨e1, e2, e3, _⟩ | ⟨e0, lf, pf, e1, _⟩
    · rw [← e1, fds, e3, e2, e1]
    · rw [fdo _ (fun e => e0 e.symm)]
      rcases h.st with g | ⟨g, _⟩
      · exact g
      · rw [g f] at e1
        cases e1
/-- the next level -/
theorem Sprd.next {zones : List Int} {links : List (Nat × Nat)} {start : Nat} {k : Int} {F : Fnd} {fr : List (Nat × Nat)} {rk : Nat → Nat} {T : Nat} (h : Sprd zones links start k F [] fr rk T) : Sprd zones links start (k + 1) F (fr.filter fun p => (fd F p.1).isNone) [] rk T where
  len := h.len
  tree := h.tree
  lv := fun v c u e => by have := h.lv v c u e; exact ⟨this.1, by omega, this.2.2⟩
  kept := fun a la pa b ha hl => by
    rcases h.kept a la pa b ha hl with g | ⟨g, ⟨_, x, g2⟩ | ⟨g1, g2, x, g3⟩⟩
    · exact .inl g
    · cases g2
    · exact .inr ⟨g, .inl ⟨by omega, x, List.mem_filter.mpr ⟨g3, by show (fd F b).isNone = true; rw [g]; rfl⟩⟩⟩
  wa_ := fun p hp => by
    obtain ⟨q1, q2, pf, g1, g2, g3⟩ := h.fr_ p (List.mem_filter.mp hp).1
    exact ⟨q1, q2, .inr ⟨k, pf, g1, g2, by omega⟩⟩
  fr_ := fun p hp => by cases hp
  st := h.st.elim .inl fun g => by have := g.2.1; cases this
  k1 := by have := h.k1; omega
  tb := h.tb
/-- what is told of a start -/
structure Rch (zones : List Int) (links : List (Nat × Nat)) (start : Nat) (F : Fnd) : Prop where
  len : F.length = zones.length
  st : fd F start = some (1, start)
  lv : ∀ v c u, fd F v = some (c, u) → 1 ≤ c ∧ u < zones.length
  kept : ∀ a la pa b, fd F a = some (la, pa) → Lk links a b → ∃ lb pb, fd F b = some (lb, pb) ∧ lb ≤ la + wt zones a b
  tree : ∃ rk : Nat → Nat, (∀ v c u, fd F v = some (c, u) → rk v < zones.length) ∧ ∀ v c u, fd F v = some (c, u) → v ≠ start → ∃ cu pu, fd F u = some (cu, pu) ∧ Lk links u v ∧ c = cu + wt zones u v ∧ rk u < rk v
theorem Sprd.done {zones : List Int} {links : List (Nat × Nat)} {start : Nat} {k : Int} {F : Fnd} {rk : Nat → Nat} {T : Nat} (h : Sprd zones links start k F [] [] rk T) : Rch zones links start F where
  len := h.len
  st := h.st.elim (fun g => g) fun g => by have := g.2.1; cases this
  lv := fun v c u e => ⟨(h.lv v c u e).1, (h.lv v c u e).2.2.2⟩
  kept := fun a la pa b ha hl => by
    rcases h.kept a la pa b ha hl with g | ⟨_, ⟨_, x, g2⟩ | ⟨_, _, x, g3⟩⟩
    · exact g
    · cases g2
    · cases g3
  tree := ⟨rk, fun v c u e => by have := (h.lv v c u e).2.2.1; have := h.tb; omega, fun v c u e hv => by
    rcases h.tree v c u e with ⟨g, _⟩ | ⟨_, g⟩
    · exact absurd g hv
    · exact g⟩
theorem Sprd.start {zones : List Int} {links : List (Nat × Nat)} {start : Nat} (h : start < zones.length) : Sprd zones links start 1 (List.replicate zones.length none) [(start, start)] [] (fun _ => 0) 0 := by
  have e : ∀ v, fd (List.replicate zones.length none) v = none := fun v => by
    unfold fd
    rw [List.getD_eq_getElem?_getD, List.getElem?_replicate]
    split <;> rfl
  refine ⟨List.length_replicate, ?_, ?_, ?_, ?_, ?_, .inr ⟨e, rfl, rfl⟩, by decide, by have := free_le (List.replicate zones.length none : Fnd); rw [List.length_replicate] at this; omega⟩
  · intro v c u g; rw [e v] at g; cases g
  · intro v c u g; rw [e v] at g; cases g
  · intro v c u b g; rw [e v] at g; cases g
  · intro p hp
    have := List.mem_singleton.mp hp
    subst this
    exact ⟨h, h, .inl ⟨rfl, rfl, rfl⟩⟩
  · intro p hp; cases hp
/-- the levels are told alike each time -/
theorem Rch.le {zones : List Int} {links : List (Nat × Nat)} {start : Nat} {F G : Fnd} (hF : Rch zones links start F) (hG : Rch zones links start G) : ∀ v c u, fd F v = some (c, u) → ∃ d x, fd G v = some (d, x) ∧ d ≤ c := by
  obtain ⟨rk, _, tr⟩ := hF.tree
  have : ∀ n v c u, rk v ≤ n → fd F v = some (c, u) → ∃ d x, fd G v = some (d, x) ∧ d ≤ c := by
    intro n
    induction n with
    | zero =>
      intro v c u hn e
      by_cases hv : v = start
      · subst hv
        rw [hF.st] at e
        cases e
        exact ⟨1, _, hG.st, Int.le_refl _⟩
      · obtain ⟨cu, pu, _, _, _, g⟩ := tr v c u e hv
        omega
    | succ n ih =>
      intro v c u hn e
      by_cases hv : v = start
      · subst hv
        rw [hF.st] at e
        cases e
        exact ⟨1, _, hG.st, Int.le_refl _⟩
      · obtain ⟨cu, pu, g1, g2, g3, g4⟩ := tr v c u e hv
        obtain ⟨d, x, h1, h2⟩ := ih u cu pu (by omega) g1
        obtain ⟨lb, pb, k1, k2⟩ := hG.kept u d x v h1 g2
        exact ⟨lb, pb, k1, by omega⟩
  exact fun v c u e => this _ v c u (Nat.le_refl _) e
theorem Rch.same {zones : List Int} {links : List (Nat × Nat)} {start : Nat} {F G : Fnd} (hF : Rch zones links start F) (hG : Rch zones links start G) : F.map (Option.map Prod.fst) = G.map (Option.map Prod.fst) := by
  apply List.ext_getElem?
  intro i
  rw [List.getElem?_map, List.getElem?_map]
  by_cases hi : i < zones.length
  · have h1 : i < F.length := by rw [hF.len]; exact hi
    have h2 : i < G.length := by rw [hG.len]; exact hi
    have e1 : fd F i = F[i] := by unfold fd; rw [List.getD_eq_getElem?_getD, List.getElem?_eq_getElem h1]; rfl
    have e2 : fd G i = G[i] := by unfold fd; rw [List.getD_eq_getElem?_getD, List.getElem?_eq_getElem h2]; rfl
    rw [List.getElem?_eq_getElem h1, List.getElem?_eq_getElem h2, ← e1, ← e2]
    cases a : fd F i with
    | none =>
      cases b : fd G i with
      | none => rfl
      | some x =>
        obtain ⟨d, x, g, _⟩ := hG.le hF i x.1 x.2 b
        rw [a] at g
        cases g
    | some x =>
      obtain ⟨d, y, g, h3⟩ := hF.le hG i x.1 x.2 a
      obtain ⟨d2, y2, g2, h4⟩ := hG.le hF i d y g
      rw [a] at g2
      have e3 : x = (d2, y2) := Option.some.inj g2
      rw [g]
      show some (some x.1) = some (some d)
      rw [e3] at h3 ⊢
      have h3 : d ≤ d2 := h3
      have h5 : d = d2 := by omega
      rw [h5]
  · rw [List.getElem?_eq_none (by rw [hF.len]; omega), List.getElem?_eq_none (by rw [hG.len]; omega)]
end FW

/-! list(reversed(a list)). -/
namespace FWR
open PySem PySem.Spec PyProof.Rows RT
section
variable {prog : Program} {w : World} {A : Around} {E : Value → Shared → Prop} {s : Shared}
/-- the items that a list's reverse iterator yields -/
abbrev RevItems (items acc : Array Value) : Prop := ItemsOf (fun i v => items[items.size - 1 - i]? = some v) acc items.size
theorem list_init_rev {R : Result → Shared → Prop} {it l S : Addr} {items : Array Value} (hh : A.handled = none)
    (hit : s.heap.IsRevIter it l ((items.size : Int) - 1))
    (hl : s.heap.IsList l items) (hne : l ≠ it) (hn : items.size ≤ sizeLine)
    (hS : s.heap.get? S = some { cls := .type "list", data := .seq #[] })
    (nSi : S ≠ it) (nSl : S ≠ l)
    (hR : ∀ (g : Heap) (tk : Nat) (acc : Array Value) (c : Nat), (∀ b o, b ≠ S → b ≠ it → s.heap.get? b = some o → g.get? b = some o) →
      g.get? S = some { cls := .type "list", dict := none, data := .seq acc c, slots := #[] } →
      RevItems items acc → R (.ok (.ret .none)) { s with heap := g, toks := tk }) :
    wpAny (model prog w) A.in1 (Builtin.«list.__init__» ⟨[.ref S, .ref it], []⟩)
      (fun fin t => match fin with | .done f => R (.ok f) t | .again c' => c'.quiet = true ∧ codeAny (model prog w) A c' R t) (fun e t => R (.error e) t) s := by
  show wpAny _ _ (do let old ← Builtin.List.listItems (.ref S); Builtin.List.listUpdate (.ref S) (fun _ => #[]); letGo old.toList.reverse; Builtin.List.listExtendWith (.ref S) (.ref it) .none) _ _ _
  refine wpAny_bind ?_
  unfold Builtin.List.listItems
  refine wpAny_bind (wpAny_seqItems hS rfl (wpAny_pure ?_))
  show wpAny _ _ (updateSeq S (fun _ => #[]) >>= fun _ => letGo (#[] : Array Value).toList.reverse >>= fun _ => Builtin.List.listExtendWith (.ref S) (.ref it) .none) _ _ _
  refine wpAny_bind (wpAny_updateSeq hS rfl ?_)
  have hS2 := Heap.get?_update_self (Obj.mapSeq (fun _ => (#[] : Array Value))) hS rfl
  have oth : ∀ b o, b ≠ S → s.heap.get? b = some o → (s.heap.update S (Obj.mapSeq (fun _ => (#[] : Array Value)))).get? b = some o := fun b o nb e => (Heap.get?_update_other _ _ (fun z => nb z.symm)).trans e
  refine wpAny_bind (wpAny_letGo ?_)
  have hit2 : (s.heap.update S (Obj.mapSeq (fun _ => (#[] : Array Value)))).IsRevIter it l ((items.size : Int) - 1) := hit.at fun o e => oth it o (fun z => nSi z.symm) e
  have hl2 : (s.heap.update S (Obj.mapSeq (fun _ => (#[] : Array Value)))).IsList l items := by
    obtain ⟨o, e, r⟩ := hl
    exact ⟨o, oth l o (fun z => nSl z.symm) e, r⟩
  generalize s.heap.update S (Obj.mapSeq (fun _ => (#[] : Array Value))) = g2 at *
  have WW := (Walks.listRev (prog := prog) (w := w) (A := A.in1) hh it l hne items).toS
  have fpS : S ∉ [it, l] := by
    intro m
    rcases List.mem_cons.mp m with e | m
    · exact nSi e
    · exact nSl (List.mem_singleton.mp m)
  have ty : ({ s with heap := g2 } : Shared).TypeIs (.ref it) "list_reverseiterator" := Heap.IsRevIter.typeIs (s := { s with heap := g2 }) hit2
  have nr : Builtin.List.listSameRef (.ref S) (.ref it) = false := by simp [Builtin.List.listSameRef, nSi]
  unfold Builtin.List.listExtendWith
  refine wpAny_bind (wpAny_typeOf ty ?_)
  rw [if_neg (by rw [nr]; decide)]
  refine wpAny_bind (wpAny_pyIter_revIter (s := { s with heap := g2 }) hit2 ?_)
  refine wpAny_bind (wpAny_holding ?_)
  unfold Builtin.List.listLengthHint
  refine wpAny_bind (wpAny_specialOf ty nolen_lri ?_)
  show wpAny _ A.in1 (specialOf (Value.ref it) (Str.ofString "__length_hint__") >>= _) _ _ _
  refine wpAny_bind (wpAny_specialOf ty hint_lri ?_)
  generalize hid : ("list_reverseiterator.__length_hint__" : String) = nm
  wp_delta
  rw [show splitId nm = some ("list_reverseiterator", "__length_hint__") from by subst hid; decide +kernel]
  subst hid
  refine wpAny_bind (wpAny_isInstance (b := true) ty (by rw [isSubtype_type]; kernel_rfl) ?_)
  refine wpAny_pure ?_
  rw [if_neg (by decide)]
  have z0 : ((items.size : Nat) : Int) - 1 - ((0 : Nat) : Int) = (items.size : Int) - 1 := by omega
  refine wpAny_pure ⟨plainId_quiet F.plain_extend_loop _, codeAny_extend_loopS WW hn _ fpS _ items.size 0 _ _ _ rfl (Nat.zero_le _) ⟨Nat.zero_le _, by rw [z0]; exact hit2, hl2⟩ hS2 (ItemsOf.nil _) fun t acc c hm hSt hacc => ?_⟩
  rw [Moved.eq_with hm]
  refine hR t.heap t.toks acc c (fun b o n1 n2 e => hm.heap b o (fun m => ?_) (oth b o n1 e)) hSt hacc
  rcases List.mem_cons.mp m with z | m
  · exact n1 z
  · exact n2 (List.mem_singleton.mp m)
theorem call_list_rev {it l : Addr} {items : Array Value} {Q : Value → Shared → Prop} (hh : A.handled = none)
    (hit : s.heap.IsRevIter it l ((items.size : Int) - 1))
    (hl : s.heap.IsList l items) (hne : l ≠ it) (hn : items.size ≤ sizeLine)
    (hQ : ∀ (g : Heap) (tk : Nat) (acc : Array Value) (c : Nat), (∀ b o, b ≠ it → s.heap.get? b = some o → g.get? b = some o) →
      g.get? s.heap.objs.size = some { cls := .type "list", dict := none, data := .seq acc c, slots := #[] } →
      RevItems items acc → Q (.ref s.heap.objs.size) { s with heap := g, toks := tk }) : wpAny (model prog w) A (call (.type "list") [.ref it]) Q E s := by
  refine callType_codes (Q₁ := fun u t => u = .ref s.heap.objs.size ∧ t = { s with heap := s.heap.push { cls := .type "list", data := .seq #[] } }) F.called_list (F.typeCall_list_1 _) F.entry_list_init (code_list_new _ ⟨rfl, rfl⟩) fun u t ht => ?_
  obtain ⟨rfl, rfl⟩ := ht
  have fresh : (s.heap.push { cls := .type "list", data := .seq (#[] : Array Value) }).get? s.heap.objs.size = some { cls := .type "list", data := .seq #[] } := Heap.get?_push_size _ rfl
  obtain ⟨oi, hoi, _⟩ := id hit
  obtain ⟨ol, hol, _⟩ := id hl
  refine ⟨⟨_, fresh, rfl⟩, F.args_list_init_2 _ _, list_init_rev (A := A.in1) hh (hit.at fun o e => Heap.get?_push_of_some _ e) (hl.push _) hne hn fresh (fun e => ?_) (fun e => ?_) fun g tk acc c hk hg hi => ⟨rfl, hQ g tk acc c (fun b o nb e => hk b o (Nat.ne_of_lt (Heap.lt_size e)) nb (Heap.get?_push_of_some _ e)) hg hi⟩⟩
  · exact absurd (Heap.lt_size hoi) (by rw [← e]; exact Nat.lt_irrefl _)
  · exact absurd (Heap.lt_size hol) (by rw [← e]; exact Nat.lt_irrefl _)
end
end FWR

namespace L2
open PySem PySem.Spec PyProof.Rows RT
def tListRev (K : PySem.W.Frag) (te : TE) : TE := fun σ H Q => te σ H fun v H1 => ∃ (a : Addr) (xs : List V), v = .ref a ∧ SqL K H1 a xs ∧ ∀ q, H1 q = none → Q (.ref q) (upd H1 q (.lst xs.reverse))
theorem pe_listRev {X : Cx} {e : Expr} {te : TE} {p p2 pos pos2 : Pos} (hc : X.calm = true) (hg : Gl X "list") (hm : X.mg "list" = none) (hg2 : Gl X "reversed") (hm2 : X.mg "reversed" = none) (he : PE X e te)
    (hs : starEach [e] X.env = (false, eval e X.env) :: starEach [] X.env := by rfl)
    (hs2 : starEach [.Call (.Name "reversed" p2) [e] [] pos2] X.env = (false, eval (.Call (.Name "reversed" p2) [e] [] pos2) X.env) :: starEach [] X.env := by rfl) :
    PE X (.Call (.Name "list" p) [.Call (.Name "reversed" p2) [e] [] pos2] [] pos) (tListRev X.K te) := by
  refine ⟨fun pins s σ H Q I h => ?_⟩
  refine Call_ (ld_blt I hg hm boot_list (PyProof.Rows.callWith_type1 (args_cons (Call_ (ld_blt I hg2 hm2 PyProof.Rows.boot_reversed (PyProof.Rows.callWith_type1 (args_cons (thn (he.run pins s σ H _ I h) fun u s1 ⟨v, H1, I1, r1, q1⟩ => args_nil ?_) hs) hs rfl))) hs2) hs2 rfl))
  obtain ⟨a, xs, ev, hq, q⟩ := q1
  subst ev
  cases (show u = Value.ref a from r1)
  obtain ⟨its, rv, pl, hz⟩ := I1.list hq
  have hl := pl.isList
  refine call_reversed_list hl (args_nil ?_)
  have grow : ∀ b o, s1.heap.get? b = some o → (s1.heap.push (revObj a ((its.toArray.size : Int) - 1))).get? b = some o := fun b o e => Heap.get?_push_of_some _ e
  have I2 : Inv X pins σ H1 { s1 with heap := s1.heap.push (revObj a ((its.toArray.size : Int) - 1)) } := I1.kept (t' := s1.toks) grow
  obtain ⟨f0, f1, f2, f3, f4, f5⟩ := I1.fpOk (H' := H1) (b := s1.heap.objs.size) (Nat.le_refl _) (I1.hok.fresh (Nat.le_refl _))
  obtain ⟨ol, hol, _⟩ := id hl
  have nla : a ≠ s1.heap.objs.size := Nat.ne_of_lt (Heap.lt_size hol)
  have hn : its.toArray.size ≤ sizeLine := by
    rw [List.size_toArray, ← rv.length]
    exact hz
  refine FWR.call_list_rev (s := { s1 with heap := s1.heap.push (revObj a ((its.toArray.size : Int) - 1)) }) (I1.ok.hd hc) ⟨_, Heap.get?_push_size _ rfl, rfl, rfl⟩ (hl.push _) nla hn fun g tk acc c hk hg hi => ?_
  refine ⟨.ref _, upd H1 _ (.lst xs.reverse), I2.turnedNew (t' := tk) (ch := [s1.heap.objs.size]) (T := (s1.heap.push (revObj a ((its.toArray.size : Int) - 1))).objs.size) (fun b o nb e => hk b o (fun z => nb (List.mem_singleton.mpr z)) e) (fun b hb => by rw [List.mem_singleton.mp hb]; exact ⟨f0, f1, f2, f3, f4, f5⟩) (Nat.le_refl _) ?_, rfl, q _ (I2.hok.fresh (Nat.le_refl _))⟩
  exact (show ObjOk X.prog X.w _ _ _ (.lst xs.reverse) from ⟨by rw [List.length_reverse]; exact hz, acc.toList, c, vals_rev rv hi, by rw [Array.toArray_toList]; exact hg⟩)
end L2

/-! Web: what the defs of fareweb/web.py promise. -/
namespace FW
open PySem PySem.Spec PyProof.Rows L2
/-- the two attributes -/
def webF (a b : Addr) : List (Str × V) := putF "links" (.ref b) (putF "zones" (.ref a) [])
theorem f_zl : ¬ (("zones" : Str) = "links") := by decide +kernel
theorem webF_z (a b : Addr) : (webF a b).lookup ("zones" : Str) = some (.ref a) := by
  unfold webF
  rw [lookup_putF, if_neg f_zl, lookup_putF, if_pos rfl]
theorem webF_l (a b : Addr) : (webF a b).lookup ("links" : Str) = some (.ref b) := by
  unfold webF
  rw [lookup_putF, if_pos rfl]
theorem webF_no (a b : Addr) {m : Str} (h1 : ¬ m = "zones") (h2 : ¬ m = "links") : (webF a b).lookup m = none := by
  unfold webF
  rw [lookup_putF, if_neg h2, lookup_putF, if_neg h1]
  rfl
/-- pairs of stops stand at these places -/
abbrev PairL (H : Hp) (xs : List V) (ps : List (Nat × Nat)) : Prop := Paired (fun v p => ∃ q, v = V.ref q ∧ H q = some (.tup [.int (p.1 : Nat), .int (p.2 : Nat)])) xs ps
theorem PairL.same {H H' : Hp} (s : Same H H') : ∀ {xs : List V} {ps : List (Nat × Nat)}, PairL H xs ps → PairL H' xs ps
  | _, _, .nil => .nil
  | _, _, .cons ⟨q, e, h⟩ r => .cons ⟨q, e, s _ _ h⟩ (PairL.same s r)
theorem PairL.len {H : Hp} {xs : List V} {ps : List (Nat × Nat)} (a : PairL H xs ps) : xs.length = ps.length := Paired.length a
theorem PairL.snoc {H : Hp} {xs : List V} {ps : List (Nat × Nat)} {q : Addr} {a b : Nat} (l : PairL H xs ps) (h : H q = some (.tup [.int a, .int b])) : PairL H (xs ++ [.ref q]) (ps ++ [(a, b)]) := Paired.snoc l ⟨q, rfl, h⟩
theorem PairL.get {H : Hp} : ∀ {xs : List V} {ps : List (Nat × Nat)} {i : Nat} {x : V}, PairL H xs ps → xs[i]? = some x → ∃ a b q, ps[i]? = some (a, b) ∧ x = .ref q ∧ H q = some (.tup [.int (a : Nat), .int (b : Nat)])
  | _, _, _, _, .nil, h => by simp at h
  | _, _, 0, x, .cons ⟨q, e, h⟩ r, hx => ⟨_, _, q, rfl, by rw [← e]; exact (Option.some.inj hx).symm, h⟩
  | _, _, i + 1, x, .cons _ r, hx => PairL.get (i := i) r hx
/-- a web stands at p -/
structure WebAt (A : Ad) (H : Hp) (p a b : Addr) (zones : List Int) (links : List (Nat × Nat)) : Prop where
  ob : ∃ dx, H p = some (.ins A.c_Web dx (webF a b))
  hz : H a = some (.lst (zones.map V.int))
  hl : ∃ xs, H b = some (.lst xs) ∧ PairL H xs links
  ok : WebOk zones links
theorem WebAt.same {A : Ad} {H H' : Hp} {p a b : Addr} {zones : List Int} {links : List (Nat × Nat)} (w : WebAt A H p a b zones links) (s : Same H H') : WebAt A H' p a b zones links :=
  ⟨let ⟨dx, e⟩ := w.ob; ⟨dx, s _ _ e⟩, s _ _ w.hz, let ⟨xs, e, l⟩ := w.hl; ⟨xs, s _ _ e, l.same s⟩, w.ok⟩
def Web (A : Ad) (H : Hp) (p : Addr) (zones : List Int) (links : List (Nat × Nat)) : Prop := ∃ a b, WebAt A H p a b zones links
theorem Web.same {A : Ad} {H H' : Hp} {p : Addr} {zones : List Int} {links : List (Nat × Nat)} (w : Web A H p zones links) (s : Same H H') : Web A H' p zones links :=
  let ⟨a, b, h⟩ := w; ⟨a, b, h.same s⟩
/-- what the walk asks of the class -/
structure OkW (K : PySem.W.Frag) (A : Ad) : Prop where
  cl : Cls K A.c_Web
  nZ : NoAttr K A.c_Web "zones"
  nL : NoAttr K A.c_Web "links"
/-- pairs of whole numbers -/
abbrev IPairL (H : Hp) (xs : List V) (ps : List (Int × Int)) : Prop := Paired (fun v p => ∃ q, v = V.ref q ∧ H q = some (.tup [.int p.1, .int p.2])) xs ps
theorem IPairL.get {H : Hp} : ∀ {xs : List V} {ps : List (Int × Int)} {i : Nat} {x : V}, IPairL H xs ps → xs[i]? = some x → ∃ a b q, ps[i]? = some (a, b) ∧ x = .ref q ∧ H q = some (.tup [.int a, .int b])
  | _, _, _, _, .nil, h => by simp at h
  | _, _, 0, x, .cons ⟨q, e, h⟩ r, hx => ⟨_, _, q, rfl, by rw [← e]; exact (Option.some.inj hx).symm, h⟩
  | _, _, i + 1, x, .cons _ r, hx => IPairL.get (i := i) r hx
theorem IPairL.same {H H' : Hp} (s : Same H H') : ∀ {xs : List V} {ps : List (Int × Int)}, IPairL H xs ps → IPairL H' xs ps
  | _, _, .nil => .nil
  | _, _, .cons ⟨q, e, h⟩ r => .cons ⟨q, e, s _ _ h⟩ (IPairL.same s r)
def LinkOk (n : Nat) (p : Int × Int) : Prop := p.1 ≠ p.2 ∧ 0 ≤ p.1 ∧ 0 ≤ p.2 ∧ p.1 < n ∧ p.2 < n
def natP (p : Int × Int) : Nat × Nat := (p.1.toNat, p.2.toNat)
def sp_Web_init (K : PySem.W.Frag) (A : Ad) : Sp := fun vs H Q E => ∃ (p dx z l : Addr) (zones : List Int) (xs : List V) (ls : List (Int × Int)), vs = [.ref p, .ref z, .ref l] ∧ H p = some (.ins A.c_Web dx []) ∧
  SqL K H z (zones.map V.int) ∧ SqL K H l xs ∧ IPairL H xs ls ∧ zones.length ≤ 70 ∧ ls.length ≤ 300 ∧
  ((∀ q ∈ ls, LinkOk zones.length q) → ∀ (a b : Addr) (H' : Hp), WebAt A H' p a b zones (ls.map natP) → H a = none → H b = none → (∀ x o, H x = some o → x ≠ p → H' x = some o) → Q .non H') ∧
  (¬ (∀ q ∈ ls, LinkOk zones.length q) → E (.ref A.c_BadLink) none H)
def sp_Web_need (K : PySem.W.Frag) (A : Ad) : Sp := fun vs H Q E => ∃ (p : Addr) (zones : List Int) (links : List (Nat × Nat)) (z : Int), vs = [.ref p, .int z] ∧ Web A H p zones links ∧ (0 ≤ z ∧ z < zones.length → Q .non H) ∧ (¬ (0 ≤ z ∧ z < zones.length) → E (.ref A.c_BadStop) none H)
def sp_Web_beside (K : PySem.W.Frag) (A : Ad) : Sp := fun vs H Q _ => ∃ (p : Addr) (zones : List Int) (links : List (Nat × Nat)) (s : Nat), vs = [.ref p, .int s] ∧ Web A H p zones links ∧
  ∀ (l : Addr) (H' : Hp), Same H H' → H l = none → H' l = some (.lst ((nbr links s).map fun o => V.int (o : Nat))) → Q (.ref l) H'
/-- what is found stands at these places -/
abbrev FndL (H : Hp) (xs : List V) (F : Fnd) : Prop := Paired (fun v o => match o with | none => v = V.non | some (c, u) => ∃ q, v = V.ref q ∧ H q = some (.tup [.int c, .int (u : Nat)])) xs F
theorem FndL.same {H H' : Hp} (s : Same H H') : ∀ {xs : List V} {F : Fnd}, FndL H xs F → FndL H' xs F
  | _, _, .nil => .nil
  | _, none :: _, .cons e r => .cons e (FndL.same s r)
  | _, some (c, u) :: _, .cons ⟨q, e, h⟩ r => .cons ⟨q, e, s _ _ h⟩ (FndL.same s r)
theorem FndL.len {H : Hp} {xs : List V} {F : Fnd} (a : FndL H xs F) : xs.length = F.length := Paired.length a
theorem FndL.get {H : Hp} : ∀ {xs : List V} {F : Fnd} {i : Nat}, FndL H xs F → i < F.length → (xs[i]? = some .non ∧ fd F i = none) ∨ ∃ c u q, xs[i]? = some (.ref q) ∧ fd F i = some (c, u) ∧ H q = some (.tup [.int c, .int (u : Nat)])
  | _, _, i, .nil, h => by simp at h
  | _, none :: _, 0, .cons e r, _ => .inl ⟨by rw [e]; rfl, rfl⟩
  | _, some (c, u) :: _, 0, .cons ⟨q, e, h⟩ r, _ => .inr ⟨c, u, q, by rw [e]; rfl, rfl, h⟩
  | _, _ :: F, i + 1, .cons _ r, h => FndL.get (i := i) r (by simpa using h)
theorem FndL.set {H : Hp} {q : Addr} {c : Int} {u : Nat} (h : H q = some (.tup [.int c, .int (u : Nat)])) : ∀ {xs : List V} {F : Fnd} {i : Nat}, FndL H xs F → FndL H (xs.set i (.ref q)) (F.set i (some (c, u)))
  | _, _, _, .nil => .nil
  | _, _ :: _, 0, .cons _ r => .cons ⟨q, rfl, h⟩ r
  | _, _ :: _, i + 1, .cons e r => .cons e (FndL.set h r)
def sp_Web_spread (K : PySem.W.Frag) (A : Ad) : Sp := fun vs H Q _ => ∃ (p f l : Addr) (k : Int) (zones : List Int) (links : List (Nat × Nat)) (start : Nat) (fs xs : List V) (F : Fnd) (ps : List (Nat × Nat)) (rk : Nat → Nat) (T : Nat), vs = [.ref p, .ref f, .ref l, .int k] ∧
  Web A (del H f) p zones links ∧ H f = some (.lst fs) ∧ FndL (del H f) fs F ∧ SqL K (del H f) l xs ∧ PairL (del H f) xs ps ∧ Sprd zones links start k F ps [] rk T ∧ ps.length ≤ 42000 ∧
  ∀ (l' : Addr) (fs' xs' : List V) (F' : Fnd) (ps' : List (Nat × Nat)) (rk' : Nat → Nat) (T' : Nat) (H' : Hp), Same (del H f) (del H' f) → H' f = some (.lst fs') → FndL (del H' f) fs' F' → H l' = none → H' l' = some (.lst xs') → PairL (del H' f) xs' ps' →
    Sprd zones links start (k + 1) F' ps' [] rk' T' → ps'.length ≤ 42000 → (∀ q ∈ ps', fd F' q.1 = none) → ((∃ q ∈ ps, fd F q.1 = none) → free F' < free F) → Q (.ref l') H'
def InR (zones : List Int) (z : Int) : Prop := 0 ≤ z ∧ z < zones.length
def sp_Web_reached (K : PySem.W.Frag) (A : Ad) : Sp := fun vs H Q E => ∃ (p : Addr) (zones : List Int) (links : List (Nat × Nat)) (z : Int), vs = [.ref p, .int z] ∧ Web A H p zones links ∧
  (InR zones z → ∀ (l : Addr) (fs : List V) (F : Fnd) (H' : Hp), Same H H' → H l = none → H' l = some (.lst fs) → FndL H' fs F → Rch zones links z.toNat F → Q (.ref l) H') ∧ (¬ InR zones z → E (.ref A.c_BadStop) none H)
/-- a level as a value -/
def lvV : Option (Int × Nat) → V
  | none => .non
  | some (c, _) => .int c
def sp_Web_levels (K : PySem.W.Frag) (A : Ad) : Sp := fun vs H Q E => ∃ (p : Addr) (zones : List Int) (links : List (Nat × Nat)) (z : Int), vs = [.ref p, .int z] ∧ Web A H p zones links ∧
  (InR zones z → ∀ (l : Addr) (F : Fnd) (H' : Hp), Same H H' → H l = none → H' l = some (.lst (F.map lvV)) → Rch zones links z.toNat F → Q (.ref l) H') ∧ (¬ InR zones z → E (.ref A.c_BadStop) none H)
/-- the zones of the ride: c of them, or no way -/
def sp_Web_fewest (K : PySem.W.Frag) (A : Ad) : Sp := fun vs H Q E => ∃ (p : Addr) (zones : List Int) (links : List (Nat × Nat)) (z g : Int), vs = [.ref p, .int z, .int g] ∧ Web A H p zones links ∧
  (InR zones z → InR zones g → ∀ (F : Fnd) (H' : Hp), Same H H' → Rch zones links z.toNat F → (∀ c u, fd F g.toNat = some (c, u) → Q (.int c) H') ∧ (fd F g.toNat = none → E (.ref A.c_NoWay) none H')) ∧
  (¬ (InR zones z ∧ InR zones g) → E (.ref A.c_BadStop) none H)
/-- the stops of a way, by the stops ahead -/
def Fwd (F : Fnd) : List Nat → Prop
  | [] => False
  | [_] => True
  | u :: g :: r => (∃ c, fd F g = some (c, u)) ∧ Fwd F (g :: r)
def sp_Web_way (K : PySem.W.Frag) (A : Ad) : Sp := fun vs H Q E => ∃ (p : Addr) (zones : List Int) (links : List (Nat × Nat)) (z g : Int), vs = [.ref p, .int z, .int g] ∧ Web A H p zones links ∧
  (InR zones z → InR zones g → ∀ (F : Fnd) (H' : Hp), Same H H' → Rch zones links z.toNat F → (fd F g.toNat ≠ none → ∀ (l : Addr) (H'' : Hp) (row : List Nat), Same H' H'' → H l = none → H'' l = some (.lst (row.map fun (o : Nat) => V.int (o : Nat))) → Fwd F row → (∀ o ∈ row.tail, o ≠ z.toNat) → row.head? = some z.toNat → row.getLast? = some g.toNat → row.length ≤ 71 → Q (.ref l) H'') ∧
    (fd F g.toNat = none → E (.ref A.c_NoWay) none H')) ∧
  (¬ (InR zones z ∧ InR zones g) → E (.ref A.c_BadStop) none H)
end FW

namespace FW
open PySem PySem.Spec PyProof.Rows L2
@[irreducible] def t_Web_init_s2 (K : PySem.W.Frag) (A : Ad) (E : XK) : TS :=
 sFld K (tVar 0) (tLc (iList K (tVar 2)) (gTup K 2 (gCons (gName 3) (gCons (gName 4) (gNil)))) (tYes) (tTup (tCons (tVar 3) (tCons (tVar 4) (tNil)))) [3, 4]) "links"
@[irreducible] def t_Web_init_s1 (K : PySem.W.Frag) (A : Ad) (E : XK) : TS :=
 tSeq (sFld K (tVar 0) (tCB (rListS K) (tCons (tVar 1) (tNil))) "zones")
 (t_Web_init_s2 K A E)
def N_Web_init : List Str := ["self", "zones", "links", "one", "other"]
def t_Web_init (K : PySem.W.Frag) (A : Ad) (E : XK) : TS :=
 tSeq (tFor (iList K (tVar 2)) (gTup K 2 (gCons (gName 3) (gCons (gName 4) (gNil)))) (tIfS (tOr (tTest (tOp rEq (tVar 3) (tVar 4))) (tOr (tTest (tOp rLtI (tCB rMin2 (tCons (tVar 3) (tCons (tVar 4) (tNil)))) (tC (.int 0)))) (tTest (tOp rGeI (tCB rMax2 (tCons (tVar 3) (tCons (tVar 4) (tNil)))) (tCB (rLenS K) (tCons (tVar 1) (tNil))))))) (tRaise E (.ref A.c_BadLink)) (tNext)))
 (t_Web_init_s1 K A E)
def N_Web_need : List Str := ["self", "stop"]
def t_Web_need (K : PySem.W.Frag) (A : Ad) (E : XK) : TS :=
 tIfS (tOr (tTest (tOp rLtI (tVar 1) (tC (.int 0)))) (tTest (tOp rGeI (tVar 1) (tCB (rLenS K) (tCons (tFld K (tVar 0) "zones") (tNil)))))) (tRaise E (.ref A.c_BadStop)) (tNext)
def N_Web_beside : List Str := ["self", "stop", "found", "one", "other"]
def t_Web_beside (K : PySem.W.Frag) (A : Ad) (E : XK) : TS :=
 tSeq (tAsg (tLst (tNil)) (gName 2))
 (tSeq (tFor (iList K (tFld K (tVar 0) "links")) (gTup K 2 (gCons (gName 3) (gCons (gName 4) (gNil)))) (tSeq (tIfS (tTest (tOp rEq (tVar 3) (tVar 1))) (tDrop (tBM K "list" rAppend (tVar 2) (tCons (tVar 4) (tNil)))) (tNext))
 (tIfS (tTest (tOp rEq (tVar 4) (tVar 1))) (tDrop (tBM K "list" rAppend (tVar 2) (tCons (tVar 3) (tNil)))) (tNext))))
 (tRet (tVar 2)))
@[irreducible] def t_Web_spread_b1_s2 (K : PySem.W.Frag) (A : Ad) (E : XK) : TS :=
 tIfS (tTest (tOp rIsN (tOp (rIxL K) (tVar 1) (tVar 7)) (tC .non))) (tSeq (tAsg (tTup (tCons (tVar 3) (tCons (tOp (rIxT K) (tVar 6) (tC (.int 1))) (tNil)))) (gSub (tVar 1) (tVar 7) rSetL))
 (tFor (iList K (tMeth A.c_Web "beside" (sp_Web_beside K A) [] E0 (tVar 0) (tCons (tVar 7) (tNil)))) (gName 8) (tIfS (tTest (tOp rEq (tOp (rIxL K) (tFld K (tVar 0) "zones") (tVar 8)) (tOp (rIxL K) (tFld K (tVar 0) "zones") (tVar 7)))) (tDrop (tBM K "list" rAppend (tVar 5) (tCons (tTup (tCons (tVar 8) (tCons (tVar 7) (tNil)))) (tNil)))) (tDrop (tBM K "list" rAppend (tVar 4) (tCons (tTup (tCons (tVar 8) (tCons (tVar 7) (tNil)))) (tNil))))))) (tNext)
@[irreducible] def t_Web_spread_b1_s1 (K : PySem.W.Frag) (A : Ad) (E : XK) : TS :=
 tSeq (tAsg (tOp (rIxT K) (tVar 6) (tC (.int 0))) (gName 7))
 (t_Web_spread_b1_s2 K A E)
@[irreducible] def t_Web_spread_b1 (K : PySem.W.Frag) (A : Ad) (E : XK) : TS :=
 tSeq (tAsg (tBM0 K "list" rPop (tVar 5)) (gName 6))
 (t_Web_spread_b1_s1 K A E)
@[irreducible] def t_Web_spread_s3 (K : PySem.W.Frag) (A : Ad) (E : XK) : TS :=
 tRet (tLc (iList K (tVar 4)) (gName 6) (tTest (tOp rIsN (tOp (rIxL K) (tVar 1) (tOp (rIxT K) (tVar 6) (tC (.int 0)))) (tC .non))) (tVar 6) [6])
@[irreducible] def t_Web_spread_s2 (K : PySem.W.Frag) (A : Ad) (E : XK) : TS :=
 tSeq (tWhile (tTru K (tVar 5)) (t_Web_spread_b1 K A E))
 (t_Web_spread_s3 K A E)
@[irreducible] def t_Web_spread_s1 (K : PySem.W.Frag) (A : Ad) (E : XK) : TS :=
 tSeq (tAsg (tCB (rListS K) (tCons (tVar 2) (tNil))) (gName 5))
 (t_Web_spread_s2 K A E)
def N_Web_spread : List Str := ["self", "found", "layer", "count", "further", "waiting", "pair", "stop", "other"]
def t_Web_spread (K : PySem.W.Frag) (A : Ad) (E : XK) : TS :=
 tSeq (tAsg (tLst (tNil)) (gName 4))
 (t_Web_spread_s1 K A E)
@[irreducible] def t_Web_reached_b1_s1 (K : PySem.W.Frag) (A : Ad) (E : XK) : TS :=
 tAsg (tOp rAdd (tVar 4) (tC (.int 1))) (gName 4)
@[irreducible] def t_Web_reached_b1 (K : PySem.W.Frag) (A : Ad) (E : XK) : TS :=
 tSeq (tAsg (tMeth A.c_Web "spread" (sp_Web_spread K A) [] E0 (tVar 0) (tCons (tVar 2) (tCons (tVar 3) (tCons (tVar 4) (tNil))))) (gName 3))
 (t_Web_reached_b1_s1 K A E)
@[irreducible] def t_Web_reached_s5 (K : PySem.W.Frag) (A : Ad) (E : XK) : TS :=
 tRet (tVar 2)
@[irreducible] def t_Web_reached_s4 (K : PySem.W.Frag) (A : Ad) (E : XK) : TS :=
 tSeq (tWhile (tTru K (tVar 3)) (t_Web_reached_b1 K A E))
 (t_Web_reached_s5 K A E)
@[irreducible] def t_Web_reached_s3 (K : PySem.W.Frag) (A : Ad) (E : XK) : TS :=
 tSeq (tAsg (tC (.int 1)) (gName 4))
 (t_Web_reached_s4 K A E)
@[irreducible] def t_Web_reached_s2 (K : PySem.W.Frag) (A : Ad) (E : XK) : TS :=
 tSeq (tAsg (tLst (tCons (tTup (tCons (tVar 1) (tCons (tVar 1) (tNil)))) (tNil))) (gName 3))
 (t_Web_reached_s3 K A E)
@[irreducible] def t_Web_reached_s1 (K : PySem.W.Frag) (A : Ad) (E : XK) : TS :=
 tSeq (tAsg (tLc (iList K (tFld K (tVar 0) "zones")) (gName 5) (tYes) (tC .non) [5]) (gName 2))
 (t_Web_reached_s2 K A E)
def N_Web_reached : List Str := ["self", "start", "found", "layer", "count", "zone"]
def t_Web_reached (K : PySem.W.Frag) (A : Ad) (E : XK) : TS :=
 tSeq (tDrop (tMeth A.c_Web "need" (sp_Web_need K A) [] E (tVar 0) (tCons (tVar 1) (tNil))))
 (t_Web_reached_s1 K A E)
def N_Web_levels : List Str := ["self", "start", "pair"]
def t_Web_levels (K : PySem.W.Frag) (A : Ad) (E : XK) : TS :=
 tRet (tLc (iList K (tMeth A.c_Web "reached" (sp_Web_reached K A) [] E (tVar 0) (tCons (tVar 1) (tNil)))) (gName 2) (tYes) (tIf (tTest (tOp rIsN (tVar 2) (tC .non))) (tC .non) (tOp (rIxT K) (tVar 2) (tC (.int 0)))) [2])
def N_Web_fewest : List Str := ["self", "start", "goal", "count"]
def t_Web_fewest (K : PySem.W.Frag) (A : Ad) (E : XK) : TS :=
 tSeq (tDrop (tMeth A.c_Web "need" (sp_Web_need K A) [] E (tVar 0) (tCons (tVar 2) (tNil))))
 (tSeq (tAsg (tOp (rIxL K) (tMeth A.c_Web "levels" (sp_Web_levels K A) [] E (tVar 0) (tCons (tVar 1) (tNil))) (tVar 2)) (gName 3))
 (tSeq (tIfS (tTest (tOp rIsN (tVar 3) (tC .non))) (tRaise E (.ref A.c_NoWay)) (tNext))
 (tRet (tVar 3))))
@[irreducible] def t_Web_way_s5 (K : PySem.W.Frag) (A : Ad) (E : XK) : TS :=
 tRet (tListRev K (tVar 4))
@[irreducible] def t_Web_way_s4 (K : PySem.W.Frag) (A : Ad) (E : XK) : TS :=
 tSeq (tWhile (tTest (tOp rNe (tOp (rIxL K) (tVar 4) (tUn rNeg (tC (.int 1)))) (tVar 1))) (tDrop (tBM K "list" rAppend (tVar 4) (tCons (tOp (rIxT K) (tOp (rIxL K) (tVar 3) (tOp (rIxL K) (tVar 4) (tUn rNeg (tC (.int 1))))) (tC (.int 1))) (tNil)))))
 (t_Web_way_s5 K A E)
@[irreducible] def t_Web_way_s3 (K : PySem.W.Frag) (A : Ad) (E : XK) : TS :=
 tSeq (tAsg (tLst (tCons (tVar 2) (tNil))) (gName 4))
 (t_Web_way_s4 K A E)
@[irreducible] def t_Web_way_s2 (K : PySem.W.Frag) (A : Ad) (E : XK) : TS :=
 tSeq (tIfS (tTest (tOp rIsN (tOp (rIxL K) (tVar 3) (tVar 2)) (tC .non))) (tRaise E (.ref A.c_NoWay)) (tNext))
 (t_Web_way_s3 K A E)
@[irreducible] def t_Web_way_s1 (K : PySem.W.Frag) (A : Ad) (E : XK) : TS :=
 tSeq (tAsg (tMeth A.c_Web "reached" (sp_Web_reached K A) [] E (tVar 0) (tCons (tVar 1) (tNil))) (gName 3))
 (t_Web_way_s2 K A E)
def N_Web_way : List Str := ["self", "start", "goal", "found", "row"]
def t_Web_way (K : PySem.W.Frag) (A : Ad) (E : XK) : TS :=
 tSeq (tDrop (tMeth A.c_Web "need" (sp_Web_need K A) [] E (tVar 0) (tCons (tVar 2) (tNil))))
 (t_Web_way_s1 K A E)
end FW

/-! Web.spread: its three lists. -/
namespace FW
open PySem PySem.Spec PyProof.Rows L2
theorem dels_upd {H : Hp} {hs : List Addr} {a : Addr} {o : HO} (h : a ∈ hs) : dels (upd H a o) hs = dels H hs := by
  funext b
  by_cases e : b ∈ hs
  · rw [dels_in e, dels_in e]
  · rw [dels_out e, dels_out e, upd_ne (fun z => e (by rw [z]; exact h))]
theorem PairL.last {H : Hp} : ∀ {xs : List V} {ps : List (Nat × Nat)}, PairL H xs ps → xs ≠ [] → ∃ xs' ps' q a b, xs = xs' ++ [V.ref q] ∧ ps = ps' ++ [(a, b)] ∧ PairL H xs' ps' ∧ H q = some (.tup [.int (a : Nat), .int (b : Nat)])
  | _, _, .nil, h => absurd rfl h
  | _, (a, b) :: _, .cons ⟨q, e, h⟩ .nil, _ => ⟨[], [], q, a, b, by rw [e]; rfl, rfl, .nil, h⟩
  | x :: y :: xs, p :: p2 :: ps, .cons e (.cons e2 r), _ => by
    obtain ⟨xs', ps', q, a, b, h1, h2, h3, h4⟩ := PairL.last (Paired.cons e2 r) (by simp)
    exact ⟨x :: xs', p :: ps', q, a, b, by rw [h1]; rfl, by rw [h2]; rfl, .cons e h3, h4⟩
structure SpH (H0 H' : Hp) (f FU WA : Addr) (fsv fxs wxs : List V) (F : Fnd) (frs ws : List (Nat × Nat)) : Prop where
  n1 : f ≠ FU
  n2 : f ≠ WA
  n3 : FU ≠ WA
  same : Same H0 (dels H' [f, FU, WA])
  hf : H' f = some (.lst fsv)
  hu : H' FU = some (.lst fxs)
  hw : H' WA = some (.lst wxs)
  lf : FndL (dels H' [f, FU, WA]) fsv F
  lw : PairL (dels H' [f, FU, WA]) wxs ws
  lu : PairL (dels H' [f, FU, WA]) fxs frs
variable {H0 H' H'' : Hp} {f FU WA : Addr} {fsv fxs wxs : List V} {F : Fnd} {frs ws : List (Nat × Nat)}
theorem SpH.ext (h : SpH H0 H' f FU WA fsv fxs wxs F frs ws) (s : Same H' H'') : SpH H0 H'' f FU WA fsv fxs wxs F frs ws :=
  ⟨h.n1, h.n2, h.n3, h.same.trans (s.dels2 _), s _ _ h.hf, s _ _ h.hu, s _ _ h.hw, h.lf.same (s.dels2 _), h.lw.same (s.dels2 _), h.lu.same (s.dels2 _)⟩
theorem SpH.out (h : SpH H0 H' f FU WA fsv fxs wxs F frs ws) {q : Addr} {vs : List V} (e : H' q = some (.tup vs)) : dels H' [f, FU, WA] q = some (.tup vs) := by
  rw [dels_out]
  · exact e
  · intro m
    simp only [List.mem_cons, List.not_mem_nil, or_false] at m
    rcases m with z | z | z
    · rw [z, h.hf] at e; cases e
    · rw [z, h.hu] at e; cases e
    · rw [z, h.hw] at e; cases e
theorem SpH.putW (h : SpH H0 H' f FU WA fsv fxs wxs F frs ws) {q : Addr} {a b : Nat} (e : H' q = some (.tup [.int (a : Nat), .int (b : Nat)])) : SpH H0 (upd H' WA (.lst (wxs ++ [.ref q]))) f FU WA fsv fxs (wxs ++ [.ref q]) F frs (ws ++ [(a, b)]) := by
  have m : WA ∈ [f, FU, WA] := by simp
  refine ⟨h.n1, h.n2, h.n3, ?_, by rw [upd_ne h.n2]; exact h.hf, by rw [upd_ne h.n3]; exact h.hu, upd_same, ?_, ?_, ?_⟩ <;> rw [dels_upd m]
  · exact h.same
  · exact h.lf
  · exact h.lw.snoc (h.out e)
  · exact h.lu
theorem SpH.putU (h : SpH H0 H' f FU WA fsv fxs wxs F frs ws) {q : Addr} {a b : Nat} (e : H' q = some (.tup [.int (a : Nat), .int (b : Nat)])) : SpH H0 (upd H' FU (.lst (fxs ++ [.ref q]))) f FU WA fsv (fxs ++ [.ref q]) wxs F (frs ++ [(a, b)]) ws := by
  have m : FU ∈ [f, FU, WA] := by simp
  refine ⟨h.n1, h.n2, h.n3, ?_, by rw [upd_ne h.n1]; exact h.hf, upd_same, by rw [upd_ne (fun z => h.n3 z.symm)]; exact h.hw, ?_, ?_, ?_⟩ <;> rw [dels_upd m]
  · exact h.same
  · exact h.lf
  · exact h.lw
  · exact h.lu.snoc (h.out e)
theorem SpH.popW {wxs' : List V} {ws' : List (Nat × Nat)} (h : SpH H0 H' f FU WA fsv fxs wxs F frs ws) (l : PairL (dels H' [f, FU, WA]) wxs' ws') : SpH H0 (upd H' WA (.lst wxs')) f FU WA fsv fxs wxs' F frs ws' := by
  have m : WA ∈ [f, FU, WA] := by simp
  refine ⟨h.n1, h.n2, h.n3, ?_, by rw [upd_ne h.n2]; exact h.hf, by rw [upd_ne h.n3]; exact h.hu, upd_same, ?_, ?_, ?_⟩ <;> rw [dels_upd m]
  · exact h.same
  · exact h.lf
  · exact l
  · exact h.lu
theorem SpH.setF (h : SpH H0 H' f FU WA fsv fxs wxs F frs ws) {q : Addr} {c : Int} {u i : Nat} (e : H' q = some (.tup [.int c, .int (u : Nat)])) : SpH H0 (upd H' f (.lst (fsv.set i (.ref q)))) f FU WA (fsv.set i (.ref q)) fxs wxs (F.set i (some (c, u))) frs ws := by
  have m : f ∈ [f, FU, WA] := by simp
  refine ⟨h.n1, h.n2, h.n3, ?_, upd_same, by rw [upd_ne (fun z => h.n1 z.symm)]; exact h.hu, by rw [upd_ne (fun z => h.n2 z.symm)]; exact h.hw, ?_, ?_, ?_⟩ <;> rw [dels_upd m]
  · exact h.same
  · exact FndL.set (h.out e) h.lf
  · exact h.lw
  · exact h.lu
theorem big {n : Nat} (h : n ≤ 1000000) : n ≤ sizeLine := Nat.le_trans h (by decide)
theorem big_lt {n : Nat} (h : n < 1000000) : n < sizeLine := Nat.lt_of_lt_of_le h (by decide)
/-- the pairs whose stop has no level yet -/
def stillV (H : Hp) (fsv : List V) : V → Option V
  | .ref q => match H q with
    | some (.tup [.int a, _]) => if atI fsv a = some .non then some (.ref q) else none
    | _ => none
  | _ => none
theorem still_pairs {H : Hp} {fsv : List V} {F : Fnd} (lf : FndL H fsv F) : ∀ {xs : List V} {ps : List (Nat × Nat)}, PairL H xs ps → (∀ p ∈ ps, p.1 < F.length) → PairL H (xs.filterMap (stillV H fsv)) (ps.filter fun p => (fd F p.1).isNone)
  | _, _, .nil, _ => .nil
  | _, (a, b) :: ps, .cons ⟨q, e, h⟩ r, hp => by
    have ih := still_pairs lf r fun p m => hp p (List.mem_cons_of_mem _ m)
    have ha : a < F.length := hp (a, b) List.mem_cons_self
    subst e
    rcases lf.get ha with ⟨h1, h2⟩ | ⟨c, u, q2, h1, h2, h3⟩
    · have e1 : stillV H fsv (.ref q) = some (.ref q) := by
        show (match H q with | some (.tup [.int a, _]) => if atI fsv a = some V.non then some (V.ref q) else none | _ => none) = _
        rw [h]
        exact if_pos (atI_nat h1)
      rw [List.filterMap_cons, e1, List.filter_cons_of_pos (by show (fd F a).isNone = true; rw [h2]; rfl)]
      exact .cons ⟨q, rfl, h⟩ ih
    · have e1 : stillV H fsv (.ref q) = none := by
        show (match H q with | some (.tup [.int a, _]) => if atI fsv a = some V.non then some (V.ref q) else none | _ => none) = _
        rw [h]
        exact if_neg (by rw [atI_nat h1]; intro z; cases z)
      rw [List.filterMap_cons, e1, List.filter_cons_of_neg (by show ¬ (fd F a).isNone = true; rw [h2]; simp)]
      exact ih
end FW

/-! Web: the readings. -/
namespace FW
open PySem PySem.Spec PyProof.Rows L2
section
variable {K : PySem.W.Frag} {A : Ad} {vs : List V} {H : Hp} {Q : VK} {E : XK}
theorem rd_Web_need (O : OkW K A) (h : sp_Web_need K A vs H Q E) : t_Web_need K A E { nx := fun _ H' => Q .non H', rt := Q } (start N_Web_need vs) H := by
  obtain ⟨p, zones, links, z, rfl, ⟨a, b, w⟩, k1, k2⟩ := h
  obtain ⟨dx, ob⟩ := w.ob
  have cl := O.cl
  have nZ := O.nZ
  have e1 := webF_z a b
  have hz := w.hz
  have hn := w.ok.hn
  unfold t_Web_need
  walk_at "rd"
  refine ite_d (fun c => ?_) (fun c => ?_)
  · walk_at "rd"
    exact k2 (by omega)
  · walk_at "rd"
    rw [List.length_map]
    refine ite_d (fun c2 => ?_) (fun c2 => ?_)
    · exact k2 (by omega)
    · exact k1 (by omega)
theorem nbr_take {links : List (Nat × Nat)} {s i : Nat} {p : Nat × Nat} (h : links[i]? = some p) : nbr (links.take (i + 1)) s = nbr (links.take i) s ++ nbr1 s p := by
  unfold nbr
  rw [List.take_add_one, h, List.flatMap_append]
  simp
theorem rd_Web_beside (O : OkW K A) (h : sp_Web_beside K A vs H Q E) : t_Web_beside K A E { nx := fun _ H' => Q .non H', rt := Q } (start N_Web_beside vs) H := by
  obtain ⟨p, zones, links, s, rfl, ⟨a, b, w⟩, k⟩ := h
  obtain ⟨dx, ob⟩ := w.ob
  obtain ⟨xs, hl, pl⟩ := w.hl
  have cl := O.cl
  have nL := O.nL
  have e1 := webF_l a b
  have hL := w.ok.hL
  unfold t_Web_beside
  walk_at "rd"
  intro R hR
  have s1 : Same H (upd H R (.lst [])) := Same.new hR
  walk_at "rd"
  refine for_list (K := K) (a := b) (xs := xs) (fun i σ H' => Hold (∃ o3 o4 : Option V, σ = [some (.ref p), some (.int (s : Nat)), some (.ref R), o3, o4] ∧ Same H (del H' R) ∧ H' R = some (.lst ((nbr (links.take i) s).map fun o => V.int (o : Nat))))) ⟨none, none, rfl, by rw [del_new hR]; exact Same.refl _, upd_same⟩ ?_ ?_ ?_
  · rintro i σ H' _ ⟨o3, o4, rfl, s, r⟩
    exact SqL.of (del_sub _ _ _ _ (s _ _ hl))
  · rintro i x σ H' hx ⟨o3, o4, rfl, s2, r⟩
    obtain ⟨u, v, q, hi, rfl, hq⟩ := (pl.same (s2.trans (del_sub _ _))).get hx
    have hil : i < links.length := (List.getElem?_eq_some_iff.mp hi).1
    have hln : (nbr (links.take i) s).length ≤ 600 := by
      have := nbr_len (links.take i) s
      rw [List.length_take] at this
      omega
    rw [nbr_take hi]
    unfold nbr1
    walk_at "rd"
    refine ite_d (fun c => ?_) (fun c => ?_)
    · have c' : u = s := by have := V.int.inj c; omega
      walk_at "rd"
      refine ite_d (fun c2 => ?_) (fun c2 => ?_)
      · have c2' : v = s := by have := V.int.inj c2; omega
        walk_at "rd"
        refine ⟨_, _, rfl, ?_, ?_⟩
        · rw [del_upd, del_upd]; exact s2
        · rw [upd_same, if_pos c', if_pos c2']
          simp
      · have c2' : ¬ v = s := fun z => c2 (by rw [z])
        walk_at "rd"
        refine ⟨_, _, rfl, ?_, ?_⟩
        · rw [del_upd]; exact s2
        · rw [upd_same, if_pos c', if_neg c2']
          simp
    · have c' : ¬ u = s := fun z => c (by rw [z])
      walk_at "rd"
      refine ite_d (fun c2 => ?_) (fun c2 => ?_)
      · have c2' : v = s := by have := V.int.inj c2; omega
        walk_at "rd"
        refine ⟨_, _, rfl, ?_, ?_⟩
        · rw [del_upd]; exact s2
        · rw [upd_same, if_neg c', if_pos c2']
          simp
      · have c2' : ¬ v = s := fun z => c2 (by rw [z])
        refine ⟨_, _, rfl, s2, ?_⟩
        rw [r, if_neg c', if_neg c2']
        simp
  · rintro σ H' ⟨o3, o4, rfl, s2, r⟩
    refine ⟨_, rfl, k R H' (s2.trans (del_sub _ _)) hR ?_⟩
    rw [r, pl.len, List.take_length]
end
end FW

/-! Web.spread: the reading. -/
namespace FW
open PySem PySem.Spec PyProof.Rows L2
section
variable {K : PySem.W.Frag} {A : Ad} {vs : List V} {H : Hp} {Q : VK} {E : XK}
theorem flt_take {l : List Nat} {i o s : Nat} (g : Nat → Bool) (h : l[i]? = some o) : ((l.take (i + 1)).filter g).map (fun o => (o, s)) = ((l.take i).filter g).map (fun o => (o, s)) ++ (if g o = true then [(o, s)] else []) := by
  rw [List.take_add_one, h, List.filter_append, List.map_append]
  congr 1
  by_cases c : g o = true
  · rw [if_pos c, Option.toList_some, List.filter_cons_of_pos c]
    rfl
  · rw [if_neg c, Option.toList_some, List.filter_cons_of_neg c]
    rfl
theorem rd_spread_b1_s2 (O : OkW K A) {p f l FU WA q : Addr} {k : Int} {zones : List Int} {links : List (Nat × Nat)} {start s fr : Nat} {fsv fxs wxs : List V} {F : Fnd} {frs ws : List (Nat × Nat)} {H0 H' : Hp} {o8 : Option V} {Dn : Ends} {rk : Nat → Nat} {T : Nat}
    (w : Web A H0 p zones links) (h : SpH H0 H' f FU WA fsv fxs wxs F frs ws) (hq : H' q = some (.tup [.int (s : Nat), .int (fr : Nat)])) (S : Sprd zones links start k F (ws ++ [(s, fr)]) frs rk T) (hb : ws.length + free F * 600 ≤ 84000) (hb2 : frs.length + free F * 600 ≤ 42000)
    (k1 : ∀ (fsv' fxs' wxs' : List V) (F' : Fnd) (frs' ws' : List (Nat × Nat)) (H'' : Hp) (o8' : Option V) (rk' : Nat → Nat) (T' : Nat), SpH H0 H'' f FU WA fsv' fxs' wxs' F' frs' ws' → Sprd zones links start k F' ws' frs' rk' T' → ws'.length + free F' * 600 ≤ 84000 → frs'.length + free F' * 600 ≤ 42000 →
      ((F' = F ∧ ws' = ws ∧ fd F s ≠ none) ∨ (free F' < free F ∧ ws'.length + free F' * 600 ≤ ws.length + free F * 600)) → Dn.nx [some (.ref p), some (.ref f), some (.ref l), some (.int k), some (.ref FU), some (.ref WA), some (.ref q), some (.int (s : Nat)), o8'] H'') :
    t_Web_spread_b1_s2 K A E Dn [some (.ref p), some (.ref f), some (.ref l), some (.int k), some (.ref FU), some (.ref WA), some (.ref q), some (.int (s : Nat)), o8] H' := by
  unfold t_Web_spread_b1_s2
  obtain ⟨a, b, wa⟩ := id w
  have W := wa.ok
  have hn := W.hn
  have hL := W.hL
  have hs : s < zones.length := (S.wa_ (s, fr) (List.mem_append_right _ (List.mem_singleton.mpr rfl))).1
  have hsF : s < F.length := by rw [S.len]; exact hs
  have hf := h.hf
  have w' : Web A H' p zones links := w.same (h.same.trans (dels_sub _ _))
  have cl := O.cl
  rcases h.lf.get hsF with ⟨h1, h2⟩ | ⟨c, u, q2, h1, h2, h3⟩
  · have e1 : atI fsv (s : Int) = some .non := atI_nat h1
    have fl : fsv.length = F.length := h.lf.len
    have ix : ixN fsv.length (s : Int) = some s := by
      unfold ixN
      rw [if_pos (by omega), if_pos (by omega)]
      simp
    walk_at "rd"
    intro r hr
    have s1 : Same H' (upd H' r (.tup [.int k, .int (fr : Nat)])) := Same.new hr
    have hh := h.ext s1
    have hr1 : upd H' r (.tup [.int k, .int (fr : Nat)]) r = some (.tup [.int k, .int (fr : Nat)]) := upd_same
    generalize upd H' r (.tup [.int k, .int (fr : Nat)]) = H1 at *
    have hf1 := hh.hf
    have h2' := hh.setF (i := s) hr1
    have S2 := S.take W h2
    have fs1 : free (F.set s (some (k, fr))) + 1 = free F := free_set (by
      unfold fd at h2
      rw [List.getD_eq_getElem?_getD, List.getElem?_eq_getElem hsF] at h2
      rw [List.getElem?_eq_getElem hsF]
      exact congrArg some h2)
    generalize F.set s (some (k, fr)) = F2 at *
    have hf2 := h2'.hf
    have w2 : Web A (upd H1 f (.lst (fsv.set s (.ref r)))) p zones links := w.same (h2'.same.trans (dels_sub _ _))
    obtain ⟨a2, b2, wa2⟩ := id w2
    obtain ⟨dx, ob⟩ := wa2.ob
    have nl := nbr_len links s
    have no1 : (webF a2 b2).lookup ("beside" : Str) = none := webF_no a2 b2 (by decide +kernel) (by decide +kernel)
    walk_at "rd"
    intro L2 H3 s3 hL2 e3
    have h3' := h2'.ext s3
    have nL2W : L2 ≠ WA := fun z => by rw [z, h2'.hw] at hL2; cases hL2
    have nL2U : L2 ≠ FU := fun z => by rw [z, h2'.hu] at hL2; cases hL2
    walk_at "rd"
    refine for_list (K := K) (a := L2) (xs := (nbr links s).map fun o => V.int (o : Nat)) (fun i σ H'' => Hold (∃ (o8 : Option V) (fxs wxs : List V), σ = [some (.ref p), some (.ref f), some (.ref l), some (.int k), some (.ref FU), some (.ref WA), some (.ref q), some (.int (s : Nat)), o8] ∧
      SpH H0 H'' f FU WA (fsv.set s (.ref r)) fxs wxs F2 (frs ++ (((nbr links s).take i).filter fun o => !decide (zn zones o = zn zones s)).map (fun o => (o, s))) (ws ++ (((nbr links s).take i).filter fun o => decide (zn zones o = zn zones s)).map (fun o => (o, s))) ∧ H'' L2 = some (.lst ((nbr links s).map fun o => V.int (o : Nat))))) ⟨o8, fxs, wxs, rfl, by simpa using h3', e3⟩ ?_ ?_ ?_
    · rintro i σ H'' _ ⟨o8, fxs, wxs, rfl, hi, e⟩
      exact SqL.of e
    · rintro i x σ H'' hx ⟨o8, fxs, wxs, rfl, hi, e⟩
      rw [List.getElem?_map] at hx
      obtain ⟨o, ho, rfl⟩ := Option.map_eq_some_iff.mp hx
      have lo := mem_nbr.mp (List.mem_of_getElem? ho)
      have ho1 := (W.lk lo).2.1
      have w3 : Web A H'' p zones links := w.same (hi.same.trans (dels_sub _ _))
      obtain ⟨a3, b3, wa3⟩ := id w3
      obtain ⟨dx3, ob3⟩ := wa3.ob
      have ez := webF_z a3 b3
      have hz3 := wa3.hz
      have nZ := O.nZ
      have i1 : atI (zones.map V.int) (o : Int) = some (.int (zn zones o)) := atI_map (by omega) (by omega)
      have i2 : atI (zones.map V.int) (s : Int) = some (.int (zn zones s)) := atI_map (by omega) (by omega)
      have hw3 := hi.hw
      have hu3 := hi.hu
      have t1 : ((nbr links s).take i).length ≤ 600 := by rw [List.length_take]; omega
      have lnW : wxs.length < sizeLine := big_lt (by
        rw [hi.lw.len, List.length_append, List.length_map]
        have := List.length_filter_le (fun o => decide (zn zones o = zn zones s)) ((nbr links s).take i)
        omega)
      have lnU : fxs.length < sizeLine := big_lt (by
        rw [hi.lu.len, List.length_append, List.length_map]
        have := List.length_filter_le (fun o => !decide (zn zones o = zn zones s)) ((nbr links s).take i)
        omega)
      walk_at "rd"
      refine ite_d (fun c => ?_) (fun c => ?_)
      · have c := V.int.inj c
        walk_at "rd"
        intro t ht
        have s4 : Same H'' (upd H'' t (.tup [.int (o : Nat), .int (s : Nat)])) := Same.new ht
        have e4 := s4 _ _ e
        have hi4 := (hi.ext s4).putW (q := t) (a := o) (b := s) upd_same
        have hw4 := s4 _ _ hw3
        walk_at "rd"
        refine ⟨_, fxs, wxs ++ [.ref t], rfl, ?_, by rw [upd_ne nL2W]; exact e4⟩
        rw [flt_take _ ho, flt_take _ ho, decide_eq_true c]
        show SpH H0 _ f FU WA (fsv.set s (.ref r)) fxs (wxs ++ [.ref t]) F2 (frs ++ (_ ++ [])) (ws ++ (_ ++ [(o, s)]))
        rw [List.append_nil, ← List.append_assoc]
        exact hi4
      · have c : ¬ zn zones o = zn zones s := fun z => c (by rw [z])
        walk_at "rd"
        intro t ht
        have s4 : Same H'' (upd H'' t (.tup [.int (o : Nat), .int (s : Nat)])) := Same.new ht
        have e4 := s4 _ _ e
        have hi4 := (hi.ext s4).putU (q := t) (a := o) (b := s) upd_same
        have hu4 := s4 _ _ hu3
        walk_at "rd"
        refine ⟨_, fxs ++ [.ref t], wxs, rfl, ?_, by rw [upd_ne nL2U]; exact e4⟩
        rw [flt_take _ ho, flt_take _ ho, decide_eq_false c]
        show SpH H0 _ f FU WA (fsv.set s (.ref r)) (fxs ++ [.ref t]) wxs F2 (frs ++ (_ ++ [(o, s)])) (ws ++ (_ ++ []))
        rw [List.append_nil, ← List.append_assoc]
        exact hi4
    · rintro σ H'' ⟨o8, fxs, wxs, rfl, hi, e⟩
      rw [List.length_map, List.take_length] at hi
      have l1 := List.length_filter_le (fun o => decide (zn zones o = zn zones s)) (nbr links s)
      have l2 := List.length_filter_le (fun o => !decide (zn zones o = zn zones s)) (nbr links s)
      refine k1 _ _ _ _ _ _ _ _ _ _ hi S2 ?_ ?_ (.inr ⟨by omega, ?_⟩) <;> rw [List.length_append, List.length_map] <;> omega
  · have e1 : atI fsv (s : Int) = some (.ref q2) := atI_nat h1
    walk_at "rd"
    exact k1 _ _ _ _ _ _ _ _ _ _ h (S.skip (by rw [h2]; intro z; cases z)) hb hb2 (.inl ⟨rfl, rfl, by rw [h2]; intro z; cases z⟩)
end
end FW

/-! Web.spread, Web.reached, Web.levels: the readings. -/
namespace FW
open PySem PySem.Spec PyProof.Rows L2
section
variable {K : PySem.W.Frag} {A : Ad} {vs : List V} {H : Hp} {Q : VK} {E : XK}
theorem rd_spread_s3 {p f l FU WA : Addr} {k : Int} {zones : List Int} {links : List (Nat × Nat)} {start : Nat} {fsv fxs wxs : List V} {F : Fnd} {frs : List (Nat × Nat)} {H0 H' : Hp} {o6 o7 o8 : Option V} {Dn : Ends} {rk : Nat → Nat} {T : Nat}
    (h : SpH H0 H' f FU WA fsv fxs wxs F frs []) (S : Sprd zones links start k F [] frs rk T) (hb2 : frs.length ≤ 42000)
    (q : ∀ (l' : Addr) (xs' : List V) (H'' : Hp), Same H' H'' → H' l' = none → H'' l' = some (.lst xs') → PairL (dels H'' [f, FU, WA]) xs' (frs.filter fun p => (fd F p.1).isNone) → Dn.rt (.ref l') H'') :
    t_Web_spread_s3 K A E Dn [some (.ref p), some (.ref f), some (.ref l), some (.int k), some (.ref FU), some (.ref WA), o6, o7, o8] H' := by
  unfold t_Web_spread_s3
  have hu := h.hu
  have hf := h.hf
  walk_at "rd"
  intro D hD
  have hfr : ∀ p ∈ frs, p.1 < F.length := fun p m => by rw [S.len]; exact (S.fr_ p m).1
  refine lc_listF (a := FU) (xs := fxs) hD (SqL.of hu) (by rw [h.lu.len]; omega) (stillV (dels H' [f, FU, WA]) fsv) ?_ ?_
  · intro i x H2 hx s2 G N hG hN
    obtain ⟨a, b, q, hi, rfl, hq⟩ := h.lu.get hx
    have hq2 := s2 _ _ (dels_sub _ _ _ _ hq)
    have hf2 := s2 _ _ hf
    have ha : a < F.length := hfr (a, b) (List.mem_of_getElem? hi)
    rcases h.lf.get ha with ⟨h1, h2⟩ | ⟨c, u, q2, h1, h2, h3⟩
    · have e1 : atI fsv (a : Int) = some .non := atI_nat h1
      have e2 : stillV (dels H' [f, FU, WA]) fsv (.ref q) = some (.ref q) := by
        show (match dels H' [f, FU, WA] q with | some (.tup [.int a, _]) => if atI fsv a = some V.non then some (V.ref q) else none | _ => none) = _
        rw [hq]
        exact if_pos e1
      walk_at "rd"
      exact hG _ _ e2 (Same.refl _)
    · have e1 : atI fsv (a : Int) = some (.ref q2) := atI_nat h1
      have e2 : stillV (dels H' [f, FU, WA]) fsv (.ref q) = none := by
        show (match dels H' [f, FU, WA] q with | some (.tup [.int a, _]) => if atI fsv a = some V.non then some (V.ref q) else none | _ => none) = _
        rw [hq]
        exact if_neg (by rw [e1]; intro z; cases z)
      walk_at "rd"
      exact hN _ e2 (Same.refl _)
  · intro H2 s2 e2
    have s3 : Same H' H2 := s2.trans (del_sub _ _)
    exact q D _ H2 s3 hD e2 ((still_pairs h.lf h.lu hfr).same (s3.dels2 _))
theorem rd_Web_spread (O : OkW K A) (h : sp_Web_spread K A vs H Q E) : t_Web_spread K A E { nx := fun _ H' => Q .non H', rt := Q } (start N_Web_spread vs) H := by
  obtain ⟨p, f, l, k, zones, links, start, fs, xs, F0, ps, rk, T, rfl, w, hf, lf, hl, lp, S, hps, q⟩ := h
  have W : WebOk zones links := let ⟨_, _, w⟩ := w; w.ok
  have hn := W.hn
  have hfl : free F0 ≤ 70 := by have := free_le F0; rw [S.len] at this; omega
  have hl' := (del_sub H f).seq hl
  have hxl : xs.length ≤ 42000 := by rw [lp.len]; exact hps
  unfold t_Web_spread t_Web_spread_s1
  walk_at "rd"
  intro FU hFU
  have nfu : f ≠ FU := ne_of_none hf hFU
  have s1 : Same H (upd H FU (.lst [])) := Same.new hFU
  have hl1 := s1.seq hl'
  have hf1 := s1 _ _ hf
  have hu1 : upd H FU (.lst []) FU = some (.lst []) := upd_same
  generalize upd H FU (.lst []) = H1 at *
  walk_at "rd"
  intro WA hWA
  have nfw : f ≠ WA := ne_of_none hf1 hWA
  have nuw : FU ≠ WA := ne_of_none hu1 hWA
  have s2 : Same H1 (upd H1 WA (.lst xs)) := Same.new hWA
  have sB : Same (del H f) (dels (upd H1 WA (.lst xs)) [f, FU, WA]) := by
    intro b o e
    obtain ⟨e1, n⟩ := del_get e
    rw [dels_out]
    · exact s2 _ _ (s1 _ _ e1)
    · intro m
      simp only [List.mem_cons, List.not_mem_nil, or_false] at m
      rcases m with z | z | z
      · exact n z
      · rw [z, hFU] at e1; cases e1
      · have := s1 _ _ e1
        rw [z, hWA] at this; cases this
  have SP : SpH (del H f) (upd H1 WA (.lst xs)) f FU WA fs [] xs F0 [] ps := ⟨nfu, nfw, nuw, sB, s2 _ _ hf1, s2 _ _ hu1, upd_same, lf.same sB, lp.same sB, .nil⟩
  have fu0 : del H f FU = none := by rw [del_ne (ne_sym nfu)]; exact hFU
  have wa0 : del H f WA = none := by rw [del_ne (ne_sym nfw)]; exact s1.free hWA
  generalize upd H1 WA (.lst xs) = H2 at *
  have f0 : del H f f = none := del_at
  have free_of : ∀ {H'' : Hp} {D : Addr}, Same (del H f) H'' → H'' D = none → D ≠ f → H D = none := fun s e n => by have := s.free e; rw [del_ne n] at this; exact this
  show t_Web_spread_s2 K A E _ [some (.ref p), some (.ref f), some (.ref l), some (.int k), some (.ref FU), some (.ref WA), none, none, none] H2
  unfold t_Web_spread_s2
  refine ⟨fun m σ H' => ∃ (o6 o7 o8 : Option V) (fsv fxs wxs : List V) (F : Fnd) (frs ws : List (Nat × Nat)) (rk : Nat → Nat) (T : Nat), m = free F * 601 + ws.length ∧ σ = [some (.ref p), some (.ref f), some (.ref l), some (.int k), some (.ref FU), some (.ref WA), o6, o7, o8] ∧
    SpH (del H f) H' f FU WA fsv fxs wxs F frs ws ∧ Sprd zones links start k F ws frs rk T ∧ ws.length + free F * 600 ≤ 84000 ∧ frs.length + free F * 600 ≤ 42000 ∧ (free F < free F0 ∨ (F = F0 ∧ ∀ q ∈ ps, q ∈ ws ∨ fd F0 q.1 ≠ none)),
    ⟨_, none, none, none, fs, [], xs, F0, [], ps, rk, T, rfl, rfl, SP, S, by omega, by simp; omega, .inr ⟨rfl, fun q m => .inl m⟩⟩, ?_⟩
  rintro m σ H' ⟨o6, o7, o8, fsv, fxs, wxs, F, frs, ws, rk, T, rfl, rfl, SP, S, b1, b2, dd⟩
  have hw := SP.hw
  refine ⟨_, rfl, _, .inl ⟨wxs, SqL.of hw, rfl⟩, ite_b (fun c => ?_) (fun c => ?_)⟩
  · obtain ⟨wxs', ws', q1, s, fr, e1, e2, lw', hq1⟩ := SP.lw.last (fun z => by rw [z] at c; cases c)
    subst e1 e2
    refine ⟨fun σ' H'' => ∃ m', m' < free F * 601 + (ws' ++ [(s, fr)]).length ∧ ∃ (o6 o7 o8 : Option V) (fsv fxs wxs : List V) (F : Fnd) (frs ws : List (Nat × Nat)) (rk : Nat → Nat) (T : Nat), m' = free F * 601 + ws.length ∧ σ' = [some (.ref p), some (.ref f), some (.ref l), some (.int k), some (.ref FU), some (.ref WA), o6, o7, o8] ∧
      SpH (del H f) H'' f FU WA fsv fxs wxs F frs ws ∧ Sprd zones links start k F ws frs rk T ∧ ws.length + free F * 600 ≤ 84000 ∧ frs.length + free F * 600 ≤ 42000 ∧ (free F < free F0 ∨ (F = F0 ∧ ∀ q ∈ ps, q ∈ ws ∨ fd F0 q.1 ≠ none)), fun σ' H'' h => h, ?_⟩
    have lastW : (wxs' ++ [V.ref q1])[(wxs' ++ [V.ref q1]).length - 1]? = some (.ref q1) := by simp
    have SP2 := SP.popW (wxs' := (wxs' ++ [V.ref q1]).dropLast) (ws' := ws') (by rw [List.dropLast_concat]; exact lw')
    have hq2 : upd H' WA (.lst (wxs' ++ [V.ref q1]).dropLast) q1 = some (.tup [.int (s : Nat), .int (fr : Nat)]) := by
      have h9 := dels_sub _ _ _ _ hq1
      rw [upd_ne (ne_of h9 hw (by intro z; cases z))]
      exact h9
    unfold t_Web_spread_b1 t_Web_spread_b1_s1
    walk_at "rd"
    rw [List.length_append, List.length_singleton] at b1
    show t_Web_spread_b1_s2 K A E _ [some (.ref p), some (.ref f), some (.ref l), some (.int k), some (.ref FU), some (.ref WA), some (.ref q1), some (.int (s : Nat)), o8] _
    refine rd_spread_b1_s2 O w SP2 hq2 S (by omega) b2 fun fsv' fxs' wxs' F' frs' ws'' H'' o8' rk' T' SP3 S3 c1 c2 d3 => ⟨_, ?_, _, _, _, _, _, _, _, _, _, _, _, rfl, rfl, SP3, S3, c1, c2, ?_⟩
    · rw [List.length_append, List.length_singleton]
      rcases d3 with ⟨e1, e2, _⟩ | ⟨e1, e2⟩
      · rw [e1, e2]; omega
      · omega
    · rcases d3 with ⟨e1, e2, e3⟩ | ⟨e1, e2⟩
      · rcases dd with g | ⟨g1, g2⟩
        · exact .inl (by rw [e1]; exact g)
        · refine .inr ⟨by rw [e1]; exact g1, fun q hq => ?_⟩
          rcases g2 q hq with m | m
          · rcases List.mem_append.mp m with m | m
            · exact .inl (by rw [e2]; exact m)
            · have := List.mem_singleton.mp m
              rw [this]
              exact .inr (by rw [← g1]; exact e3)
          · exact .inr m
      · rcases dd with g | ⟨g1, g2⟩
        · exact .inl (by omega)
        · exact .inl (by rw [← g1]; exact e1)
  · have ew : wxs = [] := by
      cases wxs with
      | nil => rfl
      | cons => cases c
    subst ew
    have ews : ws = [] := by
      have := SP.lw.len
      exact List.length_eq_zero_iff.mp this.symm
    subst ews
    refine rd_spread_s3 SP S (by omega) fun l' xs' H'' s3 h1 h2 h3 => ?_
    have SP4 := SP.ext s3
    have sD : Same (dels H'' [f, FU, WA]) (del H'' f) := by
      intro b o e
      obtain ⟨e1, n⟩ := dels_get e
      rw [del_ne (fun z => n (by rw [z]; simp))]
      exact e1
    have nl : l' ≠ f := fun z => by rw [z, SP.hf] at h1; cases h1
    refine q l' fsv xs' F _ rk T H'' (SP4.same.trans sD) SP4.hf (SP4.lf.same sD) ?_ h2 (h3.same sD) S.next ?_ ?_ ?_
    · exact free_of (SP.same.trans (dels_sub _ _)) h1 nl
    · have := List.length_filter_le (fun p : Nat × Nat => (fd F p.1).isNone) frs
      omega
    · intro q hq
      have := (List.mem_filter.mp hq).2
      exact Option.isNone_iff_eq_none.mp this
    · rintro ⟨q, hq, hq0⟩
      rcases dd with g | ⟨g1, g2⟩
      · exact g
      · rcases g2 q hq with m | m
        · cases m
        · exact absurd hq0 m
end
end FW

/-! Web.reached, Web.levels, Web.__init__: the readings. -/
namespace FW
open PySem PySem.Spec PyProof.Rows L2
section
variable {K : PySem.W.Frag} {A : Ad} {vs : List V} {H : Hp} {Q : VK} {E : XK}
theorem fnd_none {H : Hp} : ∀ n, FndL H (List.replicate n V.non) (List.replicate n none)
  | 0 => .nil
  | n + 1 => .cons rfl (fnd_none n)
theorem rd_reached_s4 (O : OkW K A) {p FD la : Addr} {z : Int} {zones : List Int} {links : List (Nat × Nat)} {H H' : Hp} {Dn : Ends} {xs : List V} (w : Web A H p zones links) (hz : InR zones z) (s : Same H (del H' FD)) (hF : H' FD = some (.lst (List.replicate zones.length .non)))
    (hl : H' la = some (.lst xs)) (hp : PairL (del H' FD) xs [(z.toNat, z.toNat)]) (q : ∀ (fs : List V) (F : Fnd) (H'' : Hp), Same H (del H'' FD) → H'' FD = some (.lst fs) → FndL (del H'' FD) fs F → Rch zones links z.toNat F → Dn.rt (.ref FD) H'') (nl : la ≠ FD) :
    t_Web_reached_s4 K A E Dn [some (.ref p), some (.int z), some (.ref FD), some (.ref la), some (.int 1), none] H' := by
  unfold t_Web_reached_s4
  have hzl : z.toNat < zones.length := by have := hz.1; have := hz.2; omega
  refine ⟨fun m σ H' => ∃ (la : Addr) (k : Int) (fs xs : List V) (F : Fnd) (ps : List (Nat × Nat)) (rk : Nat → Nat) (T : Nat), m = free F ∧ σ = [some (.ref p), some (.int z), some (.ref FD), some (.ref la), some (.int k), none] ∧ Same H (del H' FD) ∧ H' FD = some (.lst fs) ∧ FndL (del H' FD) fs F ∧ la ≠ FD ∧ H' la = some (.lst xs) ∧
      PairL (del H' FD) xs ps ∧ Sprd zones links z.toNat k F ps [] rk T ∧ ps.length ≤ 42000 ∧ ∀ q ∈ ps, fd F q.1 = none,
    ⟨_, la, 1, _, xs, _, [(z.toNat, z.toNat)], _, _, rfl, rfl, s, hF, fnd_none _, nl, hl, hp, Sprd.start hzl, by simp, ?_⟩, ?_⟩
  · intro q hq
    unfold fd
    rw [List.getD_eq_getElem?_getD, List.getElem?_replicate]
    split <;> rfl
  · rintro m σ H' ⟨la, k, fs, xs, F, ps, rk, T, rfl, rfl, s, hF, lf, nl, hl, lp, S, hps, hn⟩
    refine ⟨_, rfl, _, .inl ⟨xs, SqL.of hl, rfl⟩, ite_b (fun c => ?_) (fun c => ?_)⟩
    · have pne : ∃ q ∈ ps, fd F q.1 = none := by
        cases ps with
        | nil =>
          have := lp.len
          rw [List.length_eq_zero_iff.mp this] at c
          cases c
        | cons q r => exact ⟨q, List.mem_cons_self, hn q List.mem_cons_self⟩
      refine ⟨fun σ' H'' => Hold (∃ m', m' < free F ∧ ∃ (la : Addr) (k : Int) (fs xs : List V) (F : Fnd) (ps : List (Nat × Nat)) (rk : Nat → Nat) (T : Nat), m' = free F ∧ σ' = [some (.ref p), some (.int z), some (.ref FD), some (.ref la), some (.int k), none] ∧ Same H (del H'' FD) ∧ H'' FD = some (.lst fs) ∧ FndL (del H'' FD) fs F ∧ la ≠ FD ∧ H'' la = some (.lst xs) ∧
        PairL (del H'' FD) xs ps ∧ Sprd zones links z.toNat k F ps [] rk T ∧ ps.length ≤ 42000 ∧ ∀ q ∈ ps, fd F q.1 = none), fun σ' H'' h => h.h, ?_⟩
      have wd := w.same s
      obtain ⟨a, b, wa⟩ := w.same (s.trans (del_sub _ _))
      obtain ⟨dx, ob⟩ := wa.ob
      have cl := O.cl
      have no1 : (webF a b).lookup ("spread" : Str) = none := webF_no a b (by decide +kernel) (by decide +kernel)
      have hl2 : SqL K (del H' FD) la xs := SqL.of (by rw [del_ne nl]; exact hl)
      unfold t_Web_reached_b1
      refine ⟨_, rfl, _, _, _, rfl, ob, no1, _, rfl, _, rfl, _, rfl, p, FD, la, k, zones, links, z.toNat, fs, xs, F, ps, rk, T, rfl, wd, hF, lf, hl2, lp, S, hps, ?_⟩
      intro l' fs' xs' F' ps' rk' T' H'' s2 hF2 lf2 hl0 hl3 lp2 S2 hps2 hn2 hd
      have nl2 : l' ≠ FD := fun e => by rw [e, hF] at hl0; cases hl0
      show t_Web_reached_b1_s1 K A E _ [some (.ref p), some (.int z), some (.ref FD), some (.ref l'), some (.int k), none] H''
      unfold t_Web_reached_b1_s1
      walk_at "rd"
      exact .mk ⟨_, hd pne, _, _, _, _, _, _, _, _, rfl, rfl, s.trans s2, hF2, lf2, nl2, hl3, lp2, S2, hps2, hn2⟩
    · have ex : ps = [] := by
        cases xs with
        | nil => exact List.length_eq_zero_iff.mp lp.len.symm
        | cons => cases c
      subst ex
      unfold t_Web_reached_s5
      exact ⟨_, rfl, q fs F H' s hF lf S.done⟩
theorem rd_Web_reached (O : OkW K A) (h : sp_Web_reached K A vs H Q E) : t_Web_reached K A E { nx := fun _ H' => Q .non H', rt := Q } (start N_Web_reached vs) H := by
  obtain ⟨p, zones, links, z, rfl, w, k1, k2⟩ := h
  obtain ⟨a, b, wa⟩ := id w
  obtain ⟨dx, ob⟩ := wa.ob
  have cl := O.cl
  have nZ := O.nZ
  have e1 := webF_z a b
  have hz := wa.hz
  have hn := wa.ok.hn
  have no1 : (webF a b).lookup ("need" : Str) = none := webF_no a b (by decide +kernel) (by decide +kernel)
  unfold t_Web_reached
  walk_at "rd"
  refine ⟨fun c => ?_, k2⟩
  show t_Web_reached_s1 K A E _ _ H
  unfold t_Web_reached_s1
  walk_at "rd"
  intro FD hFD
  refine lc_listF (a := a) hFD (SqL.of hz) (by rw [List.length_map]; omega) (fun _ => some .non) ?_ ?_
  · intro i x H2 hx s2 G N hG hN
    walk_at "rd"
    exact hG _ _ rfl (Same.refl _)
  · intro H2 s2 e2
    have e3 : H2 FD = some (.lst (List.replicate zones.length V.non)) := by
      rw [e2]
      have : ∀ l : List Int, (l.map V.int).filterMap (fun _ => some V.non) = List.replicate l.length V.non := fun l => by
        induction l with
        | nil => rfl
        | cons x r ih => rw [List.map_cons, List.filterMap_cons, ih]; rfl
      rw [this]
    show t_Web_reached_s2 K A E _ [some (.ref p), some (.int z), some (.ref FD), none, none, none] H2
    unfold t_Web_reached_s2
    walk_at "rd"
    intro t ht
    have s3 : Same H2 (upd H2 t (.tup [.int z, .int z])) := Same.new ht
    have t1 : upd H2 t (.tup [.int z, .int z]) t = some (.tup [.int z, .int z]) := upd_same
    generalize upd H2 t (.tup [.int z, .int z]) = H3 at *
    walk_at "rd"
    intro la hla
    have s4 : Same H3 (upd H3 la (.lst [.ref t])) := Same.new hla
    have sA : Same H2 (upd H3 la (.lst [.ref t])) := s3.trans s4
    show t_Web_reached_s3 K A E _ [some (.ref p), some (.int z), some (.ref FD), some (.ref la), none, none] _
    unfold t_Web_reached_s3
    walk_at "rd"
    have nla : la ≠ FD := fun e => by rw [e] at hla; rw [s3 _ _ e3] at hla; cases hla
    have ntF : t ≠ FD := fun e => by rw [e, e3] at ht; cases ht
    have hzz : ((z.toNat : Nat) : Int) = z := Int.toNat_of_nonneg c.1
    refine rd_reached_s4 O w c (s2.trans (sA.del2 FD)) (sA _ _ e3) upd_same ?_ (fun fs F H'' s5 hF lf r => k1 c FD fs F H'' (s5.trans (del_sub _ _)) hFD hF (lf.same (del_sub _ _)) r) nla
    refine .cons ⟨t, rfl, ?_⟩ .nil
    rw [del_ne ntF, hzz]
    exact s4 _ _ t1
/-- the level of what stands at a place -/
def lvOf (H : Hp) : V → Option V
  | .ref q => match H q with
    | some (.tup (x :: _)) => some x
    | _ => none
  | x => some x
theorem lvOf_all {H : Hp} : ∀ {xs : List V} {F : Fnd}, FndL H xs F → xs.filterMap (lvOf H) = F.map lvV
  | _, _, .nil => rfl
  | x :: xs, none :: F, .cons e r => by
    have ih := lvOf_all r
    subst e
    rw [List.filterMap_cons, List.map_cons, ih]
    rfl
  | x :: xs, some (c, u) :: F, .cons ⟨q, e, h⟩ r => by
    have ih := lvOf_all r
    subst e
    have e1 : lvOf H (.ref q) = some (.int c) := by
      show (match H q with | some (.tup (x :: _)) => some x | _ => none) = _
      rw [h]
    rw [List.filterMap_cons, List.map_cons, ih, e1]
    rfl
theorem rd_Web_levels (O : OkW K A) (h : sp_Web_levels K A vs H Q E) : t_Web_levels K A E { nx := fun _ H' => Q .non H', rt := Q } (start N_Web_levels vs) H := by
  obtain ⟨p, zones, links, z, rfl, w, k1, k2⟩ := h
  obtain ⟨a, b, wa⟩ := id w
  obtain ⟨dx, ob⟩ := wa.ob
  have cl := O.cl
  have hn := wa.ok.hn
  have no1 : (webF a b).lookup ("reached" : Str) = none := webF_no a b (by decide +kernel) (by decide +kernel)
  unfold t_Web_levels
  walk_at "rd"
  refine ⟨fun c l fs F H1 s1 hl0 hl lf r => ?_, k2⟩
  walk_at "rd"
  intro D hD
  refine lc_listF (a := l) hD (SqL.of hl) (by rw [lf.len, r.len]; omega) (lvOf H1) ?_ ?_
  · intro i x H2 hx s2 G N hG hN
    have hi : i < F.length := by rw [← lf.len]; exact (List.getElem?_eq_some_iff.mp hx).1
    rcases lf.get hi with ⟨h1, h2⟩ | ⟨c, u, q2, h1, h2, h3⟩
    · rw [hx] at h1
      cases h1
      walk_at "rd"
      exact hG _ _ rfl (Same.refl _)
    · rw [hx] at h1
      cases h1
      have h4 := s2 _ _ h3
      have e1 : lvOf H1 (.ref q2) = some (.int c) := by
        show (match H1 q2 with | some (.tup (x :: _)) => some x | _ => none) = _
        rw [h3]
      walk_at "rd"
      exact hG _ _ e1 (Same.refl _)
  · intro H2 s2 e2
    rw [lvOf_all lf] at e2
    exact k1 c D F H2 (s1.trans (s2.trans (del_sub _ _))) (s1.free hD) e2 r
theorem rd_Web_init (O : OkW K A) (h : sp_Web_init K A vs H Q E) : t_Web_init K A E { nx := fun _ H' => Q .non H', rt := Q } (start N_Web_init vs) H := by
  obtain ⟨p, dx, z, l, zones, xs, ls, rfl, hp, hz, hl, lp, hn, hL, k1, k2⟩ := h
  unfold t_Web_init
  have hxl : xs.length = ls.length := Paired.length lp
  walk_at "rd"
  refine for_list (K := K) (a := l) (xs := xs) (fun i σ H' => Hold (∃ o3 o4 : Option V, σ = [some (.ref p), some (.ref z), some (.ref l), o3, o4] ∧ H' = H ∧ ∀ q ∈ ls.take i, LinkOk zones.length q)) ⟨none, none, rfl, rfl, fun q m => by cases m⟩ ?_ ?_ ?_
  · rintro i σ H' _ ⟨o3, o4, rfl, rfl, _⟩
    exact hl
  · rintro i x σ H' hx ⟨o3, o4, rfl, rfl, ok⟩
    obtain ⟨a, b, q, hi, rfl, hq⟩ := IPairL.get lp hx
    have mem := List.mem_of_getElem? hi
    have nx : LinkOk zones.length (a, b) → ∀ q ∈ ls.take (i + 1), LinkOk zones.length q := fun h q m => by
      rw [List.take_add_one, hi] at m
      rcases List.mem_append.mp m with m | m
      · exact ok q m
      · have : q = (a, b) := by simpa using m
        rw [this]
        exact h
    have bad : ¬ LinkOk zones.length (a, b) → E (.ref A.c_BadLink) none H' := fun h => k2 fun g => h (g _ mem)
    walk_at "rd"
    refine ite_d (fun c => ?_) (fun c => ?_)
    · exact bad fun h => h.1 (V.int.inj c)
    · walk_at "rd"
      refine ite_d (fun c2 => ?_) (fun c2 => ?_)
      · refine bad fun h => ?_
        obtain ⟨h1, h2, h3, h4, h5⟩ := h
        by_cases c3 : b < a
        · rw [if_pos c3] at c2
          have h3 : 0 ≤ b := h3
          omega
        · rw [if_neg c3] at c2
          have h2 : 0 ≤ a := h2
          omega
      · walk_at "rd"
        rw [List.length_map]
        refine ite_d (fun c4 => ?_) (fun c4 => ?_)
        · refine bad fun h => ?_
          obtain ⟨h1, h2, h3, h4, h5⟩ := h
          have h4 : a < zones.length := h4
          have h5 : b < zones.length := h5
          by_cases c3 : b > a
          · rw [if_pos c3] at c4; omega
          · rw [if_neg c3] at c4; omega
        · refine ⟨_, _, rfl, rfl, nx ⟨fun e => c (by rw [show a = b from e]), ?_⟩⟩
          by_cases c3 : b < a
          · rw [if_pos c3] at c2
            rw [if_neg (by omega)] at c4
            exact ⟨by show 0 ≤ a; omega, by show 0 ≤ b; omega, by show a < _; omega, by show b < _; omega⟩
          · rw [if_neg c3] at c2
            by_cases c5 : b > a
            · rw [if_pos c5] at c4
              exact ⟨by show 0 ≤ a; omega, by show 0 ≤ b; omega, by show a < _; omega, by show b < _; omega⟩
            · rw [if_neg c5] at c4
              exact ⟨by show 0 ≤ a; omega, by show 0 ≤ b; omega, by show a < _; omega, by show b < _; omega⟩
  · rintro σ H' ⟨o3, o4, rfl, rfl, ok⟩
    rw [hxl, List.take_length] at ok
    have cl := O.cl
    have nZ := O.nZ
    have nL := O.nL
    show t_Web_init_s1 K A E _ [some (.ref p), some (.ref z), some (.ref l), o3, o4] H'
    unfold t_Web_init_s1
    walk_at "rd"
    intro a ha
    have npa : p ≠ a := ne_of_none hp ha
    have nap := ne_sym npa
    walk_at "rd"
    show t_Web_init_s2 K A E _ [some (.ref p), some (.ref z), some (.ref l), o3, o4] _
    unfold t_Web_init_s2
    have s1 : ∀ x o, H' x = some o → x ≠ p → (upd (upd H' a (.lst (zones.map V.int))) p (.ins A.c_Web dx (putF "zones" (.ref a) []))) x = some o := fun x o e n => by
      rw [upd_ne n, upd_ne (ne_of_none e ha)]
      exact e
    have hl1 : SqL K (upd (upd H' a (.lst (zones.map V.int))) p (.ins A.c_Web dx (putF "zones" (.ref a) []))) l xs := by
      have hp2 : upd H' a (.lst (zones.map V.int)) p = some (.ins A.c_Web dx []) := by rw [upd_ne npa]; exact hp
      exact sq_ins hp2 (sq_new ha hl)
    have p1 : upd (upd H' a (.lst (zones.map V.int))) p (.ins A.c_Web dx (putF "zones" (.ref a) [])) p = some (.ins A.c_Web dx (putF "zones" (.ref a) [])) := upd_same
    have a1 : upd (upd H' a (.lst (zones.map V.int))) p (.ins A.c_Web dx (putF "zones" (.ref a) [])) a = some (.lst (zones.map V.int)) := by rw [upd_ne nap, upd_same]
    generalize upd (upd H' a (.lst (zones.map V.int))) p (.ins A.c_Web dx (putF "zones" (.ref a) [])) = H1 at *
    walk_at "rd"
    intro D hD
    refine lc_listN (a := l) hD hl1 (by omega) (fun j => .tup [.int (ls.getD j (0, 0)).1, .int (ls.getD j (0, 0)).2]) ?_ ?_
    · intro i x H2 hx s2 G N hG
      obtain ⟨a', b', q, hi, rfl, hq⟩ := IPairL.get lp hx
      have nqp : q ≠ p := fun e => by rw [e, hp] at hq; cases hq
      have hq2 := s2 _ _ (s1 _ _ hq nqp)
      walk_at "rd"
      intro t ht
      refine hG _ _ ht (Same.new ht) ?_
      rw [upd_same, List.getD_eq_getElem?_getD, hi]
      rfl
    · intro H2 addrs ha2 N
      have s2 : Same H1 H2 := N.same.trans (del_sub _ _)
      have p2 := s2 _ _ p1
      have nDp : D ≠ p := fun e => by rw [e, p1] at hD; cases hD
      walk_at "rd"
      refine k1 ok a D _ ⟨⟨dx, upd_same⟩, ?_, ⟨addrs.map V.ref, ?_, ?_⟩, ⟨?_, by omega, ?_⟩⟩ ?_ ?_ ?_
      · rw [upd_ne nap]
        exact s2 _ _ a1
      · rw [upd_ne nDp]
        exact N.lst
      · have : ∀ (addrs : List Addr) (ls : List (Int × Int)), addrs.length = ls.length → (∀ q ∈ ls, 0 ≤ q.1 ∧ 0 ≤ q.2) → (∀ (j : Nat) (t : Addr), addrs[j]? = some t → upd H2 p (.ins A.c_Web dx (webF a D)) t = some (.tup [.int (ls.getD j (0, 0)).1, .int (ls.getD j (0, 0)).2])) → PairL (upd H2 p (.ins A.c_Web dx (webF a D))) (addrs.map V.ref) (ls.map natP) := by
          intro addrs
          induction addrs with
          | nil =>
            intro ls h _ _
            cases ls with
            | nil => exact .nil
            | cons => cases h
          | cons t r ih =>
            intro ls h hn h2
            cases ls with
            | nil => cases h
            | cons x l =>
              refine .cons ⟨t, rfl, ?_⟩ (ih l (by simpa using h) (fun q m => hn q (List.mem_cons_of_mem _ m)) fun j t h => h2 (j + 1) t h)
              have h3 := h2 0 t rfl
              have h4 := hn x List.mem_cons_self
              show _ = some (HO.tup [.int (x.1.toNat : Nat), .int (x.2.toNat : Nat)])
              rw [Int.toNat_of_nonneg h4.1, Int.toNat_of_nonneg h4.2]
              exact h3
        refine this addrs ls (by rw [ha2, hxl]) (fun q m => ⟨(ok q m).2.1, (ok q m).2.2.1⟩) fun j t hj => ?_
        have h3 := N.at_ j t hj
        have h4 := (del_get h3).1
        rw [upd_ne (ne_of h4 p2 (by intro z; cases z))]
        exact h4
      · intro q m
        obtain ⟨x, hx, rfl⟩ := List.mem_map.mp m
        obtain ⟨g1, g2, g3, g4, g5⟩ := ok x hx
        refine ⟨?_, ?_, fun e => g1 ?_⟩
        · show x.1.toNat < _
          omega
        · show x.2.toNat < _
          omega
        · have e : x.1.toNat = x.2.toNat := e
          omega
      · rw [List.length_map]
        exact hL
      · exact ha
      · cases e : H' D with
        | none => rfl
        | some o =>
          have := s1 D o e nDp
          rw [hD] at this
          cases this
      · intro x o e n
        rw [upd_ne n]
        exact s2 _ _ (s1 _ _ e n)
end
end FW

/-! Web.fewest, Web.way: the readings. -/
namespace FW
open PySem PySem.Spec PyProof.Rows L2
section
variable {K : PySem.W.Frag} {A : Ad} {vs : List V} {H : Hp} {Q : VK} {E : XK}
theorem at_lvV {F : Fnd} {a : Nat} (h : a < F.length) : (F.map lvV)[a]? = some (lvV (fd F a)) := by
  rw [List.getElem?_map, List.getElem?_eq_getElem h]
  unfold fd
  rw [List.getD_eq_getElem?_getD, List.getElem?_eq_getElem h]
  rfl
theorem rd_Web_fewest (O : OkW K A) (h : sp_Web_fewest K A vs H Q E) : t_Web_fewest K A E { nx := fun _ H' => Q .non H', rt := Q } (start N_Web_fewest vs) H := by
  obtain ⟨p, zones, links, z, g, rfl, w, k1, k2⟩ := h
  obtain ⟨a, b, wa⟩ := id w
  obtain ⟨dx, ob⟩ := wa.ob
  have cl := O.cl
  have no1 : (webF a b).lookup ("need" : Str) = none := webF_no a b (by decide +kernel) (by decide +kernel)
  have no2 : (webF a b).lookup ("levels" : Str) = none := webF_no a b (by decide +kernel) (by decide +kernel)
  unfold t_Web_fewest
  walk_at "rd"
  refine ⟨fun cg => ?_, fun c => k2 fun x => c x.2⟩
  walk_at "rd"
  refine ⟨fun cz l F H' s hl0 hl r => ?_, fun c => k2 fun x => c x.1⟩
  have hg : g.toNat < F.length := by have := cg.1; have := cg.2; rw [r.len]; omega
  have e1 : atI (F.map lvV) g = some (lvV (fd F g.toNat)) := atI_lt cg.1 (at_lvV hg)
  obtain ⟨q1, q2⟩ := k1 cz cg F H' s r
  cases e : fd F g.toNat with
  | none =>
    rw [e] at e1
    have e1 : atI (F.map lvV) g = some .non := e1
    walk_at "rd"
    exact q2 e
  | some x =>
    obtain ⟨c, u⟩ := x
    rw [e] at e1
    have e1 : atI (F.map lvV) g = some (.int c) := e1
    walk_at "rd"
    exact q1 c u e
theorem at_last {xs : List V} {y : V} : atI (xs ++ [y]) (-(1 : Int)) = some y := by
  unfold atI
  have e : ixN (xs ++ [y]).length (-(1 : Int)) = some xs.length := by
    unfold ixN
    rw [List.length_append, List.length_singleton]
    by_cases c : (0 : Int) ≤ -1
    · omega
    · rw [if_neg c, if_pos (by omega)]
      exact congrArg some (by omega)
  rw [e]
  show (xs ++ [y])[xs.length]? = some y
  rw [List.getElem?_append_right (Nat.le_refl _), Nat.sub_self]
  rfl
theorem rd_way_s4 {p l R : Addr} {z g : Int} {zones : List Int} {links : List (Nat × Nat)} {start : Nat} {F : Fnd} {fs : List V} {H0 H : Hp} {Dn : Ends} (r : Rch zones links start F) (hn : zones.length ≤ 70) (hl : del H R l = some (.lst fs)) (lf : FndL (del H R) fs F) (hz : z = (start : Nat)) {gn : Nat} (hg : fd F gn ≠ none) (hgn : gn < zones.length)
    (hR : H R = some (.lst [.int (gn : Nat)])) (s0 : Same H0 (del H R)) (q : ∀ (R2 : Addr) (H' : Hp) (row : List Nat), Same H0 H' → H0 R2 = none → H' R2 = some (.lst (row.map fun (o : Nat) => V.int (o : Nat))) → Fwd F row → (∀ o ∈ row.tail, o ≠ start) → row.head? = some start → row.getLast? = some gn → row.length ≤ 71 → Dn.rt (.ref R2) H') :
    t_Web_way_s4 K A E Dn [some (.ref p), some (.int z), some (.int g), some (.ref l), some (.ref R)] H := by
  subst hz
  obtain ⟨rk, rb, tr⟩ := r.tree
  unfold t_Web_way_s4
  refine ⟨fun m σ H' => ∃ (cur : Nat) (rest : List Nat), m = rk cur ∧ σ = [some (.ref p), some (.int (start : Nat)), some (.int g), some (.ref l), some (.ref R)] ∧ del H' R = del H R ∧ H' R = some (.lst ((cur :: rest).reverse.map fun (o : Nat) => V.int (o : Nat))) ∧ Fwd F (cur :: rest) ∧ (∀ o ∈ rest, o ≠ start) ∧ (cur :: rest).getLast? = some gn ∧ fd F cur ≠ none ∧ cur < zones.length ∧ rest.length + rk cur ≤ 70,
    ⟨_, gn, [], rfl, rfl, rfl, hR, trivial, fun o m => (by cases m), rfl, hg, hgn, ?_⟩, ?_⟩
  · cases e : fd F gn with
    | none => exact absurd e hg
    | some x =>
      have := rb gn x.1 x.2 e
      show 0 + rk gn ≤ 70
      omega
  · rintro m σ H' ⟨cur, rest, rfl, rfl, hd, hR', fw, ns, gl, hc, hcn, hb⟩
    have eR : (cur :: rest).reverse.map (fun (o : Nat) => V.int (o : Nat)) = rest.reverse.map (fun (o : Nat) => V.int (o : Nat)) ++ [V.int (cur : Nat)] := by simp
    rw [eR] at hR'
    have la := at_last (xs := rest.reverse.map fun (o : Nat) => V.int (o : Nat)) (y := V.int (cur : Nat))
    refine ⟨_, rfl, ?_⟩
    walk_at "rd"
    refine ite_n (fun c => ?_) (fun c => ?_)
    · have c' : cur ≠ start := fun e => c (by rw [e])
      cases e : fd F cur with
      | none => exact absurd e hc
      | some x =>
        obtain ⟨k, u⟩ := x
        obtain ⟨cu, pu, h1, h2, h3, h4⟩ := tr cur k u e c'
        refine ⟨fun σ' H'' => Hold (∃ m', m' < rk cur ∧ ∃ (cur : Nat) (rest : List Nat), m' = rk cur ∧ σ' = [some (.ref p), some (.int (start : Nat)), some (.int g), some (.ref l), some (.ref R)] ∧ del H'' R = del H R ∧ H'' R = some (.lst ((cur :: rest).reverse.map fun (o : Nat) => V.int (o : Nat))) ∧ Fwd F (cur :: rest) ∧ (∀ o ∈ rest, o ≠ start) ∧ (cur :: rest).getLast? = some gn ∧ fd F cur ≠ none ∧ cur < zones.length ∧ rest.length + rk cur ≤ 70), fun σ' H'' h => h.h, ?_⟩
        have hcF : cur < F.length := by rw [r.len]; exact hcn
        have hlH : H' l = some (.lst fs) := by rw [← hd] at hl; exact del_sub _ _ _ _ hl
        rw [← hd] at lf
        rcases lf.get hcF with ⟨g1, g2⟩ | ⟨c3, u3, q2, g1, g2, g3⟩
        · rw [e] at g2; cases g2
        · rw [e] at g2
          cases g2
          have g4 := del_sub _ _ _ _ g3
          have i1 : atI fs (cur : Int) = some (.ref q2) := atI_nat g1
          have ln : (rest.reverse.map (fun (o : Nat) => V.int (o : Nat)) ++ [V.int (cur : Nat)]).length < sizeLine := big_lt (by simp; omega)
          walk_at "rd"
          refine .mk ⟨_, h4, u, cur :: rest, rfl, rfl, by rw [del_upd]; exact hd, ?_, ⟨⟨_, e⟩, fw⟩, fun o m => ?_, by rw [List.getLast?_cons_cons]; exact gl, (by rw [h1]; intro z; cases z), (r.lv cur k u e).2, by simp only [List.length_cons]; omega⟩
          · rw [upd_same]
            simp
          · rcases List.mem_cons.mp m with m | m
            · rw [m]; exact c'
            · exact ns o m
    · have c' : cur = start := by have := V.int.inj c; omega
      have s2 : Same H0 H' := by
        rw [← hd] at s0
        exact s0.trans (del_sub _ _)
      unfold t_Web_way_s5
      refine ⟨_, rfl, R, _, rfl, SqL.of hR', fun q2 hq2 => ?_⟩
      refine q q2 _ (cur :: rest) (s2.trans (Same.new hq2)) (s2.free hq2) ?_ fw ns (by rw [← c']; rfl) gl (by simp only [List.length_cons]; omega)
      rw [upd_same, ← eR, ← List.map_reverse, List.reverse_reverse]
theorem rd_Web_way (O : OkW K A) (h : sp_Web_way K A vs H Q E) : t_Web_way K A E { nx := fun _ H' => Q .non H', rt := Q } (start N_Web_way vs) H := by
  obtain ⟨p, zones, links, z, g, rfl, w, k1, k2⟩ := h
  obtain ⟨a, b, wa⟩ := id w
  obtain ⟨dx, ob⟩ := wa.ob
  have hn := wa.ok.hn
  have cl := O.cl
  have no1 : (webF a b).lookup ("need" : Str) = none := webF_no a b (by decide +kernel) (by decide +kernel)
  have no2 : (webF a b).lookup ("reached" : Str) = none := webF_no a b (by decide +kernel) (by decide +kernel)
  unfold t_Web_way
  walk_at "rd"
  refine ⟨fun cg => ?_, fun c => k2 fun x => c x.2⟩
  show t_Web_way_s1 K A E _ _ H
  unfold t_Web_way_s1
  walk_at "rd"
  refine ⟨fun cz l fs F H' s hl0 hl lf r => ?_, fun c => k2 fun x => c x.1⟩
  have hgn : g.toNat < zones.length := by have := cg.1; have := cg.2; omega
  obtain ⟨q1, q2⟩ := k1 cz cg F H' s r
  show t_Web_way_s2 K A E _ [some (.ref p), some (.int z), some (.int g), some (.ref l), none] H'
  unfold t_Web_way_s2
  rcases lf.get (i := g.toNat) (by rw [r.len]; exact hgn) with ⟨g1, g2⟩ | ⟨c3, u3, qq, g1, g2, g3⟩
  · have i1 : atI fs g = some .non := atI_lt cg.1 g1
    walk_at "rd"
    exact q2 g2
  · have i1 : atI fs g = some (.ref qq) := atI_lt cg.1 g1
    walk_at "rd"
    show t_Web_way_s3 K A E _ [some (.ref p), some (.int z), some (.int g), some (.ref l), none] H'
    unfold t_Web_way_s3
    walk_at "rd"
    intro R hR
    have nl : l ≠ R := fun e => by rw [← e, hl] at hR; cases hR
    have gg : ((g.toNat : Nat) : Int) = g := Int.toNat_of_nonneg cg.1
    have zz : ((z.toNat : Nat) : Int) = z := Int.toNat_of_nonneg cz.1
    have dR : del (upd H' R (.lst [.int g])) R = H' := del_new hR
    show t_Web_way_s4 K A E _ [some (.ref p), some (.int z), some (.int g), some (.ref l), some (.ref R)] _
    refine rd_way_s4 (H0 := H') (gn := g.toNat) r hn (by rw [dR]; exact hl) (by rw [dR]; exact lf) zz.symm (by rw [g2]; intro z; cases z) hgn (by rw [gg]; exact upd_same) (by rw [dR]; exact Same.refl _) fun R2 H2 row s2 h0 h1 fw ns h2 h3 h4 => ?_
    exact q1 (by rw [g2]; intro z; cases z) R2 H2 row s2 (s.free h0) h1 fw ns h2 h3 h4
end
end FW

/-! A new list of new lists of whole numbers. -/
namespace FW
open PySem PySem.Spec PyProof.Rows L2
structure NewLL (H H' : Hp) (l : Addr) (ps : List Addr) (days : List (List Int)) : Prop where
  same : Same H H'
  lst : H' l = some (.lst (ps.map V.ref))
  len : ps.length = days.length
  nd : ps.Nodup
  ln : l ∉ ps
  l0 : H l = none
  p0 : ∀ p ∈ ps, H p = none
  at_ : ∀ (i : Nat) (p : Addr) (r : List Int), ps[i]? = some p → days[i]? = some r → H' p = some (.lst (r.map V.int))
theorem NewLL.ll {K : PySem.W.Frag} {H H' : Hp} {l : Addr} {ps : List Addr} {days : List (List Int)} (n : NewLL H H' l ps days) : LLAt K H' l ps days := ⟨SqL.of n.lst, n.len, n.at_⟩
theorem NewLL.ext {H H' H'' : Hp} {l : Addr} {ps : List Addr} {days : List (List Int)} (n : NewLL H H' l ps days) (s : Same H' H'') : NewLL H H'' l ps days :=
  ⟨n.same.trans s, s _ _ n.lst, n.len, n.nd, n.ln, n.l0, n.p0, fun i p r h1 h2 => s _ _ (n.at_ i p r h1 h2)⟩
theorem NewLL.pre {H0 H H' : Hp} {l : Addr} {ps : List Addr} {days : List (List Int)} (n : NewLL H H' l ps days) (s : Same H0 H) : NewLL H0 H' l ps days :=
  ⟨s.trans n.same, n.lst, n.len, n.nd, n.ln, s.free n.l0, fun p hp => s.free (n.p0 p hp), n.at_⟩
theorem NewLL.nil {H : Hp} {l : Addr} (h : H l = none) : NewLL H (upd H l (.lst [])) l [] [] :=
  ⟨Same.new h, upd_same, rfl, List.nodup_nil, by simp, h, fun p hp => by simp at hp, fun i p r h => by simp at h⟩
theorem get_snoc {α : Type} {l : List α} {x y : α} {i : Nat} (h : (l ++ [x])[i]? = some y) : (i < l.length ∧ l[i]? = some y) ∨ (i = l.length ∧ y = x) := by
  by_cases c : i < l.length
  · rw [List.getElem?_append_left c] at h
    exact .inl ⟨c, h⟩
  · have hi : i < (l ++ [x]).length := (List.getElem?_eq_some_iff.mp h).1
    rw [List.length_append, List.length_singleton] at hi
    have e : i = l.length := by omega
    rw [e, List.getElem?_append_right (Nat.le_refl _), Nat.sub_self] at h
    exact .inr ⟨e, (Option.some.inj h).symm⟩
theorem NewLL.snoc {H H' H'' : Hp} {l D : Addr} {ps : List Addr} {days : List (List Int)} {r : List Int} (n : NewLL H H' l ps days) (hD : H' D = none) (s : Same H' H'') (e : H'' D = some (.lst (r.map V.int))) :
    NewLL H (upd H'' l (.lst (ps.map V.ref ++ [.ref D]))) l (ps ++ [D]) (days ++ [r]) where
  same := (n.same.trans s).mut n.l0
  lst := by rw [upd_same, List.map_append]; rfl
  len := by rw [List.length_append, List.length_append, n.len]; rfl
  nd := List.nodup_append.mpr ⟨n.nd, by simp, fun a ha b hb => by
    have eb : b = D := by simpa using hb
    rw [eb]
    intro e2
    obtain ⟨j, hj⟩ := List.mem_iff_getElem?.mp ha
    have hjl : j < days.length := by rw [← n.len]; exact (List.getElem?_eq_some_iff.mp hj).1
    have := n.at_ j a _ hj (List.getElem?_eq_getElem hjl)
    rw [e2, hD] at this
    cases this⟩
  ln := fun m => by
    rcases List.mem_append.mp m with g | g
    · exact n.ln g
    · have : l = D := by simpa using g
      rw [← this, n.lst] at hD
      cases hD
  l0 := n.l0
  p0 := fun p hp => by
    rcases List.mem_append.mp hp with g | g
    · exact n.p0 p g
    · have : p = D := by simpa using g
      rw [this]
      exact n.same.free hD
  at_ := fun i p q h1 h2 => by
    rcases get_snoc h1 with ⟨c, g⟩ | ⟨c, g⟩
    · rcases get_snoc h2 with ⟨c2, g2⟩ | ⟨c2, g2⟩
      · have np : p ≠ l := fun z => n.ln (by rw [← z]; exact List.mem_iff_getElem?.mpr ⟨i, g⟩)
        rw [upd_ne np]
        exact s _ _ (n.at_ i p q g g2)
      · have := n.len
        omega
    · rcases get_snoc h2 with ⟨c2, g2⟩ | ⟨c2, g2⟩
      · have := n.len
        omega
      · have np : D ≠ l := fun z => by rw [z, n.lst] at hD; cases hD
        rw [g, g2, upd_ne np]
        exact e
theorem NewLL.put {H H' : Hp} {l p : Addr} {ps : List Addr} {days : List (List Int)} {j : Nat} {r r' : List Int} (n : NewLL H H' l ps days) (hp : ps[j]? = some p) (hr : days[j]? = some r) :
    NewLL H (upd H' p (.lst (r'.map V.int))) l ps (days.set j r') where
  same := n.same.mut (n.p0 p (List.mem_iff_getElem?.mpr ⟨j, hp⟩))
  lst := by
    have nl : l ≠ p := fun z => n.ln (by rw [z]; exact List.mem_iff_getElem?.mpr ⟨j, hp⟩)
    rw [upd_ne nl]
    exact n.lst
  len := by rw [List.length_set]; exact n.len
  nd := n.nd
  ln := n.ln
  l0 := n.l0
  p0 := n.p0
  at_ := fun i q s h1 h2 => by
    by_cases e : i = j
    · subst e
      rw [hp] at h1
      cases h1
      have hj : i < days.length := (List.getElem?_eq_some_iff.mp hr).1
      rw [List.getElem?_set_self hj] at h2
      cases h2
      exact upd_same
    · rw [List.getElem?_set_ne (fun z => e z.symm)] at h2
      have nq : q ≠ p := fun z => by
        rw [z] at h1
        exact e (nd_ix n.nd h1 hp)
      rw [upd_ne nq]
      exact n.at_ i q s h1 h2
theorem NewLL.of_news {H H' : Hp} {D : Addr} {addrs : List Addr} {days : List (List Int)} {obj : Nat → HO} (n : News H D obj addrs H') (hD : H D = none) (hl : addrs.length = days.length) (ho : ∀ (i : Nat) (r : List Int), days[i]? = some r → obj i = .lst (r.map V.int)) : NewLL H H' D addrs days :=
  ⟨n.same.trans (del_sub _ _), n.lst, hl, n.nd, fun m => by
    obtain ⟨j, hj⟩ := List.mem_iff_getElem?.mp m
    exact (del_get (n.at_ j D hj)).2 rfl, hD, n.old, fun i p r h1 h2 => by rw [(del_get (n.at_ i p h1)).1, ho i r h2]⟩
/-- how many numbers there are -/
def llen (days : List (List Int)) : Nat := (days.map List.length).sum
theorem llen_flatten (days : List (List Int)) : days.flatten.length = llen days := by
  unfold llen
  rw [List.length_flatten]
theorem llen_set : ∀ {days : List (List Int)} {j : Nat} {r r' : List Int}, days[j]? = some r → llen (days.set j r') + r.length = llen days + r'.length
  | [], j, r, r', h => by simp at h
  | a :: l, 0, r, r', h => by
    have e : a = r := Option.some.inj h
    subst e
    simp only [llen, List.set_cons_zero, List.map_cons, List.sum_cons]
    omega
  | a :: l, j + 1, r, r', h => by
    have ih := llen_set (days := l) (j := j) (r := r) (r' := r') h
    simp only [llen, List.set_cons_succ, List.map_cons, List.sum_cons] at ih ⊢
    omega
theorem all_set {P : Int → Prop} {days : List (List Int)} {j : Nat} {r' : List Int} (h : ∀ r ∈ days, ∀ z ∈ r, P z) (h' : ∀ z ∈ r', P z) : ∀ r ∈ days.set j r', ∀ z ∈ r, P z := fun r hr => by
  rcases List.mem_or_eq_of_mem_set hr with g | g
  · exact h r g
  · rw [g]
    exact h'
end FW

/-! Ledger: what the defs of fareweb/ledger.py promise. -/
namespace FW
open PySem PySem.Spec PyProof.Rows L2
/-- a ride: day, start, goal, zones, charge -/
structure Rd5 where
  d : Int
  s : Int
  g : Int
  z : Int
  c : Int
def Rd5.vals (r : Rd5) : List V := [.int r.d, .int r.s, .int r.g, .int r.z, .int r.c]
abbrev RidesL (H : Hp) (xs : List V) (rs : List Rd5) : Prop := Paired (fun v r => ∃ q, v = V.ref q ∧ H q = some (.tup r.vals)) xs rs
theorem RidesL.same {H H' : Hp} (s : Same H H') : ∀ {xs : List V} {rs : List Rd5}, RidesL H xs rs → RidesL H' xs rs
  | _, _, .nil => .nil
  | _, _, .cons ⟨q, e, h⟩ r => .cons ⟨q, e, s _ _ h⟩ (RidesL.same s r)
theorem RidesL.len {H : Hp} {xs : List V} {rs : List Rd5} (a : RidesL H xs rs) : xs.length = rs.length := Paired.length a
theorem RidesL.snoc {H : Hp} {xs : List V} {rs : List Rd5} {q : Addr} {r : Rd5} (l : RidesL H xs rs) (h : H q = some (.tup r.vals)) : RidesL H (xs ++ [.ref q]) (rs ++ [r]) := Paired.snoc l ⟨q, rfl, h⟩
theorem RidesL.get {H : Hp} : ∀ {xs : List V} {rs : List Rd5} {i : Nat} {x : V}, RidesL H xs rs → xs[i]? = some x → ∃ r q, rs[i]? = some r ∧ x = .ref q ∧ H q = some (.tup r.vals)
  | _, _, _, _, .nil, h => by simp at h
  | _, _, 0, x, .cons ⟨q, e, h⟩ r, hx => ⟨_, q, rfl, by rw [← e]; exact (Option.some.inj hx).symm, h⟩
  | _, _, i + 1, x, .cons _ r, hx => RidesL.get (i := i) r hx
def wkSum (rs : List Rd5) (w : Int) : Int := ((rs.filter fun r => decide (r.d / 7 = w)).map Rd5.c).sum
def dySum (rs : List Rd5) (d : Int) : Int := ((rs.filter fun r => decide (r.d = d)).map Rd5.c).sum
def pdSum (rs : List Rd5) : Int := (rs.map Rd5.c).sum
/-- for each day of a week the zones of the rides on it -/
def wkDays (rs : List Rd5) (w : Int) : List (List Int) := (List.range 7).map fun (k : Nat) => (rs.filter fun r => decide (r.d = 7 * w + (k : Int))).map Rd5.z
/-- what one ride more is charged -/
def chg (S D W : List Int) (rs : List Rd5) (day z : Int) : Int := weekBest S D W (wkDays (rs ++ [⟨day, 0, 0, z, 0⟩]) (day / 7)) - wkSum rs (day / 7)
def ledF (W T C : Addr) : List (Str × V) := putF "cards" (.ref C) (putF "tariff" (.ref T) (putF "web" (.ref W) []))
theorem f_wt : ¬ (("web" : Str) = "tariff") := by decide +kernel
theorem f_wc : ¬ (("web" : Str) = "cards") := by decide +kernel
theorem f_tc : ¬ (("tariff" : Str) = "cards") := by decide +kernel
theorem ledF_w (W T C : Addr) : (ledF W T C).lookup ("web" : Str) = some (.ref W) := by
  unfold ledF
  rw [lookup_putF, if_neg f_wc, lookup_putF, if_neg f_wt, lookup_putF, if_pos rfl]
theorem ledF_t (W T C : Addr) : (ledF W T C).lookup ("tariff" : Str) = some (.ref T) := by
  unfold ledF
  rw [lookup_putF, if_neg f_tc, lookup_putF, if_pos rfl]
theorem ledF_c (W T C : Addr) : (ledF W T C).lookup ("cards" : Str) = some (.ref C) := by
  unfold ledF
  rw [lookup_putF, if_pos rfl]
theorem ledF_no (W T C : Addr) {m : Str} (h1 : ¬ m = "web") (h2 : ¬ m = "tariff") (h3 : ¬ m = "cards") : (ledF W T C).lookup m = none := by
  unfold ledF
  rw [lookup_putF, if_neg h3, lookup_putF, if_neg h2, lookup_putF, if_neg h1]
  rfl
/-- the net, the prices and what the cards have ridden -/
structure LdS where
  zones : List Int
  links : List (Nat × Nat)
  S : List Int
  D : List Int
  W : List Int
  cards : Str → List Rd5
def LdS.put (L : LdS) (card : Str) (r : Rd5) : LdS := { L with cards := fun x => if x = card then L.cards card ++ [r] else L.cards x }
/-- a ledger stands at p, its cards at C; m: at most so many rides and cards -/
structure LedAt (A : Ad) (H : Hp) (p C : Addr) (m : Nat) (L : LdS) : Prop where
  ob : ∃ W T dx, del H C p = some (.ins A.c_Ledger dx (ledF W T C)) ∧ Web A (del H C) W L.zones L.links ∧ Tar A (del H C) T L.S L.D L.W
  dk : ∃ kvs, H C = some (.dK kvs) ∧ kvs.length ≤ m ∧ ∀ card : Str, (valV kvs (.inr card) = none ∧ L.cards card = []) ∨ ∃ l xs, valV kvs (.inr card) = some (.ref l) ∧ del H C l = some (.lst xs) ∧ RidesL (del H C) xs (L.cards card)
  ok : ∀ card, ∀ r ∈ L.cards card, In5 r.z
  sz : ∀ card, (L.cards card).length ≤ m
  hm : m ≤ 100
theorem LedAt.same2 {A : Ad} {H H' : Hp} {p C : Addr} {m : Nat} {L : LdS} (l : LedAt A H p C m L) (s : Same (del H C) (del H' C)) (e : H' C = H C) : LedAt A H' p C m L where
  ob := let ⟨W, T, dx, h1, h2, h3⟩ := l.ob; ⟨W, T, dx, s _ _ h1, h2.same s, h3.same s⟩
  dk := by
    obtain ⟨kvs, h1, h2, h3⟩ := l.dk
    refine ⟨kvs, by rw [e]; exact h1, h2, fun card => ?_⟩
    rcases h3 card with g | ⟨l', xs, g1, g2, g3⟩
    · exact .inl g
    · exact .inr ⟨l', xs, g1, s _ _ g2, g3.same s⟩
  ok := l.ok
  sz := l.sz
  hm := l.hm
theorem LedAt.same {A : Ad} {H H' : Hp} {p C : Addr} {m : Nat} {L : LdS} (l : LedAt A H p C m L) (s : Same H H') : LedAt A H' p C m L := by
  obtain ⟨kvs, h1, _⟩ := id l.dk
  exact l.same2 (s.del2 C) (by rw [h1]; exact s _ _ h1)
/-- what the walk asks of the class -/
structure OkL (K : PySem.W.Frag) (A : Ad) : Prop where
  cl : Cls K A.c_Ledger
  nW : NoAttr K A.c_Ledger "web"
  nT : NoAttr K A.c_Ledger "tariff"
  nC : NoAttr K A.c_Ledger "cards"
def sp_Ledger_init (K : PySem.W.Frag) (A : Ad) : Sp := fun vs H Q _ => ∃ (p dx w t : Addr) (zones : List Int) (links : List (Nat × Nat)) (S D W : List Int), vs = [.ref p, .ref w, .ref t] ∧ H p = some (.ins A.c_Ledger dx []) ∧ Web A (del H p) w zones links ∧ Tar A (del H p) t S D W ∧
  ∀ (C : Addr) (H' : Hp), LedAt A H' p C 0 ⟨zones, links, S, D, W, fun _ => []⟩ → H C = none → (∀ x o, H x = some o → x ≠ p → del H' C x = some o) → Q .non H'
def sp_Ledger_rides (K : PySem.W.Frag) (A : Ad) : Sp := fun vs H Q _ => ∃ (p C : Addr) (m : Nat) (L : LdS) (card : Str), vs = [.ref p, .str card] ∧ LedAt A H p C m L ∧
  ∀ (l : Addr) (xs : List V) (H' : Hp), Same H H' → H l = none → H' l = some (.lst xs) → RidesL H' xs (L.cards card) → Q (.ref l) H'
def sp_Ledger_week_sum (K : PySem.W.Frag) (A : Ad) : Sp := fun vs H Q _ => ∃ (p C : Addr) (m : Nat) (L : LdS) (card : Str) (w : Int), vs = [.ref p, .str card, .int w] ∧ LedAt A H p C m L ∧ ∀ H', Same H H' → Q (.int (wkSum (L.cards card) w)) H'
def sp_Ledger_day_sum (K : PySem.W.Frag) (A : Ad) : Sp := fun vs H Q _ => ∃ (p C : Addr) (m : Nat) (L : LdS) (card : Str) (d : Int), vs = [.ref p, .str card, .int d] ∧ LedAt A H p C m L ∧ ∀ H', Same H H' → Q (.int (dySum (L.cards card) d)) H'
def sp_Ledger_paid (K : PySem.W.Frag) (A : Ad) : Sp := fun vs H Q _ => ∃ (p C : Addr) (m : Nat) (L : LdS) (card : Str), vs = [.ref p, .str card] ∧ LedAt A H p C m L ∧ ∀ H', Same H H' → Q (.int (pdSum (L.cards card))) H'
def sp_Ledger_in_week (K : PySem.W.Frag) (A : Ad) : Sp := fun vs H Q _ => ∃ (p C : Addr) (m : Nat) (L : LdS) (card : Str) (w : Int), vs = [.ref p, .str card, .int w] ∧ LedAt A H p C m L ∧ ∀ (l : Addr) (ps : List Addr) (H' : Hp), NewLL H H' l ps (wkDays (L.cards card) w) → Q (.ref l) H'
def sp_Ledger_tickets (K : PySem.W.Frag) (A : Ad) : Sp := fun vs H Q _ => ∃ (p C : Addr) (m : Nat) (L : LdS) (card : Str) (w : Int), vs = [.ref p, .str card, .int w] ∧ LedAt A H p C m L ∧
  ∀ (l : Addr) (xs : List V) (ts : List Tk) (H' : Hp), Same H H' → H l = none → H' l = some (.lst xs) → TkL H' xs ts → WeekOk L.S L.D L.W (wkDays (L.cards card) w) ts → tkCost ts = weekBest L.S L.D L.W (wkDays (L.cards card) w) → ts.length ≤ 7 * (wkDays (L.cards card) w).flatten.length → Q (.ref l) H'
/-- the day lies behind -/
def Past (rs : List Rd5) (day : Int) : Prop := day < 0 ∨ ∃ r, rs.getLast? = some r ∧ day < r.d
/-- objects that are there, no tuples -/
def Stands (H : Hp) (hs : List Addr) : Prop := ∀ x ∈ hs, ∃ o, H x = some o ∧ ∀ us, o ≠ .tup us
def sp_Ledger_ride (K : PySem.W.Frag) (A : Ad) : Sp := fun vs H Q E => ∃ (p C : Addr) (m : Nat) (L : LdS) (card : Str) (day z g : Int), vs = [.ref p, .str card, .int day, .int z, .int g] ∧ LedAt A H p C m L ∧ m < 100 ∧
  (¬ (InR L.zones z ∧ InR L.zones g) → E (.ref A.c_BadStop) none H) ∧
  (InR L.zones z → InR L.zones g → ∀ F : Fnd, Rch L.zones L.links z.toNat F → (fd F g.toNat = none → ∀ H', Same H H' → E (.ref A.c_NoWay) none H') ∧
    ∀ lv u, fd F g.toNat = some (lv, u) → (Past (L.cards card) day → ∀ H', Same H H' → E (.ref A.c_PastDay) none H') ∧
      (¬ Past (L.cards card) day → ∀ H', LedAt A H' p C (m + 1) (L.put card ⟨day, z, g, min lv 5, chg L.S L.D L.W (L.cards card) day (min lv 5)⟩) → Same (del H C) (del H' C) →
        (∀ hs, Stands H hs → LedAt A (dels H hs) p C m L → LedAt A (dels H' hs) p C (m + 1) (L.put card ⟨day, z, g, min lv 5, chg L.S L.D L.W (L.cards card) day (min lv 5)⟩)) → Q (.int (chg L.S L.D L.W (L.cards card) day (min lv 5))) H'))
end FW

namespace FW
open PySem PySem.Spec PyProof.Rows L2
def N_Ledger_init : List Str := ["self", "web", "tariff"]
def t_Ledger_init (K : PySem.W.Frag) (A : Ad) (E : XK) : TS :=
 tSeq (sFld K (tVar 0) (tVar 1) "web")
 (tSeq (sFld K (tVar 0) (tVar 2) "tariff")
 (sFld K (tVar 0) (tDNewK) "cards"))
def N_Ledger_rides : List Str := ["self", "card"]
def t_Ledger_rides (K : PySem.W.Frag) (A : Ad) (E : XK) : TS :=
 tRet (tCB (rListS K) (tCons (tDGet2 (tFld K (tVar 0) "cards") (tVar 1) (tLst (tNil))) (tNil)))
def N_Ledger_week_sum : List Str := ["self", "card", "week", "row"]
def t_Ledger_week_sum (K : PySem.W.Frag) (A : Ad) (E : XK) : TS :=
 tRet (tCB (rSum K) (tCons (tLc (iList K (tMeth A.c_Ledger "rides" (sp_Ledger_rides K A) [] E0 (tVar 0) (tCons (tVar 1) (tNil)))) (gName 3) (tTest (tOp rEq (tOp rDivI (tOp (rIxT K) (tVar 3) (tC (.int 0))) (tC (.int 7))) (tVar 2))) (tOp (rIxT K) (tVar 3) (tC (.int 4))) [3]) (tNil)))
def N_Ledger_day_sum : List Str := ["self", "card", "day", "row"]
def t_Ledger_day_sum (K : PySem.W.Frag) (A : Ad) (E : XK) : TS :=
 tRet (tCB (rSum K) (tCons (tLc (iList K (tMeth A.c_Ledger "rides" (sp_Ledger_rides K A) [] E0 (tVar 0) (tCons (tVar 1) (tNil)))) (gName 3) (tTest (tOp rEq (tOp (rIxT K) (tVar 3) (tC (.int 0))) (tVar 2))) (tOp (rIxT K) (tVar 3) (tC (.int 4))) [3]) (tNil)))
def N_Ledger_paid : List Str := ["self", "card", "row"]
def t_Ledger_paid (K : PySem.W.Frag) (A : Ad) (E : XK) : TS :=
 tRet (tCB (rSum K) (tCons (tLc (iList K (tMeth A.c_Ledger "rides" (sp_Ledger_rides K A) [] E0 (tVar 0) (tCons (tVar 1) (tNil)))) (gName 2) (tYes) (tOp (rIxT K) (tVar 2) (tC (.int 4))) [2]) (tNil)))
def N_Ledger_in_week : List Str := ["self", "card", "week", "found", "row", "day"]
def t_Ledger_in_week (K : PySem.W.Frag) (A : Ad) (E : XK) : TS :=
 tSeq (tAsg (tLc (iRng1 (tCons (tC (.int 7)) (tNil))) (gName 5) (tYes) (tLst (tNil)) [5]) (gName 3))
 (tSeq (tFor (iList K (tMeth A.c_Ledger "rides" (sp_Ledger_rides K A) [] E0 (tVar 0) (tCons (tVar 1) (tNil)))) (gName 4) (tIfS (tTest (tOp rEq (tOp rDivI (tOp (rIxT K) (tVar 4) (tC (.int 0))) (tC (.int 7))) (tVar 2))) (tDrop (tBM K "list" rAppend (tOp (rIxL K) (tVar 3) (tOp rSub (tOp (rIxT K) (tVar 4) (tC (.int 0))) (tOp rMulI (tC (.int 7)) (tVar 2)))) (tCons (tOp (rIxT K) (tVar 4) (tC (.int 3))) (tNil)))) (tNext)))
 (tRet (tVar 3)))
@[irreducible] def t_Ledger_ride_s8 (K : PySem.W.Frag) (A : Ad) (E : XK) : TS :=
 tRet (tVar 9)
@[irreducible] def t_Ledger_ride_s7 (K : PySem.W.Frag) (A : Ad) (E : XK) : TS :=
 tSeq (sDPut (tFld K (tVar 0) "cards") (tVar 1) (tOp rCat (tVar 6) (tLst (tCons (tTup (tCons (tVar 2) (tCons (tVar 3) (tCons (tVar 4) (tCons (tVar 5) (tCons (tVar 9) (tNil))))))) (tNil)))))
 (t_Ledger_ride_s8 K A E)
@[irreducible] def t_Ledger_ride_s6 (K : PySem.W.Frag) (A : Ad) (E : XK) : TS :=
 tSeq (tAsg (tOp rSub (tOp (rIxT K) (tCall (sp_least K A) [] E (tCons (tFld K (tVar 0) "tariff") (tCons (tVar 8) (tNil)))) (tC (.int 0))) (tMeth A.c_Ledger "week_sum" (sp_Ledger_week_sum K A) [] E0 (tVar 0) (tCons (tVar 1) (tCons (tVar 7) (tNil))))) (gName 9))
 (t_Ledger_ride_s7 K A E)
@[irreducible] def t_Ledger_ride_s5 (K : PySem.W.Frag) (A : Ad) (E : XK) : TS :=
 tSeq (tDrop (tBM K "list" rAppend (tOp (rIxL K) (tVar 8) (tOp rSub (tVar 2) (tOp rMulI (tC (.int 7)) (tVar 7)))) (tCons (tVar 5) (tNil))))
 (t_Ledger_ride_s6 K A E)
@[irreducible] def t_Ledger_ride_s4 (K : PySem.W.Frag) (A : Ad) (E : XK) : TS :=
 tSeq (tAsg (tMeth A.c_Ledger "in_week" (sp_Ledger_in_week K A) [] E0 (tVar 0) (tCons (tVar 1) (tCons (tVar 7) (tNil)))) (gName 8))
 (t_Ledger_ride_s5 K A E)
@[irreducible] def t_Ledger_ride_s3 (K : PySem.W.Frag) (A : Ad) (E : XK) : TS :=
 tSeq (tAsg (tOp rDivI (tVar 2) (tC (.int 7))) (gName 7))
 (t_Ledger_ride_s4 K A E)
@[irreducible] def t_Ledger_ride_s2 (K : PySem.W.Frag) (A : Ad) (E : XK) : TS :=
 tSeq (tIfS (tOr (tTest (tOp rLtI (tVar 2) (tC (.int 0)))) (tAnd (tTru K (tVar 6)) (tTest (tOp rLtI (tVar 2) (tOp (rIxT K) (tOp (rIxL K) (tVar 6) (tUn rNeg (tC (.int 1)))) (tC (.int 0))))))) (tRaise E (.ref A.c_PastDay)) (tNext))
 (t_Ledger_ride_s3 K A E)
@[irreducible] def t_Ledger_ride_s1 (K : PySem.W.Frag) (A : Ad) (E : XK) : TS :=
 tSeq (tAsg (tMeth A.c_Ledger "rides" (sp_Ledger_rides K A) [] E0 (tVar 0) (tCons (tVar 1) (tNil))) (gName 6))
 (t_Ledger_ride_s2 K A E)
def N_Ledger_ride : List Str := ["self", "card", "day", "start", "goal", "zones", "row", "week", "days", "charge"]
def t_Ledger_ride (K : PySem.W.Frag) (A : Ad) (E : XK) : TS :=
 tSeq (tAsg (tCB rMin2 (tCons (tMeth A.c_Web "fewest" (sp_Web_fewest K A) [] E (tFld K (tVar 0) "web") (tCons (tVar 3) (tCons (tVar 4) (tNil)))) (tCons (tC (.int 5)) (tNil)))) (gName 5))
 (t_Ledger_ride_s1 K A E)
def N_Ledger_tickets : List Str := ["self", "card", "week"]
def t_Ledger_tickets (K : PySem.W.Frag) (A : Ad) (E : XK) : TS :=
 tRet (tOp (rIxT K) (tCall (sp_least K A) [] E0 (tCons (tFld K (tVar 0) "tariff") (tCons (tMeth A.c_Ledger "in_week" (sp_Ledger_in_week K A) [] E0 (tVar 0) (tCons (tVar 1) (tCons (tVar 2) (tNil)))) (tNil)))) (tC (.int 1)))
end FW

/-! Ledger: the readings. -/
namespace FW
open PySem PySem.Spec PyProof.Rows L2
section
variable {K : PySem.W.Frag} {A : Ad} {vs : List V} {H : Hp} {Q : VK} {E : XK}
theorem rd_Ledger_rides (O : OkL K A) (h : sp_Ledger_rides K A vs H Q E) : t_Ledger_rides K A E { nx := fun _ H' => Q .non H', rt := Q } (start N_Ledger_rides vs) H := by
  obtain ⟨p, C, m, L, card, rfl, l, k⟩ := h
  obtain ⟨W, T, dx, ob, _, _⟩ := l.ob
  obtain ⟨kvs, hC, hk, hv⟩ := l.dk
  have ob1 := del_sub _ _ _ _ ob
  have cl := O.cl
  have nC := O.nC
  have e1 := ledF_c W T C
  have isd : IsD H C := .inl ⟨kvs, .inl hC⟩
  have hm := l.hm
  unfold t_Ledger_rides
  walk_at "rd"
  intro e he
  have s1 : Same H (upd H e (.lst [])) := Same.new he
  have hC1 := s1 _ _ hC
  have ee : upd H e (.lst []) e = some (.lst []) := upd_same
  generalize upd H e (.lst []) = H1 at *
  refine ⟨_, DGet.k (k := .inr card) hC1, ?_⟩
  rcases hv card with ⟨g1, g2⟩ | ⟨l', xs, g1, g2, g3⟩
  · rw [g1]
    show rListS K [.ref e] H1 Q
    walk_at "rd"
    intro l2 hl2
    exact k l2 [] _ (s1.trans (Same.new hl2)) (s1.free hl2) upd_same (by rw [g2]; exact .nil)
  · rw [g1]
    show rListS K [.ref l'] H1 Q
    have g4 := s1 _ _ (del_sub _ _ _ _ g2)
    have lx : xs.length ≤ 100 := by rw [g3.len]; have := l.sz card; omega
    walk_at "rd"
    intro l2 hl2
    have s2 : Same H1 (upd H1 l2 (.lst xs)) := Same.new hl2
    exact k l2 xs _ (s1.trans s2) (s1.free hl2) upd_same (g3.same ((del_sub H C).trans (s1.trans s2)))
/-- the charge of a ride of such a day -/
def rideV (H : Hp) (p : Int → Bool) : V → Option V
  | .ref q => match H q with
    | some (.tup [.int d, _, _, _, .int c]) => if p d = true then some (.int c) else none
    | _ => none
  | _ => none
theorem rideV_at {H : Hp} {p : Int → Bool} {q : Addr} {r : Rd5} (h : H q = some (.tup r.vals)) : rideV H p (.ref q) = if p r.d = true then some (.int r.c) else none := by
  show (match H q with | some (.tup [.int d, _, _, _, .int c]) => if p d = true then some (V.int c) else none | _ => none) = _
  rw [h]
  rfl
theorem rideV_all {H : Hp} {p : Int → Bool} : ∀ {xs : List V} {rs : List Rd5}, RidesL H xs rs → xs.filterMap (rideV H p) = ((rs.filter fun r => p r.d).map Rd5.c).map V.int
  | _, _, .nil => rfl
  | _, r :: rs, .cons ⟨q, e, h⟩ t => by
    have ih := rideV_all (p := p) t
    subst e
    rw [List.filterMap_cons, rideV_at h]
    by_cases c : p r.d = true
    · rw [if_pos c, List.filter_cons_of_pos (by exact c), List.map_cons, List.map_cons, ih]
    · rw [if_neg c, List.filter_cons_of_neg (by exact c), ih]
theorem rd_Ledger_week_sum (O : OkL K A) (h : sp_Ledger_week_sum K A vs H Q E) : t_Ledger_week_sum K A E { nx := fun _ H' => Q .non H', rt := Q } (start N_Ledger_week_sum vs) H := by
  obtain ⟨p, C, m, L, card, w, rfl, l, k⟩ := h
  obtain ⟨W, T, dx, ob, _, _⟩ := l.ob
  have ob1 := del_sub _ _ _ _ ob
  have cl := O.cl
  have hm := l.hm
  have hz := l.sz card
  have no1 : (ledF W T C).lookup ("rides" : Str) = none := ledF_no W T C (by decide +kernel) (by decide +kernel) (by decide +kernel)
  unfold t_Ledger_week_sum
  walk_at "rd"
  intro a xs H1 s1 ha0 ha lr
  walk_at "rd"
  intro D hD
  refine lc_listF (F := rideV H1 fun d => decide (d / 7 = w)) hD (SqL.of ha) (by rw [lr.len]; omega) ?_ ?_
  · intro i x H2 hx s2 G N hG hN
    obtain ⟨r, q, hi, rfl, hq⟩ := lr.get hx
    have hq2 : H2 q = some (.tup [.int r.d, .int r.s, .int r.g, .int r.z, .int r.c]) := s2 _ _ hq
    have ev := rideV_at (p := fun d => decide (d / 7 = w)) hq
    walk_at "rd"
    refine ite_d (fun c => ?_) (fun c => ?_)
    · have c' : r.d / 7 = w := V.int.inj c
      rw [if_pos (decide_eq_true c')] at ev
      walk_at "rd"
      exact hG _ _ ev (Same.refl _)
    · have c' : ¬ r.d / 7 = w := fun z => c (congrArg V.int z)
      rw [if_neg (by rw [decide_eq_false c']; exact Bool.false_ne_true)] at ev
      exact hN _ ev (Same.refl _)
  · intro H2 s2 e2
    rw [rideV_all lr] at e2
    have s2' := s2.trans (del_sub _ _)
    walk_at "rd"
    exact k _ (s1.trans s2')
theorem rd_Ledger_day_sum (O : OkL K A) (h : sp_Ledger_day_sum K A vs H Q E) : t_Ledger_day_sum K A E { nx := fun _ H' => Q .non H', rt := Q } (start N_Ledger_day_sum vs) H := by
  obtain ⟨p, C, m, L, card, w, rfl, l, k⟩ := h
  obtain ⟨W, T, dx, ob, _, _⟩ := l.ob
  have ob1 := del_sub _ _ _ _ ob
  have cl := O.cl
  have hm := l.hm
  have hz := l.sz card
  have no1 : (ledF W T C).lookup ("rides" : Str) = none := ledF_no W T C (by decide +kernel) (by decide +kernel) (by decide +kernel)
  unfold t_Ledger_day_sum
  walk_at "rd"
  intro a xs H1 s1 ha0 ha lr
  walk_at "rd"
  intro D hD
  refine lc_listF (F := rideV H1 fun d => decide (d = w)) hD (SqL.of ha) (by rw [lr.len]; omega) ?_ ?_
  · intro i x H2 hx s2 G N hG hN
    obtain ⟨r, q, hi, rfl, hq⟩ := lr.get hx
    have hq2 : H2 q = some (.tup [.int r.d, .int r.s, .int r.g, .int r.z, .int r.c]) := s2 _ _ hq
    have ev := rideV_at (p := fun d => decide (d = w)) hq
    walk_at "rd"
    refine ite_d (fun c => ?_) (fun c => ?_)
    · have c' : r.d = w := V.int.inj c
      rw [if_pos (decide_eq_true c')] at ev
      walk_at "rd"
      exact hG _ _ ev (Same.refl _)
    · have c' : ¬ r.d = w := fun z => c (congrArg V.int z)
      rw [if_neg (by rw [decide_eq_false c']; exact Bool.false_ne_true)] at ev
      exact hN _ ev (Same.refl _)
  · intro H2 s2 e2
    rw [rideV_all lr] at e2
    have s2' := s2.trans (del_sub _ _)
    walk_at "rd"
    exact k _ (s1.trans s2')
theorem rd_Ledger_paid (O : OkL K A) (h : sp_Ledger_paid K A vs H Q E) : t_Ledger_paid K A E { nx := fun _ H' => Q .non H', rt := Q } (start N_Ledger_paid vs) H := by
  obtain ⟨p, C, m, L, card, rfl, l, k⟩ := h
  obtain ⟨W, T, dx, ob, _, _⟩ := l.ob
  have ob1 := del_sub _ _ _ _ ob
  have cl := O.cl
  have hm := l.hm
  have hz := l.sz card
  have no1 : (ledF W T C).lookup ("rides" : Str) = none := ledF_no W T C (by decide +kernel) (by decide +kernel) (by decide +kernel)
  unfold t_Ledger_paid
  walk_at "rd"
  intro a xs H1 s1 ha0 ha lr
  walk_at "rd"
  intro D hD
  refine lc_listF (F := rideV H1 fun _ => true) hD (SqL.of ha) (by rw [lr.len]; omega) ?_ ?_
  · intro i x H2 hx s2 G N hG hN
    obtain ⟨r, q, hi, rfl, hq⟩ := lr.get hx
    have hq2 : H2 q = some (.tup [.int r.d, .int r.s, .int r.g, .int r.z, .int r.c]) := s2 _ _ hq
    have ev := rideV_at (p := fun _ => true) hq
    rw [if_pos rfl] at ev
    walk_at "rd"
    exact hG _ _ ev (Same.refl _)
  · intro H2 s2 e2
    rw [rideV_all lr, List.filter_eq_self.mpr fun _ _ => rfl] at e2
    have s2' := s2.trans (del_sub _ _)
    walk_at "rd"
    exact k _ (s1.trans s2')
end
end FW

/-! Ledger.__init__, in_week, tickets: the readings. -/
namespace FW
open PySem PySem.Spec PyProof.Rows L2
section
variable {K : PySem.W.Frag} {A : Ad} {vs : List V} {H : Hp} {Q : VK} {E : XK}
theorem putF_3 {f g h : Str} {v u t : V} : (putF f v (putF g u (putF h t []))).length < 1000 := by
  have h1 := putF_le f v (putF g u (putF h t []))
  have h2 := putF_le g u (putF h t [])
  have h3 := putF_le h t []
  simp only [List.length_nil] at h3
  omega
theorem rd_Ledger_init (O : OkL K A) (h : sp_Ledger_init K A vs H Q E) : t_Ledger_init K A E { nx := fun _ H' => Q .non H', rt := Q } (start N_Ledger_init vs) H := by
  obtain ⟨p, dx, w, t, zones, links, S, D, W, rfl, hp, hw, ht, k⟩ := h
  have cl := O.cl
  have nW := O.nW
  have nT := O.nT
  have nC := O.nC
  unfold t_Ledger_init
  walk_at "rd"
  intro C hC
  have nCp : C ≠ p := fun e => by rw [e, upd_same] at hC; cases hC
  have npC := ne_sym nCp
  have hC0 : H C = none := by rw [upd_ne nCp, upd_ne nCp] at hC; exact hC
  walk_at "rd"
  refine k C _ ⟨⟨w, t, dx, ?_, hw.same ?_, ht.same ?_⟩, ⟨[], ?_, Nat.zero_le _, fun card => .inl ⟨rfl, rfl⟩⟩, fun card r m => (by cases m), fun card => Nat.zero_le _, by decide⟩ hC0 ?_
  · rw [del_ne npC, upd_same]
    rfl
  · intro x o e
    obtain ⟨e1, n⟩ := del_get e
    rw [del_ne (ne_of_none e1 hC0), upd_ne n, upd_ne (ne_of_none e1 hC0), upd_ne n, upd_ne n]
    exact e1
  · intro x o e
    obtain ⟨e1, n⟩ := del_get e
    rw [del_ne (ne_of_none e1 hC0), upd_ne n, upd_ne (ne_of_none e1 hC0), upd_ne n, upd_ne n]
    exact e1
  · rw [upd_ne nCp, upd_same]
  · intro x o e1 n
    rw [del_ne (ne_of_none e1 hC0), upd_ne n, upd_ne (ne_of_none e1 hC0), upd_ne n, upd_ne n]
    exact e1
/-- the zones of the first rides on each day -/
theorem wk_take {rs : List Rd5} {i : Nat} {r : Rd5} {w : Int} (h : rs[i]? = some r) : wkDays (rs.take (i + 1)) w = if r.d / 7 = w then (wkDays (rs.take i) w).set (r.d - 7 * w).toNat ((wkDays (rs.take i) w).getD (r.d - 7 * w).toNat [] ++ [r.z]) else wkDays (rs.take i) w := by
  have e : rs.take (i + 1) = rs.take i ++ [r] := by rw [List.take_add_one, h]; rfl
  rw [e]
  generalize rs.take i = l
  unfold wkDays
  apply List.ext_getElem?
  intro j
  have one : ∀ k : Nat, ((l ++ [r]).filter fun r => decide (r.d = 7 * w + (k : Int))).map Rd5.z = (l.filter fun r => decide (r.d = 7 * w + (k : Int))).map Rd5.z ++ (if r.d = 7 * w + (k : Int) then [r.z] else []) := fun k => by
    rw [List.filter_append, List.map_append]
    congr 1
    by_cases c : r.d = 7 * w + (k : Int)
    · rw [if_pos c]
      simp [c]
    · rw [if_neg c]
      simp [c]
  by_cases hj : j < 7
  · have lhs : ((List.range 7).map fun (k : Nat) => ((l ++ [r]).filter fun r => decide (r.d = 7 * w + (k : Int))).map Rd5.z)[j]? = some ((l.filter fun r => decide (r.d = 7 * w + (j : Int))).map Rd5.z ++ (if r.d = 7 * w + (j : Int) then [r.z] else [])) := by
      rw [List.getElem?_map, List.getElem?_range hj]
      exact congrArg some (one j)
    have base : ((List.range 7).map fun (k : Nat) => (l.filter fun r => decide (r.d = 7 * w + (k : Int))).map Rd5.z)[j]? = some ((l.filter fun r => decide (r.d = 7 * w + (j : Int))).map Rd5.z) := by
      rw [List.getElem?_map, List.getElem?_range hj]
      rfl
    rw [lhs]
    by_cases c : r.d / 7 = w
    · rw [if_pos c]
      by_cases cj : j = (r.d - 7 * w).toNat
      · have cd : r.d = 7 * w + (j : Int) := by omega
        rw [if_pos cd, ← cj, List.getElem?_set_self (by simp; exact hj), List.getD_eq_getElem?_getD, base]
        rfl
      · have cd : ¬ r.d = 7 * w + (j : Int) := by omega
        rw [if_neg cd, List.append_nil, List.getElem?_set_ne (fun z => cj z.symm), base]
    · have cd : ¬ r.d = 7 * w + (j : Int) := by omega
      rw [if_neg cd, if_neg c, List.append_nil, base]
  · rw [List.getElem?_eq_none (by simp; omega)]
    split
    · rw [List.getElem?_eq_none (by simp; omega)]
    · rw [List.getElem?_eq_none (by simp; omega)]
theorem get_some9 {α : Type} {l : List α} {i : Nat} (h : i < l.length) : ∃ x, l[i]? = some x := ⟨l[i], List.getElem?_eq_getElem h⟩
theorem wk_nil (w : Int) : wkDays [] w = List.replicate 7 [] := rfl
theorem wk_len (rs : List Rd5) (w : Int) : (wkDays rs w).length = 7 := by unfold wkDays; rw [List.length_map, List.length_range]
theorem rd_Ledger_in_week (O : OkL K A) (h : sp_Ledger_in_week K A vs H Q E) : t_Ledger_in_week K A E { nx := fun _ H' => Q .non H', rt := Q } (start N_Ledger_in_week vs) H := by
  obtain ⟨p, C, m, L, card, w, rfl, l, k⟩ := h
  have cl := O.cl
  have hm := l.hm
  have hz := l.sz card
  unfold t_Ledger_in_week
  walk_at "rd"
  intro R hR
  refine lc_rangeN hR (by decide) (fun _ => .lst []) ?_ ?_
  · intro i H2 hi s2 G N hG
    walk_at "rd"
    intro l hl
    exact hG _ _ hl (Same.new hl) upd_same
  · intro H2 ps hpl N
    have n0 : NewLL H H2 R ps (wkDays [] w) := NewLL.of_news N hR (by rw [hpl]; rfl) fun i r hr => by
      rw [wk_nil, List.getElem?_replicate] at hr
      split at hr
      · cases hr
        rfl
      · cases hr
    have s2 := n0.same
    have l2 := l.same s2
    obtain ⟨W, T, dx, ob, _, _⟩ := l2.ob
    have ob1 := del_sub _ _ _ _ ob
    have no1 : (ledF W T C).lookup ("rides" : Str) = none := ledF_no W T C (by decide +kernel) (by decide +kernel) (by decide +kernel)
    walk_at "rd"
    intro a xs H3 s3 ha0 ha lr
    have n3 := n0.ext s3
    have nap : a ∉ ps := fun mm => by
      obtain ⟨j, hj⟩ := List.mem_iff_getElem?.mp mm
      have hj2 : j < (wkDays [] w).length := by rw [← n0.len]; exact (List.getElem?_eq_some_iff.mp hj).1
      have := n0.at_ j a _ hj (List.getElem?_eq_getElem hj2)
      rw [ha0] at this
      cases this
    have tups : ∀ (q : Addr) (vs : List V), H3 q = some (.tup vs) → q ∉ ps := fun q vs hq mm => by
      obtain ⟨j, hj⟩ := List.mem_iff_getElem?.mp mm
      have hj2 : j < (wkDays [] w).length := by rw [← n3.len]; exact (List.getElem?_eq_some_iff.mp hj).1
      have := n3.at_ j q _ hj (List.getElem?_eq_getElem hj2)
      rw [hq] at this
      cases this
    walk_at "rd"
    refine for_list (K := K) (a := a) (xs := xs) (fun i σ H' => Hold (∃ o4 : Option V, σ = [some (.ref p), some (.str card), some (.int w), some (.ref R), o4, none] ∧ NewLL H H' R ps (wkDays ((L.cards card).take i) w) ∧ H' a = some (.lst xs) ∧ Same (dels H3 ps) (dels H' ps))) ⟨none, rfl, n3, ha, Same.refl _⟩ ?_ ?_ ?_
    · rintro i σ H' _ ⟨o4, rfl, n, e, sd⟩
      exact SqL.of e
    · rintro i x σ H' hx ⟨o4, rfl, n, e, sd⟩
      obtain ⟨r, q, hi, rfl, hq⟩ := lr.get hx
      have hq3 : dels H3 ps q = some (.tup r.vals) := by rw [dels_out (tups q _ hq)]; exact hq
      have hq2 : H' q = some (.tup [.int r.d, .int r.s, .int r.g, .int r.z, .int r.c]) := dels_sub _ _ _ _ (sd _ _ hq3)
      rw [wk_take hi]
      have hR' := n.lst
      walk_at "rd"
      refine ite_d (fun c => ?_) (fun c => ?_)
      · have c' : r.d / 7 = w := V.int.inj c
        rw [if_pos c']
        have d0 : 0 ≤ r.d - 7 * w := by omega
        have d7 : r.d - 7 * w < 7 := by omega
        have wl := wk_len ((L.cards card).take i) w
        obtain ⟨row, hrow⟩ := get_some9 (l := wkDays ((L.cards card).take i) w) (i := (r.d - 7 * w).toNat) (by omega)
        obtain ⟨q1, hq1⟩ := get_some9 (l := ps) (i := (r.d - 7 * w).toNat) (by rw [n.len]; omega)
        have a1 : atI (ps.map V.ref) (r.d - 7 * w) = some (.ref q1) := atI_lt d0 (by rw [List.getElem?_map, hq1]; rfl)
        have a2 := n.at_ _ _ _ hq1 hrow
        have rl : row.length ≤ 100 := by
          have h1 : row ∈ wkDays ((L.cards card).take i) w := List.mem_of_getElem? hrow
          unfold wkDays at h1
          obtain ⟨kk, _, rfl⟩ := List.mem_map.mp h1
          rw [List.length_map]
          have h2 := List.length_filter_le (fun r : Rd5 => decide (r.d = 7 * w + (kk : Int))) ((L.cards card).take i)
          rw [List.length_take] at h2
          omega
        walk_at "rd"
        refine ⟨_, rfl, ?_, ?_, ?_⟩
        · have := n.put (r' := row ++ [r.z]) hq1 hrow
          rw [List.map_append] at this
          rw [List.getD_eq_getElem?_getD, hrow]
          exact this
        · rw [upd_ne (fun e9 => nap (by rw [e9]; exact List.mem_of_getElem? hq1))]
          exact e
        · have m1 := List.mem_of_getElem? hq1
          intro b o eb
          have h1 := sd _ _ eb
          obtain ⟨_, nb⟩ := dels_get eb
          rw [dels_out nb] at h1 ⊢
          rw [upd_ne (fun z => nb (by rw [z]; exact m1))]
          exact h1
      · have c' : ¬ r.d / 7 = w := fun z => c (congrArg V.int z)
        rw [if_neg c']
        exact ⟨_, rfl, n, e, sd⟩
    · rintro σ H' ⟨o4, rfl, n, e, sd⟩
      rw [lr.len, List.take_length] at n
      exact ⟨_, rfl, k R ps H' n⟩
end
end FW

/-! Covers: no tickets cost less than the least. -/
namespace FW
open PySem PySem.Spec PyProof.Rows L2
theorem ex_max (b : Int) : ∀ {l : List Int}, (∃ x ∈ l, x ≤ b) → ∃ m ∈ l, m ≤ b ∧ ∀ y ∈ l, y ≤ b → y ≤ m
  | [], h => by obtain ⟨x, hx, _⟩ := h; cases hx
  | a :: r, h => by
    by_cases c : ∃ x ∈ r, x ≤ b
    · obtain ⟨m, hm, h1, h2⟩ := ex_max b c
      by_cases e : a ≤ b ∧ m < a
      · refine ⟨a, List.mem_cons_self, e.1, fun y hy hb => ?_⟩
        rcases List.mem_cons.mp hy with g | g
        · omega
        · have := h2 y g hb
          omega
      · refine ⟨m, List.mem_cons_of_mem _ hm, h1, fun y hy hb => ?_⟩
        rcases List.mem_cons.mp hy with g | g
        · omega
        · exact h2 y g hb
    · obtain ⟨x, hx, hb⟩ := h
      rcases List.mem_cons.mp hx with g | g
      · subst g
        refine ⟨x, List.mem_cons_self, hb, fun y hy hyb => ?_⟩
        rcases List.mem_cons.mp hy with g | g
        · omega
        · exact absurd ⟨y, g, hyb⟩ c
      · exact absurd ⟨x, g, hb⟩ c
theorem ownCost_nn {D : List Int} {own : Int} (h : Row5 D) : 0 ≤ ownCost D own := by
  unfold ownCost
  split
  · exact low_nn h.2
  · exact Int.le_refl _
theorem ownCost_mono {D : List Int} {a b : Int} (h : Row5 D) (hab : a ≤ b) (hb : b ≤ 5) : ownCost D a ≤ ownCost D b := by
  unfold ownCost
  by_cases c : 0 < a
  · rw [if_pos c, if_pos (by omega)]
    exact low_mono (by omega) hab (by rw [h.1]; omega)
  · rw [if_neg c]
    exact ownCost_nn h
theorem sgSum_cut {S : List Int} {m n : Int} {rides : List Int} (h : ∀ z ∈ rides, (m < z ↔ n < z)) : sgSum S m rides = sgSum S n rides := by
  unfold sgSum
  have e : rides.filter (fun z => decide (m < z)) = rides.filter (fun z => decide (n < z)) := List.filter_congr fun z hz => by simp only [h z hz]
  rw [e]
theorem dayBest_le {S D : List Int} {held own : Int} {rides : List Int} (hD : Row5 D) (h0 : 0 ≤ own) (h5 : own ≤ 5) : dayBest S D held rides ≤ dayCost S D held rides own := by
  obtain ⟨m, hm, h1, h2⟩ := ex_max own (l := 0 :: rides) ⟨0, List.mem_cons_self, h0⟩
  have e : dayCost S D held rides m ≤ dayCost S D held rides own := by
    unfold dayCost
    have e1 := ownCost_mono hD h1 h5
    have e2 : sgSum S (max held m) rides = sgSum S (max held own) rides := sgSum_cut fun z hz => by
      have := h2 z (List.mem_cons_of_mem _ hz)
      omega
    omega
  have := lowL_le (List.mem_map.mpr ⟨m, hm, rfl⟩ : dayCost S D held rides m ∈ (0 :: rides).map (dayCost S D held rides))
  unfold dayBest
  omega
theorem weekBest_le {S D W : List Int} {held : Int} {days : List (List Int)} (hW : Row5 W) (h0 : 0 ≤ held) (h5 : held ≤ 5) : weekBest S D W days ≤ weekCost S D W days held := by
  obtain ⟨m, hm, h1, h2⟩ := ex_max held (l := 0 :: days.flatten) ⟨0, List.mem_cons_self, h0⟩
  have e : weekCost S D W days m ≤ weekCost S D W days held := by
    unfold weekCost
    have e1 := ownCost_mono hW h1 h5
    have e2 : days.map (dayBest S D m) = days.map (dayBest S D held) := List.map_congr_left fun rides hr => by
      unfold dayBest
      have e3 : dayCost S D m rides = dayCost S D held rides := by
        funext own
        unfold dayCost
        have e4 : sgSum S (max m own) rides = sgSum S (max held own) rides := sgSum_cut fun z hz => by
          have := h2 z (List.mem_cons_of_mem _ (List.mem_flatten.mpr ⟨rides, hr, hz⟩))
          omega
        rw [e4]
      rw [e3]
    rw [e2]
    omega
  have := lowL_le (List.mem_map.mpr ⟨m, hm, rfl⟩ : weekCost S D W days m ∈ (0 :: days.flatten).map (weekCost S D W days))
  unfold weekBest
  omega
theorem sum_nn : ∀ {l : List Int}, (∀ x ∈ l, 0 ≤ x) → 0 ≤ l.sum
  | [], _ => Int.le_refl _
  | a :: r, h => by
    rw [List.sum_cons]
    have h1 := h a List.mem_cons_self
    have h2 := sum_nn (l := r) fun x hx => h x (List.mem_cons_of_mem _ hx)
    omega
theorem sgSum_nn {S : List Int} {m : Int} {rides : List Int} (h : Row5 S) : 0 ≤ sgSum S m rides := sum_nn fun x hx => by
  obtain ⟨z, _, rfl⟩ := List.mem_map.mp hx
  exact low_nn h.2
theorem dayCost_nn {S D : List Int} {held own : Int} {rides : List Int} (hS : Row5 S) (hD : Row5 D) : 0 ≤ dayCost S D held rides own := by
  unfold dayCost
  have := ownCost_nn (own := own) hD
  have := sgSum_nn (m := max held own) (rides := rides) hS
  omega
theorem dayBest_nn {S D : List Int} {held : Int} {rides : List Int} (hS : Row5 S) (hD : Row5 D) : 0 ≤ dayBest S D held rides := by
  unfold dayBest
  obtain ⟨k, _, e⟩ := List.mem_map.mp (lowL_mem (l := (0 :: rides).map (dayCost S D held rides)) (by simp))
  rw [← e]
  exact dayCost_nn hS hD
theorem weekBest_nn {S D W : List Int} {days : List (List Int)} (hS : Row5 S) (hD : Row5 D) (hW : Row5 W) : 0 ≤ weekBest S D W days := by
  unfold weekBest
  obtain ⟨k, _, e⟩ := List.mem_map.mp (lowL_mem (l := (0 :: days.flatten).map (weekCost S D W days)) (by simp))
  rw [← e]
  unfold weekCost
  have h1 := ownCost_nn (own := k) hW
  have h2 : 0 ≤ (days.map (dayBest S D k)).sum := sum_nn fun x hx => by
    obtain ⟨r, _, rfl⟩ := List.mem_map.mp hx
    exact dayBest_nn hS hD
  omega
end FW

/-! Ledger.tickets, Ledger.ride: the readings. -/
namespace FW
open PySem PySem.Spec PyProof.Rows L2
theorem wk_all5 {rs : List Rd5} {w : Int} (h : ∀ r ∈ rs, In5 r.z) : ∀ row ∈ wkDays rs w, ∀ z ∈ row, In5 z := fun row hr z hz => by
  unfold wkDays at hr
  obtain ⟨k, _, rfl⟩ := List.mem_map.mp hr
  obtain ⟨r, hr2, rfl⟩ := List.mem_map.mp hz
  exact h r (List.mem_filter.mp hr2).1
theorem wk_row {rs : List Rd5} {w : Int} : ∀ row ∈ wkDays rs w, row.length ≤ rs.length := fun row hr => by
  unfold wkDays at hr
  obtain ⟨k, _, rfl⟩ := List.mem_map.mp hr
  rw [List.length_map]
  exact List.length_filter_le _ _
theorem llen_le {n : Nat} : ∀ {days : List (List Int)}, (∀ r ∈ days, r.length ≤ n) → llen days ≤ days.length * n
  | [], _ => Nat.zero_le _
  | a :: l, h => by
    have ih := llen_le (days := l) fun r m => h r (List.mem_cons_of_mem _ m)
    have ha := h a List.mem_cons_self
    unfold llen at ih ⊢
    rw [List.map_cons, List.sum_cons, List.length_cons, Nat.succ_mul]
    omega
theorem wk_flat (rs : List Rd5) (w : Int) : (wkDays rs w).flatten.length ≤ 7 * rs.length := by
  rw [llen_flatten]
  have := llen_le (wk_row (rs := rs) (w := w))
  rw [wk_len] at this
  exact this
section
variable {K : PySem.W.Frag} {A : Ad} {vs : List V} {H : Hp} {Q : VK} {E : XK}
theorem rd_Ledger_tickets (O : OkL K A) (h : sp_Ledger_tickets K A vs H Q E) : t_Ledger_tickets K A E { nx := fun _ H' => Q .non H', rt := Q } (start N_Ledger_tickets vs) H := by
  obtain ⟨p, C, m, L, card, w, rfl, l, k⟩ := h
  obtain ⟨W, T, dx, ob, _, ht⟩ := l.ob
  have ob1 := del_sub _ _ _ _ ob
  have ht1 := ht.same (del_sub _ _)
  have cl := O.cl
  have nT := O.nT
  have e1 := ledF_t W T C
  have hm := l.hm
  have hz := l.sz card
  have no1 : (ledF W T C).lookup ("in_week" : Str) = none := ledF_no W T C (by decide +kernel) (by decide +kernel) (by decide +kernel)
  have a5 := wk_all5 (w := w) (l.ok card)
  have fl := wk_flat (L.cards card) w
  have wl := wk_len (L.cards card) w
  unfold t_Ledger_tickets
  walk_at "rd"
  intro R ps H1 n
  have ht2 := ht1.same n.same
  refine ⟨T, R, L.S, L.D, L.W, _, rfl, ht2, ⟨ps, n.ll⟩, by omega, by omega, fun _ t l' xs ts H' s h1 h2 h3 h4 h5 h6 h7 h8 => ?_, fun g => absurd a5 g⟩
  walk_at "rd"
  exact k l' xs ts H' (n.same.trans s) (n.same.free h1) h4 h5 h6 h7 h8
theorem RidesL.last {H : Hp} : ∀ {xs : List V} {rs : List Rd5}, RidesL H xs rs → (xs = [] ∧ rs = []) ∨ ∃ xs' rs' q r, xs = xs' ++ [V.ref q] ∧ rs = rs' ++ [r] ∧ H q = some (.tup r.vals)
  | _, _, .nil => .inl ⟨rfl, rfl⟩
  | x :: xs, r :: rs, .cons ⟨q, e, h⟩ t => .inr <| by
    rcases RidesL.last t with ⟨h1, h2⟩ | ⟨xs', rs', q', r', h1, h2, h3⟩
    · exact ⟨[], [], q, r, by rw [h1, e]; rfl, by rw [h2]; rfl, h⟩
    · exact ⟨x :: xs', r :: rs', q', r', by rw [h1]; rfl, by rw [h2]; rfl, h3⟩
theorem RidesL.new9 {H H' : Hp} (s : ∀ x vs, H x = some (.tup vs) → H' x = some (.tup vs)) : ∀ {xs : List V} {rs : List Rd5}, RidesL H xs rs → RidesL H' xs rs
  | _, _, .nil => .nil
  | _, _, .cons ⟨q, e, h⟩ r => .cons ⟨q, e, s _ _ h⟩ (RidesL.new9 s r)
theorem wk_more (rs : List Rd5) (r : Rd5) : wkDays (rs ++ [r]) (r.d / 7) = (wkDays rs (r.d / 7)).set (r.d - 7 * (r.d / 7)).toNat ((wkDays rs (r.d / 7)).getD (r.d - 7 * (r.d / 7)).toNat [] ++ [r.z]) := by
  have h : (rs ++ [r])[rs.length]? = some r := by rw [List.getElem?_append_right (Nat.le_refl _), Nat.sub_self]; rfl
  have := wk_take (w := r.d / 7) h
  rw [if_pos rfl] at this
  rw [List.take_of_length_le (by simp), List.take_left] at this
  exact this
theorem Stands.same {H H' : Hp} {hs : List Addr} (h : Stands H hs) (s : Same H H') : Stands H' hs := fun x m => let ⟨o, e, n⟩ := h x m; ⟨o, s _ _ e, n⟩
/-- a ride is put down -/
theorem LedAt.putR {A : Ad} {H H' : Hp} {p C c t : Addr} {m : Nat} {L : LdS} {card : Str} {r : Rd5} {xs : List V} {kvs : List (Key × V)} (l : LedAt A H p C m L) (hm : m < 100) (h5 : In5 r.z) (hC : H C = some (.dK kvs)) (s : Same (del H C) (del H' C)) (hC' : H' C = some (.dK (putK kvs (.inr card) (.ref c))))
    (hc : del H' C c = some (.lst (xs ++ [.ref t]))) (ht : del H' C t = some (.tup r.vals)) (lr : RidesL (del H' C) xs (L.cards card)) : LedAt A H' p C (m + 1) (L.put card r) := by
  obtain ⟨W, T, dx, ob, hw, hta⟩ := l.ob
  obtain ⟨kvs', hC2, hk, hv⟩ := l.dk
  have ek : kvs' = kvs := by
    rw [hC] at hC2
    exact (HO.dK.inj (Option.some.inj hC2)).symm
  subst ek
  refine ⟨⟨W, T, dx, s _ _ ob, hw.same s, hta.same s⟩, ⟨_, hC', ?_, fun card' => ?_⟩, fun card' r' hr => ?_, fun card' => ?_, by omega⟩
  · have := length_putK kvs' (.inr card) (V.ref c)
    omega
  · rw [valV_put]
    show _ ∨ ∃ l xs, _ ∧ _ ∧ RidesL (del H' C) xs (if card' = card then L.cards card ++ [r] else L.cards card')
    by_cases e : card' = card
    · subst e
      rw [if_pos rfl, if_pos rfl]
      exact .inr ⟨c, _, rfl, hc, lr.snoc ht⟩
    · rw [if_neg e, if_neg (fun z => e (Sum.inr.inj z))]
      rcases hv card' with ⟨g1, g2⟩ | ⟨l9, xs9, g1, g2, g3⟩
      · exact .inl ⟨g1, by show (if card' = card then _ else L.cards card') = []; rw [if_neg e]; exact g2⟩
      · exact .inr ⟨l9, xs9, g1, s _ _ g2, g3.same s⟩
  · have hr : r' ∈ (if card' = card then L.cards card ++ [r] else L.cards card') := hr
    by_cases e : card' = card
    · rw [if_pos e] at hr
      rcases List.mem_append.mp hr with m | m
      · exact l.ok card r' m
      · rw [List.mem_singleton.mp m]; exact h5
    · rw [if_neg e] at hr
      exact l.ok card' r' hr
  · show (if card' = card then L.cards card ++ [r] else L.cards card').length ≤ m + 1
    by_cases e : card' = card
    · rw [if_pos e, List.length_append, List.length_singleton]
      have := l.sz card
      omega
    · rw [if_neg e]
      have := l.sz card'
      omega
theorem RidesL.nt {H H' : Hp} {hs : List Addr} (hn : Stands H hs) (s : ∀ x us, H x = some (.tup us) → x ∉ hs → H' x = some (.tup us)) : ∀ {xs : List V} {rs : List Rd5}, RidesL H xs rs → RidesL H' xs rs
  | _, _, .nil => .nil
  | _, _, .cons ⟨q, e, h⟩ r => .cons ⟨q, e, s _ _ h fun m => by
    obtain ⟨o, e1, e2⟩ := hn q m
    rw [h] at e1
    exact e2 _ (Option.some.inj e1).symm⟩ (RidesL.nt hn s r)
/-- the ride is told and charged -/
theorem rd_ride_s3 (O : OkL K A) {p C a : Addr} {m : Nat} {L : LdS} {card : Str} {day z g zz : Int} {xs : List V} {H2 : Hp} {Dn : Ends} (l : LedAt A H2 p C m L) (hm : m < 100) (ha : H2 a = some (.lst xs)) (lr : RidesL H2 xs (L.cards card)) (h5 : In5 zz)
    (q : ∀ H', LedAt A H' p C (m + 1) (L.put card ⟨day, z, g, zz, chg L.S L.D L.W (L.cards card) day zz⟩) → Same (del H2 C) (del H' C) → (∀ hs, Stands H2 hs → LedAt A (dels H2 hs) p C m L → LedAt A (dels H' hs) p C (m + 1) (L.put card ⟨day, z, g, zz, chg L.S L.D L.W (L.cards card) day zz⟩)) → Dn.rt (.int (chg L.S L.D L.W (L.cards card) day zz)) H') :
    t_Ledger_ride_s3 K A E Dn [some (.ref p), some (.str card), some (.int day), some (.int z), some (.int g), some (.int zz), some (.ref a), none, none, none] H2 := by
  obtain ⟨W, T, dx, ob, hw, ht⟩ := l.ob
  have ob1 := del_sub _ _ _ _ ob
  have cl := O.cl
  have nT := O.nT
  have nC := O.nC
  have e1 := ledF_t W T C
  have e2 := ledF_c W T C
  have no1 : (ledF W T C).lookup ("in_week" : Str) = none := ledF_no W T C (by decide +kernel) (by decide +kernel) (by decide +kernel)
  have no2 : (ledF W T C).lookup ("week_sum" : Str) = none := ledF_no W T C (by decide +kernel) (by decide +kernel) (by decide +kernel)
  have hz := l.sz card
  unfold t_Ledger_ride_s3
  walk_at "rd"
  show t_Ledger_ride_s4 K A E Dn [some (.ref p), some (.str card), some (.int day), some (.int z), some (.int g), some (.int zz), some (.ref a), some (.int (day / 7)), none, none] H2
  unfold t_Ledger_ride_s4
  walk_at "rd"
  intro R ps H3 n
  have wl := wk_len (L.cards card) (day / 7)
  have d0 : 0 ≤ day - 7 * (day / 7) := by omega
  have d7 : day - 7 * (day / 7) < 7 := by omega
  obtain ⟨row, hrow⟩ := get_some9 (l := wkDays (L.cards card) (day / 7)) (i := (day - 7 * (day / 7)).toNat) (by omega)
  obtain ⟨q1, hq1⟩ := get_some9 (l := ps) (i := (day - 7 * (day / 7)).toNat) (by rw [n.len]; omega)
  have a1 : atI (ps.map V.ref) (day - 7 * (day / 7)) = some (.ref q1) := atI_lt d0 (by rw [List.getElem?_map, hq1]; rfl)
  have a2 := n.at_ _ _ _ hq1 hrow
  have a3 := n.lst
  have rl : row.length ≤ 100 := by
    have := wk_row row (List.mem_of_getElem? hrow)
    omega
  show t_Ledger_ride_s5 K A E Dn [some (.ref p), some (.str card), some (.int day), some (.int z), some (.int g), some (.int zz), some (.ref a), some (.int (day / 7)), some (.ref R), none] H3
  unfold t_Ledger_ride_s5
  walk_at "rd"
  have n2 := n.put (r' := row ++ [zz]) hq1 hrow
  rw [List.map_append] at n2
  have ew := wk_more (L.cards card) ⟨day, 0, 0, zz, 0⟩
  have ew : wkDays (L.cards card ++ [⟨day, 0, 0, zz, 0⟩]) (day / 7) = (wkDays (L.cards card) (day / 7)).set (day - 7 * (day / 7)).toNat (row ++ [zz]) := by
    rw [ew, List.getD_eq_getElem?_getD]
    show (wkDays (L.cards card) (day / 7)).set (day - 7 * (day / 7)).toNat ((wkDays (L.cards card) (day / 7))[(day - 7 * (day / 7)).toNat]?.getD [] ++ [zz]) = _
    rw [hrow]
    rfl
  rw [← ew] at n2
  have s4 : Same H2 (upd H3 q1 (.lst (row.map V.int ++ [zz].map V.int))) := n2.same
  show t_Ledger_ride_s6 K A E Dn [some (.ref p), some (.str card), some (.int day), some (.int z), some (.int g), some (.int zz), some (.ref a), some (.int (day / 7)), some (.ref R), none] (upd H3 q1 (.lst (row.map V.int ++ [zz].map V.int)))
  generalize upd H3 q1 (.lst (row.map V.int ++ [zz].map V.int)) = H4 at *
  unfold t_Ledger_ride_s6
  have ob4 := s4 _ _ ob1
  have ht4 := (ht.same (del_sub _ _)).same s4
  have a5 := wk_all5 (w := day / 7) (rs := L.cards card ++ [⟨day, 0, 0, zz, 0⟩]) fun r m => by
    rcases List.mem_append.mp m with m | m
    · exact l.ok card r m
    · rw [List.mem_singleton.mp m]; exact h5
  have fl := wk_flat (L.cards card ++ [⟨day, 0, 0, zz, 0⟩]) (day / 7)
  rw [List.length_append, List.length_singleton] at fl
  have wl2 := wk_len (L.cards card ++ [⟨day, 0, 0, zz, 0⟩]) (day / 7)
  have llE : LL K H4 R (wkDays (L.cards card ++ [⟨day, 0, 0, zz, 0⟩]) (day / 7)) := ⟨ps, n2.ll⟩
  walk_at "rd"
  refine ⟨fun _ t l' xs' ts H5 s5 h1 h2 h3 h4 _ _ _ _ => ?_, fun g => absurd a5 g⟩
  have s25 := s4.trans s5
  have l5 := l.same s25
  have ob5 := s5 _ _ ob4
  walk_at "rd"
  intro H6 s6
  have s26 := s25.trans s6
  have ob6 := s6 _ _ ob5
  have ha6 := s26 _ _ ha
  have lx : xs.length ≤ 100 := by rw [lr.len]; omega
  walk_at "rd"
  show t_Ledger_ride_s7 K A E Dn [some (.ref p), some (.str card), some (.int day), some (.int z), some (.int g), some (.int zz), some (.ref a), some (.int (day / 7)), some (.ref R), some (.int (chg L.S L.D L.W (L.cards card) day zz))] H6
  unfold t_Ledger_ride_s7
  walk_at "rd"
  intro t2 ht2
  have s7 : Same H6 (upd H6 t2 (.tup [.int day, .int z, .int g, .int zz, .int (chg L.S L.D L.W (L.cards card) day zz)])) := Same.new ht2
  have t21 : upd H6 t2 (.tup [.int day, .int z, .int g, .int zz, .int (chg L.S L.D L.W (L.cards card) day zz)]) t2 = some (.tup [.int day, .int z, .int g, .int zz, .int (chg L.S L.D L.W (L.cards card) day zz)]) := upd_same
  generalize upd H6 t2 (.tup [.int day, .int z, .int g, .int zz, .int (chg L.S L.D L.W (L.cards card) day zz)]) = H7 at *
  walk_at "rd"
  intro b hb
  have s8 : Same H7 (upd H7 b (.lst [.ref t2])) := Same.new hb
  have b1 : upd H7 b (.lst [.ref t2]) b = some (.lst [.ref t2]) := upd_same
  have t22 := s8 _ _ t21
  have s28 := (s26.trans s7).trans s8
  have ha8 := s28 _ _ ha
  have ob8 := s28 _ _ ob1
  generalize upd H7 b (.lst [.ref t2]) = H8 at *
  walk_at "rd"
  intro c hc
  have s9 : Same H8 (upd H8 c (.lst (xs ++ [.ref t2]))) := Same.new hc
  have c1 : upd H8 c (.lst (xs ++ [.ref t2])) c = some (.lst (xs ++ [.ref t2])) := upd_same
  have ob9 := s9 _ _ ob8
  have t23 := s9 _ _ t22
  have s29 := s28.trans s9
  generalize upd H8 c (.lst (xs ++ [.ref t2])) = H9 at *
  obtain ⟨kvs, hC, hk, hv⟩ := (l.same s29).dk
  have hm9 := l.hm
  have dp : DPut H9 C (.str card) (.ref c) (upd H9 C (.dK (putK kvs (.inr card) (.ref c)))) := DPut.k (k := .inr card) hC (Nat.lt_of_le_of_lt hk (small_lt (by omega)))
  walk_at "rd"
  refine ⟨_, rfl, dp, ?_⟩
  show t_Ledger_ride_s8 K A E Dn [some (.ref p), some (.str card), some (.int day), some (.int z), some (.int g), some (.int zz), some (.ref a), some (.int (day / 7)), some (.ref R), some (.int (chg L.S L.D L.W (L.cards card) day zz))] (upd H9 C (.dK (putK kvs (.inr card) (.ref c))))
  unfold t_Ledger_ride_s8
  have sD : Same (del H2 C) (del (upd H9 C (.dK (putK kvs (.inr card) (.ref c)))) C) := by
    rw [del_upd]
    exact s29.del2 C
  have nC : ∀ {x : Addr} {o : HO}, H9 x = some o → (∀ k, o ≠ .dK k) → del H9 C x = some o := fun {x o} e h => by
    rw [del_ne (fun z => by rw [z, hC] at e; exact h _ (Option.some.inj e).symm)]
    exact e
  have lr9 : RidesL (del H9 C) (xs ++ [.ref t2]) (L.cards card ++ [⟨day, z, g, zz, chg L.S L.D L.W (L.cards card) day zz⟩]) := by
    refine RidesL.snoc ?_ (nC t23 (fun k z => by cases z))
    exact RidesL.new9 (fun x vs e => nC (s29 _ _ e) (fun k z => by cases z)) lr
  have hC2 : H2 C = some (.dK kvs) := by
    obtain ⟨k2, e2, _⟩ := l.dk
    have := s29 _ _ e2
    rw [hC] at this
    rw [e2]
    exact this.symm
  have lrs : RidesL (del (upd H9 C (.dK (putK kvs (.inr card) (.ref c)))) C) xs (L.cards card) := by
    rw [del_upd]
    exact RidesL.new9 (fun x vs e => nC (s29 _ _ e) (fun k z => by cases z)) lr
  refine ⟨_, rfl, q _ (l.putR hm h5 hC2 sD upd_same (by rw [del_upd]; exact nC c1 (fun k z => by cases z)) (by rw [del_upd]; exact nC t23 (fun k z => by cases z)) lrs) sD fun hs hn l' => ?_⟩
  have nCh : C ∉ hs := fun z => by
    obtain ⟨k2, e2, _⟩ := l'.dk
    rw [dels_in z] at e2
    cases e2
  have new : ∀ {x : Addr}, H2 x = none → x ∉ hs := fun {x} e z => by
    obtain ⟨o, e1, _⟩ := hn x z
    rw [e] at e1
    cases e1
  have nc : c ∉ hs := new (s28.free hc)
  have nt : t2 ∉ hs := new (s26.free ht2)
  have sd : Same (del (dels H2 hs) C) (del (dels (upd H9 C (.dK (putK kvs (.inr card) (.ref c)))) hs) C) := fun x o e => by
    obtain ⟨e1, n1⟩ := del_get e
    obtain ⟨e2, n2⟩ := dels_get e1
    rw [del_ne n1, dels_out n2]
    exact (del_get (sD x o (by rw [del_ne n1]; exact e2))).1
  have g9 : ∀ {x : Addr} {o : HO}, H9 x = some o → (∀ k, o ≠ .dK k) → x ∉ hs → del (dels (upd H9 C (.dK (putK kvs (.inr card) (.ref c)))) hs) C x = some o := fun {x o} e h n => by
    have nx : x ≠ C := fun z => by rw [z, hC] at e; exact h _ (Option.some.inj e).symm
    rw [del_ne nx, dels_out n, upd_ne nx]
    exact e
  refine l'.putR hm h5 (by rw [dels_out nCh]; exact hC2) sd (by rw [dels_out nCh]; exact upd_same) (g9 c1 (fun k z => by cases z) nc) (g9 t23 (fun k z => by cases z) nt) ?_
  exact RidesL.nt hn (fun x us e n => g9 (s29 _ _ e) (fun k z => by cases z) n) lr
theorem rd_Ledger_ride (O : OkL K A) (h : sp_Ledger_ride K A vs H Q E) : t_Ledger_ride K A E { nx := fun _ H' => Q .non H', rt := Q } (start N_Ledger_ride vs) H := by
  obtain ⟨p, C, m, L, card, day, z, g, rfl, l, hm, k0, k⟩ := h
  obtain ⟨W, T, dx, ob, hw, ht⟩ := l.ob
  have ob1 := del_sub _ _ _ _ ob
  have hw1 := hw.same (del_sub _ _)
  obtain ⟨a2, b2, wa⟩ := id hw1
  obtain ⟨dx2, obw⟩ := wa.ob
  have cl := O.cl
  have nW := O.nW
  have e1 := ledF_w W T C
  have no1 : (webF a2 b2).lookup ("fewest" : Str) = none := webF_no a2 b2 (by decide +kernel) (by decide +kernel)
  have no2 : (ledF W T C).lookup ("rides" : Str) = none := ledF_no W T C (by decide +kernel) (by decide +kernel) (by decide +kernel)
  unfold t_Ledger_ride
  walk_at "rd"
  refine ⟨fun iz ig F H1 s1 r => ?_, k0⟩
  obtain ⟨kno, kyes⟩ := k iz ig F r
  refine ⟨fun lv u e => ?_, fun e => kno e H1 s1⟩
  obtain ⟨kp, kg⟩ := kyes lv u e
  have lv1 := (r.lv _ _ _ e).1
  have hmin : (if (5 : Int) < lv then 5 else lv) = min lv 5 := by
    by_cases c : (5 : Int) < lv
    · rw [if_pos c]; omega
    · rw [if_neg c]; omega
  have ob2 := s1 _ _ ob1
  have l1 := l.same s1
  walk_at "rd"
  rw [hmin]
  show t_Ledger_ride_s1 K A E _ [some (.ref p), some (.str card), some (.int day), some (.int z), some (.int g), some (.int (min lv 5)), none, none, none, none] H1
  unfold t_Ledger_ride_s1
  walk_at "rd"
  intro a xs H2 s2 ha0 ha lr
  have s02 := s1.trans s2
  have go : ¬ Past (L.cards card) day → t_Ledger_ride_s3 K A E { nx := fun _ H' => Q .non H', rt := Q } [some (.ref p), some (.str card), some (.int day), some (.int z), some (.int g), some (.int (min lv 5)), some (.ref a), none, none, none] H2 := fun np =>
    rd_ride_s3 O (l.same s02) hm ha lr ⟨by omega, by omega⟩ fun H' l' s' r' => kg np H' l' ((s02.del2 C).trans s') fun hs hn lh => r' hs (hn.same s02) (lh.same (s02.dels2 hs))
  show t_Ledger_ride_s2 K A E _ [some (.ref p), some (.str card), some (.int day), some (.int z), some (.int g), some (.int (min lv 5)), some (.ref a), none, none, none] H2
  unfold t_Ledger_ride_s2
  walk_at "rd"
  refine ite_d (fun c => ?_) (fun c => ?_)
  · exact kp (.inl c) H2 s02
  · have has := SqL.of (K := K) ha
    rcases lr.last with ⟨h1, h2⟩ | ⟨xs', rs', q1, r1, h1, h2, h3⟩
    · refine ⟨_, rfl, _, .inl ⟨xs, has, rfl⟩, ite_b (fun c2 => ?_) (fun c2 => ?_)⟩
      · rw [h1] at c2; cases c2
      · refine go fun pa => ?_
        rcases pa with pa | ⟨r9, hr9, _⟩
        · exact c pa
        · rw [h2] at hr9; cases hr9
    · have h3' : H2 q1 = some (.tup [.int r1.d, .int r1.s, .int r1.g, .int r1.z, .int r1.c]) := h3
      have la : atI xs (-(1 : Int)) = some (.ref q1) := by rw [h1]; exact at_last
      have gl : (L.cards card).getLast? = some r1 := by rw [h2]; simp
      refine ⟨_, rfl, _, .inl ⟨xs, has, rfl⟩, ite_b (fun c2 => ?_) (fun c2 => ?_)⟩
      · walk_at "rd"
        refine ite_d (fun c3 => ?_) (fun c3 => ?_)
        · exact kp (.inr ⟨r1, gl, c3⟩) H2 s02
        · refine go fun pa => ?_
          rcases pa with pa | ⟨r9, hr9, h9⟩
          · exact c pa
          · rw [gl] at hr9
            cases hr9
            exact c3 h9
      · rw [h1] at c2
        simp at c2
end
end FW

/-! What the laws' helpers promise that many laws have. -/
namespace FW
open PySem PySem.Spec PyProof.Rows L2
/-- a cell of the script, nought beyond it -/
def cell (ns : List Int) (k : Int) : Int := ns.getD k.toNat 0
def sp_l_cell_at (K : PySem.W.Frag) (A : Ad) : Sp := fun vs H Q _ => ∃ (a : Addr) (ns : List Int) (k : Int), vs = [.ref a, .int k] ∧ SqL K H a (ns.map V.int) ∧ 0 ≤ k ∧ Q (.int (cell ns k)) H
def sp_l_whole (K : PySem.W.Frag) (A : Ad) : Sp := fun vs H Q _ => ∃ i : Int, vs = [.int i] ∧ Q (.bl true) H
/-- a law: of at most 63 numbers it says True -/
def spLaw (K : PySem.W.Frag) : Sp := fun vs H Q _ => ∃ (a : Addr) (ns : List Int), vs = [.ref a] ∧ SqL K H a (ns.map V.int) ∧ ns.length ≤ 63 ∧ ∀ H', Q (.bl true) H'
end FW

/-! What the laws' helpers promise that make rows of prices, days of rides. -/
namespace FW
open PySem PySem.Spec PyProof.Rows L2
def sp_l_rows (K : PySem.W.Frag) (A : Ad) : Sp := fun vs H Q _ => ∃ (a : Addr) (ns : List Int), vs = [.ref a] ∧ SqL K H a (ns.map V.int) ∧ ns.length ≤ 63 ∧
  ∀ (l : Addr) (ps : List Addr) (S D W : List Int) (H' : Hp), Row5 S → Row5 D → Row5 W → NewLL H H' l ps [S, D, W] → Q (.ref l) H'
def sp_l_days (K : PySem.W.Frag) (A : Ad) : Sp := fun vs H Q _ => ∃ (a : Addr) (ns : List Int), vs = [.ref a] ∧ SqL K H a (ns.map V.int) ∧ ns.length ≤ 63 ∧
  ∀ (l : Addr) (ps : List Addr) (days : List (List Int)) (H' : Hp), (∀ r ∈ days, ∀ z ∈ r, In5 z) → llen days ≤ 200 → days.length ≤ 7 → NewLL H H' l ps days → Q (.ref l) H'
def sp_l_paid (K : PySem.W.Frag) (A : Ad) : Sp := fun vs H Q _ => ∃ (n o : Int) (R L : Addr) (S D W : List Int) (days : List (List Int)), vs = [.int n, .int o, .ref R, .ref L] ∧ LL K H R [S, D, W] ∧ LL K H L days ∧ Row5 S ∧ Row5 D ∧ Row5 W ∧
  (∀ r ∈ days, ∀ z ∈ r, In5 z) ∧ days.length ≤ 20 ∧ llen days ≤ 1000 ∧ ∀ v : Int, weekBest S D W days ≤ v → Q (.int v) H
/-- the s-th row of prices -/
def rowOf (ns : List Int) (most : Int) (first : Int) (s : Nat) : List Int := (List.range 5).map fun (k : Nat) => cell ns (first + 5 * (s : Int) + (k : Int)) % most
theorem rowOf_len (ns : List Int) (most first : Int) (s : Nat) : (rowOf ns most first s).length = 5 := by
  unfold rowOf
  rw [List.length_map, List.length_range]
theorem rowOf_ok {ns : List Int} {most first : Int} {s : Nat} (h : 0 < most) : Row5 (rowOf ns most first s) := ⟨rowOf_len _ _ _ _, fun x hx => by
  obtain ⟨k, _, rfl⟩ := List.mem_map.mp hx
  exact Int.emod_nonneg _ (by omega)⟩
theorem at_ref {addrs : List Addr} {i : Nat} {p : Addr} (h : addrs[i]? = some p) : atI (addrs.map V.ref) (0 + (i : Int)) = some (.ref p) := by
  rw [Int.zero_add]
  exact atI_nat (by rw [List.getElem?_map, h]; rfl)
theorem at_refi {addrs : List Addr} {i : Int} {p : Addr} (h0 : 0 ≤ i) (h : addrs[i.toNat]? = some p) : atI (addrs.map V.ref) i = some (.ref p) := atI_lt h0 (by rw [List.getElem?_map, h]; rfl)
theorem get_some {α : Type} {l : List α} {i : Nat} (h : i < l.length) : ∃ x, l[i]? = some x := ⟨l[i], List.getElem?_eq_getElem h⟩
theorem LLAt.get {K : PySem.W.Frag} {H : Hp} {a : Addr} {ps : List Addr} {days : List (List Int)} {i : Int} {r : List Int} (l : LLAt K H a ps days) (h0 : 0 ≤ i) (h : days[i.toNat]? = some r) : ∃ p, atI (ps.map V.ref) i = some (.ref p) ∧ H p = some (.lst (r.map V.int)) := by
  have hi : i.toNat < ps.length := by rw [l.len]; exact (List.getElem?_eq_some_iff.mp h).1
  obtain ⟨p, hp⟩ := get_some hi
  exact ⟨p, at_refi h0 hp, l.at_ _ _ _ hp h⟩
/-- one of some whole numbers by its place -/
theorem pick {ns : List Int} {i : Int} (h0 : 0 ≤ i) (h : i < ns.length) : ∃ m : Int, atI (ns.map V.int) i = some (.int m) ∧ m ∈ ns := ⟨_, atI_map h0 h, by
  rw [List.getD_eq_getElem?_getD, List.getElem?_eq_getElem (by omega)]
  exact List.getElem_mem _⟩
end FW

namespace FW
open PySem PySem.Spec PyProof.Rows L2
/-- Tariff(..): a new one -/
theorem mk_tariff {K : PySem.W.Frag} {A : Ad} {H : Hp} {T dx a b c : Addr} {S D W : List Int} {Q : VK} {E : XK} (nT : H T = none) (nd : H dx = none) (ha : SqL K H a (S.map V.int)) (hb : SqL K H b (D.map V.int)) (hc : SqL K H c (W.map V.int)) (rS : Row5 S) (rD : Row5 D) (rW : Row5 W)
    (q : ∀ H', Same H H' → Tar A H' T S D W → Q .non H') : sp_Tariff_init K A [.ref T, .ref a, .ref b, .ref c] (upd (upd H dx (.own T)) T (.ins A.c_Tariff dx [])) Q E := by
  have sN : Same H (upd (upd H dx (.own T)) T (.ins A.c_Tariff dx [])) := (Same.new nd).mut nT
  refine ⟨T, dx, a, b, c, S, D, W, rfl, upd_same, sN.seq ha, sN.seq hb, sN.seq hc, fun _ a' b' c' H' t _ _ _ _ _ _ kp => ?_, fun n => absurd ⟨rS, rD, rW⟩ n⟩
  exact q H' (fun x o e => kp x o (sN x o e) (ne_of_none e nT)) ⟨_, _, _, t⟩
theorem mk_tariff2 {K : PySem.W.Frag} {A : Ad} {H : Hp} {T dx a b c : Addr} {S D W : List Int} {Q : VK} {E : XK} (nT : H T = none) (nd : H dx = none) (ha : SqL K H a (S.map V.int)) (hb : SqL K H b (D.map V.int)) (hc : SqL K H c (W.map V.int)) (rS : Row5 S) (rD : Row5 D) (rW : Row5 W)
    (q : ∀ H' a' b' c', Same H H' → TarAt A H' T a' b' c' S D W → H a' = none → H b' = none → H c' = none → Q .non H') : sp_Tariff_init K A [.ref T, .ref a, .ref b, .ref c] (upd (upd H dx (.own T)) T (.ins A.c_Tariff dx [])) Q E := by
  have sN : Same H (upd (upd H dx (.own T)) T (.ins A.c_Tariff dx [])) := (Same.new nd).mut nT
  refine ⟨T, dx, a, b, c, S, D, W, rfl, upd_same, sN.seq ha, sN.seq hb, sN.seq hc, fun _ a' b' c' H' t na nb nc _ _ _ kp => ?_, fun n => absurd ⟨rS, rD, rW⟩ n⟩
  exact q H' a' b' c' (fun x o e => kp x o (sN x o e) (ne_of_none e nT)) t (sN.free na) (sN.free nb) (sN.free nc)
end FW

/-! A ledger: how the laws make and use one. -/
namespace FW
open PySem PySem.Spec PyProof.Rows L2
def LdS.new (zones : List Int) (links : List (Nat × Nat)) (S D W : List Int) : LdS := ⟨zones, links, S, D, W, fun _ => []⟩
/-- Ledger(..): a new one -/
theorem mk_ledger {K : PySem.W.Frag} {A : Ad} {H : Hp} {p dx w t : Addr} {zones : List Int} {links : List (Nat × Nat)} {S D W : List Int} {Q : VK} {E : XK} (np : H p = none) (nd : H dx = none) (hw : Web A H w zones links) (ht : Tar A H t S D W)
    (q : ∀ C H', LedAt A H' p C 0 (LdS.new zones links S D W) → Same H (del H' C) → H C = none → Q .non H') : sp_Ledger_init K A [.ref p, .ref w, .ref t] (upd (upd H dx (.own p)) p (.ins A.c_Ledger dx [])) Q E := by
  have sN : Same H (upd (upd H dx (.own p)) p (.ins A.c_Ledger dx [])) := (Same.new nd).mut np
  have sD : Same H (del (upd (upd H dx (.own p)) p (.ins A.c_Ledger dx [])) p) := sN.delN np
  refine ⟨p, dx, w, t, zones, links, S, D, W, rfl, upd_same, hw.same sD, ht.same sD, fun C H' l nC kp => ?_⟩
  exact q C H' l (fun x o e => kp x o (sN x o e) (ne_of_none e np)) (sN.free nC)
/-- the object itself -/
theorem LedAt.obj {A : Ad} {H : Hp} {p C : Addr} {m : Nat} {L : LdS} (l : LedAt A H p C m L) : ∃ W T dx, H p = some (.ins A.c_Ledger dx (ledF W T C)) :=
  let ⟨W, T, dx, h, _, _⟩ := l.ob; ⟨W, T, dx, del_sub _ _ _ _ h⟩
theorem led_rides (W T C : Addr) : (ledF W T C).lookup ("rides" : Str) = none := ledF_no W T C (by decide +kernel) (by decide +kernel) (by decide +kernel)
theorem led_ride (W T C : Addr) : (ledF W T C).lookup ("ride" : Str) = none := ledF_no W T C (by decide +kernel) (by decide +kernel) (by decide +kernel)
theorem led_week (W T C : Addr) : (ledF W T C).lookup ("week_sum" : Str) = none := ledF_no W T C (by decide +kernel) (by decide +kernel) (by decide +kernel)
theorem led_day (W T C : Addr) : (ledF W T C).lookup ("day_sum" : Str) = none := ledF_no W T C (by decide +kernel) (by decide +kernel) (by decide +kernel)
theorem led_paid (W T C : Addr) : (ledF W T C).lookup ("paid" : Str) = none := ledF_no W T C (by decide +kernel) (by decide +kernel) (by decide +kernel)
theorem led_tick (W T C : Addr) : (ledF W T C).lookup ("tickets" : Str) = none := ledF_no W T C (by decide +kernel) (by decide +kernel) (by decide +kernel)
/-- pairs that a comprehension has made -/
theorem paired_ix {α β : Type} {F : α → β → Prop} : ∀ {xs : List α} {ys : List β}, xs.length = ys.length → (∀ (i : Nat) x y, xs[i]? = some x → ys[i]? = some y → F x y) → Paired F xs ys
  | [], [], _, _ => .nil
  | [], _ :: _, h, _ => by simp at h
  | _ :: _, [], h, _ => by simp at h
  | x :: xs, y :: ys, h, f => .cons (f 0 x y rfl rfl) (paired_ix (by simpa using h) fun i a b h1 h2 => f (i + 1) a b h1 h2)
theorem News.pairs {H1 H' : Hp} {D : Addr} {obj : Nat → HO} {addrs : List Addr} {n : Nat} (N : News H1 D obj addrs H') (hl : addrs.length = n) (f : Nat → Nat × Nat) (hf : ∀ k, k < n → obj k = .tup [.int ((f k).1 : Nat), .int ((f k).2 : Nat)]) : PairL (del H' D) (addrs.map V.ref) ((List.range n).map f) := by
  refine paired_ix (by rw [List.length_map, List.length_map, List.length_range, hl]) fun i x y h1 h2 => ?_
  rw [List.getElem?_map] at h1 h2
  obtain ⟨q, hq, rfl⟩ := Option.map_eq_some_iff.mp h1
  obtain ⟨k, hk, rfl⟩ := Option.map_eq_some_iff.mp h2
  obtain ⟨hi, e⟩ := List.getElem?_eq_some_iff.mp hk
  rw [List.getElem_range] at e
  rw [List.length_range] at hi
  subst e
  exact ⟨q, rfl, by rw [N.at_ i q hq, hf i hi]⟩
/-- no ride yet -/
theorem wkSum_nil (w : Int) : wkSum [] w = 0 := rfl
theorem dySum_nil (d : Int) : dySum [] d = 0 := rfl
theorem pdSum_nil : pdSum [] = 0 := rfl
/-! ### rides as data -/
def Rd5.data (r : Rd5) : PyData := .tuple [.int r.d, .int r.s, .int r.g, .int r.z, .int r.c]
theorem dp_rd {K : PySem.W.Frag} {H : Hp} {q : Addr} {r : Rd5} (h : H q = some (.tup r.vals)) : Dp K H (.ref q) r.data := .tup (SqT.of h) (.cons (.int _) (.cons (.int _) (.cons (.int _) (.cons (.int _) (.cons (.int _) .nil)))))
theorem shp_rd (r : Rd5) : Shp 1 r.data := Shp.tuple fun d hd => by
  simp only [List.mem_cons, List.not_mem_nil, or_false] at hd
  rcases hd with e | e | e | e | e <;> rw [e] <;> exact Shp.int 0 _
theorem dpAll_rides {K : PySem.W.Frag} {H : Hp} : ∀ {xs : List V} {rs : List Rd5}, RidesL H xs rs → DpAll K H xs (rs.map Rd5.data)
  | _, _, .nil => .nil
  | _, _, .cons ⟨q, e, h⟩ r => by
    subst e
    exact .cons (dp_rd h) (dpAll_rides r)
theorem dp_rides {K : PySem.W.Frag} {H : Hp} {a : Addr} {xs : List V} {rs : List Rd5} (h : SqL K H a xs) (l : RidesL H xs rs) : Dp K H (.ref a) (.list (rs.map Rd5.data)) := .lst h (dpAll_rides l)
theorem shp_rides (rs : List Rd5) : Shp 2 (.list (rs.map Rd5.data)) := Shp.list fun d hd => by
  obtain ⟨r, _, rfl⟩ := List.mem_map.mp hd
  exact shp_rd r
end FW

/-! Stops in a row, each in a zone of its own: the levels. -/
namespace FW
open PySem PySem.Spec PyProof.Rows L2
structure RowWeb (zones : List Int) (links : List (Nat × Nat)) (n : Nat) : Prop where
  le : n ≤ zones.length
  lk : ∀ a b, Lk links a b ↔ (a < n ∧ b < n ∧ (b = a + 1 ∨ a = b + 1))
  inj : ∀ a b, a < n → b < n → a ≠ b → zn zones a ≠ zn zones b
/-- the zones of a ride along the row -/
def rowD (s g : Nat) : Int := 1 + (if s ≤ g then (g : Int) - (s : Int) else (s : Int) - (g : Int))
theorem rowD_self (s : Nat) : rowD s s = 1 := by
  unfold rowD
  rw [if_pos (Nat.le_refl _)]
  omega
theorem rowD_pos (s g : Nat) : 1 ≤ rowD s g := by
  unfold rowD
  split <;> omega
theorem rowD_symm (s g : Nat) : rowD s g = rowD g s := by
  unfold rowD
  split <;> split <;> omega
theorem rowD_abs (s g : Int) (hs : 0 ≤ s) (hg : 0 ≤ g) : rowD s.toNat g.toNat = 1 + (if s - g < 0 then -(s - g) else s - g) := by
  unfold rowD
  split <;> split <;> omega
def rowG (m n s : Nat) : Fnd := (List.range m).map fun v => if v < n then some (rowD s v, if v < s then v + 1 else if s < v then v - 1 else s) else none
theorem fd_rowG {m n s v : Nat} (h : n ≤ m) : fd (rowG m n s) v = if v < n then some (rowD s v, if v < s then v + 1 else if s < v then v - 1 else s) else none := by
  unfold fd rowG
  rw [List.getD_eq_getElem?_getD, List.getElem?_map]
  by_cases c : v < m
  · rw [List.getElem?_range c]
    rfl
  · rw [List.getElem?_eq_none (by rw [List.length_range]; omega), if_neg (by omega)]
    rfl
theorem RowWeb.wt1 {zones : List Int} {links : List (Nat × Nat)} {n a b : Nat} (R : RowWeb zones links n) (ha : a < n) (hb : b < n) (h : a ≠ b) : wt zones a b = 1 := by
  unfold wt
  rw [if_neg (R.inj a b ha hb h)]
theorem RowWeb.rch {zones : List Int} {links : List (Nat × Nat)} {n s : Nat} (R : RowWeb zones links n) (hs : s < n) : Rch zones links s (rowG zones.length n s) := by
  have le := R.le
  have get : ∀ v c u, fd (rowG zones.length n s) v = some (c, u) → v < n ∧ c = rowD s v ∧ u = (if v < s then v + 1 else if s < v then v - 1 else s) := fun v c u e => by
    rw [fd_rowG le] at e
    by_cases h : v < n
    · rw [if_pos h] at e
      cases e
      exact ⟨h, rfl, rfl⟩
    · rw [if_neg h] at e
      cases e
  refine ⟨by unfold rowG; rw [List.length_map, List.length_range], ?_, fun v c u e => ?_, fun a la pa b e hl => ?_, fun v => (rowD s v).toNat - 1, fun v c u e => ?_, fun v c u e hv => ?_⟩
  · rw [fd_rowG le, if_pos hs, if_neg (Nat.lt_irrefl _), if_neg (Nat.lt_irrefl _), rowD_self]
  · obtain ⟨h1, h2, h3⟩ := get v c u e
    refine ⟨by rw [h2]; exact rowD_pos _ _, ?_⟩
    rw [h3]
    split
    · omega
    · split <;> omega
  · obtain ⟨h1, h2, h3⟩ := get a la pa e
    obtain ⟨_, hb, h4⟩ := (R.lk a b).mp hl
    refine ⟨rowD s b, _, by rw [fd_rowG le, if_pos hb], ?_⟩
    rw [R.wt1 h1 hb (by omega), h2]
    unfold rowD
    split <;> split <;> omega
  · obtain ⟨h1, h2, h3⟩ := get v c u e
    show (rowD s v).toNat - 1 < zones.length
    unfold rowD
    split <;> omega
  · obtain ⟨h1, h2, h3⟩ := get v c u e
    have hu : u < n ∧ (v = u + 1 ∧ s < v ∨ u = v + 1 ∧ v < s) := by
      rw [h3]
      by_cases c1 : v < s
      · rw [if_pos c1]
        exact ⟨by omega, .inr ⟨rfl, c1⟩⟩
      · rw [if_neg c1, if_pos (by omega)]
        exact ⟨by omega, .inl ⟨by omega, by omega⟩⟩
    refine ⟨rowD s u, _, by rw [fd_rowG le, if_pos hu.1], (R.lk u v).mpr ⟨hu.1, h1, by omega⟩, ?_, ?_⟩
    · rw [R.wt1 hu.1 h1 (by omega), h2]
      unfold rowD
      split <;> split <;> omega
    · show (rowD s u).toNat - 1 < (rowD s v).toNat - 1
      unfold rowD
      split <;> split <;> omega
theorem fd_fst (F : Fnd) (v : Nat) : (fd F v).map Prod.fst = (F.map (Option.map Prod.fst)).getD v none := by
  unfold fd
  rw [List.getD_eq_getElem?_getD, List.getD_eq_getElem?_getD, List.getElem?_map]
  cases F[v]? <;> rfl
theorem RowWeb.lev {zones : List Int} {links : List (Nat × Nat)} {n s : Nat} {F : Fnd} (R : RowWeb zones links n) (hs : s < n) (r : Rch zones links s F) : (∀ g, g < n → ∃ u, fd F g = some (rowD s g, u)) ∧ ∀ g, n ≤ g → fd F g = none := by
  have e : ∀ g, (fd F g).map Prod.fst = (fd (rowG zones.length n s) g).map Prod.fst := fun g => by
    rw [fd_fst, fd_fst, r.same (R.rch hs)]
  refine ⟨fun g hg => ?_, fun g hg => ?_⟩
  · have h := e g
    rw [fd_rowG R.le, if_pos hg] at h
    obtain ⟨⟨c, u⟩, h1, h2⟩ := Option.map_eq_some_iff.mp h
    have h2 : c = rowD s g := h2
    exact ⟨u, by rw [h1, h2]⟩
  · have h := e g
    rw [fd_rowG R.le, if_neg (by omega)] at h
    exact Option.map_eq_none_iff.mp h
/-- the links of a row, one way or the other -/
def rowLk (n : Nat) : List (Nat × Nat) := (List.range (n - 1)).map fun k => (k, k + 1)
def rowLk2 (n : Nat) : List (Nat × Nat) := (List.range (n - 1)).map fun k => (k + 1, k)
theorem lk_row {n a b : Nat} : Lk (rowLk n) a b ↔ (a < n ∧ b < n ∧ (b = a + 1 ∨ a = b + 1)) := by
  unfold Lk rowLk
  simp only [List.mem_map, List.mem_range, Prod.mk.injEq]
  constructor
  · rintro (⟨k, h, e1, e2⟩ | ⟨k, h, e1, e2⟩) <;> omega
  · rintro ⟨h1, h2, h3 | h3⟩
    · exact .inl ⟨a, by omega, rfl, h3.symm⟩
    · exact .inr ⟨b, by omega, rfl, h3.symm⟩
theorem lk_row2 {n a b : Nat} : Lk (rowLk2 n) a b ↔ (a < n ∧ b < n ∧ (b = a + 1 ∨ a = b + 1)) := by
  unfold Lk rowLk2
  simp only [List.mem_map, List.mem_range, Prod.mk.injEq]
  constructor
  · rintro (⟨k, h, e1, e2⟩ | ⟨k, h, e1, e2⟩) <;> omega
  · rintro ⟨h1, h2, h3 | h3⟩
    · exact .inr ⟨a, by omega, h3.symm, rfl⟩
    · exact .inl ⟨b, by omega, h3.symm, rfl⟩
theorem zn_row {m : Nat} {f : Nat → Int} {a : Nat} (h : a < m) : zn ((List.range m).map f) a = f a := by
  unfold zn
  rw [List.getD_eq_getElem?_getD, List.getElem?_map, List.getElem?_range h]
  rfl
theorem rowWeb_mk {m n : Nat} {f : Nat → Int} (h : n ≤ m) (hf : ∀ a b, a ≠ b → f a ≠ f b) : RowWeb ((List.range m).map f) (rowLk n) n :=
  ⟨by rw [List.length_map, List.length_range]; exact h, fun a b => lk_row, fun a b ha hb hn => by rw [zn_row (by omega), zn_row (by omega)]; exact hf a b hn⟩
theorem rowWeb_mk2 {m n : Nat} {f : Nat → Int} (h : n ≤ m) (hf : ∀ a b, a ≠ b → f a ≠ f b) : RowWeb ((List.range m).map f) (rowLk2 n) n :=
  ⟨by rw [List.length_map, List.length_range]; exact h, fun a b => lk_row2, fun a b ha hb hn => by rw [zn_row (by omega), zn_row (by omega)]; exact hf a b hn⟩
end FW

namespace FW
open PySem PySem.Spec PyProof.Rows L2
def LOk (n : Nat) (ps : List (Nat × Nat)) : Prop := ∀ p ∈ ps, p.1 < n ∧ p.2 < n ∧ p.1 ≠ p.2
theorem LOk.snoc {n : Nat} {ps : List (Nat × Nat)} {a b : Nat} (h : LOk n ps) (ha : a < n) (hb : b < n) (hn : a ≠ b) : LOk n (ps ++ [(a, b)]) := fun p m => by
  rcases List.mem_append.mp m with m | m
  · exact h p m
  · rw [List.mem_singleton.mp m]
    exact ⟨ha, hb, hn⟩
end FW

namespace FW
open PySem PySem.Spec PyProof.Rows L2
section
variable {K : PySem.W.Frag} {A : Ad} {vs : List V} {H : Hp} {Q : VK} {E : XK}
theorem mk_web {T dx z l : Addr} {zones : List Int} {xs : List V} {ps : List (Nat × Nat)} (nT : H T = none) (nd : H dx = none) (hz : SqL K H z (zones.map V.int)) (hl : SqL K H l xs) (hp : PairL H xs ps) (hn : zones.length ≤ 70) (hL : ps.length ≤ 300) (ok : LOk zones.length ps)
    (q : ∀ H', Same H H' → Web A H' T zones ps → Q .non H') : sp_Web_init K A [.ref T, .ref z, .ref l] (upd (upd H dx (.own T)) T (.ins A.c_Web dx [])) Q E := by
  have sN : Same H (upd (upd H dx (.own T)) T (.ins A.c_Web dx [])) := (Same.new nd).mut nT
  have li : ∀ {xs : List V} {ps : List (Nat × Nat)}, PairL (upd (upd H dx (.own T)) T (.ins A.c_Web dx [])) xs ps → IPairL (upd (upd H dx (.own T)) T (.ins A.c_Web dx [])) xs (ps.map fun p => ((p.1 : Int), (p.2 : Int))) := fun h => by
    induction h with
    | nil => exact .nil
    | cons h r ih => exact .cons h ih
  have em : (ps.map fun p => ((p.1 : Int), (p.2 : Int))).map natP = ps := by
    rw [List.map_map]
    have : (natP ∘ fun p : Nat × Nat => ((p.1 : Int), (p.2 : Int))) = id := by
      funext p
      rfl
    rw [this, List.map_id]
  have good : ∀ q ∈ ps.map fun p => ((p.1 : Int), (p.2 : Int)), LinkOk zones.length q := fun q m => by
    obtain ⟨p, hp, rfl⟩ := List.mem_map.mp m
    obtain ⟨h1, h2, h3⟩ := ok p hp
    exact ⟨fun e => h3 (by have e : (p.1 : Int) = (p.2 : Int) := e; omega), Int.natCast_nonneg _, Int.natCast_nonneg _, by show (p.1 : Int) < _; omega, by show (p.2 : Int) < _; omega⟩
  refine ⟨T, dx, z, l, zones, xs, _, rfl, upd_same, sN.seq hz, sN.seq hl, li (hp.same sN), hn, by rw [List.length_map]; exact hL, fun _ a b H' w _ _ kp => ?_, fun n => absurd good n⟩
  rw [em] at w
  exact q H' (fun x o e => kp x o (sN x o e) (ne_of_none e nT)) ⟨_, _, w⟩
end
end FW

/-! Rides along a row of stops; two ledgers side by side. -/
namespace FW
open PySem PySem.Spec PyProof.Rows L2
/-- the zones that a ride counts -/
def rz (s g : Int) : Int := min (rowD s.toNat g.toNat) 5
theorem rz_in5 (s g : Int) : In5 (rz s g) := by
  unfold rz
  have := rowD_pos s.toNat g.toNat
  exact ⟨by omega, by omega⟩
theorem rz_symm (s g : Int) : rz s g = rz g s := by
  unfold rz
  rw [rowD_symm]
theorem rz_abs {s g : Int} (hs : 0 ≤ s) (hg : 0 ≤ g) : (if 1 + (if s - g < 0 then -(s - g) else s - g) < 5 then 1 + (if s - g < 0 then -(s - g) else s - g) else 5) = rz s g := by
  unfold rz
  rw [rowD_abs s g hs hg]
  generalize 1 + (if s - g < 0 then -(s - g) else s - g) = x
  split <;> omega
def more (f : Str → List Rd5) (card : Str) (r : Rd5) : Str → List Rd5 := fun x => if x = card then f card ++ [r] else f x
theorem more_at (f : Str → List Rd5) (card : Str) (r : Rd5) : more f card r card = f card ++ [r] := if_pos rfl
theorem more_ne {f : Str → List Rd5} {card x : Str} {r : Rd5} (h : ¬ x = card) : more f card r x = f x := if_neg h
theorem row_in {zones : List Int} {links : List (Nat × Nat)} {n : Nat} {s : Int} (RW : RowWeb zones links n) (h0 : 0 ≤ s) (h1 : s < (n : Int)) : InR zones s := ⟨h0, by have := RW.le; omega⟩
theorem row_none {zones : List Int} {links : List (Nat × Nat)} {n : Nat} {s g : Int} {F : Fnd} (RW : RowWeb zones links n) (hs0 : 0 ≤ s) (hs1 : s < (n : Int)) (hg0 : 0 ≤ g) (hg1 : g < (n : Int)) (r : Rch zones links s.toNat F) (e : fd F g.toNat = none) : False := by
  obtain ⟨u, hu⟩ := (RW.lev (show s.toNat < n by omega) r).1 g.toNat (by omega)
  rw [hu] at e
  cases e
theorem row_some {zones : List Int} {links : List (Nat × Nat)} {n : Nat} {s g lv : Int} {u : Nat} {F : Fnd} (RW : RowWeb zones links n) (hs0 : 0 ≤ s) (hs1 : s < (n : Int)) (hg0 : 0 ≤ g) (hg1 : g < (n : Int)) (r : Rch zones links s.toNat F) (e : fd F g.toNat = some (lv, u)) : min lv 5 = rz s g := by
  obtain ⟨u', hu⟩ := (RW.lev (show s.toNat < n by omega) r).1 g.toNat (by omega)
  rw [hu] at e
  cases e
  rfl
/-! ### an object that is no dict stands elsewhere than a dict -/
theorem tar_drop {A : Ad} {H : Hp} {p C : Addr} {S D W : List Int} {kvs : List (Key × V)} (t : Tar A H p S D W) (h : H C = some (.dK kvs)) : Tar A (del H C) p S D W := by
  obtain ⟨a, b, c, ⟨dx, e⟩, h1, h2, h3, r1, r2, r3⟩ := t
  exact ⟨a, b, c, ⟨dx, by rw [del_ne (ne_of e h (by intro z; cases z))]; exact e⟩, by rw [del_ne (ne_of h1 h (by intro z; cases z))]; exact h1, by rw [del_ne (ne_of h2 h (by intro z; cases z))]; exact h2, by rw [del_ne (ne_of h3 h (by intro z; cases z))]; exact h3, r1, r2, r3⟩
theorem pairs_drop {H : Hp} {C : Addr} {kvs : List (Key × V)} (hC : H C = some (.dK kvs)) : ∀ {xs : List V} {ps : List (Nat × Nat)}, PairL H xs ps → PairL (del H C) xs ps
  | _, _, .nil => .nil
  | _, _, .cons ⟨q, e, h⟩ r => .cons ⟨q, e, by rw [del_ne (ne_of h hC (by intro z; cases z))]; exact h⟩ (pairs_drop hC r)
theorem web_drop {A : Ad} {H : Hp} {p C : Addr} {zones : List Int} {links : List (Nat × Nat)} {kvs : List (Key × V)} (w : Web A H p zones links) (h : H C = some (.dK kvs)) : Web A (del H C) p zones links := by
  obtain ⟨a, b, ⟨dx, e⟩, h1, ⟨xs, h2, h3⟩, ok⟩ := w
  exact ⟨a, b, ⟨dx, by rw [del_ne (ne_of e h (by intro z; cases z))]; exact e⟩, by rw [del_ne (ne_of h1 h (by intro z; cases z))]; exact h1, ⟨xs, by rw [del_ne (ne_of h2 h (by intro z; cases z))]; exact h2, pairs_drop h h3⟩, ok⟩
theorem rides_drop {H : Hp} {C : Addr} {kvs : List (Key × V)} (hC : H C = some (.dK kvs)) : ∀ {xs : List V} {rs : List Rd5}, RidesL H xs rs → RidesL (del H C) xs rs
  | _, _, .nil => .nil
  | _, _, .cons ⟨q, e, h⟩ r => .cons ⟨q, e, by rw [del_ne (ne_of h hC (by intro z; cases z))]; exact h⟩ (rides_drop hC r)
theorem del_del (H : Hp) (a b : Addr) : del (del H a) b = del (del H b) a := by
  funext x
  unfold del
  split <;> split <;> rfl
/-- a dict elsewhere is changed -/
theorem LedAt.other {A : Ad} {H H' : Hp} {p C C1 : Addr} {m : Nat} {L : LdS} {kvs : List (Key × V)} (l : LedAt A H p C m L) (h1 : H C1 = some (.dK kvs)) (n : C1 ≠ C) (s : Same (del H C1) (del H' C1)) : LedAt A H' p C m L where
  ob := by
    obtain ⟨W, T, dx, e, w, t⟩ := l.ob
    have g : del H C C1 = some (.dK kvs) := by rw [del_ne n]; exact h1
    have s2 : Same (del (del H C) C1) (del H' C) := fun x o ex => by
      rw [del_del] at ex
      have := (s.del2 C) x o ex
      rw [del_del] at this
      exact (del_get this).1
    exact ⟨W, T, dx, s2 _ _ (by rw [del_ne (ne_of e g (by intro z; cases z))]; exact e), (web_drop w g).same s2, (tar_drop t g).same s2⟩
  dk := by
    obtain ⟨ks, k1, k2, k3⟩ := l.dk
    have g : del H C C1 = some (.dK kvs) := by rw [del_ne n]; exact h1
    have s2 : Same (del (del H C) C1) (del H' C) := fun x o ex => by
      rw [del_del] at ex
      have := (s.del2 C) x o ex
      rw [del_del] at this
      exact (del_get this).1
    have hC : del H C1 C = some (.dK ks) := by rw [del_ne (ne_sym n)]; exact k1
    refine ⟨ks, (del_get (s _ _ hC)).1, k2, fun card => ?_⟩
    rcases k3 card with g3 | ⟨l', xs, g1, g2, g3⟩
    · exact .inl g3
    · exact .inr ⟨l', xs, g1, s2 _ _ (by rw [del_ne (ne_of g2 g (by intro z; cases z))]; exact g2), (rides_drop g g3).same s2⟩
  ok := l.ok
  sz := l.sz
  hm := l.hm
theorem LedAt.dict {A : Ad} {H : Hp} {p C : Addr} {m : Nat} {L : LdS} (l : LedAt A H p C m L) : ∃ kvs, H C = some (.dK kvs) := let ⟨kvs, h, _⟩ := l.dk; ⟨kvs, h⟩
theorem LedAt.apart {A : Ad} {H H' : Hp} {p p2 C C1 : Addr} {m m1 : Nat} {L L1 : LdS} (l : LedAt A H p C m L) (l1 : LedAt A H p2 C1 m1 L1) (n : C1 ≠ C) (s : Same (del H C1) (del H' C1)) : LedAt A H' p C m L :=
  let ⟨_, h⟩ := l1.dict; l.other h n s
theorem Same.two1 {H H' : Hp} {C1 C2 : Addr} (s : Same (del H C1) (del H' C1)) : Same (dels H [C1, C2]) (dels H' [C1, C2]) := fun x o e => by
  obtain ⟨e1, n⟩ := dels_get e
  rw [dels_out n]
  have n1 : x ≠ C1 := fun z => n (by rw [z]; exact List.mem_cons_self)
  exact (del_get (s x o (by rw [del_ne n1]; exact e1))).1
theorem Same.two2 {H H' : Hp} {C1 C2 : Addr} (s : Same (del H C2) (del H' C2)) : Same (dels H [C1, C2]) (dels H' [C1, C2]) := fun x o e => by
  obtain ⟨e1, n⟩ := dels_get e
  rw [dels_out n]
  have n1 : x ≠ C2 := fun z => n (by rw [z]; exact List.mem_cons_of_mem _ List.mem_cons_self)
  exact (del_get (s x o (by rw [del_ne n1]; exact e1))).1
theorem Same.delIn {H H' : Hp} {C : Addr} {cs : List Addr} (h : C ∈ cs) (s : Same (del H C) (del H' C)) : Same (dels H cs) (dels H' cs) := fun x o e => by
  obtain ⟨e1, n⟩ := dels_get e
  rw [dels_out n]
  have n1 : x ≠ C := fun z => n (by rw [z]; exact h)
  exact (del_get (s x o (by rw [del_ne n1]; exact e1))).1
/-- a dict is changed: elsewhere all stands -/
theorem same_put {H : Hp} {C : Addr} {o : HO} : Same (del H C) (del (upd H C o) C) := by
  rw [del_upd]
  exact Same.refl _
theorem keep_at {H H' : Hp} {C x : Addr} {o : HO} (s : Same (del H C) (del H' C)) (n : x ≠ C) (e : H x = some o) : H' x = some o := (del_get (s x o (by rw [del_ne n]; exact e))).1
end FW

/-! Lists of levels as data. -/
namespace FW
open PySem PySem.Spec PyProof.Rows L2
def lvD : Option (Int × Nat) → PyData
  | none => .none
  | some (c, _) => .int c
theorem dpAll_lv {K : PySem.W.Frag} {H : Hp} : ∀ F : Fnd, DpAll K H (F.map lvV) (F.map lvD)
  | [] => .nil
  | none :: F => .cons .non (dpAll_lv F)
  | some (c, u) :: F => .cons (.int c) (dpAll_lv F)
theorem dp_lv {K : PySem.W.Frag} {H : Hp} {a : Addr} {F : Fnd} (h : SqL K H a (F.map lvV)) : Dp K H (.ref a) (.list (F.map lvD)) := .lst h (dpAll_lv F)
theorem shp_lv (F : Fnd) : Shp 1 (.list (F.map lvD)) := Shp.list fun d hd => by
  obtain ⟨o, _, rfl⟩ := List.mem_map.mp hd
  cases o with
  | none => exact Shp.non 0
  | some x => exact Shp.int 0 _
theorem lv_same {F G : Fnd} (h : F.map (Option.map Prod.fst) = G.map (Option.map Prod.fst)) : F.map lvV = G.map lvV := by
  have e : ∀ o : Option (Int × Nat), lvV o = (match o.map Prod.fst with | none => V.non | some c => V.int c) := fun o => by
    cases o with
    | none => rfl
    | some x => rfl
  have : ∀ L : Fnd, L.map lvV = (L.map (Option.map Prod.fst)).map (fun o => match o with | none => V.non | some c => V.int c) := fun L => by
    rw [List.map_map]
    exact List.map_congr_left fun o _ => e o
  rw [this F, this G, h]
theorem at_lv {F : Fnd} {a : Nat} (h : a < F.length) : atI (F.map lvV) (a : Int) = some (lvV (fd F a)) := by
  refine atI_nat ?_
  rw [List.getElem?_map, List.getElem?_eq_getElem h]
  unfold fd
  rw [List.getD_eq_getElem?_getD, List.getElem?_eq_getElem h]
  rfl
end FW

/-! Ways: what the laws see of them. -/
namespace FW
open PySem PySem.Spec PyProof.Rows L2
/-- the zones that are told off along a way -/
def tell (zones : List Int) : List Nat → Int
  | [] => 0
  | [_] => 1
  | u :: g :: r => tell zones (g :: r) + wt zones u g
theorem fwd_lv {zones : List Int} {links : List (Nat × Nat)} {start : Nat} {F : Fnd} (r : Rch zones links start F) : ∀ {row : List Nat} {u gl : Nat} {cu cg : Int} {pu pg : Nat}, Fwd F (u :: row) → (∀ o ∈ row, o ≠ start) → fd F u = some (cu, pu) → (u :: row).getLast? = some gl → fd F gl = some (cg, pg) → cu + tell zones (u :: row) = cg + 1
  | [], u, gl, cu, cg, pu, pg, _, _, h1, h2, h3 => by
    have e : u = gl := by simpa using h2
    subst e
    rw [h1] at h3
    cases h3
    rfl
  | g :: row, u, gl, cu, cg, pu, pg, fw, ns, h1, h2, h3 => by
    obtain ⟨⟨c, hc⟩, fw2⟩ := fw
    obtain ⟨rk, _, tr⟩ := r.tree
    obtain ⟨cu', pu', g1, g2, g3, _⟩ := tr g c u hc (ns g List.mem_cons_self)
    rw [h1] at g1
    cases g1
    have ih := fwd_lv r (row := row) (u := g) (gl := gl) fw2 (fun o m => ns o (List.mem_cons_of_mem _ m)) hc (by rw [← h2, List.getLast?_cons_cons]) h3
    show cu + (tell zones (g :: row) + wt zones u g) = cg + 1
    omega
/-- which stops have a way goes both ways -/
theorem Rch.back {zones : List Int} {links : List (Nat × Nat)} {start g : Nat} {F G : Fnd} (r : Rch zones links start F) (r2 : Rch zones links g G) (hg : fd F g ≠ none) : fd G start ≠ none := by
  obtain ⟨rk, _, tr⟩ := r.tree
  have : ∀ n v, rk v ≤ n → fd F v ≠ none → fd G v ≠ none → fd G start ≠ none := by
    intro n
    induction n with
    | zero =>
      intro v hn hv hG
      cases e : fd F v with
      | none => exact absurd e hv
      | some x =>
        by_cases c : v = start
        · rw [← c]; exact hG
        · obtain ⟨cu, pu, _, _, _, h⟩ := tr v x.1 x.2 e c
          omega
    | succ n ih =>
      intro v hn hv hG
      cases e : fd F v with
      | none => exact absurd e hv
      | some x =>
        by_cases c : v = start
        · rw [← c]; exact hG
        · obtain ⟨cu, pu, h1, h2, _, h⟩ := tr v x.1 x.2 e c
          refine ih x.2 (by omega) (by rw [h1]; intro z; cases z) ?_
          cases eG : fd G v with
          | none => exact absurd eG hG
          | some y =>
            obtain ⟨lb, pb, h3, _⟩ := r2.kept v y.1 y.2 x.2 eG h2.symm
            rw [h3]
            intro z; cases z
  exact this _ g (Nat.le_refl _) hg (by rw [r2.st]; intro z; cases z)
theorem lv_eq {zones : List Int} {links : List (Nat × Nat)} {start : Nat} {F G : Fnd} (hF : Rch zones links start F) (hG : Rch zones links start G) (v : Nat) : lvV (fd F v) = lvV (fd G v) := by
  cases a : fd F v with
  | none =>
    cases b : fd G v with
    | none => rfl
    | some x =>
      obtain ⟨d, y, g, _⟩ := hG.le hF v x.1 x.2 b
      rw [a] at g
      cases g
  | some x =>
    obtain ⟨d, y, g, h3⟩ := hF.le hG v x.1 x.2 a
    obtain ⟨d2, y2, g2, h4⟩ := hG.le hF v d y g
    rw [a] at g2
    have e3 : x = (d2, y2) := Option.some.inj g2
    rw [g, e3]
    rw [e3] at h3
    have h3 : d ≤ d2 := h3
    have : d = d2 := by omega
    rw [this]
    rfl
theorem fwd_lk {zones : List Int} {links : List (Nat × Nat)} {start : Nat} {F : Fnd} (r : Rch zones links start F) : ∀ {row : List Nat} {i u g : Nat}, Fwd F row → (∀ o ∈ row.tail, o ≠ start) → row[i]? = some u → row[i + 1]? = some g → Lk links u g
  | [], _, _, _, fw, _, h1, _ => by cases h1
  | [_], _, _, _, _, _, _, h2 => by simp at h2
  | a :: b :: l, 0, u, g, fw, ns, h1, h2 => by
    have e1 : a = u := Option.some.inj h1
    have e2 : b = g := Option.some.inj h2
    subst e1 e2
    obtain ⟨⟨c, hc⟩, _⟩ := fw
    obtain ⟨rk, _, tr⟩ := r.tree
    obtain ⟨_, _, _, g2, _⟩ := tr b c a hc (ns b List.mem_cons_self)
    exact g2
  | a :: b :: l, i + 1, u, g, fw, ns, h1, h2 => fwd_lk r (row := b :: l) (i := i) fw.2 (fun o m => ns o (List.mem_cons_of_mem _ m)) h1 h2
theorem tell_take {zones : List Int} : ∀ {row : List Nat} {i u g : Nat}, row[i]? = some u → row[i + 1]? = some g → tell zones (row.take (i + 2)) = tell zones (row.take (i + 1)) + wt zones u g
  | [], _, _, _, h, _ => by cases h
  | [_], _, _, _, _, h => by simp at h
  | a :: b :: l, 0, u, g, h1, h2 => by
    have e1 : a = u := Option.some.inj h1
    have e2 : b = g := Option.some.inj h2
    subst e1 e2
    rfl
  | a :: b :: l, i + 1, u, g, h1, h2 => by
    have ih := tell_take (zones := zones) (row := b :: l) (i := i) h1 h2
    show tell zones (b :: l.take (i + 1)) + wt zones a b = tell zones (b :: l.take i) + wt zones a b + wt zones u g
    have e1 : (b :: l).take (i + 2) = b :: l.take (i + 1) := rfl
    have e2 : (b :: l).take (i + 1) = b :: l.take i := rfl
    rw [e1, e2] at ih
    omega
theorem fwd_lt {zones : List Int} {links : List (Nat × Nat)} {start : Nat} {F : Fnd} (r : Rch zones links start F) (W : WebOk zones links) : ∀ {row : List Nat} {o : Nat}, Fwd F row → (∀ o ∈ row.tail, o ≠ start) → row.head? = some start → start < zones.length → o ∈ row → o < zones.length := by
  have tail : ∀ {row : List Nat} {a o : Nat}, Fwd F (a :: row) → (∀ o ∈ row, o ≠ start) → o ∈ row → o < zones.length := by
    intro row
    induction row with
    | nil => intro a o _ _ m; cases m
    | cons b l ih =>
      intro a o fw ns m
      rcases List.mem_cons.mp m with e | m
      · obtain ⟨⟨c, hc⟩, _⟩ := fw
        obtain ⟨rk, _, tr⟩ := r.tree
        obtain ⟨_, _, _, g2, _⟩ := tr b c a hc (ns b List.mem_cons_self)
        rw [e]
        exact (W.lk g2).2.1
      · exact ih fw.2 (fun o m => ns o (List.mem_cons_of_mem _ m)) m
  intro row o fw ns hd hs m
  cases row with
  | nil => cases m
  | cons a l =>
    rcases List.mem_cons.mp m with e | m
    · have : a = start := Option.some.inj hd
      rw [e, this]
      exact hs
    · exact tail fw ns m
theorem at_lastW {xs : List V} {y : V} : atI (xs ++ [y]) (-(1 : Int)) = some y := by
  unfold atI
  have e : ixN (xs ++ [y]).length (-(1 : Int)) = some xs.length := by
    unfold ixN
    rw [List.length_append, List.length_singleton]
    by_cases c : (0 : Int) ≤ -1
    · omega
    · rw [if_neg c, if_pos (by omega)]
      exact congrArg some (by omega)
  rw [e]
  show (xs ++ [y])[xs.length]? = some y
  rw [List.getElem?_append_right (Nat.le_refl _), Nat.sub_self]
  rfl
end FW

namespace FW
open PySem PySem.Spec PyProof.Rows L2
def sp_l_kept (K : PySem.W.Frag) (A : Ad) : Sp := fun vs H Q _ => ∃ (l z L : Addr) (lxs : List V) (F : Fnd) (zones : List Int) (links : List (Nat × Nat)) (start : Nat), vs = [.ref l, .ref z, .ref L, .int (start : Nat)] ∧ H l = some (.lst (F.map lvV)) ∧ SqL K H z (zones.map V.int) ∧ SqL K H L lxs ∧ PairL H lxs links ∧
  Rch zones links start F ∧ WebOk zones links ∧ start < zones.length ∧ Q (.bl true) H
def sp_l_zones_of (K : PySem.W.Frag) (A : Ad) : Sp := fun vs H Q _ => ∃ (R z L : Addr) (lxs : List V) (row : List Nat) (F : Fnd) (zones : List Int) (links : List (Nat × Nat)) (start g : Nat) (c : Int) (u : Nat), vs = [.ref R, .ref z, .ref L, .int (start : Nat), .int (g : Nat)] ∧ H R = some (.lst (row.map fun (o : Nat) => V.int (o : Nat))) ∧ SqL K H z (zones.map V.int) ∧ SqL K H L lxs ∧ PairL H lxs links ∧
  Rch zones links start F ∧ WebOk zones links ∧ start < zones.length ∧ Fwd F row ∧ (∀ o ∈ row.tail, o ≠ start) ∧ row.head? = some start ∧ row.getLast? = some g ∧ row.length ≤ 71 ∧ fd F g = some (c, u) ∧ ∀ H', Same H H' → Q (.int c) H'
end FW

/-! Tickets, as the laws look at them. -/
namespace FW
open PySem PySem.Spec PyProof.Rows L2
/-- a ticket as the document tells it -/
def TkOk (S D W : List Int) (days : List (List Int)) (t : Tk) : Prop := (∃ z, t = .wk z (pr W z) ∧ In5 z) ∨ (∃ (d : Nat) (z : Int), t = .dy d z (pr D z) ∧ d < days.length ∧ In5 z) ∨
    ∃ (d r : Nat) (z : Int) (rides : List Int), t = .sg d r z (pr S z) ∧ days[d]? = some rides ∧ r < rides.length ∧ In5 z
/-- does the ticket serve ride r of day d, of z zones -/
def serves (d r z : Int) : Tk → Bool
  | .wk y _ => decide (z ≤ y)
  | .dy e y _ => decide (z ≤ y) && decide (e = d)
  | .sg e q y _ => decide (z ≤ y) && (decide (e = d) && decide (q = r))
theorem WeekOk.serve {S D W : List Int} {days : List (List Int)} {ts : List Tk} (w : WeekOk S D W days ts) {d r : Nat} {rides : List Int} {z : Int} (h1 : days[d]? = some rides) (h2 : rides[r]? = some z) : ∃ t ∈ ts, serves d r z t = true := by
  rcases w.served d r rides z h1 h2 with ⟨y, h, e⟩ | ⟨y, h, e⟩ | ⟨y, h, e⟩
  · exact ⟨_, h, decide_eq_true e⟩
  · exact ⟨_, h, by simp [serves, e]⟩
  · exact ⟨_, h, by simp [serves, e]⟩
def sp_l_serves (K : PySem.W.Frag) (A : Ad) : Sp := fun vs H Q _ => ∃ (q : Addr) (t : Tk) (d r z : Int), vs = [.ref q, .int d, .int r, .int z] ∧ H q = some (.tup t.vals) ∧ Q (.bl (serves d r z t)) H
def sp_l_served (K : PySem.W.Frag) (A : Ad) : Sp := fun vs H Q _ => ∃ (l : Addr) (xs : List V) (ts : List Tk) (d r z : Int), vs = [.ref l, .int d, .int r, .int z] ∧ SqL K H l xs ∧ TkL H xs ts ∧ (∃ t ∈ ts, serves d r z t = true) ∧ Q (.bl true) H
theorem st_week : ¬ (V.str "day" = V.str "week") := fun z => by
  have : ¬ (("day" : Str) = "week") := by decide +kernel
  exact this (V.str.inj z)
theorem st_week2 : ¬ (V.str "single" = V.str "week") := fun z => by
  have : ¬ (("single" : Str) = "week") := by decide +kernel
  exact this (V.str.inj z)
theorem st_day : ¬ (V.str "single" = V.str "day") := fun z => by
  have : ¬ (("single" : Str) = "day") := by decide +kernel
  exact this (V.str.inj z)
theorem pr_nn {S : List Int} {z : Int} (h : Row5 S) : 0 ≤ pr S z := by
  unfold pr
  rw [List.getD_eq_getElem?_getD]
  cases e : S[(z - 1).toNat]? with
  | none => exact Int.le_refl _
  | some x => exact h.2 x (List.mem_of_getElem? e)
/-- t[1:] is not t -/
theorem cut1 {xs : List V} (h : 1 ≤ xs.length) (u : Option Int) : ¬ (HT.sIx xs.length 0 (some 1) = 0 ∧ HT.sIx xs.length xs.length u = xs.length) := by
  have e : HT.sIx xs.length 0 (some ((1 : Nat) : Int)) = min 1 xs.length := HT.sIx_nat xs.length 0 1
  intro z
  have e2 := e.symm.trans z.1
  omega
theorem cut_from {xs : List V} {z : Int} (h0 : 0 ≤ z) : cutV xs (some z) none = xs.drop z.toNat := by
  obtain ⟨n, rfl⟩ := Int.eq_ofNat_of_zero_le h0
  unfold cutV
  rw [HT.sIx_nat xs.length 0 n, HT.sIx_none]
  by_cases c : n ≤ xs.length
  · rw [Nat.min_eq_left c, Int.toNat_natCast]
    exact List.take_of_length_le (by rw [List.length_drop]; exact Nat.le_refl _)
  · rw [Nat.min_eq_right (by omega), List.drop_of_length_le (Nat.le_refl _), List.drop_of_length_le (by omega)]
    simp
end FW

/-! Slices of lists of whole numbers. -/
namespace FW
open PySem PySem.Spec PyProof.Rows L2
theorem cut_ints (xs : List Int) (lo hi : Option Int) : ∃ ys : List Int, cutV (xs.map V.int) lo hi = ys.map V.int ∧ ys.length ≤ xs.length := by
  unfold cutV
  refine ⟨(xs.drop (HT.sIx (xs.map V.int).length 0 lo)).take (HT.sIx (xs.map V.int).length (xs.map V.int).length hi - HT.sIx (xs.map V.int).length 0 lo), by rw [List.map_take, List.map_drop], ?_⟩
  rw [List.length_take, List.length_drop]
  omega
theorem cut_1 (xs : List V) : cutV xs (some 1) none = xs.drop 1 := by
  unfold cutV
  have e : HT.sIx xs.length 0 (some ((1 : Nat) : Int)) = min 1 xs.length := HT.sIx_nat xs.length 0 1
  have e : HT.sIx xs.length 0 (some 1) = min 1 xs.length := e
  rw [e, HT.sIx_none]
  cases xs with
  | nil => rfl
  | cons x r =>
    rw [List.length_cons, Nat.min_eq_left (by omega)]
    exact List.take_of_length_le (by rw [List.length_drop, List.length_cons]; exact Nat.le_refl _)
theorem cut_to1 (xs : List V) : cutV xs none (some 1) = xs.take 1 := by
  unfold cutV
  have e : HT.sIx xs.length xs.length (some ((1 : Nat) : Int)) = min 1 xs.length := HT.sIx_nat xs.length _ 1
  have e : HT.sIx xs.length xs.length (some 1) = min 1 xs.length := e
  rw [e, HT.sIx_none, List.drop_zero, Nat.sub_zero]
  cases xs with
  | nil => rfl
  | cons x r => rw [List.length_cons, Nat.min_eq_left (by omega)]
theorem cut_nat (xs : List Int) (a b : Nat) : ∃ ys : List Int, cutV (xs.map V.int) (some (a : Int)) (some (b : Int)) = ys.map V.int ∧ ys.length ≤ b - a := by
  unfold cutV
  rw [HT.sIx_nat, HT.sIx_nat]
  refine ⟨(xs.drop (min a (xs.map V.int).length)).take (min b (xs.map V.int).length - min a (xs.map V.int).length), by rw [List.map_take, List.map_drop], ?_⟩
  rw [List.length_take]
  omega
theorem cut_len (xs : List Int) (a b : Nat) (h : a ≤ b) : ∃ ys : List Int, cutV (xs.map V.int) (some (a : Int)) (some (b : Int)) = ys.map V.int ∧ ys.length = min b xs.length - min a xs.length := by
  unfold cutV
  rw [HT.sIx_nat, HT.sIx_nat]
  refine ⟨(xs.drop (min a (xs.map V.int).length)).take (min b (xs.map V.int).length - min a (xs.map V.int).length), by rw [List.map_take, List.map_drop], ?_⟩
  rw [List.length_take, List.length_drop, List.length_map]
  omega
end FW

namespace FW
open PySem PySem.Spec PyProof.Rows L2
theorem rgc2 {i j : Int} (h0 : 0 ≤ i) (h1 : i < 1000) (h2 : -1000 ≤ j) (h3 : j < 1000) : ∃ n : Nat, RgC i j 2 n ∧ (∀ k : Nat, k < n → i + (k : Int) * 2 < j) ∧ n ≤ j.toNat := by
  have two : (2 : Int) > 0 := by decide
  by_cases c : i < j
  · have e : Builtin.Range.rangeSize i j 2 = (j - i - 1) / 2 + 1 := by
      unfold Builtin.Range.rangeSize
      rw [if_pos two, if_pos c]
    refine ⟨((j - i - 1) / 2 + 1).toNat, ⟨by decide, by decide, ?_, by rw [e]; omega⟩, fun k hk => by omega, by omega⟩
    unfold Builtin.Range.small
    rw [e, if_pos two]
    simp only [Bool.and_eq_true, Bool.or_eq_true, Builtin.Range.rangeFitsLong, beq_iff_eq, decide_eq_true_eq]
    omega
  · have e : Builtin.Range.rangeSize i j 2 = 0 := by
      unfold Builtin.Range.rangeSize
      rw [if_pos two, if_neg c]
    refine ⟨0, ⟨by decide, by decide, ?_, by rw [e]; rfl⟩, fun k hk => by omega, by omega⟩
    unfold Builtin.Range.small
    rw [e, if_pos two]
    simp only [Bool.and_eq_true, Bool.or_eq_true, Builtin.Range.rangeFitsLong, beq_iff_eq, decide_eq_true_eq]
    omega
end FW

/-! What a first ride is charged. -/
namespace FW
open PySem PySem.Spec PyProof.Rows L2
theorem dayBest_nil (S D : List Int) (held : Int) : dayBest S D held [] = 0 := rfl
theorem week7 (S D W : List Int) (held z : Int) : ∀ i : Nat, i < 7 → weekCost S D W (([[], [], [], [], [], [], []] : List (List Int)).set i [z]) held = ownCost W held + dayBest S D held [z] := by
  intro i hi
  unfold weekCost
  match i, hi with
  | 0, _ | 1, _ | 2, _ | 3, _ | 4, _ | 5, _ | 6, _ =>
    simp only [List.set_cons_zero, List.set_cons_succ, List.map_cons, List.map_nil, List.sum_cons, List.sum_nil, dayBest_nil]
    omega
theorem flat7 (z : Int) : ∀ i : Nat, i < 7 → (([[], [], [], [], [], [], []] : List (List Int)).set i [z]).flatten = [z] := by
  intro i hi
  match i, hi with
  | 0, _ | 1, _ | 2, _ | 3, _ | 4, _ | 5, _ | 6, _ => rfl
theorem wk_one (r : Rd5) : ∃ i, i < 7 ∧ wkDays [r] (r.d / 7) = ([[], [], [], [], [], [], []] : List (List Int)).set i [r.z] := by
  refine ⟨(r.d - 7 * (r.d / 7)).toNat, by omega, ?_⟩
  have h := wk_more [] r
  rw [List.nil_append] at h
  rw [h]
  have e : wkDays [] (r.d / 7) = [[], [], [], [], [], [], []] := rfl
  rw [e]
  have hi : (r.d - 7 * (r.d / 7)).toNat < 7 := by omega
  generalize (r.d - 7 * (r.d / 7)).toNat = i at *
  match i, hi with
  | 0, _ | 1, _ | 2, _ | 3, _ | 4, _ | 5, _ | 6, _ => rfl
theorem sgSum_one {S : List Int} {m z : Int} : sgSum S m [z] = if m < z then low S z else 0 := by
  unfold sgSum
  by_cases c : m < z
  · rw [if_pos c, List.filter_cons_of_pos (by exact decide_eq_true c)]
    simp
  · rw [if_neg c, List.filter_cons_of_neg (by simpa using c)]
    simp
theorem weekBest_one {S D W : List Int} {r : Rd5} (hD : Row5 D) (h : In5 r.z) : weekBest S D W (wkDays [r] (r.d / 7)) = min (low S r.z) (min (low D r.z) (low W r.z)) := by
  obtain ⟨i, hi, e⟩ := wk_one r
  unfold weekBest
  rw [e, flat7 _ i hi]
  show min (weekCost S D W _ 0) (weekCost S D W _ r.z) = _
  rw [week7 _ _ _ _ _ i hi, week7 _ _ _ _ _ i hi]
  have b : ∀ held, dayBest S D held [r.z] = min (dayCost S D held [r.z] 0) (dayCost S D held [r.z] r.z) := fun _ => rfl
  have h1 := h.1
  have nn := low_nn (z := r.z) hD.2
  rw [b, b]
  unfold dayCost ownCost
  rw [sgSum_one, sgSum_one, sgSum_one, sgSum_one]
  rw [if_neg (Int.lt_irrefl 0), if_pos (show (0 : Int) < r.z by omega), if_pos (show max (0 : Int) 0 < r.z by omega), if_neg (show ¬ max (0 : Int) r.z < r.z by omega), if_neg (show ¬ max r.z 0 < r.z by omega), if_neg (show ¬ max r.z r.z < r.z by omega), if_pos (show (0 : Int) < r.z by omega)]
  omega
theorem chg_first {S D W : List Int} {day z : Int} (hD : Row5 D) (h : In5 z) : chg S D W [] day z = min (low S z) (min (low D z) (low W z)) := by
  unfold chg
  have := weekBest_one (S := S) (D := D) (W := W) (r := ⟨day, 0, 0, z, 0⟩) hD h
  rw [List.nil_append]
  have this : weekBest S D W (wkDays [⟨day, 0, 0, z, 0⟩] (day / 7)) = min (low S z) (min (low D z) (low W z)) := this
  rw [this]
  show _ - 0 = _
  omega
end FW

/-! Many rides of a card: what they are charged together. -/
namespace FW
open PySem PySem.Spec PyProof.Rows L2
/-- the zones of the rides of one day -/
def zOn (rs : List Rd5) (d : Int) : List Int := (rs.filter fun r => decide (r.d = d)).map Rd5.z
theorem wkDays_zOn (rs : List Rd5) (w : Int) : wkDays rs w = (List.range 7).map fun (k : Nat) => zOn rs (7 * w + (k : Int)) := rfl
theorem zOn_snoc (rs : List Rd5) (r : Rd5) (d : Int) : zOn (rs ++ [r]) d = zOn rs d ++ if r.d = d then [r.z] else [] := by
  unfold zOn
  rw [List.filter_append, List.map_append]
  by_cases c : r.d = d
  · rw [if_pos c, List.filter_cons_of_pos (by exact decide_eq_true c)]
    rfl
  · rw [if_neg c, List.filter_cons_of_neg (by simpa using c)]
    rfl
theorem wkDays_congr {rs rs' : List Rd5} {w : Int} (h : ∀ d, d / 7 = w → zOn rs d = zOn rs' d) : wkDays rs w = wkDays rs' w := by
  rw [wkDays_zOn, wkDays_zOn]
  refine List.map_congr_left fun k hk => h _ ?_
  have := List.mem_range.mp hk
  omega
theorem wkSum_snoc (rs : List Rd5) (r : Rd5) (w : Int) : wkSum (rs ++ [r]) w = wkSum rs w + if r.d / 7 = w then r.c else 0 := by
  unfold wkSum
  rw [List.filter_append, List.map_append, List.sum_append]
  by_cases c : r.d / 7 = w
  · rw [if_pos c, List.filter_cons_of_pos (by exact decide_eq_true c)]
    simp
  · rw [if_neg c, List.filter_cons_of_neg (by simpa using c)]
    simp
theorem dySum_snoc (rs : List Rd5) (r : Rd5) (d : Int) : dySum (rs ++ [r]) d = dySum rs d + if r.d = d then r.c else 0 := by
  unfold dySum
  rw [List.filter_append, List.map_append, List.sum_append]
  by_cases c : r.d = d
  · rw [if_pos c, List.filter_cons_of_pos (by exact decide_eq_true c)]
    simp
  · rw [if_neg c, List.filter_cons_of_neg (by simpa using c)]
    simp
theorem pdSum_snoc (rs : List Rd5) (r : Rd5) : pdSum (rs ++ [r]) = pdSum rs + r.c := by
  unfold pdSum
  rw [List.map_append, List.sum_append]
  simp
/-! ### one ride more -/
theorem sgSum_app (S : List Int) (m : Int) (a b : List Int) : sgSum S m (a ++ b) = sgSum S m a + sgSum S m b := by
  unfold sgSum
  rw [List.filter_append, List.map_append, List.sum_append]
theorem dayBest_at {S D : List Int} {held : Int} {rides : List Int} (h5 : ∀ z ∈ rides, In5 z) : ∃ own, 0 ≤ own ∧ own ≤ 5 ∧ dayBest S D held rides = dayCost S D held rides own := by
  unfold dayBest
  obtain ⟨k, hk, e⟩ := List.mem_map.mp (lowL_mem (l := (0 :: rides).map (dayCost S D held rides)) (by simp))
  refine ⟨k, ?_, ?_, e.symm⟩
  · rcases List.mem_cons.mp hk with g | g
    · omega
    · have := (h5 k g).1; omega
  · rcases List.mem_cons.mp hk with g | g
    · omega
    · exact (h5 k g).2
theorem weekBest_at {S D W : List Int} {days : List (List Int)} (h5 : ∀ r ∈ days, ∀ z ∈ r, In5 z) : ∃ held, 0 ≤ held ∧ held ≤ 5 ∧ weekBest S D W days = weekCost S D W days held := by
  unfold weekBest
  obtain ⟨k, hk, e⟩ := List.mem_map.mp (lowL_mem (l := (0 :: days.flatten).map (weekCost S D W days)) (by simp))
  have f5 : ∀ z ∈ days.flatten, In5 z := fun z hz => by
    obtain ⟨r, hr, hz⟩ := List.mem_flatten.mp hz
    exact h5 r hr z hz
  refine ⟨k, ?_, ?_, e.symm⟩
  · rcases List.mem_cons.mp hk with g | g
    · omega
    · have := (f5 k g).1; omega
  · rcases List.mem_cons.mp hk with g | g
    · omega
    · exact (f5 k g).2
theorem all5_snoc {rides : List Int} {z : Int} (h5 : ∀ z ∈ rides, In5 z) (hz : In5 z) : ∀ y ∈ rides ++ [z], In5 y := fun y hy => by
  rcases List.mem_append.mp hy with g | g
  · exact h5 y g
  · rw [List.mem_singleton.mp g]; exact hz
theorem dayBest_snoc {S D : List Int} {held z : Int} {rides : List Int} (hS : Row5 S) (hD : Row5 D) (h5 : ∀ z ∈ rides, In5 z) (hz : In5 z) :
    dayBest S D held rides ≤ dayBest S D held (rides ++ [z]) ∧ dayBest S D held (rides ++ [z]) ≤ dayBest S D held rides + low S z := by
  have nn := low_nn (z := z) hS.2
  have step : ∀ own, dayCost S D held rides own ≤ dayCost S D held (rides ++ [z]) own ∧ dayCost S D held (rides ++ [z]) own ≤ dayCost S D held rides own + low S z := fun own => by
    unfold dayCost
    rw [sgSum_app, sgSum_one]
    split <;> omega
  constructor
  · obtain ⟨own, h0, h1, e⟩ := dayBest_at (S := S) (D := D) (held := held) (all5_snoc h5 hz)
    rw [e]
    have := dayBest_le (S := S) (held := held) (rides := rides) hD h0 h1
    have := (step own).1
    omega
  · obtain ⟨own, h0, h1, e⟩ := dayBest_at (S := S) (D := D) (held := held) h5
    rw [e]
    have := dayBest_le (S := S) (held := held) (rides := rides ++ [z]) hD h0 h1
    have := (step own).2
    omega
theorem sum_set {f : List Int → Int} {r' : List Int} : ∀ {days : List (List Int)} {i : Nat} {row : List Int}, days[i]? = some row → ((days.set i r').map f).sum + f row = (days.map f).sum + f r'
  | [], i, row, h => by simp at h
  | a :: l, 0, row, h => by
    have e : a = row := Option.some.inj h
    subst e
    rw [List.set_cons_zero, List.map_cons, List.map_cons, List.sum_cons, List.sum_cons]
    omega
  | a :: l, i + 1, row, h => by
    have ih := sum_set (f := f) (r' := r') (days := l) (i := i) (row := row) h
    rw [List.set_cons_succ, List.map_cons, List.map_cons, List.sum_cons, List.sum_cons]
    omega
theorem all5_set {days : List (List Int)} {i : Nat} {r' : List Int} (h5 : ∀ r ∈ days, ∀ z ∈ r, In5 z) (h : ∀ z ∈ r', In5 z) : ∀ r ∈ days.set i r', ∀ z ∈ r, In5 z := fun r hr z hz => by
  rcases List.mem_or_eq_of_mem_set hr with g | g
  · exact h5 r g z hz
  · rw [g] at hz; exact h z hz
theorem weekBest_snoc {S D W : List Int} {z : Int} {days : List (List Int)} {i : Nat} {row : List Int} (hS : Row5 S) (hD : Row5 D) (hW : Row5 W) (h5 : ∀ r ∈ days, ∀ z ∈ r, In5 z) (hz : In5 z) (h : days[i]? = some row) :
    weekBest S D W days ≤ weekBest S D W (days.set i (row ++ [z])) ∧ weekBest S D W (days.set i (row ++ [z])) ≤ weekBest S D W days + low S z := by
  have r5 := h5 row (List.mem_of_getElem? h)
  have n5 := all5_set (i := i) h5 (all5_snoc r5 hz)
  have step : ∀ held, weekCost S D W days held ≤ weekCost S D W (days.set i (row ++ [z])) held ∧ weekCost S D W (days.set i (row ++ [z])) held ≤ weekCost S D W days held + low S z := fun held => by
    have e := sum_set (f := dayBest S D held) (r' := row ++ [z]) h
    obtain ⟨g1, g2⟩ := dayBest_snoc (held := held) hS hD r5 hz
    unfold weekCost
    constructor <;> omega
  constructor
  · obtain ⟨held, h0, h1, e⟩ := weekBest_at (S := S) (D := D) (W := W) n5
    rw [e]
    have := weekBest_le (S := S) (D := D) (days := days) hW h0 h1
    have := (step held).1
    omega
  · obtain ⟨held, h0, h1, e⟩ := weekBest_at (S := S) (D := D) (W := W) h5
    rw [e]
    have := weekBest_le (S := S) (D := D) (days := days.set i (row ++ [z])) hW h0 h1
    have := (step held).2
    omega
/-! ### caps -/
theorem sgSum_zero {S : List Int} {m : Int} {rides : List Int} (h : ∀ z ∈ rides, z ≤ m) : sgSum S m rides = 0 := by
  unfold sgSum
  have e : rides.filter (fun z => decide (m < z)) = [] := List.filter_eq_nil_iff.mpr fun z hz => by
    have := h z hz
    simp only [decide_eq_true_eq]
    omega
  rw [e]
  rfl
theorem dayBest_held {S D : List Int} {held : Int} {rides : List Int} (hD : Row5 D) (h : ∀ z ∈ rides, z ≤ held) : dayBest S D held rides ≤ 0 := by
  have h1 := dayBest_le (S := S) (held := held) (rides := rides) hD (Int.le_refl 0) (by decide)
  unfold dayCost ownCost at h1
  rw [if_neg (Int.lt_irrefl 0), sgSum_zero (fun z hz => by have := h z hz; omega)] at h1
  omega
theorem sum_np : ∀ {l : List Int}, (∀ x ∈ l, x ≤ 0) → l.sum ≤ 0
  | [], _ => Int.le_refl _
  | a :: r, h => by
    rw [List.sum_cons]
    have h1 := h a List.mem_cons_self
    have h2 := sum_np (l := r) fun x hx => h x (List.mem_cons_of_mem _ hx)
    omega
theorem week_cap {S D W : List Int} {m : Int} {days : List (List Int)} (hD : Row5 D) (hW : Row5 W) (hm : In5 m) (h : ∀ r ∈ days, ∀ z ∈ r, z ≤ m) : weekBest S D W days ≤ low W m := by
  have h1 := weekBest_le (S := S) (D := D) (days := days) hW (show (0 : Int) ≤ m by have := hm.1; omega) hm.2
  unfold weekCost ownCost at h1
  rw [if_pos (by have := hm.1; omega)] at h1
  have h2 : (days.map (dayBest S D m)).sum ≤ 0 := sum_np fun x hx => by
    obtain ⟨r, hr, rfl⟩ := List.mem_map.mp hx
    exact dayBest_held hD (h r hr)
  omega
theorem day_cap {S D W : List Int} {m : Int} {days : List (List Int)} {i : Nat} {row : List Int} (hD : Row5 D) (hW : Row5 W) (hm : In5 m) (h5 : ∀ r ∈ days, ∀ z ∈ r, In5 z) (h : days[i]? = some []) (hr : ∀ z ∈ row, z ≤ m) :
    weekBest S D W (days.set i row) ≤ weekBest S D W days + low D m := by
  obtain ⟨held, h0, h1, e⟩ := weekBest_at (S := S) (D := D) (W := W) h5
  rw [e]
  have g := weekBest_le (S := S) (D := D) (days := days.set i row) hW h0 h1
  have e2 := sum_set (f := dayBest S D held) (r' := row) h
  rw [dayBest_nil] at e2
  have m0 : (0 : Int) ≤ m := by have := hm.1; omega
  have g2 := dayBest_le (S := S) (held := held) (rides := row) hD m0 hm.2
  unfold dayCost ownCost at g2
  rw [if_pos (by have := hm.1; omega), sgSum_zero (fun z hz => by have := hr z hz; omega)] at g2
  unfold weekCost at g ⊢
  omega
/-! ### all rides of a card -/
structure Chd (S D W : List Int) (rs : List Rd5) : Prop where
  ok : ∀ r ∈ rs, In5 r.z
  wk : ∀ w, wkSum rs w = weekBest S D W (wkDays rs w)
  last : ∀ r ∈ rs, ∀ l, rs.getLast? = some l → r.d ≤ l.d
  dy : ∀ d, dySum rs d = weekBest S D W (wkDays (rs.filter fun r => decide (r.d ≤ d)) (d / 7)) - weekBest S D W (wkDays (rs.filter fun r => decide (r.d < d)) (d / 7))
theorem Chd.nil (S D W : List Int) : Chd S D W [] := ⟨fun r hr => absurd hr (by simp), fun w => rfl, fun r hr => absurd hr (by simp), fun d => (Int.sub_self _).symm⟩
theorem Chd.upto {S D W : List Int} {rs : List Rd5} {day : Int} (c : Chd S D W rs) (h : ¬ Past rs day) : ∀ r ∈ rs, r.d ≤ day := fun r hr => by
  cases e : rs.getLast? with
  | none =>
    have := List.getLast?_eq_none_iff.mp e
    rw [this] at hr
    cases hr
  | some l =>
    have h1 := c.last r hr l e
    by_cases g : day < l.d
    · exact absurd (.inr ⟨l, e, g⟩) h
    · omega
theorem chg_eq (S D W : List Int) (rs : List Rd5) (r : Rd5) : chg S D W rs r.d r.z = weekBest S D W (wkDays (rs ++ [r]) (r.d / 7)) - wkSum rs (r.d / 7) := by
  unfold chg
  have e : wkDays (rs ++ [⟨r.d, 0, 0, r.z, 0⟩]) (r.d / 7) = wkDays (rs ++ [r]) (r.d / 7) := wkDays_congr fun d _ => by
    rw [zOn_snoc, zOn_snoc]
  rw [e]
theorem filter_all {α : Type} {p : α → Bool} {l : List α} (h : ∀ x ∈ l, p x = true) : l.filter p = l := List.filter_eq_self.mpr h
theorem Chd.snoc {S D W : List Int} {rs : List Rd5} {r : Rd5} (c : Chd S D W rs) (hp : ¬ Past rs r.d) (hz : In5 r.z) (hc : r.c = chg S D W rs r.d r.z) : Chd S D W (rs ++ [r]) := by
  have up := c.upto hp
  rw [chg_eq] at hc
  have fs : ∀ p : Rd5 → Bool, (rs ++ [r]).filter p = rs.filter p ++ if p r = true then [r] else [] := fun p => by
    rw [List.filter_append]
    by_cases g : p r = true
    · rw [if_pos g, List.filter_cons_of_pos g]; rfl
    · rw [if_neg g, List.filter_cons_of_neg g]; rfl
  refine ⟨fun x hx => ?_, fun w => ?_, fun x hx l hl => ?_, fun d => ?_⟩
  · rcases List.mem_append.mp hx with g | g
    · exact c.ok x g
    · rw [List.mem_singleton.mp g]; exact hz
  · rw [wkSum_snoc]
    by_cases e : r.d / 7 = w
    · rw [if_pos e, hc, e]
      omega
    · rw [if_neg e, c.wk w, Int.add_zero]
      congr 1
      refine wkDays_congr fun d hd => ?_
      rw [zOn_snoc, if_neg (fun z => e (by rw [z]; exact hd)), List.append_nil]
  · rw [List.getLast?_append, List.getLast?_singleton] at hl
    have e : r = l := Option.some.inj hl
    subst e
    rcases List.mem_append.mp hx with g | g
    · exact up x g
    · rw [List.mem_singleton.mp g]; exact Int.le_refl _
  · rw [dySum_snoc, fs, fs]
    by_cases e : r.d = d
    · subst e
      rw [if_pos rfl, if_pos (decide_eq_true (Int.le_refl _)), if_neg (by simp), List.append_nil, c.dy, hc, c.wk]
      rw [filter_all (l := rs) (p := fun x => decide (x.d ≤ r.d)) fun x hx => decide_eq_true (up x hx)]
      omega
    · rw [if_neg e, Int.add_zero, c.dy]
      by_cases g : r.d < d
      · rw [if_pos (decide_eq_true (by omega)), if_pos (decide_eq_true g)]
        have e1 := filter_all (l := rs) (p := fun x => decide (x.d ≤ d)) fun x hx => decide_eq_true (by have := up x hx; omega)
        have e2 := filter_all (l := rs) (p := fun x => decide (x.d < d)) fun x hx => decide_eq_true (by have := up x hx; omega)
        rw [e1, e2]
        omega
      · rw [if_neg (by simp only [decide_eq_true_eq]; omega), if_neg (by simp only [decide_eq_true_eq]; omega), List.append_nil, List.append_nil]
theorem Chd.weekCap {S D W : List Int} {rs : List Rd5} {w m : Int} (c : Chd S D W rs) (hD : Row5 D) (hW : Row5 W) (hm : In5 m) (h : ∀ r ∈ rs, r.d / 7 = w → r.z ≤ m) : wkSum rs w ≤ low W m := by
  rw [c.wk]
  refine week_cap hD hW hm fun row hr z hz => ?_
  rw [wkDays_zOn] at hr
  obtain ⟨k, hk, rfl⟩ := List.mem_map.mp hr
  obtain ⟨r, hr, rfl⟩ := List.mem_map.mp hz
  obtain ⟨h1, h2⟩ := List.mem_filter.mp hr
  have h2 : r.d = 7 * w + (k : Int) := of_decide_eq_true h2
  have := List.mem_range.mp hk
  exact h r h1 (by omega)
theorem Chd.dayCap {S D W : List Int} {rs : List Rd5} {d m : Int} (c : Chd S D W rs) (hD : Row5 D) (hW : Row5 W) (hm : In5 m) (h : ∀ r ∈ rs, r.d = d → r.z ≤ m) : dySum rs d ≤ low D m := by
  rw [c.dy]
  have z1 : ∀ k, zOn (rs.filter fun r => decide (r.d ≤ d)) k = if k = d then zOn rs d else zOn (rs.filter fun r => decide (r.d < d)) k := fun k => by
    unfold zOn
    rw [List.filter_filter, List.filter_filter]
    by_cases e : k = d
    · rw [if_pos e, e]
      congr 1
      refine List.filter_congr fun r _ => ?_
      by_cases g : r.d = d
      · rw [decide_eq_true g, decide_eq_true (by omega)]; rfl
      · rw [decide_eq_false g]; rfl
    · rw [if_neg e]
      congr 1
      refine List.filter_congr fun r _ => ?_
      by_cases g : r.d = k
      · rw [decide_eq_true g]
        by_cases g2 : r.d < d
        · rw [decide_eq_true g2, decide_eq_true (by omega)]
        · rw [decide_eq_false g2, decide_eq_false (by omega)]
      · rw [decide_eq_false g]; rfl
  have z2 : zOn (rs.filter fun r => decide (r.d < d)) d = [] := by
    unfold zOn
    rw [List.filter_filter, List.filter_eq_nil_iff.mpr fun r _ => by simp only [Bool.and_eq_true, decide_eq_true_eq]; omega]
    rfl
  have hi : (d - 7 * (d / 7)).toNat < 7 := by omega
  have ed : 7 * (d / 7) + (((d - 7 * (d / 7)).toNat : Nat) : Int) = d := by omega
  have e : wkDays (rs.filter fun r => decide (r.d ≤ d)) (d / 7) = (wkDays (rs.filter fun r => decide (r.d < d)) (d / 7)).set (d - 7 * (d / 7)).toNat (zOn rs d) := by
    refine List.ext_getElem? fun j => ?_
    rw [wkDays_zOn, wkDays_zOn]
    by_cases hj : j < 7
    · rw [List.getElem?_map, List.getElem?_range hj, List.getElem?_set]
      show some (zOn (rs.filter fun r => decide (r.d ≤ d)) (7 * (d / 7) + (j : Int))) = _
      rw [z1]
      by_cases g : (d - 7 * (d / 7)).toNat = j
      · rw [if_pos g, if_pos (by omega), if_pos (by rw [List.length_map, List.length_range]; exact hi)]
      · rw [if_neg g, if_neg (by omega), List.getElem?_map, List.getElem?_range hj]
        rfl
    · rw [List.getElem?_eq_none (by rw [List.length_map, List.length_range]; omega), List.getElem?_eq_none (by rw [List.length_set, List.length_map, List.length_range]; omega)]
  rw [e]
  have g0 : (wkDays (rs.filter fun r => decide (r.d < d)) (d / 7))[(d - 7 * (d / 7)).toNat]? = some [] := by
    rw [wkDays_zOn, List.getElem?_map, List.getElem?_range hi]
    show some (zOn (rs.filter fun r => decide (r.d < d)) (7 * (d / 7) + (((d - 7 * (d / 7)).toNat : Nat) : Int))) = _
    rw [ed, z2]
  have := day_cap (S := S) (D := D) (W := W) (row := zOn rs d) hD hW hm (wk_all5 fun r hr => c.ok r (List.mem_filter.mp hr).1) g0 fun z hz => by
    obtain ⟨r, hr, rfl⟩ := List.mem_map.mp hz
    obtain ⟨h1, h2⟩ := List.mem_filter.mp hr
    exact h r h1 (of_decide_eq_true h2)
  omega
theorem Chd.chg_bounds {S D W : List Int} {rs : List Rd5} {day z : Int} (c : Chd S D W rs) (hS : Row5 S) (hD : Row5 D) (hW : Row5 W) (hz : In5 z) : 0 ≤ chg S D W rs day z ∧ chg S D W rs day z ≤ low S z := by
  unfold chg
  have h := wk_more rs ⟨day, 0, 0, z, 0⟩
  have h : wkDays (rs ++ [⟨day, 0, 0, z, 0⟩]) (day / 7) = (wkDays rs (day / 7)).set (day - 7 * (day / 7)).toNat ((wkDays rs (day / 7)).getD (day - 7 * (day / 7)).toNat [] ++ [z]) := h
  rw [h, c.wk]
  have wl := wk_len rs (day / 7)
  have hi : (day - 7 * (day / 7)).toNat < (wkDays rs (day / 7)).length := by omega
  have g := weekBest_snoc (i := (day - 7 * (day / 7)).toNat) hS hD hW (wk_all5 (w := day / 7) c.ok) hz (List.getElem?_eq_getElem hi)
  rw [List.getD_eq_getElem?_getD, List.getElem?_eq_getElem hi]
  have e : (some (wkDays rs (day / 7))[(day - 7 * (day / 7)).toNat] : Option (List Int)).getD [] = (wkDays rs (day / 7))[(day - 7 * (day / 7)).toNat] := rfl
  rw [e]
  omega
end FW

namespace FW
open PySem PySem.Spec PyProof.Rows L2
/-- the k-th of the links; between any two stops but the same -/
def sp_l_links_by (K : PySem.W.Frag) (A : Ad) : Sp := fun vs H Q _ => ∃ (a : Addr) (ns : List Int) (n s : Nat), vs = [.ref a, .int (n : Nat), .int (s : Nat)] ∧ SqL K H a (ns.map V.int) ∧ ns.length ≤ 63 ∧ 1 ≤ n ∧ n ≤ 9 ∧ s ≤ 9 ∧
  ∀ (l : Addr) (xs : List V) (ps : List (Nat × Nat)) (H' : Hp), LOk n ps → ps.length ≤ 100 → Same H H' → H l = none → H' l = some (.lst xs) → PairL H' xs ps → Q (.ref l) H'
def sp_l_ridden (K : PySem.W.Frag) (A : Ad) : Sp := fun vs H Q _ => ∃ (p C : Addr) (m : Nat) (L : LdS) (card : Str) (day z g : Int), vs = [.ref p, .str card, .int day, .int z, .int g] ∧ LedAt A H p C m L ∧ m < 100 ∧ InR L.zones z ∧ InR L.zones g ∧ ¬ Past (L.cards card) day ∧
  ∀ F : Fnd, Rch L.zones L.links z.toNat F → (fd F g.toNat = none → ∀ H', Same H H' → Q .non H') ∧
    ∀ lv u, fd F g.toNat = some (lv, u) → ∀ H', LedAt A H' p C (m + 1) (L.put card ⟨day, z, g, min lv 5, chg L.S L.D L.W (L.cards card) day (min lv 5)⟩) → Same (del H C) (del H' C) →
      (∀ hs, Stands H hs → LedAt A (dels H hs) p C m L → LedAt A (dels H' hs) p C (m + 1) (L.put card ⟨day, z, g, min lv 5, chg L.S L.D L.W (L.cards card) day (min lv 5)⟩)) → Q (.int (chg L.S L.D L.W (L.cards card) day (min lv 5))) H'
/-- seven days' rides -/
def sp_l_cost (K : PySem.W.Frag) (A : Ad) : Sp := fun vs H Q _ => ∃ (l L R : Addr) (ps rs : List Addr) (S D W : List Int) (days : List (List Int)) (xs : List V) (ts : List Tk), vs = [.ref l, .ref L, .ref R] ∧ SqL K H l xs ∧ TkL H xs ts ∧ LLAt K H L ps days ∧ LLAt K H R rs [S, D, W] ∧ Row5 S ∧ Row5 D ∧ Row5 W ∧
  days.length = 7 ∧ (∀ r ∈ days, r.length ≤ 100) ∧ ts.length ≤ 30000 ∧ WeekOk S D W days ts ∧ ∀ H', Same H H' → Q (.int (tkCost ts)) H'
def sp_l_drawn (K : PySem.W.Frag) (A : Ad) : Sp := fun vs H Q _ => ∃ (n : Int) (L R : Addr) (ps rs : List Addr) (S D W : List Int) (days : List (List Int)), vs = [.int n, .ref R, .ref L] ∧ LLAt K H L ps days ∧ LLAt K H R rs [S, D, W] ∧ Row5 S ∧ Row5 D ∧ Row5 W ∧
  (∀ r ∈ days, ∀ z ∈ r, In5 z) ∧ days.length = 7 ∧ ∀ v : Int, weekBest S D W days ≤ v → Q (.int v) H
/-- a ride as the law tells it: day, zones, charge -/
abbrev ToldL (H : Hp) (xs : List V) (rs : List Rd5) : Prop := Paired (fun v r => ∃ q, v = V.ref q ∧ H q = some (.tup [.int r.d, .int r.z, .int r.c])) xs rs
def sp_l_weeks (K : PySem.W.Frag) (A : Ad) : Sp := fun vs H Q _ => ∃ (p C : Addr) (m : Nat) (L : LdS) (card : Str) (T R : Addr) (rws : List Addr) (n : Int) (xs : List V), vs = [.ref p, .str card, .ref T, .ref R, .int n] ∧ LedAt A H p C m L ∧ SqL K H T xs ∧ ToldL H xs (L.cards card) ∧
  (L.cards card).length ≤ 60 ∧ LLAt K H R rws [L.S, L.D, L.W] ∧ Row5 L.S ∧ Row5 L.D ∧ Row5 L.W ∧ Chd L.S L.D L.W (L.cards card) ∧ ∀ H', Same H H' → Q (.bl true) H'
/-- a ride that is to be ridden: the card, days on, two stops -/
structure Plan where
  c : Str
  st : Int
  s : Int
  g : Int
def Plan.vals (r : Plan) : List V := [.str r.c, .int r.st, .int r.s, .int r.g]
abbrev PlanL (H : Hp) (xs : List V) (rs : List Plan) : Prop := Paired (fun v r => ∃ q, v = V.ref q ∧ H q = some (.tup r.vals)) xs rs
def Plan.ok (n : Nat) (r : Plan) : Prop := (r.c = "one" ∨ r.c = "two") ∧ 0 ≤ r.st ∧ 0 ≤ r.s ∧ r.s < (n : Int) ∧ 0 ≤ r.g ∧ r.g < (n : Int)
def sp_l_rides (K : PySem.W.Frag) (A : Ad) : Sp := fun vs H Q _ => ∃ (a : Addr) (ns : List Int) (n s : Nat), vs = [.ref a, .int (n : Nat), .int (s : Nat)] ∧ SqL K H a (ns.map V.int) ∧ 1 ≤ n ∧ n ≤ 9 ∧ s ≤ 9 ∧
  ∀ (l : Addr) (xs : List V) (rs : List Plan) (H' : Hp), (∀ r ∈ rs, r.ok n) → rs.length ≤ 18 → Same H H' → H l = none → H' l = some (.lst xs) → PlanL H' xs rs → Q (.ref l) H'
def sp_l_stays (K : PySem.W.Frag) (A : Ad) : Sp := fun vs H Q _ => ∃ (p C : Addr) (m : Nat) (L : LdS), vs = [.ref p] ∧ LedAt A H p C m L ∧ ∀ H', Same H H' → Q (.bl true) H'
def sp_law (K : PySem.W.Frag) (A : Ad) : Sp := spLaw K
end FW

namespace FW
open PySem PySem.Spec PyProof.Rows L2
def N_l_cell_at : List Str := ["_law_script", "_law_k"]
def t_l_cell_at (K : PySem.W.Frag) (A : Ad) (E : XK) : TS :=
 tSeq (tIfS (tTest (tOp rLtI (tVar 1) (tCB (rLenS K) (tCons (tVar 0) (tNil))))) (tRet (tOp (rIxL K) (tVar 0) (tVar 1))) (tNext))
 (tRet (tC (.int 0)))
def N_l_whole : List Str := ["_law_found"]
def t_l_whole (K : PySem.W.Frag) (A : Ad) (E : XK) : TS :=
 tRet (tAndV (tIsi K (tVar 0) (.ty "int")) (tNotV (tIsi K (tVar 0) (.ty "bool"))))
def N_l_rows : List Str := ["_law_script", "_law_most", "_law_rows_here", "_law_sort", "_law_k"]
def t_l_rows (K : PySem.W.Frag) (A : Ad) (E : XK) : TS :=
 tSeq (tAsg (tOp (rIxL K) (tLst (tCons (tC (.int 1000)) (tCons (tC (.int 7)) (tCons (tC (.int 1000)) (tNil))))) (tOp rModI (tOp rDivI (tCall (sp_l_cell_at K A) [] E0 (tCons (tVar 0) (tCons (tC (.int 0)) (tNil)))) (tC (.int 180))) (tC (.int 3)))) (gName 1))
 (tSeq (tAsg (tLst (tNil)) (gName 2))
 (tSeq (tFor (iRng1 (tCons (tC (.int 3)) (tNil))) (gName 3) (tDrop (tBM K "list" rAppend (tVar 2) (tCons (tLc (iRng1 (tCons (tC (.int 5)) (tNil))) (gName 4) (tYes) (tOp rModI (tCall (sp_l_cell_at K A) [] E0 (tCons (tVar 0) (tCons (tOp rAdd (tOp rAdd (tC (.int 3)) (tOp rMulI (tC (.int 5)) (tVar 3))) (tVar 4)) (tNil)))) (tVar 1)) [4]) (tNil)))))
 (tRet (tVar 2))))
@[irreducible] def t_l_links_by_b1_s2 (K : PySem.W.Frag) (A : Ad) (E : XK) : TS :=
 tIfS (tTest (tOp rNe (tVar 5) (tVar 6))) (tDrop (tBM K "list" rAppend (tVar 3) (tCons (tTup (tCons (tVar 5) (tCons (tVar 6) (tNil)))) (tNil)))) (tNext)
@[irreducible] def t_l_links_by_b1_s1 (K : PySem.W.Frag) (A : Ad) (E : XK) : TS :=
 tSeq (tAsg (tOp rModI (tCall (sp_l_cell_at K A) [] E0 (tCons (tVar 0) (tCons (tOp rAdd (tVar 4) (tC (.int 1))) (tNil)))) (tVar 1)) (gName 6))
 (t_l_links_by_b1_s2 K A E)
@[irreducible] def t_l_links_by_b1 (K : PySem.W.Frag) (A : Ad) (E : XK) : TS :=
 tSeq (tAsg (tOp rModI (tCall (sp_l_cell_at K A) [] E0 (tCons (tVar 0) (tCons (tVar 4) (tNil)))) (tVar 1)) (gName 5))
 (t_l_links_by_b1_s1 K A E)
@[irreducible] def t_l_links_by_s3 (K : PySem.W.Frag) (A : Ad) (E : XK) : TS :=
 tRet (tVar 3)
@[irreducible] def t_l_links_by_s2 (K : PySem.W.Frag) (A : Ad) (E : XK) : TS :=
 tSeq (tIfS (tTest (tOp rEq (tOp rModI (tOp rDivI (tCall (sp_l_cell_at K A) [] E0 (tCons (tVar 0) (tCons (tC (.int 0)) (tNil)))) (tC (.int 90))) (tC (.int 2))) (tC (.int 0)))) (tFor (iRng1 (tCons (tOp rSub (tVar 1) (tC (.int 1))) (tNil))) (gName 4) (tDrop (tBM K "list" rAppend (tVar 3) (tCons (tTup (tCons (tVar 4) (tCons (tOp rAdd (tVar 4) (tC (.int 1))) (tNil)))) (tNil))))) (tNext))
 (t_l_links_by_s3 K A E)
@[irreducible] def t_l_links_by_s1 (K : PySem.W.Frag) (A : Ad) (E : XK) : TS :=
 tSeq (tFor (iRng3 (tCons (tC (.int 18)) (tCons (tOp rAdd (tC (.int 18)) (tOp rMulI (tC (.int 2)) (tVar 2))) (tCons (tC (.int 2)) (tNil))))) (gName 4) (t_l_links_by_b1 K A E))
 (t_l_links_by_s2 K A E)
def N_l_links_by : List Str := ["_law_script", "_law_many", "_law_size", "_law_links", "_law_k", "_law_one", "_law_other"]
def t_l_links_by (K : PySem.W.Frag) (A : Ad) (E : XK) : TS :=
 tSeq (tAsg (tLst (tNil)) (gName 3))
 (t_l_links_by_s1 K A E)
@[irreducible] def t_l_zones_of_b1_s1 (K : PySem.W.Frag) (A : Ad) (E : XK) : TS :=
 tAsg (tOp rAdd (tVar 5) (tCB rInt1 (tCons (tOp rNe (tOp (rIxL K) (tVar 1) (tOp (rIxL K) (tVar 0) (tOp rSub (tVar 6) (tC (.int 1))))) (tOp (rIxL K) (tVar 1) (tOp (rIxL K) (tVar 0) (tVar 6)))) (tNil)))) (gName 5)
@[irreducible] def t_l_zones_of_b1 (K : PySem.W.Frag) (A : Ad) (E : XK) : TS :=
 tSeq (tIfS (tAnd (tTest (tOp (rNotInH K) (tTup (tCons (tOp (rIxL K) (tVar 0) (tOp rSub (tVar 6) (tC (.int 1)))) (tCons (tOp (rIxL K) (tVar 0) (tVar 6)) (tNil)))) (tVar 2))) (tTest (tOp (rNotInH K) (tTup (tCons (tOp (rIxL K) (tVar 0) (tVar 6)) (tCons (tOp (rIxL K) (tVar 0) (tOp rSub (tVar 6) (tC (.int 1)))) (tNil)))) (tVar 2)))) (tRet (tUn rNeg (tC (.int 1)))) (tNext))
 (t_l_zones_of_b1_s1 K A E)
@[irreducible] def t_l_zones_of_s3 (K : PySem.W.Frag) (A : Ad) (E : XK) : TS :=
 tRet (tVar 5)
@[irreducible] def t_l_zones_of_s2 (K : PySem.W.Frag) (A : Ad) (E : XK) : TS :=
 tSeq (tFor (iRng2 (tCons (tC (.int 1)) (tCons (tCB (rLenS K) (tCons (tVar 0) (tNil))) (tNil)))) (gName 6) (t_l_zones_of_b1 K A E))
 (t_l_zones_of_s3 K A E)
@[irreducible] def t_l_zones_of_s1 (K : PySem.W.Frag) (A : Ad) (E : XK) : TS :=
 tSeq (tAsg (tC (.int 1)) (gName 5))
 (t_l_zones_of_s2 K A E)
def N_l_zones_of : List Str := ["_law_row", "_law_zones", "_law_links", "_law_start", "_law_goal", "_law_count", "_law_k"]
def t_l_zones_of (K : PySem.W.Frag) (A : Ad) (E : XK) : TS :=
 tSeq (tIfS (tOr (tNot (tB (tIsi K (tVar 0) (.ty "list")))) (tOr (tTest (tOp rEq (tCB (rLenS K) (tCons (tVar 0) (tNil))) (tC (.int 0)))) (tOr (tTest (tOp rNe (tOp (rIxL K) (tVar 0) (tC (.int 0))) (tVar 3))) (tTest (tOp rNe (tOp (rIxL K) (tVar 0) (tUn rNeg (tC (.int 1)))) (tVar 4)))))) (tRet (tUn rNeg (tC (.int 1)))) (tNext))
 (t_l_zones_of_s1 K A E)
@[irreducible] def t_l_kept_s2 (K : PySem.W.Frag) (A : Ad) (E : XK) : TS :=
 tRet (tC (.bl true))
@[irreducible] def t_l_kept_s1 (K : PySem.W.Frag) (A : Ad) (E : XK) : TS :=
 tSeq (tFor (iList K (tVar 2)) (gTup K 2 (gCons (gName 4) (gCons (gName 5) (gNil)))) (tIfS (tOr (tTest (tOp rIsN (tOp (rIxL K) (tVar 0) (tVar 4)) (tC .non))) (tTest (tOp rIsN (tOp (rIxL K) (tVar 0) (tVar 5)) (tC .non)))) (tIfS (tOr (tTest (tOp rNotN (tOp (rIxL K) (tVar 0) (tVar 4)) (tC .non))) (tTest (tOp rNotN (tOp (rIxL K) (tVar 0) (tVar 5)) (tC .non)))) (tRet (tC (.bl false))) (tNext)) (tIfS (tTest (tOp rGtI (tCB rAbs (tCons (tOp rSub (tOp (rIxL K) (tVar 0) (tVar 4)) (tOp (rIxL K) (tVar 0) (tVar 5))) (tNil))) (tCB rInt1 (tCons (tOp rNe (tOp (rIxL K) (tVar 1) (tVar 4)) (tOp (rIxL K) (tVar 1) (tVar 5))) (tNil))))) (tRet (tC (.bl false))) (tNext))))
 (t_l_kept_s2 K A E)
def N_l_kept : List Str := ["_law_found", "_law_zones", "_law_links", "_law_start", "_law_one", "_law_other"]
def t_l_kept (K : PySem.W.Frag) (A : Ad) (E : XK) : TS :=
 tSeq (tIfS (tOr (tNot (tB (tIsi K (tVar 0) (.ty "list")))) (tOr (tTest (tOp rNe (tCB (rLenS K) (tCons (tVar 0) (tNil))) (tCB (rLenS K) (tCons (tVar 1) (tNil))))) (tTest (tOp rNe (tOp (rIxL K) (tVar 0) (tVar 3)) (tC (.int 1)))))) (tRet (tC (.bl false))) (tNext))
 (t_l_kept_s1 K A E)
def N_l_ridden : List Str := ["_law_ledger", "_law_card", "_law_day", "_law_start", "_law_goal"]
def t_l_ridden (K : PySem.W.Frag) (A : Ad) (E : XK) : TS :=
 tTryOnly K (.ref A.c_NoWay) (fun W => tRet (tMethS A.c_Ledger "ride" (sp_Ledger_ride K A) (WE W) (tVar 0) (tCons (tVar 1) (tCons (tVar 2) (tCons (tVar 3) (tCons (tVar 4) (tNil))))))) (fun _ _ _ => tRet (tC .non))
def N_l_serves : List Str := ["_law_ticket", "_law_day", "_law_ride", "_law_zones"]
def t_l_serves (K : PySem.W.Frag) (A : Ad) (E : XK) : TS :=
 tSeq (tIfS (tTest (tOp rLtI (tOp (rIxT K) (tVar 0) (tUn rNeg (tC (.int 2)))) (tVar 3))) (tRet (tC (.bl false))) (tNext))
 (tSeq (tIfS (tTest (tOp rEq (tOp (rIxT K) (tVar 0) (tC (.int 0))) (tC (.str "week")))) (tRet (tC (.bl true))) (tNext))
 (tRet (tAndV (tOp rEq (tOp (rIxT K) (tVar 0) (tC (.int 1))) (tVar 1)) (tOrV (tOp rEq (tOp (rIxT K) (tVar 0) (tC (.int 0))) (tC (.str "day"))) (tOp rEq (tOp (rIxT K) (tVar 0) (tC (.int 2))) (tVar 2))))))
@[irreducible] def t_l_cost_b1_s4 (K : PySem.W.Frag) (A : Ad) (E : XK) : TS :=
 tAsg (tOp rAdd (tVar 3) (tOp (rIxT K) (tVar 4) (tUn rNeg (tC (.int 1))))) (gName 3)
@[irreducible] def t_l_cost_b1_s3 (K : PySem.W.Frag) (A : Ad) (E : XK) : TS :=
 tSeq (tIfS (tOr (tNot (tB (tCall (sp_l_whole K A) [] E0 (tCons (tOp (rIxT K) (tVar 4) (tUn rNeg (tC (.int 1)))) (tNil))))) (tTest (tOp rNe (tOp (rIxT K) (tVar 4) (tUn rNeg (tC (.int 1)))) (tOp (rIxL K) (tOp (rIxL K) (tVar 2) (tVar 5)) (tOp rSub (tOp (rIxT K) (tVar 4) (tUn rNeg (tC (.int 2)))) (tC (.int 1))))))) (tRet (tUn rNeg (tC (.int 1)))) (tNext))
 (t_l_cost_b1_s4 K A E)
@[irreducible] def t_l_cost_b1_s2 (K : PySem.W.Frag) (A : Ad) (E : XK) : TS :=
 tSeq (tIfS (tOr (tTest (tOp rNe (tOp (rIxT K) (tVar 4) (tC (.int 0))) (tOp (rIxL K) (tLst (tCons (tC (.str "single")) (tCons (tC (.str "day")) (tCons (tC (.str "week")) (tNil))))) (tVar 5)))) (tNot (tTest (tChain rLeI rLeI (tC (.int 1)) (tOp (rIxT K) (tVar 4) (tUn rNeg (tC (.int 2)))) (tC (.int 5)))))) (tRet (tUn rNeg (tC (.int 1)))) (tNext))
 (t_l_cost_b1_s3 K A E)
@[irreducible] def t_l_cost_b1_s1 (K : PySem.W.Frag) (A : Ad) (E : XK) : TS :=
 tSeq (tAsg (tOp rSub (tC (.int 5)) (tCB (rLenS K) (tCons (tVar 4) (tNil)))) (gName 5))
 (t_l_cost_b1_s2 K A E)
@[irreducible] def t_l_cost_b1 (K : PySem.W.Frag) (A : Ad) (E : XK) : TS :=
 tSeq (tIfS (tOr (tNot (tB (tIsi K (tVar 4) (.ty "tuple")))) (tNot (tTest (tChain rLeI rLeI (tC (.int 3)) (tCB (rLenS K) (tCons (tVar 4) (tNil))) (tC (.int 5)))))) (tRet (tUn rNeg (tC (.int 1)))) (tNext))
 (t_l_cost_b1_s1 K A E)
@[irreducible] def t_l_cost_s3 (K : PySem.W.Frag) (A : Ad) (E : XK) : TS :=
 tRet (tVar 3)
@[irreducible] def t_l_cost_s2 (K : PySem.W.Frag) (A : Ad) (E : XK) : TS :=
 tSeq (tFor (iRng1 (tCons (tC (.int 7)) (tNil))) (gName 6) (tFor (iRng1 (tCons (tCB (rLenS K) (tCons (tOp (rIxL K) (tVar 1) (tVar 6)) (tNil))) (tNil))) (gName 7) (tIfS (tTest (tOp (rIn K true) (tC (.bl true)) (tLc (iList K (tVar 0)) (gName 4) (tYes) (tCall (sp_l_serves K A) [] E0 (tCons (tVar 4) (tCons (tVar 6) (tCons (tVar 7) (tCons (tOp (rIxL K) (tOp (rIxL K) (tVar 1) (tVar 6)) (tVar 7)) (tNil)))))) [4]))) (tRet (tUn rNeg (tC (.int 1)))) (tNext))))
 (t_l_cost_s3 K A E)
@[irreducible] def t_l_cost_s1 (K : PySem.W.Frag) (A : Ad) (E : XK) : TS :=
 tSeq (tFor (iList K (tVar 0)) (gName 4) (t_l_cost_b1 K A E))
 (t_l_cost_s2 K A E)
def N_l_cost : List Str := ["_law_tickets", "_law_days", "_law_rows_here", "_law_cost_here", "_law_ticket", "_law_sort", "_law_day", "_law_ride"]
def t_l_cost (K : PySem.W.Frag) (A : Ad) (E : XK) : TS :=
 tSeq (tAsg (tC (.int 0)) (gName 3))
 (t_l_cost_s1 K A E)
@[irreducible] def t_l_drawn_b1_s3 (K : PySem.W.Frag) (A : Ad) (E : XK) : TS :=
 tFor (iList K (tVar 5)) (gName 7) (tIfS (tTest (tOp rGtI (tVar 7) (tCB rMax2 (tCons (tVar 3) (tCons (tVar 6) (tNil)))))) (tAsg (tOp rAdd (tVar 4) (tOp (rIxL K) (tOp (rIxL K) (tVar 1) (tC (.int 0))) (tOp rSub (tCB rMin2 (tCons (tC (.int 5)) (tCons (tOp rAdd (tVar 7) (tOp rModI (tOp rDivI (tVar 0) (tC (.int 6))) (tC (.int 2)))) (tNil)))) (tC (.int 1))))) (gName 4)) (tNext))
@[irreducible] def t_l_drawn_b1_s2 (K : PySem.W.Frag) (A : Ad) (E : XK) : TS :=
 tSeq (tIfS (tAnd (tTest (tOp rGtI (tVar 6) (tC (.int 0)))) (tTru K (tVar 5))) (tAsg (tOp rAdd (tVar 4) (tOp (rIxL K) (tOp (rIxL K) (tVar 1) (tC (.int 1))) (tOp rSub (tVar 6) (tC (.int 1))))) (gName 4)) (tNext))
 (t_l_drawn_b1_s3 K A E)
@[irreducible] def t_l_drawn_b1_s1 (K : PySem.W.Frag) (A : Ad) (E : XK) : TS :=
 tSeq (tAsg (tOp rModI (tVar 0) (tC (.int 6))) (gName 6))
 (t_l_drawn_b1_s2 K A E)
@[irreducible] def t_l_drawn_b1 (K : PySem.W.Frag) (A : Ad) (E : XK) : TS :=
 tSeq (tAsg (tOp rDivI (tVar 0) (tC (.int 6))) (gName 0))
 (t_l_drawn_b1_s1 K A E)
@[irreducible] def t_l_drawn_s4 (K : PySem.W.Frag) (A : Ad) (E : XK) : TS :=
 tRet (tVar 4)
@[irreducible] def t_l_drawn_s3 (K : PySem.W.Frag) (A : Ad) (E : XK) : TS :=
 tSeq (tFor (iList K (tVar 2)) (gName 5) (t_l_drawn_b1 K A E))
 (t_l_drawn_s4 K A E)
@[irreducible] def t_l_drawn_s2 (K : PySem.W.Frag) (A : Ad) (E : XK) : TS :=
 tSeq (tIfS (tTest (tOp rGtI (tVar 3) (tC (.int 0)))) (tAsg (tOp (rIxL K) (tOp (rIxL K) (tVar 1) (tC (.int 2))) (tOp rSub (tVar 3) (tC (.int 1)))) (gName 4)) (tNext))
 (t_l_drawn_s3 K A E)
@[irreducible] def t_l_drawn_s1 (K : PySem.W.Frag) (A : Ad) (E : XK) : TS :=
 tSeq (tAsg (tC (.int 0)) (gName 4))
 (t_l_drawn_s2 K A E)
def N_l_drawn : List Str := ["_law_number", "_law_rows_here", "_law_days", "_law_held", "_law_paid", "_law_day", "_law_own", "_law_zones"]
def t_l_drawn (K : PySem.W.Frag) (A : Ad) (E : XK) : TS :=
 tSeq (tAsg (tOp rModI (tVar 0) (tC (.int 6))) (gName 3))
 (t_l_drawn_s1 K A E)
@[irreducible] def t_l_weeks_b1_s6 (K : PySem.W.Frag) (A : Ad) (w : World) (E : XK) : TS :=
 tIfS (tTest (tOp rNe (tCall (sp_l_cost K A) [] E0 (tCons (tMeth A.c_Ledger "tickets" (sp_Ledger_tickets K A) [] E0 (tVar 0) (tCons (tVar 1) (tCons (tVar 5) (tNil)))) (tCons (tVar 6) (tCons (tVar 3) (tNil))))) (tVar 7))) (tRet (tC (.bl false))) (tNext)
@[irreducible] def t_l_weeks_b1_s5 (K : PySem.W.Frag) (A : Ad) (w : World) (E : XK) : TS :=
 tSeq (tDrop (tBM0 K "list" rClear (tVar 8)))
 (t_l_weeks_b1_s6 K A w E)
@[irreducible] def t_l_weeks_b1_s4 (K : PySem.W.Frag) (A : Ad) (w : World) (E : XK) : TS :=
 tSeq (tIfS (tOr (tTest (tOp rNe (tCall (sp_l_cost K A) [] E0 (tCons (tVar 8) (tCons (tVar 6) (tCons (tVar 3) (tNil))))) (tVar 7))) (tTest (tOp rGtI (tVar 7) (tCall (sp_l_drawn K A) [] E0 (tCons (tVar 4) (tCons (tVar 3) (tCons (tVar 6) (tNil)))))))) (tRet (tC (.bl false))) (tNext))
 (t_l_weeks_b1_s5 K A w E)
@[irreducible] def t_l_weeks_b1_s3 (K : PySem.W.Frag) (A : Ad) (w : World) (E : XK) : TS :=
 tSeq (tIfS (tOr (tNot (tB (tIsi K (tVar 8) (.ty "list")))) (tTest (tOp rNe (tMeth A.c_Ledger "week_sum" (sp_Ledger_week_sum K A) [] E0 (tVar 0) (tCons (tVar 1) (tCons (tVar 5) (tNil)))) (tVar 7)))) (tRet (tC (.bl false))) (tNext))
 (t_l_weeks_b1_s4 K A w E)
@[irreducible] def t_l_weeks_b1_s2 (K : PySem.W.Frag) (A : Ad) (w : World) (E : XK) : TS :=
 tSeq (tAsg (tMeth A.c_Ledger "tickets" (sp_Ledger_tickets K A) [] E0 (tVar 0) (tCons (tVar 1) (tCons (tVar 5) (tNil)))) (gName 8))
 (t_l_weeks_b1_s3 K A w E)
@[irreducible] def t_l_weeks_b1_s1 (K : PySem.W.Frag) (A : Ad) (w : World) (E : XK) : TS :=
 tSeq (tAsg (tCB (rSum K) (tCons (tLc (iList K (tVar 2)) (gName 9) (tTest (tOp rEq (tOp rDivI (tOp (rIxT K) (tVar 9) (tC (.int 0))) (tC (.int 7))) (tVar 5))) (tOp (rIxT K) (tVar 9) (tC (.int 2))) [9]) (tNil))) (gName 7))
 (t_l_weeks_b1_s2 K A w E)
@[irreducible] def t_l_weeks_b1 (K : PySem.W.Frag) (A : Ad) (w : World) (E : XK) : TS :=
 tSeq (tAsg (tLc (iRng1 (tCons (tC (.int 7)) (tNil))) (gName 10) (tYes) (tLc (iList K (tVar 2)) (gName 9) (tTest (tOp rEq (tOp (rIxT K) (tVar 9) (tC (.int 0))) (tOp rAdd (tOp rMulI (tC (.int 7)) (tVar 5)) (tVar 10)))) (tOp (rIxT K) (tVar 9) (tC (.int 1))) [9]) [10]) (gName 6))
 (t_l_weeks_b1_s1 K A w E)
@[irreducible] def t_l_weeks_s1 (K : PySem.W.Frag) (A : Ad) (w : World) (E : XK) : TS :=
 tRet (tC (.bl true))
def N_l_weeks : List Str := ["_law_ledger", "_law_card", "_law_told", "_law_rows_here", "_law_number", "_law_week", "_law_days", "_law_cost_here", "_law_tickets", "_law_ride", "_law_day"]
def t_l_weeks (K : PySem.W.Frag) (A : Ad) (w : World) (E : XK) : TS :=
 tSeq (tFor (iList K (tCB (rSortedSet w) (tCons (tCB (rSetI K w) (tCons (tOp rCat (tLc (iList K (tVar 2)) (gName 9) (tYes) (tOp rDivI (tOp (rIxT K) (tVar 9) (tC (.int 0))) (tC (.int 7))) [9]) (tLst (tCons (tC (.int 3)) (tNil)))) (tNil))) (tNil)))) (gName 5) (t_l_weeks_b1 K A w E))
 (t_l_weeks_s1 K A w E)
@[irreducible] def t_l_rides_b1_s1 (K : PySem.W.Frag) (A : Ad) (E : XK) : TS :=
 tDrop (tBM K "list" rAppend (tVar 3) (tCons (tTup (tCons (tC (.str "one")) (tCons (tCB rInt1 (tCons (tOp rEq (tOp rModI (tVar 4) (tC (.int 3))) (tC (.int 2))) (tNil))) (tCons (tOp rModI (tVar 5) (tVar 1)) (tCons (tOp rModI (tOp rDivI (tVar 5) (tVar 1)) (tVar 1)) (tNil)))))) (tNil)))
@[irreducible] def t_l_rides_b1 (K : PySem.W.Frag) (A : Ad) (E : XK) : TS :=
 tSeq (tAsg (tOp rModI (tOp rMulI (tOp rAdd (tOp rAdd (tCall (sp_l_cell_at K A) [] E0 (tCons (tVar 0) (tCons (tC (.int 1)) (tNil)))) (tCall (sp_l_cell_at K A) [] E0 (tCons (tVar 0) (tCons (tC (.int 2)) (tNil))))) (tOp rMulI (tC (.int 7919)) (tVar 4))) (tC (.int 48271))) (tC (.int 2147483647))) (gName 5))
 (t_l_rides_b1_s1 K A E)
@[irreducible] def t_l_rides_b2_s3 (K : PySem.W.Frag) (A : Ad) (E : XK) : TS :=
 tDrop (tBM K "list" rAppend (tVar 3) (tCons (tTup (tCons (tOp (rIxL K) (tLst (tCons (tC (.str "one")) (tCons (tC (.str "two")) (tNil)))) (tOp rModI (tVar 6) (tC (.int 2)))) (tCons (tVar 9) (tCons (tVar 7) (tCons (tVar 8) (tNil)))))) (tNil)))
@[irreducible] def t_l_rides_b2_s2 (K : PySem.W.Frag) (A : Ad) (E : XK) : TS :=
 tSeq (tAsg (tOp (rIxL K) (tLst (tCons (tC (.int 0)) (tCons (tC (.int 0)) (tCons (tC (.int 1)) (tCons (tC (.int 0)) (tCons (tC (.int 5)) (tCons (tC (.int 0)) (tCons (tOp rModI (tOp rDivI (tVar 6) (tC (.int 6))) (tOp rPowI (tC (.int 10)) (tC (.int 6)))) (tCons (tC (.int 0)) (tNil)))))))))) (tOp rModI (tOp rAdd (tOp rDivI (tVar 6) (tC (.int 3))) (tVar 4)) (tC (.int 8)))) (gName 9))
 (t_l_rides_b2_s3 K A E)
@[irreducible] def t_l_rides_b2_s1 (K : PySem.W.Frag) (A : Ad) (E : XK) : TS :=
 tSeq (tAsg (tOp rModI (tOp rDivI (tOp rDivI (tVar 6) (tC (.int 2))) (tVar 1)) (tVar 1)) (gName 8))
 (t_l_rides_b2_s2 K A E)
@[irreducible] def t_l_rides_b2 (K : PySem.W.Frag) (A : Ad) (E : XK) : TS :=
 tSeq (tAsg (tOp rModI (tOp rDivI (tVar 6) (tC (.int 2))) (tVar 1)) (gName 7))
 (t_l_rides_b2_s1 K A E)
@[irreducible] def t_l_rides_s3 (K : PySem.W.Frag) (A : Ad) (E : XK) : TS :=
 tRet (tVar 3)
@[irreducible] def t_l_rides_s2 (K : PySem.W.Frag) (A : Ad) (E : XK) : TS :=
 tSeq (tFor (iEnum K (tCons (tSl (rSlL K) (tVar 0) (tPart (tOp rAdd (tC (.int 18)) (tOp rMulI (tC (.int 2)) (tVar 2)))) (tPart (tOp rAdd (tC (.int 28)) (tOp rMulI (tC (.int 2)) (tVar 2))))) (tNil))) (gTup K 2 (gCons (gName 4) (gCons (gName 6) (gNil)))) (t_l_rides_b2 K A E))
 (t_l_rides_s3 K A E)
@[irreducible] def t_l_rides_s1 (K : PySem.W.Frag) (A : Ad) (E : XK) : TS :=
 tSeq (tIfS (tTest (tOp rEq (tOp rModI (tOp rAdd (tCall (sp_l_cell_at K A) [] E0 (tCons (tVar 0) (tCons (tC (.int 0)) (tNil)))) (tCall (sp_l_cell_at K A) [] E0 (tCons (tVar 0) (tCons (tC (.int 2)) (tNil))))) (tC (.int 8))) (tC (.int 1)))) (tSeq (tFor (iRng1 (tCons (tC (.int 18)) (tNil))) (gName 4) (t_l_rides_b1 K A E))
 (tRet (tVar 3))) (tNext))
 (t_l_rides_s2 K A E)
def N_l_rides : List Str := ["_law_script", "_law_many", "_law_size", "_law_rides_here", "_law_k", "_law_number", "_law_cell", "_law_start", "_law_goal", "_law_step"]
def t_l_rides (K : PySem.W.Frag) (A : Ad) (E : XK) : TS :=
 tSeq (tAsg (tLst (tNil)) (gName 3))
 (t_l_rides_s1 K A E)
@[irreducible] def t_l_stays_s4 (K : PySem.W.Frag) (A : Ad) (E : XK) : TS :=
 tRet (tOp (rEqH K) (tVar 1) (tVar 2))
@[irreducible] def t_l_stays_s3 (K : PySem.W.Frag) (A : Ad) (E : XK) : TS :=
 tSeq (tDrop (tMeth A.c_Ledger "tickets" (sp_Ledger_tickets K A) [] E0 (tVar 0) (tCons (tC (.str "one")) (tCons (tC (.int 1)) (tNil)))))
 (t_l_stays_s4 K A E)
@[irreducible] def t_l_stays_s2 (K : PySem.W.Frag) (A : Ad) (E : XK) : TS :=
 tSeq (tDrop (tMeth A.c_Ledger "tickets" (sp_Ledger_tickets K A) [] E0 (tVar 0) (tCons (tC (.str "two")) (tCons (tC (.int 0)) (tNil)))))
 (t_l_stays_s3 K A E)
@[irreducible] def t_l_stays_s1 (K : PySem.W.Frag) (A : Ad) (E : XK) : TS :=
 tSeq (tAsg (tCB (rListS K) (tCons (tVar 1) (tNil))) (gName 2))
 (t_l_stays_s2 K A E)
def N_l_stays : List Str := ["_law_ledger", "_law_tickets", "_law_kept_here"]
def t_l_stays (K : PySem.W.Frag) (A : Ad) (E : XK) : TS :=
 tSeq (tAsg (tMeth A.c_Ledger "tickets" (sp_Ledger_tickets K A) [] E0 (tVar 0) (tCons (tC (.str "one")) (tCons (tC (.int 0)) (tNil)))) (gName 1))
 (t_l_stays_s1 K A E)
@[irreducible] def t_law_b2_s5 (K : PySem.W.Frag) (A : Ad) (E : XK) : TS :=
 tIfS (tTest (tOp (rNeH K) (tOp (rIxL K) (tMeth A.c_Ledger "rides" (sp_Ledger_rides K A) [] E0 (tVar 9) (tCons (tVar 12) (tNil))) (tUn rNeg (tC (.int 1)))) (tTup (tCons (tDGet (tVar 11) (tVar 12)) (tCons (tVar 13) (tCons (tVar 14) (tCons (tCB rMin2 (tCons (tC (.int 5)) (tCons (tVar 18) (tNil)))) (tCons (tVar 16) (tNil))))))))) (tRet (tC (.bl false))) (tNext)
@[irreducible] def t_law_b2_s4 (K : PySem.W.Frag) (A : Ad) (E : XK) : TS :=
 tSeq (tIfS (tTest (tOp rNe (tCB (rSum K) (tCons (tLc (iList K (tMeth A.c_Ledger "tickets" (sp_Ledger_tickets K A) [] E0 (tVar 9) (tCons (tVar 12) (tCons (tVar 15) (tNil))))) (gName 20) (tYes) (tOp (rIxT K) (tVar 20) (tUn rNeg (tC (.int 1)))) [20]) (tNil))) (tMeth A.c_Ledger "week_sum" (sp_Ledger_week_sum K A) [] E0 (tVar 9) (tCons (tVar 12) (tCons (tVar 15) (tNil)))))) (tRet (tC (.bl false))) (tNext))
 (t_law_b2_s5 K A E)
@[irreducible] def t_law_b2_s3 (K : PySem.W.Frag) (A : Ad) (E : XK) : TS :=
 tSeq (tDrop (tBM K "list" rAppend (tDGet (tVar 10) (tVar 12)) (tCons (tTup (tCons (tDGet (tVar 11) (tVar 12)) (tCons (tCB rMin2 (tCons (tC (.int 5)) (tCons (tVar 18) (tNil)))) (tCons (tVar 16) (tNil))))) (tNil))))
 (t_law_b2_s4 K A E)
@[irreducible] def t_law_b2_s2 (K : PySem.W.Frag) (A : Ad) (E : XK) : TS :=
 tSeq (sDPut (tVar 11) (tVar 12) (tOp rAdd (tDGet (tVar 11) (tVar 12)) (tVar 3)))
 (t_law_b2_s3 K A E)
@[irreducible] def t_law_b2_s1 (K : PySem.W.Frag) (A : Ad) (E : XK) : TS :=
 tSeq (tIfS (tOr (tNot (tB (tCall (sp_l_whole K A) [] E0 (tCons (tVar 16) (tNil))))) (tTest (tOp rNe (tVar 18) (tOp (rIxL K) (tVar 17) (tVar 14))))) (tRet (tC (.bl false))) (tNext))
 (t_law_b2_s2 K A E)
@[irreducible] def t_law_b2 (K : PySem.W.Frag) (A : Ad) (E : XK) : TS :=
 tSeq (tAsg (tCall (sp_l_zones_of K A) [] E0 (tCons (tMeth A.c_Web "way" (sp_Web_way K A) [] E0 (tVar 8) (tCons (tVar 13) (tCons (tVar 14) (tNil)))) (tCons (tVar 4) (tCons (tVar 6) (tCons (tVar 13) (tCons (tVar 14) (tNil))))))) (gName 18))
 (t_law_b2_s1 K A E)
@[irreducible] def t_law_b1_s5 (K : PySem.W.Frag) (A : Ad) (E : XK) : TS :=
 tIfS (tTest (tOp rNotN (tVar 16) (tC .non))) (t_law_b2 K A E) (tNext)
@[irreducible] def t_law_b1_s4 (K : PySem.W.Frag) (A : Ad) (E : XK) : TS :=
 tSeq (tIfS (tOr (tNot (tB (tCall (sp_l_kept K A) [] E0 (tCons (tVar 17) (tCons (tVar 4) (tCons (tVar 6) (tCons (tVar 13) (tNil)))))))) (tTest (tOp rNe (tOp rIsN (tOp (rIxL K) (tVar 17) (tVar 14)) (tC .non)) (tOp rIsN (tVar 16) (tC .non))))) (tRet (tC (.bl false))) (tNext))
 (t_law_b1_s5 K A E)
@[irreducible] def t_law_b1_s3 (K : PySem.W.Frag) (A : Ad) (E : XK) : TS :=
 tSeq (tAsg (tMeth A.c_Web "levels" (sp_Web_levels K A) [] E0 (tVar 8) (tCons (tVar 13) (tNil))) (gName 17))
 (t_law_b1_s4 K A E)
@[irreducible] def t_law_b1_s2 (K : PySem.W.Frag) (A : Ad) (E : XK) : TS :=
 tSeq (tAsg (tCall (sp_l_ridden K A) [] E0 (tCons (tVar 9) (tCons (tVar 12) (tCons (tOp rAdd (tDGet (tVar 11) (tVar 12)) (tVar 3)) (tCons (tVar 13) (tCons (tVar 14) (tNil))))))) (gName 16))
 (t_law_b1_s3 K A E)
@[irreducible] def t_law_b1_s1 (K : PySem.W.Frag) (A : Ad) (E : XK) : TS :=
 tSeq (tDrop (tMeth A.c_Ledger "tickets" (sp_Ledger_tickets K A) [] E0 (tVar 9) (tCons (tVar 12) (tCons (tVar 15) (tNil)))))
 (t_law_b1_s2 K A E)
@[irreducible] def t_law_b1 (K : PySem.W.Frag) (A : Ad) (E : XK) : TS :=
 tSeq (tAsg (tOp rDivI (tOp rAdd (tDGet (tVar 11) (tVar 12)) (tVar 3)) (tC (.int 7))) (gName 15))
 (t_law_b1_s1 K A E)
@[irreducible] def t_law_s14 (K : PySem.W.Frag) (A : Ad) (E : XK) : TS :=
 tRet (tAndV (tCall (sp_l_weeks K A) [] E0 (tCons (tVar 9) (tCons (tC (.str "one")) (tCons (tDGet (tVar 10) (tC (.str "one"))) (tCons (tVar 7) (tCons (tVar 19) (tNil))))))) (tCall (sp_l_weeks K A) [] E0 (tCons (tVar 9) (tCons (tC (.str "two")) (tCons (tDGet (tVar 10) (tC (.str "two"))) (tCons (tVar 7) (tCons (tVar 19) (tNil))))))))
@[irreducible] def t_law_s13 (K : PySem.W.Frag) (A : Ad) (E : XK) : TS :=
 tSeq (tIfS (tNot (tB (tCall (sp_l_stays K A) [] E0 (tCons (tVar 9) (tNil))))) (tRet (tC (.bl false))) (tNext))
 (t_law_s14 K A E)
@[irreducible] def t_law_s12 (K : PySem.W.Frag) (A : Ad) (E : XK) : TS :=
 tSeq (tAsg (tCall (sp_l_cell_at K A) [] E0 (tCons (tVar 0) (tCons (tC (.int 2)) (tNil)))) (gName 19))
 (t_law_s13 K A E)
@[irreducible] def t_law_s11 (K : PySem.W.Frag) (A : Ad) (E : XK) : TS :=
 tSeq (tFor (iList K (tCall (sp_l_rides K A) [] E0 (tCons (tVar 0) (tCons (tVar 1) (tCons (tVar 2) (tNil)))))) (gTup K 4 (gCons (gName 12) (gCons (gName 3) (gCons (gName 13) (gCons (gName 14) (gNil)))))) (t_law_b1 K A E))
 (t_law_s12 K A E)
@[irreducible] def t_law_s10 (K : PySem.W.Frag) (A : Ad) (E : XK) : TS :=
 tSeq (tAsg (tDisp [(tC (.str "one"), tC (.int 0)), (tC (.str "two"), tC (.int 3))]) (gName 11))
 (t_law_s11 K A E)
@[irreducible] def t_law_s9 (K : PySem.W.Frag) (A : Ad) (E : XK) : TS :=
 tSeq (tAsg (tDisp [(tC (.str "one"), tLst (tNil)), (tC (.str "two"), tLst (tNil))]) (gName 10))
 (t_law_s10 K A E)
@[irreducible] def t_law_s8 (K : PySem.W.Frag) (A : Ad) (E : XK) : TS :=
 tSeq (tAsg (tMake A.c_Ledger (sp_Ledger_init K A) [] E0 (tCons (tVar 8) (tCons (tMake A.c_Tariff (sp_Tariff_init K A) [] E0 (tCons (tOp (rIxL K) (tVar 7) (tC (.int 0))) (tCons (tOp (rIxL K) (tVar 7) (tC (.int 1))) (tCons (tOp (rIxL K) (tVar 7) (tC (.int 2))) (tNil))))) (tNil)))) (gName 9))
 (t_law_s9 K A E)
@[irreducible] def t_law_s7 (K : PySem.W.Frag) (A : Ad) (E : XK) : TS :=
 tSeq (tAsg (tMake A.c_Web (sp_Web_init K A) [] E0 (tCons (tCB (rListS K) (tCons (tVar 4) (tNil))) (tCons (tCB (rListS K) (tCons (tVar 6) (tNil))) (tNil)))) (gName 8))
 (t_law_s8 K A E)
@[irreducible] def t_law_s6 (K : PySem.W.Frag) (A : Ad) (E : XK) : TS :=
 tSeq (tAsg (tCall (sp_l_rows K A) [] E0 (tCons (tVar 0) (tNil))) (gName 7))
 (t_law_s7 K A E)
@[irreducible] def t_law_s5 (K : PySem.W.Frag) (A : Ad) (E : XK) : TS :=
 tSeq (tAsg (tCall (sp_l_links_by K A) [] E0 (tCons (tVar 0) (tCons (tVar 1) (tCons (tVar 2) (tNil))))) (gName 6))
 (t_law_s6 K A E)
@[irreducible] def t_law_s4 (K : PySem.W.Frag) (A : Ad) (E : XK) : TS :=
 tSeq (tFor (iRng1 (tCons (tVar 1) (tNil))) (gName 5) (tDrop (tBM K "list" rAppend (tVar 4) (tCons (tOp rMulI (tVar 3) (tOp rModI (tOp rDivI (tCall (sp_l_cell_at K A) [] E0 (tCons (tVar 0) (tCons (tC (.int 1)) (tNil)))) (tOp (rIxL K) (tLst (tCons (tC (.int 1)) (tCons (tC (.int 5)) (tCons (tC (.int 25)) (tCons (tC (.int 125)) (tCons (tC (.int 625)) (tCons (tC (.int 3125)) (tCons (tC (.int 15625)) (tCons (tC (.int 78125)) (tCons (tC (.int 390625)) (tNil))))))))))) (tVar 5))) (tC (.int 5)))) (tNil)))))
 (t_law_s5 K A E)
@[irreducible] def t_law_s3 (K : PySem.W.Frag) (A : Ad) (E : XK) : TS :=
 tSeq (tAsg (tLst (tNil)) (gName 4))
 (t_law_s4 K A E)
@[irreducible] def t_law_s2 (K : PySem.W.Frag) (A : Ad) (E : XK) : TS :=
 tSeq (tAsg (tOp (rIxL K) (tLst (tCons (tC (.int 1)) (tCons (tC (.int 7)) (tCons (tOp rPowI (tC (.int 10)) (tC (.int 4))) (tCons (tOp rPowI (tC (.int 10)) (tC (.int 6))) (tCons (tOp rPowI (tC (.int 2)) (tC (.int 32))) (tCons (tOp rPowI (tC (.int 10)) (tC (.int 30))) (tNil)))))))) (tOp rModI (tCall (sp_l_cell_at K A) [] E0 (tCons (tVar 0) (tCons (tC (.int 2)) (tNil)))) (tC (.int 6)))) (gName 3))
 (t_law_s3 K A E)
@[irreducible] def t_law_s1 (K : PySem.W.Frag) (A : Ad) (E : XK) : TS :=
 tSeq (tAsg (tOp rModI (tOp rDivI (tCall (sp_l_cell_at K A) [] E0 (tCons (tVar 0) (tCons (tC (.int 0)) (tNil)))) (tC (.int 9))) (tC (.int 10))) (gName 2))
 (t_law_s2 K A E)
def N_law : List Str := ["_law_script", "_law_many", "_law_size", "_law_step", "_law_zones", "_law_k", "_law_links", "_law_rows_here", "_law_web", "_law_ledger", "_law_told", "_law_last", "_law_card", "_law_start", "_law_goal", "_law_week", "_law_charge", "_law_found", "_law_count", "_law_number", "_law_ticket"]
def t_law (K : PySem.W.Frag) (A : Ad) (E : XK) : TS :=
 tSeq (tAsg (tOp rAdd (tC (.int 1)) (tOp rModI (tCall (sp_l_cell_at K A) [] E0 (tCons (tVar 0) (tCons (tC (.int 0)) (tNil)))) (tC (.int 9)))) (gName 1))
 (t_law_s1 K A E)
end FW

namespace FW
open PySem PySem.Spec PyProof.Rows L2
def pairD (p : Nat × Nat) : PyData := .tuple [.int (p.1 : Nat), .int (p.2 : Nat)]
theorem dpAll_pairs {K : PySem.W.Frag} {H : Hp} : ∀ {xs : List V} {ps : List (Nat × Nat)}, PairL H xs ps → DpAll K H xs (ps.map pairD)
  | _, _, .nil => .nil
  | _, (a, b) :: _, .cons ⟨q, e, h⟩ r => .cons (by rw [e]; exact .tup (SqT.of h) (.cons (.int _) (.cons (.int _) .nil))) (dpAll_pairs r)
theorem dp_pairs {K : PySem.W.Frag} {H : Hp} {a : Addr} {xs : List V} {ps : List (Nat × Nat)} (h : SqL K H a xs) (p : PairL H xs ps) : Dp K H (.ref a) (.list (ps.map pairD)) := .lst h (dpAll_pairs p)
theorem shp_pair (p : Nat × Nat) : Shp 1 (pairD p) := Shp.tuple fun d hd => by
  rcases List.mem_cons.mp hd with e | hd
  · rw [e]; exact Shp.int 0 _
  · rw [List.mem_singleton.mp hd]; exact Shp.int 0 _
theorem shp_pairs (ps : List (Nat × Nat)) : Shp 2 (.list (ps.map pairD)) := Shp.list fun d hd => by
  obtain ⟨p, _, rfl⟩ := List.mem_map.mp hd
  exact shp_pair p
theorem dp_pair {K : PySem.W.Frag} {H : Hp} {t : Addr} {a b : Nat} (h : H t = some (.tup [.int (a : Nat), .int (b : Nat)])) : Dp K H (.ref t) (pairD (a, b)) := .tup (SqT.of h) (.cons (.int _) (.cons (.int _) .nil))
end FW

namespace FW
open PySem PySem.Spec PyProof.Rows L2
section
variable {K : PySem.W.Frag} {A : Ad} {vs : List V} {H : Hp} {Q : VK} {E : XK}
theorem rd_l_kept (h : sp_l_kept K A vs H Q E) : t_l_kept K A E { nx := fun _ H' => Q .non H', rt := Q } (start N_l_kept vs) H := by
  obtain ⟨l, z, L, lxs, F, zones, links, st, rfl, hl, hz, hL, hp, r, W, hs, q⟩ := h
  have e0 := at_lv (F := F) (a := st) (by rw [r.len]; exact hs)
  rw [r.st] at e0
  have e0 : atI (F.map lvV) (st : Int) = some (.int 1) := e0
  have hlen : ((F.map lvV).length : Int) = ((zones.map V.int).length : Int) := by rw [List.length_map, List.length_map, r.len]
  have hls := SqL.of (K := K) hl
  have hn := W.hn
  unfold t_l_kept
  walk_at "rd"
  rw [hlen]
  walk_at "rd"
  show t_l_kept_s1 K A E _ _ H
  unfold t_l_kept_s1
  walk_at "rd"
  refine for_list (K := K) (a := L) (xs := lxs) (fun i σ H3 => Hold (∃ o8 o9 : Option V, σ = [some (.ref l), some (.ref z), some (.ref L), some (.int (st : Nat)), o8, o9] ∧ H3 = H)) ⟨none, none, rfl, rfl⟩ ?_ ?_ ?_
  · rintro i σ H3 _ ⟨o8, o9, rfl, rfl⟩
    exact hL
  · rintro i x σ H3 hx ⟨o8, o9, rfl, rfl⟩
    obtain ⟨a, b, t, hi, rfl, ht⟩ := hp.get hx
    have lk : Lk links a b := .inl (List.mem_of_getElem? hi)
    have rg := W.lk lk
    have ha := rg.1
    have hb := rg.2.1
    have e1 := at_lv (F := F) (a := a) (by rw [r.len]; exact ha)
    have e2 := at_lv (F := F) (a := b) (by rw [r.len]; exact hb)
    have i1 : atI (zones.map V.int) (a : Int) = some (.int (zn zones a)) := atI_map (by omega) (by omega)
    have i2 : atI (zones.map V.int) (b : Int) = some (.int (zn zones b)) := atI_map (by omega) (by omega)
    cases ea : fd F a with
    | none =>
      cases eb : fd F b with
      | none =>
        rw [ea] at e1
        rw [eb] at e2
        have e1 : atI (F.map lvV) (a : Int) = some .non := e1
        have e2 : atI (F.map lvV) (b : Int) = some .non := e2
        walk_at "rd"
        exact ⟨_, _, rfl, rfl⟩
      | some x =>
        obtain ⟨lb, pb⟩ := x
        obtain ⟨la, pa, g, _⟩ := r.kept b lb pb a eb lk.symm
        rw [ea] at g
        cases g
    | some x =>
      obtain ⟨la, pa⟩ := x
      obtain ⟨lb, pb, eb, h1⟩ := r.kept a la pa b ea lk
      obtain ⟨la', pa', ea', h2⟩ := r.kept b lb pb a eb lk.symm
      rw [ea] at ea'
      cases ea'
      rw [ea] at e1
      rw [eb] at e2
      have e1 : atI (F.map lvV) (a : Int) = some (.int la) := e1
      have e2 : atI (F.map lvV) (b : Int) = some (.int lb) := e2
      walk_at "rd"
      refine .inr ⟨_, rfl, ?_⟩
      walk_at "rd"
      refine ite_dF ?_ ⟨_, _, rfl, rfl⟩
      rw [wt_symm] at h2
      unfold wt at h1 h2
      by_cases c : zn zones a = zn zones b
      · rw [if_pos c] at h1 h2
        rw [c, decide_eq_true rfl]
        show ¬ (0 : Int) < _
        split <;> omega
      · rw [if_neg c] at h1 h2
        rw [decide_eq_false (fun z => c (V.int.inj z))]
        show ¬ (1 : Int) < _
        split <;> omega
  · rintro σ H3 ⟨o8, o9, rfl, rfl⟩
    unfold t_l_kept_s2
    exact q
end
end FW

namespace FW
open PySem PySem.Spec PyProof.Rows L2
section
variable {K : PySem.W.Frag} {A : Ad} {vs : List V} {H : Hp} {Q : VK} {E : XK}
theorem rd_l_serves (h : sp_l_serves K A vs H Q E) : t_l_serves K A E { nx := fun _ H' => Q .non H', rt := Q } (start N_l_serves vs) H := by
  obtain ⟨q, t, d, r, z, rfl, hq, k⟩ := h
  have n1 := st_week
  have n2 := st_week2
  have n3 := st_day
  unfold t_l_serves
  cases t with
  | wk y p =>
    have hq : H q = some (.tup [.str "week", .int y, .int p]) := hq
    walk_at "rd"
    refine ite_d (fun c => ?_) (fun c => ?_)
    · have e : serves d r z (.wk y p) = false := by unfold serves; exact decide_eq_false (by omega)
      rw [e] at k
      exact k
    · have e : serves d r z (.wk y p) = true := by unfold serves; exact decide_eq_true (by omega)
      rw [e] at k
      walk_at "rd"
      exact k
  | dy e y p =>
    have hq : H q = some (.tup [.str "day", .int e, .int y, .int p]) := hq
    walk_at "rd"
    refine ite_d (fun c => ?_) (fun c => ?_)
    · have e : serves d r z (.dy e y p) = false := by simp [serves, show ¬ z ≤ y by omega]
      rw [e] at k
      exact k
    · walk_at "rd"
      refine ite_d (fun c2 => ?_) (fun c2 => ?_)
      · have e : serves d r z (.dy e y p) = true := by simp [serves, show z ≤ y by omega, V.int.inj c2]
        rw [e] at k
        walk_at "rd"
        exact k
      · have e : serves d r z (.dy e y p) = false := by simp [serves, show ¬ e = d from fun z => c2 (by rw [z])]
        rw [e] at k
        walk_at "rd"
        exact k
  | sg e q2 y p =>
    have hq : H q = some (.tup [.str "single", .int e, .int q2, .int y, .int p]) := hq
    walk_at "rd"
    refine ite_d (fun c => ?_) (fun c => ?_)
    · have e : serves d r z (.sg e q2 y p) = false := by simp [serves, show ¬ z ≤ y by omega]
      rw [e] at k
      exact k
    · walk_at "rd"
      refine ite_d (fun c2 => ?_) (fun c2 => ?_)
      · have e : serves d r z (.sg e q2 y p) = decide (V.int q2 = V.int r) := by simp [serves, show z ≤ y by omega, V.int.inj c2]
        rw [e] at k
        walk_at "rd"
        exact k
      · have e : serves d r z (.sg e q2 y p) = false := by simp [serves, show ¬ e = d from fun z => c2 (by rw [z])]
        rw [e] at k
        walk_at "rd"
        exact k
end
end FW

namespace FW
open PySem PySem.Spec PyProof.Rows L2
section
variable {K : PySem.W.Frag} {A : Ad} {vs : List V} {H : Hp} {Q : VK} {E : XK}
theorem rd_zones_of_s2 {R z L : Addr} {lxs : List V} {row : List Nat} {F : Fnd} {zones : List Int} {links : List (Nat × Nat)} {st g : Nat} {c : Int} {u : Nat} {Dn : Ends} (hR : H R = some (.lst (row.map fun (o : Nat) => V.int (o : Nat)))) (hz : SqL K H z (zones.map V.int)) (hL : SqL K H L lxs) (hp : PairL H lxs links)
    (r : Rch zones links st F) (W : WebOk zones links) (hs : st < zones.length) (fw : Fwd F row) (ns : ∀ o ∈ row.tail, o ≠ st) (hd : row.head? = some st) (hla : row.getLast? = some g) (hle : row.length ≤ 71) (hg : fd F g = some (c, u)) (k : ∀ H', Same H H' → Dn.rt (.int c) H') :
    t_l_zones_of_s2 K A E Dn [some (.ref R), some (.ref z), some (.ref L), some (.int (st : Nat)), some (.int (g : Nat)), some (.int 1), none] H := by
  unfold t_l_zones_of_s2
  have rne : 0 < row.length := by cases row with | nil => cases fw | cons => simp
  have hln : ((row.map fun (o : Nat) => V.int (o : Nat)).length : Int) = row.length := by rw [List.length_map]
  have total : tell zones row = c := by
    cases row with
    | nil => cases fw
    | cons a l =>
      have e : a = st := Option.some.inj hd
      subst e
      have := fwd_lv r fw ns r.st hla hg
      omega
  have hRs := SqL.of (K := K) hR
  walk_at "rd"
  refine for_range (lo := 1) (fun i σ H' => Hold (∃ o7 : Option V, σ = [some (.ref R), some (.ref z), some (.ref L), some (.int (st : Nat)), some (.int (g : Nat)), some (.int (tell zones (row.take (i + 1)))), o7] ∧ Same H H')) ⟨none, ?_, Same.refl _⟩ ?_ ?_
  · cases row with
    | nil => cases fw
    | cons a l => rfl
  · rintro i σ H' hi ⟨o7, rfl, s⟩
    rw [hln] at hi
    have hi : i + 1 < row.length := by omega
    obtain ⟨a, ha⟩ := get_some (l := row) (i := i) (by omega)
    obtain ⟨b, hb⟩ := get_some (l := row) (i := i + 1) hi
    have lk := fwd_lk r fw ns ha hb
    have la := fwd_lt r W fw ns hd hs (List.mem_of_getElem? ha)
    have lb := fwd_lt r W fw ns hd hs (List.mem_of_getElem? hb)
    have i1 : atI (row.map fun (o : Nat) => V.int (o : Nat)) (1 + (i : Int) - 1) = some (.int (a : Nat)) := by
      rw [show (1 : Int) + (i : Int) - 1 = ((i : Nat) : Int) by omega]
      exact atI_nat (by rw [List.getElem?_map, ha]; rfl)
    have i2 : atI (row.map fun (o : Nat) => V.int (o : Nat)) (1 + (i : Int)) = some (.int (b : Nat)) := by
      rw [show (1 : Int) + (i : Int) = ((i + 1 : Nat) : Int) by omega]
      exact atI_nat (by rw [List.getElem?_map, hb]; rfl)
    have z1 : atI (zones.map V.int) (a : Int) = some (.int (zn zones a)) := atI_map (by omega) (by omega)
    have z2 : atI (zones.map V.int) (b : Int) = some (.int (zn zones b)) := atI_map (by omega) (by omega)
    have tk := tell_take (zones := zones) ha hb
    have fin : ∀ H2, Same H H2 → t_l_zones_of_b1_s1 K A E { nx := fun σ H' => Hold (∃ o7 : Option V, σ = [some (.ref R), some (.ref z), some (.ref L), some (.int (st : Nat)), some (.int (g : Nat)), some (.int (tell zones (row.take (i + 1 + 1)))), o7] ∧ Same H H'), rt := Dn.rt, bk := t_l_zones_of_s3 K A E Dn, ct := fun σ H' => Hold (∃ o7 : Option V, σ = [some (.ref R), some (.ref z), some (.ref L), some (.int (st : Nat)), some (.int (g : Nat)), some (.int (tell zones (row.take (i + 1 + 1)))), o7] ∧ Same H H') }
        [some (.ref R), some (.ref z), some (.ref L), some (.int (st : Nat)), some (.int (g : Nat)), some (.int (tell zones (row.take (i + 1)))), some (.int (1 + (i : Int)))] H2 := by
      intro H2 s2
      unfold t_l_zones_of_b1_s1
      have hR2 := SqL.of (K := K) (s2 _ _ hR)
      have hz2 := s2.seq hz
      walk_at "rd"
      refine .inr ⟨_, rfl, ?_⟩
      walk_at "rd"
      refine ⟨some (.int (1 + (i : Int))), ?_, s2⟩
      rw [tk]
      have e : wt zones a b = (if (!decide (V.int (zn zones a) = V.int (zn zones b))) = true then 1 else 0) := by
        unfold wt
        by_cases c : zn zones a = zn zones b
        · rw [if_pos c, c, decide_eq_true rfl]
          rfl
        · rw [if_neg c, decide_eq_false (fun z => c (V.int.inj z))]
          rfl
      rw [e]
      rfl
    have hR' := SqL.of (K := K) (s _ _ hR)
    unfold t_l_zones_of_b1
    walk_at "rd"
    intro t ht
    have s2 : Same H' (upd H' t (.tup [.int (a : Nat), .int (b : Nat)])) := Same.new ht
    have s02 := s.trans s2
    walk_at "rd"
    have hp2 := hp.same s02
    have hL2 := s02.seq hL
    rcases lk with m | m
    · refine notIn_no (dp_pair upd_same) (dp_pairs hL2 hp2) (shp_pair (a, b)) (shp_pairs links) (by decide) (by decide) (List.mem_map.mpr ⟨_, m, rfl⟩) ?_
      walk_at "rd"
      exact fin _ s02
    · refine notIn_any (dp_pair upd_same) (dp_pairs hL2 hp2) (shp_pair (a, b)) (shp_pairs links) (by decide) (by decide) fun bb => ?_
      refine ⟨_, rfl, ?_⟩
      refine ite_b (fun _ => ?_) (fun _ => ?_)
      · have hR3 := SqL.of (K := K) (s02 _ _ hR)
        walk_at "rd"
        intro t2 ht2
        have s3 : Same (upd H' t (.tup [.int (a : Nat), .int (b : Nat)])) (upd (upd H' t (.tup [.int (a : Nat), .int (b : Nat)])) t2 (.tup [.int (b : Nat), .int (a : Nat)])) := Same.new ht2
        have s03 := s02.trans s3
        walk_at "rd"
        have hp3 := hp.same s03
        have hL3 := s03.seq hL
        refine notIn_no (dp_pair upd_same) (dp_pairs hL3 hp3) (shp_pair (b, a)) (shp_pairs links) (by decide) (by decide) (List.mem_map.mpr ⟨_, m, rfl⟩) ?_
        walk_at "rd"
        exact fin _ s03
      · walk_at "rd"
        exact fin _ s02
  · rintro σ H' ⟨o7, rfl, s⟩
    unfold t_l_zones_of_s3
    have e : row.take ((((row.map fun (o : Nat) => V.int (o : Nat)).length : Int) - 1).toNat + 1) = row := List.take_of_length_le (by rw [List.length_map]; omega)
    rw [e, total]
    exact ⟨_, rfl, k _ s⟩
theorem rd_l_zones_of (h : sp_l_zones_of K A vs H Q E) : t_l_zones_of K A E { nx := fun _ H' => Q .non H', rt := Q } (start N_l_zones_of vs) H := by
  obtain ⟨R, z, L, lxs, row, F, zones, links, st, g, c, u, rfl, hR, hz, hL, hp, r, W, hs, fw, ns, hd, hla, hle, hg, k⟩ := h
  have rne : 0 < row.length := by cases row with | nil => cases fw | cons => simp
  have hne : ¬ (V.int ((row.map fun (o : Nat) => V.int (o : Nat)).length : Int) = V.int 0) := fun e => by
    have := V.int.inj e
    rw [List.length_map] at this
    omega
  have hRs := SqL.of (K := K) hR
  have f0 : atI (row.map fun (o : Nat) => V.int (o : Nat)) 0 = some (.int (st : Nat)) := by
    cases row with
    | nil => cases fw
    | cons a l =>
      have e : a = st := Option.some.inj hd
      rw [e]
      exact atI_lt (i := 0) (by decide) rfl
  have f1 : atI (row.map fun (o : Nat) => V.int (o : Nat)) (-(1 : Int)) = some (.int (g : Nat)) := by
    obtain ⟨l, e⟩ : ∃ l, row = l ++ [g] := by
      rw [List.getLast?_eq_some_iff] at hla
      exact hla
    rw [e, List.map_append]
    exact at_lastW
  unfold t_l_zones_of
  walk_at "rd"
  show t_l_zones_of_s1 K A E _ [some (.ref R), some (.ref z), some (.ref L), some (.int (st : Nat)), some (.int (g : Nat)), none, none] H
  unfold t_l_zones_of_s1
  walk_at "rd"
  exact rd_zones_of_s2 hR hz hL hp r W hs fw ns hd hla hle hg k
end
end FW

namespace FW
open PySem PySem.Spec PyProof.Rows L2
section
variable {K : PySem.W.Frag} {A : Ad} {vs : List V} {H : Hp} {Q : VK} {E : XK}
theorem rd_l_cell_at (h : sp_l_cell_at K A vs H Q E) : t_l_cell_at K A E { nx := fun _ H' => Q .non H', rt := Q } (start N_l_cell_at vs) H := by
  obtain ⟨a, ns, k, rfl, hS, h0, q⟩ := h
  unfold t_l_cell_at
  walk_at "rd"
  rw [List.length_map]
  refine ite_d (fun c => ?_) (fun c => ?_)
  · have e : atI (ns.map V.int) k = some (.int (cell ns k)) := atI_map h0 c
    walk_at "rd"
    exact q
  · have e : cell ns k = 0 := by
      unfold cell
      rw [List.getD_eq_getElem?_getD, List.getElem?_eq_none (by omega)]
      rfl
    rw [e] at q
    exact q
end
end FW

namespace FW
open PySem PySem.Spec PyProof.Rows L2
section
variable {K : PySem.W.Frag} {A : Ad} {vs : List V} {H : Hp} {Q : VK} {E : XK}
theorem rd_l_whole (h : sp_l_whole K A vs H Q E) : t_l_whole K A E { nx := fun _ H' => Q .non H', rt := Q } (start N_l_whole vs) H := by
  obtain ⟨i, rfl, q⟩ := h
  unfold t_l_whole
  refine ⟨_, rfl, isi_yes (.int i) kb_int ⟨_, rfl, iteT ⟨_, rfl, isi_no (.int i) kb_intbool ⟨_, rfl, q⟩⟩⟩⟩
end
end FW

namespace FW
open PySem PySem.Spec PyProof.Rows L2
section
variable {K : PySem.W.Frag} {A : Ad} {vs : List V} {H : Hp} {Q : VK} {E : XK}
theorem rd_l_rows (h : sp_l_rows K A vs H Q E) : t_l_rows K A E { nx := fun _ H' => Q .non H', rt := Q } (start N_l_rows vs) H := by
  obtain ⟨a, ns, rfl, hS, hl, q⟩ := h
  unfold t_l_rows
  walk_at "rd"
  intro p hp
  obtain ⟨m, hm, hmm⟩ := pick (ns := [1000, 7, 1000]) (i := cell ns 0 / 180 % 3) (Int.emod_nonneg _ (by decide)) (Int.emod_lt_of_pos _ (by decide))
  have hm : atI ([V.int 1000, V.int 7, V.int (1000)] : List V) (cell ns 0 / 180 % 3) = some (.int m) := hm
  have hm0 : 0 < m := by
    have : m = 1000 ∨ m = 7 ∨ m = 1000 := by simpa using hmm
    rcases this with e | e | e <;> rw [e] <;> decide
  have s0 : Same H (upd H p (.lst [.int 1000, .int 7, .int (1000)])) := Same.new hp
  walk_at "rd"
  intro R hR
  have nR := NewLL.nil hR
  generalize hH1 : upd H p (.lst [.int 1000, .int 7, .int (1000)]) = H1 at *
  walk_at "rd"
  refine for_range (lo := 0) (fun i σ H' => Hold (∃ (o : Option V) (ps : List Addr), σ = [some (.ref a), some (.int m), some (.ref R), o, none] ∧ NewLL H1 H' R ps ((List.range i).map (rowOf ns m 3)))) ⟨none, [], rfl, nR⟩ ?_ ?_
  · rintro i σ H' hi ⟨o, ps, rfl, N⟩
    have s1 := N.same
    have r1 := N.lst
    have hpl := N.len
    rw [List.length_map, List.length_range] at hpl
    have hi3 : i < 3 := hi
    walk_at "rd"
    intro D1 hD1
    refine lc_rangeF hD1 (by decide) (fun k => some (V.int (cell ns (3 + 5 * (0 + (i : Int)) + (0 + (k : Int))) % m))) ?_ ?_
    · intro k H2 hk s2 G N2 hG hN
      walk_at "rd"
      exact hG _ _ rfl (Same.refl _)
    · intro H2 s2 e2
      have s2' := s2.trans (del_sub _ _)
      have e3 : H2 D1 = some (.lst ((rowOf ns m 3 i).map V.int)) := by
        rw [e2]
        unfold rowOf
        rw [List.map_map]
        simp only [Int.zero_add]
        rw [fm_some]
        rfl
      walk_at "rd"
      refine ⟨_, ps ++ [D1], rfl, ?_⟩
      rw [List.range_succ, List.map_append]
      exact N.snoc hD1 s2' e3
  · rintro σ H' ⟨o, ps, rfl, N⟩
    refine ⟨_, rfl, q R ps (rowOf ns m 3 0) (rowOf ns m 3 1) (rowOf ns m 3 2) H' (rowOf_ok hm0) (rowOf_ok hm0) (rowOf_ok hm0) (N.pre s0)⟩
end
end FW

namespace FW
open PySem PySem.Spec PyProof.Rows L2
section
variable {K : PySem.W.Frag} {A : Ad} {vs : List V} {H : Hp} {Q : VK} {E : XK}
theorem rd_l_links_by (h : sp_l_links_by K A vs H Q E) : t_l_links_by K A E { nx := fun _ H' => Q .non H', rt := Q } (start N_l_links_by vs) H := by
  obtain ⟨a, ns, n, s, rfl, hS, hl, n1, n9, s9, q⟩ := h
  unfold t_l_links_by
  walk_at "rd"
  intro R hR
  have s1 : Same H (upd H R (.lst [])) := Same.new hR
  have sd1 : Same H (del (upd H R (.lst [])) R) := by rw [del_new hR]; exact Same.refl _
  have r1 : upd H R (.lst []) R = some (.lst []) := upd_same
  generalize upd H R (.lst []) = H1 at *
  show t_l_links_by_s1 K A E _ [some (.ref a), some (.int (n : Nat)), some (.int (s : Nat)), some (.ref R), none, none, none] H1
  unfold t_l_links_by_s1
  have ok0 : LOk n [] := fun p m => by cases m
  have hn0 : (0 : Int) < (n : Nat) := by omega
  obtain ⟨nn, rg, rk, rn⟩ := rgc2 (i := 18) (j := 18 + 2 * (s : Int)) (by omega) (by omega) (by omega) (by omega)
  walk_at "rd"
  refine for_rangeC (lo := 18) (c := 2) (n := nn) (fun i σ H' => Hold (∃ (o4 o5 o6 : Option V) (xs : List V) (ps : List (Nat × Nat)), σ = [some (.ref a), some (.int (n : Nat)), some (.int (s : Nat)), some (.ref R), o4, o5, o6] ∧ Same H (del H' R) ∧ H' R = some (.lst xs) ∧ PairL (del H' R) xs ps ∧ LOk n ps ∧ ps.length ≤ i)) ⟨none, none, none, [], [], rfl, sd1, r1, .nil, ok0, Nat.le_refl _⟩ ?_ ?_
  · rintro i σ H' hi ⟨o4, o5, o6, xs, ps, rfl, sm, r, lp, ok, hps⟩
    have k1 := rk i hi
    have hS2 := (sm.trans (del_sub _ _)).seq hS
    have nn40 : nn ≤ 40 := by omega
    unfold t_l_links_by_b1
    walk_at "rd"
    show t_l_links_by_b1_s1 K A E _ [some (.ref a), some (.int (n : Nat)), some (.int (s : Nat)), some (.ref R), some (.int (18 + (i : Int) * 2)), some (.int (cell ns (18 + (i : Int) * 2) % (n : Int))), o6] H'
    unfold t_l_links_by_b1_s1
    walk_at "rd"
    show t_l_links_by_b1_s2 K A E _ [some (.ref a), some (.int (n : Nat)), some (.int (s : Nat)), some (.ref R), some (.int (18 + (i : Int) * 2)), some (.int (cell ns (18 + (i : Int) * 2) % (n : Int))), some (.int (cell ns (18 + (i : Int) * 2 + 1) % (n : Int)))] H'
    generalize cell ns (18 + (i : Int) * 2) = x at *
    generalize cell ns (18 + (i : Int) * 2 + 1) = y at *
    have x0 : 0 ≤ x % (n : Int) := Int.emod_nonneg _ (by omega)
    have x1 : x % (n : Int) < n := Int.emod_lt_of_pos _ (by omega)
    have y0 : 0 ≤ y % (n : Int) := Int.emod_nonneg _ (by omega)
    have y1 : y % (n : Int) < n := Int.emod_lt_of_pos _ (by omega)
    generalize x % (n : Int) = u at *
    generalize y % (n : Int) = v at *
    unfold t_l_links_by_b1_s2
    have lx : xs.length ≤ 100 := by rw [lp.len]; omega
    walk_at "rd"
    refine ite_n (fun c => ?_) (fun c => ?_)
    · walk_at "rd"
      intro t ht
      have s2 : Same H' (upd H' t (.tup [.int u, .int v])) := Same.new ht
      have t1 : upd H' t (.tup [.int u, .int v]) t = some (.tup [.int u, .int v]) := upd_same
      have ntR : t ≠ R := fun e => by rw [e, r] at ht; cases ht
      generalize upd H' t (.tup [.int u, .int v]) = H2 at *
      have r2 := s2 _ _ r
      walk_at "rd"
      refine ⟨_, _, _, xs ++ [.ref t], ps ++ [(u.toNat, v.toNat)], rfl, ?_, upd_same, ?_, ok.snoc (by omega) (by omega) (fun e => c (congrArg V.int (show u = v by omega))), by simp; omega⟩
      · rw [del_upd]
        exact sm.trans (s2.del2 R)
      · rw [del_upd]
        refine (lp.same (s2.del2 R)).snoc ?_
        rw [del_ne ntR, t1, Int.toNat_of_nonneg x0, Int.toNat_of_nonneg y0]
    · exact ⟨_, _, _, xs, ps, rfl, sm, r, lp, ok, by omega⟩
  · rintro σ H' ⟨o4, o5, o6, xs, ps, rfl, sm, r, lp, ok, hps⟩
    have fin : ∀ (o4 : Option V) (xs : List V) (ps : List (Nat × Nat)) (H' : Hp), Same H (del H' R) → H' R = some (.lst xs) → PairL (del H' R) xs ps → LOk n ps → ps.length ≤ 100 → t_l_links_by_s3 K A E { nx := fun _ H' => Q .non H', rt := Q } [some (.ref a), some (.int (n : Nat)), some (.int (s : Nat)), some (.ref R), o4, o5, o6] H' := by
      intro o4 xs ps H' sm r lp ok hps
      unfold t_l_links_by_s3
      exact ⟨_, rfl, q R xs ps H' ok hps (sm.trans (del_sub _ _)) hR r (lp.same (del_sub _ _))⟩
    unfold t_l_links_by_s2
    have hS2 := (sm.trans (del_sub _ _)).seq hS
    walk_at "rd"
    refine ite_d (fun c => ?_) (fun c => ?_)
    · walk_at "rd"
      refine for_range (lo := 0) (fun i σ H' => Hold (∃ (o4 : Option V) (xs : List V) (ps : List (Nat × Nat)), σ = [some (.ref a), some (.int (n : Nat)), some (.int (s : Nat)), some (.ref R), o4, o5, o6] ∧ Same H (del H' R) ∧ H' R = some (.lst xs) ∧ PairL (del H' R) xs ps ∧ LOk n ps ∧ ps.length ≤ 50 + i)) ⟨_, xs, ps, rfl, sm, r, lp, ok, by omega⟩ ?_ ?_
      · rintro i σ H' hi ⟨o4, xs, ps, rfl, sm, r, lp, ok, hps⟩
        have hi : i < ((n : Int) - 1).toNat := hi
        have lx : xs.length ≤ 200 := by rw [lp.len]; omega
        walk_at "rd"
        intro t ht
        have s2 : Same H' (upd H' t (.tup [.int (0 + (i : Int)), .int (0 + (i : Int) + 1)])) := Same.new ht
        have t1 : upd H' t (.tup [.int (0 + (i : Int)), .int (0 + (i : Int) + 1)]) t = some (.tup [.int (0 + (i : Int)), .int (0 + (i : Int) + 1)]) := upd_same
        have ntR : t ≠ R := fun e => by rw [e, r] at ht; cases ht
        generalize upd H' t (.tup [.int (0 + (i : Int)), .int (0 + (i : Int) + 1)]) = H2 at *
        have r2 := s2 _ _ r
        walk_at "rd"
        refine ⟨_, xs ++ [.ref t], ps ++ [(i, i + 1)], rfl, ?_, upd_same, ?_, ok.snoc (by omega) (by omega) (by omega), by simp; omega⟩
        · rw [del_upd]
          exact sm.trans (s2.del2 R)
        · rw [del_upd]
          refine (lp.same (s2.del2 R)).snoc ?_
          rw [del_ne ntR, t1, Int.zero_add]
          rfl
      · rintro σ H' ⟨o4, xs, ps, rfl, sm, r, lp, ok, hps⟩
        exact fin _ xs ps H' sm r lp ok (by omega)
    · exact fin _ xs ps H' sm r lp ok (by omega)
theorem rd_l_ridden (O : OkL K A) (x1 : PySem.W.exmOne K (.ref A.c_NoWay) (.ref A.c_NoWay) = some true) (h : sp_l_ridden K A vs H Q E) : t_l_ridden K A E { nx := fun _ H' => Q .non H', rt := Q } (start N_l_ridden vs) H := by
  obtain ⟨p, C, m, L, card, day, z, g, rfl, l, hm, iz, ig, np, k⟩ := h
  obtain ⟨W, T, dx, ob⟩ := l.obj
  have no1 := led_ride W T C
  unfold t_l_ridden
  refine ⟨_, rfl, p, dx, _, rfl, ob, no1, _, rfl, _, rfl, _, rfl, _, rfl, p, C, m, L, card, day, z, g, rfl, l, hm, fun nn => absurd ⟨iz, ig⟩ nn, fun _ _ F r => ⟨fun e H1 s1 => ?_, fun lv u e => ⟨fun pst => absurd pst np, fun _ H1 l1 s1 lr => ?_⟩⟩⟩
  · exact ⟨true, x1, fun _ a ha => (k F r).1 e H1 s1, fun z => nomatch z⟩
  · exact (k F r).2 lv u e H1 l1 s1 lr
theorem rd_cost_b1 {q pR R : Addr} {l L : V} {us : List V} {nm : Str} {z c ix : Int} {row : List Int} {rs : List Addr} {Dn : Ends} {o5 o6 o7 : Option V} (hq : H q = some (.tup us)) (hl0 : 3 ≤ us.length) (hl1 : us.length ≤ 5) (hix : 5 - (us.length : Int) = ix)
    (h0 : atI us 0 = some (.str nm)) (h1 : atI us (-1) = some (.int (pr row z))) (h2 : atI us (-2) = some (.int z)) (hn : atI ([.str "single", .str "day", .str "week"] : List V) ix = some (.str nm)) (hR : SqL K H R (rs.map V.ref)) (hrow : atI (rs.map V.ref) ix = some (.ref pR)) (fR : H pR = some (.lst (row.map V.int))) (r5 : Row5 row) (z5 : In5 z)
    (k : ∀ (o5 : Option V) (H' : Hp), Same H H' → Dn.nx [some l, some L, some (.ref R), some (.int (c + pr row z)), some (.ref q), o5, o6, o7] H') :
    t_l_cost_b1 K A E Dn [some l, some L, some (.ref R), some (.int c), some (.ref q), o5, o6, o7] H := by
  obtain ⟨z1, z2⟩ := z5
  have rl := r5.1
  have hp : atI (row.map V.int) (z - 1) = some (.int (pr row z)) := atI_map (by omega) (by omega)
  have st := SqT.of (K := K) hq
  unfold t_l_cost_b1
  walk_at "rd"
  show t_l_cost_b1_s1 K A E Dn [some l, some L, some (.ref R), some (.int c), some (.ref q), o5, o6, o7] H
  unfold t_l_cost_b1_s1
  walk_at "rd"
  show t_l_cost_b1_s2 K A E Dn [some l, some L, some (.ref R), some (.int c), some (.ref q), some (.int (5 - (us.length : Int))), o6, o7] H
  rw [hix]
  unfold t_l_cost_b1_s2
  walk_at "rd"
  intro e he
  have s1 : Same H (upd H e (.lst [.str "single", .str "day", .str "week"])) := Same.new he
  have e1 : upd H e (.lst [.str "single", .str "day", .str "week"]) e = some (.lst [.str "single", .str "day", .str "week"]) := upd_same
  generalize upd H e (.lst [.str "single", .str "day", .str "week"]) = H1 at *
  have st1 := Same.tup s1 st
  have hR1 := s1.seq hR
  have f1 := s1 _ _ fR
  walk_at "rd"
  show t_l_cost_b1_s3 K A E Dn [some l, some L, some (.ref R), some (.int c), some (.ref q), some (.int ix), o6, o7] H1
  unfold t_l_cost_b1_s3
  walk_at "rd"
  show t_l_cost_b1_s4 K A E Dn [some l, some L, some (.ref R), some (.int c), some (.ref q), some (.int ix), o6, o7] H1
  unfold t_l_cost_b1_s4
  walk_at "rd"
  exact k _ _ s1
/-- does the ticket at this place serve a ride -/
def tkOf : List V → Option Tk
  | [.str _, .int z, .int p] => some (.wk z p)
  | [.str _, .int d, .int z, .int p] => some (.dy d z p)
  | [.str _, .int d, .int r, .int z, .int p] => some (.sg d r z p)
  | _ => none
theorem tkOf_vals (t : Tk) : tkOf t.vals = some t := by cases t <;> rfl
def servV (H : Hp) (d r z : Int) : V → Option V
  | .ref q => match H q with
    | some (.tup us) => (tkOf us).map fun t => V.bl (serves d r z t)
    | _ => none
  | _ => none
theorem servV_at {H : Hp} {q : Addr} {d r z : Int} {t : Tk} (h : H q = some (.tup t.vals)) : servV H d r z (.ref q) = some (.bl (serves d r z t)) := by
  show (match H q with | some (.tup us) => (tkOf us).map fun t => V.bl (serves d r z t) | _ => none) = _
  rw [h]
  show (tkOf t.vals).map _ = _
  rw [tkOf_vals]
  rfl
theorem servV_all {H : Hp} {d r z : Int} : ∀ {xs : List V} {ts : List Tk}, TkL H xs ts → xs.filterMap (servV H d r z) = ts.map fun t => V.bl (serves d r z t)
  | _, _, .nil => rfl
  | _, _, .cons ⟨q, e, h⟩ l => by
    subst e
    rw [List.filterMap_cons, servV_at h, servV_all l]
    rfl
theorem tk_take {ts : List Tk} {i : Nat} {t : Tk} (h : ts[i]? = some t) : tkCost (ts.take (i + 1)) = tkCost (ts.take i) + t.price := by
  rw [List.take_add_one, h, tkCost_append]
  show _ + tkCost [t] = _
  rw [tkCost_cons, tkCost_nil]
  omega
theorem rd_l_cost (h : sp_l_cost K A vs H Q E) : t_l_cost K A E { nx := fun _ H' => Q .non H', rt := Q } (start N_l_cost vs) H := by
  obtain ⟨l, L, R, ps, rs, S, D, W, days, xs, ts, rfl, hl, hT, hL, hR, rS, rD, rW, h7, h100, hts, w, q⟩ := h
  obtain ⟨p0, g0, f0⟩ := hR.get (i := 0) (by decide) rfl
  obtain ⟨p1, g1, f1⟩ := hR.get (i := 1) (by decide) rfl
  obtain ⟨p2, g2, f2⟩ := hR.get (i := 2) (by decide) rfl
  have lx := hT.len
  unfold t_l_cost
  walk_at "rd"
  show t_l_cost_s1 K A E _ [some (.ref l), some (.ref L), some (.ref R), some (.int 0), none, none, none, none] H
  unfold t_l_cost_s1
  walk_at "rd"
  refine for_list (K := K) (a := l) (xs := xs) (fun i σ H' => Hold (∃ o4 o5 : Option V, σ = [some (.ref l), some (.ref L), some (.ref R), some (.int (tkCost (ts.take i))), o4, o5, none, none] ∧ Same H H')) ⟨none, none, rfl, Same.refl _⟩ (fun i σ H' _ ⟨_, _, _, s⟩ => s.seq hl) ?_ ?_
  · rintro i x σ H' hx ⟨o4, o5, rfl, s⟩
    obtain ⟨t, u, ht, rfl, hu⟩ := hT.get hx
    have hu' := s _ _ hu
    rw [tk_take ht]
    have ok := w.ok t (List.mem_of_getElem? ht)
    have hRq := (hR.same s).sq
    rcases ok with ⟨z, rfl, z5⟩ | ⟨d, z, rfl, _, z5⟩ | ⟨d, r, z, rides, rfl, _, _, z5⟩
    · exact rd_cost_b1 (us := [.str "week", .int z, .int (pr W z)]) (ix := 2) hu' (by simp) (by simp) rfl rfl rfl rfl rfl hRq g2 (s _ _ f2) rW z5 fun o5 H'' s2 => ⟨_, _, rfl, s.trans s2⟩
    · exact rd_cost_b1 (us := [.str "day", .int d, .int z, .int (pr D z)]) (ix := 1) hu' (by simp) (by simp) rfl rfl rfl rfl rfl hRq g1 (s _ _ f1) rD z5 fun o5 H'' s2 => ⟨_, _, rfl, s.trans s2⟩
    · exact rd_cost_b1 (us := [.str "single", .int d, .int r, .int z, .int (pr S z)]) (ix := 0) hu' (by simp) (by simp) rfl rfl rfl rfl rfl hRq g0 (s _ _ f0) rS z5 fun o5 H'' s2 => ⟨_, _, rfl, s.trans s2⟩
  · rintro σ H1 ⟨o4, o5, rfl, s1⟩
    rw [lx, List.take_length]
    show t_l_cost_s2 K A E _ [some (.ref l), some (.ref L), some (.ref R), some (.int (tkCost ts)), o4, o5, none, none] H1
    unfold t_l_cost_s2
    have hpl := hL.len
    walk_at "rd"
    refine for_range (lo := 0) (fun i σ H' => Hold (∃ o6 o7 : Option V, σ = [some (.ref l), some (.ref L), some (.ref R), some (.int (tkCost ts)), o4, o5, o6, o7] ∧ Same H H')) ⟨none, none, rfl, s1⟩ ?_ ?_
    · rintro i σ H2 hi ⟨o6, o7, rfl, s2⟩
      have hi : i < 7 := hi
      obtain ⟨rides, hd⟩ := get_some (l := days) (i := i) (by omega)
      have lL2 := hL.same s2
      obtain ⟨p3, g3, f3⟩ := lL2.get (i := 0 + (i : Int)) (by omega) (by rw [Int.zero_add]; exact hd)
      have lLq := lL2.sq
      have rl := h100 _ (List.mem_of_getElem? hd)
      walk_at "rd"
      refine for_range (lo := 0) (fun j σ H'' => Hold (∃ o7 : Option V, σ = [some (.ref l), some (.ref L), some (.ref R), some (.int (tkCost ts)), o4, o5, some (.int (0 + (i : Int))), o7] ∧ Same H2 H'')) ⟨o7, rfl, Same.refl _⟩ ?_ ?_
      · rintro j σ H3 hj ⟨o7, rfl, s3⟩
        rw [List.length_map] at hj
        have hj : j < rides.length := by omega
        obtain ⟨z, hz⟩ := get_some hj
        have e1 : atI (rides.map V.int) (0 + (j : Int)) = some (.int z) := by
          rw [Int.zero_add]
          exact atI_nat (by rw [List.getElem?_map, hz]; rfl)
        have sv := w.serve hd hz
        rw [← Int.zero_add (i : Int), ← Int.zero_add (j : Int)] at sv
        have s23 := s2.trans s3
        have hl3 := s23.seq hl
        have hT3 := hT.same s23
        have f33 := s3 _ _ f3
        have lLq3 := s3.seq lLq
        walk_at "rd"
        intro G hG
        refine lc_listF (F := servV H3 (0 + (i : Int)) (0 + (j : Int)) z) hG hl3 (by omega) ?_ ?_
        · intro m x H4 hx s4 G2 N hG2 hN
          obtain ⟨t, u, ht, rfl, hu⟩ := hT3.get hx
          have hu4 := s4 _ _ hu
          have f34 := s4 _ _ f33
          have lLq4 := s4.seq lLq3
          have ev := servV_at (d := 0 + (i : Int)) (r := 0 + (j : Int)) (z := z) hu
          walk_at "rd"
          exact hG2 _ _ ev (Same.refl _)
        · intro H4 s4 d4
          rw [servV_all hT3] at d4
          have fl : (ts.map fun t => V.bl (serves (0 + (i : Int)) (0 + (j : Int)) z t)).all flatV = true := by
            rw [List.all_eq_true]
            intro x hx
            obtain ⟨t, _, rfl⟩ := List.mem_map.mp hx
            rfl
          have isIn : inV (.bl true) (ts.map fun t => V.bl (serves (0 + (i : Int)) (0 + (j : Int)) z t)) = true := by
            obtain ⟨t, ht, e⟩ := sv
            exact List.any_eq_true.mpr ⟨V.bl true, List.mem_map.mpr ⟨t, ht, by rw [e]⟩, rfl⟩
          refine ⟨G, _, rfl, .inl (SqL.of d4), rfl, fl, ?_⟩
          rw [isIn]
          walk_at "rd"
          exact ⟨_, rfl, s3.trans (s4.trans (del_sub _ _))⟩
      · rintro σ H3 ⟨o7, rfl, s3⟩
        exact ⟨_, _, rfl, s2.trans s3⟩
    · rintro σ H2 ⟨o6, o7, rfl, s2⟩
      unfold t_l_cost_s3
      exact ⟨_, rfl, q H2 s2⟩
end
end FW

namespace FW
open PySem PySem.Spec PyProof.Rows L2
theorem take_snoc {α : Type} {l : List α} {i : Nat} {x : α} (h : l[i]? = some x) : l.take (i + 1) = l.take i ++ [x] := by
  rw [List.take_add_one, h]
  rfl
theorem max_ifK (a b : Int) : (if b > a then b else a) = max a b := by
  by_cases c : b > a
  · rw [if_pos c]; omega
  · rw [if_neg c]; omega
/-! ### tickets as data -/
def Tk.data : Tk → PyData
  | .wk z p => .tuple [.str "week", .int z, .int p]
  | .dy d z p => .tuple [.str "day", .int d, .int z, .int p]
  | .sg d r z p => .tuple [.str "single", .int d, .int r, .int z, .int p]
theorem dp_tk {K : PySem.W.Frag} {H : Hp} {q : Addr} {t : Tk} (h : H q = some (.tup t.vals)) : Dp K H (.ref q) t.data := by
  cases t with
  | wk z p => exact .tup (SqT.of h) (.cons (.str _) (.cons (.int _) (.cons (.int _) .nil)))
  | dy d z p => exact .tup (SqT.of h) (.cons (.str _) (.cons (.int _) (.cons (.int _) (.cons (.int _) .nil))))
  | sg d r z p => exact .tup (SqT.of h) (.cons (.str _) (.cons (.int _) (.cons (.int _) (.cons (.int _) (.cons (.int _) .nil)))))
theorem shp_tk (t : Tk) : Shp 1 t.data := by
  cases t <;> (refine Shp.tuple fun d hd => ?_; simp only [List.mem_cons, List.not_mem_nil, or_false] at hd)
  · rcases hd with e | e | e <;> rw [e]
    · exact ⟨by decide +kernel, Nat.zero_le _⟩
    · exact Shp.int 0 _
    · exact Shp.int 0 _
  · rcases hd with e | e | e | e <;> rw [e]
    · exact ⟨by decide +kernel, Nat.zero_le _⟩
    · exact Shp.int 0 _
    · exact Shp.int 0 _
    · exact Shp.int 0 _
  · rcases hd with e | e | e | e | e <;> rw [e]
    · exact ⟨by decide +kernel, Nat.zero_le _⟩
    · exact Shp.int 0 _
    · exact Shp.int 0 _
    · exact Shp.int 0 _
    · exact Shp.int 0 _
theorem dpAll_tk {K : PySem.W.Frag} {H : Hp} : ∀ {xs : List V} {ts : List Tk}, TkL H xs ts → DpAll K H xs (ts.map Tk.data)
  | _, _, .nil => .nil
  | _, _, .cons ⟨q, e, h⟩ r => by
    subst e
    exact .cons (dp_tk h) (dpAll_tk r)
theorem shp_tks (ts : List Tk) : Shp 2 (.list (ts.map Tk.data)) := Shp.list fun d hd => by
  obtain ⟨t, _, rfl⟩ := List.mem_map.mp hd
  exact shp_tk t
section
variable {K : PySem.W.Frag} {A : Ad} {vs : List V} {H : Hp} {Q : VK} {E : XK}
theorem rd_l_stays (O : OkL K A) (h : sp_l_stays K A vs H Q E) : t_l_stays K A E { nx := fun _ H' => Q .non H', rt := Q } (start N_l_stays vs) H := by
  obtain ⟨p, C, m, L, rfl, l, q⟩ := h
  obtain ⟨W, T, dx, ob⟩ := l.obj
  have cl := O.cl
  have no1 := led_tick W T C
  have fl := wk_flat (L.cards "one") 0
  have sz := l.sz "one"
  have hm := l.hm
  unfold t_l_stays
  walk_at "rd"
  intro t xs ts H1 s1 ht0 ht tl _ _ hlen
  have lx : xs.length ≤ 50000 := by rw [tl.len]; omega
  show t_l_stays_s1 K A E _ [some (.ref p), some (.ref t), none] H1
  unfold t_l_stays_s1
  walk_at "rd"
  intro u hu
  have s2 : Same H1 (upd H1 u (.lst xs)) := Same.new hu
  have u2 : upd H1 u (.lst xs) u = some (.lst xs) := upd_same
  generalize upd H1 u (.lst xs) = H2 at *
  have s02 := s1.trans s2
  have l2 := l.same s02
  have ob2 := s02 _ _ ob
  clear l ob
  show t_l_stays_s2 K A E _ [some (.ref p), some (.ref t), some (.ref u)] H2
  unfold t_l_stays_s2
  walk_at "rd"
  intro t3 xs3 ts3 H3 s3 _ _ _ _ _ _
  have l3 := l2.same s3
  have ob3 := s3 _ _ ob2
  clear l2 ob2
  show t_l_stays_s3 K A E _ [some (.ref p), some (.ref t), some (.ref u)] H3
  unfold t_l_stays_s3
  walk_at "rd"
  intro t4 xs4 ts4 H4 s4 _ _ _ _ _ _
  show t_l_stays_s4 K A E _ [some (.ref p), some (.ref t), some (.ref u)] H4
  unfold t_l_stays_s4
  have s14 := (s2.trans s3).trans s4
  have tl4 := tl.same s14
  have ht4 := s14 _ _ ht
  have u4 := (s3.trans s4) _ _ u2
  walk_at "rd"
  exact eqD_yes (.lst (SqL.of ht4) (dpAll_tk tl4)) (.lst (SqL.of u4) (dpAll_tk tl4)) (shp_tks ts) (by decide) (q H4 ((s02.trans s3).trans s4))
theorem rd_drawn_b1_s3 {R L p : Addr} {rs : List Addr} {S D W r : List Int} {n held v own : Int} {o7 : Option V} {Dn : Ends} (hR : LLAt K H R rs [S, D, W]) (rS : Row5 S) (h5 : ∀ z ∈ r, In5 z) (fr : H p = some (.lst (r.map V.int)))
    (q : ∀ (v' : Int) (o7' : Option V), v + sgSum S (max held own) r ≤ v' → Dn.nx [some (.int n), some (.ref R), some (.ref L), some (.int held), some (.int v'), some (.ref p), some (.int own), o7'] H) :
    t_l_drawn_b1_s3 K A E Dn [some (.int n), some (.ref R), some (.ref L), some (.int held), some (.int v), some (.ref p), some (.int own), o7] H := by
  unfold t_l_drawn_b1_s3
  have hRs := hR.sq
  obtain ⟨p0, g0, f0⟩ := hR.get (i := 0) (by decide) rfl
  have lS := rS.1
  walk_at "rd"
  refine for_list (K := K) (a := p) (xs := r.map V.int) (fun i σ H' => Hold (∃ (v' : Int) (o7 : Option V), σ = [some (.int n), some (.ref R), some (.ref L), some (.int held), some (.int v'), some (.ref p), some (.int own), o7] ∧ H' = H ∧ v + sgSum S (max held own) (r.take i) ≤ v')) ⟨v, o7, rfl, rfl, by show v + 0 ≤ v; omega⟩ ?_ ?_ ?_
  · rintro i σ H' _ ⟨v', o7, rfl, rfl, _⟩
    exact SqL.of fr
  · rintro i x σ H' hx ⟨v', o7, rfl, rfl, hv⟩
    rw [List.getElem?_map] at hx
    obtain ⟨z, hz, rfl⟩ := Option.map_eq_some_iff.mp hx
    have z5 := h5 z (List.mem_of_getElem? hz)
    have z51 := z5.1
    have z52 := z5.2
    have k0 : 0 ≤ n / 6 % 2 := Int.emod_nonneg _ (by decide)
    rw [take_snoc hz, sgSum_app, sgSum_one]
    obtain ⟨y, hy, hy1, hy2⟩ : ∃ y : Int, (if z + n / 6 % 2 < 5 then z + n / 6 % 2 else 5) = y ∧ z ≤ y ∧ y ≤ 5 := ⟨_, rfl, by split <;> omega, by split <;> omega⟩
    have hp : atI (S.map V.int) ((if z + n / 6 % 2 < 5 then z + n / 6 % 2 else 5) - 1) = some (.int (pr S y)) := by
      rw [hy]
      exact atI_map (by omega) (by omega)
    have lo := low_le (row := S) z51 hy1 (by omega)
    walk_at "rd"
    rw [max_ifK]
    refine ite_d (fun c => ?_) (fun c => ?_)
    · rw [if_pos c]
      walk_at "rd"
      exact ⟨_, _, rfl, rfl, by omega⟩
    · rw [if_neg c]
      exact ⟨v', _, rfl, rfl, by omega⟩
  · rintro σ H' ⟨v', o7, rfl, rfl, hv⟩
    rw [List.length_map, List.take_length] at hv
    exact q v' o7 hv
theorem rd_l_drawn (h : sp_l_drawn K A vs H Q E) : t_l_drawn K A E { nx := fun _ H' => Q .non H', rt := Q } (start N_l_drawn vs) H := by
  obtain ⟨n, L, R, ps, rs, S, D, W, days, rfl, hL, hR, rS, rD, rW, h5, h7, q⟩ := h
  have hRs := hR.sq
  obtain ⟨p1, g1, f1⟩ := hR.get (i := 1) (by decide) rfl
  obtain ⟨p2, g2, f2⟩ := hR.get (i := 2) (by decide) rfl
  have lD := rD.1
  have lW := rW.1
  have hb0 : 0 ≤ n % 6 := Int.emod_nonneg _ (by decide)
  have hb1 : n % 6 < 6 := Int.emod_lt_of_pos _ (by decide)
  unfold t_l_drawn
  walk_at "rd"
  show t_l_drawn_s1 K A E _ [some (.int n), some (.ref R), some (.ref L), some (.int (n % 6)), none, none, none, none] H
  unfold t_l_drawn_s1
  walk_at "rd"
  show t_l_drawn_s2 K A E _ [some (.int n), some (.ref R), some (.ref L), some (.int (n % 6)), some (.int 0), none, none, none] H
  generalize n % 6 = held at *
  have last : ∀ v : Int, ownCost W held ≤ v → t_l_drawn_s3 K A E { nx := fun _ H' => Q .non H', rt := Q } [some (.int n), some (.ref R), some (.ref L), some (.int held), some (.int v), none, none, none] H := by
    intro v hv
    unfold t_l_drawn_s3
    have hLq := hL.sq
    walk_at "rd"
    refine for_list (K := K) (a := L) (xs := ps.map V.ref) (fun i σ H' => Hold (∃ (n v' : Int) (o5 o6 o7 : Option V), σ = [some (.int n), some (.ref R), some (.ref L), some (.int held), some (.int v'), o5, o6, o7] ∧ H' = H ∧ v + ((days.take i).map (dayBest S D held)).sum ≤ v')) ⟨n, v, none, none, none, rfl, rfl, by show v + 0 ≤ v; omega⟩ ?_ ?_ ?_
    · rintro i σ H' _ ⟨n, v', o5, o6, o7, rfl, rfl, _⟩
      exact hLq
    · rintro i x σ H' hx ⟨n, v', o5, o6, o7, rfl, rfl, hv'⟩
      rw [List.getElem?_map] at hx
      obtain ⟨u, hu, rfl⟩ := Option.map_eq_some_iff.mp hx
      obtain ⟨r, hr⟩ := get_some (l := days) (i := i) (by rw [← hL.len]; exact (List.getElem?_eq_some_iff.mp hu).1)
      have fr := hL.at_ _ _ _ hu hr
      have r5 := h5 r (List.mem_of_getElem? hr)
      have o0 : 0 ≤ n / 6 % 6 := Int.emod_nonneg _ (by decide)
      have o1 : n / 6 % 6 < 6 := Int.emod_lt_of_pos _ (by decide)
      rw [take_snoc hr, List.map_append, List.sum_append]
      unfold t_l_drawn_b1
      walk_at "rd"
      show t_l_drawn_b1_s1 K A E _ [some (.int (n / 6)), some (.ref R), some (.ref L), some (.int held), some (.int v'), some (.ref u), o6, o7] H'
      unfold t_l_drawn_b1_s1
      walk_at "rd"
      show t_l_drawn_b1_s2 K A E _ [some (.int (n / 6)), some (.ref R), some (.ref L), some (.int held), some (.int v'), some (.ref u), some (.int (n / 6 % 6)), o7] H'
      generalize n / 6 % 6 = own at *
      unfold t_l_drawn_b1_s2
      have db := dayBest_le (S := S) (D := D) (held := held) (rides := r) rD o0 (by omega)
      unfold dayCost at db
      have rest : ∀ v2 : Int, (ownCost D own ≤ v2 - v' ∨ r = []) → v' ≤ v2 → t_l_drawn_b1_s3 K A E { nx := fun σ H'' => Hold (∃ (n v' : Int) (o5 o6 o7 : Option V), σ = [some (.int n), some (.ref R), some (.ref L), some (.int held), some (.int v'), o5, o6, o7] ∧ H'' = H' ∧ v + (((days.take i).map (dayBest S D held)).sum + ([r].map (dayBest S D held)).sum) ≤ v'), rt := Q, bk := t_l_drawn_s4 K A E { nx := fun _ H' => Q .non H', rt := Q }, ct := fun σ H'' => Hold (∃ (n v' : Int) (o5 o6 o7 : Option V), σ = [some (.int n), some (.ref R), some (.ref L), some (.int held), some (.int v'), o5, o6, o7] ∧ H'' = H' ∧ v + (((days.take i).map (dayBest S D held)).sum + ([r].map (dayBest S D held)).sum) ≤ v') }
          [some (.int (n / 6)), some (.ref R), some (.ref L), some (.int held), some (.int v2), some (.ref u), some (.int own), o7] H' := by
        intro v2 h2 hv2
        refine rd_drawn_b1_s3 hR rS r5 fr fun v3 o7' h3 => ⟨_, v3, _, _, _, rfl, rfl, ?_⟩
        have e1 : ([r].map (dayBest S D held)).sum = dayBest S D held r := by simp
        rw [e1]
        rcases h2 with h2 | h2
        · omega
        · rw [h2, dayBest_nil]
          rw [h2] at h3
          have : sgSum S (max held own) [] = 0 := rfl
          omega
      walk_at "rd"
      refine ite_d (fun c => ?_) (fun c => ?_)
      · have c : 0 < own := c
        refine ⟨_, rfl, _, .inl ⟨_, SqL.of fr, rfl⟩, ite_b (fun c2 => ?_) (fun c2 => ?_)⟩
        · have hp : atI (D.map V.int) (own - 1) = some (.int (pr D own)) := atI_map (by omega) (by omega)
          have lo := low_le (row := D) (z := own) (k := own) (by omega) (Int.le_refl _) (by omega)
          have nn := low_nn (z := own) rD.2
          walk_at "rd"
          refine rest _ (.inl ?_) (by omega)
          unfold ownCost
          rw [if_pos c]
          omega
        · refine rest v' (.inr ?_) (Int.le_refl _)
          cases r with
          | nil => rfl
          | cons a b => cases c2
      · have c : ¬ 0 < own := c
        refine rest v' (.inl ?_) (Int.le_refl _)
        unfold ownCost
        rw [if_neg c]
        omega
    · rintro σ H' ⟨n, v', o5, o6, o7, rfl, rfl, hv'⟩
      unfold t_l_drawn_s4
      rw [List.length_map, hL.len, List.take_length] at hv'
      have wb := weekBest_le (S := S) (D := D) (days := days) rW hb0 (by omega)
      unfold weekCost at wb
      exact ⟨_, rfl, q v' (by omega)⟩
  unfold t_l_drawn_s2
  walk_at "rd"
  refine ite_d (fun c => ?_) (fun c => ?_)
  · have c : 0 < held := c
    have hp : atI (W.map V.int) (held - 1) = some (.int (pr W held)) := atI_map (by omega) (by omega)
    have lo := low_le (row := W) (z := held) (k := held) (by omega) (Int.le_refl _) (by omega)
    walk_at "rd"
    refine last _ ?_
    unfold ownCost
    rw [if_pos c]
    exact lo
  · have c : ¬ 0 < held := c
    refine last 0 ?_
    unfold ownCost
    rw [if_neg c]
    exact Int.le_refl _
end
end FW

namespace FW
open PySem PySem.Spec PyProof.Rows L2
theorem PlanL.same {H H' : Hp} (s : Same H H') : ∀ {xs : List V} {rs : List Plan}, PlanL H xs rs → PlanL H' xs rs
  | _, _, .nil => .nil
  | _, _, .cons ⟨q, e, h⟩ r => .cons ⟨q, e, s _ _ h⟩ (PlanL.same s r)
theorem PlanL.len {H : Hp} {xs : List V} {rs : List Plan} (a : PlanL H xs rs) : xs.length = rs.length := Paired.length a
theorem PlanL.get {H : Hp} : ∀ {xs : List V} {rs : List Plan} {i : Nat} {x : V}, PlanL H xs rs → xs[i]? = some x → ∃ r q, rs[i]? = some r ∧ x = .ref q ∧ H q = some (.tup r.vals)
  | _, _, 0, _, .cons ⟨q, e, h⟩ _, hx => ⟨_, q, rfl, by rw [← e]; exact (Option.some.inj hx).symm, h⟩
  | _, _, i + 1, x, .cons _ r, hx => PlanL.get (i := i) r hx
theorem ToldL.same {H H' : Hp} (s : Same H H') : ∀ {xs : List V} {rs : List Rd5}, ToldL H xs rs → ToldL H' xs rs
  | _, _, .nil => .nil
  | _, _, .cons ⟨q, e, h⟩ r => .cons ⟨q, e, s _ _ h⟩ (ToldL.same s r)
theorem ToldL.len {H : Hp} {xs : List V} {rs : List Rd5} (a : ToldL H xs rs) : xs.length = rs.length := Paired.length a
theorem ToldL.snoc {H : Hp} {xs : List V} {rs : List Rd5} {q : Addr} {r : Rd5} (l : ToldL H xs rs) (h : H q = some (.tup [.int r.d, .int r.z, .int r.c])) : ToldL H (xs ++ [.ref q]) (rs ++ [r]) := Paired.snoc l ⟨q, rfl, h⟩
theorem ToldL.get {H : Hp} : ∀ {xs : List V} {rs : List Rd5} {i : Nat} {x : V}, ToldL H xs rs → xs[i]? = some x → ∃ r q, rs[i]? = some r ∧ x = .ref q ∧ H q = some (.tup [.int r.d, .int r.z, .int r.c])
  | _, _, 0, _, .cons ⟨q, e, h⟩ _, hx => ⟨_, q, rfl, by rw [← e]; exact (Option.some.inj hx).symm, h⟩
  | _, _, i + 1, x, .cons _ r, hx => ToldL.get (i := i) r hx
section
variable {K : PySem.W.Frag} {A : Ad} {vs : List V} {H : Hp} {Q : VK} {E : XK}
theorem rides_loop1 {n i : Nat} {H' : Hp} {R t : Addr} {H0 : Hp} {xs : List V} {rs : List Plan} {r : Plan} (sm : Same H0 (del H' R)) (rr : H' R = some (.lst xs)) (lp : PlanL (del H' R) xs rs) (ok : ∀ r ∈ rs, r.ok n) (hr : r.ok n) (ht : H' t = none) :
    Same H0 (del (upd (upd H' t (.tup r.vals)) R (.lst (xs ++ [.ref t]))) R) ∧ PlanL (del (upd (upd H' t (.tup r.vals)) R (.lst (xs ++ [.ref t]))) R) (xs ++ [.ref t]) (rs ++ [r]) ∧ ∀ x ∈ rs ++ [r], x.ok n := by
  have s2 : Same H' (upd H' t (.tup r.vals)) := Same.new ht
  have ntR : t ≠ R := fun e => by rw [e, rr] at ht; cases ht
  refine ⟨?_, ?_, fun x hx => ?_⟩
  · rw [del_upd]
    exact sm.trans (s2.del2 R)
  · rw [del_upd]
    refine (lp.same (s2.del2 R)).snoc ?_
    refine ⟨t, rfl, ?_⟩
    rw [del_ne ntR, upd_same]
  · rcases List.mem_append.mp hx with m | m
    · exact ok x m
    · rw [List.mem_singleton.mp m]; exact hr
theorem rd_l_rides (h : sp_l_rides K A vs H Q E) : t_l_rides K A E { nx := fun _ H' => Q .non H', rt := Q } (start N_l_rides vs) H := by
  obtain ⟨a, ns, n, s, rfl, hS, n1, n9, s9, q⟩ := h
  have md : ∀ c : Int, 0 ≤ c % (n : Int) ∧ c % (n : Int) < (n : Int) := fun c => ⟨Int.emod_nonneg _ (by omega), Int.emod_lt_of_pos _ (by omega)⟩
  unfold t_l_rides
  walk_at "rd"
  intro R hR
  have s1 : Same H (upd H R (.lst [])) := Same.new hR
  have sd1 : Same H (del (upd H R (.lst [])) R) := by rw [del_new hR]; exact Same.refl _
  have r1 : upd H R (.lst []) R = some (.lst []) := upd_same
  generalize upd H R (.lst []) = H1 at *
  show t_l_rides_s1 K A E _ [some (.ref a), some (.int (n : Nat)), some (.int (s : Nat)), some (.ref R), none, none, none, none, none, none] H1
  unfold t_l_rides_s1
  have hS1 := s1.seq hS
  walk_at "rd"
  refine ite_d (fun _ => ?_) (fun _ => ?_)
  · walk_at "rd"
    refine for_range (lo := 0) (fun i σ H' => Hold (∃ (o4 o5 : Option V) (xs : List V) (rs : List Plan), σ = [some (.ref a), some (.int (n : Nat)), some (.int (s : Nat)), some (.ref R), o4, o5, none, none, none, none] ∧ Same H (del H' R) ∧ H' R = some (.lst xs) ∧ PlanL (del H' R) xs rs ∧ (∀ r ∈ rs, r.ok n) ∧ rs.length = i)) ⟨none, none, [], [], rfl, sd1, r1, .nil, (fun r hr => by cases hr), rfl⟩ ?_ ?_
    · rintro i σ H' hi ⟨o4, o5, xs, rs, rfl, sm, r, lp, ok, hps⟩
      have hi : i < 18 := hi
      have hS2 := (sm.trans (del_sub _ _)).seq hS
      have lx : xs.length ≤ 100 := by rw [lp.len]; omega
      unfold t_l_rides_b1
      walk_at "rd"
      generalize (cell ns 1 + cell ns 2 + 7919 * (0 + (i : Int))) * 48271 = c0 at *
      show t_l_rides_b1_s1 K A E _ [some (.ref a), some (.int (n : Nat)), some (.int (s : Nat)), some (.ref R), some (.int (0 + (i : Int))), some (.int (c0 % 2147483647)), none, none, none, none] H'
      generalize c0 % 2147483647 = c at *
      unfold t_l_rides_b1_s1
      obtain ⟨g1, g2⟩ := md c
      obtain ⟨g3, g4⟩ := md (c / (n : Int))
      walk_at "rd"
      refine .inr ⟨_, rfl, ?_⟩
      generalize hstep : (if decide (V.int ((0 + (i : Int)) % 3) = V.int 2) = true then 1 else 0 : Int) = step at *
      have st : 0 ≤ step := by rw [← hstep]; split <;> omega
      walk_at "rd"
      intro t ht
      have ll := rides_loop1 (n := n) (i := i) (r := ⟨"one", step, c % (n : Int), c / (n : Int) % (n : Int)⟩) sm r lp ok ⟨.inl rfl, st, g1, g2, g3, g4⟩ ht
      have e : upd H' t (.tup [.str "one", .int step, .int (c % (n : Int)), .int (c / (n : Int) % (n : Int))]) = upd H' t (.tup (Plan.vals ⟨"one", step, c % (n : Int), c / (n : Int) % (n : Int)⟩)) := rfl
      dsimp only
      rw [e]
      have r2 : upd H' t (.tup (Plan.vals ⟨"one", step, c % (n : Int), c / (n : Int) % (n : Int)⟩)) R = some (.lst xs) := (Same.new ht) _ _ r
      walk_at "rd"
      exact ⟨_, _, _, _, rfl, ll.1, upd_same, ll.2.1, ll.2.2, by rw [List.length_append, hps]; rfl⟩
    · rintro σ H' ⟨o4, o5, xs, rs, rfl, sm, r, lp, ok, hps⟩
      have hps : rs.length = 18 := hps
      exact ⟨_, rfl, q R xs rs H' ok (by omega) (sm.trans (del_sub _ _)) hR r (lp.same (del_sub _ _))⟩
  · unfold t_l_rides_s2
    have e1 : 18 + 2 * (s : Int) = ((18 + 2 * s : Nat) : Int) := by omega
    have e2 : 28 + 2 * (s : Int) = ((28 + 2 * s : Nat) : Int) := by omega
    obtain ⟨cells, ec, hcl⟩ := cut_nat ns (18 + 2 * s) (28 + 2 * s)
    rw [← e1, ← e2] at ec
    walk_at "rd"
    intro Y hY
    rw [ec]
    have s2 : Same H1 (upd H1 Y (.lst (cells.map V.int))) := Same.new hY
    have y1 : upd H1 Y (.lst (cells.map V.int)) Y = some (.lst (cells.map V.int)) := upd_same
    have nYR : Y ≠ R := fun e => by rw [e, r1] at hY; cases hY
    have sd2 := sd1.trans (s2.del2 R)
    have r2 := s2 _ _ r1
    generalize upd H1 Y (.lst (cells.map V.int)) = H2 at *
    have yd : del H2 R Y = some (.lst (cells.map V.int)) := by rw [del_ne nYR]; exact y1
    walk_at "rd"
    refine for_enumL (K := K) (a := Y) (xs := cells.map V.int) (fun i σ H' => Hold (∃ (o4 o6 o7 o8 o9 : Option V) (xs : List V) (rs : List Plan), σ = [some (.ref a), some (.int (n : Nat)), some (.int (s : Nat)), some (.ref R), o4, none, o6, o7, o8, o9] ∧ Same H (del H' R) ∧ H' R = some (.lst xs) ∧ PlanL (del H' R) xs rs ∧ (∀ r ∈ rs, r.ok n) ∧ rs.length = i ∧ Same (del H2 R) (del H' R))) ⟨none, none, none, none, none, [], [], rfl, sd2, r2, .nil, (fun r hr => by cases hr), rfl, Same.refl _⟩
      (fun i σ H' _ ⟨_, _, _, _, _, _, _, _, _, _, _, _, _, s3⟩ => (s3.trans (del_sub _ _)).seq (SqL.of yd)) ?_ ?_
    · rintro i x σ H3 T hx ⟨o4, o6, o7, o8, o9, xs, rs, rfl, sm, r, lp, ok, hps, s3⟩ hT
      rw [List.getElem?_map] at hx
      obtain ⟨c, hc, rfl⟩ := Option.map_eq_some_iff.mp hx
      have hi : i < cells.length := (List.getElem?_eq_some_iff.mp hc).1
      have hi : i < 10 := by omega
      have s4 : Same H3 (upd H3 T (.tup [V.int (i : Nat), V.int c])) := Same.new hT
      have t4 : upd H3 T (.tup [V.int (i : Nat), V.int c]) T = some (.tup [V.int (i : Nat), V.int c]) := upd_same
      have sm4 := sm.trans (s4.del2 R)
      have lp4 := lp.same (s4.del2 R)
      have s34 := s3.trans (s4.del2 R)
      have r4 := s4 _ _ r
      generalize upd H3 T (.tup [V.int (i : Nat), V.int c]) = H4 at *
      have lx : xs.length ≤ 100 := by rw [lp.len]; omega
      walk_at "rd"
      obtain ⟨g1, g2⟩ := md (c / 2)
      obtain ⟨g3, g4⟩ := md (c / 2 / (n : Int))
      show t_l_rides_b2 K A E _ [some (.ref a), some (.int (n : Nat)), some (.int (s : Nat)), some (.ref R), some (.int (i : Nat)), none, some (.int c), o7, o8, o9] H4
      unfold t_l_rides_b2
      walk_at "rd"
      show t_l_rides_b2_s1 K A E _ [some (.ref a), some (.int (n : Nat)), some (.int (s : Nat)), some (.ref R), some (.int (i : Nat)), none, some (.int c), some (.int (c / 2 % (n : Int))), o8, o9] H4
      unfold t_l_rides_b2_s1
      walk_at "rd"
      show t_l_rides_b2_s2 K A E _ [some (.ref a), some (.int (n : Nat)), some (.int (s : Nat)), some (.ref R), some (.int (i : Nat)), none, some (.int c), some (.int (c / 2 % (n : Int))), some (.int (c / 2 / (n : Int) % (n : Int))), o9] H4
      generalize c / 2 % (n : Int) = st at *
      generalize c / 2 / (n : Int) % (n : Int) = gl at *
      unfold t_l_rides_b2_s2
      have x0 : 0 ≤ (c / 3 + (i : Int)) % 8 := Int.emod_nonneg _ (by decide)
      have x1 : (c / 3 + (i : Int)) % 8 < 8 := Int.emod_lt_of_pos _ (by decide)
      have p0 : (0 : Int) ≤ c / 6 % 10 ^ Int.toNat 6 := Int.emod_nonneg _ (by decide)
      have pick : ∃ y : Int, atI ([.int 0, .int 0, .int 1, .int 0, .int 5, .int 0, .int (c / 6 % 10 ^ Int.toNat 6), .int 0] : List V) ((c / 3 + (i : Int)) % 8) = some (.int y) ∧ 0 ≤ y := by
        generalize (c / 3 + (i : Int)) % 8 = x at *
        generalize c / 6 % 10 ^ Int.toNat 6 = y at *
        have hx : x = 0 ∨ x = 1 ∨ x = 2 ∨ x = 3 ∨ x = 4 ∨ x = 5 ∨ x = 6 ∨ x = 7 := by omega
        rcases hx with e | e | e | e | e | e | e | e <;> rw [e]
        · exact ⟨0, rfl, by decide⟩
        · exact ⟨0, rfl, by decide⟩
        · exact ⟨1, rfl, by decide⟩
        · exact ⟨0, rfl, by decide⟩
        · exact ⟨5, rfl, by decide⟩
        · exact ⟨0, rfl, by decide⟩
        · exact ⟨y, rfl, p0⟩
        · exact ⟨0, rfl, by decide⟩
      obtain ⟨step, hp, hst⟩ := pick
      walk_at "rd"
      intro Z hZ
      have s5 : Same H4 (upd H4 Z (.lst [.int 0, .int 0, .int 1, .int 0, .int 5, .int 0, .int (c / 6 % 10 ^ Int.toNat 6), .int 0])) := Same.new hZ
      have z5 : upd H4 Z (.lst [.int 0, .int 0, .int 1, .int 0, .int 5, .int 0, .int (c / 6 % 10 ^ Int.toNat 6), .int 0]) Z = some (.lst [.int 0, .int 0, .int 1, .int 0, .int 5, .int 0, .int (c / 6 % 10 ^ Int.toNat 6), .int 0]) := upd_same
      generalize upd H4 Z (.lst [.int 0, .int 0, .int 1, .int 0, .int 5, .int 0, .int (c / 6 % 10 ^ Int.toNat 6), .int 0]) = H5 at *
      walk_at "rd"
      have sm5 := sm4.trans (s5.del2 R)
      have lp5 := lp4.same (s5.del2 R)
      have s35 := s34.trans (s5.del2 R)
      have r5 := s5 _ _ r4
      show t_l_rides_b2_s3 K A E _ [some (.ref a), some (.int (n : Nat)), some (.int (s : Nat)), some (.ref R), some (.int (i : Nat)), none, some (.int c), some (.int st), some (.int gl), some (.int step)] H5
      unfold t_l_rides_b2_s3
      have y0 : 0 ≤ c % 2 := Int.emod_nonneg _ (by decide)
      have y1' : c % 2 < 2 := Int.emod_lt_of_pos _ (by decide)
      have pick2 : ∃ cd : Str, atI ([.str "one", .str "two"] : List V) (c % 2) = some (.str cd) ∧ (cd = "one" ∨ cd = "two") := by
        generalize c % 2 = x at *
        have hx : x = 0 ∨ x = 1 := by omega
        rcases hx with e | e <;> rw [e]
        · exact ⟨"one", rfl, .inl rfl⟩
        · exact ⟨"two", rfl, .inr rfl⟩
      obtain ⟨cd, hcd, hcd2⟩ := pick2
      walk_at "rd"
      intro Z2 hZ2
      have s6 : Same H5 (upd H5 Z2 (.lst [.str "one", .str "two"])) := Same.new hZ2
      have z6 : upd H5 Z2 (.lst [.str "one", .str "two"]) Z2 = some (.lst [.str "one", .str "two"]) := upd_same
      generalize upd H5 Z2 (.lst [.str "one", .str "two"]) = H6 at *
      have sm6 := sm5.trans (s6.del2 R)
      have lp6 := lp5.same (s6.del2 R)
      have s36 := s35.trans (s6.del2 R)
      have r6 := s6 _ _ r5
      walk_at "rd"
      intro t ht
      have ll := rides_loop1 (n := n) (i := i) (r := ⟨cd, step, st, gl⟩) sm6 r6 lp6 ok ⟨hcd2, hst, g1, g2, g3, g4⟩ ht
      have ll2 := rides_loop1 (n := n) (i := i) (r := ⟨cd, step, st, gl⟩) s36 r6 lp6 ok ⟨hcd2, hst, g1, g2, g3, g4⟩ ht
      have e : upd H6 t (.tup [.str cd, .int step, .int st, .int gl]) = upd H6 t (.tup (Plan.vals ⟨cd, step, st, gl⟩)) := rfl
      dsimp only
      rw [e]
      have r7 : upd H6 t (.tup (Plan.vals ⟨cd, step, st, gl⟩)) R = some (.lst xs) := (Same.new ht) _ _ r6
      walk_at "rd"
      exact ⟨_, _, _, _, _, _, _, rfl, ll.1, upd_same, ll.2.1, ll.2.2, by rw [List.length_append, hps]; rfl, ll2.1⟩
    · rintro σ H' ⟨o4, o6, o7, o8, o9, xs, rs, rfl, sm, r, lp, ok, hps, s3⟩
      rw [List.length_map] at hps
      unfold t_l_rides_s3
      exact ⟨_, rfl, q R xs rs H' ok (by omega) (sm.trans (del_sub _ _)) hR r (lp.same (del_sub _ _))⟩
end
end FW

namespace FW
open PySem PySem.Spec PyProof.Rows L2
/-- what is told of the rides of such days -/
def toldV (H : Hp) (p : Int → Bool) (f : Int → Int → Int → Int) : V → Option V
  | .ref q => match H q with
    | some (.tup [.int d, .int z, .int c]) => if p d = true then some (.int (f d z c)) else none
    | _ => none
  | _ => none
theorem toldV_at {H : Hp} {p : Int → Bool} {f : Int → Int → Int → Int} {q : Addr} {r : Rd5} (h : H q = some (.tup [.int r.d, .int r.z, .int r.c])) : toldV H p f (.ref q) = if p r.d = true then some (.int (f r.d r.z r.c)) else none := by
  show (match H q with | some (.tup [.int d, .int z, .int c]) => if p d = true then some (V.int (f d z c)) else none | _ => none) = _
  rw [h]
theorem toldV_all {H : Hp} {p : Int → Bool} {f : Int → Int → Int → Int} : ∀ {xs : List V} {rs : List Rd5}, ToldL H xs rs → xs.filterMap (toldV H p f) = ((rs.filter fun r => p r.d).map fun r => f r.d r.z r.c).map V.int
  | _, _, .nil => rfl
  | _, r :: rs, .cons ⟨q, e, h⟩ t => by
    have ih := toldV_all (p := p) (f := f) t
    subst e
    rw [List.filterMap_cons, toldV_at h]
    by_cases c : p r.d = true
    · rw [if_pos c, List.filter_cons_of_pos (by exact c), List.map_cons, List.map_cons, ih]
    · rw [if_neg c, List.filter_cons_of_neg (by exact c), ih]
section
variable {K : PySem.W.Frag} {A : Ad} {w : World} {vs : List V} {H : Hp} {Q : VK} {E : XK}
theorem rd_weeks_b1 (O : OkL K A) {p C T R : Addr} {m : Nat} {L : LdS} {card : Str} {rws : List Addr} {n wk : Int} {xs : List V} {Dn : Ends} {o6 o7 o8 : Option V} (l : LedAt A H p C m L) (hT : SqL K H T xs) (tl : ToldL H xs (L.cards card)) (h60 : (L.cards card).length ≤ 60) (lR : LLAt K H R rws [L.S, L.D, L.W])
    (rS : Row5 L.S) (rD : Row5 L.D) (rW : Row5 L.W) (c : Chd L.S L.D L.W (L.cards card))
    (k : ∀ (H' : Hp) (o6 o7 o8 : Option V), Same H H' → Dn.nx [some (.ref p), some (.str card), some (.ref T), some (.ref R), some (.int n), some (.int wk), o6, o7, o8, none, none] H') :
    t_l_weeks_b1 K A w E Dn [some (.ref p), some (.str card), some (.ref T), some (.ref R), some (.int n), some (.int wk), o6, o7, o8, none, none] H := by
  have hlx : xs.length ≤ 60 := by rw [tl.len]; exact h60
  have fl := wk_flat (L.cards card) wk
  have a5 := wk_all5 (w := wk) c.ok
  have d100 : ∀ r ∈ wkDays (L.cards card) wk, r.length ≤ 100 := fun r hr => by
    unfold wkDays at hr
    obtain ⟨kk, _, rfl⟩ := List.mem_map.mp hr
    rw [List.length_map]
    have := List.length_filter_le (fun r : Rd5 => decide (r.d = 7 * wk + (kk : Int))) (L.cards card)
    omega
  have wl := wk_len (L.cards card) wk
  have cw := c.wk wk
  unfold t_l_weeks_b1
  walk_at "rd"
  intro D hD
  refine lc_rangeN hD (by decide) (fun (j : Nat) => .lst ((zOn (L.cards card) (7 * wk + (0 + (j : Int)))).map V.int)) ?_ ?_
  · intro i H2 hi s2 G N hG
    have hT2 := s2.seq hT
    have tl2 := tl.same s2
    walk_at "rd"
    intro D2 hD2
    refine lc_listF (F := toldV H2 (fun d => decide (d = 7 * wk + (0 + (i : Int)))) fun _ z _ => z) hD2 hT2 (by omega) ?_ ?_
    · intro j x H3 hx s3 G3 N3 hG3 hN3
      obtain ⟨r, q, hr, rfl, hq⟩ := tl2.get hx
      have hq3 := s3 _ _ hq
      have ev := toldV_at (p := fun d => decide (d = 7 * wk + (0 + (i : Int)))) (f := fun _ z _ => z) hq
      walk_at "rd"
      refine ite_d (fun e => ?_) (fun e => ?_)
      · have e' : r.d = 7 * wk + (0 + (i : Int)) := V.int.inj e
        rw [if_pos (decide_eq_true e')] at ev
        walk_at "rd"
        exact hG3 _ _ ev (Same.refl _)
      · have e' : ¬ r.d = 7 * wk + (0 + (i : Int)) := fun z => e (congrArg V.int z)
        rw [if_neg (by rw [decide_eq_false e']; exact Bool.false_ne_true)] at ev
        exact hN3 _ ev (Same.refl _)
    · intro H3 s3 e3
      rw [toldV_all tl2] at e3
      exact hG _ _ hD2 (s3.trans (del_sub _ _)) e3
  · intro H3 ps hpl N
    have n0 : NewLL H H3 D ps (wkDays (L.cards card) wk) := NewLL.of_news N hD (by rw [hpl, wl]; rfl) fun i r hr => by
      rw [wkDays_zOn, List.getElem?_map] at hr
      obtain ⟨j, hj, rfl⟩ := Option.map_eq_some_iff.mp hr
      obtain ⟨hj1, hj2⟩ := List.getElem?_eq_some_iff.mp hj
      rw [List.getElem_range] at hj2
      subst hj2
      show HO.lst ((zOn (L.cards card) (7 * wk + (0 + (i : Int)))).map V.int) = _
      rw [Int.zero_add]
    have s3 := n0.same
    have hL3 : LLAt K H3 D ps (wkDays (L.cards card) wk) := n0.ll
    have hT3 := s3.seq hT
    have tl3 := tl.same s3
    show t_l_weeks_b1_s1 K A w E Dn [some (.ref p), some (.str card), some (.ref T), some (.ref R), some (.int n), some (.int wk), some (.ref D), o7, o8, none, none] H3
    unfold t_l_weeks_b1_s1
    walk_at "rd"
    intro D2 hD2
    refine lc_listF (F := toldV H3 (fun d => decide (d / 7 = wk)) fun _ _ c => c) hD2 hT3 (by omega) ?_ ?_
    · intro j x H4 hx s4 G3 N3 hG3 hN3
      obtain ⟨r, q, hr, rfl, hq⟩ := tl3.get hx
      have hq4 := s4 _ _ hq
      have ev := toldV_at (p := fun d => decide (d / 7 = wk)) (f := fun _ _ c => c) hq
      walk_at "rd"
      refine ite_d (fun e => ?_) (fun e => ?_)
      · have e' : r.d / 7 = wk := V.int.inj e
        rw [if_pos (decide_eq_true e')] at ev
        walk_at "rd"
        exact hG3 _ _ ev (Same.refl _)
      · have e' : ¬ r.d / 7 = wk := fun z => e (congrArg V.int z)
        rw [if_neg (by rw [decide_eq_false e']; exact Bool.false_ne_true)] at ev
        exact hN3 _ ev (Same.refl _)
    · intro H4 s4 e4
      rw [toldV_all tl3] at e4
      have s4 := s4.trans (del_sub _ _)
      have s04 := s3.trans s4
      walk_at "rd"
      show t_l_weeks_b1_s2 K A w E Dn [some (.ref p), some (.str card), some (.ref T), some (.ref R), some (.int n), some (.int wk), some (.ref D), some (.int (wkSum (L.cards card) wk)), o8, none, none] H4
      rw [cw]
      unfold t_l_weeks_b1_s2
      obtain ⟨W, Tr, dx, ob⟩ := l.obj
      have cl := O.cl
      have no1 := led_tick W Tr C
      have no2 := led_week W Tr C
      have hm := l.hm
      have l4 := l.same s04
      have ob4 := s04 _ _ ob
      have hL4 := hL3.same s4
      have lR4 := lR.same s04
      clear l ob hL3 lR hT tl hT3 tl3
      walk_at "rd"
      intro t ys ts H5 s5 ht0 ht tk wo tc hlen
      have s05 := s04.trans s5
      have l5 := l4.same s5
      have ob5 := s5 _ _ ob4
      have hL5 := hL4.same s5
      have lR5 := lR4.same s5
      have kp : Hold (LedAt A H4 p C m L ∧ H4 p = some (.ins A.c_Ledger dx (ledF W Tr C)) ∧ LLAt K H4 D ps (wkDays (L.cards card) wk) ∧ LLAt K H4 R rws [L.S, L.D, L.W]) := ⟨l4, ob4, hL4, lR4⟩
      clear l4 ob4 hL4 lR4
      show t_l_weeks_b1_s3 K A w E Dn [some (.ref p), some (.str card), some (.ref T), some (.ref R), some (.int n), some (.int wk), some (.ref D), some (.int (weekBest L.S L.D L.W (wkDays (L.cards card) wk))), some (.ref t), none, none] H5
      unfold t_l_weeks_b1_s3
      walk_at "rd"
      intro H6 s6
      have l6 := l5.same s6
      have ob6 := s6 _ _ ob5
      have hL6 := hL5.same s6
      have lR6 := lR5.same s6
      have tk6 := tk.same s6
      have ht6 := s6 _ _ ht
      clear l5 ob5 hL5 lR5
      rw [cw]
      walk_at "rd"
      show t_l_weeks_b1_s4 K A w E Dn [some (.ref p), some (.str card), some (.ref T), some (.ref R), some (.int n), some (.int wk), some (.ref D), some (.int (weekBest L.S L.D L.W (wkDays (L.cards card) wk))), some (.ref t), none, none] H6
      unfold t_l_weeks_b1_s4
      have hts : ts.length ≤ 30000 := by omega
      have ht6q := SqL.of (K := K) ht6
      walk_at "rd"
      intro H7 s7
      rw [tc]
      have l7 := l6.same s7
      have ob7 := s7 _ _ ob6
      have hL7 := hL6.same s7
      have lR7 := lR6.same s7
      have ht7 := s7 _ _ ht6
      have s07 := (s05.trans s6).trans s7
      clear l6 ob6 hL6 lR6
      walk_at "rd"
      intro v hv
      have hv' : ¬ weekBest L.S L.D L.W (wkDays (L.cards card) wk) > v := by omega
      walk_at "rd"
      show t_l_weeks_b1_s5 K A w E Dn [some (.ref p), some (.str card), some (.ref T), some (.ref R), some (.int n), some (.int wk), some (.ref D), some (.int (weekBest L.S L.D L.W (wkDays (L.cards card) wk))), some (.ref t), none, none] H7
      unfold t_l_weeks_b1_s5
      have t00 : H t = none := s04.free ht0
      have s57 := s6.trans s7
      have s4t : Same H4 (upd H7 t (.lst [])) := (s5.trans s57).mut ht0
      have s0t : Same H (upd H7 t (.lst [])) := s07.mut t00
      walk_at "rd"
      show t_l_weeks_b1_s6 K A w E Dn [some (.ref p), some (.str card), some (.ref T), some (.ref R), some (.int n), some (.int wk), some (.ref D), some (.int (weekBest L.S L.D L.W (wkDays (L.cards card) wk))), some (.ref t), none, none] (upd H7 t (.lst []))
      clear l7 ob7 hL7 lR7
      obtain ⟨l4, ob4, hL4, lR4⟩ := kp
      generalize upd H7 t (.lst []) = H8 at *
      have l8 := l4.same s4t
      have ob8 := s4t _ _ ob4
      have hL8 := hL4.same s4t
      have lR8 := lR4.same s4t
      clear l4 ob4 hL4 lR4
      unfold t_l_weeks_b1_s6
      walk_at "rd"
      intro t2 ys2 ts2 H9 s9 ht20 ht2 tk2 wo2 tc2 hlen2
      have hts2 : ts2.length ≤ 30000 := by omega
      have hL9 := hL8.same s9
      have lR9 := lR8.same s9
      have ht2q := SqL.of (K := K) ht2
      clear hL8 lR8
      walk_at "rd"
      intro H10 s10
      rw [tc2]
      walk_at "rd"
      exact k _ _ _ _ ((s0t.trans s9).trans s10)
theorem rd_l_weeks (O : OkL K A) (h : sp_l_weeks K A vs H Q E) : t_l_weeks K A w E { nx := fun _ H' => Q .non H', rt := Q } (start N_l_weeks vs) H := by
  obtain ⟨p, C, m, L, card, T, R, rws, n, xs, rfl, l, hT, tl, h60, lR, rS, rD, rW, c, q⟩ := h
  have hlx : xs.length ≤ 60 := by rw [tl.len]; exact h60
  unfold t_l_weeks
  walk_at "rd"
  intro D hD
  refine lc_listF (F := toldV H (fun _ => true) fun d _ _ => d / 7) hD hT (by omega) ?_ ?_
  · intro j x H3 hx s3 G3 N3 hG3 hN3
    obtain ⟨r, q, hr, rfl, hq⟩ := tl.get hx
    have hq3 := s3 _ _ hq
    have ev := toldV_at (p := fun _ => true) (f := fun d _ _ => d / 7) hq
    rw [if_pos rfl] at ev
    walk_at "rd"
    exact hG3 _ _ ev (Same.refl _)
  · intro H3 s3 d3
    rw [toldV_all tl] at d3
    have s3 := s3.trans (del_sub _ _)
    have ldl : (((L.cards card).filter fun r => true).map fun r : Rd5 => r.d / 7).length ≤ 60 := by
      rw [List.length_map]
      have := List.length_filter_le (fun r : Rd5 => true) (L.cards card)
      omega
    generalize (((L.cards card).filter fun r => true).map fun r : Rd5 => r.d / 7) = ww at *
    walk_at "rd"
    intro z hz
    have s4 : Same H3 (upd H3 z (.lst [.int 3])) := Same.new hz
    have z4 : upd H3 z (.lst [.int 3]) z = some (.lst [.int 3]) := upd_same
    generalize upd H3 z (.lst [.int 3]) = H4 at *
    have d4 := s4 _ _ d3
    walk_at "rd"
    intro y hy
    have ec : ww.map V.int ++ [V.int 3] = (ww ++ [3]).map V.int := by rw [List.map_append]; rfl
    rw [ec]
    have len61 : (ww ++ [3]).length ≤ 61 := by rw [List.length_append, List.length_singleton]; omega
    generalize ww ++ [3] = days at *
    have s5 : Same H4 (upd H4 y (.lst (days.map V.int))) := Same.new hy
    have y5 : upd H4 y (.lst (days.map V.int)) y = some (.lst (days.map V.int)) := upd_same
    generalize upd H4 y (.lst (days.map V.int)) = H5 at *
    walk_at "rd"
    intro g out hg nd mem
    have lo : out.length ≤ 61 := Nat.le_trans (List.Nodup.length_le_of_subset nd fun k hk => (mem k).mp hk) len61
    have sg : Same H5 (upd H5 g (SetO w g (fun j => decide (j ∈ days)) out.length)) := Same.new hg
    walk_at "rd"
    intro ns u hns hmem hlen hu
    have su : Same (upd H5 g (SetO w g (fun j => decide (j ∈ days)) out.length)) (upd (upd H5 g (SetO w g (fun j => decide (j ∈ days)) out.length)) u (.lst (ns.map V.int))) := Same.new hu
    have u6 : upd (upd H5 g (SetO w g (fun j => decide (j ∈ days)) out.length)) u (.lst (ns.map V.int)) u = some (.lst (ns.map V.int)) := upd_same
    have s06 := (((s3.trans s4).trans s5).trans sg).trans su
    generalize upd (upd H5 g (SetO w g (fun j => decide (j ∈ days)) out.length)) u (.lst (ns.map V.int)) = H6 at *
    walk_at "rd"
    refine for_list (K := K) (a := u) (xs := ns.map V.int) (fun i σ H' => Hold (∃ (o5 o6 o7 o8 : Option V), σ = [some (.ref p), some (.str card), some (.ref T), some (.ref R), some (.int n), o5, o6, o7, o8, none, none] ∧ Same H6 H')) ⟨none, none, none, none, rfl, Same.refl _⟩ (fun i σ H' _ ⟨_, _, _, _, _, s⟩ => SqL.of (s _ _ u6)) ?_ ?_
    · rintro i x σ H7 hx ⟨o5, o6, o7, o8, rfl, s7⟩
      rw [List.getElem?_map] at hx
      obtain ⟨wk, hd, rfl⟩ := Option.map_eq_some_iff.mp hx
      have s07 := s06.trans s7
      exact rd_weeks_b1 O (l.same s07) (s07.seq hT) (tl.same s07) h60 (lR.same s07) rS rD rW c fun H' o6 o7 o8 s' => ⟨_, _, _, _, rfl, s7.trans s'⟩
    · rintro σ H7 ⟨o5, o6, o7, o8, rfl, s7⟩
      unfold t_l_weeks_s1
      exact q _ (s06.trans s7)
end
end FW

namespace FW
open PySem PySem.Spec PyProof.Rows L2
/-- the last day of a card is told -/
def DayAt (kvs : List (Key × V)) (card : Str) (rs : List Rd5) : Prop := ∃ d : Int, valV kvs (.inr card) = some (.int d) ∧ 0 ≤ d ∧ ∀ r ∈ rs, r.d ≤ d
structure T10 (A : Ad) (H B : Hp) (p C Dl : Addr) (c1 c2 : Str) (R1 R2 : Addr) (j : Nat) (zones : List Int) (links : List (Nat × Nat)) (S D W : List Int) (f : Str → List Rd5) : Prop where
  l : LedAt A (dels H [Dl, R1, R2]) p C j ⟨zones, links, S, D, W, f⟩
  n1 : Dl ≠ R1
  n2 : Dl ≠ R2
  n3 : R1 ≠ R2
  sB : Same B (dels H [C, Dl, R1, R2])
  hd : ∃ kvs, H Dl = some (.dK kvs) ∧ kvs.length ≤ 2 + j ∧ DayAt kvs c1 (f c1) ∧ DayAt kvs c2 (f c2)
  r1 : ∃ xs, H R1 = some (.lst xs) ∧ ToldL (dels H [C, Dl, R1, R2]) xs (f c1)
  r2 : ∃ xs, H R2 = some (.lst xs) ∧ ToldL (dels H [C, Dl, R1, R2]) xs (f c2)
  k1 : Chd S D W (f c1)
  k2 : Chd S D W (f c2)
theorem dels_swap {H : Hp} {x y : Addr} {as : List Addr} : dels H (as ++ [x, y]) = dels H (as ++ [y, x]) := by
  funext b
  unfold dels
  have e : (b ∈ as ++ [x, y]) = (b ∈ as ++ [y, x]) := by
    apply propext
    simp only [List.mem_append, List.mem_cons, List.not_mem_nil, or_false]
    constructor
    · rintro (h | h | h)
      · exact .inl h
      · exact .inr (.inr h)
      · exact .inr (.inl h)
    · rintro (h | h | h)
      · exact .inl h
      · exact .inr (.inr h)
      · exact .inr (.inl h)
  by_cases c : b ∈ as ++ [x, y]
  · rw [if_pos c, if_pos (e ▸ c)]
  · rw [if_neg c, if_neg (fun z => c (e ▸ z))]
theorem T10.swap {A : Ad} {H B : Hp} {p C Dl : Addr} {c1 c2 : Str} {R1 R2 : Addr} {j : Nat} {zones : List Int} {links : List (Nat × Nat)} {S D W : List Int} {f : Str → List Rd5} (t : T10 A H B p C Dl c1 c2 R1 R2 j zones links S D W f) : T10 A H B p C Dl c2 c1 R2 R1 j zones links S D W f := by
  have e1 : dels H [Dl, R1, R2] = dels H [Dl, R2, R1] := dels_swap (as := [Dl])
  have e2 : dels H [C, Dl, R1, R2] = dels H [C, Dl, R2, R1] := dels_swap (as := [C, Dl])
  obtain ⟨l, n1, n2, n3, sB, ⟨kvs, h1, h2, h3, h4⟩, ⟨x1, g1, g2⟩, ⟨x2, g3, g4⟩, k1, k2⟩ := t
  rw [e2] at sB g2 g4
  rw [e1] at l
  exact ⟨l, n2, n1, ne_sym n3, sB, ⟨kvs, h1, h2, h4, h3⟩, ⟨x2, g3, g4⟩, ⟨x1, g1, g2⟩, k2, k1⟩
theorem T10.same {A : Ad} {H H' B : Hp} {p C Dl : Addr} {c1 c2 : Str} {R1 R2 : Addr} {j : Nat} {zones : List Int} {links : List (Nat × Nat)} {S D W : List Int} {f : Str → List Rd5} (t : T10 A H B p C Dl c1 c2 R1 R2 j zones links S D W f) (s : Same H H') : T10 A H' B p C Dl c1 c2 R1 R2 j zones links S D W f :=
  ⟨t.l.same (s.dels2 _), t.n1, t.n2, t.n3, t.sB.trans (s.dels2 _), let ⟨kvs, h, r⟩ := t.hd; ⟨kvs, s _ _ h, r⟩, let ⟨xs, h, r⟩ := t.r1; ⟨xs, s _ _ h, r.same (s.dels2 _)⟩, let ⟨xs, h, r⟩ := t.r2; ⟨xs, s _ _ h, r.same (s.dels2 _)⟩, t.k1, t.k2⟩
theorem T10.led {A : Ad} {H B : Hp} {p C Dl : Addr} {c1 c2 : Str} {R1 R2 : Addr} {j : Nat} {zones : List Int} {links : List (Nat × Nat)} {S D W : List Int} {f : Str → List Rd5} (t : T10 A H B p C Dl c1 c2 R1 R2 j zones links S D W f) : LedAt A H p C j ⟨zones, links, S, D, W, f⟩ := t.l.same (dels_sub _ _)
theorem T10.out {A : Ad} {H B : Hp} {p C Dl : Addr} {c1 c2 : Str} {R1 R2 : Addr} {j : Nat} {zones : List Int} {links : List (Nat × Nat)} {S D W : List Int} {f : Str → List Rd5} (t : T10 A H B p C Dl c1 c2 R1 R2 j zones links S D W f) : C ≠ Dl ∧ C ≠ R1 ∧ C ≠ R2 := by
  obtain ⟨k, h⟩ := t.l.dict
  have n := (dels_get h).2
  refine ⟨fun z => n ?_, fun z => n ?_, fun z => n ?_⟩ <;> simp [z]
theorem T10.stands {A : Ad} {H B : Hp} {p C Dl : Addr} {c1 c2 : Str} {R1 R2 : Addr} {j : Nat} {zones : List Int} {links : List (Nat × Nat)} {S D W : List Int} {f : Str → List Rd5} (t : T10 A H B p C Dl c1 c2 R1 R2 j zones links S D W f) : Stands H [Dl, R1, R2] := fun x m => by
  obtain ⟨kvs, h, _⟩ := t.hd
  obtain ⟨xs, h1, _⟩ := t.r1
  obtain ⟨ys, h2, _⟩ := t.r2
  rcases List.mem_cons.mp m with e | m
  · exact ⟨_, by rw [e]; exact h, fun us z => by cases z⟩
  rcases List.mem_cons.mp m with e | m
  · exact ⟨_, by rw [e]; exact h1, fun us z => by cases z⟩
  · exact ⟨_, by rw [List.mem_singleton.mp m]; exact h2, fun us z => by cases z⟩
theorem dels_updI {H : Hp} {hs : List Addr} {x : Addr} {o : HO} (h : x ∈ hs) : dels (upd H x o) hs = dels H hs := by
  funext b
  by_cases c : b ∈ hs
  · rw [dels_in c, dels_in c]
  · rw [dels_out c, dels_out c, upd_ne (fun z => c (by rw [z]; exact h))]
theorem put_len {kvs : List (Key × V)} {k : Key} {v : V} : (putK kvs k v).length ≤ kvs.length + 1 := by
  unfold putK
  split
  · rw [List.length_map]; omega
  · rw [List.length_append, List.length_singleton]
    exact Nat.le_refl _
theorem dels_upd2 {H : Hp} {hs : List Addr} {x t : Addr} {o o2 : HO} (h : x ∈ hs) : dels (upd (upd H x o) t o2) hs = dels (upd H t o2) hs := by
  funext b
  by_cases c : b ∈ hs
  · rw [dels_in c, dels_in c]
  · rw [dels_out c, dels_out c]
    have n : b ≠ x := fun z => c (by rw [z]; exact h)
    by_cases e : b = t
    · rw [e, upd_same, upd_same]
    · rw [upd_ne e, upd_ne e, upd_ne n]
/-- a ride, its day, its row put down -/
theorem T10.next {A : Ad} {H H1 B : Hp} {p C Dl : Addr} {c1 c2 : Str} {R1 R2 t0 : Addr} {j : Nat} {zones : List Int} {links : List (Nat × Nat)} {S D W : List Int} {f : Str → List Rd5} {day s g z c : Int} {xs : List V} {kvs : List (Key × V)} (t : T10 A H B p C Dl c1 c2 R1 R2 j zones links S D W f) (hc : c1 ≠ c2)
    (lr : ∀ hs, Stands H hs → LedAt A (dels H hs) p C j ⟨zones, links, S, D, W, f⟩ → LedAt A (dels H1 hs) p C (j + 1) (LdS.put ⟨zones, links, S, D, W, f⟩ c1 ⟨day, s, g, z, c⟩)) (sr : Same (del H C) (del H1 C))
    (np : ¬ Past (f c1) day) (hz : In5 z) (ec : c = chg S D W (f c1) day z) (h0 : 0 ≤ day)
    (ht' : upd H1 Dl (.dK (putK kvs (.inr c1) (.int day))) t0 = none) (hx : H1 R1 = some (.lst xs)) (hk : H1 Dl = some (.dK kvs)) :
    T10 A (upd (upd (upd H1 Dl (.dK (putK kvs (.inr c1) (.int day)))) t0 (.tup [.int day, .int z, .int c])) R1 (.lst (xs ++ [.ref t0]))) B p C Dl c1 c2 R1 R2 (j + 1) zones links S D W (more f c1 ⟨day, s, g, z, c⟩) := by
  obtain ⟨o1, o2, o3⟩ := t.out
  have ntD : t0 ≠ Dl := fun e => by rw [e, upd_same] at ht'; cases ht'
  have ht : H1 t0 = none := by rw [upd_ne ntD] at ht'; exact ht'
  have l1 : LedAt A (dels H1 [Dl, R1, R2]) p C (j + 1) ⟨zones, links, S, D, W, more f c1 ⟨day, s, g, z, c⟩⟩ := lr _ t.stands t.l
  have sn : Same H1 (upd H1 t0 (.tup [.int day, .int z, .int c])) := Same.new ht
  have e1 : ∀ hs : List Addr, R1 ∈ hs → Dl ∈ hs → dels (upd (upd (upd H1 Dl (.dK (putK kvs (.inr c1) (.int day)))) t0 (.tup [.int day, .int z, .int c])) R1 (.lst (xs ++ [.ref t0]))) hs = dels (upd H1 t0 (.tup [.int day, .int z, .int c])) hs := fun hs h1 h2 => by rw [dels_updI h1, dels_upd2 h2]
  have sc : Same (dels H [C, Dl, R1, R2]) (dels (upd H1 t0 (.tup [.int day, .int z, .int c])) [C, Dl, R1, R2]) := (Same.delIn List.mem_cons_self sr).trans (sn.dels2 _)
  obtain ⟨ks, hk0, hkl, d1, d2⟩ := t.hd
  obtain ⟨xs0, hx0, rx0⟩ := t.r1
  obtain ⟨ys, hy0, ry0⟩ := t.r2
  have ek : kvs = ks := by
    have := keep_at sr (ne_sym o1) hk0
    rw [hk] at this
    exact HO.dK.inj (Option.some.inj this)
  have ex : xs = xs0 := by
    have := keep_at sr (ne_sym o2) hx0
    rw [hx] at this
    exact HO.lst.inj (Option.some.inj this)
  subst ek ex
  have hy11 := keep_at sr (ne_sym o3) hy0
  have m1 : R1 ∈ [Dl, R1, R2] := by simp
  have m2 : Dl ∈ [Dl, R1, R2] := by simp
  have m3 : R1 ∈ [C, Dl, R1, R2] := by simp
  have m4 : Dl ∈ [C, Dl, R1, R2] := by simp
  have nt : t0 ∉ [C, Dl, R1, R2] := fun m => by
    have hC1 : ∃ k, H1 C = some (.dK k) := by
      obtain ⟨k, h⟩ := l1.dict
      exact ⟨k, (dels_get h).1⟩
    obtain ⟨k, hC1⟩ := hC1
    simp only [List.mem_cons, List.not_mem_nil, or_false] at m
    rcases m with e | e | e | e <;> rw [e] at ht
    · rw [hC1] at ht; cases ht
    · rw [hk] at ht; cases ht
    · rw [hx] at ht; cases ht
    · rw [hy11] at ht; cases ht
  have ntR2 : R2 ≠ t0 := fun e => nt (by rw [← e]; simp)
  refine ⟨?_, t.n1, t.n2, t.n3, ?_, ⟨putK kvs (.inr c1) (.int day), by rw [upd_ne t.n1, upd_ne (ne_sym ntD), upd_same], ?_, ?_, ?_⟩, ⟨_, upd_same, ?_⟩, ⟨ys, by rw [upd_ne (ne_sym t.n3), upd_ne ntR2, upd_ne (ne_sym t.n2)]; exact hy11, ?_⟩, ?_, ?_⟩
  · rw [e1 _ m1 m2]
    exact l1.same (sn.dels2 _)
  · rw [e1 _ m3 m4]
    exact t.sB.trans sc
  · have := put_len (kvs := kvs) (k := .inr c1) (v := .int day)
    omega
  · refine ⟨day, by rw [valV_put, if_pos rfl], h0, fun r hr => ?_⟩
    rw [more_at] at hr
    rcases List.mem_append.mp hr with m | m
    · exact t.k1.upto np r m
    · rw [List.mem_singleton.mp m]
      exact Int.le_refl _
  · obtain ⟨d, g1, g2, g3⟩ := d2
    refine ⟨d, by rw [valV_put, if_neg (fun z => hc (Sum.inr.inj z).symm)]; exact g1, g2, ?_⟩
    rw [more_ne (fun z => hc z.symm)]
    exact g3
  · rw [e1 _ m3 m4, more_at]
    refine (ToldL.same sc rx0).snoc ?_
    rw [dels_out nt, upd_same]
  · rw [e1 _ m3 m4, more_ne (fun z => hc z.symm)]
    exact ToldL.same sc ry0
  · rw [more_at]
    exact t.k1.snoc np hz ec
  · rw [more_ne (fun z => hc z.symm)]
    exact t.k2
theorem T10.fresh {A : Ad} {H B : Hp} {p C Dl : Addr} {c1 c2 : Str} {R1 R2 : Addr} {j : Nat} {zones : List Int} {links : List (Nat × Nat)} {S D W : List Int} {f : Str → List Rd5} (t : T10 A H B p C Dl c1 c2 R1 R2 j zones links S D W f) {x : Addr} (h : H x = none) : x ∉ [C, Dl, R1, R2] := fun m => by
  obtain ⟨k, hC⟩ := t.led.dict
  rcases List.mem_cons.mp m with e | m
  · rw [e, hC] at h; cases h
  · obtain ⟨o, e, _⟩ := t.stands x m
    rw [e] at h
    cases h
theorem T10.own {A : Ad} {H B : Hp} {p C Dl : Addr} {c1 c2 : Str} {R1 R2 : Addr} {j : Nat} {zones : List Int} {links : List (Nat × Nat)} {S D W : List Int} {f : Str → List Rd5} (t : T10 A H B p C Dl c1 c2 R1 R2 j zones links S D W f) : T10 A H (dels H [C, Dl, R1, R2]) p C Dl c1 c2 R1 R2 j zones links S D W f :=
  ⟨t.l, t.n1, t.n2, t.n3, Same.refl _, t.hd, t.r1, t.r2, t.k1, t.k2⟩
theorem T10.base {A : Ad} {H B B' : Hp} {p C Dl : Addr} {c1 c2 : Str} {R1 R2 : Addr} {j : Nat} {zones : List Int} {links : List (Nat × Nat)} {S D W : List Int} {f : Str → List Rd5} (t : T10 A H B' p C Dl c1 c2 R1 R2 j zones links S D W f) (s : Same B B') : T10 A H B p C Dl c1 c2 R1 R2 j zones links S D W f :=
  ⟨t.l, t.n1, t.n2, t.n3, s.trans t.sB, t.hd, t.r1, t.r2, t.k1, t.k2⟩
theorem notPast {rs : List Rd5} {day : Int} (h0 : 0 ≤ day) (h : ∀ r ∈ rs, r.d ≤ day) : ¬ Past rs day := fun z => by
  rcases z with z | ⟨l, z, e⟩
  · omega
  · have := h l (List.mem_of_getLast? z)
    omega
end FW

/-! Texts. -/
namespace FW
open PySem PySem.Spec PyProof.Rows L2
def rLower : V → List V → Hp → VK → Prop := fun x xs H Q => ∃ a, x = .str a ∧ xs = [] ∧ a.length ≤ 5592405 ∧ Q (.str (Txt.lower a)) H
def rUpper : V → List V → Hp → VK → Prop := fun x xs H Q => ∃ a, x = .str a ∧ xs = [] ∧ a.length ≤ 5592405 ∧ Q (.str (Txt.upper a)) H
theorem str_at {z : Str} {i : Int} (h0 : 0 ≤ i) (h1 : i < (z.length : Int)) : ∃ c, atI z.cps.toList i = some c := by
  have h : i.toNat < z.cps.toList.length := by
    have e : z.cps.toList.length = z.length := by
      rw [Array.length_toList]
      rfl
    rw [e]
    omega
  exact ⟨z.cps.toList[i.toNat], atI_lt h0 (List.getElem?_eq_getElem h)⟩
theorem cut_str (z : Str) (lo hi : Option Int) : (cutS z lo hi).length ≤ z.length := by
  unfold cutS
  show ((z.cps.toList.drop (HT.sIx z.length 0 lo)).take (HT.sIx z.length z.length hi - HT.sIx z.length 0 lo)).toArray.size ≤ z.cps.size
  rw [List.size_toArray, List.length_take, List.length_drop, Array.length_toList]
  omega
theorem str_app (a b : Str) : (a ++ b).length = a.length + b.length := by
  show (a.cps ++ b.cps).size = _
  rw [Array.size_append]
  rfl
theorem str_one (c : Nat) : (⟨#[c]⟩ : Str).length = 1 := rfl
end FW

namespace FW
open PySem PySem.Spec PyProof.Rows L2
/-- what stands under all rides -/
structure B10 (K : PySem.W.Frag) (A : Ad) (B : Hp) (a Z Lk Rw Wb Dt : Addr) (ns : List Int) (lxs : List V) (rws : List Addr) (kt : List (Key × V)) (zones : List Int) (links : List (Nat × Nat)) (S D W : List Int) : Prop where
  hS : SqL K B a (ns.map V.int)
  hZ : SqL K B Z (zones.map V.int)
  hL : SqL K B Lk lxs
  pl : PairL B lxs links
  hW : Web A B Wb zones links
  lR : LLAt K B Rw rws [S, D, W]
  hDt : B Dt = some (.dK kt)
theorem B10.same {K : PySem.W.Frag} {A : Ad} {B B' : Hp} {a Z Lk Rw Wb Dt : Addr} {ns : List Int} {lxs : List V} {rws : List Addr} {kt : List (Key × V)} {zones : List Int} {links : List (Nat × Nat)} {S D W : List Int} (b : B10 K A B a Z Lk Rw Wb Dt ns lxs rws kt zones links S D W) (s : Same B B') : B10 K A B' a Z Lk Rw Wb Dt ns lxs rws kt zones links S D W :=
  ⟨s.seq b.hS, s.seq b.hZ, s.seq b.hL, b.pl.same s, b.hW.same s, b.lR.same s, s _ _ b.hDt⟩
theorem web_look (a b : Addr) : (webF a b).lookup ("levels" : Str) = none ∧ (webF a b).lookup ("way" : Str) = none := ⟨webF_no a b (by decide +kernel) (by decide +kernel), webF_no a b (by decide +kernel) (by decide +kernel)⟩
theorem Web.obj {A : Ad} {H : Hp} {p : Addr} {zones : List Int} {links : List (Nat × Nat)} (w : Web A H p zones links) : ∃ a b dx, H p = some (.ins A.c_Web dx (webF a b)) :=
  let ⟨a, b, w⟩ := w; let ⟨dx, e⟩ := w.ob; ⟨a, b, dx, e⟩
theorem min_if5 (x : Int) : (if x < 5 then x else 5) = min x 5 := by split <;> omega
/-- a ticket's price, at this place -/
def lastV (H : Hp) : V → Option V
  | .ref q => match H q with
    | some (.tup us) => (tkOf us).map fun t : Tk => V.int t.price
    | _ => none
  | _ => none
theorem lastV_at {H : Hp} {q : Addr} {t : Tk} (h : H q = some (.tup t.vals)) : lastV H (.ref q) = some (.int t.price) := by
  show (match H q with | some (.tup us) => (tkOf us).map fun t : Tk => V.int t.price | _ => none) = _
  rw [h]
  show (tkOf t.vals).map _ = _
  rw [tkOf_vals]
  rfl
theorem lastV_all {H : Hp} : ∀ {xs : List V} {ts : List Tk}, TkL H xs ts → xs.filterMap (lastV H) = (ts.map Tk.price).map V.int
  | _, _, .nil => rfl
  | _, _, .cons ⟨q, e, h⟩ l => by
    subst e
    rw [List.filterMap_cons, lastV_at h, lastV_all l]
    rfl
theorem tkLastAt (t : Tk) : atI t.vals (-1) = some (.int t.price) := by cases t <;> rfl
theorem rides_last {H : Hp} : ∀ {xs : List V} {rs : List Rd5} {r : Rd5}, RidesL H xs (rs ++ [r]) → ∃ q, atI xs (-1) = some (.ref q) ∧ H q = some (.tup r.vals) := fun {xs rs r} l => by
  rcases RidesL.last l with ⟨_, e⟩ | ⟨xs', rs', q, r', e1, e2, h⟩
  · exact absurd e (by simp)
  · have e3 : r = r' := by
      have := congrArg List.getLast? e2
      rw [List.getLast?_append, List.getLast?_append, List.getLast?_singleton, List.getLast?_singleton] at this
      exact Option.some.inj this
    subst e3
    refine ⟨q, ?_, h⟩
    rw [e1]
    exact atI_last _ _
section
variable {K : PySem.W.Frag} {A : Ad} {vs : List V} {H : Hp} {Q : VK} {E : XK}
theorem rd_b2_s1 (OL : OkL K A) {a Z Lk Rw Wb Dt p C Dl R1 R2 Fo : Addr} {c1 c2 : Str} {ns : List Int} {lxs : List V} {rws : List Addr} {kt : List (Key × V)} {zones : List Int} {links : List (Nat × Nat)} {S D W : List Int} {f : Str → List Rd5} {B H1 : Hp} {n sz step d wk lv : Int} {s g j : Nat} {Dn : Ends} {o5 : Option V} {F : Fnd} {u : Nat}
    (t : T10 A H B p C Dl c1 c2 R1 R2 j zones links S D W f) (hc : c1 ≠ c2) (base : B10 K A B a Z Lk Rw Wb Dt ns lxs rws kt zones links S D W) (rS : Row5 S) (rD : Row5 D) (rW : Row5 W) (hv : valV kt (.inr c1) = some (.ref R1)) (hj : j < 90) (hg : g < F.length)
    (hd : ∀ kvs, H Dl = some (.dK kvs) → valV kvs (.inr c1) = some (.int d)) (h0 : 0 ≤ d + step) (np : ¬ Past (f c1) (d + step)) (hlv : 1 ≤ lv) (hwk : wk = (d + step) / 7) (hF : fd F g = some (lv, u)) (hFo : H1 Fo = some (.lst (F.map lvV)))
    (lr : ∀ hs, Stands H hs → LedAt A (dels H hs) p C j ⟨zones, links, S, D, W, f⟩ → LedAt A (dels H1 hs) p C (j + 1) (LdS.put ⟨zones, links, S, D, W, f⟩ c1 ⟨d + step, s, g, min lv 5, (chg S D W (f c1) (d + step) (min lv 5))⟩)) (sr : Same (del H C) (del H1 C))
    (q : ∀ (H' : Hp) (f' : Str → List Rd5) (o15 o16 o17 o18 : Option V), T10 A H' B p C Dl c1 c2 R1 R2 (j + 1) zones links S D W f' → Dn.nx [some (.ref a), some (.int n), some (.int sz), some (.int step), some (.ref Z), o5, some (.ref Lk), some (.ref Rw), some (.ref Wb), some (.ref p), some (.ref Dt), some (.ref Dl), some (.str c1), some (.int (s : Nat)), some (.int (g : Nat)), o15, o16, o17, o18, none, none] H') :
    t_law_b2_s1 K A E Dn [some (.ref a), some (.int n), some (.int sz), some (.int step), some (.ref Z), o5, some (.ref Lk), some (.ref Rw), some (.ref Wb), some (.ref p), some (.ref Dt), some (.ref Dl), some (.str c1), some (.int (s : Nat)), some (.int (g : Nat)), some (.int wk), some (.int (chg S D W (f c1) (d + step) (min lv 5))), some (.ref Fo), some (.int lv), none, none] H1 := by
  obtain ⟨o1, o2, o3⟩ := t.out
  obtain ⟨kvs, hk, hkl, d1, d2⟩ := t.hd
  obtain ⟨xs, hx, rx⟩ := t.r1
  have hk1 := keep_at sr (ne_sym o1) hk
  have hx1 := keep_at sr (ne_sym o2) hx
  have hdv := hd kvs hk
  have sB1 : Same B (dels H1 [C, Dl, R1, R2]) := t.sB.trans (Same.delIn List.mem_cons_self sr)
  have sB1' := sB1.trans (dels_sub _ _)
  have b1 := base.same sB1'
  have hDt1 := b1.hDt
  have hz : In5 (min lv 5) := ⟨by omega, by omega⟩
  have hxl : xs.length ≤ 100 := by
    have h1 := ToldL.len rx
    have h2 : (f c1).length ≤ j := t.led.sz c1
    omega
  have a1 : atI (F.map lvV) (g : Int) = some (.int lv) := by
    refine atI_nat ?_
    rw [List.getElem?_map]
    have e : F[g]? = some (some (lv, u)) := by
      unfold fd at hF
      rw [List.getD_eq_getElem?_getD, List.getElem?_eq_getElem hg] at hF
      rw [List.getElem?_eq_getElem hg]
      exact congrArg some hF
    rw [e]
    rfl
  obtain ⟨cb1, cb2⟩ := t.k1.chg_bounds (day := d + step) rS rD rW hz
  generalize hch : chg S D W (f c1) (d + step) (min lv 5) = c at *
  generalize hzz : min lv 5 = zz at *
  generalize hday : d + step = day at *
  have hFoq := SqL.of (K := K) hFo
  unfold t_law_b2_s1
  walk_at "rd"
  show t_law_b2_s2 K A E Dn [some (.ref a), some (.int n), some (.int sz), some (.int step), some (.ref Z), o5, some (.ref Lk), some (.ref Rw), some (.ref Wb), some (.ref p), some (.ref Dt), some (.ref Dl), some (.str c1), some (.int (s : Nat)), some (.int (g : Nat)), some (.int wk), some (.int c), some (.ref Fo), some (.int lv), none, none] H1
  unfold t_law_b2_s2
  have dgl : DGet H1 Dl (.str c1) (some (.int d)) := by rw [← hdv]; exact DGet.k (k := .inr c1) hk1
  have dp : DPut H1 Dl (.str c1) (.int day) (upd H1 Dl (.dK (putK kvs (.inr c1) (.int day)))) := DPut.k (k := .inr c1) hk1 (small_lt (by omega))
  rw [← hday] at dp
  walk_at "rd"
  refine ⟨_, rfl, dp, ?_⟩
  rw [hday]
  have nDt := (dels_get (sB1 _ _ base.hDt)).2
  have nDtD : Dt ≠ Dl := fun e => nDt (by rw [e]; simp)
  have gD : upd H1 Dl (.dK (putK kvs (.inr c1) (.int day))) Dl = some (.dK (putK kvs (.inr c1) (.int day))) := upd_same
  have gR : upd H1 Dl (.dK (putK kvs (.inr c1) (.int day))) R1 = some (.lst xs) := by rw [upd_ne (ne_sym t.n1)]; exact hx1
  have gDt : upd H1 Dl (.dK (putK kvs (.inr c1) (.int day))) Dt = some (.dK kt) := by rw [upd_ne nDtD]; exact hDt1
  have next := fun (t0 : Addr) (h : upd H1 Dl (.dK (putK kvs (.inr c1) (.int day))) t0 = none) => t.next (t0 := t0) hc lr sr np hz hch.symm h0 h hx1 hk1
  have dg1 : DGet (upd H1 Dl (.dK (putK kvs (.inr c1) (.int day)))) Dt (.str c1) (some (.ref R1)) := by rw [← hv]; exact DGet.k (k := .inr c1) gDt
  have dg2 : DGet (upd H1 Dl (.dK (putK kvs (.inr c1) (.int day)))) Dl (.str c1) (some (.int day)) := by
    have e : valV (putK kvs (.inr c1) (.int day)) (.inr c1) = some (.int day) := by rw [valV_put, if_pos rfl]
    rw [← e]; exact DGet.k (k := .inr c1) gD
  show t_law_b2_s3 K A E Dn [some (.ref a), some (.int n), some (.int sz), some (.int step), some (.ref Z), o5, some (.ref Lk), some (.ref Rw), some (.ref Wb), some (.ref p), some (.ref Dt), some (.ref Dl), some (.str c1), some (.int (s : Nat)), some (.int (g : Nat)), some (.int wk), some (.int c), some (.ref Fo), some (.int lv), none, none] (upd H1 Dl (.dK (putK kvs (.inr c1) (.int day))))
  clear dgl dp
  generalize upd H1 Dl (.dK (putK kvs (.inr c1) (.int day))) = G1 at *
  unfold t_law_b2_s3
  walk_at "rd"
  intro t0 ht0
  rw [min_if5, hzz]
  have nx := next t0 ht0
  have gR2 : upd G1 t0 (.tup [.int day, .int zz, .int c]) R1 = some (.lst xs) := (Same.new ht0) _ _ gR
  have gD2 : upd G1 t0 (.tup [.int day, .int zz, .int c]) Dl = some (.dK (putK kvs (.inr c1) (.int day))) := (Same.new ht0) _ _ gD
  walk_at "rd"
  have gD3 : upd (upd G1 t0 (.tup [.int day, .int zz, .int c])) R1 (.lst (xs ++ [.ref t0])) Dl = some (.dK (putK kvs (.inr c1) (.int day))) := by rw [upd_ne t.n1]; exact gD2
  show t_law_b2_s4 K A E Dn [some (.ref a), some (.int n), some (.int sz), some (.int step), some (.ref Z), o5, some (.ref Lk), some (.ref Rw), some (.ref Wb), some (.ref p), some (.ref Dt), some (.ref Dl), some (.str c1), some (.int (s : Nat)), some (.int (g : Nat)), some (.int wk), some (.int c), some (.ref Fo), some (.int lv), none, none] (upd (upd G1 t0 (.tup [.int day, .int zz, .int c])) R1 (.lst (xs ++ [.ref t0])))
  generalize upd (upd G1 t0 (.tup [.int day, .int zz, .int c])) R1 (.lst (xs ++ [.ref t0])) = H4 at *
  clear gD gR gDt dg1 dg2 gR2 gD2 hk1 hx1 hDt1 hFoq b1 next hk hx
  unfold t_law_b2_s4
  obtain ⟨Wl, Tl, dx, ob4⟩ := nx.led.obj
  have l4 := nx.led
  have cl := OL.cl
  have no1 := led_tick Wl Tl C
  have no2 := led_week Wl Tl C
  have no3 := led_rides Wl Tl C
  walk_at "rd"
  intro tk ys ts H5 s5 htk0 htk tl wo tc hlen
  walk_at "rd"
  intro Dx hD
  have fl := wk_flat (more f c1 ⟨day, s, g, zz, c⟩ c1) wk
  have sz9 : (more f c1 ⟨day, s, g, zz, c⟩ c1).length ≤ j + 1 := nx.led.sz c1
  have hlen : ts.length ≤ 7 * (wkDays (more f c1 ⟨day, s, g, zz, c⟩ c1) wk).flatten.length := hlen
  have tc : tkCost ts = weekBest S D W (wkDays (more f c1 ⟨day, s, g, zz, c⟩ c1) wk) := tc
  have cw := nx.k1.wk wk
  refine lc_listF (F := lastV H5) hD (SqL.of htk) (by rw [tl.len]; omega) ?_ ?_
  · intro i x H6 hx6 s6 G N hG hN
    obtain ⟨tt, u6, hi, rfl, hu⟩ := tl.get hx6
    have hu6 := SqT.of (K := K) (s6 _ _ hu)
    have ev := lastV_at hu
    have lx := tkLastAt tt
    walk_at "rd"
    exact hG _ _ ev (Same.refl _)
  · intro H6 s6 d6
    rw [lastV_all tl] at d6
    have s6 := s6.trans (del_sub _ _)
    have s46 := s5.trans s6
    have l6 := l4.same s46
    have ob6 := s46 _ _ ob4
    have nx6 := nx.same s46
    clear l4 ob4
    walk_at "rd"
    intro H7 s7
    have e7 : (ts.map Tk.price).sum = wkSum (more f c1 ⟨day, s, g, zz, c⟩ c1) wk := by
      rw [cw, ← tc]
      rfl
    have e7 : (ts.map Tk.price).sum = wkSum (LdS.cards ⟨zones, links, S, D, W, more f c1 ⟨day, s, g, zz, c⟩⟩ c1) wk := e7
    rw [e7]
    have l7 := l6.same s7
    have ob7 := s7 _ _ ob6
    have nx7 := nx6.same s7
    clear l6 ob6
    walk_at "rd"
    show t_law_b2_s5 K A E Dn [some (.ref a), some (.int n), some (.int sz), some (.int step), some (.ref Z), o5, some (.ref Lk), some (.ref Rw), some (.ref Wb), some (.ref p), some (.ref Dt), some (.ref Dl), some (.str c1), some (.int (s : Nat)), some (.int (g : Nat)), some (.int wk), some (.int c), some (.ref Fo), some (.int lv), none, none] H7
    unfold t_law_b2_s5
    walk_at "rd"
    intro R8 xs8 H8 s8 hR80 hR8 rl8
    have rl8 : RidesL H8 xs8 (more f c1 ⟨day, s, g, zz, c⟩ c1) := rl8
    rw [more_at] at rl8
    obtain ⟨q8, a8, hq8⟩ := rides_last rl8
    have nx8 := nx7.same s8
    have hR8q := SqL.of (K := K) hR8
    have lx8 := rl8.len
    have gD8 := ((s46.trans s7).trans s8) _ _ gD3
    have vD : valV (putK kvs (.inr c1) (.int day)) (.inr c1) = some (.int day) := by rw [valV_put, if_pos rfl]
    have dg8 : DGet H8 Dl (.str c1) (some (.int day)) := by rw [← vD]; exact DGet.k (k := .inr c1) gD8
    walk_at "rd"
    intro t9 ht9
    rw [min_if5, hzz]
    have t99 : upd H8 t9 (.tup [.int day, .int (s : Nat), .int (g : Nat), .int zz, .int c]) t9 = some (.tup (Rd5.vals ⟨day, s, g, zz, c⟩)) := upd_same
    have hq9 := (Same.new (o := .tup [.int day, .int (s : Nat), .int (g : Nat), .int zz, .int c]) ht9) _ _ hq8
    refine neD_no (dp_rd hq9) (dp_rd t99) (shp_rd _) (by decide) ?_
    walk_at "rd"
    exact q _ _ _ _ _ _ (nx8.same (Same.new ht9))
end
end FW

namespace FW
open PySem PySem.Spec PyProof.Rows L2
section
variable {K : PySem.W.Frag} {A : Ad} {vs : List V} {H : Hp} {Q : VK} {E : XK}
theorem rd_b2 (OW : OkW K A) (OL : OkL K A) {a Z Lk Rw Wb Dt p C Dl R1 R2 Fo : Addr} {c1 c2 : Str} {ns : List Int} {lxs : List V} {rws : List Addr} {kt : List (Key × V)} {zones : List Int} {links : List (Nat × Nat)} {S D W : List Int} {f : Str → List Rd5} {B H1 : Hp} {n sz step d wk lv : Int} {s g j : Nat} {Dn : Ends} {o5 : Option V} {F : Fnd} {u : Nat} {o18 : Option V} (wo : WebOk zones links) (hs : s < zones.length) (rF : Rch zones links s F)
    (t : T10 A H B p C Dl c1 c2 R1 R2 j zones links S D W f) (hc : c1 ≠ c2) (base : B10 K A B a Z Lk Rw Wb Dt ns lxs rws kt zones links S D W) (rS : Row5 S) (rD : Row5 D) (rW : Row5 W) (hv : valV kt (.inr c1) = some (.ref R1)) (hj : j < 90) (hg : g < F.length)
    (hd : ∀ kvs, H Dl = some (.dK kvs) → valV kvs (.inr c1) = some (.int d)) (h0 : 0 ≤ d + step) (np : ¬ Past (f c1) (d + step)) (hlv : 1 ≤ lv) (hwk : wk = (d + step) / 7) (hF : fd F g = some (lv, u)) (hFo : H1 Fo = some (.lst (F.map lvV)))
    (lr : ∀ hs, Stands H hs → LedAt A (dels H hs) p C j ⟨zones, links, S, D, W, f⟩ → LedAt A (dels H1 hs) p C (j + 1) (LdS.put ⟨zones, links, S, D, W, f⟩ c1 ⟨d + step, s, g, min lv 5, (chg S D W (f c1) (d + step) (min lv 5))⟩)) (sr : Same (del H C) (del H1 C))
    (q : ∀ (H' : Hp) (f' : Str → List Rd5) (o15 o16 o17 o18 : Option V), T10 A H' B p C Dl c1 c2 R1 R2 (j + 1) zones links S D W f' → Dn.nx [some (.ref a), some (.int n), some (.int sz), some (.int step), some (.ref Z), o5, some (.ref Lk), some (.ref Rw), some (.ref Wb), some (.ref p), some (.ref Dt), some (.ref Dl), some (.str c1), some (.int (s : Nat)), some (.int (g : Nat)), o15, o16, o17, o18, none, none] H') :
    t_law_b2 K A E Dn [some (.ref a), some (.int n), some (.int sz), some (.int step), some (.ref Z), o5, some (.ref Lk), some (.ref Rw), some (.ref Wb), some (.ref p), some (.ref Dt), some (.ref Dl), some (.str c1), some (.int (s : Nat)), some (.int (g : Nat)), some (.int wk), some (.int (chg S D W (f c1) (d + step) (min lv 5))), some (.ref Fo), o18, none, none] H1 := by
  have sB1 : Same B (dels H1 [C, Dl, R1, R2]) := t.sB.trans (Same.delIn List.mem_cons_self sr)
  have b1 := base.same (sB1.trans (dels_sub _ _))
  have hW1 := b1.hW
  obtain ⟨aw, bw, dxw, obw⟩ := hW1.obj
  have no1 := (web_look aw bw).2
  have cl := OW.cl
  have hgz : g < zones.length := by rw [← rF.len]; exact hg
  have ist : InR zones (s : Int) := ⟨by omega, by omega⟩
  have ig : InR zones (g : Int) := ⟨by omega, by omega⟩
  unfold t_law_b2
  walk_at "rd"
  refine ⟨fun _ _ F9 H9 s9 r9 => ?_, fun n => absurd ⟨ist, ig⟩ n⟩
  rw [Int.toNat_natCast] at r9
  rw [Int.toNat_natCast]
  have ev9 := lv_eq rF r9 g
  rw [hF] at ev9
  cases e9 : fd F9 g with
  | none => rw [e9] at ev9; cases ev9
  | some x9 =>
    obtain ⟨c9, u9⟩ := x9
    rw [e9] at ev9
    have ec : lv = c9 := V.int.inj ev9
    subst ec
    refine ⟨fun _ R9 H10 row9 s10 hR90 hR9 fw9 ns9 hd9 hla9 hle9 => ?_, fun z => by cases z⟩
    rw [Int.toNat_natCast] at ns9 hd9
    have s010 := s9.trans s10
    have b10 := b1.same s010
    refine ⟨_, rfl, _, rfl, _, rfl, _, rfl, R9, Z, Lk, lxs, row9, F9, zones, links, s, g, lv, u9, rfl, hR9, b10.hZ, b10.hL, b10.pl, r9, wo, hs, fw9, ns9, hd9, hla9, hle9, e9, fun H11 s11 => ?_⟩
    have s1 := s010.trans s11
    show t_law_b2_s1 K A E Dn [some (.ref a), some (.int n), some (.int sz), some (.int step), some (.ref Z), o5, some (.ref Lk), some (.ref Rw), some (.ref Wb), some (.ref p), some (.ref Dt), some (.ref Dl), some (.str c1), some (.int (s : Nat)), some (.int (g : Nat)), some (.int wk), some (.int (chg S D W (f c1) (d + step) (min lv 5))), some (.ref Fo), some (.int lv), none, none] H11
    exact rd_b2_s1 OL t hc base rS rD rW hv hj hg hd h0 np hlv hwk hF (s1 _ _ hFo) (fun hs a b => (lr hs a b).same (s1.dels2 hs)) (sr.trans (s1.del2 C)) q
theorem rd_b1_s3 (OW : OkW K A) {a Z Lk Rw Wb Dt p Dl : Addr} {c1 : Str} {ns : List Int} {lxs : List V} {rws : List Addr} {kt : List (Key × V)} {zones : List Int} {links : List (Nat × Nat)} {S D W : List Int} {H1 : Hp} {n sz step wk : Int} {s g : Nat} {Dn : Ends} {o5 o17 o18 : Option V} {F : Fnd} {cv : V} (base : B10 K A H1 a Z Lk Rw Wb Dt ns lxs rws kt zones links S D W) (wo : WebOk zones links) (hs : s < zones.length) (hg : g < zones.length) (rF : Rch zones links s F)
    (hcv : (fd F g = none ∧ cv = .non) ∨ ∃ lv u c, fd F g = some (lv, u) ∧ cv = .int c)
    (k : ∀ (H' : Hp) (Fo : Addr) (F' : Fnd), Same H1 H' → H' Fo = some (.lst (F'.map lvV)) → Rch zones links s F' → lvV (fd F' g) = lvV (fd F g) → t_law_b1_s5 K A E Dn [some (.ref a), some (.int n), some (.int sz), some (.int step), some (.ref Z), o5, some (.ref Lk), some (.ref Rw), some (.ref Wb), some (.ref p), some (.ref Dt), some (.ref Dl), some (.str c1), some (.int (s : Nat)), some (.int (g : Nat)), some (.int wk), some cv, some (.ref Fo), o18, none, none] H') :
    t_law_b1_s3 K A E Dn [some (.ref a), some (.int n), some (.int sz), some (.int step), some (.ref Z), o5, some (.ref Lk), some (.ref Rw), some (.ref Wb), some (.ref p), some (.ref Dt), some (.ref Dl), some (.str c1), some (.int (s : Nat)), some (.int (g : Nat)), some (.int wk), some cv, o17, o18, none, none] H1 := by
  have hW1 := base.hW
  obtain ⟨aw, bw, dxw, obw⟩ := hW1.obj
  have no1 := (web_look aw bw).1
  have cl := OW.cl
  have ist : InR zones (s : Int) := ⟨by omega, by omega⟩
  unfold t_law_b1_s3
  walk_at "rd"
  refine ⟨fun _ Fo F2 H2 s2 hFo0 hFo r2 => ?_, fun n => absurd ist n⟩
  rw [Int.toNat_natCast] at r2
  have ev := lv_eq rF r2 g
  have b2 := base.same s2
  have hZ2 := b2.hZ
  have hL2 := b2.hL
  have pl2 := b2.pl
  have hg2 : g < F2.length := by rw [r2.len]; exact hg
  have hFoq := SqL.of (K := K) hFo
  have a1 : atI (F2.map lvV) (g : Int) = some (lvV (fd F g)) := by
    refine atI_nat ?_
    rw [List.getElem?_map, ev]
    have e : F2[g]? = some (fd F2 g) := by
      unfold fd
      rw [List.getD_eq_getElem?_getD, List.getElem?_eq_getElem hg2]
      rfl
    rw [e]
    rfl
  have kk := k H2 Fo F2 s2 hFo r2 ev.symm
  clear k
  show t_law_b1_s4 K A E Dn [some (.ref a), some (.int n), some (.int sz), some (.int step), some (.ref Z), o5, some (.ref Lk), some (.ref Rw), some (.ref Wb), some (.ref p), some (.ref Dt), some (.ref Dl), some (.str c1), some (.int (s : Nat)), some (.int (g : Nat)), some (.int wk), some cv, some (.ref Fo), o18, none, none] H2
  unfold t_law_b1_s4
  rcases hcv with ⟨e, rfl⟩ | ⟨lv, u, c, e, rfl⟩
  · rw [e] at a1
    have a1 : atI (F2.map lvV) (g : Int) = some .non := a1
    walk_at "rd"
    exact kk
  · rw [e] at a1
    have a1 : atI (F2.map lvV) (g : Int) = some (.int lv) := a1
    walk_at "rd"
    exact kk
end
end FW

namespace FW
open PySem PySem.Spec PyProof.Rows L2
theorem LedAt.more {A : Ad} {H : Hp} {p C : Addr} {m : Nat} {L : LdS} (l : LedAt A H p C m L) (h : m < 100) : LedAt A H p C (m + 1) L where
  ob := l.ob
  dk := let ⟨kvs, a, b, c⟩ := l.dk; ⟨kvs, a, by omega, c⟩
  ok := l.ok
  sz := fun card => by have := l.sz card; omega
  hm := h
theorem T10.more {A : Ad} {H B : Hp} {p C Dl : Addr} {c1 c2 : Str} {R1 R2 : Addr} {j : Nat} {zones : List Int} {links : List (Nat × Nat)} {S D W : List Int} {f : Str → List Rd5} (t : T10 A H B p C Dl c1 c2 R1 R2 j zones links S D W f) (h : j < 100) : T10 A H B p C Dl c1 c2 R1 R2 (j + 1) zones links S D W f :=
  ⟨t.l.more h, t.n1, t.n2, t.n3, t.sB, let ⟨kvs, a, b, c⟩ := t.hd; ⟨kvs, a, by omega, c⟩, t.r1, t.r2, t.k1, t.k2⟩
section
variable {K : PySem.W.Frag} {A : Ad} {vs : List V} {H : Hp} {Q : VK} {E : XK}
theorem rd_b1c (OW : OkW K A) (OL : OkL K A) {a Z Lk Rw Wb Dt p C Dl R1 R2 : Addr} {c1 c2 : Str} {ns : List Int} {lxs : List V} {rws : List Addr} {kt : List (Key × V)} {zones : List Int} {links : List (Nat × Nat)} {S D W : List Int} {f : Str → List Rd5} {B : Hp} {n sz step : Int} {s g j : Nat} {Dn : Ends} {o5 o15 o16 o17 o18 : Option V} (t : T10 A H B p C Dl c1 c2 R1 R2 j zones links S D W f) (hc : c1 ≠ c2) (base : B10 K A B a Z Lk Rw Wb Dt ns lxs rws kt zones links S D W) (wo : WebOk zones links) (rS : Row5 S) (rD : Row5 D) (rW : Row5 W) (hv : valV kt (.inr c1) = some (.ref R1)) (hj : j < 90)
    (hs : s < zones.length) (hg : g < zones.length) (hst : 0 ≤ step)
    (q : ∀ (H' : Hp) (f' : Str → List Rd5) (o15 o16 o17 o18 : Option V), T10 A H' B p C Dl c1 c2 R1 R2 (j + 1) zones links S D W f' → Dn.nx [some (.ref a), some (.int n), some (.int sz), some (.int step), some (.ref Z), o5, some (.ref Lk), some (.ref Rw), some (.ref Wb), some (.ref p), some (.ref Dt), some (.ref Dl), some (.str c1), some (.int (s : Nat)), some (.int (g : Nat)), o15, o16, o17, o18, none, none] H') :
    t_law_b1 K A E Dn [some (.ref a), some (.int n), some (.int sz), some (.int step), some (.ref Z), o5, some (.ref Lk), some (.ref Rw), some (.ref Wb), some (.ref p), some (.ref Dt), some (.ref Dl), some (.str c1), some (.int (s : Nat)), some (.int (g : Nat)), o15, o16, o17, o18, none, none] H := by
  obtain ⟨o1, o2, o3⟩ := t.out
  obtain ⟨kvs, hk, hkl, ⟨d, v1, d0, dl⟩, d2⟩ := id t.hd
  have dg : DGet H Dl (.str c1) (some (.int d)) := by rw [← v1]; exact DGet.k (k := .inr c1) hk
  unfold t_law_b1
  walk_at "rd"
  show t_law_b1_s1 K A E Dn [some (.ref a), some (.int n), some (.int sz), some (.int step), some (.ref Z), o5, some (.ref Lk), some (.ref Rw), some (.ref Wb), some (.ref p), some (.ref Dt), some (.ref Dl), some (.str c1), some (.int (s : Nat)), some (.int (g : Nat)), some (.int ((d + step) / 7)), o16, o17, o18, none, none] H
  unfold t_law_b1_s1
  have l0 := t.led
  obtain ⟨Wl, Tl, dx, ob⟩ := l0.obj
  have cl := OL.cl
  have no1 := led_tick Wl Tl C
  walk_at "rd"
  intro tk ys ts H1 s1 _ _ _ _ _ _
  have t1 := t.same s1
  have l1 := t1.led
  have hk1 := s1 _ _ hk
  have dg1 : DGet H1 Dl (.str c1) (some (.int d)) := by rw [← v1]; exact DGet.k (k := .inr c1) hk1
  have ist : InR zones (s : Int) := ⟨by omega, by omega⟩
  have ig : InR zones (g : Int) := ⟨by omega, by omega⟩
  have np : ¬ Past (f c1) (d + step) := notPast (by omega) fun r hr => by have := dl r hr; omega
  have hj100 : j < 100 := by omega
  clear l0 ob dg
  show t_law_b1_s2 K A E Dn [some (.ref a), some (.int n), some (.int sz), some (.int step), some (.ref Z), o5, some (.ref Lk), some (.ref Rw), some (.ref Wb), some (.ref p), some (.ref Dt), some (.ref Dl), some (.str c1), some (.int (s : Nat)), some (.int (g : Nat)), some (.int ((d + step) / 7)), o16, o17, o18, none, none] H1
  unfold t_law_b1_s2
  walk_at "rd"
  intro F rF
  have rF : Rch zones links s F := rF
  refine ⟨fun e H2 s2 => ?_, fun lv u e H2 l2 sr lr => ?_⟩
  · have e : fd F g = none := e
    show t_law_b1_s3 K A E Dn [some (.ref a), some (.int n), some (.int sz), some (.int step), some (.ref Z), o5, some (.ref Lk), some (.ref Rw), some (.ref Wb), some (.ref p), some (.ref Dt), some (.ref Dl), some (.str c1), some (.int (s : Nat)), some (.int (g : Nat)), some (.int ((d + step) / 7)), some .non, o17, o18, none, none] H2
    have t2 := t1.same s2
    refine rd_b1_s3 OW (base.same (t2.sB.trans (dels_sub _ _))) wo hs hg rF (.inl ⟨e, rfl⟩) fun H3 Fo F3 s3 hFo r3 ev => ?_
    unfold t_law_b1_s5
    walk_at "rd"
    exact q _ _ _ _ _ _ ((t2.same s3).more hj100)
  · have e : fd F g = some (lv, u) := e
    have hlv : 1 ≤ lv := (rF.lv g lv u e).1
    show t_law_b1_s3 K A E Dn [some (.ref a), some (.int n), some (.int sz), some (.int step), some (.ref Z), o5, some (.ref Lk), some (.ref Rw), some (.ref Wb), some (.ref p), some (.ref Dt), some (.ref Dl), some (.str c1), some (.int (s : Nat)), some (.int (g : Nat)), some (.int ((d + step) / 7)), some (.int (chg S D W (f c1) (d + step) (min lv 5))), o17, o18, none, none] H2
    have sB2 : Same B (dels H2 [C, Dl, R1, R2]) := t1.sB.trans (Same.delIn List.mem_cons_self sr)
    refine rd_b1_s3 OW (base.same (sB2.trans (dels_sub _ _))) wo hs hg rF (.inr ⟨lv, u, _, e, rfl⟩) fun H3 Fo F3 s3 hFo r3 ev => ?_
    rw [e] at ev
    have hg3 : g < F3.length := by rw [r3.len]; exact hg
    cases e3 : fd F3 g with
    | none => rw [e3] at ev; cases ev
    | some x3 =>
      obtain ⟨c3, u3⟩ := x3
      rw [e3] at ev
      have ec : c3 = lv := V.int.inj ev
      subst ec
      unfold t_law_b1_s5
      walk_at "rd"
      exact rd_b2 OW OL wo hs r3 t1 hc base rS rD rW hv hj hg3 (fun kvs' hk' => by rw [hk1] at hk'; cases hk'; exact v1) (by omega) np hlv rfl e3 hFo (fun hs a b => (lr hs a b).same (s3.dels2 hs)) (sr.trans (s3.del2 C)) q
theorem onetwo : ("one" : Str) ≠ "two" := by decide +kernel
theorem rd_law_b1 (OW : OkW K A) (OL : OkL K A) {r : Plan} {m : Nat} {a Z Lk Rw Wb Dt p C Dl Ra Rb : Addr} {ns : List Int} {lxs : List V} {rws : List Addr} {kt : List (Key × V)} {zones : List Int} {links : List (Nat × Nat)} {S D W : List Int} {f : Str → List Rd5} {B : Hp} {n sz : Int} {j : Nat} {Dn : Ends} {o5 o15 o16 o17 o18 : Option V} (t : T10 A H B p C Dl "one" "two" Ra Rb j zones links S D W f) (base : B10 K A B a Z Lk Rw Wb Dt ns lxs rws kt zones links S D W) (wo : WebOk zones links) (rS : Row5 S) (rD : Row5 D) (rW : Row5 W) (hva : valV kt (.inr "one") = some (.ref Ra)) (hvb : valV kt (.inr "two") = some (.ref Rb)) (hj : j < 90)
    (hm : zones.length = m) (hr : r.ok m)
    (q : ∀ (H' : Hp) (f' : Str → List Rd5) (o3 o12 o13 o14 o15 o16 o17 o18 : Option V), T10 A H' B p C Dl "one" "two" Ra Rb (j + 1) zones links S D W f' → Dn.nx [some (.ref a), some (.int n), some (.int sz), o3, some (.ref Z), o5, some (.ref Lk), some (.ref Rw), some (.ref Wb), some (.ref p), some (.ref Dt), some (.ref Dl), o12, o13, o14, o15, o16, o17, o18, none, none] H') :
    t_law_b1 K A E Dn [some (.ref a), some (.int n), some (.int sz), some (.int r.st), some (.ref Z), o5, some (.ref Lk), some (.ref Rw), some (.ref Wb), some (.ref p), some (.ref Dt), some (.ref Dl), some (.str r.c), some (.int r.s), some (.int r.g), o15, o16, o17, o18, none, none] H := by
  obtain ⟨card, step, s, g⟩ := r
  obtain ⟨hcd, h0, h1, h2, h3, h4⟩ := hr
  have h0 : 0 ≤ step := h0
  have h1 : 0 ≤ s := h1
  have h2 : s < (m : Int) := h2
  have h3 : 0 ≤ g := h3
  have h4 : g < (m : Int) := h4
  obtain ⟨s, rfl⟩ := Int.eq_ofNat_of_zero_le h1
  obtain ⟨g, rfl⟩ := Int.eq_ofNat_of_zero_le h3
  rcases hcd with e | e
  · have e : card = "one" := e
    subst e
    exact rd_b1c OW OL t onetwo base wo rS rD rW hva hj (by omega) (by omega) h0 fun H' f' o15 o16 o17 o18 t' => q H' f' _ _ _ _ _ _ _ _ t'
  · have e : card = "two" := e
    subst e
    exact rd_b1c OW OL t.swap (fun z => onetwo z.symm) base wo rS rD rW hvb hj (by omega) (by omega) h0 fun H' f' o15 o16 o17 o18 t' => q H' f' _ _ _ _ _ _ _ _ t'.swap
end
end FW

namespace FW
open PySem PySem.Spec PyProof.Rows L2
theorem PlanL.nt {H H' : Hp} (s : ∀ x us, H x = some (.tup us) → H' x = some (.tup us)) : ∀ {xs : List V} {rs : List Plan}, PlanL H xs rs → PlanL H' xs rs
  | _, _, .nil => .nil
  | _, _, .cons ⟨q, e, h⟩ r => .cons ⟨q, e, s _ _ h⟩ (PlanL.nt s r)
theorem T10.stands4 {A : Ad} {H B : Hp} {p C Dl : Addr} {c1 c2 : Str} {R1 R2 : Addr} {j : Nat} {zones : List Int} {links : List (Nat × Nat)} {S D W : List Int} {f : Str → List Rd5} (t : T10 A H B p C Dl c1 c2 R1 R2 j zones links S D W f) : Stands H [C, Dl, R1, R2] := fun x m => by
  obtain ⟨k, hC⟩ := t.led.dict
  rcases List.mem_cons.mp m with e | m
  · exact ⟨_, by rw [e]; exact hC, fun us z => by cases z⟩
  · exact t.stands x m
theorem T10.tups {A : Ad} {H B : Hp} {p C Dl : Addr} {c1 c2 : Str} {R1 R2 : Addr} {j : Nat} {zones : List Int} {links : List (Nat × Nat)} {S D W : List Int} {f : Str → List Rd5} (t : T10 A H B p C Dl c1 c2 R1 R2 j zones links S D W f) (x : Addr) (us : List V) (h : H x = some (.tup us)) : dels H [C, Dl, R1, R2] x = some (.tup us) := by
  rw [dels_out]
  · exact h
  · intro m
    obtain ⟨o, e, n⟩ := t.stands4 x m
    rw [h] at e
    exact n us (Option.some.inj e).symm
section
variable {K : PySem.W.Frag} {A : Ad} {vs : List V} {H : Hp} {Q : VK} {E : XK}
theorem rd_law12 (OL : OkL K A) {a Z Lk Rw Wb Dt p C Dl Ra Rb : Addr} {ns : List Int} {lxs : List V} {rws : List Addr} {kt : List (Key × V)} {zones : List Int} {links : List (Nat × Nat)} {S D W : List Int} {f : Str → List Rd5} {B : Hp} {n sz : Int} {Dn : Ends} {j : Nat} {o3 o5 o12 o13 o14 o15 o16 o17 o18 : Option V} (t : T10 A H B p C Dl "one" "two" Ra Rb j zones links S D W f) (base : B10 K A B a Z Lk Rw Wb Dt ns lxs rws kt zones links S D W) (rS : Row5 S) (rD : Row5 D) (rW : Row5 W) (hva : valV kt (.inr "one") = some (.ref Ra)) (hvb : valV kt (.inr "two") = some (.ref Rb)) (hj : j ≤ 20) (q : ∀ H', Dn.rt (.bl true) H') :
    t_law_s12 K A E Dn [some (.ref a), some (.int n), some (.int sz), o3, some (.ref Z), o5, some (.ref Lk), some (.ref Rw), some (.ref Wb), some (.ref p), some (.ref Dt), some (.ref Dl), o12, o13, o14, o15, o16, o17, o18, none, none] H := by
  have b0 := base.same (t.sB.trans (dels_sub _ _))
  have hS0 := b0.hS
  unfold t_law_s12
  walk_at "rd"
  show t_law_s13 K A E Dn [some (.ref a), some (.int n), some (.int sz), o3, some (.ref Z), o5, some (.ref Lk), some (.ref Rw), some (.ref Wb), some (.ref p), some (.ref Dt), some (.ref Dl), o12, o13, o14, o15, o16, o17, o18, some (.int (cell ns 2)), none] H
  unfold t_law_s13
  have l0 := t.led
  walk_at "rd"
  intro H1 s1
  have t1 := t.same s1
  have b1 := b0.same s1
  clear l0 hS0
  walk_at "rd"
  show t_law_s14 K A E Dn [some (.ref a), some (.int n), some (.int sz), o3, some (.ref Z), o5, some (.ref Lk), some (.ref Rw), some (.ref Wb), some (.ref p), some (.ref Dt), some (.ref Dl), o12, o13, o14, o15, o16, o17, o18, some (.int (cell ns 2)), none] H1
  unfold t_law_s14
  have sza : (f "one").length ≤ j := t.led.sz "one"
  have szb : (f "two").length ≤ j := t.led.sz "two"
  have dga : DGet H1 Dt (.str "one") (some (.ref Ra)) := by rw [← hva]; exact DGet.k (k := .inr "one") b1.hDt
  obtain ⟨xs, hx, rx⟩ := t1.r1
  have lR1 := b1.lR
  refine ⟨_, rfl, _, rfl, Dt, _, rfl, dga, _, rfl, _, rfl, p, C, j, _, "one", Ra, Rw, rws, _, xs, rfl, t1.led, SqL.of hx, ToldL.same (dels_sub _ _) rx, by show (f "one").length ≤ 60; omega, lR1, rS, rD, rW, t1.k1, fun H2 s2 => ?_⟩
  have t2 := t1.same s2
  have b2 := b1.same s2
  have dgb : DGet H2 Dt (.str "two") (some (.ref Rb)) := by rw [← hvb]; exact DGet.k (k := .inr "two") b2.hDt
  obtain ⟨ys, hy, ry⟩ := t2.r2
  have lR2 := b2.lR
  have ledb := t2.led
  have hyq := SqL.of (K := K) hy
  have tlb := ToldL.same (dels_sub _ _) ry
  have sz60 : (f "two").length ≤ 60 := by omega
  have k2b := t2.k2
  walk_at "rd"
  intro H3 s3
  exact q H3
theorem rd_law11 (OW : OkW K A) (OL : OkL K A) {a Z Lk Rw Wb Dt p C Dl Ra Rb : Addr} {ns : List Int} {lxs : List V} {rws : List Addr} {kt : List (Key × V)} {zones : List Int} {links : List (Nat × Nat)} {S D W : List Int} {n sz : Nat} {Dn : Ends} {step : Int} {o5 : Option V} (t : T10 A H (dels H [C, Dl, Ra, Rb]) p C Dl "one" "two" Ra Rb 0 zones links S D W (fun _ => [])) (base : B10 K A (dels H [C, Dl, Ra, Rb]) a Z Lk Rw Wb Dt ns lxs rws kt zones links S D W) (rS : Row5 S) (rD : Row5 D) (rW : Row5 W) (hva : valV kt (.inr "one") = some (.ref Ra)) (hvb : valV kt (.inr "two") = some (.ref Rb)) (wo : WebOk zones links) (hzl : zones.length = n) (hn1 : 1 ≤ n) (hn9 : n ≤ 9) (hsz : sz ≤ 9) (q : ∀ H', Dn.rt (.bl true) H') :
    t_law_s11 K A E Dn [some (.ref a), some (.int (n : Nat)), some (.int (sz : Nat)), some (.int step), some (.ref Z), o5, some (.ref Lk), some (.ref Rw), some (.ref Wb), some (.ref p), some (.ref Dt), some (.ref Dl), none, none, none, none, none, none, none, none, none] H := by
  have b0 := base.same (dels_sub _ _)
  have hS0 := b0.hS
  unfold t_law_s11
  walk_at "rd"
  intro Y xs rs H9 hok hlen s9 hY0 hY pl
  have T9 := t.same s9
  have T9o := T9.own
  have base9 := base.same (s9.dels2 _)
  have yd : dels H9 [C, Dl, Ra, Rb] Y = some (.lst xs) := by
    rw [dels_out (t.fresh hY0)]
    exact hY
  have pl9 : PlanL (dels H9 [C, Dl, Ra, Rb]) xs rs := PlanL.nt T9.tups pl
  have hYs := SqL.of (K := K) hY
  walk_at "rd"
  refine for_list (K := K) (a := Y) (xs := xs) (fun i σ H' => Hold (∃ (f : Str → List Rd5) (o3 o12 o13 o14 o15 o16 o17 o18 : Option V), σ = [some (.ref a), some (.int (n : Nat)), some (.int (sz : Nat)), o3, some (.ref Z), o5, some (.ref Lk), some (.ref Rw), some (.ref Wb), some (.ref p), some (.ref Dt), some (.ref Dl), o12, o13, o14, o15, o16, o17, o18, none, none] ∧ T10 A H' (dels H9 [C, Dl, Ra, Rb]) p C Dl "one" "two" Ra Rb i zones links S D W f)) ⟨_, _, _, _, _, _, _, _, _, rfl, T9o⟩
    (fun i σ H' _ ⟨_, _, _, _, _, _, _, _, _, _, t⟩ => (t.sB.trans (dels_sub _ _)).seq (SqL.of yd)) ?_ ?_
  · rintro i x σ H' hx ⟨f, o3, o12, o13, o14, o15, o16, o17, o18, rfl, t'⟩
    obtain ⟨r, u, hr, rfl, hu⟩ := pl9.get hx
    have hi : i < rs.length := (List.getElem?_eq_some_iff.mp hr).1
    have hu' : H' u = some (.tup [.str r.c, .int r.st, .int r.s, .int r.g]) := (t'.sB.trans (dels_sub _ _)) _ _ hu
    walk_at "rd"
    exact rd_law_b1 OW OL t' base9 wo rS rD rW hva hvb (by omega) hzl (hok r (List.mem_of_getElem? hr)) fun H'' f' o3 o12 o13 o14 o15 o16 o17 o18 t2 => ⟨_, _, _, _, _, _, _, _, _, rfl, t2⟩
  · rintro σ H' ⟨f, o3, o12, o13, o14, o15, o16, o17, o18, rfl, t'⟩
    have hl2 := pl.len
    exact rd_law12 OL t' base9 rS rD rW hva hvb (by omega) q
end
end FW

namespace FW
open PySem PySem.Spec PyProof.Rows L2
/-- the names of a comprehension's block, against those of the def around it -/
def relS (sc scope : Scope) : Scope := { scope with names := scope.names.map fun (n, k) => if (k == NameKind.free && sc.kind == .function && sc.names.lookup n == some .cell) then (n, NameKind.cell) else (n, k) }
def otK (x y : V) : List (Key × V) := [(.inr "one", x), (.inr "two", y)]
theorem otK_m (x y : V) : mergeK [] (otK x y) = putK (putK ([] : List (Key × V)) (.inr "one") x) (.inr "two") y := rfl
theorem otK_a (x y : V) : valV (mergeK [] (otK x y)) (.inr "one") = some x := by
  rw [otK_m, valV_put, if_neg (fun z => onetwo (Sum.inr.inj z)), valV_put, if_pos rfl]
theorem otK_b (x y : V) : valV (mergeK [] (otK x y)) (.inr "two") = some y := by
  rw [otK_m, valV_put, if_pos rfl]
theorem otK_l (x y : V) : (mergeK [] (otK x y)).length ≤ 2 := by
  rw [otK_m]
  have h1 := put_len (kvs := ([] : List (Key × V))) (k := .inr "one") (v := x)
  have h2 := put_len (kvs := putK ([] : List (Key × V)) (.inr "one") x) (k := .inr "two") (v := y)
  have h0 : ([] : List (Key × V)).length = 0 := rfl
  omega
theorem otK_15 (x y : V) : (otK x y).length ≤ 15 := by show 2 ≤ 15; decide
section
variable {K : PySem.W.Frag} {A : Ad} {vs : List V} {H : Hp} {Q : VK} {E : XK}
theorem rd_law5 (OW : OkW K A) (OT : OkT K A) (OL : OkL K A) {a Z : Addr} {ns zones : List Int} {n sz : Nat} {m : Int} {o5 : Option V} {Dn : Ends} (hS : SqL K H a (ns.map V.int)) (hl : ns.length ≤ 63) (hZ : H Z = some (.lst (zones.map V.int))) (hzl : zones.length = n) (hn1 : 1 ≤ n) (hn9 : n ≤ 9) (hsz : sz ≤ 9) (q : ∀ H', Dn.rt (.bl true) H') :
    t_law_s5 K A E Dn [some (.ref a), some (.int (n : Nat)), some (.int (sz : Nat)), some (.int m), some (.ref Z), o5, none, none, none, none, none, none, none, none, none, none, none, none, none, none, none] H := by
  unfold t_law_s5
  walk_at "rd"
  intro Lk lxs ps H1 lok hps s1 hLk0 hLk pl
  have hS1 := s1.seq hS
  have hZ1 := s1 _ _ hZ
  show t_law_s6 K A E Dn [some (.ref a), some (.int (n : Nat)), some (.int (sz : Nat)), some (.int m), some (.ref Z), o5, some (.ref Lk), none, none, none, none, none, none, none, none, none, none, none, none, none, none] H1
  unfold t_law_s6
  walk_at "rd"
  intro Rw rws S D W H2 rS rD rW nR
  have s2 := nR.same
  have lR := nR.ll (K := K)
  have hS2 := s2.seq hS1
  have hZ2 := s2 _ _ hZ1
  have hLk2 := s2 _ _ hLk
  have pl2 := pl.same s2
  show t_law_s7 K A E Dn [some (.ref a), some (.int (n : Nat)), some (.int (sz : Nat)), some (.int m), some (.ref Z), o5, some (.ref Lk), some (.ref Rw), none, none, none, none, none, none, none, none, none, none, none, none, none] H2
  unfold t_law_s7
  have lxl := pl2.len
  walk_at "rd"
  intro z2 hz2
  have z21 : upd H2 z2 (.lst (zones.map V.int)) z2 = some (.lst (zones.map V.int)) := upd_same
  have sA : Same H2 (upd H2 z2 (.lst (zones.map V.int))) := Same.new hz2
  have hLkA := sA _ _ hLk2
  generalize upd H2 z2 (.lst (zones.map V.int)) = H3 at *
  walk_at "rd"
  intro L2 hL2
  have L21 : upd H3 L2 (.lst lxs) L2 = some (.lst lxs) := upd_same
  have sB : Same H3 (upd H3 L2 (.lst lxs)) := Same.new hL2
  have z22 := sB _ _ z21
  have s24 := sA.trans sB
  generalize upd H3 L2 (.lst lxs) = H4 at *
  walk_at "rd"
  intro Wb dx nP nd nex
  refine mk_web nP nd (SqL.of z22) (SqL.of L21) (pl2.same s24) (by omega) (by omega) (by rw [hzl]; exact lok) fun H5 s5 w => ?_
  refine ⟨rfl, ?_⟩
  have wo : WebOk zones ps := by obtain ⟨_, _, wa⟩ := id w; exact wa.ok
  show t_law_s8 K A E Dn [some (.ref a), some (.int (n : Nat)), some (.int (sz : Nat)), some (.int m), some (.ref Z), o5, some (.ref Lk), some (.ref Rw), some (.ref Wb), none, none, none, none, none, none, none, none, none, none, none, none] H5
  unfold t_law_s8
  have s25 := s24.trans s5
  have lR5 := lR.same s25
  obtain ⟨p0, g0, f0'⟩ := lR5.get (i := 0) (by decide) rfl
  obtain ⟨p1, g1, f1⟩ := lR5.get (i := 1) (by decide) rfl
  obtain ⟨p2, g2, f2⟩ := lR5.get (i := 2) (by decide) rfl
  have lRs := lR5.sq
  walk_at "rd"
  intro T dT nT ndT nexT
  refine mk_tariff nT ndT (SqL.of f0') (SqL.of f1) (SqL.of f2) rS rD rW fun H6 s6 ta => ⟨rfl, ?_⟩
  have w6 := w.same s6
  walk_at "rd"
  intro L dL nL ndL nexL
  refine mk_ledger nL ndL w6 ta fun C H7 led s7 nC => ⟨rfl, ?_⟩
  have s26 := s25.trans s6
  have b6 : ∀ kt Dt, H6 Dt = some (.dK kt) → B10 K A H6 a Z Lk Rw Wb Dt ns lxs rws kt zones ps S D W := fun kt Dt h => ⟨s26.seq hS2, SqL.of (s26 _ _ hZ2), SqL.of (s26 _ _ hLk2), pl2.same s26, w6, lR.same s26, h⟩
  have base6 : SqL K H6 a (ns.map V.int) ∧ SqL K H6 Z (zones.map V.int) ∧ SqL K H6 Lk lxs ∧ PairL H6 lxs ps ∧ Web A H6 Wb zones ps ∧ LLAt K H6 Rw rws [S, D, W] := ⟨s26.seq hS2, SqL.of (s26 _ _ hZ2), SqL.of (s26 _ _ hLk2), pl2.same s26, w6, lR.same s26⟩
  show t_law_s9 K A E Dn [some (.ref a), some (.int (n : Nat)), some (.int (sz : Nat)), some (.int m), some (.ref Z), o5, some (.ref Lk), some (.ref Rw), some (.ref Wb), some (.ref L), none, none, none, none, none, none, none, none, none, none, none] H7
  unfold t_law_s9
  refine fun Dt hDt => ?_
  simp only [tPairs, tC, tLst, tNil]
  refine ⟨Nat.zero_le _, fun Ra hRa => ⟨Nat.zero_le _, fun Rb hRb => ?_⟩⟩
  have sD1 : Same H7 (upd H7 Dt (.dK [])) := Same.new hDt
  have sD2 := sD1.trans (Same.new (o := .lst []) hRa)
  have sD3 := sD2.trans (Same.new (o := .lst []) hRb)
  have hRa7 := sD1.free hRa
  have hRb7 := sD2.free hRb
  have hDt3 : upd (upd (upd H7 Dt (.dK [])) Ra (.lst [])) Rb (.lst []) Dt = some (.dK []) := by
    have e1 : upd (upd H7 Dt (.dK [])) Ra (.lst []) Dt = some (.dK []) := (Same.new hRa : Same _ _) _ _ upd_same
    exact (Same.new hRb : Same _ _) _ _ e1
  have hRa3 : upd (upd (upd H7 Dt (.dK [])) Ra (.lst [])) Rb (.lst []) Ra = some (.lst []) := (Same.new hRb : Same _ _) _ _ upd_same
  have hRb3 : upd (upd (upd H7 Dt (.dK [])) Ra (.lst [])) Rb (.lst []) Rb = some (.lst []) := upd_same
  refine ⟨hDt3, otK (.ref Ra) (.ref Rb), rfl, otK_15 _ _, ?_⟩
  have nab : Ra ≠ Rb := fun z => by
    rw [← z] at hRb
    rw [upd_same] at hRb
    cases hRb
  have nda : Ra ≠ Dt := ne_of hRa3 hDt3 (by intro z; cases z)
  have ndb : Rb ≠ Dt := ne_of hRb3 hDt3 (by intro z; cases z)
  have s78 : Same H7 (upd (upd (upd (upd H7 Dt (.dK [])) Ra (.lst [])) Rb (.lst [])) Dt (.dK (mergeK [] (otK (.ref Ra) (.ref Rb))))) := sD3.mut hDt
  have t6 : upd (upd (upd (upd H7 Dt (.dK [])) Ra (.lst [])) Rb (.lst [])) Dt (.dK (mergeK [] (otK (.ref Ra) (.ref Rb)))) Dt = some (.dK (mergeK [] (otK (.ref Ra) (.ref Rb)))) := upd_same
  have ra6 : upd (upd (upd (upd H7 Dt (.dK [])) Ra (.lst [])) Rb (.lst [])) Dt (.dK (mergeK [] (otK (.ref Ra) (.ref Rb)))) Ra = some (.lst []) := by rw [upd_ne nda]; exact hRa3
  have rb6 : upd (upd (upd (upd H7 Dt (.dK [])) Ra (.lst [])) Rb (.lst [])) Dt (.dK (mergeK [] (otK (.ref Ra) (.ref Rb)))) Rb = some (.lst []) := by rw [upd_ne ndb]; exact hRb3
  have hva := otK_a (.ref Ra) (.ref Rb)
  have hvb := otK_b (.ref Ra) (.ref Rb)
  generalize mergeK [] (otK (.ref Ra) (.ref Rb)) = kt at *
  show t_law_s10 K A E Dn [some (.ref a), some (.int (n : Nat)), some (.int (sz : Nat)), some (.int m), some (.ref Z), o5, some (.ref Lk), some (.ref Rw), some (.ref Wb), some (.ref L), some (.ref Dt), none, none, none, none, none, none, none, none, none, none] (upd (upd (upd (upd H7 Dt (.dK [])) Ra (.lst [])) Rb (.lst [])) Dt (.dK kt))
  generalize upd (upd (upd (upd H7 Dt (.dK [])) Ra (.lst [])) Rb (.lst [])) Dt (.dK kt) = H8 at *
  unfold t_law_s10
  refine fun Dl hDl => ?_
  simp only [tPairs, tC, tLst, tNil]
  refine ⟨upd_same, otK (.int 0) (.int 3), rfl, otK_15 _ _, ?_⟩
  have s89 : Same H8 (upd (upd H8 Dl (.dK [])) Dl (.dK (mergeK [] (otK (.int 0) (.int 3))))) := (Same.new hDl).mut hDl
  have l9 : upd (upd H8 Dl (.dK [])) Dl (.dK (mergeK [] (otK (.int 0) (.int 3)))) Dl = some (.dK (mergeK [] (otK (.int 0) (.int 3)))) := upd_same
  have hla := otK_a (.int 0) (.int 3)
  have hlb := otK_b (.int 0) (.int 3)
  have hkl : (mergeK [] (otK (.int 0) (.int 3))).length ≤ 2 + 0 := otK_l _ _
  generalize mergeK [] (otK (.int 0) (.int 3)) = kl at *
  show t_law_s11 K A E Dn [some (.ref a), some (.int (n : Nat)), some (.int (sz : Nat)), some (.int m), some (.ref Z), o5, some (.ref Lk), some (.ref Rw), some (.ref Wb), some (.ref L), some (.ref Dt), some (.ref Dl), none, none, none, none, none, none, none, none, none] (upd (upd H8 Dl (.dK [])) Dl (.dK kl))
  generalize upd (upd H8 Dl (.dK [])) Dl (.dK kl) = H9 at *
  have s79 := s78.trans s89
  have n7 : ∀ x ∈ [Dl, Ra, Rb], H7 x = none := fun x m => by
    simp only [List.mem_cons, List.not_mem_nil, or_false] at m
    rcases m with z | z | z <;> rw [z]
    · exact s78.free hDl
    · exact hRa7
    · exact hRb7
  have led9 : LedAt A (dels H9 [Dl, Ra, Rb]) L C 0 ⟨zones, ps, S, D, W, fun _ => []⟩ := led.same (s79.delsN n7)
  have ra9 := s89 _ _ ra6
  have rb9 := s89 _ _ rb6
  have dt9 := s89 _ _ t6
  have T9 : T10 A H9 (dels H9 [C, Dl, Ra, Rb]) L C Dl "one" "two" Ra Rb 0 zones ps S D W (fun _ => []) :=
    ⟨led9, ne_of l9 ra9 (by intro z; cases z), ne_of l9 rb9 (by intro z; cases z), nab, Same.refl _, ⟨kl, l9, hkl, ⟨0, hla, by decide, fun r hr => by cases hr⟩, ⟨3, hlb, by decide, fun r hr => by cases hr⟩⟩, ⟨[], ra9, .nil⟩, ⟨[], rb9, .nil⟩, Chd.nil _ _ _, Chd.nil _ _ _⟩
  have nin : ∀ x : Addr, H6 x ≠ none → x ∉ [C, Dl, Ra, Rb] := fun x hx m => by
    cases ex : H6 x with
    | none => exact hx ex
    | some o =>
      obtain ⟨e5, nC5⟩ := del_get (s7 x o ex)
      rcases List.mem_cons.mp m with z | m
      · exact nC5 z
      · rw [n7 x m] at e5; cases e5
  have sB6 : Same H6 (dels H9 [C, Dl, Ra, Rb]) := fun x o ex => by
    rw [dels_out (nin x (by rw [ex]; intro z; cases z))]
    exact s79 _ _ (del_get (s7 x o ex)).1
  have dtB : dels H9 [C, Dl, Ra, Rb] Dt = some (.dK kt) := by
    have m : Dt ∉ [C, Dl, Ra, Rb] := fun m => by
      simp only [List.mem_cons, List.not_mem_nil, or_false] at m
      rcases m with z | z | z | z
      · obtain ⟨kc, hc⟩ := led.dict
        rw [← z, hDt] at hc; cases hc
      · rw [← z, t6] at hDl; cases hDl
      · exact nda z.symm
      · exact ndb z.symm
    rw [dels_out m]
    exact dt9
  obtain ⟨c1, c2, c3, c4, c5, c6⟩ := base6
  exact rd_law11 OW OL T9 ⟨sB6.seq c1, sB6.seq c2, sB6.seq c3, c4.same sB6, c5.same sB6, c6.same sB6, dtB⟩ rS rD rW hva hvb wo hzl hn1 hn9 hsz q
theorem rd_law (OW : OkW K A) (OT : OkT K A) (OL : OkL K A) (h : sp_law K A vs H Q E) : t_law K A E { nx := fun _ H' => Q .non H', rt := Q } (start N_law vs) H := by
  obtain ⟨a, ns, rfl, hS, hl, q⟩ := h
  unfold t_law
  walk_at "rd"
  have b0 : 0 ≤ cell ns 0 % 9 := Int.emod_nonneg _ (by decide)
  have b1 : cell ns 0 % 9 < 9 := Int.emod_lt_of_pos _ (by decide)
  obtain ⟨n, en⟩ : ∃ n : Nat, 1 + cell ns 0 % 9 = (n : Int) := ⟨(1 + cell ns 0 % 9).toNat, by omega⟩
  have hn1 : 1 ≤ n := by omega
  have hn9 : n ≤ 9 := by omega
  rw [en]
  clear b0 b1 en
  show t_law_s1 K A E _ [some (.ref a), some (.int (n : Nat)), none, none, none, none, none, none, none, none, none, none, none, none, none, none, none, none, none, none, none] H
  unfold t_law_s1
  walk_at "rd"
  have b0 : 0 ≤ cell ns 0 / 9 % 10 := Int.emod_nonneg _ (by decide)
  have b1 : cell ns 0 / 9 % 10 < 10 := Int.emod_lt_of_pos _ (by decide)
  obtain ⟨sz, ez⟩ : ∃ sz : Nat, cell ns 0 / 9 % 10 = (sz : Int) := ⟨(cell ns 0 / 9 % 10).toNat, by omega⟩
  have hsz : sz ≤ 9 := by omega
  show t_law_s2 K A E _ [some (.ref a), some (.int (n : Nat)), some (.int (cell ns 0 / 9 % 10)), none, none, none, none, none, none, none, none, none, none, none, none, none, none, none, none, none, none] H
  rw [ez]
  clear b0 b1 ez
  unfold t_law_s2
  walk_at "rd"
  intro p hp
  obtain ⟨m, hm⟩ : ∃ m : Int, atI ([.int 1, .int 7, .int (10 ^ (4 : Int).toNat), .int (10 ^ (6 : Int).toNat), .int (2 ^ (32 : Int).toNat), .int (10 ^ (30 : Int).toNat)] : List V) (cell ns 2 % 6) = some (.int m) :=
    (pick (ns := [1, 7, 10 ^ (4 : Int).toNat, 10 ^ (6 : Int).toNat, 2 ^ (32 : Int).toNat, 10 ^ (30 : Int).toNat]) (i := cell ns 2 % 6) (Int.emod_nonneg _ (by decide)) (Int.emod_lt_of_pos _ (by decide))).imp fun _ h => h.1
  have s0 : Same H (upd H p (.lst [.int 1, .int 7, .int (10 ^ (4 : Int).toNat), .int (10 ^ (6 : Int).toNat), .int (2 ^ (32 : Int).toNat), .int (10 ^ (30 : Int).toNat)])) := Same.new hp
  have hS0 := s0.seq hS
  walk_at "rd"
  show t_law_s3 K A E _ [some (.ref a), some (.int (n : Nat)), some (.int (sz : Nat)), some (.int m), none, none, none, none, none, none, none, none, none, none, none, none, none, none, none, none, none] (upd H p (.lst [.int 1, .int 7, .int (10 ^ (4 : Int).toNat), .int (10 ^ (6 : Int).toNat), .int (2 ^ (32 : Int).toNat), .int (10 ^ (30 : Int).toNat)]))
  generalize upd H p (.lst [.int 1, .int 7, .int (10 ^ (4 : Int).toNat), .int (10 ^ (6 : Int).toNat), .int (2 ^ (32 : Int).toNat), .int (10 ^ (30 : Int).toNat)]) = H0 at *
  clear hm hp
  unfold t_law_s3
  walk_at "rd"
  intro Z hZ0
  have s1 : Same H0 (upd H0 Z (.lst [])) := Same.new hZ0
  have hZ : upd H0 Z (.lst []) Z = some (.lst []) := upd_same
  generalize upd H0 Z (.lst []) = H1 at *
  have hS1 := s1.seq hS0
  show t_law_s4 K A E _ [some (.ref a), some (.int (n : Nat)), some (.int (sz : Nat)), some (.int m), some (.ref Z), none, none, none, none, none, none, none, none, none, none, none, none, none, none, none, none] H1
  unfold t_law_s4
  walk_at "rd"
  refine for_range (lo := 0) (fun i σ H' => Hold (∃ (o5 : Option V) (zones : List Int), σ = [some (.ref a), some (.int (n : Nat)), some (.int (sz : Nat)), some (.int m), some (.ref Z), o5, none, none, none, none, none, none, none, none, none, none, none, none, none, none, none] ∧ Same H0 H' ∧ H' Z = some (.lst (zones.map V.int)) ∧ zones.length = i)) ⟨none, [], rfl, s1, hZ, rfl⟩ ?_ ?_
  · rintro i σ H' hi ⟨o5, zones, rfl, s, r, hz⟩
    have hi : i < 9 := by have : i < ((n : Int)).toNat := hi; omega
    have hS2 := s.seq hS0
    obtain ⟨dv, hdv, hmem⟩ := pick (ns := [1, 5, 25, 125, 625, 3125, 15625, 78125, 390625]) (i := 0 + (i : Int)) (by omega) (by show 0 + (i : Int) < 9; omega)
    have hdv : atI ([.int 1, .int 5, .int 25, .int 125, .int 625, .int 3125, .int 15625, .int 78125, .int 390625] : List V) (0 + (i : Int)) = some (.int dv) := hdv
    have dv0 : 0 < dv := (by decide : ∀ x ∈ ([1, 5, 25, 125, 625, 3125, 15625, 78125, 390625] : List Int), (0 : Int) < x) dv hmem
    have lz : zones.length ≤ 100 := by omega
    have dv1 : dv < 1073741824 := (by decide : ∀ x ∈ ([1, 5, 25, 125, 625, 3125, 15625, 78125, 390625] : List Int), x < (1073741824 : Int)) dv hmem
    have hdv2 : atI ([.int 1, .int 5, .int 25, .int 125, .int 625, .int 3125, .int 15625, .int 78125, .int 390625] : List V) ((i : Nat) : Int) = some (.int dv) := by rw [← Int.zero_add (i : Int)]; exact hdv
    walk_at "rd"
    intro P hP
    have s3 := s.trans (Same.new (o := .lst [.int 1, .int 5, .int 25, .int 125, .int 625, .int 3125, .int 15625, .int 78125, .int 390625]) hP)
    have r3 := (Same.new (o := .lst [.int 1, .int 5, .int 25, .int 125, .int 625, .int 3125, .int 15625, .int 78125, .int 390625]) hP) _ _ r
    walk_at "rd"
    refine ⟨_, zones ++ [m * (cell ns 1 / dv % 5)], rfl, s3.mut hZ0, ?_, by simp [hz]⟩
    rw [upd_same, List.map_append]
    rfl
  · rintro σ H' ⟨o5, zones, rfl, s, r, hz⟩
    have hz : zones.length = n := by rw [hz]; exact Int.toNat_natCast n
    exact rd_law5 OW OT OL (s.seq hS0) hl r hz hn1 hn9 hsz q
end
end FW

namespace FW
open PySem PySem.Spec PyProof.Rows L2
theorem units65 {k : Nat} {A : Around} (r : Room k A) : A.units + 65 < cLine := by
  have h := r.un
  omega
def topS (i : Nat) : Stmt := PySem.Challenge.pw_fareweb_k10_whole_cards_pay_the_least.main.body.getD i (.Pass ⟨0, 0, 0, 0⟩)
abbrev s_need_zones : Stmt := topS 11
abbrev s_cheapest : Stmt := topS 12
abbrev s_Tariff_init : Stmt := inClass (topS 13) 0
abbrev s_Tariff_single : Stmt := inClass (topS 13) 1
abbrev s_Tariff_day : Stmt := inClass (topS 13) 2
abbrev s_Tariff_week : Stmt := inClass (topS 13) 3
abbrev s_cost_of : Stmt := topS 15
abbrev s_for_day : Stmt := topS 16
abbrev s_for_week : Stmt := topS 17
abbrev s_least : Stmt := topS 18
abbrev s_Web_init : Stmt := inClass (topS 23) 0
abbrev s_Web_need : Stmt := inClass (topS 23) 1
abbrev s_Web_beside : Stmt := inClass (topS 23) 2
abbrev s_Web_spread : Stmt := inClass (topS 23) 3
abbrev s_Web_reached : Stmt := inClass (topS 23) 4
abbrev s_Web_levels : Stmt := inClass (topS 23) 5
abbrev s_Web_fewest : Stmt := inClass (topS 23) 6
abbrev s_Web_way : Stmt := inClass (topS 23) 7
abbrev s_Ledger_init : Stmt := inClass (topS 21) 0
abbrev s_Ledger_rides : Stmt := inClass (topS 21) 1
abbrev s_Ledger_week_sum : Stmt := inClass (topS 21) 5
abbrev s_Ledger_in_week : Stmt := inClass (topS 21) 2
abbrev s_Ledger_ride : Stmt := inClass (topS 21) 3
abbrev s_Ledger_tickets : Stmt := inClass (topS 21) 7
abbrev s_l_cell_at : Stmt := topS 25
abbrev s_l_whole : Stmt := topS 26
abbrev s_l_rows : Stmt := topS 27
abbrev s_l_links_by : Stmt := topS 28
abbrev s_l_zones_of : Stmt := topS 29
abbrev s_l_kept : Stmt := topS 30
abbrev s_l_ridden : Stmt := topS 31
abbrev s_l_serves : Stmt := topS 32
abbrev s_l_cost : Stmt := topS 33
abbrev s_l_drawn : Stmt := topS 34
abbrev s_l_weeks : Stmt := topS 35
abbrev s_l_rides : Stmt := topS 36
abbrev s_l_stays : Stmt := topS 37
abbrev s_law : Stmt := topS 38
theorem sc_need_zones : FnScope N_need_zones ["zones"] (defScope s_need_zones) := ⟨rfl, rfl, rfl, by decide +kernel, rfl, by decide +kernel, by decide +kernel⟩
theorem sc_cheapest : FnScope N_cheapest ["row", "zones"] (defScope s_cheapest) := ⟨rfl, rfl, rfl, by decide +kernel, rfl, by decide +kernel, by decide +kernel⟩
theorem sc_Tariff_init : FnScope N_Tariff_init ["self", "singles", "days", "weeks"] (defScope s_Tariff_init) := ⟨rfl, rfl, rfl, by decide +kernel, rfl, by decide +kernel, by decide +kernel⟩
theorem sc_Tariff_single : FnScope N_Tariff_single ["self", "zones"] (defScope s_Tariff_single) := ⟨rfl, rfl, rfl, by decide +kernel, rfl, by decide +kernel, by decide +kernel⟩
theorem sc_Tariff_day : FnScope N_Tariff_day ["self", "zones"] (defScope s_Tariff_day) := ⟨rfl, rfl, rfl, by decide +kernel, rfl, by decide +kernel, by decide +kernel⟩
theorem sc_Tariff_week : FnScope N_Tariff_week ["self", "zones"] (defScope s_Tariff_week) := ⟨rfl, rfl, rfl, by decide +kernel, rfl, by decide +kernel, by decide +kernel⟩
theorem sc_cost_of : FnScope N_cost_of ["tickets"] (defScope s_cost_of) := ⟨rfl, rfl, rfl, by decide +kernel, rfl, by decide +kernel, by decide +kernel⟩
theorem sc_for_day : FnScope N_for_day ["tariff", "day", "rides", "held"] (defScope s_for_day) := ⟨rfl, rfl, rfl, by decide +kernel, rfl, by decide +kernel, by decide +kernel⟩
theorem sc_for_week : FnScope N_for_week ["tariff", "days", "held"] (defScope s_for_week) := ⟨rfl, rfl, rfl, by decide +kernel, rfl, by decide +kernel, by decide +kernel⟩
theorem sc_least : FnScope N_least ["tariff", "days"] (defScope s_least) := ⟨rfl, rfl, rfl, by decide +kernel, rfl, by decide +kernel, by decide +kernel⟩
theorem sc_Web_init : FnScope N_Web_init ["self", "zones", "links"] (defScope s_Web_init) := ⟨rfl, rfl, rfl, by decide +kernel, rfl, by decide +kernel, by decide +kernel⟩
theorem sc_Web_need : FnScope N_Web_need ["self", "stop"] (defScope s_Web_need) := ⟨rfl, rfl, rfl, by decide +kernel, rfl, by decide +kernel, by decide +kernel⟩
theorem sc_Web_beside : FnScope N_Web_beside ["self", "stop"] (defScope s_Web_beside) := ⟨rfl, rfl, rfl, by decide +kernel, rfl, by decide +kernel, by decide +kernel⟩
theorem sc_Web_spread : FnScope N_Web_spread ["self", "found", "layer", "count"] (defScope s_Web_spread) := ⟨rfl, rfl, rfl, by decide +kernel, rfl, by decide +kernel, by decide +kernel⟩
theorem sc_Web_reached : FnScope N_Web_reached ["self", "start"] (defScope s_Web_reached) := ⟨rfl, rfl, rfl, by decide +kernel, rfl, by decide +kernel, by decide +kernel⟩
theorem sc_Web_levels : FnScope N_Web_levels ["self", "start"] (defScope s_Web_levels) := ⟨rfl, rfl, rfl, by decide +kernel, rfl, by decide +kernel, by decide +kernel⟩
theorem sc_Web_fewest : FnScope N_Web_fewest ["self", "start", "goal"] (defScope s_Web_fewest) := ⟨rfl, rfl, rfl, by decide +kernel, rfl, by decide +kernel, by decide +kernel⟩
theorem sc_Web_way : FnScope N_Web_way ["self", "start", "goal"] (defScope s_Web_way) := ⟨rfl, rfl, rfl, by decide +kernel, rfl, by decide +kernel, by decide +kernel⟩
theorem sc_Ledger_init : FnScope N_Ledger_init ["self", "web", "tariff"] (defScope s_Ledger_init) := ⟨rfl, rfl, rfl, by decide +kernel, rfl, by decide +kernel, by decide +kernel⟩
theorem sc_Ledger_rides : FnScope N_Ledger_rides ["self", "card"] (defScope s_Ledger_rides) := ⟨rfl, rfl, rfl, by decide +kernel, rfl, by decide +kernel, by decide +kernel⟩
theorem sc_Ledger_week_sum : FnScope N_Ledger_week_sum ["self", "card", "week"] (defScope s_Ledger_week_sum) := ⟨rfl, rfl, rfl, by decide +kernel, rfl, by decide +kernel, by decide +kernel⟩
theorem sc_Ledger_in_week : FnScope N_Ledger_in_week ["self", "card", "week"] (defScope s_Ledger_in_week) := ⟨rfl, rfl, rfl, by decide +kernel, rfl, by decide +kernel, by decide +kernel⟩
theorem sc_Ledger_ride : FnScope N_Ledger_ride ["self", "card", "day", "start", "goal"] (defScope s_Ledger_ride) := ⟨rfl, rfl, rfl, by decide +kernel, rfl, by decide +kernel, by decide +kernel⟩
theorem sc_Ledger_tickets : FnScope N_Ledger_tickets ["self", "card", "week"] (defScope s_Ledger_tickets) := ⟨rfl, rfl, rfl, by decide +kernel, rfl, by decide +kernel, by decide +kernel⟩
theorem sc_l_cell_at : FnScope N_l_cell_at ["_law_script", "_law_k"] (defScope s_l_cell_at) := ⟨rfl, rfl, rfl, by decide +kernel, rfl, by decide +kernel, by decide +kernel⟩
theorem sc_l_whole : FnScope N_l_whole ["_law_found"] (defScope s_l_whole) := ⟨rfl, rfl, rfl, by decide +kernel, rfl, by decide +kernel, by decide +kernel⟩
theorem sc_l_rows : FnScope N_l_rows ["_law_script"] (defScope s_l_rows) := ⟨rfl, rfl, rfl, by decide +kernel, rfl, by decide +kernel, by decide +kernel⟩
theorem sc_l_links_by : FnScope N_l_links_by ["_law_script", "_law_many", "_law_size"] (defScope s_l_links_by) := ⟨rfl, rfl, rfl, by decide +kernel, rfl, by decide +kernel, by decide +kernel⟩
theorem sc_l_zones_of : FnScope N_l_zones_of ["_law_row", "_law_zones", "_law_links", "_law_start", "_law_goal"] (defScope s_l_zones_of) := ⟨rfl, rfl, rfl, by decide +kernel, rfl, by decide +kernel, by decide +kernel⟩
theorem sc_l_kept : FnScope N_l_kept ["_law_found", "_law_zones", "_law_links", "_law_start"] (defScope s_l_kept) := ⟨rfl, rfl, rfl, by decide +kernel, rfl, by decide +kernel, by decide +kernel⟩
theorem sc_l_ridden : FnScope N_l_ridden ["_law_ledger", "_law_card", "_law_day", "_law_start", "_law_goal"] (defScope s_l_ridden) := ⟨rfl, rfl, rfl, by decide +kernel, rfl, by decide +kernel, by decide +kernel⟩
theorem sc_l_serves : FnScope N_l_serves ["_law_ticket", "_law_day", "_law_ride", "_law_zones"] (defScope s_l_serves) := ⟨rfl, rfl, rfl, by decide +kernel, rfl, by decide +kernel, by decide +kernel⟩
theorem sc_l_cost : FnScope N_l_cost ["_law_tickets", "_law_days", "_law_rows_here"] (defScope s_l_cost) := ⟨rfl, rfl, rfl, by decide +kernel, rfl, by decide +kernel, by decide +kernel⟩
theorem sc_l_drawn : FnScope N_l_drawn ["_law_number", "_law_rows_here", "_law_days"] (defScope s_l_drawn) := ⟨rfl, rfl, rfl, by decide +kernel, rfl, by decide +kernel, by decide +kernel⟩
theorem sc_l_weeks : FnScope N_l_weeks ["_law_ledger", "_law_card", "_law_told", "_law_rows_here", "_law_number"] (defScope s_l_weeks) := ⟨rfl, rfl, rfl, by decide +kernel, rfl, by decide +kernel, by decide +kernel⟩
theorem sc_l_rides : FnScope N_l_rides ["_law_script", "_law_many", "_law_size"] (defScope s_l_rides) := ⟨rfl, rfl, rfl, by decide +kernel, rfl, by decide +kernel, by decide +kernel⟩
theorem sc_l_stays : FnScope N_l_stays ["_law_ledger"] (defScope s_l_stays) := ⟨rfl, rfl, rfl, by decide +kernel, rfl, by decide +kernel, by decide +kernel⟩
theorem sc_law : FnScope N_law ["_law_script"] (defScope s_law) := ⟨rfl, rfl, rfl, by decide +kernel, rfl, by decide +kernel, by decide +kernel⟩
structure Txt (K : PySem.W.Frag) (mg : Str → Option Value) (A : Ad) where
  a_need_zones : Addr
  d_need_zones : FuncData
  F_need_zones : Fun K "need_zones" "need_zones" s_need_zones a_need_zones d_need_zones
  b_need_zones : Binds K d_need_zones ["zones"] []
  g_need_zones : mg "need_zones" = some (.ref a_need_zones)
  k_need_zones : PySem.W.keepIn K (.ref a_need_zones) = true
  a_cheapest : Addr
  d_cheapest : FuncData
  F_cheapest : Fun K "cheapest" "cheapest" s_cheapest a_cheapest d_cheapest
  b_cheapest : Binds K d_cheapest ["row", "zones"] []
  g_cheapest : mg "cheapest" = some (.ref a_cheapest)
  k_cheapest : PySem.W.keepIn K (.ref a_cheapest) = true
  a_Tariff_init : Addr
  d_Tariff_init : FuncData
  F_Tariff_init : Fun K "__init__" "Tariff.__init__" s_Tariff_init a_Tariff_init d_Tariff_init
  b_Tariff_init : Binds K d_Tariff_init ["self", "singles", "days", "weeks"] []
  M_Tariff : Mk K A.c_Tariff a_Tariff_init
  a_Tariff_single : Addr
  d_Tariff_single : FuncData
  F_Tariff_single : Fun K "single" "Tariff.single" s_Tariff_single a_Tariff_single d_Tariff_single
  b_Tariff_single : Binds K d_Tariff_single ["self", "zones"] []
  h_Tariff_single : Meth K A.c_Tariff "single" a_Tariff_single
  a_Tariff_day : Addr
  d_Tariff_day : FuncData
  F_Tariff_day : Fun K "day" "Tariff.day" s_Tariff_day a_Tariff_day d_Tariff_day
  b_Tariff_day : Binds K d_Tariff_day ["self", "zones"] []
  h_Tariff_day : Meth K A.c_Tariff "day" a_Tariff_day
  a_Tariff_week : Addr
  d_Tariff_week : FuncData
  F_Tariff_week : Fun K "week" "Tariff.week" s_Tariff_week a_Tariff_week d_Tariff_week
  b_Tariff_week : Binds K d_Tariff_week ["self", "zones"] []
  h_Tariff_week : Meth K A.c_Tariff "week" a_Tariff_week
  a_cost_of : Addr
  d_cost_of : FuncData
  F_cost_of : Fun K "cost_of" "cost_of" s_cost_of a_cost_of d_cost_of
  b_cost_of : Binds K d_cost_of ["tickets"] []
  g_cost_of : mg "cost_of" = some (.ref a_cost_of)
  k_cost_of : PySem.W.keepIn K (.ref a_cost_of) = true
  a_for_day : Addr
  d_for_day : FuncData
  F_for_day : Fun K "for_day" "for_day" s_for_day a_for_day d_for_day
  b_for_day : Binds K d_for_day ["tariff", "day", "rides", "held"] []
  g_for_day : mg "for_day" = some (.ref a_for_day)
  k_for_day : PySem.W.keepIn K (.ref a_for_day) = true
  a_for_week : Addr
  d_for_week : FuncData
  F_for_week : Fun K "for_week" "for_week" s_for_week a_for_week d_for_week
  b_for_week : Binds K d_for_week ["tariff", "days", "held"] []
  g_for_week : mg "for_week" = some (.ref a_for_week)
  k_for_week : PySem.W.keepIn K (.ref a_for_week) = true
  a_least : Addr
  d_least : FuncData
  F_least : Fun K "least" "least" s_least a_least d_least
  b_least : Binds K d_least ["tariff", "days"] []
  g_least : mg "least" = some (.ref a_least)
  k_least : PySem.W.keepIn K (.ref a_least) = true
  a_Web_init : Addr
  d_Web_init : FuncData
  F_Web_init : Fun K "__init__" "Web.__init__" s_Web_init a_Web_init d_Web_init
  b_Web_init : Binds K d_Web_init ["self", "zones", "links"] []
  M_Web : Mk K A.c_Web a_Web_init
  a_Web_need : Addr
  d_Web_need : FuncData
  F_Web_need : Fun K "need" "Web.need" s_Web_need a_Web_need d_Web_need
  b_Web_need : Binds K d_Web_need ["self", "stop"] []
  h_Web_need : Meth K A.c_Web "need" a_Web_need
  a_Web_beside : Addr
  d_Web_beside : FuncData
  F_Web_beside : Fun K "beside" "Web.beside" s_Web_beside a_Web_beside d_Web_beside
  b_Web_beside : Binds K d_Web_beside ["self", "stop"] []
  h_Web_beside : Meth K A.c_Web "beside" a_Web_beside
  a_Web_spread : Addr
  d_Web_spread : FuncData
  F_Web_spread : Fun K "spread" "Web.spread" s_Web_spread a_Web_spread d_Web_spread
  b_Web_spread : Binds K d_Web_spread ["self", "found", "layer", "count"] []
  h_Web_spread : Meth K A.c_Web "spread" a_Web_spread
  a_Web_reached : Addr
  d_Web_reached : FuncData
  F_Web_reached : Fun K "reached" "Web.reached" s_Web_reached a_Web_reached d_Web_reached
  b_Web_reached : Binds K d_Web_reached ["self", "start"] []
  h_Web_reached : Meth K A.c_Web "reached" a_Web_reached
  a_Web_levels : Addr
  d_Web_levels : FuncData
  F_Web_levels : Fun K "levels" "Web.levels" s_Web_levels a_Web_levels d_Web_levels
  b_Web_levels : Binds K d_Web_levels ["self", "start"] []
  h_Web_levels : Meth K A.c_Web "levels" a_Web_levels
  a_Web_fewest : Addr
  d_Web_fewest : FuncData
  F_Web_fewest : Fun K "fewest" "Web.fewest" s_Web_fewest a_Web_fewest d_Web_fewest
  b_Web_fewest : Binds K d_Web_fewest ["self", "start", "goal"] []
  h_Web_fewest : Meth K A.c_Web "fewest" a_Web_fewest
  a_Web_way : Addr
  d_Web_way : FuncData
  F_Web_way : Fun K "way" "Web.way" s_Web_way a_Web_way d_Web_way
  b_Web_way : Binds K d_Web_way ["self", "start", "goal"] []
  h_Web_way : Meth K A.c_Web "way" a_Web_way
  a_Ledger_init : Addr
  d_Ledger_init : FuncData
  F_Ledger_init : Fun K "__init__" "Ledger.__init__" s_Ledger_init a_Ledger_init d_Ledger_init
  b_Ledger_init : Binds K d_Ledger_init ["self", "web", "tariff"] []
  M_Ledger : Mk K A.c_Ledger a_Ledger_init
  a_Ledger_rides : Addr
  d_Ledger_rides : FuncData
  F_Ledger_rides : Fun K "rides" "Ledger.rides" s_Ledger_rides a_Ledger_rides d_Ledger_rides
  b_Ledger_rides : Binds K d_Ledger_rides ["self", "card"] []
  h_Ledger_rides : Meth K A.c_Ledger "rides" a_Ledger_rides
  a_Ledger_week_sum : Addr
  d_Ledger_week_sum : FuncData
  F_Ledger_week_sum : Fun K "week_sum" "Ledger.week_sum" s_Ledger_week_sum a_Ledger_week_sum d_Ledger_week_sum
  b_Ledger_week_sum : Binds K d_Ledger_week_sum ["self", "card", "week"] []
  h_Ledger_week_sum : Meth K A.c_Ledger "week_sum" a_Ledger_week_sum
  a_Ledger_in_week : Addr
  d_Ledger_in_week : FuncData
  F_Ledger_in_week : Fun K "in_week" "Ledger.in_week" s_Ledger_in_week a_Ledger_in_week d_Ledger_in_week
  b_Ledger_in_week : Binds K d_Ledger_in_week ["self", "card", "week"] []
  h_Ledger_in_week : Meth K A.c_Ledger "in_week" a_Ledger_in_week
  a_Ledger_ride : Addr
  d_Ledger_ride : FuncData
  F_Ledger_ride : Fun K "ride" "Ledger.ride" s_Ledger_ride a_Ledger_ride d_Ledger_ride
  b_Ledger_ride : Binds K d_Ledger_ride ["self", "card", "day", "start", "goal"] []
  h_Ledger_ride : Meth K A.c_Ledger "ride" a_Ledger_ride
  a_Ledger_tickets : Addr
  d_Ledger_tickets : FuncData
  F_Ledger_tickets : Fun K "tickets" "Ledger.tickets" s_Ledger_tickets a_Ledger_tickets d_Ledger_tickets
  b_Ledger_tickets : Binds K d_Ledger_tickets ["self", "card", "week"] []
  h_Ledger_tickets : Meth K A.c_Ledger "tickets" a_Ledger_tickets
  a_l_cell_at : Addr
  d_l_cell_at : FuncData
  F_l_cell_at : Fun K "_law_cell_at" "_law_cell_at" s_l_cell_at a_l_cell_at d_l_cell_at
  b_l_cell_at : Binds K d_l_cell_at ["_law_script", "_law_k"] []
  g_l_cell_at : mg "_law_cell_at" = some (.ref a_l_cell_at)
  k_l_cell_at : PySem.W.keepIn K (.ref a_l_cell_at) = true
  a_l_whole : Addr
  d_l_whole : FuncData
  F_l_whole : Fun K "_law_whole" "_law_whole" s_l_whole a_l_whole d_l_whole
  b_l_whole : Binds K d_l_whole ["_law_found"] []
  g_l_whole : mg "_law_whole" = some (.ref a_l_whole)
  k_l_whole : PySem.W.keepIn K (.ref a_l_whole) = true
  a_l_rows : Addr
  d_l_rows : FuncData
  F_l_rows : Fun K "_law_rows" "_law_rows" s_l_rows a_l_rows d_l_rows
  b_l_rows : Binds K d_l_rows ["_law_script"] []
  g_l_rows : mg "_law_rows" = some (.ref a_l_rows)
  k_l_rows : PySem.W.keepIn K (.ref a_l_rows) = true
  a_l_links_by : Addr
  d_l_links_by : FuncData
  F_l_links_by : Fun K "_law_links_by" "_law_links_by" s_l_links_by a_l_links_by d_l_links_by
  b_l_links_by : Binds K d_l_links_by ["_law_script", "_law_many", "_law_size"] []
  g_l_links_by : mg "_law_links_by" = some (.ref a_l_links_by)
  k_l_links_by : PySem.W.keepIn K (.ref a_l_links_by) = true
  a_l_zones_of : Addr
  d_l_zones_of : FuncData
  F_l_zones_of : Fun K "_law_zones_of" "_law_zones_of" s_l_zones_of a_l_zones_of d_l_zones_of
  b_l_zones_of : Binds K d_l_zones_of ["_law_row", "_law_zones", "_law_links", "_law_start", "_law_goal"] []
  g_l_zones_of : mg "_law_zones_of" = some (.ref a_l_zones_of)
  k_l_zones_of : PySem.W.keepIn K (.ref a_l_zones_of) = true
  a_l_kept : Addr
  d_l_kept : FuncData
  F_l_kept : Fun K "_law_kept" "_law_kept" s_l_kept a_l_kept d_l_kept
  b_l_kept : Binds K d_l_kept ["_law_found", "_law_zones", "_law_links", "_law_start"] []
  g_l_kept : mg "_law_kept" = some (.ref a_l_kept)
  k_l_kept : PySem.W.keepIn K (.ref a_l_kept) = true
  a_l_ridden : Addr
  d_l_ridden : FuncData
  F_l_ridden : Fun K "_law_ridden" "_law_ridden" s_l_ridden a_l_ridden d_l_ridden
  b_l_ridden : Binds K d_l_ridden ["_law_ledger", "_law_card", "_law_day", "_law_start", "_law_goal"] []
  g_l_ridden : mg "_law_ridden" = some (.ref a_l_ridden)
  k_l_ridden : PySem.W.keepIn K (.ref a_l_ridden) = true
  a_l_serves : Addr
  d_l_serves : FuncData
  F_l_serves : Fun K "_law_serves" "_law_serves" s_l_serves a_l_serves d_l_serves
  b_l_serves : Binds K d_l_serves ["_law_ticket", "_law_day", "_law_ride", "_law_zones"] []
  g_l_serves : mg "_law_serves" = some (.ref a_l_serves)
  k_l_serves : PySem.W.keepIn K (.ref a_l_serves) = true
  a_l_cost : Addr
  d_l_cost : FuncData
  F_l_cost : Fun K "_law_cost" "_law_cost" s_l_cost a_l_cost d_l_cost
  b_l_cost : Binds K d_l_cost ["_law_tickets", "_law_days", "_law_rows_here"] []
  g_l_cost : mg "_law_cost" = some (.ref a_l_cost)
  k_l_cost : PySem.W.keepIn K (.ref a_l_cost) = true
  a_l_drawn : Addr
  d_l_drawn : FuncData
  F_l_drawn : Fun K "_law_drawn" "_law_drawn" s_l_drawn a_l_drawn d_l_drawn
  b_l_drawn : Binds K d_l_drawn ["_law_number", "_law_rows_here", "_law_days"] []
  g_l_drawn : mg "_law_drawn" = some (.ref a_l_drawn)
  k_l_drawn : PySem.W.keepIn K (.ref a_l_drawn) = true
  a_l_weeks : Addr
  d_l_weeks : FuncData
  F_l_weeks : Fun K "_law_weeks" "_law_weeks" s_l_weeks a_l_weeks d_l_weeks
  b_l_weeks : Binds K d_l_weeks ["_law_ledger", "_law_card", "_law_told", "_law_rows_here", "_law_number"] []
  g_l_weeks : mg "_law_weeks" = some (.ref a_l_weeks)
  k_l_weeks : PySem.W.keepIn K (.ref a_l_weeks) = true
  a_l_rides : Addr
  d_l_rides : FuncData
  F_l_rides : Fun K "_law_rides" "_law_rides" s_l_rides a_l_rides d_l_rides
  b_l_rides : Binds K d_l_rides ["_law_script", "_law_many", "_law_size"] []
  g_l_rides : mg "_law_rides" = some (.ref a_l_rides)
  k_l_rides : PySem.W.keepIn K (.ref a_l_rides) = true
  a_l_stays : Addr
  d_l_stays : FuncData
  F_l_stays : Fun K "_law_stays" "_law_stays" s_l_stays a_l_stays d_l_stays
  b_l_stays : Binds K d_l_stays ["_law_ledger"] []
  g_l_stays : mg "_law_stays" = some (.ref a_l_stays)
  k_l_stays : PySem.W.keepIn K (.ref a_l_stays) = true
  a_law : Addr
  d_law : FuncData
  F_law : Fun K "law" "law" s_law a_law d_law
  b_law : Binds K d_law ["_law_script"] []
  g_law : mg "law" = some (.ref a_law)
  k_law : PySem.W.keepIn K (.ref a_law) = true
  L_Tariff : Cls K A.c_Tariff
  g_Tariff : mg "Tariff" = some (.ref A.c_Tariff)
  L_Ledger : Cls K A.c_Ledger
  g_Ledger : mg "Ledger" = some (.ref A.c_Ledger)
  L_Web : Cls K A.c_Web
  g_Web : mg "Web" = some (.ref A.c_Web)
  n_Ledger_cards : NoAttr K A.c_Ledger "cards"
  n_Ledger_tariff : NoAttr K A.c_Ledger "tariff"
  n_Ledger_web : NoAttr K A.c_Ledger "web"
  n_Tariff_days : NoAttr K A.c_Tariff "days"
  n_Tariff_singles : NoAttr K A.c_Tariff "singles"
  n_Tariff_weeks : NoAttr K A.c_Tariff "weeks"
  n_Web_links : NoAttr K A.c_Web "links"
  n_Web_zones : NoAttr K A.c_Web "zones"
  z_abs : mg "abs" = none
  z_bool : mg "bool" = none
  z_enumerate : mg "enumerate" = none
  z_int : mg "int" = none
  z_isinstance : mg "isinstance" = none
  z_len : mg "len" = none
  z_list : mg "list" = none
  z_max : mg "max" = none
  z_min : mg "min" = none
  z_range : mg "range" = none
  z_reversed : mg "reversed" = none
  z_set : mg "set" = none
  z_sorted : mg "sorted" = none
  z_sum : mg "sum" = none
  z_tuple : mg "tuple" = none
  c_MOST_ZONES : ∃ t, mg "MOST_ZONES" = some (.int 5 t)
  c_WEEK : ∃ t, mg "WEEK" = some (.int 7 t)
  g_FareError : mg "FareError" = some (.ref A.c_FareError)
  x_FareError : PySem.W.excIn K A.c_FareError [.type "ValueError", .type "Exception", .type "BaseException", .type "object"] "ValueError.__new__" = true
  k_FareError : PySem.W.keepIn K (.ref A.c_FareError) = true
  y_FareError : PySem.W.subIn K (.ref A.c_FareError) (.type "BaseException") = some true
  t_FareError : PySem.W.typeIn K (.ref A.c_FareError) = some (.type "type")
  g_BadLink : mg "BadLink" = some (.ref A.c_BadLink)
  x_BadLink : PySem.W.excIn K A.c_BadLink [.type "ValueError", .type "Exception", .type "BaseException", .type "object"] "ValueError.__new__" = true
  k_BadLink : PySem.W.keepIn K (.ref A.c_BadLink) = true
  y_BadLink : PySem.W.subIn K (.ref A.c_BadLink) (.type "BaseException") = some true
  t_BadLink : PySem.W.typeIn K (.ref A.c_BadLink) = some (.type "type")
  g_BadStop : mg "BadStop" = some (.ref A.c_BadStop)
  x_BadStop : PySem.W.excIn K A.c_BadStop [.type "ValueError", .type "Exception", .type "BaseException", .type "object"] "ValueError.__new__" = true
  k_BadStop : PySem.W.keepIn K (.ref A.c_BadStop) = true
  y_BadStop : PySem.W.subIn K (.ref A.c_BadStop) (.type "BaseException") = some true
  t_BadStop : PySem.W.typeIn K (.ref A.c_BadStop) = some (.type "type")
  g_NoWay : mg "NoWay" = some (.ref A.c_NoWay)
  x_NoWay : PySem.W.excIn K A.c_NoWay [.type "ValueError", .type "Exception", .type "BaseException", .type "object"] "ValueError.__new__" = true
  k_NoWay : PySem.W.keepIn K (.ref A.c_NoWay) = true
  y_NoWay : PySem.W.subIn K (.ref A.c_NoWay) (.type "BaseException") = some true
  t_NoWay : PySem.W.typeIn K (.ref A.c_NoWay) = some (.type "type")
  g_BadPrices : mg "BadPrices" = some (.ref A.c_BadPrices)
  x_BadPrices : PySem.W.excIn K A.c_BadPrices [.type "ValueError", .type "Exception", .type "BaseException", .type "object"] "ValueError.__new__" = true
  k_BadPrices : PySem.W.keepIn K (.ref A.c_BadPrices) = true
  y_BadPrices : PySem.W.subIn K (.ref A.c_BadPrices) (.type "BaseException") = some true
  t_BadPrices : PySem.W.typeIn K (.ref A.c_BadPrices) = some (.type "type")
  g_BadZones : mg "BadZones" = some (.ref A.c_BadZones)
  x_BadZones : PySem.W.excIn K A.c_BadZones [.type "ValueError", .type "Exception", .type "BaseException", .type "object"] "ValueError.__new__" = true
  k_BadZones : PySem.W.keepIn K (.ref A.c_BadZones) = true
  y_BadZones : PySem.W.subIn K (.ref A.c_BadZones) (.type "BaseException") = some true
  t_BadZones : PySem.W.typeIn K (.ref A.c_BadZones) = some (.type "type")
  g_PastDay : mg "PastDay" = some (.ref A.c_PastDay)
  x_PastDay : PySem.W.excIn K A.c_PastDay [.type "ValueError", .type "Exception", .type "BaseException", .type "object"] "ValueError.__new__" = true
  k_PastDay : PySem.W.keepIn K (.ref A.c_PastDay) = true
  y_PastDay : PySem.W.subIn K (.ref A.c_PastDay) (.type "BaseException") = some true
  t_PastDay : PySem.W.typeIn K (.ref A.c_PastDay) = some (.type "type")
  e1_NoWay : PySem.W.exmOne K (.ref A.c_NoWay) (.ref A.c_NoWay) = some true
theorem Txt.okT {K : PySem.W.Frag} {mg : Str → Option Value} {A : Ad} (T : Txt K mg A) : OkT K A := ⟨T.L_Tariff, T.n_Tariff_singles, T.n_Tariff_days, T.n_Tariff_weeks⟩
theorem Txt.okW {K : PySem.W.Frag} {mg : Str → Option Value} {A : Ad} (T : Txt K mg A) : OkW K A := ⟨T.L_Web, T.n_Web_zones, T.n_Web_links⟩
theorem Txt.okL {K : PySem.W.Frag} {mg : Str → Option Value} {A : Ad} (T : Txt K mg A) : OkL K A := ⟨T.L_Ledger, T.n_Ledger_web, T.n_Ledger_tariff, T.n_Ledger_cards⟩
section
variable {P : Program} {w : World} {K : PySem.W.Frag} {mg : Str → Option Value} {base : Heap} {A : Ad}
theorem ok_need_zones (T : Txt K mg A) : FnOk P w K mg base (L2.CX P w) 1 T.a_need_zones T.d_need_zones ["zones"] (sp_need_zones K A) := by
  refine T.F_need_zones.okX sc_need_zones (by unfold sp_need_zones; walk_at "len") (fun cdv B outer s H vs Q E hr h => ⟨t_need_zones K A E, ?_, rd_need_zones h⟩)
  exact pss_one (ps_if (PW.pt (pw_or (pt_cmpR op_lt (pv 0) (pe_int) (nomark _)) (pw_or1 (pt_cmpR op_gt (pv 0) (pe_gc rfl (glob_int T.c_MOST_ZONES)) (nomark _))))) (pss_one (ps_raise rfl (takes_of rfl rfl rfl rfl) (pmk_own PySem.F.excBase_ValueError T.x_BadZones T.g_BadZones T.k_BadZones (raises_own T.y_BadZones T.t_BadZones) (by exact rfl)))) (pss_nil))
theorem ok_cheapest (T : Txt K mg A) : FnOk P w K mg base (L2.CX P w) 2 T.a_cheapest T.d_cheapest ["row", "zones"] (sp_cheapest K A) := by
  refine T.F_cheapest.okX sc_cheapest (by unfold sp_cheapest; walk_at "len") (fun cdv B outer s H vs Q E hr h => ⟨t_cheapest K A E, ?_, rd_cheapest h⟩)
  exact pss_cons (ps_expr (pe_call (ok_need_zones T) (hr.mono (by decide)) (by rfl) T.g_need_zones T.k_need_zones T.b_need_zones .nil (passes_call (takes_of rfl rfl rfl rfl) (fun _ _ _ _ h => h)) (pa_cons (pv 1) (pa_nil))))  (pss_cons (ps_set (i := 2) sc_cheapest.nd rfl (by first | exact Or.inl rfl | exact Or.inr rfl) (pv 1))  (pss_cons (ps_for (passes_of rfl) rfl (pi_range2 (by rfl) T.z_range (pa_cons (pv 1) (pa_cons (pe_op op_add (pe_gc rfl (glob_int T.c_MOST_ZONES)) (pe_int)) (pa_nil)))) (pg_name (i := 3) sc_cheapest.nd rfl (by first | exact Or.inl rfl | exact Or.inr rfl)) (pss_one (ps_if (pt_cmpR op_lt (pe_ix ix_list (pv 0) (pe_op op_sub (pv 3) (pe_int)) (fun _ _ => rfl)) (pe_ix ix_list (pv 0) (pe_op op_sub (pv 2) (pe_int)) (fun _ _ => rfl)) (nomark _)) (pss_one (ps_set (i := 2) sc_cheapest.nd rfl (by first | exact Or.inl rfl | exact Or.inr rfl) (pv 3))) (pss_nil))))  (pss_one (ps_ret (pe_tup (pa_cons (pv 2) (pa_cons (pe_ix ix_list (pv 0) (pe_op op_sub (pv 2) (pe_int)) (fun _ _ => rfl)) (pa_nil))))))))
theorem ok_Tariff_init (T : Txt K mg A) : FnOk P w K mg base (L2.CX P w) 1 T.a_Tariff_init T.d_Tariff_init ["self", "singles", "days", "weeks"] (sp_Tariff_init K A) := by
  refine T.F_Tariff_init.okX sc_Tariff_init (by unfold sp_Tariff_init; walk_at "len") (fun cdv B outer s H vs Q E hr h => ⟨t_Tariff_init K A E, ?_, rd_Tariff_init T.okT h⟩)
  exact pss_cons (ps_for (passes_of rfl) rfl (pi_list (pe_lst (pa_cons (pv 1) (pa_cons (pv 2) (pa_cons (pv 3) (pa_nil)))))) (pg_name (i := 4) sc_Tariff_init.nd rfl (by first | exact Or.inl rfl | exact Or.inr rfl)) (pss_one (ps_if (PW.pt (pw_or (pt_cmpR op_ne (pe_callB call_len_seq (by rfl) T.z_len (by decide +kernel) (pa_cons (pv 4) (pa_nil))) (pe_gc rfl (glob_int T.c_MOST_ZONES)) (nomark _)) (pw_or1 (pt_cmpR op_lt (pe_callB (cr_min rfl) (by rfl) T.z_min (by decide +kernel) (pa_cons (pv 4) (pa_nil))) (pe_int) (nomark _))))) (pss_one (ps_raise rfl (takes_of rfl rfl rfl rfl) (pmk_own PySem.F.excBase_ValueError T.x_BadPrices T.g_BadPrices T.k_BadPrices (raises_own T.y_BadPrices T.t_BadPrices) (by exact rfl)))) (pss_nil))))  (pss_cons (ps_fld (pv 0) (pe_callTy call_list_of (by rfl) T.z_list (by decide +kernel) (pa_cons (pv 1) (pa_nil))) rfl)  (pss_cons (ps_fld (pv 0) (pe_callTy call_list_of (by rfl) T.z_list (by decide +kernel) (pa_cons (pv 2) (pa_nil))) rfl)  (pss_one (ps_fld (pv 0) (pe_callTy call_list_of (by rfl) T.z_list (by decide +kernel) (pa_cons (pv 3) (pa_nil))) rfl))))
theorem ok_Tariff_single (T : Txt K mg A) : FnOk P w K mg base (L2.CX P w) 3 T.a_Tariff_single T.d_Tariff_single ["self", "zones"] (sp_Tariff_single K A) := by
  refine T.F_Tariff_single.okX sc_Tariff_single (by unfold sp_Tariff_single; walk_at "len") (fun cdv B outer s H vs Q E hr h => ⟨t_Tariff_single K A E, ?_, rd_Tariff_single T.okT h⟩)
  exact pss_one (ps_ret (pe_ix ix_tup (pe_call (ok_cheapest T) (hr.mono (by decide)) (by rfl) T.g_cheapest T.k_cheapest T.b_cheapest .nil (passes_call (takes_of rfl rfl rfl rfl) (fun _ _ _ _ h => h)) (pa_cons (pe_fld (pv 0) rfl) (pa_cons (pv 1) (pa_nil)))) (pe_int) (fun _ _ => rfl)))
theorem ok_Tariff_day (T : Txt K mg A) : FnOk P w K mg base (L2.CX P w) 3 T.a_Tariff_day T.d_Tariff_day ["self", "zones"] (sp_Tariff_day K A) := by
  refine T.F_Tariff_day.okX sc_Tariff_day (by unfold sp_Tariff_day; walk_at "len") (fun cdv B outer s H vs Q E hr h => ⟨t_Tariff_day K A E, ?_, rd_Tariff_day T.okT h⟩)
  exact pss_one (ps_ret (pe_ix ix_tup (pe_call (ok_cheapest T) (hr.mono (by decide)) (by rfl) T.g_cheapest T.k_cheapest T.b_cheapest .nil (passes_call (takes_of rfl rfl rfl rfl) (fun _ _ _ _ h => h)) (pa_cons (pe_fld (pv 0) rfl) (pa_cons (pv 1) (pa_nil)))) (pe_int) (fun _ _ => rfl)))
theorem ok_Tariff_week (T : Txt K mg A) : FnOk P w K mg base (L2.CX P w) 3 T.a_Tariff_week T.d_Tariff_week ["self", "zones"] (sp_Tariff_week K A) := by
  refine T.F_Tariff_week.okX sc_Tariff_week (by unfold sp_Tariff_week; walk_at "len") (fun cdv B outer s H vs Q E hr h => ⟨t_Tariff_week K A E, ?_, rd_Tariff_week T.okT h⟩)
  exact pss_one (ps_ret (pe_ix ix_tup (pe_call (ok_cheapest T) (hr.mono (by decide)) (by rfl) T.g_cheapest T.k_cheapest T.b_cheapest .nil (passes_call (takes_of rfl rfl rfl rfl) (fun _ _ _ _ h => h)) (pa_cons (pe_fld (pv 0) rfl) (pa_cons (pv 1) (pa_nil)))) (pe_int) (fun _ _ => rfl)))
theorem ok_cost_of (T : Txt K mg A) : FnOk P w K mg base (L2.CX P w) 1 T.a_cost_of T.d_cost_of ["tickets"] (sp_cost_of K A) := by
  refine T.F_cost_of.okX sc_cost_of (by unfold sp_cost_of; walk_at "len") (fun cdv B outer s H vs Q E hr h => ⟨t_cost_of K A E, ?_, rd_cost_of h⟩)
  exact pss_one (ps_ret (pe_callB (cr_sum rfl) (by rfl) T.z_sum (by decide +kernel) (pa_cons (pe_lc (own := [("ticket", 1)]) rfl sc_cost_of.nd (pi_list (pv 0)) (blkOk_by (N := N_cost_of) (sc := defScope s_cost_of) (by decide +kernel)) (fun _ _ _ _ _ => pg_name (i := 1) sc_cost_of.nd rfl (by first | exact Or.inl rfl | exact Or.inr rfl)) (fun _ _ _ _ _ => pts_nil) (fun _ _ _ _ _ => pe_ix ix_tup (pv 1) (pe_un un_neg (pe_int)) (fun _ _ => rfl))) (pa_nil))))
theorem ok_for_day (T : Txt K mg A) : FnOk P w K mg base (L2.CX P w) 3 T.a_for_day T.d_for_day ["tariff", "day", "rides", "held"] (sp_for_day K A) := by
  refine T.F_for_day.okX sc_for_day (by unfold sp_for_day; walk_at "len") (fun cdv B outer s H vs Q E hr h => ⟨t_for_day K A w E, ?_, rd_for_day T.okT h⟩)
  unfold t_for_day t_for_day_s1 t_for_day_s2 t_for_day_s3 t_for_day_b1 t_for_day_b1_s1 t_for_day_b1_s2 t_for_day_b1_s3
  exact pss_cons (ps_if (pt_not (pt_truth (pv 2) (by intro _; rfl))) (pss_one (ps_ret (pe_lst pa_nil))) (pss_nil))  (pss_cons (ps_set (i := 4) sc_for_day.nd rfl (by first | exact Or.inl rfl | exact Or.inr rfl) (pe_non))  (pss_cons (ps_for (passes_of rfl) rfl (pi_list (pe_op op_cat (pe_lst (pa_cons (pe_int) (pa_nil))) (pe_callB (cr_sortedSet rfl) (by rfl) T.z_sorted (by decide +kernel) (pa_cons (pe_callTy (cr_setI rfl) (by rfl) T.z_set (by decide +kernel) (pa_cons (pv 2) (pa_nil))) (pa_nil))))) (pg_name (i := 5) sc_for_day.nd rfl (by first | exact Or.inl rfl | exact Or.inr rfl)) (pss_cons (ps_set (i := 6) sc_for_day.nd rfl (by first | exact Or.inl rfl | exact Or.inr rfl) (pe_lst pa_nil))  (pss_cons (ps_if (pt_cmpR op_gt (pv 5) (pe_int) (nomark _)) (pss_cons (ps_set (i := 7) sc_for_day.nd rfl (by first | exact Or.inl rfl | exact Or.inr rfl) (pe_call (ok_cheapest T) (hr.mono (by decide)) (by rfl) T.g_cheapest T.k_cheapest T.b_cheapest .nil passL (pa_cons (pe_fld (pv 0) rfl) (pa_cons (pv 5) (pa_nil)))))  (pss_one (ps_expr (pe_bm PySem.F.plainAttrs_list PySem.F.slot_list_append PySem.F.type_list_append mt_append (pv 6) (pa_cons (pe_tup (pa_cons (pe_str) (pa_cons (pv 1) (pa_cons (pe_ix ix_tup (pv 7) (pe_int) (fun _ _ => rfl)) (pa_cons (pe_ix ix_tup (pv 7) (pe_int) (fun _ _ => rfl)) (pa_nil)))))) (pa_nil)))))) (pss_nil))  (pss_cons (ps_for (passes_of rfl) rfl (pi_enum (by rfl) T.z_enumerate (pa_cons (pv 2) (pa_nil))) (pg_tup rfl (pgs_cons (pg_name (i := 8) sc_for_day.nd rfl (by first | exact Or.inl rfl | exact Or.inr rfl)) (pgs_cons (pg_name (i := 9) sc_for_day.nd rfl (by first | exact Or.inl rfl | exact Or.inr rfl)) (pgs_nil)))) (pss_one (ps_if (pt_cmpR op_gt (pv 9) (pe_callB (call_max2 rfl) (by rfl) T.z_max (by decide +kernel) (pa_cons (pv 3) (pa_cons (pv 5) (pa_nil)))) (nomark _)) (pss_cons (ps_set (i := 7) sc_for_day.nd rfl (by first | exact Or.inl rfl | exact Or.inr rfl) (pe_call (ok_cheapest T) (hr.mono (by decide)) (by rfl) T.g_cheapest T.k_cheapest T.b_cheapest .nil passL (pa_cons (pe_fld (pv 0) rfl) (pa_cons (pv 9) (pa_nil)))))  (pss_one (ps_expr (pe_bm PySem.F.plainAttrs_list PySem.F.slot_list_append PySem.F.type_list_append mt_append (pv 6) (pa_cons (pe_tup (pa_cons (pe_str) (pa_cons (pv 1) (pa_cons (pv 8) (pa_cons (pe_ix ix_tup (pv 7) (pe_int) (fun _ _ => rfl)) (pa_cons (pe_ix ix_tup (pv 7) (pe_int) (fun _ _ => rfl)) (pa_nil))))))) (pa_nil)))))) (pss_nil))))  (pss_one (ps_if (PW.pt (pw_or (pt_cmpR op_isN (pv 4) (pe_non) (nomark _)) (pw_or1 (pt_cmpR op_lt (pe_call (ok_cost_of T) (hr.mono (by decide)) (by rfl) T.g_cost_of T.k_cost_of T.b_cost_of .nil passL (pa_cons (pv 6) (pa_nil))) (pe_call (ok_cost_of T) (hr.mono (by decide)) (by rfl) T.g_cost_of T.k_cost_of T.b_cost_of .nil passL (pa_cons (pv 4) (pa_nil))) (nomark _))))) (pss_one (ps_set (i := 4) sc_for_day.nd rfl (by first | exact Or.inl rfl | exact Or.inr rfl) (pv 6))) (pss_nil)))))))  (pss_one (ps_ret (pv 4)))))
theorem ok_for_week (T : Txt K mg A) : FnOk P w K mg base (L2.CX P w) 4 T.a_for_week T.d_for_week ["tariff", "days", "held"] (sp_for_week K A) := by
  refine T.F_for_week.okX sc_for_week (by unfold sp_for_week; walk_at "len") (fun cdv B outer s H vs Q E hr h => ⟨t_for_week K A E, ?_, rd_for_week T.okT h⟩)
  unfold t_for_week t_for_week_s1 t_for_week_s2 t_for_week_s3
  exact pss_cons (ps_set (i := 3) sc_for_week.nd rfl (by first | exact Or.inl rfl | exact Or.inr rfl) (pe_lst pa_nil))  (pss_cons (ps_if (pt_cmpR op_gt (pv 2) (pe_int) (nomark _)) (pss_cons (ps_set (i := 4) sc_for_week.nd rfl (by first | exact Or.inl rfl | exact Or.inr rfl) (pe_call (ok_cheapest T) (hr.mono (by decide)) (by rfl) T.g_cheapest T.k_cheapest T.b_cheapest .nil passL (pa_cons (pe_fld (pv 0) rfl) (pa_cons (pv 2) (pa_nil)))))  (pss_one (ps_expr (pe_bm PySem.F.plainAttrs_list PySem.F.slot_list_append PySem.F.type_list_append mt_append (pv 3) (pa_cons (pe_tup (pa_cons (pe_str) (pa_cons (pe_ix ix_tup (pv 4) (pe_int) (fun _ _ => rfl)) (pa_cons (pe_ix ix_tup (pv 4) (pe_int) (fun _ _ => rfl)) (pa_nil))))) (pa_nil)))))) (pss_nil))  (pss_cons (ps_for (passes_of rfl) rfl (pi_enum (by rfl) T.z_enumerate (pa_cons (pv 1) (pa_nil))) (pg_tup rfl (pgs_cons (pg_name (i := 5) sc_for_week.nd rfl (by first | exact Or.inl rfl | exact Or.inr rfl)) (pgs_cons (pg_name (i := 6) sc_for_week.nd rfl (by first | exact Or.inl rfl | exact Or.inr rfl)) (pgs_nil)))) (pss_one (ps_expr (pe_bm PySem.F.plainAttrs_list PySem.F.slot_list_extend PySem.F.type_list_extend mt_extend (pv 3) (pa_cons (pe_call (ok_for_day T) (hr.mono (by decide)) (by rfl) T.g_for_day T.k_for_day T.b_for_day .nil passL (pa_cons (pv 0) (pa_cons (pv 5) (pa_cons (pv 6) (pa_cons (pv 2) (pa_nil)))))) (pa_nil))))))  (pss_one (ps_ret (pv 3)))))
theorem ok_least (T : Txt K mg A) : FnOk P w K mg base (L2.CX P w) 5 T.a_least T.d_least ["tariff", "days"] (sp_least K A) := by
  refine T.F_least.okX sc_least (by unfold sp_least; walk_at "len") (fun cdv B outer s H vs Q E hr h => ⟨t_least K A w E, ?_, rd_least T.okT h⟩)
  unfold t_least t_least_s1 t_least_s2 t_least_s3 t_least_s4 t_least_s5 t_least_b1 t_least_b1_s1
  exact pss_cons (ps_for (passes_of rfl) rfl (pi_list (pv 1)) (pg_name (i := 2) sc_least.nd rfl (by first | exact Or.inl rfl | exact Or.inr rfl)) (pss_one (ps_for (passes_of rfl) rfl (pi_list (pv 2)) (pg_name (i := 3) sc_least.nd rfl (by first | exact Or.inl rfl | exact Or.inr rfl)) (pss_one (ps_expr (pe_call (ok_need_zones T) (hr.mono (by decide)) (by rfl) T.g_need_zones T.k_need_zones T.b_need_zones .nil (passes_call (takes_of rfl rfl rfl rfl) (fun _ _ _ _ h => h)) (pa_cons (pv 3) (pa_nil))))))))  (pss_cons (ps_set (i := 4) sc_least.nd rfl (by first | exact Or.inl rfl | exact Or.inr rfl) (pe_lst pa_nil))  (pss_cons (ps_for (passes_of rfl) rfl (pi_list (pv 1)) (pg_name (i := 2) sc_least.nd rfl (by first | exact Or.inl rfl | exact Or.inr rfl)) (pss_one (ps_expr (pe_bm PySem.F.plainAttrs_list PySem.F.slot_list_extend PySem.F.type_list_extend mt_extend (pv 4) (pa_cons (pv 2) (pa_nil))))))  (pss_cons (ps_set (i := 5) sc_least.nd rfl (by first | exact Or.inl rfl | exact Or.inr rfl) (pe_non))  (pss_cons (ps_for (passes_of rfl) rfl (pi_list (pe_op op_cat (pe_lst (pa_cons (pe_int) (pa_nil))) (pe_callB (cr_sortedSet rfl) (by rfl) T.z_sorted (by decide +kernel) (pa_cons (pe_callTy (cr_setI rfl) (by rfl) T.z_set (by decide +kernel) (pa_cons (pv 4) (pa_nil))) (pa_nil))))) (pg_name (i := 6) sc_least.nd rfl (by first | exact Or.inl rfl | exact Or.inr rfl)) (pss_cons (ps_set (i := 7) sc_least.nd rfl (by first | exact Or.inl rfl | exact Or.inr rfl) (pe_call (ok_for_week T) (hr.mono (by decide)) (by rfl) T.g_for_week T.k_for_week T.b_for_week .nil passL (pa_cons (pv 0) (pa_cons (pv 1) (pa_cons (pv 6) (pa_nil))))))  (pss_one (ps_if (PW.pt (pw_or (pt_cmpR op_isN (pv 5) (pe_non) (nomark _)) (pw_or1 (pt_cmpR op_lt (pe_call (ok_cost_of T) (hr.mono (by decide)) (by rfl) T.g_cost_of T.k_cost_of T.b_cost_of .nil passL (pa_cons (pv 7) (pa_nil))) (pe_call (ok_cost_of T) (hr.mono (by decide)) (by rfl) T.g_cost_of T.k_cost_of T.b_cost_of .nil passL (pa_cons (pv 5) (pa_nil))) (nomark _))))) (pss_one (ps_set (i := 5) sc_least.nd rfl (by first | exact Or.inl rfl | exact Or.inr rfl) (pv 7))) (pss_nil)))))  (pss_one (ps_ret (pe_tup (pa_cons (pe_call (ok_cost_of T) (hr.mono (by decide)) (by rfl) T.g_cost_of T.k_cost_of T.b_cost_of .nil passL (pa_cons (pv 5) (pa_nil))) (pa_cons (pv 5) (pa_nil))))))))))
theorem ok_Web_init (T : Txt K mg A) : FnOk P w K mg base (L2.CX P w) 1 T.a_Web_init T.d_Web_init ["self", "zones", "links"] (sp_Web_init K A) := by
  refine T.F_Web_init.okX sc_Web_init (by unfold sp_Web_init; walk_at "len") (fun cdv B outer s H vs Q E hr h => ⟨t_Web_init K A E, ?_, rd_Web_init T.okW h⟩)
  unfold t_Web_init t_Web_init_s1 t_Web_init_s2
  exact pss_cons (ps_for (passes_of rfl) rfl (pi_list (pv 2)) (pg_tup rfl (pgs_cons (pg_name (i := 3) sc_Web_init.nd rfl (by first | exact Or.inl rfl | exact Or.inr rfl)) (pgs_cons (pg_name (i := 4) sc_Web_init.nd rfl (by first | exact Or.inl rfl | exact Or.inr rfl)) (pgs_nil)))) (pss_one (ps_if (PW.pt (pw_or (pt_cmpR op_eq (pv 3) (pv 4) (nomark _)) (pw_or (pt_cmpR op_lt (pe_callB (call_min2 rfl) (by rfl) T.z_min (by decide +kernel) (pa_cons (pv 3) (pa_cons (pv 4) (pa_nil)))) (pe_int) (nomark _)) (pw_or1 (pt_cmpR op_ge (pe_callB (call_max2 rfl) (by rfl) T.z_max (by decide +kernel) (pa_cons (pv 3) (pa_cons (pv 4) (pa_nil)))) (pe_callB call_len_seq (by rfl) T.z_len (by decide +kernel) (pa_cons (pv 1) (pa_nil))) (nomark _)))))) (pss_one (ps_raise rfl (takes_of rfl rfl rfl rfl) (pmk_own PySem.F.excBase_ValueError T.x_BadLink T.g_BadLink T.k_BadLink (raises_own T.y_BadLink T.t_BadLink) (by exact rfl)))) (pss_nil))))  (pss_cons (ps_fld (pv 0) (pe_callTy call_list_of (by rfl) T.z_list (by decide +kernel) (pa_cons (pv 1) (pa_nil))) rfl)  (pss_one (ps_fld (pv 0) (pe_lc (own := [("one", 3), ("other", 4)]) rfl sc_Web_init.nd (pi_list (pv 2)) (blkOk_by (N := N_Web_init) (sc := defScope s_Web_init) (by decide +kernel)) (fun _ _ _ _ _ => pg_tup rfl (pgs_cons (pg_name (i := 3) sc_Web_init.nd rfl (by first | exact Or.inl rfl | exact Or.inr rfl)) (pgs_cons (pg_name (i := 4) sc_Web_init.nd rfl (by first | exact Or.inl rfl | exact Or.inr rfl)) (pgs_nil)))) (fun _ _ _ _ _ => pts_nil) (fun _ _ _ _ _ => pe_tup (pa_cons (pv 3) (pa_cons (pv 4) (pa_nil))))) rfl)))
theorem ok_Web_need (T : Txt K mg A) : FnOk P w K mg base (L2.CX P w) 1 T.a_Web_need T.d_Web_need ["self", "stop"] (sp_Web_need K A) := by
  refine T.F_Web_need.okX sc_Web_need (by unfold sp_Web_need; walk_at "len") (fun cdv B outer s H vs Q E hr h => ⟨t_Web_need K A E, ?_, rd_Web_need T.okW h⟩)
  exact pss_one (ps_if (PW.pt (pw_or (pt_cmpR op_lt (pv 1) (pe_int) (nomark _)) (pw_or1 (pt_cmpR op_ge (pv 1) (pe_callB call_len_seq (by rfl) T.z_len (by decide +kernel) (pa_cons (pe_fld (pv 0) rfl) (pa_nil))) (nomark _))))) (pss_one (ps_raise rfl (takes_of rfl rfl rfl rfl) (pmk_own PySem.F.excBase_ValueError T.x_BadStop T.g_BadStop T.k_BadStop (raises_own T.y_BadStop T.t_BadStop) (by exact rfl)))) (pss_nil))
theorem ok_Web_beside (T : Txt K mg A) : FnOk P w K mg base (L2.CX P w) 1 T.a_Web_beside T.d_Web_beside ["self", "stop"] (sp_Web_beside K A) := by
  refine T.F_Web_beside.okX sc_Web_beside (by unfold sp_Web_beside; walk_at "len") (fun cdv B outer s H vs Q E hr h => ⟨t_Web_beside K A E, ?_, rd_Web_beside T.okW h⟩)
  exact pss_cons (ps_set (i := 2) sc_Web_beside.nd rfl (by first | exact Or.inl rfl | exact Or.inr rfl) (pe_lst pa_nil))  (pss_cons (ps_for (passes_of rfl) rfl (pi_list (pe_fld (pv 0) rfl)) (pg_tup rfl (pgs_cons (pg_name (i := 3) sc_Web_beside.nd rfl (by first | exact Or.inl rfl | exact Or.inr rfl)) (pgs_cons (pg_name (i := 4) sc_Web_beside.nd rfl (by first | exact Or.inl rfl | exact Or.inr rfl)) (pgs_nil)))) (pss_cons (ps_if (pt_cmpR op_eq (pv 3) (pv 1) (nomark _)) (pss_one (ps_expr (pe_bm PySem.F.plainAttrs_list PySem.F.slot_list_append PySem.F.type_list_append mt_append (pv 2) (pa_cons (pv 4) (pa_nil))))) (pss_nil))  (pss_one (ps_if (pt_cmpR op_eq (pv 4) (pv 1) (nomark _)) (pss_one (ps_expr (pe_bm PySem.F.plainAttrs_list PySem.F.slot_list_append PySem.F.type_list_append mt_append (pv 2) (pa_cons (pv 3) (pa_nil))))) (pss_nil)))))  (pss_one (ps_ret (pv 2))))
theorem ok_Web_spread (T : Txt K mg A) : FnOk P w K mg base (L2.CX P w) 2 T.a_Web_spread T.d_Web_spread ["self", "found", "layer", "count"] (sp_Web_spread K A) := by
  refine T.F_Web_spread.okX sc_Web_spread (by unfold sp_Web_spread; walk_at "len") (fun cdv B outer s H vs Q E hr h => ⟨t_Web_spread K A E, ?_, rd_Web_spread T.okW h⟩)
  unfold t_Web_spread t_Web_spread_s1 t_Web_spread_s2 t_Web_spread_s3 t_Web_spread_b1 t_Web_spread_b1_s1 t_Web_spread_b1_s2
  exact pss_cons (ps_set (i := 4) sc_Web_spread.nd rfl (by first | exact Or.inl rfl | exact Or.inr rfl) (pe_lst pa_nil))  (pss_cons (ps_set (i := 5) sc_Web_spread.nd rfl (by first | exact Or.inl rfl | exact Or.inr rfl) (pe_callTy call_list_of (by rfl) T.z_list (by decide +kernel) (pa_cons (pv 2) (pa_nil))))  (pss_cons (ps_while (passes_of rfl) (pt_truth (pv 5) (by intro _; rfl)) (pss_cons (ps_set (i := 6) sc_Web_spread.nd rfl (by first | exact Or.inl rfl | exact Or.inr rfl) (pe_bm0 PySem.F.plainAttrs_list PySem.F.slot_list_pop PySem.F.type_list_pop mt_pop (pv 5)))  (pss_cons (ps_set (i := 7) sc_Web_spread.nd rfl (by first | exact Or.inl rfl | exact Or.inr rfl) (pe_ix ix_tup (pv 6) (pe_int) (fun _ _ => rfl)))  (pss_one (ps_if (pt_cmpR op_isN (pe_ix ix_list (pv 1) (pv 7) (fun _ _ => rfl)) (pe_non) (nomark _)) (pss_cons (ps_asg (pe_tup (pa_cons (pv 3) (pa_cons (pe_ix ix_tup (pv 6) (pe_int) (fun _ _ => rfl)) (pa_nil)))) (pg_sub (pv 1) (pv 7) set_list))  (pss_one (ps_for (passes_of rfl) rfl (pi_list (pe_meth (pv 0) T.L_Web T.h_Web_beside (ok_Web_beside T) (hr.mono (by decide)) T.b_Web_beside .nil passL (pa_cons (pv 7) (pa_nil)))) (pg_name (i := 8) sc_Web_spread.nd rfl (by first | exact Or.inl rfl | exact Or.inr rfl)) (pss_one (ps_if (pt_cmpR op_eq (pe_ix ix_list (pe_fld (pv 0) rfl) (pv 8) (fun _ _ => rfl)) (pe_ix ix_list (pe_fld (pv 0) rfl) (pv 7) (fun _ _ => rfl)) (nomark _)) (pss_one (ps_expr (pe_bm PySem.F.plainAttrs_list PySem.F.slot_list_append PySem.F.type_list_append mt_append (pv 5) (pa_cons (pe_tup (pa_cons (pv 8) (pa_cons (pv 7) (pa_nil)))) (pa_nil))))) (pss_one (ps_expr (pe_bm PySem.F.plainAttrs_list PySem.F.slot_list_append PySem.F.type_list_append mt_append (pv 4) (pa_cons (pe_tup (pa_cons (pv 8) (pa_cons (pv 7) (pa_nil)))) (pa_nil)))))))))) (pss_nil))))))  (pss_one (ps_ret (pe_lc (own := [("pair", 6)]) rfl sc_Web_spread.nd (pi_list (pv 4)) (blkOk_by (N := N_Web_spread) (sc := defScope s_Web_spread) (by decide +kernel)) (fun _ _ _ _ _ => pg_name (i := 6) sc_Web_spread.nd rfl (by first | exact Or.inl rfl | exact Or.inr rfl)) (fun _ _ _ _ _ => pts_one (pt_cmpR op_isN (pe_ix ix_list (pv 1) (pe_ix ix_tup (pv 6) (pe_int) (fun _ _ => rfl)) (fun _ _ => rfl)) (pe_non) (nomark _))) (fun _ _ _ _ _ => pv 6))))))
theorem ok_Web_reached (T : Txt K mg A) : FnOk P w K mg base (L2.CX P w) 3 T.a_Web_reached T.d_Web_reached ["self", "start"] (sp_Web_reached K A) := by
  refine T.F_Web_reached.okX sc_Web_reached (by unfold sp_Web_reached; walk_at "len") (fun cdv B outer s H vs Q E hr h => ⟨t_Web_reached K A E, ?_, rd_Web_reached T.okW h⟩)
  unfold t_Web_reached t_Web_reached_s1 t_Web_reached_s2 t_Web_reached_s3 t_Web_reached_s4 t_Web_reached_s5 t_Web_reached_b1 t_Web_reached_b1_s1
  exact pss_cons (ps_expr (pe_meth (pv 0) T.L_Web T.h_Web_need (ok_Web_need T) (hr.mono (by decide)) T.b_Web_need .nil (passes_call (takes_of rfl rfl rfl rfl) (fun _ _ _ _ h => h)) (pa_cons (pv 1) (pa_nil))))  (pss_cons (ps_setLc (i := 2) (own := [("zone", 5)]) rfl sc_Web_reached.nd rfl rfl (sw_true rfl rfl rfl (by decide +kernel)) (pi_list (pe_fld (pv 0) rfl)) (blkOk_by (N := N_Web_reached) (sc := defScope s_Web_reached) (by decide +kernel)) (fun _ _ _ _ _ => pg_name (i := 5) sc_Web_reached.nd rfl (by first | exact Or.inl rfl | exact Or.inr rfl)) (fun _ _ _ _ _ => pts_nil) (fun _ _ _ _ _ => pe_non))  (pss_cons (ps_set (i := 3) sc_Web_reached.nd rfl (by first | exact Or.inl rfl | exact Or.inr rfl) (pe_lst (pa_cons (pe_tup (pa_cons (pv 1) (pa_cons (pv 1) (pa_nil)))) (pa_nil))))  (pss_cons (ps_set (i := 4) sc_Web_reached.nd rfl (by first | exact Or.inl rfl | exact Or.inr rfl) (pe_int))  (pss_cons (ps_while (passes_of rfl) (pt_truth (pv 3) (by intro _; rfl)) (pss_cons (ps_set (i := 3) sc_Web_reached.nd rfl (by first | exact Or.inl rfl | exact Or.inr rfl) (pe_meth (pv 0) T.L_Web T.h_Web_spread (ok_Web_spread T) (hr.mono (by decide)) T.b_Web_spread .nil passL (pa_cons (pv 2) (pa_cons (pv 3) (pa_cons (pv 4) (pa_nil))))))  (pss_one (ps_set (i := 4) sc_Web_reached.nd rfl (by first | exact Or.inl rfl | exact Or.inr rfl) (pe_op op_add (pv 4) (pe_int))))))  (pss_one (ps_ret (pv 2)))))))
theorem ok_Web_levels (T : Txt K mg A) : FnOk P w K mg base (L2.CX P w) 4 T.a_Web_levels T.d_Web_levels ["self", "start"] (sp_Web_levels K A) := by
  refine T.F_Web_levels.okX sc_Web_levels (by unfold sp_Web_levels; walk_at "len") (fun cdv B outer s H vs Q E hr h => ⟨t_Web_levels K A E, ?_, rd_Web_levels T.okW h⟩)
  exact pss_one (ps_ret (pe_lc (own := [("pair", 2)]) rfl sc_Web_levels.nd (pi_list (pe_meth (pv 0) T.L_Web T.h_Web_reached (ok_Web_reached T) (hr.mono (by decide)) T.b_Web_reached .nil (passes_call (takes_of rfl rfl rfl rfl) (fun _ _ _ _ h => h)) (pa_cons (pv 1) (pa_nil)))) (blkOk_by (N := N_Web_levels) (sc := defScope s_Web_levels) (by decide +kernel)) (fun _ _ _ _ _ => pg_name (i := 2) sc_Web_levels.nd rfl (by first | exact Or.inl rfl | exact Or.inr rfl)) (fun _ _ _ _ _ => pts_nil) (fun _ _ _ _ _ => pe_ifExp (pt_cmpR op_isN (pv 2) (pe_non) (nomark _)) (pe_non) (pe_ix ix_tup (pv 2) (pe_int) (fun _ _ => rfl)))))
theorem ok_Web_fewest (T : Txt K mg A) : FnOk P w K mg base (L2.CX P w) 5 T.a_Web_fewest T.d_Web_fewest ["self", "start", "goal"] (sp_Web_fewest K A) := by
  refine T.F_Web_fewest.okX sc_Web_fewest (by unfold sp_Web_fewest; walk_at "len") (fun cdv B outer s H vs Q E hr h => ⟨t_Web_fewest K A E, ?_, rd_Web_fewest T.okW h⟩)
  exact pss_cons (ps_expr (pe_meth (pv 0) T.L_Web T.h_Web_need (ok_Web_need T) (hr.mono (by decide)) T.b_Web_need .nil (passes_call (takes_of rfl rfl rfl rfl) (fun _ _ _ _ h => h)) (pa_cons (pv 2) (pa_nil))))  (pss_cons (ps_set (i := 3) sc_Web_fewest.nd rfl (by first | exact Or.inl rfl | exact Or.inr rfl) (pe_ix ix_list (pe_meth (pv 0) T.L_Web T.h_Web_levels (ok_Web_levels T) (hr.mono (by decide)) T.b_Web_levels .nil (passes_call (takes_of rfl rfl rfl rfl) (fun _ _ _ _ h => h)) (pa_cons (pv 1) (pa_nil))) (pv 2) (fun _ _ => rfl)))  (pss_cons (ps_if (pt_cmpR op_isN (pv 3) (pe_non) (nomark _)) (pss_one (ps_raise rfl (takes_of rfl rfl rfl rfl) (pmk_own PySem.F.excBase_ValueError T.x_NoWay T.g_NoWay T.k_NoWay (raises_own T.y_NoWay T.t_NoWay) (by exact rfl)))) (pss_nil))  (pss_one (ps_ret (pv 3)))))
theorem ok_Web_way (T : Txt K mg A) : FnOk P w K mg base (L2.CX P w) 4 T.a_Web_way T.d_Web_way ["self", "start", "goal"] (sp_Web_way K A) := by
  refine T.F_Web_way.okX sc_Web_way (by unfold sp_Web_way; walk_at "len") (fun cdv B outer s H vs Q E hr h => ⟨t_Web_way K A E, ?_, rd_Web_way T.okW h⟩)
  unfold t_Web_way t_Web_way_s1 t_Web_way_s2 t_Web_way_s3 t_Web_way_s4 t_Web_way_s5
  exact pss_cons (ps_expr (pe_meth (pv 0) T.L_Web T.h_Web_need (ok_Web_need T) (hr.mono (by decide)) T.b_Web_need .nil (passes_call (takes_of rfl rfl rfl rfl) (fun _ _ _ _ h => h)) (pa_cons (pv 2) (pa_nil))))  (pss_cons (ps_set (i := 3) sc_Web_way.nd rfl (by first | exact Or.inl rfl | exact Or.inr rfl) (pe_meth (pv 0) T.L_Web T.h_Web_reached (ok_Web_reached T) (hr.mono (by decide)) T.b_Web_reached .nil (passes_call (takes_of rfl rfl rfl rfl) (fun _ _ _ _ h => h)) (pa_cons (pv 1) (pa_nil))))  (pss_cons (ps_if (pt_cmpR op_isN (pe_ix ix_list (pv 3) (pv 2) (fun _ _ => rfl)) (pe_non) (nomark _)) (pss_one (ps_raise rfl (takes_of rfl rfl rfl rfl) (pmk_own PySem.F.excBase_ValueError T.x_NoWay T.g_NoWay T.k_NoWay (raises_own T.y_NoWay T.t_NoWay) (by exact rfl)))) (pss_nil))  (pss_cons (ps_set (i := 4) sc_Web_way.nd rfl (by first | exact Or.inl rfl | exact Or.inr rfl) (pe_lst (pa_cons (pv 2) (pa_nil))))  (pss_cons (ps_while (passes_of rfl) (pt_cmpR op_ne (pe_ix ix_list (pv 4) (pe_un un_neg (pe_int)) (fun _ _ => rfl)) (pv 1) (nomark _)) (pss_one (ps_expr (pe_bm PySem.F.plainAttrs_list PySem.F.slot_list_append PySem.F.type_list_append mt_append (pv 4) (pa_cons (pe_ix ix_tup (pe_ix ix_list (pv 3) (pe_ix ix_list (pv 4) (pe_un un_neg (pe_int)) (fun _ _ => rfl)) (fun _ _ => rfl)) (pe_int) (fun _ _ => rfl)) (pa_nil))))))  (pss_one (ps_ret (pe_listRev rfl (by rfl) T.z_list (by rfl) T.z_reversed (pv 4))))))))
theorem ok_Ledger_init (T : Txt K mg A) : FnOk P w K mg base (L2.CX P w) 1 T.a_Ledger_init T.d_Ledger_init ["self", "web", "tariff"] (sp_Ledger_init K A) := by
  refine T.F_Ledger_init.okX sc_Ledger_init (by unfold sp_Ledger_init; walk_at "len") (fun cdv B outer s H vs Q E hr h => ⟨t_Ledger_init K A E, ?_, rd_Ledger_init T.okL h⟩)
  exact pss_cons (ps_fld (pv 0) (pv 1) rfl)  (pss_cons (ps_fld (pv 0) (pv 2) rfl)  (pss_one (ps_fld (pv 0) (pe_dnewK) rfl)))
theorem ok_Ledger_rides (T : Txt K mg A) : FnOk P w K mg base (L2.CX P w) 1 T.a_Ledger_rides T.d_Ledger_rides ["self", "card"] (sp_Ledger_rides K A) := by
  refine T.F_Ledger_rides.okX sc_Ledger_rides (by unfold sp_Ledger_rides; walk_at "len") (fun cdv B outer s H vs Q E hr h => ⟨t_Ledger_rides K A E, ?_, rd_Ledger_rides T.okL h⟩)
  exact pss_one (ps_ret (pe_callTy call_list_of (by rfl) T.z_list (by decide +kernel) (pa_cons (pe_dget2 (hu_of hr) (pe_fld (pv 0) rfl) (pv 1) (pe_lst pa_nil) ⟨rfl, rfl, rfl, rfl⟩) (pa_nil))))
theorem ok_Ledger_week_sum (T : Txt K mg A) : FnOk P w K mg base (L2.CX P w) 2 T.a_Ledger_week_sum T.d_Ledger_week_sum ["self", "card", "week"] (sp_Ledger_week_sum K A) := by
  refine T.F_Ledger_week_sum.okX sc_Ledger_week_sum (by unfold sp_Ledger_week_sum; walk_at "len") (fun cdv B outer s H vs Q E hr h => ⟨t_Ledger_week_sum K A E, ?_, rd_Ledger_week_sum T.okL h⟩)
  exact pss_one (ps_ret (pe_callB (cr_sum rfl) (by rfl) T.z_sum (by decide +kernel) (pa_cons (pe_lc (own := [("row", 3)]) rfl sc_Ledger_week_sum.nd (pi_list (pe_meth (pv 0) T.L_Ledger T.h_Ledger_rides (ok_Ledger_rides T) (hr.mono (by decide)) T.b_Ledger_rides .nil passL (pa_cons (pv 1) (pa_nil)))) (blkOk_by (N := N_Ledger_week_sum) (sc := defScope s_Ledger_week_sum) (by decide +kernel)) (fun _ _ _ _ _ => pg_name (i := 3) sc_Ledger_week_sum.nd rfl (by first | exact Or.inl rfl | exact Or.inr rfl)) (fun _ _ _ _ _ => pts_one (pt_cmpR op_eq (pe_op op_fdiv (pe_ix ix_tup (pv 3) (pe_int) (fun _ _ => rfl)) (pe_gc rfl (glob_int T.c_WEEK))) (pv 2) (nomark _))) (fun _ _ _ _ _ => pe_ix ix_tup (pv 3) (pe_int) (fun _ _ => rfl))) (pa_nil))))
theorem ok_Ledger_in_week (T : Txt K mg A) : FnOk P w K mg base (L2.CX P w) 2 T.a_Ledger_in_week T.d_Ledger_in_week ["self", "card", "week"] (sp_Ledger_in_week K A) := by
  refine T.F_Ledger_in_week.okX sc_Ledger_in_week (by unfold sp_Ledger_in_week; walk_at "len") (fun cdv B outer s H vs Q E hr h => ⟨t_Ledger_in_week K A E, ?_, rd_Ledger_in_week T.okL h⟩)
  exact pss_cons (ps_setLc (i := 3) (own := [("day", 5)]) rfl sc_Ledger_in_week.nd rfl rfl (sw_true rfl rfl rfl (by decide +kernel)) (pi_range1 (by rfl) T.z_range (pa_cons (pe_gc rfl (glob_int T.c_WEEK)) (pa_nil))) (blkOk_by (N := N_Ledger_in_week) (sc := defScope s_Ledger_in_week) (by decide +kernel)) (fun _ _ _ _ _ => pg_name (i := 5) sc_Ledger_in_week.nd rfl (by first | exact Or.inl rfl | exact Or.inr rfl)) (fun _ _ _ _ _ => pts_nil) (fun _ _ _ _ _ => pe_lst pa_nil))  (pss_cons (ps_for (passes_of rfl) rfl (pi_list (pe_meth (pv 0) T.L_Ledger T.h_Ledger_rides (ok_Ledger_rides T) (hr.mono (by decide)) T.b_Ledger_rides .nil passL (pa_cons (pv 1) (pa_nil)))) (pg_name (i := 4) sc_Ledger_in_week.nd rfl (by first | exact Or.inl rfl | exact Or.inr rfl)) (pss_one (ps_if (pt_cmpR op_eq (pe_op op_fdiv (pe_ix ix_tup (pv 4) (pe_int) (fun _ _ => rfl)) (pe_gc rfl (glob_int T.c_WEEK))) (pv 2) (nomark _)) (pss_one (ps_expr (pe_bm PySem.F.plainAttrs_list PySem.F.slot_list_append PySem.F.type_list_append mt_append (pe_ix ix_list (pv 3) (pe_op op_sub (pe_ix ix_tup (pv 4) (pe_int) (fun _ _ => rfl)) (pe_op op_mul (pe_gc rfl (glob_int T.c_WEEK)) (pv 2))) (fun _ _ => rfl)) (pa_cons (pe_ix ix_tup (pv 4) (pe_int) (fun _ _ => rfl)) (pa_nil))))) (pss_nil))))  (pss_one (ps_ret (pv 3))))
theorem ok_Ledger_ride (T : Txt K mg A) : FnOk P w K mg base (L2.CX P w) 6 T.a_Ledger_ride T.d_Ledger_ride ["self", "card", "day", "start", "goal"] (sp_Ledger_ride K A) := by
  refine T.F_Ledger_ride.okX sc_Ledger_ride (by unfold sp_Ledger_ride; walk_at "len") (fun cdv B outer s H vs Q E hr h => ⟨t_Ledger_ride K A E, ?_, rd_Ledger_ride T.okL h⟩)
  unfold t_Ledger_ride t_Ledger_ride_s1 t_Ledger_ride_s2 t_Ledger_ride_s3 t_Ledger_ride_s4 t_Ledger_ride_s5 t_Ledger_ride_s6 t_Ledger_ride_s7 t_Ledger_ride_s8
  exact pss_cons (ps_set (i := 5) sc_Ledger_ride.nd rfl (by first | exact Or.inl rfl | exact Or.inr rfl) (pe_callB (call_min2 rfl) (by rfl) T.z_min (by decide +kernel) (pa_cons (pe_meth (pe_fld (pv 0) rfl) T.L_Web T.h_Web_fewest (ok_Web_fewest T) (hr.mono (by decide)) T.b_Web_fewest .nil (passes_call (takes_of rfl rfl rfl rfl) (fun _ _ _ _ h => h)) (pa_cons (pv 3) (pa_cons (pv 4) (pa_nil)))) (pa_cons (pe_gc rfl (glob_int T.c_MOST_ZONES)) (pa_nil)))))  (pss_cons (ps_set (i := 6) sc_Ledger_ride.nd rfl (by first | exact Or.inl rfl | exact Or.inr rfl) (pe_meth (pv 0) T.L_Ledger T.h_Ledger_rides (ok_Ledger_rides T) (hr.mono (by decide)) T.b_Ledger_rides .nil passL (pa_cons (pv 1) (pa_nil))))  (pss_cons (ps_if (PW.pt (pw_or (pt_cmpR op_lt (pv 2) (pe_int) (nomark _)) (pw_or1 (PW.pt (pw_and (pt_truth (pv 6) (by intro _; rfl)) (pw_and1 (pt_cmpR op_lt (pv 2) (pe_ix ix_tup (pe_ix ix_list (pv 6) (pe_un un_neg (pe_int)) (fun _ _ => rfl)) (pe_int) (fun _ _ => rfl)) (nomark _)))))))) (pss_one (ps_raise rfl (takes_of rfl rfl rfl rfl) (pmk_own PySem.F.excBase_ValueError T.x_PastDay T.g_PastDay T.k_PastDay (raises_own T.y_PastDay T.t_PastDay) (by exact rfl)))) (pss_nil))  (pss_cons (ps_set (i := 7) sc_Ledger_ride.nd rfl (by first | exact Or.inl rfl | exact Or.inr rfl) (pe_op op_fdiv (pv 2) (pe_gc rfl (glob_int T.c_WEEK))))  (pss_cons (ps_set (i := 8) sc_Ledger_ride.nd rfl (by first | exact Or.inl rfl | exact Or.inr rfl) (pe_meth (pv 0) T.L_Ledger T.h_Ledger_in_week (ok_Ledger_in_week T) (hr.mono (by decide)) T.b_Ledger_in_week .nil passL (pa_cons (pv 1) (pa_cons (pv 7) (pa_nil)))))  (pss_cons (ps_expr (pe_bm PySem.F.plainAttrs_list PySem.F.slot_list_append PySem.F.type_list_append mt_append (pe_ix ix_list (pv 8) (pe_op op_sub (pv 2) (pe_op op_mul (pe_gc rfl (glob_int T.c_WEEK)) (pv 7))) (fun _ _ => rfl)) (pa_cons (pv 5) (pa_nil))))  (pss_cons (ps_set (i := 9) sc_Ledger_ride.nd rfl (by first | exact Or.inl rfl | exact Or.inr rfl) (pe_op op_sub (pe_ix ix_tup (pe_call (ok_least T) (hr.mono (by decide)) (by rfl) T.g_least T.k_least T.b_least .nil (passes_call (takes_of rfl rfl rfl rfl) (fun _ _ _ _ h => h)) (pa_cons (pe_fld (pv 0) rfl) (pa_cons (pv 8) (pa_nil)))) (pe_int) (fun _ _ => rfl)) (pe_meth (pv 0) T.L_Ledger T.h_Ledger_week_sum (ok_Ledger_week_sum T) (hr.mono (by decide)) T.b_Ledger_week_sum .nil passL (pa_cons (pv 1) (pa_cons (pv 7) (pa_nil))))))  (pss_cons (ps_dput (hu_of hr) (pe_fld (pv 0) rfl) (pv 1) (pe_op op_cat (pv 6) (pe_lst (pa_cons (pe_tup (pa_cons (pv 2) (pa_cons (pv 3) (pa_cons (pv 4) (pa_cons (pv 5) (pa_cons (pv 9) (pa_nil))))))) (pa_nil)))) rfl)  (pss_one (ps_ret (pv 9))))))))))
theorem ok_Ledger_tickets (T : Txt K mg A) : FnOk P w K mg base (L2.CX P w) 6 T.a_Ledger_tickets T.d_Ledger_tickets ["self", "card", "week"] (sp_Ledger_tickets K A) := by
  refine T.F_Ledger_tickets.okX sc_Ledger_tickets (by unfold sp_Ledger_tickets; walk_at "len") (fun cdv B outer s H vs Q E hr h => ⟨t_Ledger_tickets K A E, ?_, rd_Ledger_tickets T.okL h⟩)
  exact pss_one (ps_ret (pe_ix ix_tup (pe_call (ok_least T) (hr.mono (by decide)) (by rfl) T.g_least T.k_least T.b_least .nil passL (pa_cons (pe_fld (pv 0) rfl) (pa_cons (pe_meth (pv 0) T.L_Ledger T.h_Ledger_in_week (ok_Ledger_in_week T) (hr.mono (by decide)) T.b_Ledger_in_week .nil passL (pa_cons (pv 1) (pa_cons (pv 2) (pa_nil)))) (pa_nil)))) (pe_int) (fun _ _ => rfl)))
theorem ok_l_cell_at (T : Txt K mg A) : FnOk P w K mg base (L2.CX P w) 1 T.a_l_cell_at T.d_l_cell_at ["_law_script", "_law_k"] (sp_l_cell_at K A) := by
  refine T.F_l_cell_at.okX sc_l_cell_at (by unfold sp_l_cell_at; walk_at "len") (fun cdv B outer s H vs Q E hr h => ⟨t_l_cell_at K A E, ?_, rd_l_cell_at h⟩)
  exact pss_cons (ps_if (pt_cmpR op_lt (pv 1) (pe_callB call_len_seq (by rfl) T.z_len (by decide +kernel) (pa_cons (pv 0) (pa_nil))) (nomark _)) (pss_one (ps_ret (pe_ix ix_list (pv 0) (pv 1) (fun _ _ => rfl)))) (pss_nil))  (pss_one (ps_ret (pe_int)))
theorem ok_l_whole (T : Txt K mg A) : FnOk P w K mg base (L2.CX P w) 1 T.a_l_whole T.d_l_whole ["_law_found"] (sp_l_whole K A) := by
  refine T.F_l_whole.okX sc_l_whole (by unfold sp_l_whole; walk_at "len") (fun cdv B outer s H vs Q E hr h => ⟨t_l_whole K A E, ?_, rd_l_whole h⟩)
  exact pss_one (ps_ret (pe_and (pe_callB call_isH (by rfl) T.z_isinstance (by decide +kernel) (pa_cons (pv 0) (pa_cons (pe_bltn (v := .ty "int") (by rfl) T.z_int (by decide +kernel) rfl) (pa_nil)))) (pe_one (pe_not (pe_callB call_isH (by rfl) T.z_isinstance (by decide +kernel) (pa_cons (pv 0) (pa_cons (pe_bltn (v := .ty "bool") (by rfl) T.z_bool (by decide +kernel) rfl) (pa_nil))))))))
theorem ok_l_rows (T : Txt K mg A) : FnOk P w K mg base (L2.CX P w) 2 T.a_l_rows T.d_l_rows ["_law_script"] (sp_l_rows K A) := by
  refine T.F_l_rows.okX sc_l_rows (by unfold sp_l_rows; walk_at "len") (fun cdv B outer s H vs Q E hr h => ⟨t_l_rows K A E, ?_, rd_l_rows h⟩)
  exact pss_cons (ps_set (i := 1) sc_l_rows.nd rfl (by first | exact Or.inl rfl | exact Or.inr rfl) (pe_ix ix_list (pe_lst (pa_cons (pe_int) (pa_cons (pe_int) (pa_cons (pe_int) (pa_nil))))) (pe_op op_mod (pe_op op_fdiv (pe_call (ok_l_cell_at T) (hr.mono (by decide)) (by rfl) T.g_l_cell_at T.k_l_cell_at T.b_l_cell_at .nil passL (pa_cons (pv 0) (pa_cons (pe_int) (pa_nil)))) (pe_int)) (pe_int)) (fun _ _ => rfl)))  (pss_cons (ps_set (i := 2) sc_l_rows.nd rfl (by first | exact Or.inl rfl | exact Or.inr rfl) (pe_lst pa_nil))  (pss_cons (ps_for (passes_of rfl) rfl (pi_range1 (by rfl) T.z_range (pa_cons (pe_int) (pa_nil))) (pg_name (i := 3) sc_l_rows.nd rfl (by first | exact Or.inl rfl | exact Or.inr rfl)) (pss_one (ps_expr (pe_bm PySem.F.plainAttrs_list PySem.F.slot_list_append PySem.F.type_list_append mt_append (pv 2) (pa_cons (pe_lc (own := [("_law_k", 4)]) rfl sc_l_rows.nd (pi_range1 (by rfl) T.z_range (pa_cons (pe_int) (pa_nil))) (blkOk_by (N := N_l_rows) (sc := defScope s_l_rows) (by decide +kernel)) (fun _ _ _ _ _ => pg_name (i := 4) sc_l_rows.nd rfl (by first | exact Or.inl rfl | exact Or.inr rfl)) (fun _ _ _ _ _ => pts_nil) (fun _ _ _ _ _ => pe_op op_mod (pe_call (ok_l_cell_at T) (hr.mono (by decide)) (by rfl) T.g_l_cell_at T.k_l_cell_at T.b_l_cell_at .nil passL (pa_cons (pv 0) (pa_cons (pe_op op_add (pe_op op_add (pe_int) (pe_op op_mul (pe_int) (pv 3))) (pv 4)) (pa_nil)))) (pv 1))) (pa_nil))))))  (pss_one (ps_ret (pv 2)))))
theorem ok_l_links_by (T : Txt K mg A) : FnOk P w K mg base (L2.CX P w) 2 T.a_l_links_by T.d_l_links_by ["_law_script", "_law_many", "_law_size"] (sp_l_links_by K A) := by
  refine T.F_l_links_by.okX sc_l_links_by (by unfold sp_l_links_by; walk_at "len") (fun cdv B outer s H vs Q E hr h => ⟨t_l_links_by K A E, ?_, rd_l_links_by h⟩)
  unfold t_l_links_by t_l_links_by_s1 t_l_links_by_s2 t_l_links_by_s3 t_l_links_by_b1 t_l_links_by_b1_s1 t_l_links_by_b1_s2
  exact pss_cons (ps_set (i := 3) sc_l_links_by.nd rfl (by first | exact Or.inl rfl | exact Or.inr rfl) (pe_lst pa_nil))  (pss_cons (ps_for (passes_of rfl) rfl (pi_range3 (by rfl) T.z_range (pa_cons (pe_int) (pa_cons (pe_op op_add (pe_int) (pe_op op_mul (pe_int) (pv 2))) (pa_cons (pe_int) (pa_nil))))) (pg_name (i := 4) sc_l_links_by.nd rfl (by first | exact Or.inl rfl | exact Or.inr rfl)) (pss_cons (ps_set (i := 5) sc_l_links_by.nd rfl (by first | exact Or.inl rfl | exact Or.inr rfl) (pe_op op_mod (pe_call (ok_l_cell_at T) (hr.mono (by decide)) (by rfl) T.g_l_cell_at T.k_l_cell_at T.b_l_cell_at .nil passL (pa_cons (pv 0) (pa_cons (pv 4) (pa_nil)))) (pv 1)))  (pss_cons (ps_set (i := 6) sc_l_links_by.nd rfl (by first | exact Or.inl rfl | exact Or.inr rfl) (pe_op op_mod (pe_call (ok_l_cell_at T) (hr.mono (by decide)) (by rfl) T.g_l_cell_at T.k_l_cell_at T.b_l_cell_at .nil passL (pa_cons (pv 0) (pa_cons (pe_op op_add (pv 4) (pe_int)) (pa_nil)))) (pv 1)))  (pss_one (ps_if (pt_cmpR op_ne (pv 5) (pv 6) (nomark _)) (pss_one (ps_expr (pe_bm PySem.F.plainAttrs_list PySem.F.slot_list_append PySem.F.type_list_append mt_append (pv 3) (pa_cons (pe_tup (pa_cons (pv 5) (pa_cons (pv 6) (pa_nil)))) (pa_nil))))) (pss_nil))))))  (pss_cons (ps_if (pt_cmpR op_eq (pe_op op_mod (pe_op op_fdiv (pe_call (ok_l_cell_at T) (hr.mono (by decide)) (by rfl) T.g_l_cell_at T.k_l_cell_at T.b_l_cell_at .nil passL (pa_cons (pv 0) (pa_cons (pe_int) (pa_nil)))) (pe_int)) (pe_int)) (pe_int) (nomark _)) (pss_one (ps_for (passes_of rfl) rfl (pi_range1 (by rfl) T.z_range (pa_cons (pe_op op_sub (pv 1) (pe_int)) (pa_nil))) (pg_name (i := 4) sc_l_links_by.nd rfl (by first | exact Or.inl rfl | exact Or.inr rfl)) (pss_one (ps_expr (pe_bm PySem.F.plainAttrs_list PySem.F.slot_list_append PySem.F.type_list_append mt_append (pv 3) (pa_cons (pe_tup (pa_cons (pv 4) (pa_cons (pe_op op_add (pv 4) (pe_int)) (pa_nil)))) (pa_nil))))))) (pss_nil))  (pss_one (ps_ret (pv 3)))))
theorem ok_l_zones_of (T : Txt K mg A) : FnOk P w K mg base (L2.CX P w) 1 T.a_l_zones_of T.d_l_zones_of ["_law_row", "_law_zones", "_law_links", "_law_start", "_law_goal"] (sp_l_zones_of K A) := by
  refine T.F_l_zones_of.okX sc_l_zones_of (by unfold sp_l_zones_of; walk_at "len") (fun cdv B outer s H vs Q E hr h => ⟨t_l_zones_of K A E, ?_, rd_l_zones_of h⟩)
  unfold t_l_zones_of t_l_zones_of_s1 t_l_zones_of_s2 t_l_zones_of_s3 t_l_zones_of_b1 t_l_zones_of_b1_s1
  exact pss_cons (ps_if (PW.pt (pw_or (pt_not (pt_val (pe_callB call_isH (by rfl) T.z_isinstance (by decide +kernel) (pa_cons (pv 0) (pa_cons (pe_bltn (v := .ty "list") (by rfl) T.z_list (by decide +kernel) rfl) (pa_nil)))))) (pw_or (pt_cmpR op_eq (pe_callB call_len_seq (by rfl) T.z_len (by decide +kernel) (pa_cons (pv 0) (pa_nil))) (pe_int) (nomark _)) (pw_or (pt_cmpR op_ne (pe_ix ix_list (pv 0) (pe_int) (fun _ _ => rfl)) (pv 3) (nomark _)) (pw_or1 (pt_cmpR op_ne (pe_ix ix_list (pv 0) (pe_un un_neg (pe_int)) (fun _ _ => rfl)) (pv 4) (nomark _))))))) (pss_one (ps_ret (pe_un un_neg (pe_int)))) (pss_nil))  (pss_cons (ps_set (i := 5) sc_l_zones_of.nd rfl (by first | exact Or.inl rfl | exact Or.inr rfl) (pe_int))  (pss_cons (ps_for (passes_of rfl) rfl (pi_range2 (by rfl) T.z_range (pa_cons (pe_int) (pa_cons (pe_callB call_len_seq (by rfl) T.z_len (by decide +kernel) (pa_cons (pv 0) (pa_nil))) (pa_nil)))) (pg_name (i := 6) sc_l_zones_of.nd rfl (by first | exact Or.inl rfl | exact Or.inr rfl)) (pss_cons (ps_if (PW.pt (pw_and (pt_cmpR (op_notInH (units65 hr)) (pe_tup (pa_cons (pe_ix ix_list (pv 0) (pe_op op_sub (pv 6) (pe_int)) (fun _ _ => rfl)) (pa_cons (pe_ix ix_list (pv 0) (pv 6) (fun _ _ => rfl)) (pa_nil)))) (pv 2) (by rfl)) (pw_and1 (pt_cmpR (op_notInH (units65 hr)) (pe_tup (pa_cons (pe_ix ix_list (pv 0) (pv 6) (fun _ _ => rfl)) (pa_cons (pe_ix ix_list (pv 0) (pe_op op_sub (pv 6) (pe_int)) (fun _ _ => rfl)) (pa_nil)))) (pv 2) (by rfl))))) (pss_one (ps_ret (pe_un un_neg (pe_int)))) (pss_nil))  (pss_one (ps_set (i := 5) sc_l_zones_of.nd rfl (by first | exact Or.inl rfl | exact Or.inr rfl) (pe_op op_add (pv 5) (pe_callTy call_int1 (by rfl) T.z_int (by decide +kernel) (pa_cons (pe_cmpR op_ne (pe_ix ix_list (pv 1) (pe_ix ix_list (pv 0) (pe_op op_sub (pv 6) (pe_int)) (fun _ _ => rfl)) (fun _ _ => rfl)) (pe_ix ix_list (pv 1) (pe_ix ix_list (pv 0) (pv 6) (fun _ _ => rfl)) (fun _ _ => rfl)) (nomark _)) (pa_nil))))))))  (pss_one (ps_ret (pv 5)))))
theorem ok_l_kept (T : Txt K mg A) : FnOk P w K mg base (L2.CX P w) 1 T.a_l_kept T.d_l_kept ["_law_found", "_law_zones", "_law_links", "_law_start"] (sp_l_kept K A) := by
  refine T.F_l_kept.okX sc_l_kept (by unfold sp_l_kept; walk_at "len") (fun cdv B outer s H vs Q E hr h => ⟨t_l_kept K A E, ?_, rd_l_kept h⟩)
  unfold t_l_kept t_l_kept_s1 t_l_kept_s2
  exact pss_cons (ps_if (PW.pt (pw_or (pt_not (pt_val (pe_callB call_isH (by rfl) T.z_isinstance (by decide +kernel) (pa_cons (pv 0) (pa_cons (pe_bltn (v := .ty "list") (by rfl) T.z_list (by decide +kernel) rfl) (pa_nil)))))) (pw_or (pt_cmpR op_ne (pe_callB call_len_seq (by rfl) T.z_len (by decide +kernel) (pa_cons (pv 0) (pa_nil))) (pe_callB call_len_seq (by rfl) T.z_len (by decide +kernel) (pa_cons (pv 1) (pa_nil))) (nomark _)) (pw_or1 (pt_cmpR op_ne (pe_ix ix_list (pv 0) (pv 3) (fun _ _ => rfl)) (pe_int) (nomark _)))))) (pss_one (ps_ret (pe_bl))) (pss_nil))  (pss_cons (ps_for (passes_of rfl) rfl (pi_list (pv 2)) (pg_tup rfl (pgs_cons (pg_name (i := 4) sc_l_kept.nd rfl (by first | exact Or.inl rfl | exact Or.inr rfl)) (pgs_cons (pg_name (i := 5) sc_l_kept.nd rfl (by first | exact Or.inl rfl | exact Or.inr rfl)) (pgs_nil)))) (pss_one (ps_if (PW.pt (pw_or (pt_cmpR op_isN (pe_ix ix_list (pv 0) (pv 4) (fun _ _ => rfl)) (pe_non) (nomark _)) (pw_or1 (pt_cmpR op_isN (pe_ix ix_list (pv 0) (pv 5) (fun _ _ => rfl)) (pe_non) (nomark _))))) (pss_one (ps_if (PW.pt (pw_or (pt_cmpR op_notN (pe_ix ix_list (pv 0) (pv 4) (fun _ _ => rfl)) (pe_non) (nomark _)) (pw_or1 (pt_cmpR op_notN (pe_ix ix_list (pv 0) (pv 5) (fun _ _ => rfl)) (pe_non) (nomark _))))) (pss_one (ps_ret (pe_bl))) (pss_nil))) (pss_one (ps_if (pt_cmpR op_gt (pe_callB call_abs (by rfl) T.z_abs (by decide +kernel) (pa_cons (pe_op op_sub (pe_ix ix_list (pv 0) (pv 4) (fun _ _ => rfl)) (pe_ix ix_list (pv 0) (pv 5) (fun _ _ => rfl))) (pa_nil))) (pe_callTy call_int1 (by rfl) T.z_int (by decide +kernel) (pa_cons (pe_cmpR op_ne (pe_ix ix_list (pv 1) (pv 4) (fun _ _ => rfl)) (pe_ix ix_list (pv 1) (pv 5) (fun _ _ => rfl)) (nomark _)) (pa_nil))) (nomark _)) (pss_one (ps_ret (pe_bl))) (pss_nil))))))  (pss_one (ps_ret (pe_bl))))
theorem ok_l_ridden (T : Txt K mg A) : FnOk P w K mg base (L2.CX P w) 7 T.a_l_ridden T.d_l_ridden ["_law_ledger", "_law_card", "_law_day", "_law_start", "_law_goal"] (sp_l_ridden K A) := by
  refine T.F_l_ridden.okX sc_l_ridden (by unfold sp_l_ridden; walk_at "len") (fun cdv B outer s H vs Q E hr h => ⟨t_l_ridden K A E, ?_, rd_l_ridden T.okL T.e1_NoWay h⟩)
  exact pss_one (ps_try_only (tb := fun W => tRet (tMethS A.c_Ledger "ride" (sp_Ledger_ride K A) (WE W) (tVar 0) (tCons (tVar 1) (tCons (tVar 2) (tCons (tVar 3) (tCons (tVar 4) (tNil))))))) (ts := fun _ _ _ => tRet (tC .non)) (Wout := fun _ _ _ _ => False) rfl rfl ⟨rfl, by decide, Or.inl T.g_NoWay⟩ takes0 (fun W pn xe tk _ => pss_one (ps_ret (pe_methS (pv 0) T.L_Ledger T.h_Ledger_ride (ok_Ledger_ride T) (hr.mono (by decide)) T.b_Ledger_ride (fun σ => passAt tk σ) (pa_cons (pv 1) (pa_cons (pv 2) (pa_cons (pv 3) (pa_cons (pv 4) (pa_nil)))))))) (fun a oe cls d pn _ _ => pss_one (ps_ret (pe_non))))
theorem ok_l_serves (T : Txt K mg A) : FnOk P w K mg base (L2.CX P w) 1 T.a_l_serves T.d_l_serves ["_law_ticket", "_law_day", "_law_ride", "_law_zones"] (sp_l_serves K A) := by
  refine T.F_l_serves.okX sc_l_serves (by unfold sp_l_serves; walk_at "len") (fun cdv B outer s H vs Q E hr h => ⟨t_l_serves K A E, ?_, rd_l_serves h⟩)
  exact pss_cons (ps_if (pt_cmpR op_lt (pe_ix ix_tup (pv 0) (pe_un un_neg (pe_int)) (fun _ _ => rfl)) (pv 3) (nomark _)) (pss_one (ps_ret (pe_bl))) (pss_nil))  (pss_cons (ps_if (pt_cmpR op_eq (pe_ix ix_tup (pv 0) (pe_int) (fun _ _ => rfl)) (pe_str) (nomark _)) (pss_one (ps_ret (pe_bl))) (pss_nil))  (pss_one (ps_ret (pe_and (pe_cmpR op_eq (pe_ix ix_tup (pv 0) (pe_int) (fun _ _ => rfl)) (pv 1) (nomark _)) (pe_one (pe_or (pe_cmpR op_eq (pe_ix ix_tup (pv 0) (pe_int) (fun _ _ => rfl)) (pe_str) (nomark _)) (pe_one (pe_cmpR op_eq (pe_ix ix_tup (pv 0) (pe_int) (fun _ _ => rfl)) (pv 2) (nomark _)))))))))
theorem ok_l_cost (T : Txt K mg A) : FnOk P w K mg base (L2.CX P w) 2 T.a_l_cost T.d_l_cost ["_law_tickets", "_law_days", "_law_rows_here"] (sp_l_cost K A) := by
  refine T.F_l_cost.okX sc_l_cost (by unfold sp_l_cost; walk_at "len") (fun cdv B outer s H vs Q E hr h => ⟨t_l_cost K A E, ?_, rd_l_cost h⟩)
  unfold t_l_cost t_l_cost_s1 t_l_cost_s2 t_l_cost_s3 t_l_cost_b1 t_l_cost_b1_s1 t_l_cost_b1_s2 t_l_cost_b1_s3 t_l_cost_b1_s4
  exact pss_cons (ps_set (i := 3) sc_l_cost.nd rfl (by first | exact Or.inl rfl | exact Or.inr rfl) (pe_int))  (pss_cons (ps_for (passes_of rfl) rfl (pi_list (pv 0)) (pg_name (i := 4) sc_l_cost.nd rfl (by first | exact Or.inl rfl | exact Or.inr rfl)) (pss_cons (ps_if (PW.pt (pw_or (pt_not (pt_val (pe_callB call_isH (by rfl) T.z_isinstance (by decide +kernel) (pa_cons (pv 4) (pa_cons (pe_bltn (v := .ty "tuple") (by rfl) T.z_tuple (by decide +kernel) rfl) (pa_nil)))))) (pw_or1 (pt_not (pt_chain op_le op_le (pe_int) (pe_callB call_len_seq (by rfl) T.z_len (by decide +kernel) (pa_cons (pv 4) (pa_nil))) (pe_int)))))) (pss_one (ps_ret (pe_un un_neg (pe_int)))) (pss_nil))  (pss_cons (ps_set (i := 5) sc_l_cost.nd rfl (by first | exact Or.inl rfl | exact Or.inr rfl) (pe_op op_sub (pe_int) (pe_callB call_len_seq (by rfl) T.z_len (by decide +kernel) (pa_cons (pv 4) (pa_nil)))))  (pss_cons (ps_if (PW.pt (pw_or (pt_cmpR op_ne (pe_ix ix_tup (pv 4) (pe_int) (fun _ _ => rfl)) (pe_ix ix_list (pe_lst (pa_cons (pe_str) (pa_cons (pe_str) (pa_cons (pe_str) (pa_nil))))) (pv 5) (fun _ _ => rfl)) (nomark _)) (pw_or1 (pt_not (pt_chain op_le op_le (pe_int) (pe_ix ix_tup (pv 4) (pe_un un_neg (pe_int)) (fun _ _ => rfl)) (pe_int)))))) (pss_one (ps_ret (pe_un un_neg (pe_int)))) (pss_nil))  (pss_cons (ps_if (PW.pt (pw_or (pt_not (pt_val (pe_call (ok_l_whole T) (hr.mono (by decide)) (by rfl) T.g_l_whole T.k_l_whole T.b_l_whole .nil passL (pa_cons (pe_ix ix_tup (pv 4) (pe_un un_neg (pe_int)) (fun _ _ => rfl)) (pa_nil))))) (pw_or1 (pt_cmpR op_ne (pe_ix ix_tup (pv 4) (pe_un un_neg (pe_int)) (fun _ _ => rfl)) (pe_ix ix_list (pe_ix ix_list (pv 2) (pv 5) (fun _ _ => rfl)) (pe_op op_sub (pe_ix ix_tup (pv 4) (pe_un un_neg (pe_int)) (fun _ _ => rfl)) (pe_int)) (fun _ _ => rfl)) (nomark _))))) (pss_one (ps_ret (pe_un un_neg (pe_int)))) (pss_nil))  (pss_one (ps_set (i := 3) sc_l_cost.nd rfl (by first | exact Or.inl rfl | exact Or.inr rfl) (pe_op op_add (pv 3) (pe_ix ix_tup (pv 4) (pe_un un_neg (pe_int)) (fun _ _ => rfl))))))))))  (pss_cons (ps_for (passes_of rfl) rfl (pi_range1 (by rfl) T.z_range (pa_cons (pe_int) (pa_nil))) (pg_name (i := 6) sc_l_cost.nd rfl (by first | exact Or.inl rfl | exact Or.inr rfl)) (pss_one (ps_for (passes_of rfl) rfl (pi_range1 (by rfl) T.z_range (pa_cons (pe_callB call_len_seq (by rfl) T.z_len (by decide +kernel) (pa_cons (pe_ix ix_list (pv 1) (pv 6) (fun _ _ => rfl)) (pa_nil))) (pa_nil))) (pg_name (i := 7) sc_l_cost.nd rfl (by first | exact Or.inl rfl | exact Or.inr rfl)) (pss_one (ps_if (pt_cmpR op_notIn_seq (pe_bl) (pe_lc (own := [("_law_ticket", 4)]) rfl sc_l_cost.nd (pi_list (pv 0)) (blkOk_by (N := N_l_cost) (sc := defScope s_l_cost) (by decide +kernel)) (fun _ _ _ _ _ => pg_name (i := 4) sc_l_cost.nd rfl (by first | exact Or.inl rfl | exact Or.inr rfl)) (fun _ _ _ _ _ => pts_nil) (fun _ _ _ _ _ => pe_call (ok_l_serves T) (hr.mono (by decide)) (by rfl) T.g_l_serves T.k_l_serves T.b_l_serves .nil passL (pa_cons (pv 4) (pa_cons (pv 6) (pa_cons (pv 7) (pa_cons (pe_ix ix_list (pe_ix ix_list (pv 1) (pv 6) (fun _ _ => rfl)) (pv 7) (fun _ _ => rfl)) (pa_nil))))))) (by rfl)) (pss_one (ps_ret (pe_un un_neg (pe_int)))) (pss_nil))))))  (pss_one (ps_ret (pv 3)))))
theorem ok_l_drawn (T : Txt K mg A) : FnOk P w K mg base (L2.CX P w) 1 T.a_l_drawn T.d_l_drawn ["_law_number", "_law_rows_here", "_law_days"] (sp_l_drawn K A) := by
  refine T.F_l_drawn.okX sc_l_drawn (by unfold sp_l_drawn; walk_at "len") (fun cdv B outer s H vs Q E hr h => ⟨t_l_drawn K A E, ?_, rd_l_drawn h⟩)
  unfold t_l_drawn t_l_drawn_s1 t_l_drawn_s2 t_l_drawn_s3 t_l_drawn_s4 t_l_drawn_b1 t_l_drawn_b1_s1 t_l_drawn_b1_s2 t_l_drawn_b1_s3
  exact pss_cons (ps_set (i := 3) sc_l_drawn.nd rfl (by first | exact Or.inl rfl | exact Or.inr rfl) (pe_op op_mod (pv 0) (pe_int)))  (pss_cons (ps_set (i := 4) sc_l_drawn.nd rfl (by first | exact Or.inl rfl | exact Or.inr rfl) (pe_int))  (pss_cons (ps_if (pt_cmpR op_gt (pv 3) (pe_int) (nomark _)) (pss_one (ps_set (i := 4) sc_l_drawn.nd rfl (by first | exact Or.inl rfl | exact Or.inr rfl) (pe_ix ix_list (pe_ix ix_list (pv 1) (pe_int) (fun _ _ => rfl)) (pe_op op_sub (pv 3) (pe_int)) (fun _ _ => rfl)))) (pss_nil))  (pss_cons (ps_for (passes_of rfl) rfl (pi_list (pv 2)) (pg_name (i := 5) sc_l_drawn.nd rfl (by first | exact Or.inl rfl | exact Or.inr rfl)) (pss_cons (ps_set (i := 0) sc_l_drawn.nd rfl (by first | exact Or.inl rfl | exact Or.inr rfl) (pe_op op_fdiv (pv 0) (pe_int)))  (pss_cons (ps_set (i := 6) sc_l_drawn.nd rfl (by first | exact Or.inl rfl | exact Or.inr rfl) (pe_op op_mod (pv 0) (pe_int)))  (pss_cons (ps_if (PW.pt (pw_and (pt_cmpR op_gt (pv 6) (pe_int) (nomark _)) (pw_and1 (pt_truth (pv 5) (by intro _; rfl))))) (pss_one (ps_set (i := 4) sc_l_drawn.nd rfl (by first | exact Or.inl rfl | exact Or.inr rfl) (pe_op op_add (pv 4) (pe_ix ix_list (pe_ix ix_list (pv 1) (pe_int) (fun _ _ => rfl)) (pe_op op_sub (pv 6) (pe_int)) (fun _ _ => rfl))))) (pss_nil))  (pss_one (ps_for (passes_of rfl) rfl (pi_list (pv 5)) (pg_name (i := 7) sc_l_drawn.nd rfl (by first | exact Or.inl rfl | exact Or.inr rfl)) (pss_one (ps_if (pt_cmpR op_gt (pv 7) (pe_callB (call_max2 rfl) (by rfl) T.z_max (by decide +kernel) (pa_cons (pv 3) (pa_cons (pv 6) (pa_nil)))) (nomark _)) (pss_one (ps_set (i := 4) sc_l_drawn.nd rfl (by first | exact Or.inl rfl | exact Or.inr rfl) (pe_op op_add (pv 4) (pe_ix ix_list (pe_ix ix_list (pv 1) (pe_int) (fun _ _ => rfl)) (pe_op op_sub (pe_callB (call_min2 rfl) (by rfl) T.z_min (by decide +kernel) (pa_cons (pe_int) (pa_cons (pe_op op_add (pv 7) (pe_op op_mod (pe_op op_fdiv (pv 0) (pe_int)) (pe_int))) (pa_nil)))) (pe_int)) (fun _ _ => rfl))))) (pss_nil)))))))))  (pss_one (ps_ret (pv 4))))))
theorem ok_l_weeks (T : Txt K mg A) : FnOk P w K mg base (L2.CX P w) 7 T.a_l_weeks T.d_l_weeks ["_law_ledger", "_law_card", "_law_told", "_law_rows_here", "_law_number"] (sp_l_weeks K A) := by
  refine T.F_l_weeks.okX sc_l_weeks (by unfold sp_l_weeks; walk_at "len") (fun cdv B outer s H vs Q E hr h => ⟨t_l_weeks K A w E, ?_, rd_l_weeks T.okL h⟩)
  unfold t_l_weeks t_l_weeks_s1 t_l_weeks_b1 t_l_weeks_b1_s1 t_l_weeks_b1_s2 t_l_weeks_b1_s3 t_l_weeks_b1_s4 t_l_weeks_b1_s5 t_l_weeks_b1_s6
  exact pss_cons (ps_for (passes_of rfl) rfl (pi_list (pe_callB (cr_sortedSet rfl) (by rfl) T.z_sorted (by decide +kernel) (pa_cons (pe_callTy (cr_setI rfl) (by rfl) T.z_set (by decide +kernel) (pa_cons (pe_op op_cat (pe_lc (own := [("_law_ride", 9)]) rfl sc_l_weeks.nd (pi_list (pv 2)) (blkOk_by (N := N_l_weeks) (sc := defScope s_l_weeks) (by decide +kernel)) (fun _ _ _ _ _ => pg_name (i := 9) sc_l_weeks.nd rfl (by first | exact Or.inl rfl | exact Or.inr rfl)) (fun _ _ _ _ _ => pts_nil) (fun _ _ _ _ _ => pe_op op_fdiv (pe_ix ix_tup (pv 9) (pe_int) (fun _ _ => rfl)) (pe_int))) (pe_lst (pa_cons (pe_int) (pa_nil)))) (pa_nil))) (pa_nil)))) (pg_name (i := 5) sc_l_weeks.nd rfl (by first | exact Or.inl rfl | exact Or.inr rfl)) (pss_cons (ps_setLc (i := 6) (own := [("_law_day", 10)]) rfl sc_l_weeks.nd rfl rfl (sw_true rfl rfl rfl (by decide +kernel)) (pi_range1 (by rfl) T.z_range (pa_cons (pe_int) (pa_nil))) (blkOk_by (N := N_l_weeks) (sc := defScope s_l_weeks) (by decide +kernel)) (fun _ _ _ _ _ => pg_name (i := 10) sc_l_weeks.nd rfl (by first | exact Or.inl rfl | exact Or.inr rfl)) (fun _ _ _ _ _ => pts_nil) (fun _ _ _ _ _ => pe_lc (own := [("_law_ride", 9)]) rfl sc_l_weeks.nd (pi_list (pv 2)) (blkOk_by (N := N_l_weeks) (sc := (relS (defScope s_l_weeks) { kind := ScopeKind.function, names := [(".0", NameKind.local), ("_law_day", NameKind.cell), ("_law_told", NameKind.free), ("_law_week", NameKind.free)], isGenerator := false, isCoroutine := false })) (by decide +kernel)) (fun _ _ _ _ _ => pg_name (i := 9) sc_l_weeks.nd rfl (by first | exact Or.inl rfl | exact Or.inr rfl)) (fun _ _ _ _ _ => pts_one (pt_cmpR op_eq (pe_ix ix_tup (pv 9) (pe_int) (fun _ _ => rfl)) (pe_op op_add (pe_op op_mul (pe_int) (pv 5)) (pv 10)) (nomark _))) (fun _ _ _ _ _ => pe_ix ix_tup (pv 9) (pe_int) (fun _ _ => rfl))))  (pss_cons (ps_set (i := 7) sc_l_weeks.nd rfl (by first | exact Or.inl rfl | exact Or.inr rfl) (pe_callB (cr_sum rfl) (by rfl) T.z_sum (by decide +kernel) (pa_cons (pe_lc (own := [("_law_ride", 9)]) rfl sc_l_weeks.nd (pi_list (pv 2)) (blkOk_by (N := N_l_weeks) (sc := defScope s_l_weeks) (by decide +kernel)) (fun _ _ _ _ _ => pg_name (i := 9) sc_l_weeks.nd rfl (by first | exact Or.inl rfl | exact Or.inr rfl)) (fun _ _ _ _ _ => pts_one (pt_cmpR op_eq (pe_op op_fdiv (pe_ix ix_tup (pv 9) (pe_int) (fun _ _ => rfl)) (pe_int)) (pv 5) (nomark _))) (fun _ _ _ _ _ => pe_ix ix_tup (pv 9) (pe_int) (fun _ _ => rfl))) (pa_nil))))  (pss_cons (ps_set (i := 8) sc_l_weeks.nd rfl (by first | exact Or.inl rfl | exact Or.inr rfl) (pe_meth (pv 0) T.L_Ledger T.h_Ledger_tickets (ok_Ledger_tickets T) (hr.mono (by decide)) T.b_Ledger_tickets .nil passL (pa_cons (pv 1) (pa_cons (pv 5) (pa_nil)))))  (pss_cons (ps_if (PW.pt (pw_or (pt_not (pt_val (pe_callB call_isH (by rfl) T.z_isinstance (by decide +kernel) (pa_cons (pv 8) (pa_cons (pe_bltn (v := .ty "list") (by rfl) T.z_list (by decide +kernel) rfl) (pa_nil)))))) (pw_or1 (pt_cmpR op_ne (pe_meth (pv 0) T.L_Ledger T.h_Ledger_week_sum (ok_Ledger_week_sum T) (hr.mono (by decide)) T.b_Ledger_week_sum .nil passL (pa_cons (pv 1) (pa_cons (pv 5) (pa_nil)))) (pv 7) (nomark _))))) (pss_one (ps_ret (pe_bl))) (pss_nil))  (pss_cons (ps_if (PW.pt (pw_or (pt_cmpR op_ne (pe_call (ok_l_cost T) (hr.mono (by decide)) (by rfl) T.g_l_cost T.k_l_cost T.b_l_cost .nil passL (pa_cons (pv 8) (pa_cons (pv 6) (pa_cons (pv 3) (pa_nil))))) (pv 7) (nomark _)) (pw_or1 (pt_cmpR op_gt (pv 7) (pe_call (ok_l_drawn T) (hr.mono (by decide)) (by rfl) T.g_l_drawn T.k_l_drawn T.b_l_drawn .nil passL (pa_cons (pv 4) (pa_cons (pv 3) (pa_cons (pv 6) (pa_nil))))) (nomark _))))) (pss_one (ps_ret (pe_bl))) (pss_nil))  (pss_cons (ps_expr (pe_bm0 PySem.F.plainAttrs_list PySem.F.slot_list_clear PySem.F.type_list_clear mt_clear (pv 8)))  (pss_one (ps_if (pt_cmpR op_ne (pe_call (ok_l_cost T) (hr.mono (by decide)) (by rfl) T.g_l_cost T.k_l_cost T.b_l_cost .nil passL (pa_cons (pe_meth (pv 0) T.L_Ledger T.h_Ledger_tickets (ok_Ledger_tickets T) (hr.mono (by decide)) T.b_Ledger_tickets .nil passL (pa_cons (pv 1) (pa_cons (pv 5) (pa_nil)))) (pa_cons (pv 6) (pa_cons (pv 3) (pa_nil))))) (pv 7) (nomark _)) (pss_one (ps_ret (pe_bl))) (pss_nil))))))))))  (pss_one (ps_ret (pe_bl)))
theorem ok_l_rides (T : Txt K mg A) : FnOk P w K mg base (L2.CX P w) 2 T.a_l_rides T.d_l_rides ["_law_script", "_law_many", "_law_size"] (sp_l_rides K A) := by
  refine T.F_l_rides.okX sc_l_rides (by unfold sp_l_rides; walk_at "len") (fun cdv B outer s H vs Q E hr h => ⟨t_l_rides K A E, ?_, rd_l_rides h⟩)
  unfold t_l_rides t_l_rides_s1 t_l_rides_s2 t_l_rides_s3 t_l_rides_b2 t_l_rides_b2_s1 t_l_rides_b2_s2 t_l_rides_b2_s3 t_l_rides_b1 t_l_rides_b1_s1
  exact pss_cons (ps_set (i := 3) sc_l_rides.nd rfl (by first | exact Or.inl rfl | exact Or.inr rfl) (pe_lst pa_nil))  (pss_cons (ps_if (pt_cmpR op_eq (pe_op op_mod (pe_op op_add (pe_call (ok_l_cell_at T) (hr.mono (by decide)) (by rfl) T.g_l_cell_at T.k_l_cell_at T.b_l_cell_at .nil passL (pa_cons (pv 0) (pa_cons (pe_int) (pa_nil)))) (pe_call (ok_l_cell_at T) (hr.mono (by decide)) (by rfl) T.g_l_cell_at T.k_l_cell_at T.b_l_cell_at .nil passL (pa_cons (pv 0) (pa_cons (pe_int) (pa_nil))))) (pe_int)) (pe_int) (nomark _)) (pss_cons (ps_for (passes_of rfl) rfl (pi_range1 (by rfl) T.z_range (pa_cons (pe_int) (pa_nil))) (pg_name (i := 4) sc_l_rides.nd rfl (by first | exact Or.inl rfl | exact Or.inr rfl)) (pss_cons (ps_set (i := 5) sc_l_rides.nd rfl (by first | exact Or.inl rfl | exact Or.inr rfl) (pe_op op_mod (pe_op op_mul (pe_op op_add (pe_op op_add (pe_call (ok_l_cell_at T) (hr.mono (by decide)) (by rfl) T.g_l_cell_at T.k_l_cell_at T.b_l_cell_at .nil passL (pa_cons (pv 0) (pa_cons (pe_int) (pa_nil)))) (pe_call (ok_l_cell_at T) (hr.mono (by decide)) (by rfl) T.g_l_cell_at T.k_l_cell_at T.b_l_cell_at .nil passL (pa_cons (pv 0) (pa_cons (pe_int) (pa_nil))))) (pe_op op_mul (pe_int) (pv 4))) (pe_int)) (pe_int)))  (pss_one (ps_expr (pe_bm PySem.F.plainAttrs_list PySem.F.slot_list_append PySem.F.type_list_append mt_append (pv 3) (pa_cons (pe_tup (pa_cons (pe_str) (pa_cons (pe_callTy call_int1 (by rfl) T.z_int (by decide +kernel) (pa_cons (pe_cmpR op_eq (pe_op op_mod (pv 4) (pe_int)) (pe_int) (nomark _)) (pa_nil))) (pa_cons (pe_op op_mod (pv 5) (pv 1)) (pa_cons (pe_op op_mod (pe_op op_fdiv (pv 5) (pv 1)) (pv 1)) (pa_nil)))))) (pa_nil)))))))  (pss_one (ps_ret (pv 3)))) (pss_nil))  (pss_cons (ps_for (passes_of rfl) rfl (pi_enum (by rfl) T.z_enumerate (pa_cons (pe_slice sl_list (pv 0) (po_some (pe_op op_add (pe_int) (pe_op op_mul (pe_int) (pv 2)))) (po_some (pe_op op_add (pe_int) (pe_op op_mul (pe_int) (pv 2))))) (pa_nil))) (pg_tup rfl (pgs_cons (pg_name (i := 4) sc_l_rides.nd rfl (by first | exact Or.inl rfl | exact Or.inr rfl)) (pgs_cons (pg_name (i := 6) sc_l_rides.nd rfl (by first | exact Or.inl rfl | exact Or.inr rfl)) (pgs_nil)))) (pss_cons (ps_set (i := 7) sc_l_rides.nd rfl (by first | exact Or.inl rfl | exact Or.inr rfl) (pe_op op_mod (pe_op op_fdiv (pv 6) (pe_int)) (pv 1)))  (pss_cons (ps_set (i := 8) sc_l_rides.nd rfl (by first | exact Or.inl rfl | exact Or.inr rfl) (pe_op op_mod (pe_op op_fdiv (pe_op op_fdiv (pv 6) (pe_int)) (pv 1)) (pv 1)))  (pss_cons (ps_set (i := 9) sc_l_rides.nd rfl (by first | exact Or.inl rfl | exact Or.inr rfl) (pe_ix ix_list (pe_lst (pa_cons (pe_int) (pa_cons (pe_int) (pa_cons (pe_int) (pa_cons (pe_int) (pa_cons (pe_int) (pa_cons (pe_int) (pa_cons (pe_op op_mod (pe_op op_fdiv (pv 6) (pe_int)) (pe_op op_pow (pe_int) (pe_int))) (pa_cons (pe_int) (pa_nil)))))))))) (pe_op op_mod (pe_op op_add (pe_op op_fdiv (pv 6) (pe_int)) (pv 4)) (pe_int)) (fun _ _ => rfl)))  (pss_one (ps_expr (pe_bm PySem.F.plainAttrs_list PySem.F.slot_list_append PySem.F.type_list_append mt_append (pv 3) (pa_cons (pe_tup (pa_cons (pe_ix ix_list (pe_lst (pa_cons (pe_str) (pa_cons (pe_str) (pa_nil)))) (pe_op op_mod (pv 6) (pe_int)) (fun _ _ => rfl)) (pa_cons (pv 9) (pa_cons (pv 7) (pa_cons (pv 8) (pa_nil)))))) (pa_nil)))))))))  (pss_one (ps_ret (pv 3)))))
theorem ok_l_stays (T : Txt K mg A) : FnOk P w K mg base (L2.CX P w) 7 T.a_l_stays T.d_l_stays ["_law_ledger"] (sp_l_stays K A) := by
  refine T.F_l_stays.okX sc_l_stays (by unfold sp_l_stays; walk_at "len") (fun cdv B outer s H vs Q E hr h => ⟨t_l_stays K A E, ?_, rd_l_stays T.okL h⟩)
  unfold t_l_stays t_l_stays_s1 t_l_stays_s2 t_l_stays_s3 t_l_stays_s4
  exact pss_cons (ps_set (i := 1) sc_l_stays.nd rfl (by first | exact Or.inl rfl | exact Or.inr rfl) (pe_meth (pv 0) T.L_Ledger T.h_Ledger_tickets (ok_Ledger_tickets T) (hr.mono (by decide)) T.b_Ledger_tickets .nil passL (pa_cons (pe_str) (pa_cons (pe_int) (pa_nil)))))  (pss_cons (ps_set (i := 2) sc_l_stays.nd rfl (by first | exact Or.inl rfl | exact Or.inr rfl) (pe_callTy call_list_of (by rfl) T.z_list (by decide +kernel) (pa_cons (pv 1) (pa_nil))))  (pss_cons (ps_expr (pe_meth (pv 0) T.L_Ledger T.h_Ledger_tickets (ok_Ledger_tickets T) (hr.mono (by decide)) T.b_Ledger_tickets .nil passL (pa_cons (pe_str) (pa_cons (pe_int) (pa_nil)))))  (pss_cons (ps_expr (pe_meth (pv 0) T.L_Ledger T.h_Ledger_tickets (ok_Ledger_tickets T) (hr.mono (by decide)) T.b_Ledger_tickets .nil passL (pa_cons (pe_str) (pa_cons (pe_int) (pa_nil)))))  (pss_one (ps_ret (pe_cmpR (op_eqH (hr.units)) (pv 1) (pv 2) (nomark _)))))))
theorem ok_law (T : Txt K mg A) : FnOk P w K mg base (L2.CX P w) 8 T.a_law T.d_law ["_law_script"] (sp_law K A) := by
  refine T.F_law.okX sc_law (by unfold sp_law; walk_at "len") (fun cdv B outer s H vs Q E hr h => ⟨t_law K A E, ?_, rd_law T.okW T.okT T.okL h⟩)
  unfold t_law t_law_s1 t_law_s2 t_law_s3 t_law_s4 t_law_s5 t_law_s6 t_law_s7 t_law_s8 t_law_s9 t_law_s10 t_law_s11 t_law_s12 t_law_s13 t_law_s14 t_law_b1 t_law_b1_s1 t_law_b1_s2 t_law_b1_s3 t_law_b1_s4 t_law_b1_s5 t_law_b2 t_law_b2_s1 t_law_b2_s2 t_law_b2_s3 t_law_b2_s4 t_law_b2_s5
  exact pss_cons (ps_set (i := 1) sc_law.nd rfl (by first | exact Or.inl rfl | exact Or.inr rfl) (pe_op op_add (pe_int) (pe_op op_mod (pe_call (ok_l_cell_at T) (hr.mono (by decide)) (by rfl) T.g_l_cell_at T.k_l_cell_at T.b_l_cell_at .nil passL (pa_cons (pv 0) (pa_cons (pe_int) (pa_nil)))) (pe_int))))  (pss_cons (ps_set (i := 2) sc_law.nd rfl (by first | exact Or.inl rfl | exact Or.inr rfl) (pe_op op_mod (pe_op op_fdiv (pe_call (ok_l_cell_at T) (hr.mono (by decide)) (by rfl) T.g_l_cell_at T.k_l_cell_at T.b_l_cell_at .nil passL (pa_cons (pv 0) (pa_cons (pe_int) (pa_nil)))) (pe_int)) (pe_int)))  (pss_cons (ps_set (i := 3) sc_law.nd rfl (by first | exact Or.inl rfl | exact Or.inr rfl) (pe_ix ix_list (pe_lst (pa_cons (pe_int) (pa_cons (pe_int) (pa_cons (pe_op op_pow (pe_int) (pe_int)) (pa_cons (pe_op op_pow (pe_int) (pe_int)) (pa_cons (pe_op op_pow (pe_int) (pe_int)) (pa_cons (pe_op op_pow (pe_int) (pe_int)) (pa_nil)))))))) (pe_op op_mod (pe_call (ok_l_cell_at T) (hr.mono (by decide)) (by rfl) T.g_l_cell_at T.k_l_cell_at T.b_l_cell_at .nil passL (pa_cons (pv 0) (pa_cons (pe_int) (pa_nil)))) (pe_int)) (fun _ _ => rfl)))  (pss_cons (ps_set (i := 4) sc_law.nd rfl (by first | exact Or.inl rfl | exact Or.inr rfl) (pe_lst pa_nil))  (pss_cons (ps_for (passes_of rfl) rfl (pi_range1 (by rfl) T.z_range (pa_cons (pv 1) (pa_nil))) (pg_name (i := 5) sc_law.nd rfl (by first | exact Or.inl rfl | exact Or.inr rfl)) (pss_one (ps_expr (pe_bm PySem.F.plainAttrs_list PySem.F.slot_list_append PySem.F.type_list_append mt_append (pv 4) (pa_cons (pe_op op_mul (pv 3) (pe_op op_mod (pe_op op_fdiv (pe_call (ok_l_cell_at T) (hr.mono (by decide)) (by rfl) T.g_l_cell_at T.k_l_cell_at T.b_l_cell_at .nil passL (pa_cons (pv 0) (pa_cons (pe_int) (pa_nil)))) (pe_ix ix_list (pe_lst (pa_cons (pe_int) (pa_cons (pe_int) (pa_cons (pe_int) (pa_cons (pe_int) (pa_cons (pe_int) (pa_cons (pe_int) (pa_cons (pe_int) (pa_cons (pe_int) (pa_cons (pe_int) (pa_nil))))))))))) (pv 5) (fun _ _ => rfl))) (pe_int))) (pa_nil))))))  (pss_cons (ps_set (i := 6) sc_law.nd rfl (by first | exact Or.inl rfl | exact Or.inr rfl) (pe_call (ok_l_links_by T) (hr.mono (by decide)) (by rfl) T.g_l_links_by T.k_l_links_by T.b_l_links_by .nil passL (pa_cons (pv 0) (pa_cons (pv 1) (pa_cons (pv 2) (pa_nil))))))  (pss_cons (ps_set (i := 7) sc_law.nd rfl (by first | exact Or.inl rfl | exact Or.inr rfl) (pe_call (ok_l_rows T) (hr.mono (by decide)) (by rfl) T.g_l_rows T.k_l_rows T.b_l_rows .nil passL (pa_cons (pv 0) (pa_nil))))  (pss_cons (ps_set (i := 8) sc_law.nd rfl (by first | exact Or.inl rfl | exact Or.inr rfl) (pe_make T.M_Web (ok_Web_init T) (hr.mono (by decide)) (by rfl) T.g_Web T.b_Web_init .nil passL (pa_cons (pe_callTy call_list_of (by rfl) T.z_list (by decide +kernel) (pa_cons (pv 4) (pa_nil))) (pa_cons (pe_callTy call_list_of (by rfl) T.z_list (by decide +kernel) (pa_cons (pv 6) (pa_nil))) (pa_nil)))))  (pss_cons (ps_set (i := 9) sc_law.nd rfl (by first | exact Or.inl rfl | exact Or.inr rfl) (pe_make T.M_Ledger (ok_Ledger_init T) (hr.mono (by decide)) (by rfl) T.g_Ledger T.b_Ledger_init .nil passL (pa_cons (pv 8) (pa_cons (pe_make T.M_Tariff (ok_Tariff_init T) (hr.mono (by decide)) (by rfl) T.g_Tariff T.b_Tariff_init .nil passL (pa_cons (pe_ix ix_list (pv 7) (pe_int) (fun _ _ => rfl)) (pa_cons (pe_ix ix_list (pv 7) (pe_int) (fun _ _ => rfl)) (pa_cons (pe_ix ix_list (pv 7) (pe_int) (fun _ _ => rfl)) (pa_nil))))) (pa_nil)))))  (pss_cons (ps_set (i := 10) sc_law.nd rfl (by first | exact Or.inl rfl | exact Or.inr rfl) (pe_disp (pps_cons (pe_str) (pe_lst pa_nil) (pps_cons (pe_str) (pe_lst pa_nil) (pps_nil))) (by rfl) (by rfl) (fun z => by cases z) (by decide)))  (pss_cons (ps_set (i := 11) sc_law.nd rfl (by first | exact Or.inl rfl | exact Or.inr rfl) (pe_disp (pps_cons (pe_str) (pe_int) (pps_cons (pe_str) (pe_int) (pps_nil))) (by rfl) (by rfl) (fun z => by cases z) (by decide)))  (pss_cons (ps_for (passes_of rfl) rfl (pi_list (pe_call (ok_l_rides T) (hr.mono (by decide)) (by rfl) T.g_l_rides T.k_l_rides T.b_l_rides .nil passL (pa_cons (pv 0) (pa_cons (pv 1) (pa_cons (pv 2) (pa_nil)))))) (pg_tup rfl (pgs_cons (pg_name (i := 12) sc_law.nd rfl (by first | exact Or.inl rfl | exact Or.inr rfl)) (pgs_cons (pg_name (i := 3) sc_law.nd rfl (by first | exact Or.inl rfl | exact Or.inr rfl)) (pgs_cons (pg_name (i := 13) sc_law.nd rfl (by first | exact Or.inl rfl | exact Or.inr rfl)) (pgs_cons (pg_name (i := 14) sc_law.nd rfl (by first | exact Or.inl rfl | exact Or.inr rfl)) (pgs_nil)))))) (pss_cons (ps_set (i := 15) sc_law.nd rfl (by first | exact Or.inl rfl | exact Or.inr rfl) (pe_op op_fdiv (pe_op op_add (pe_dget (hu_of hr) (pv 11) (pv 12) (fun _ _ => rfl)) (pv 3)) (pe_int)))  (pss_cons (ps_expr (pe_meth (pv 9) T.L_Ledger T.h_Ledger_tickets (ok_Ledger_tickets T) (hr.mono (by decide)) T.b_Ledger_tickets .nil passL (pa_cons (pv 12) (pa_cons (pv 15) (pa_nil)))))  (pss_cons (ps_set (i := 16) sc_law.nd rfl (by first | exact Or.inl rfl | exact Or.inr rfl) (pe_call (ok_l_ridden T) (hr.mono (by decide)) (by rfl) T.g_l_ridden T.k_l_ridden T.b_l_ridden .nil passL (pa_cons (pv 9) (pa_cons (pv 12) (pa_cons (pe_op op_add (pe_dget (hu_of hr) (pv 11) (pv 12) (fun _ _ => rfl)) (pv 3)) (pa_cons (pv 13) (pa_cons (pv 14) (pa_nil))))))))  (pss_cons (ps_set (i := 17) sc_law.nd rfl (by first | exact Or.inl rfl | exact Or.inr rfl) (pe_meth (pv 8) T.L_Web T.h_Web_levels (ok_Web_levels T) (hr.mono (by decide)) T.b_Web_levels .nil passL (pa_cons (pv 13) (pa_nil))))  (pss_cons (ps_if (PW.pt (pw_or (pt_not (pt_val (pe_call (ok_l_kept T) (hr.mono (by decide)) (by rfl) T.g_l_kept T.k_l_kept T.b_l_kept .nil passL (pa_cons (pv 17) (pa_cons (pv 4) (pa_cons (pv 6) (pa_cons (pv 13) (pa_nil)))))))) (pw_or1 (pt_cmpR op_ne (pe_cmpR op_isN (pe_ix ix_list (pv 17) (pv 14) (fun _ _ => rfl)) (pe_non) (nomark _)) (pe_cmpR op_isN (pv 16) (pe_non) (nomark _)) (nomark _))))) (pss_one (ps_ret (pe_bl))) (pss_nil))  (pss_one (ps_if (pt_cmpR op_notN (pv 16) (pe_non) (nomark _)) (pss_cons (ps_set (i := 18) sc_law.nd rfl (by first | exact Or.inl rfl | exact Or.inr rfl) (pe_call (ok_l_zones_of T) (hr.mono (by decide)) (by rfl) T.g_l_zones_of T.k_l_zones_of T.b_l_zones_of .nil passL (pa_cons (pe_meth (pv 8) T.L_Web T.h_Web_way (ok_Web_way T) (hr.mono (by decide)) T.b_Web_way .nil passL (pa_cons (pv 13) (pa_cons (pv 14) (pa_nil)))) (pa_cons (pv 4) (pa_cons (pv 6) (pa_cons (pv 13) (pa_cons (pv 14) (pa_nil))))))))  (pss_cons (ps_if (PW.pt (pw_or (pt_not (pt_val (pe_call (ok_l_whole T) (hr.mono (by decide)) (by rfl) T.g_l_whole T.k_l_whole T.b_l_whole .nil passL (pa_cons (pv 16) (pa_nil))))) (pw_or1 (pt_cmpR op_ne (pv 18) (pe_ix ix_list (pv 17) (pv 14) (fun _ _ => rfl)) (nomark _))))) (pss_one (ps_ret (pe_bl))) (pss_nil))  (pss_cons (ps_dput (hu_of hr) (pv 11) (pv 12) (pe_op op_add (pe_dget (hu_of hr) (pv 11) (pv 12) (fun _ _ => rfl)) (pv 3)) rfl)  (pss_cons (ps_expr (pe_bm PySem.F.plainAttrs_list PySem.F.slot_list_append PySem.F.type_list_append mt_append (pe_dget (hu_of hr) (pv 10) (pv 12) (fun _ _ => rfl)) (pa_cons (pe_tup (pa_cons (pe_dget (hu_of hr) (pv 11) (pv 12) (fun _ _ => rfl)) (pa_cons (pe_callB (call_min2 rfl) (by rfl) T.z_min (by decide +kernel) (pa_cons (pe_int) (pa_cons (pv 18) (pa_nil)))) (pa_cons (pv 16) (pa_nil))))) (pa_nil))))  (pss_cons (ps_if (pt_cmpR op_ne (pe_callB (cr_sum rfl) (by rfl) T.z_sum (by decide +kernel) (pa_cons (pe_lc (own := [("_law_ticket", 20)]) rfl sc_law.nd (pi_list (pe_meth (pv 9) T.L_Ledger T.h_Ledger_tickets (ok_Ledger_tickets T) (hr.mono (by decide)) T.b_Ledger_tickets .nil passL (pa_cons (pv 12) (pa_cons (pv 15) (pa_nil))))) (blkOk_by (N := N_law) (sc := defScope s_law) (by decide +kernel)) (fun _ _ _ _ _ => pg_name (i := 20) sc_law.nd rfl (by first | exact Or.inl rfl | exact Or.inr rfl)) (fun _ _ _ _ _ => pts_nil) (fun _ _ _ _ _ => pe_ix ix_tup (pv 20) (pe_un un_neg (pe_int)) (fun _ _ => rfl))) (pa_nil))) (pe_meth (pv 9) T.L_Ledger T.h_Ledger_week_sum (ok_Ledger_week_sum T) (hr.mono (by decide)) T.b_Ledger_week_sum .nil passL (pa_cons (pv 12) (pa_cons (pv 15) (pa_nil)))) (nomark _)) (pss_one (ps_ret (pe_bl))) (pss_nil))  (pss_one (ps_if (pt_cmpR (op_neH (hr.units)) (pe_ix ix_list (pe_meth (pv 9) T.L_Ledger T.h_Ledger_rides (ok_Ledger_rides T) (hr.mono (by decide)) T.b_Ledger_rides .nil passL (pa_cons (pv 12) (pa_nil))) (pe_un un_neg (pe_int)) (fun _ _ => rfl)) (pe_tup (pa_cons (pe_dget (hu_of hr) (pv 11) (pv 12) (fun _ _ => rfl)) (pa_cons (pv 13) (pa_cons (pv 14) (pa_cons (pe_callB (call_min2 rfl) (by rfl) T.z_min (by decide +kernel) (pa_cons (pe_int) (pa_cons (pv 18) (pa_nil)))) (pa_cons (pv 16) (pa_nil))))))) (nomark _)) (pss_one (ps_ret (pe_bl))) (pss_nil)))))))) (pss_nil)))))))))  (pss_cons (ps_set (i := 19) sc_law.nd rfl (by first | exact Or.inl rfl | exact Or.inr rfl) (pe_call (ok_l_cell_at T) (hr.mono (by decide)) (by rfl) T.g_l_cell_at T.k_l_cell_at T.b_l_cell_at .nil passL (pa_cons (pv 0) (pa_cons (pe_int) (pa_nil)))))  (pss_cons (ps_if (pt_not (pt_val (pe_call (ok_l_stays T) (hr.mono (by decide)) (by rfl) T.g_l_stays T.k_l_stays T.b_l_stays .nil passL (pa_cons (pv 9) (pa_nil))))) (pss_one (ps_ret (pe_bl))) (pss_nil))  (pss_one (ps_ret (pe_and (pe_call (ok_l_weeks T) (hr.mono (by decide)) (by rfl) T.g_l_weeks T.k_l_weeks T.b_l_weeks .nil passL (pa_cons (pv 9) (pa_cons (pe_str) (pa_cons (pe_dget (hu_of hr) (pv 10) (pe_str) (fun _ _ => rfl)) (pa_cons (pv 7) (pa_cons (pv 19) (pa_nil))))))) (pe_one (pe_call (ok_l_weeks T) (hr.mono (by decide)) (by rfl) T.g_l_weeks T.k_l_weeks T.b_l_weeks .nil passL (pa_cons (pv 9) (pa_cons (pe_str) (pa_cons (pe_dget (hu_of hr) (pv 10) (pe_str) (fun _ _ => rfl)) (pa_cons (pv 7) (pa_cons (pv 19) (pa_nil))))))))))))))))))))))))
end
end FW

namespace FW
open PySem PySem.Spec PyProof.Rows L2
theorem all_mk {l : PySem.W.OpenLaw} {w : World} {K : PySem.W.Frag} {h : Heap} {mg : Str → Option Value} {fa : Addr} (X : K.In h) (G : h.Ns mainGlobals mg) (hfa : mg "law" = some (.ref fa))
  {C_FareError C_BadLink C_BadStop C_NoWay C_BadPrices C_BadZones C_PastDay C_Tariff C_Ledger C_Web f_need_zones f_cheapest f_Tariff_init f_Tariff_single f_Tariff_day f_Tariff_week f_cost_of f_for_day f_for_week f_least f_Web_init f_Web_need f_Web_beside f_Web_spread f_Web_reached f_Web_levels f_Web_fewest f_Web_way f_Ledger_init f_Ledger_rides f_Ledger_week_sum f_Ledger_in_week f_Ledger_ride f_Ledger_tickets f_l_cell_at f_l_whole f_l_rows f_l_links_by f_l_zones_of f_l_kept f_l_ridden f_l_serves f_l_cost f_l_drawn f_l_weeks f_l_rides f_l_stays f_law : Addr} {od_need_zones an_need_zones od_cheapest an_cheapest od_Tariff_init an_Tariff_init od_Tariff_single an_Tariff_single od_Tariff_day an_Tariff_day od_Tariff_week an_Tariff_week od_cost_of an_cost_of od_for_day an_for_day od_for_week an_for_week od_least an_least od_Web_init an_Web_init od_Web_need an_Web_need od_Web_beside an_Web_beside od_Web_spread an_Web_spread od_Web_reached an_Web_reached od_Web_levels an_Web_levels od_Web_fewest an_Web_fewest od_Web_way an_Web_way od_Ledger_init an_Ledger_init od_Ledger_rides an_Ledger_rides od_Ledger_week_sum an_Ledger_week_sum od_Ledger_in_week an_Ledger_in_week od_Ledger_ride an_Ledger_ride od_Ledger_tickets an_Ledger_tickets od_l_cell_at an_l_cell_at od_l_whole an_l_whole od_l_rows an_l_rows od_l_links_by an_l_links_by od_l_zones_of an_l_zones_of od_l_kept an_l_kept od_l_ridden an_l_ridden od_l_serves an_l_serves od_l_cost an_l_cost od_l_drawn an_l_drawn od_l_weeks an_l_weeks od_l_rides an_l_rides od_l_stays an_l_stays od_law an_law : Option Addr} {sl_need_zones sl_cheapest sl_Tariff_init sl_Tariff_single sl_Tariff_day sl_Tariff_week sl_cost_of sl_for_day sl_for_week sl_least sl_Web_init sl_Web_need sl_Web_beside sl_Web_spread sl_Web_reached sl_Web_levels sl_Web_fewest sl_Web_way sl_Ledger_init sl_Ledger_rides sl_Ledger_week_sum sl_Ledger_in_week sl_Ledger_ride sl_Ledger_tickets sl_l_cell_at sl_l_whole sl_l_rows sl_l_links_by sl_l_zones_of sl_l_kept sl_l_ridden sl_l_serves sl_l_cost sl_l_drawn sl_l_weeks sl_l_rides sl_l_stays sl_law : Array (Option Value)} {oc_need_zones kV_need_zones dc_need_zones pm_need_zones cd_need_zones ct_need_zones oc_cheapest kV_cheapest dc_cheapest pm_cheapest cd_cheapest ct_cheapest oc_Tariff_init kV_Tariff_init dc_Tariff_init pm_Tariff_init cd_Tariff_init ct_Tariff_init oc_Tariff_single kV_Tariff_single dc_Tariff_single pm_Tariff_single cd_Tariff_single ct_Tariff_single oc_Tariff_day kV_Tariff_day dc_Tariff_day pm_Tariff_day cd_Tariff_day ct_Tariff_day oc_Tariff_week kV_Tariff_week dc_Tariff_week pm_Tariff_week cd_Tariff_week ct_Tariff_week oc_cost_of kV_cost_of dc_cost_of pm_cost_of cd_cost_of ct_cost_of oc_for_day kV_for_day dc_for_day pm_for_day cd_for_day ct_for_day oc_for_week kV_for_week dc_for_week pm_for_week cd_for_week ct_for_week oc_least kV_least dc_least pm_least cd_least ct_least oc_Web_init kV_Web_init dc_Web_init pm_Web_init cd_Web_init ct_Web_init oc_Web_need kV_Web_need dc_Web_need pm_Web_need cd_Web_need ct_Web_need oc_Web_beside kV_Web_beside dc_Web_beside pm_Web_beside cd_Web_beside ct_Web_beside oc_Web_spread kV_Web_spread dc_Web_spread pm_Web_spread cd_Web_spread ct_Web_spread oc_Web_reached kV_Web_reached dc_Web_reached pm_Web_reached cd_Web_reached ct_Web_reached oc_Web_levels kV_Web_levels dc_Web_levels pm_Web_levels cd_Web_levels ct_Web_levels oc_Web_fewest kV_Web_fewest dc_Web_fewest pm_Web_fewest cd_Web_fewest ct_Web_fewest oc_Web_way kV_Web_way dc_Web_way pm_Web_way cd_Web_way ct_Web_way oc_Ledger_init kV_Ledger_init dc_Ledger_init pm_Ledger_init cd_Ledger_init ct_Ledger_init oc_Ledger_rides kV_Ledger_rides dc_Ledger_rides pm_Ledger_rides cd_Ledger_rides ct_Ledger_rides oc_Ledger_week_sum kV_Ledger_week_sum dc_Ledger_week_sum pm_Ledger_week_sum cd_Ledger_week_sum ct_Ledger_week_sum oc_Ledger_in_week kV_Ledger_in_week dc_Ledger_in_week pm_Ledger_in_week cd_Ledger_in_week ct_Ledger_in_week oc_Ledger_ride kV_Ledger_ride dc_Ledger_ride pm_Ledger_ride cd_Ledger_ride ct_Ledger_ride oc_Ledger_tickets kV_Ledger_tickets dc_Ledger_tickets pm_Ledger_tickets cd_Ledger_tickets ct_Ledger_tickets oc_l_cell_at kV_l_cell_at dc_l_cell_at pm_l_cell_at cd_l_cell_at ct_l_cell_at oc_l_whole kV_l_whole dc_l_whole pm_l_whole cd_l_whole ct_l_whole oc_l_rows kV_l_rows dc_l_rows pm_l_rows cd_l_rows ct_l_rows oc_l_links_by kV_l_links_by dc_l_links_by pm_l_links_by cd_l_links_by ct_l_links_by oc_l_zones_of kV_l_zones_of dc_l_zones_of pm_l_zones_of cd_l_zones_of ct_l_zones_of oc_l_kept kV_l_kept dc_l_kept pm_l_kept cd_l_kept ct_l_kept oc_l_ridden kV_l_ridden dc_l_ridden pm_l_ridden cd_l_ridden ct_l_ridden oc_l_serves kV_l_serves dc_l_serves pm_l_serves cd_l_serves ct_l_serves oc_l_cost kV_l_cost dc_l_cost pm_l_cost cd_l_cost ct_l_cost oc_l_drawn kV_l_drawn dc_l_drawn pm_l_drawn cd_l_drawn ct_l_drawn oc_l_weeks kV_l_weeks dc_l_weeks pm_l_weeks cd_l_weeks ct_l_weeks oc_l_rides kV_l_rides dc_l_rides pm_l_rides cd_l_rides ct_l_rides oc_l_stays kV_l_stays dc_l_stays pm_l_stays cd_l_stays ct_l_stays oc_law kV_law dc_law pm_law cd_law ct_law : Value} {tk_MOST_ZONES tk_WEEK : Tok}
  (aE_FareError : PySem.W.nsIn K mainGlobals "FareError" = some (some (.ref C_FareError)))
  (xE_FareError : PySem.W.excIn K C_FareError [.type "ValueError", .type "Exception", .type "BaseException", .type "object"] "ValueError.__new__" = true)
  (kE_FareError : PySem.W.keepIn K (.ref C_FareError) = true)
  (yE_FareError : PySem.W.subIn K (.ref C_FareError) (.type "BaseException") = some true)
  (tE_FareError : PySem.W.typeIn K (.ref C_FareError) = some (.type "type"))
  (aE_BadLink : PySem.W.nsIn K mainGlobals "BadLink" = some (some (.ref C_BadLink)))
  (xE_BadLink : PySem.W.excIn K C_BadLink [.type "ValueError", .type "Exception", .type "BaseException", .type "object"] "ValueError.__new__" = true)
  (kE_BadLink : PySem.W.keepIn K (.ref C_BadLink) = true)
  (yE_BadLink : PySem.W.subIn K (.ref C_BadLink) (.type "BaseException") = some true)
  (tE_BadLink : PySem.W.typeIn K (.ref C_BadLink) = some (.type "type"))
  (aE_BadStop : PySem.W.nsIn K mainGlobals "BadStop" = some (some (.ref C_BadStop)))
  (xE_BadStop : PySem.W.excIn K C_BadStop [.type "ValueError", .type "Exception", .type "BaseException", .type "object"] "ValueError.__new__" = true)
  (kE_BadStop : PySem.W.keepIn K (.ref C_BadStop) = true)
  (yE_BadStop : PySem.W.subIn K (.ref C_BadStop) (.type "BaseException") = some true)
  (tE_BadStop : PySem.W.typeIn K (.ref C_BadStop) = some (.type "type"))
  (aE_NoWay : PySem.W.nsIn K mainGlobals "NoWay" = some (some (.ref C_NoWay)))
  (xE_NoWay : PySem.W.excIn K C_NoWay [.type "ValueError", .type "Exception", .type "BaseException", .type "object"] "ValueError.__new__" = true)
  (kE_NoWay : PySem.W.keepIn K (.ref C_NoWay) = true)
  (yE_NoWay : PySem.W.subIn K (.ref C_NoWay) (.type "BaseException") = some true)
  (tE_NoWay : PySem.W.typeIn K (.ref C_NoWay) = some (.type "type"))
  (aE_BadPrices : PySem.W.nsIn K mainGlobals "BadPrices" = some (some (.ref C_BadPrices)))
  (xE_BadPrices : PySem.W.excIn K C_BadPrices [.type "ValueError", .type "Exception", .type "BaseException", .type "object"] "ValueError.__new__" = true)
  (kE_BadPrices : PySem.W.keepIn K (.ref C_BadPrices) = true)
  (yE_BadPrices : PySem.W.subIn K (.ref C_BadPrices) (.type "BaseException") = some true)
  (tE_BadPrices : PySem.W.typeIn K (.ref C_BadPrices) = some (.type "type"))
  (aE_BadZones : PySem.W.nsIn K mainGlobals "BadZones" = some (some (.ref C_BadZones)))
  (xE_BadZones : PySem.W.excIn K C_BadZones [.type "ValueError", .type "Exception", .type "BaseException", .type "object"] "ValueError.__new__" = true)
  (kE_BadZones : PySem.W.keepIn K (.ref C_BadZones) = true)
  (yE_BadZones : PySem.W.subIn K (.ref C_BadZones) (.type "BaseException") = some true)
  (tE_BadZones : PySem.W.typeIn K (.ref C_BadZones) = some (.type "type"))
  (aE_PastDay : PySem.W.nsIn K mainGlobals "PastDay" = some (some (.ref C_PastDay)))
  (xE_PastDay : PySem.W.excIn K C_PastDay [.type "ValueError", .type "Exception", .type "BaseException", .type "object"] "ValueError.__new__" = true)
  (kE_PastDay : PySem.W.keepIn K (.ref C_PastDay) = true)
  (yE_PastDay : PySem.W.subIn K (.ref C_PastDay) (.type "BaseException") = some true)
  (tE_PastDay : PySem.W.typeIn K (.ref C_PastDay) = some (.type "type"))
  (hE_NoWay : PySem.W.hasDictIn K C_NoWay = true)
  (sb_NoWay_NoWay : PySem.W.subIn K (.ref C_NoWay) (.ref C_NoWay) = some true)
  (aC_Tariff : PySem.W.nsIn K mainGlobals "Tariff" = some (some (.ref C_Tariff)))
  (pC_Tariff : PySem.W.plainGet K C_Tariff Str.empty = true)
  (dC_Tariff : PySem.W.hasDictIn K C_Tariff = true)
  (oC_Tariff : PySem.W.plainOver K C_Tariff = true)
  (sC_Tariff : PySem.W.findIn K (.ref C_Tariff) "__setattr__" = some (some (.builtin "object.__setattr__")))
  (mC_Tariff : PySem.W.makesIn K C_Tariff = true)
  (kC_Tariff : PySem.W.keepIn K (.ref C_Tariff) = true)
  (aC_Ledger : PySem.W.nsIn K mainGlobals "Ledger" = some (some (.ref C_Ledger)))
  (pC_Ledger : PySem.W.plainGet K C_Ledger Str.empty = true)
  (dC_Ledger : PySem.W.hasDictIn K C_Ledger = true)
  (oC_Ledger : PySem.W.plainOver K C_Ledger = true)
  (sC_Ledger : PySem.W.findIn K (.ref C_Ledger) "__setattr__" = some (some (.builtin "object.__setattr__")))
  (mC_Ledger : PySem.W.makesIn K C_Ledger = true)
  (kC_Ledger : PySem.W.keepIn K (.ref C_Ledger) = true)
  (aC_Web : PySem.W.nsIn K mainGlobals "Web" = some (some (.ref C_Web)))
  (pC_Web : PySem.W.plainGet K C_Web Str.empty = true)
  (dC_Web : PySem.W.hasDictIn K C_Web = true)
  (oC_Web : PySem.W.plainOver K C_Web = true)
  (sC_Web : PySem.W.findIn K (.ref C_Web) "__setattr__" = some (some (.builtin "object.__setattr__")))
  (mC_Web : PySem.W.makesIn K C_Web = true)
  (kC_Web : PySem.W.keepIn K (.ref C_Web) = true)
  (n_Ledger_cards : PySem.W.findIn K (.ref C_Ledger) "cards" = some none)
  (n_Ledger_tariff : PySem.W.findIn K (.ref C_Ledger) "tariff" = some none)
  (n_Ledger_web : PySem.W.findIn K (.ref C_Ledger) "web" = some none)
  (n_Tariff_days : PySem.W.findIn K (.ref C_Tariff) "days" = some none)
  (n_Tariff_singles : PySem.W.findIn K (.ref C_Tariff) "singles" = some none)
  (n_Tariff_weeks : PySem.W.findIn K (.ref C_Tariff) "weeks" = some none)
  (n_Web_links : PySem.W.findIn K (.ref C_Web) "links" = some none)
  (n_Web_zones : PySem.W.findIn K (.ref C_Web) "zones" = some none)
  (a_need_zones : PySem.W.nsIn K mainGlobals "need_zones" = some (some (.ref f_need_zones)))
  (l_need_zones : K.lookup f_need_zones = some ⟨oc_need_zones, od_need_zones, .func (PySem.W.fnOf "need_zones" "need_zones" (defArgs s_need_zones) (defBody s_need_zones) (defScope s_need_zones) .none kV_need_zones dc_need_zones pm_need_zones an_need_zones cd_need_zones ct_need_zones), sl_need_zones⟩)
  (c_need_zones : PySem.W.codeIn K cd_need_zones "need_zones" = true)
  (k_need_zones : PySem.W.keepIn K (.ref f_need_zones) = true)
  (a_cheapest : PySem.W.nsIn K mainGlobals "cheapest" = some (some (.ref f_cheapest)))
  (l_cheapest : K.lookup f_cheapest = some ⟨oc_cheapest, od_cheapest, .func (PySem.W.fnOf "cheapest" "cheapest" (defArgs s_cheapest) (defBody s_cheapest) (defScope s_cheapest) .none kV_cheapest dc_cheapest pm_cheapest an_cheapest cd_cheapest ct_cheapest), sl_cheapest⟩)
  (c_cheapest : PySem.W.codeIn K cd_cheapest "cheapest" = true)
  (k_cheapest : PySem.W.keepIn K (.ref f_cheapest) = true)
  (a_Tariff_init : PySem.W.findIn K (.ref C_Tariff) "__init__" = some (some (.ref f_Tariff_init)))
  (i_Tariff_init : PySem.W.isFn K (.ref f_Tariff_init) = true)
  (l_Tariff_init : K.lookup f_Tariff_init = some ⟨oc_Tariff_init, od_Tariff_init, .func (PySem.W.fnOf "__init__" "Tariff.__init__" (defArgs s_Tariff_init) (defBody s_Tariff_init) (defScope s_Tariff_init) .none kV_Tariff_init dc_Tariff_init pm_Tariff_init an_Tariff_init cd_Tariff_init ct_Tariff_init), sl_Tariff_init⟩)
  (c_Tariff_init : PySem.W.codeIn K cd_Tariff_init "Tariff.__init__" = true)
  (k_Tariff_init : PySem.W.keepIn K (.ref f_Tariff_init) = true)
  (a_Tariff_single : PySem.W.findIn K (.ref C_Tariff) "single" = some (some (.ref f_Tariff_single)))
  (i_Tariff_single : PySem.W.isFn K (.ref f_Tariff_single) = true)
  (l_Tariff_single : K.lookup f_Tariff_single = some ⟨oc_Tariff_single, od_Tariff_single, .func (PySem.W.fnOf "single" "Tariff.single" (defArgs s_Tariff_single) (defBody s_Tariff_single) (defScope s_Tariff_single) .none kV_Tariff_single dc_Tariff_single pm_Tariff_single an_Tariff_single cd_Tariff_single ct_Tariff_single), sl_Tariff_single⟩)
  (c_Tariff_single : PySem.W.codeIn K cd_Tariff_single "Tariff.single" = true)
  (k_Tariff_single : PySem.W.keepIn K (.ref f_Tariff_single) = true)
  (a_Tariff_day : PySem.W.findIn K (.ref C_Tariff) "day" = some (some (.ref f_Tariff_day)))
  (i_Tariff_day : PySem.W.isFn K (.ref f_Tariff_day) = true)
  (l_Tariff_day : K.lookup f_Tariff_day = some ⟨oc_Tariff_day, od_Tariff_day, .func (PySem.W.fnOf "day" "Tariff.day" (defArgs s_Tariff_day) (defBody s_Tariff_day) (defScope s_Tariff_day) .none kV_Tariff_day dc_Tariff_day pm_Tariff_day an_Tariff_day cd_Tariff_day ct_Tariff_day), sl_Tariff_day⟩)
  (c_Tariff_day : PySem.W.codeIn K cd_Tariff_day "Tariff.day" = true)
  (k_Tariff_day : PySem.W.keepIn K (.ref f_Tariff_day) = true)
  (a_Tariff_week : PySem.W.findIn K (.ref C_Tariff) "week" = some (some (.ref f_Tariff_week)))
  (i_Tariff_week : PySem.W.isFn K (.ref f_Tariff_week) = true)
  (l_Tariff_week : K.lookup f_Tariff_week = some ⟨oc_Tariff_week, od_Tariff_week, .func (PySem.W.fnOf "week" "Tariff.week" (defArgs s_Tariff_week) (defBody s_Tariff_week) (defScope s_Tariff_week) .none kV_Tariff_week dc_Tariff_week pm_Tariff_week an_Tariff_week cd_Tariff_week ct_Tariff_week), sl_Tariff_week⟩)
  (c_Tariff_week : PySem.W.codeIn K cd_Tariff_week "Tariff.week" = true)
  (k_Tariff_week : PySem.W.keepIn K (.ref f_Tariff_week) = true)
  (a_cost_of : PySem.W.nsIn K mainGlobals "cost_of" = some (some (.ref f_cost_of)))
  (l_cost_of : K.lookup f_cost_of = some ⟨oc_cost_of, od_cost_of, .func (PySem.W.fnOf "cost_of" "cost_of" (defArgs s_cost_of) (defBody s_cost_of) (defScope s_cost_of) .none kV_cost_of dc_cost_of pm_cost_of an_cost_of cd_cost_of ct_cost_of), sl_cost_of⟩)
  (c_cost_of : PySem.W.codeIn K cd_cost_of "cost_of" = true)
  (k_cost_of : PySem.W.keepIn K (.ref f_cost_of) = true)
  (a_for_day : PySem.W.nsIn K mainGlobals "for_day" = some (some (.ref f_for_day)))
  (l_for_day : K.lookup f_for_day = some ⟨oc_for_day, od_for_day, .func (PySem.W.fnOf "for_day" "for_day" (defArgs s_for_day) (defBody s_for_day) (defScope s_for_day) .none kV_for_day dc_for_day pm_for_day an_for_day cd_for_day ct_for_day), sl_for_day⟩)
  (c_for_day : PySem.W.codeIn K cd_for_day "for_day" = true)
  (k_for_day : PySem.W.keepIn K (.ref f_for_day) = true)
  (a_for_week : PySem.W.nsIn K mainGlobals "for_week" = some (some (.ref f_for_week)))
  (l_for_week : K.lookup f_for_week = some ⟨oc_for_week, od_for_week, .func (PySem.W.fnOf "for_week" "for_week" (defArgs s_for_week) (defBody s_for_week) (defScope s_for_week) .none kV_for_week dc_for_week pm_for_week an_for_week cd_for_week ct_for_week), sl_for_week⟩)
  (c_for_week : PySem.W.codeIn K cd_for_week "for_week" = true)
  (k_for_week : PySem.W.keepIn K (.ref f_for_week) = true)
  (a_least : PySem.W.nsIn K mainGlobals "least" = some (some (.ref f_least)))
  (l_least : K.lookup f_least = some ⟨oc_least, od_least, .func (PySem.W.fnOf "least" "least" (defArgs s_least) (defBody s_least) (defScope s_least) .none kV_least dc_least pm_least an_least cd_least ct_least), sl_least⟩)
  (c_least : PySem.W.codeIn K cd_least "least" = true)
  (k_least : PySem.W.keepIn K (.ref f_least) = true)
  (a_Web_init : PySem.W.findIn K (.ref C_Web) "__init__" = some (some (.ref f_Web_init)))
  (i_Web_init : PySem.W.isFn K (.ref f_Web_init) = true)
  (l_Web_init : K.lookup f_Web_init = some ⟨oc_Web_init, od_Web_init, .func (PySem.W.fnOf "__init__" "Web.__init__" (defArgs s_Web_init) (defBody s_Web_init) (defScope s_Web_init) .none kV_Web_init dc_Web_init pm_Web_init an_Web_init cd_Web_init ct_Web_init), sl_Web_init⟩)
  (c_Web_init : PySem.W.codeIn K cd_Web_init "Web.__init__" = true)
  (k_Web_init : PySem.W.keepIn K (.ref f_Web_init) = true)
  (a_Web_need : PySem.W.findIn K (.ref C_Web) "need" = some (some (.ref f_Web_need)))
  (i_Web_need : PySem.W.isFn K (.ref f_Web_need) = true)
  (l_Web_need : K.lookup f_Web_need = some ⟨oc_Web_need, od_Web_need, .func (PySem.W.fnOf "need" "Web.need" (defArgs s_Web_need) (defBody s_Web_need) (defScope s_Web_need) .none kV_Web_need dc_Web_need pm_Web_need an_Web_need cd_Web_need ct_Web_need), sl_Web_need⟩)
  (c_Web_need : PySem.W.codeIn K cd_Web_need "Web.need" = true)
  (k_Web_need : PySem.W.keepIn K (.ref f_Web_need) = true)
  (a_Web_beside : PySem.W.findIn K (.ref C_Web) "beside" = some (some (.ref f_Web_beside)))
  (i_Web_beside : PySem.W.isFn K (.ref f_Web_beside) = true)
  (l_Web_beside : K.lookup f_Web_beside = some ⟨oc_Web_beside, od_Web_beside, .func (PySem.W.fnOf "beside" "Web.beside" (defArgs s_Web_beside) (defBody s_Web_beside) (defScope s_Web_beside) .none kV_Web_beside dc_Web_beside pm_Web_beside an_Web_beside cd_Web_beside ct_Web_beside), sl_Web_beside⟩)
  (c_Web_beside : PySem.W.codeIn K cd_Web_beside "Web.beside" = true)
  (k_Web_beside : PySem.W.keepIn K (.ref f_Web_beside) = true)
  (a_Web_spread : PySem.W.findIn K (.ref C_Web) "spread" = some (some (.ref f_Web_spread)))
  (i_Web_spread : PySem.W.isFn K (.ref f_Web_spread) = true)
  (l_Web_spread : K.lookup f_Web_spread = some ⟨oc_Web_spread, od_Web_spread, .func (PySem.W.fnOf "spread" "Web.spread" (defArgs s_Web_spread) (defBody s_Web_spread) (defScope s_Web_spread) .none kV_Web_spread dc_Web_spread pm_Web_spread an_Web_spread cd_Web_spread ct_Web_spread), sl_Web_spread⟩)
  (c_Web_spread : PySem.W.codeIn K cd_Web_spread "Web.spread" = true)
  (k_Web_spread : PySem.W.keepIn K (.ref f_Web_spread) = true)
  (a_Web_reached : PySem.W.findIn K (.ref C_Web) "reached" = some (some (.ref f_Web_reached)))
  (i_Web_reached : PySem.W.isFn K (.ref f_Web_reached) = true)
  (l_Web_reached : K.lookup f_Web_reached = some ⟨oc_Web_reached, od_Web_reached, .func (PySem.W.fnOf "reached" "Web.reached" (defArgs s_Web_reached) (defBody s_Web_reached) (defScope s_Web_reached) .none kV_Web_reached dc_Web_reached pm_Web_reached an_Web_reached cd_Web_reached ct_Web_reached), sl_Web_reached⟩)
  (c_Web_reached : PySem.W.codeIn K cd_Web_reached "Web.reached" = true)
  (k_Web_reached : PySem.W.keepIn K (.ref f_Web_reached) = true)
  (a_Web_levels : PySem.W.findIn K (.ref C_Web) "levels" = some (some (.ref f_Web_levels)))
  (i_Web_levels : PySem.W.isFn K (.ref f_Web_levels) = true)
  (l_Web_levels : K.lookup f_Web_levels = some ⟨oc_Web_levels, od_Web_levels, .func (PySem.W.fnOf "levels" "Web.levels" (defArgs s_Web_levels) (defBody s_Web_levels) (defScope s_Web_levels) .none kV_Web_levels dc_Web_levels pm_Web_levels an_Web_levels cd_Web_levels ct_Web_levels), sl_Web_levels⟩)
  (c_Web_levels : PySem.W.codeIn K cd_Web_levels "Web.levels" = true)
  (k_Web_levels : PySem.W.keepIn K (.ref f_Web_levels) = true)
  (a_Web_fewest : PySem.W.findIn K (.ref C_Web) "fewest" = some (some (.ref f_Web_fewest)))
  (i_Web_fewest : PySem.W.isFn K (.ref f_Web_fewest) = true)
  (l_Web_fewest : K.lookup f_Web_fewest = some ⟨oc_Web_fewest, od_Web_fewest, .func (PySem.W.fnOf "fewest" "Web.fewest" (defArgs s_Web_fewest) (defBody s_Web_fewest) (defScope s_Web_fewest) .none kV_Web_fewest dc_Web_fewest pm_Web_fewest an_Web_fewest cd_Web_fewest ct_Web_fewest), sl_Web_fewest⟩)
  (c_Web_fewest : PySem.W.codeIn K cd_Web_fewest "Web.fewest" = true)
  (k_Web_fewest : PySem.W.keepIn K (.ref f_Web_fewest) = true)
  (a_Web_way : PySem.W.findIn K (.ref C_Web) "way" = some (some (.ref f_Web_way)))
  (i_Web_way : PySem.W.isFn K (.ref f_Web_way) = true)
  (l_Web_way : K.lookup f_Web_way = some ⟨oc_Web_way, od_Web_way, .func (PySem.W.fnOf "way" "Web.way" (defArgs s_Web_way) (defBody s_Web_way) (defScope s_Web_way) .none kV_Web_way dc_Web_way pm_Web_way an_Web_way cd_Web_way ct_Web_way), sl_Web_way⟩)
  (c_Web_way : PySem.W.codeIn K cd_Web_way "Web.way" = true)
  (k_Web_way : PySem.W.keepIn K (.ref f_Web_way) = true)
  (a_Ledger_init : PySem.W.findIn K (.ref C_Ledger) "__init__" = some (some (.ref f_Ledger_init)))
  (i_Ledger_init : PySem.W.isFn K (.ref f_Ledger_init) = true)
  (l_Ledger_init : K.lookup f_Ledger_init = some ⟨oc_Ledger_init, od_Ledger_init, .func (PySem.W.fnOf "__init__" "Ledger.__init__" (defArgs s_Ledger_init) (defBody s_Ledger_init) (defScope s_Ledger_init) .none kV_Ledger_init dc_Ledger_init pm_Ledger_init an_Ledger_init cd_Ledger_init ct_Ledger_init), sl_Ledger_init⟩)
  (c_Ledger_init : PySem.W.codeIn K cd_Ledger_init "Ledger.__init__" = true)
  (k_Ledger_init : PySem.W.keepIn K (.ref f_Ledger_init) = true)
  (a_Ledger_rides : PySem.W.findIn K (.ref C_Ledger) "rides" = some (some (.ref f_Ledger_rides)))
  (i_Ledger_rides : PySem.W.isFn K (.ref f_Ledger_rides) = true)
  (l_Ledger_rides : K.lookup f_Ledger_rides = some ⟨oc_Ledger_rides, od_Ledger_rides, .func (PySem.W.fnOf "rides" "Ledger.rides" (defArgs s_Ledger_rides) (defBody s_Ledger_rides) (defScope s_Ledger_rides) .none kV_Ledger_rides dc_Ledger_rides pm_Ledger_rides an_Ledger_rides cd_Ledger_rides ct_Ledger_rides), sl_Ledger_rides⟩)
  (c_Ledger_rides : PySem.W.codeIn K cd_Ledger_rides "Ledger.rides" = true)
  (k_Ledger_rides : PySem.W.keepIn K (.ref f_Ledger_rides) = true)
  (a_Ledger_week_sum : PySem.W.findIn K (.ref C_Ledger) "week_sum" = some (some (.ref f_Ledger_week_sum)))
  (i_Ledger_week_sum : PySem.W.isFn K (.ref f_Ledger_week_sum) = true)
  (l_Ledger_week_sum : K.lookup f_Ledger_week_sum = some ⟨oc_Ledger_week_sum, od_Ledger_week_sum, .func (PySem.W.fnOf "week_sum" "Ledger.week_sum" (defArgs s_Ledger_week_sum) (defBody s_Ledger_week_sum) (defScope s_Ledger_week_sum) .none kV_Ledger_week_sum dc_Ledger_week_sum pm_Ledger_week_sum an_Ledger_week_sum cd_Ledger_week_sum ct_Ledger_week_sum), sl_Ledger_week_sum⟩)
  (c_Ledger_week_sum : PySem.W.codeIn K cd_Ledger_week_sum "Ledger.week_sum" = true)
  (k_Ledger_week_sum : PySem.W.keepIn K (.ref f_Ledger_week_sum) = true)
  (a_Ledger_in_week : PySem.W.findIn K (.ref C_Ledger) "in_week" = some (some (.ref f_Ledger_in_week)))
  (i_Ledger_in_week : PySem.W.isFn K (.ref f_Ledger_in_week) = true)
  (l_Ledger_in_week : K.lookup f_Ledger_in_week = some ⟨oc_Ledger_in_week, od_Ledger_in_week, .func (PySem.W.fnOf "in_week" "Ledger.in_week" (defArgs s_Ledger_in_week) (defBody s_Ledger_in_week) (defScope s_Ledger_in_week) .none kV_Ledger_in_week dc_Ledger_in_week pm_Ledger_in_week an_Ledger_in_week cd_Ledger_in_week ct_Ledger_in_week), sl_Ledger_in_week⟩)
  (c_Ledger_in_week : PySem.W.codeIn K cd_Ledger_in_week "Ledger.in_week" = true)
  (k_Ledger_in_week : PySem.W.keepIn K (.ref f_Ledger_in_week) = true)
  (a_Ledger_ride : PySem.W.findIn K (.ref C_Ledger) "ride" = some (some (.ref f_Ledger_ride)))
  (i_Ledger_ride : PySem.W.isFn K (.ref f_Ledger_ride) = true)
  (l_Ledger_ride : K.lookup f_Ledger_ride = some ⟨oc_Ledger_ride, od_Ledger_ride, .func (PySem.W.fnOf "ride" "Ledger.ride" (defArgs s_Ledger_ride) (defBody s_Ledger_ride) (defScope s_Ledger_ride) .none kV_Ledger_ride dc_Ledger_ride pm_Ledger_ride an_Ledger_ride cd_Ledger_ride ct_Ledger_ride), sl_Ledger_ride⟩)
  (c_Ledger_ride : PySem.W.codeIn K cd_Ledger_ride "Ledger.ride" = true)
  (k_Ledger_ride : PySem.W.keepIn K (.ref f_Ledger_ride) = true)
  (a_Ledger_tickets : PySem.W.findIn K (.ref C_Ledger) "tickets" = some (some (.ref f_Ledger_tickets)))
  (i_Ledger_tickets : PySem.W.isFn K (.ref f_Ledger_tickets) = true)
  (l_Ledger_tickets : K.lookup f_Ledger_tickets = some ⟨oc_Ledger_tickets, od_Ledger_tickets, .func (PySem.W.fnOf "tickets" "Ledger.tickets" (defArgs s_Ledger_tickets) (defBody s_Ledger_tickets) (defScope s_Ledger_tickets) .none kV_Ledger_tickets dc_Ledger_tickets pm_Ledger_tickets an_Ledger_tickets cd_Ledger_tickets ct_Ledger_tickets), sl_Ledger_tickets⟩)
  (c_Ledger_tickets : PySem.W.codeIn K cd_Ledger_tickets "Ledger.tickets" = true)
  (k_Ledger_tickets : PySem.W.keepIn K (.ref f_Ledger_tickets) = true)
  (a_l_cell_at : PySem.W.nsIn K mainGlobals "_law_cell_at" = some (some (.ref f_l_cell_at)))
  (l_l_cell_at : K.lookup f_l_cell_at = some ⟨oc_l_cell_at, od_l_cell_at, .func (PySem.W.fnOf "_law_cell_at" "_law_cell_at" (defArgs s_l_cell_at) (defBody s_l_cell_at) (defScope s_l_cell_at) .none kV_l_cell_at dc_l_cell_at pm_l_cell_at an_l_cell_at cd_l_cell_at ct_l_cell_at), sl_l_cell_at⟩)
  (c_l_cell_at : PySem.W.codeIn K cd_l_cell_at "_law_cell_at" = true)
  (k_l_cell_at : PySem.W.keepIn K (.ref f_l_cell_at) = true)
  (a_l_whole : PySem.W.nsIn K mainGlobals "_law_whole" = some (some (.ref f_l_whole)))
  (l_l_whole : K.lookup f_l_whole = some ⟨oc_l_whole, od_l_whole, .func (PySem.W.fnOf "_law_whole" "_law_whole" (defArgs s_l_whole) (defBody s_l_whole) (defScope s_l_whole) .none kV_l_whole dc_l_whole pm_l_whole an_l_whole cd_l_whole ct_l_whole), sl_l_whole⟩)
  (c_l_whole : PySem.W.codeIn K cd_l_whole "_law_whole" = true)
  (k_l_whole : PySem.W.keepIn K (.ref f_l_whole) = true)
  (a_l_rows : PySem.W.nsIn K mainGlobals "_law_rows" = some (some (.ref f_l_rows)))
  (l_l_rows : K.lookup f_l_rows = some ⟨oc_l_rows, od_l_rows, .func (PySem.W.fnOf "_law_rows" "_law_rows" (defArgs s_l_rows) (defBody s_l_rows) (defScope s_l_rows) .none kV_l_rows dc_l_rows pm_l_rows an_l_rows cd_l_rows ct_l_rows), sl_l_rows⟩)
  (c_l_rows : PySem.W.codeIn K cd_l_rows "_law_rows" = true)
  (k_l_rows : PySem.W.keepIn K (.ref f_l_rows) = true)
  (a_l_links_by : PySem.W.nsIn K mainGlobals "_law_links_by" = some (some (.ref f_l_links_by)))
  (l_l_links_by : K.lookup f_l_links_by = some ⟨oc_l_links_by, od_l_links_by, .func (PySem.W.fnOf "_law_links_by" "_law_links_by" (defArgs s_l_links_by) (defBody s_l_links_by) (defScope s_l_links_by) .none kV_l_links_by dc_l_links_by pm_l_links_by an_l_links_by cd_l_links_by ct_l_links_by), sl_l_links_by⟩)
  (c_l_links_by : PySem.W.codeIn K cd_l_links_by "_law_links_by" = true)
  (k_l_links_by : PySem.W.keepIn K (.ref f_l_links_by) = true)
  (a_l_zones_of : PySem.W.nsIn K mainGlobals "_law_zones_of" = some (some (.ref f_l_zones_of)))
  (l_l_zones_of : K.lookup f_l_zones_of = some ⟨oc_l_zones_of, od_l_zones_of, .func (PySem.W.fnOf "_law_zones_of" "_law_zones_of" (defArgs s_l_zones_of) (defBody s_l_zones_of) (defScope s_l_zones_of) .none kV_l_zones_of dc_l_zones_of pm_l_zones_of an_l_zones_of cd_l_zones_of ct_l_zones_of), sl_l_zones_of⟩)
  (c_l_zones_of : PySem.W.codeIn K cd_l_zones_of "_law_zones_of" = true)
  (k_l_zones_of : PySem.W.keepIn K (.ref f_l_zones_of) = true)
  (a_l_kept : PySem.W.nsIn K mainGlobals "_law_kept" = some (some (.ref f_l_kept)))
  (l_l_kept : K.lookup f_l_kept = some ⟨oc_l_kept, od_l_kept, .func (PySem.W.fnOf "_law_kept" "_law_kept" (defArgs s_l_kept) (defBody s_l_kept) (defScope s_l_kept) .none kV_l_kept dc_l_kept pm_l_kept an_l_kept cd_l_kept ct_l_kept), sl_l_kept⟩)
  (c_l_kept : PySem.W.codeIn K cd_l_kept "_law_kept" = true)
  (k_l_kept : PySem.W.keepIn K (.ref f_l_kept) = true)
  (a_l_ridden : PySem.W.nsIn K mainGlobals "_law_ridden" = some (some (.ref f_l_ridden)))
  (l_l_ridden : K.lookup f_l_ridden = some ⟨oc_l_ridden, od_l_ridden, .func (PySem.W.fnOf "_law_ridden" "_law_ridden" (defArgs s_l_ridden) (defBody s_l_ridden) (defScope s_l_ridden) .none kV_l_ridden dc_l_ridden pm_l_ridden an_l_ridden cd_l_ridden ct_l_ridden), sl_l_ridden⟩)
  (c_l_ridden : PySem.W.codeIn K cd_l_ridden "_law_ridden" = true)
  (k_l_ridden : PySem.W.keepIn K (.ref f_l_ridden) = true)
  (a_l_serves : PySem.W.nsIn K mainGlobals "_law_serves" = some (some (.ref f_l_serves)))
  (l_l_serves : K.lookup f_l_serves = some ⟨oc_l_serves, od_l_serves, .func (PySem.W.fnOf "_law_serves" "_law_serves" (defArgs s_l_serves) (defBody s_l_serves) (defScope s_l_serves) .none kV_l_serves dc_l_serves pm_l_serves an_l_serves cd_l_serves ct_l_serves), sl_l_serves⟩)
  (c_l_serves : PySem.W.codeIn K cd_l_serves "_law_serves" = true)
  (k_l_serves : PySem.W.keepIn K (.ref f_l_serves) = true)
  (a_l_cost : PySem.W.nsIn K mainGlobals "_law_cost" = some (some (.ref f_l_cost)))
  (l_l_cost : K.lookup f_l_cost = some ⟨oc_l_cost, od_l_cost, .func (PySem.W.fnOf "_law_cost" "_law_cost" (defArgs s_l_cost) (defBody s_l_cost) (defScope s_l_cost) .none kV_l_cost dc_l_cost pm_l_cost an_l_cost cd_l_cost ct_l_cost), sl_l_cost⟩)
  (c_l_cost : PySem.W.codeIn K cd_l_cost "_law_cost" = true)
  (k_l_cost : PySem.W.keepIn K (.ref f_l_cost) = true)
  (a_l_drawn : PySem.W.nsIn K mainGlobals "_law_drawn" = some (some (.ref f_l_drawn)))
  (l_l_drawn : K.lookup f_l_drawn = some ⟨oc_l_drawn, od_l_drawn, .func (PySem.W.fnOf "_law_drawn" "_law_drawn" (defArgs s_l_drawn) (defBody s_l_drawn) (defScope s_l_drawn) .none kV_l_drawn dc_l_drawn pm_l_drawn an_l_drawn cd_l_drawn ct_l_drawn), sl_l_drawn⟩)
  (c_l_drawn : PySem.W.codeIn K cd_l_drawn "_law_drawn" = true)
  (k_l_drawn : PySem.W.keepIn K (.ref f_l_drawn) = true)
  (a_l_weeks : PySem.W.nsIn K mainGlobals "_law_weeks" = some (some (.ref f_l_weeks)))
  (l_l_weeks : K.lookup f_l_weeks = some ⟨oc_l_weeks, od_l_weeks, .func (PySem.W.fnOf "_law_weeks" "_law_weeks" (defArgs s_l_weeks) (defBody s_l_weeks) (defScope s_l_weeks) .none kV_l_weeks dc_l_weeks pm_l_weeks an_l_weeks cd_l_weeks ct_l_weeks), sl_l_weeks⟩)
  (c_l_weeks : PySem.W.codeIn K cd_l_weeks "_law_weeks" = true)
  (k_l_weeks : PySem.W.keepIn K (.ref f_l_weeks) = true)
  (a_l_rides : PySem.W.nsIn K mainGlobals "_law_rides" = some (some (.ref f_l_rides)))
  (l_l_rides : K.lookup f_l_rides = some ⟨oc_l_rides, od_l_rides, .func (PySem.W.fnOf "_law_rides" "_law_rides" (defArgs s_l_rides) (defBody s_l_rides) (defScope s_l_rides) .none kV_l_rides dc_l_rides pm_l_rides an_l_rides cd_l_rides ct_l_rides), sl_l_rides⟩)
  (c_l_rides : PySem.W.codeIn K cd_l_rides "_law_rides" = true)
  (k_l_rides : PySem.W.keepIn K (.ref f_l_rides) = true)
  (a_l_stays : PySem.W.nsIn K mainGlobals "_law_stays" = some (some (.ref f_l_stays)))
  (l_l_stays : K.lookup f_l_stays = some ⟨oc_l_stays, od_l_stays, .func (PySem.W.fnOf "_law_stays" "_law_stays" (defArgs s_l_stays) (defBody s_l_stays) (defScope s_l_stays) .none kV_l_stays dc_l_stays pm_l_stays an_l_stays cd_l_stays ct_l_stays), sl_l_stays⟩)
  (c_l_stays : PySem.W.codeIn K cd_l_stays "_law_stays" = true)
  (k_l_stays : PySem.W.keepIn K (.ref f_l_stays) = true)
  (a_law : PySem.W.nsIn K mainGlobals "law" = some (some (.ref f_law)))
  (l_law : K.lookup f_law = some ⟨oc_law, od_law, .func (PySem.W.fnOf "law" "law" (defArgs s_law) (defBody s_law) (defScope s_law) .none kV_law dc_law pm_law an_law cd_law ct_law), sl_law⟩)
  (c_law : PySem.W.codeIn K cd_law "law" = true)
  (k_law : PySem.W.keepIn K (.ref f_law) = true)
  (z_abs : PySem.W.nsIn K mainGlobals "abs" = some none)
  (z_bool : PySem.W.nsIn K mainGlobals "bool" = some none)
  (z_enumerate : PySem.W.nsIn K mainGlobals "enumerate" = some none)
  (z_int : PySem.W.nsIn K mainGlobals "int" = some none)
  (z_isinstance : PySem.W.nsIn K mainGlobals "isinstance" = some none)
  (z_len : PySem.W.nsIn K mainGlobals "len" = some none)
  (z_list : PySem.W.nsIn K mainGlobals "list" = some none)
  (z_max : PySem.W.nsIn K mainGlobals "max" = some none)
  (z_min : PySem.W.nsIn K mainGlobals "min" = some none)
  (z_range : PySem.W.nsIn K mainGlobals "range" = some none)
  (z_reversed : PySem.W.nsIn K mainGlobals "reversed" = some none)
  (z_set : PySem.W.nsIn K mainGlobals "set" = some none)
  (z_sorted : PySem.W.nsIn K mainGlobals "sorted" = some none)
  (z_sum : PySem.W.nsIn K mainGlobals "sum" = some none)
  (z_tuple : PySem.W.nsIn K mainGlobals "tuple" = some none)
  (v_MOST_ZONES : PySem.W.nsIn K mainGlobals "MOST_ZONES" = some (some (.int 5 tk_MOST_ZONES)))
  (v_WEEK : PySem.W.nsIn K mainGlobals "WEEK" = some (some (.int 7 tk_WEEK))) :
  ∃ fd : FuncData, (∀ (s : Shared) (v : Value), BindsTo s fd ⟨[v], []⟩ [("_law_script", v)]) ∧ ∀ base : Heap, K.In base → base.Ns mainGlobals mg → FnOk l.prog w K mg base (L2.CX l.prog w) 8 fa fd ["_law_script"] (spLaw K) := by
  have e := hfa.symm.trans (PySem.W.mg_of X G a_law)
  cases e
  let A : Ad := { c_FareError := C_FareError, c_BadLink := C_BadLink, c_BadStop := C_BadStop, c_NoWay := C_NoWay, c_BadPrices := C_BadPrices, c_BadZones := C_BadZones, c_PastDay := C_PastDay, c_Tariff := C_Tariff, c_Web := C_Web, c_Ledger := C_Ledger }
  have F_need_zones := fun_mk (st := s_need_zones) l_need_zones c_need_zones k_need_zones
  have b_need_zones := F_need_zones.binds (ps := ["zones"]) fun _ _ _ _ _ _ us hl => match us, hl with | [_], _ => rfl
  have F_cheapest := fun_mk (st := s_cheapest) l_cheapest c_cheapest k_cheapest
  have b_cheapest := F_cheapest.binds (ps := ["row", "zones"]) fun _ _ _ _ _ _ us hl => match us, hl with | [_, _], _ => rfl
  have F_Tariff_init := fun_mk (st := s_Tariff_init) l_Tariff_init c_Tariff_init k_Tariff_init
  have b_Tariff_init := F_Tariff_init.binds (ps := ["self", "singles", "days", "weeks"]) fun _ _ _ _ _ _ us hl => match us, hl with | [_, _, _, _], _ => rfl
  have F_Tariff_single := fun_mk (st := s_Tariff_single) l_Tariff_single c_Tariff_single k_Tariff_single
  have b_Tariff_single := F_Tariff_single.binds (ps := ["self", "zones"]) fun _ _ _ _ _ _ us hl => match us, hl with | [_, _], _ => rfl
  have F_Tariff_day := fun_mk (st := s_Tariff_day) l_Tariff_day c_Tariff_day k_Tariff_day
  have b_Tariff_day := F_Tariff_day.binds (ps := ["self", "zones"]) fun _ _ _ _ _ _ us hl => match us, hl with | [_, _], _ => rfl
  have F_Tariff_week := fun_mk (st := s_Tariff_week) l_Tariff_week c_Tariff_week k_Tariff_week
  have b_Tariff_week := F_Tariff_week.binds (ps := ["self", "zones"]) fun _ _ _ _ _ _ us hl => match us, hl with | [_, _], _ => rfl
  have F_cost_of := fun_mk (st := s_cost_of) l_cost_of c_cost_of k_cost_of
  have b_cost_of := F_cost_of.binds (ps := ["tickets"]) fun _ _ _ _ _ _ us hl => match us, hl with | [_], _ => rfl
  have F_for_day := fun_mk (st := s_for_day) l_for_day c_for_day k_for_day
  have b_for_day := F_for_day.binds (ps := ["tariff", "day", "rides", "held"]) fun _ _ _ _ _ _ us hl => match us, hl with | [_, _, _, _], _ => rfl
  have F_for_week := fun_mk (st := s_for_week) l_for_week c_for_week k_for_week
  have b_for_week := F_for_week.binds (ps := ["tariff", "days", "held"]) fun _ _ _ _ _ _ us hl => match us, hl with | [_, _, _], _ => rfl
  have F_least := fun_mk (st := s_least) l_least c_least k_least
  have b_least := F_least.binds (ps := ["tariff", "days"]) fun _ _ _ _ _ _ us hl => match us, hl with | [_, _], _ => rfl
  have F_Web_init := fun_mk (st := s_Web_init) l_Web_init c_Web_init k_Web_init
  have b_Web_init := F_Web_init.binds (ps := ["self", "zones", "links"]) fun _ _ _ _ _ _ us hl => match us, hl with | [_, _, _], _ => rfl
  have F_Web_need := fun_mk (st := s_Web_need) l_Web_need c_Web_need k_Web_need
  have b_Web_need := F_Web_need.binds (ps := ["self", "stop"]) fun _ _ _ _ _ _ us hl => match us, hl with | [_, _], _ => rfl
  have F_Web_beside := fun_mk (st := s_Web_beside) l_Web_beside c_Web_beside k_Web_beside
  have b_Web_beside := F_Web_beside.binds (ps := ["self", "stop"]) fun _ _ _ _ _ _ us hl => match us, hl with | [_, _], _ => rfl
  have F_Web_spread := fun_mk (st := s_Web_spread) l_Web_spread c_Web_spread k_Web_spread
  have b_Web_spread := F_Web_spread.binds (ps := ["self", "found", "layer", "count"]) fun _ _ _ _ _ _ us hl => match us, hl with | [_, _, _, _], _ => rfl
  have F_Web_reached := fun_mk (st := s_Web_reached) l_Web_reached c_Web_reached k_Web_reached
  have b_Web_reached := F_Web_reached.binds (ps := ["self", "start"]) fun _ _ _ _ _ _ us hl => match us, hl with | [_, _], _ => rfl
  have F_Web_levels := fun_mk (st := s_Web_levels) l_Web_levels c_Web_levels k_Web_levels
  have b_Web_levels := F_Web_levels.binds (ps := ["self", "start"]) fun _ _ _ _ _ _ us hl => match us, hl with | [_, _], _ => rfl
  have F_Web_fewest := fun_mk (st := s_Web_fewest) l_Web_fewest c_Web_fewest k_Web_fewest
  have b_Web_fewest := F_Web_fewest.binds (ps := ["self", "start", "goal"]) fun _ _ _ _ _ _ us hl => match us, hl with | [_, _, _], _ => rfl
  have F_Web_way := fun_mk (st := s_Web_way) l_Web_way c_Web_way k_Web_way
  have b_Web_way := F_Web_way.binds (ps := ["self", "start", "goal"]) fun _ _ _ _ _ _ us hl => match us, hl with | [_, _, _], _ => rfl
  have F_Ledger_init := fun_mk (st := s_Ledger_init) l_Ledger_init c_Ledger_init k_Ledger_init
  have b_Ledger_init := F_Ledger_init.binds (ps := ["self", "web", "tariff"]) fun _ _ _ _ _ _ us hl => match us, hl with | [_, _, _], _ => rfl
  have F_Ledger_rides := fun_mk (st := s_Ledger_rides) l_Ledger_rides c_Ledger_rides k_Ledger_rides
  have b_Ledger_rides := F_Ledger_rides.binds (ps := ["self", "card"]) fun _ _ _ _ _ _ us hl => match us, hl with | [_, _], _ => rfl
  have F_Ledger_week_sum := fun_mk (st := s_Ledger_week_sum) l_Ledger_week_sum c_Ledger_week_sum k_Ledger_week_sum
  have b_Ledger_week_sum := F_Ledger_week_sum.binds (ps := ["self", "card", "week"]) fun _ _ _ _ _ _ us hl => match us, hl with | [_, _, _], _ => rfl
  have F_Ledger_in_week := fun_mk (st := s_Ledger_in_week) l_Ledger_in_week c_Ledger_in_week k_Ledger_in_week
  have b_Ledger_in_week := F_Ledger_in_week.binds (ps := ["self", "card", "week"]) fun _ _ _ _ _ _ us hl => match us, hl with | [_, _, _], _ => rfl
  have F_Ledger_ride := fun_mk (st := s_Ledger_ride) l_Ledger_ride c_Ledger_ride k_Ledger_ride
  have b_Ledger_ride := F_Ledger_ride.binds (ps := ["self", "card", "day", "start", "goal"]) fun _ _ _ _ _ _ us hl => match us, hl with | [_, _, _, _, _], _ => rfl
  have F_Ledger_tickets := fun_mk (st := s_Ledger_tickets) l_Ledger_tickets c_Ledger_tickets k_Ledger_tickets
  have b_Ledger_tickets := F_Ledger_tickets.binds (ps := ["self", "card", "week"]) fun _ _ _ _ _ _ us hl => match us, hl with | [_, _, _], _ => rfl
  have F_l_cell_at := fun_mk (st := s_l_cell_at) l_l_cell_at c_l_cell_at k_l_cell_at
  have b_l_cell_at := F_l_cell_at.binds (ps := ["_law_script", "_law_k"]) fun _ _ _ _ _ _ us hl => match us, hl with | [_, _], _ => rfl
  have F_l_whole := fun_mk (st := s_l_whole) l_l_whole c_l_whole k_l_whole
  have b_l_whole := F_l_whole.binds (ps := ["_law_found"]) fun _ _ _ _ _ _ us hl => match us, hl with | [_], _ => rfl
  have F_l_rows := fun_mk (st := s_l_rows) l_l_rows c_l_rows k_l_rows
  have b_l_rows := F_l_rows.binds (ps := ["_law_script"]) fun _ _ _ _ _ _ us hl => match us, hl with | [_], _ => rfl
  have F_l_links_by := fun_mk (st := s_l_links_by) l_l_links_by c_l_links_by k_l_links_by
  have b_l_links_by := F_l_links_by.binds (ps := ["_law_script", "_law_many", "_law_size"]) fun _ _ _ _ _ _ us hl => match us, hl with | [_, _, _], _ => rfl
  have F_l_zones_of := fun_mk (st := s_l_zones_of) l_l_zones_of c_l_zones_of k_l_zones_of
  have b_l_zones_of := F_l_zones_of.binds (ps := ["_law_row", "_law_zones", "_law_links", "_law_start", "_law_goal"]) fun _ _ _ _ _ _ us hl => match us, hl with | [_, _, _, _, _], _ => rfl
  have F_l_kept := fun_mk (st := s_l_kept) l_l_kept c_l_kept k_l_kept
  have b_l_kept := F_l_kept.binds (ps := ["_law_found", "_law_zones", "_law_links", "_law_start"]) fun _ _ _ _ _ _ us hl => match us, hl with | [_, _, _, _], _ => rfl
  have F_l_ridden := fun_mk (st := s_l_ridden) l_l_ridden c_l_ridden k_l_ridden
  have b_l_ridden := F_l_ridden.binds (ps := ["_law_ledger", "_law_card", "_law_day", "_law_start", "_law_goal"]) fun _ _ _ _ _ _ us hl => match us, hl with | [_, _, _, _, _], _ => rfl
  have F_l_serves := fun_mk (st := s_l_serves) l_l_serves c_l_serves k_l_serves
  have b_l_serves := F_l_serves.binds (ps := ["_law_ticket", "_law_day", "_law_ride", "_law_zones"]) fun _ _ _ _ _ _ us hl => match us, hl with | [_, _, _, _], _ => rfl
  have F_l_cost := fun_mk (st := s_l_cost) l_l_cost c_l_cost k_l_cost
  have b_l_cost := F_l_cost.binds (ps := ["_law_tickets", "_law_days", "_law_rows_here"]) fun _ _ _ _ _ _ us hl => match us, hl with | [_, _, _], _ => rfl
  have F_l_drawn := fun_mk (st := s_l_drawn) l_l_drawn c_l_drawn k_l_drawn
  have b_l_drawn := F_l_drawn.binds (ps := ["_law_number", "_law_rows_here", "_law_days"]) fun _ _ _ _ _ _ us hl => match us, hl with | [_, _, _], _ => rfl
  have F_l_weeks := fun_mk (st := s_l_weeks) l_l_weeks c_l_weeks k_l_weeks
  have b_l_weeks := F_l_weeks.binds (ps := ["_law_ledger", "_law_card", "_law_told", "_law_rows_here", "_law_number"]) fun _ _ _ _ _ _ us hl => match us, hl with | [_, _, _, _, _], _ => rfl
  have F_l_rides := fun_mk (st := s_l_rides) l_l_rides c_l_rides k_l_rides
  have b_l_rides := F_l_rides.binds (ps := ["_law_script", "_law_many", "_law_size"]) fun _ _ _ _ _ _ us hl => match us, hl with | [_, _, _], _ => rfl
  have F_l_stays := fun_mk (st := s_l_stays) l_l_stays c_l_stays k_l_stays
  have b_l_stays := F_l_stays.binds (ps := ["_law_ledger"]) fun _ _ _ _ _ _ us hl => match us, hl with | [_], _ => rfl
  have F_law := fun_mk (st := s_law) l_law c_law k_law
  have b_law := F_law.binds (ps := ["_law_script"]) fun _ _ _ _ _ _ us hl => match us, hl with | [_], _ => rfl
  let T : Txt K mg A := {
    a_need_zones := f_need_zones, d_need_zones := _, F_need_zones := F_need_zones, b_need_zones := b_need_zones,
    g_need_zones := PySem.W.mg_of X G a_need_zones, k_need_zones := k_need_zones,
    a_cheapest := f_cheapest, d_cheapest := _, F_cheapest := F_cheapest, b_cheapest := b_cheapest,
    g_cheapest := PySem.W.mg_of X G a_cheapest, k_cheapest := k_cheapest,
    a_Tariff_init := f_Tariff_init, d_Tariff_init := _, F_Tariff_init := F_Tariff_init, b_Tariff_init := b_Tariff_init,
    M_Tariff := ⟨mC_Tariff, a_Tariff_init, i_Tariff_init, kC_Tariff⟩,
    a_Tariff_single := f_Tariff_single, d_Tariff_single := _, F_Tariff_single := F_Tariff_single, b_Tariff_single := b_Tariff_single,
    h_Tariff_single := ⟨a_Tariff_single, i_Tariff_single, k_Tariff_single⟩,
    a_Tariff_day := f_Tariff_day, d_Tariff_day := _, F_Tariff_day := F_Tariff_day, b_Tariff_day := b_Tariff_day,
    h_Tariff_day := ⟨a_Tariff_day, i_Tariff_day, k_Tariff_day⟩,
    a_Tariff_week := f_Tariff_week, d_Tariff_week := _, F_Tariff_week := F_Tariff_week, b_Tariff_week := b_Tariff_week,
    h_Tariff_week := ⟨a_Tariff_week, i_Tariff_week, k_Tariff_week⟩,
    a_cost_of := f_cost_of, d_cost_of := _, F_cost_of := F_cost_of, b_cost_of := b_cost_of,
    g_cost_of := PySem.W.mg_of X G a_cost_of, k_cost_of := k_cost_of,
    a_for_day := f_for_day, d_for_day := _, F_for_day := F_for_day, b_for_day := b_for_day,
    g_for_day := PySem.W.mg_of X G a_for_day, k_for_day := k_for_day,
    a_for_week := f_for_week, d_for_week := _, F_for_week := F_for_week, b_for_week := b_for_week,
    g_for_week := PySem.W.mg_of X G a_for_week, k_for_week := k_for_week,
    a_least := f_least, d_least := _, F_least := F_least, b_least := b_least,
    g_least := PySem.W.mg_of X G a_least, k_least := k_least,
    a_Web_init := f_Web_init, d_Web_init := _, F_Web_init := F_Web_init, b_Web_init := b_Web_init,
    M_Web := ⟨mC_Web, a_Web_init, i_Web_init, kC_Web⟩,
    a_Web_need := f_Web_need, d_Web_need := _, F_Web_need := F_Web_need, b_Web_need := b_Web_need,
    h_Web_need := ⟨a_Web_need, i_Web_need, k_Web_need⟩,
    a_Web_beside := f_Web_beside, d_Web_beside := _, F_Web_beside := F_Web_beside, b_Web_beside := b_Web_beside,
    h_Web_beside := ⟨a_Web_beside, i_Web_beside, k_Web_beside⟩,
    a_Web_spread := f_Web_spread, d_Web_spread := _, F_Web_spread := F_Web_spread, b_Web_spread := b_Web_spread,
    h_Web_spread := ⟨a_Web_spread, i_Web_spread, k_Web_spread⟩,
    a_Web_reached := f_Web_reached, d_Web_reached := _, F_Web_reached := F_Web_reached, b_Web_reached := b_Web_reached,
    h_Web_reached := ⟨a_Web_reached, i_Web_reached, k_Web_reached⟩,
    a_Web_levels := f_Web_levels, d_Web_levels := _, F_Web_levels := F_Web_levels, b_Web_levels := b_Web_levels,
    h_Web_levels := ⟨a_Web_levels, i_Web_levels, k_Web_levels⟩,
    a_Web_fewest := f_Web_fewest, d_Web_fewest := _, F_Web_fewest := F_Web_fewest, b_Web_fewest := b_Web_fewest,
    h_Web_fewest := ⟨a_Web_fewest, i_Web_fewest, k_Web_fewest⟩,
    a_Web_way := f_Web_way, d_Web_way := _, F_Web_way := F_Web_way, b_Web_way := b_Web_way,
    h_Web_way := ⟨a_Web_way, i_Web_way, k_Web_way⟩,
    a_Ledger_init := f_Ledger_init, d_Ledger_init := _, F_Ledger_init := F_Ledger_init, b_Ledger_init := b_Ledger_init,
    M_Ledger := ⟨mC_Ledger, a_Ledger_init, i_Ledger_init, kC_Ledger⟩,
    a_Ledger_rides := f_Ledger_rides, d_Ledger_rides := _, F_Ledger_rides := F_Ledger_rides, b_Ledger_rides := b_Ledger_rides,
    h_Ledger_rides := ⟨a_Ledger_rides, i_Ledger_rides, k_Ledger_rides⟩,
    a_Ledger_week_sum := f_Ledger_week_sum, d_Ledger_week_sum := _, F_Ledger_week_sum := F_Ledger_week_sum, b_Ledger_week_sum := b_Ledger_week_sum,
    h_Ledger_week_sum := ⟨a_Ledger_week_sum, i_Ledger_week_sum, k_Ledger_week_sum⟩,
    a_Ledger_in_week := f_Ledger_in_week, d_Ledger_in_week := _, F_Ledger_in_week := F_Ledger_in_week, b_Ledger_in_week := b_Ledger_in_week,
    h_Ledger_in_week := ⟨a_Ledger_in_week, i_Ledger_in_week, k_Ledger_in_week⟩,
    a_Ledger_ride := f_Ledger_ride, d_Ledger_ride := _, F_Ledger_ride := F_Ledger_ride, b_Ledger_ride := b_Ledger_ride,
    h_Ledger_ride := ⟨a_Ledger_ride, i_Ledger_ride, k_Ledger_ride⟩,
    a_Ledger_tickets := f_Ledger_tickets, d_Ledger_tickets := _, F_Ledger_tickets := F_Ledger_tickets, b_Ledger_tickets := b_Ledger_tickets,
    h_Ledger_tickets := ⟨a_Ledger_tickets, i_Ledger_tickets, k_Ledger_tickets⟩,
    a_l_cell_at := f_l_cell_at, d_l_cell_at := _, F_l_cell_at := F_l_cell_at, b_l_cell_at := b_l_cell_at,
    g_l_cell_at := PySem.W.mg_of X G a_l_cell_at, k_l_cell_at := k_l_cell_at,
    a_l_whole := f_l_whole, d_l_whole := _, F_l_whole := F_l_whole, b_l_whole := b_l_whole,
    g_l_whole := PySem.W.mg_of X G a_l_whole, k_l_whole := k_l_whole,
    a_l_rows := f_l_rows, d_l_rows := _, F_l_rows := F_l_rows, b_l_rows := b_l_rows,
    g_l_rows := PySem.W.mg_of X G a_l_rows, k_l_rows := k_l_rows,
    a_l_links_by := f_l_links_by, d_l_links_by := _, F_l_links_by := F_l_links_by, b_l_links_by := b_l_links_by,
    g_l_links_by := PySem.W.mg_of X G a_l_links_by, k_l_links_by := k_l_links_by,
    a_l_zones_of := f_l_zones_of, d_l_zones_of := _, F_l_zones_of := F_l_zones_of, b_l_zones_of := b_l_zones_of,
    g_l_zones_of := PySem.W.mg_of X G a_l_zones_of, k_l_zones_of := k_l_zones_of,
    a_l_kept := f_l_kept, d_l_kept := _, F_l_kept := F_l_kept, b_l_kept := b_l_kept,
    g_l_kept := PySem.W.mg_of X G a_l_kept, k_l_kept := k_l_kept,
    a_l_ridden := f_l_ridden, d_l_ridden := _, F_l_ridden := F_l_ridden, b_l_ridden := b_l_ridden,
    g_l_ridden := PySem.W.mg_of X G a_l_ridden, k_l_ridden := k_l_ridden,
    a_l_serves := f_l_serves, d_l_serves := _, F_l_serves := F_l_serves, b_l_serves := b_l_serves,
    g_l_serves := PySem.W.mg_of X G a_l_serves, k_l_serves := k_l_serves,
    a_l_cost := f_l_cost, d_l_cost := _, F_l_cost := F_l_cost, b_l_cost := b_l_cost,
    g_l_cost := PySem.W.mg_of X G a_l_cost, k_l_cost := k_l_cost,
    a_l_drawn := f_l_drawn, d_l_drawn := _, F_l_drawn := F_l_drawn, b_l_drawn := b_l_drawn,
    g_l_drawn := PySem.W.mg_of X G a_l_drawn, k_l_drawn := k_l_drawn,
    a_l_weeks := f_l_weeks, d_l_weeks := _, F_l_weeks := F_l_weeks, b_l_weeks := b_l_weeks,
    g_l_weeks := PySem.W.mg_of X G a_l_weeks, k_l_weeks := k_l_weeks,
    a_l_rides := f_l_rides, d_l_rides := _, F_l_rides := F_l_rides, b_l_rides := b_l_rides,
    g_l_rides := PySem.W.mg_of X G a_l_rides, k_l_rides := k_l_rides,
    a_l_stays := f_l_stays, d_l_stays := _, F_l_stays := F_l_stays, b_l_stays := b_l_stays,
    g_l_stays := PySem.W.mg_of X G a_l_stays, k_l_stays := k_l_stays,
    a_law := fa, d_law := _, F_law := F_law, b_law := b_law,
    g_law := PySem.W.mg_of X G a_law, k_law := k_law,
    L_Tariff := ⟨pC_Tariff, dC_Tariff, oC_Tariff, sC_Tariff⟩, g_Tariff := PySem.W.mg_of X G aC_Tariff,
    L_Ledger := ⟨pC_Ledger, dC_Ledger, oC_Ledger, sC_Ledger⟩, g_Ledger := PySem.W.mg_of X G aC_Ledger,
    L_Web := ⟨pC_Web, dC_Web, oC_Web, sC_Web⟩, g_Web := PySem.W.mg_of X G aC_Web,
    n_Ledger_cards := n_Ledger_cards,
    n_Ledger_tariff := n_Ledger_tariff,
    n_Ledger_web := n_Ledger_web,
    n_Tariff_days := n_Tariff_days,
    n_Tariff_singles := n_Tariff_singles,
    n_Tariff_weeks := n_Tariff_weeks,
    n_Web_links := n_Web_links,
    n_Web_zones := n_Web_zones,
    z_abs := PySem.W.mg_none_of X G z_abs,
    z_bool := PySem.W.mg_none_of X G z_bool,
    z_enumerate := PySem.W.mg_none_of X G z_enumerate,
    z_int := PySem.W.mg_none_of X G z_int,
    z_isinstance := PySem.W.mg_none_of X G z_isinstance,
    z_len := PySem.W.mg_none_of X G z_len,
    z_list := PySem.W.mg_none_of X G z_list,
    z_max := PySem.W.mg_none_of X G z_max,
    z_min := PySem.W.mg_none_of X G z_min,
    z_range := PySem.W.mg_none_of X G z_range,
    z_reversed := PySem.W.mg_none_of X G z_reversed,
    z_set := PySem.W.mg_none_of X G z_set,
    z_sorted := PySem.W.mg_none_of X G z_sorted,
    z_sum := PySem.W.mg_none_of X G z_sum,
    z_tuple := PySem.W.mg_none_of X G z_tuple,
    c_MOST_ZONES := ⟨_, PySem.W.mg_of X G v_MOST_ZONES⟩,
    c_WEEK := ⟨_, PySem.W.mg_of X G v_WEEK⟩,
    g_FareError := PySem.W.mg_of X G aE_FareError, x_FareError := xE_FareError, k_FareError := kE_FareError, y_FareError := yE_FareError, t_FareError := tE_FareError,
    g_BadLink := PySem.W.mg_of X G aE_BadLink, x_BadLink := xE_BadLink, k_BadLink := kE_BadLink, y_BadLink := yE_BadLink, t_BadLink := tE_BadLink,
    g_BadStop := PySem.W.mg_of X G aE_BadStop, x_BadStop := xE_BadStop, k_BadStop := kE_BadStop, y_BadStop := yE_BadStop, t_BadStop := tE_BadStop,
    g_NoWay := PySem.W.mg_of X G aE_NoWay, x_NoWay := xE_NoWay, k_NoWay := kE_NoWay, y_NoWay := yE_NoWay, t_NoWay := tE_NoWay,
    g_BadPrices := PySem.W.mg_of X G aE_BadPrices, x_BadPrices := xE_BadPrices, k_BadPrices := kE_BadPrices, y_BadPrices := yE_BadPrices, t_BadPrices := tE_BadPrices,
    g_BadZones := PySem.W.mg_of X G aE_BadZones, x_BadZones := xE_BadZones, k_BadZones := kE_BadZones, y_BadZones := yE_BadZones, t_BadZones := tE_BadZones,
    g_PastDay := PySem.W.mg_of X G aE_PastDay, x_PastDay := xE_PastDay, k_PastDay := kE_PastDay, y_PastDay := yE_PastDay, t_PastDay := tE_PastDay,
    e1_NoWay := PySem.W.exm_ref yE_NoWay hE_NoWay tE_NoWay sb_NoWay_NoWay }
  exact ⟨PySem.W.fnOf "law" "law" (defArgs s_law) (defBody s_law) (defScope s_law) .none kV_law dc_law pm_law an_law cd_law ct_law, fun s v => .of_eq rfl, fun base _ _ => ok_law (A := A) (P := l.prog) (w := w) (base := base) T⟩
theorem walk {l : PySem.W.OpenLaw} {q : Program} {loose : List Str} {XP : (Str → Option Value) → Heap → Prop} {YP : World → Heap → Prop} {d : DefRec} {K : Params → PySem.W.Frag} (hn : l.most = some 63) (hdf : d.params.defaults = [])
    (hY : ∀ (w : World) (h : Heap), YP w h → (K w.params).In h)
    (F : ∀ (w : World) (mg : Str → Option Value) (fa : Addr) (h : Heap), (K w.params).In h → h.Ns mainGlobals mg → mg d.name = some (.ref fa) →
      ∃ fd : FuncData, (∀ (s : Shared) (u : Value), BindsTo s fd ⟨[u], []⟩ [("_law_script", u)]) ∧ ∀ base : Heap, (K w.params).In base → base.Ns mainGlobals mg → FnOk l.prog w (K w.params) mg base (L2.CX l.prog w) 8 fa fd ["_law_script"] (spLaw (K w.params))) :
    PySem.W.WalkO q loose XP YP l.row.toRowW d [] (fun f vs => PySem.call f vs) :=
  L2.walk_of (n := 63) (k := 8) (x := "_law_script") (CX := fun w => L2.CX l.prog w) (sp := fun w => spLaw (K w.params)) hn (by decide) hdf ⟨rfl, by decide, by decide⟩ hY F (fun _ _ a ns hl _ hS => ⟨a, ns, rfl, hS, hl, fun _ => rfl⟩) fun _ _ _ _ _ z => cx_none z
end FW
open PySem PySem.W PyProof.Rows
set_option maxRecDepth 100000 in
set_option maxHeartbeats 0 in
theorem PySem.Challenge.cw_fareweb_k10_whole_cards_pay_the_least_holds : PySem.Challenge.rw_fareweb_k10_whole_cards_pay_the_least.Holds := by
  w_on; o_law; k_head; (case hw => w_witness2)
  k_fill
  refine FW.walk (l := PySem.Challenge.rw_fareweb_k10_whole_cards_pay_the_least) rfl rfl (fun w h Y => PySem.W.kIn_of Y) ?F
  case F =>
    intro w mg fa h KX G hmg
    refine' FW.all_mk KX G hmg ?aE_FareError ?xE_FareError ?kE_FareError ?yE_FareError ?tE_FareError ?aE_BadLink ?xE_BadLink ?kE_BadLink ?yE_BadLink ?tE_BadLink ?aE_BadStop ?xE_BadStop ?kE_BadStop ?yE_BadStop ?tE_BadStop ?aE_NoWay ?xE_NoWay ?kE_NoWay ?yE_NoWay ?tE_NoWay ?aE_BadPrices ?xE_BadPrices ?kE_BadPrices ?yE_BadPrices ?tE_BadPrices ?aE_BadZones ?xE_BadZones ?kE_BadZones ?yE_BadZones ?tE_BadZones ?aE_PastDay ?xE_PastDay ?kE_PastDay ?yE_PastDay ?tE_PastDay ?hE_NoWay ?sb_NoWay_NoWay ?aC_Tariff ?pC_Tariff ?dC_Tariff ?oC_Tariff ?sC_Tariff ?mC_Tariff ?kC_Tariff ?aC_Ledger ?pC_Ledger ?dC_Ledger ?oC_Ledger ?sC_Ledger ?mC_Ledger ?kC_Ledger ?aC_Web ?pC_Web ?dC_Web ?oC_Web ?sC_Web ?mC_Web ?kC_Web ?n_Ledger_cards ?n_Ledger_tariff ?n_Ledger_web ?n_Tariff_days ?n_Tariff_singles ?n_Tariff_weeks ?n_Web_links ?n_Web_zones ?a_need_zones ?l_need_zones ?c_need_zones ?k_need_zones ?a_cheapest ?l_cheapest ?c_cheapest ?k_cheapest ?a_Tariff_init ?i_Tariff_init ?l_Tariff_init ?c_Tariff_init ?k_Tariff_init ?a_Tariff_single ?i_Tariff_single ?l_Tariff_single ?c_Tariff_single ?k_Tariff_single ?a_Tariff_day ?i_Tariff_day ?l_Tariff_day ?c_Tariff_day ?k_Tariff_day ?a_Tariff_week ?i_Tariff_week ?l_Tariff_week ?c_Tariff_week ?k_Tariff_week ?a_cost_of ?l_cost_of ?c_cost_of ?k_cost_of ?a_for_day ?l_for_day ?c_for_day ?k_for_day ?a_for_week ?l_for_week ?c_for_week ?k_for_week ?a_least ?l_least ?c_least ?k_least ?a_Web_init ?i_Web_init ?l_Web_init ?c_Web_init ?k_Web_init ?a_Web_need ?i_Web_need ?l_Web_need ?c_Web_need ?k_Web_need ?a_Web_beside ?i_Web_beside ?l_Web_beside ?c_Web_beside ?k_Web_beside ?a_Web_spread ?i_Web_spread ?l_Web_spread ?c_Web_spread ?k_Web_spread ?a_Web_reached ?i_Web_reached ?l_Web_reached ?c_Web_reached ?k_Web_reached ?a_Web_levels ?i_Web_levels ?l_Web_levels ?c_Web_levels ?k_Web_levels ?a_Web_fewest ?i_Web_fewest ?l_Web_fewest ?c_Web_fewest ?k_Web_fewest ?a_Web_way ?i_Web_way ?l_Web_way ?c_Web_way ?k_Web_way ?a_Ledger_init ?i_Ledger_init ?l_Ledger_init ?c_Ledger_init ?k_Ledger_init ?a_Ledger_rides ?i_Ledger_rides ?l_Ledger_rides ?c_Ledger_rides ?k_Ledger_rides ?a_Ledger_week_sum ?i_Ledger_week_sum ?l_Ledger_week_sum ?c_Ledger_week_sum ?k_Ledger_week_sum ?a_Ledger_in_week ?i_Ledger_in_week ?l_Ledger_in_week ?c_Ledger_in_week ?k_Ledger_in_week ?a_Ledger_ride ?i_Ledger_ride ?l_Ledger_ride ?c_Ledger_ride ?k_Ledger_ride ?a_Ledger_tickets ?i_Ledger_tickets ?l_Ledger_tickets ?c_Ledger_tickets ?k_Ledger_tickets ?a_l_cell_at ?l_l_cell_at ?c_l_cell_at ?k_l_cell_at ?a_l_whole ?l_l_whole ?c_l_whole ?k_l_whole ?a_l_rows ?l_l_rows ?c_l_rows ?k_l_rows ?a_l_links_by ?l_l_links_by ?c_l_links_by ?k_l_links_by ?a_l_zones_of ?l_l_zones_of ?c_l_zones_of ?k_l_zones_of ?a_l_kept ?l_l_kept ?c_l_kept ?k_l_kept ?a_l_ridden ?l_l_ridden ?c_l_ridden ?k_l_ridden ?a_l_serves ?l_l_serves ?c_l_serves ?k_l_serves ?a_l_cost ?l_l_cost ?c_l_cost ?k_l_cost ?a_l_drawn ?l_l_drawn ?c_l_drawn ?k_l_drawn ?a_l_weeks ?l_l_weeks ?c_l_weeks ?k_l_weeks ?a_l_rides ?l_l_rides ?c_l_rides ?k_l_rides ?a_l_stays ?l_l_stays ?c_l_stays ?k_l_stays ?a_law ?l_law ?c_law ?k_law ?z_abs ?z_bool ?z_enumerate ?z_int ?z_isinstance ?z_len ?z_list ?z_max ?z_min ?z_range ?z_reversed ?z_set ?z_sorted ?z_sum ?z_tuple ?v_MOST_ZONES ?v_WEEK
    (case aE_FareError => k_is)
    (case xE_FareError => k_exc)
    (case kE_FareError => k_is)
    (case yE_FareError => k_is)
    (case tE_FareError => k_is)
    (case aE_BadLink => k_is)
    (case xE_BadLink => k_exc)
    (case kE_BadLink => k_is)
    (case yE_BadLink => k_is)
    (case tE_BadLink => k_is)
    (case aE_BadStop => k_is)
    (case xE_BadStop => k_exc)
    (case kE_BadStop => k_is)
    (case yE_BadStop => k_is)
    (case tE_BadStop => k_is)
    (case aE_NoWay => k_is)
    (case xE_NoWay => k_exc)
    (case kE_NoWay => k_is)
    (case yE_NoWay => k_is)
    (case tE_NoWay => k_is)
    (case aE_BadPrices => k_is)
    (case xE_BadPrices => k_exc)
    (case kE_BadPrices => k_is)
    (case yE_BadPrices => k_is)
    (case tE_BadPrices => k_is)
    (case aE_BadZones => k_is)
    (case xE_BadZones => k_exc)
    (case kE_BadZones => k_is)
    (case yE_BadZones => k_is)
    (case tE_BadZones => k_is)
    (case aE_PastDay => k_is)
    (case xE_PastDay => k_exc)
    (case kE_PastDay => k_is)
    (case yE_PastDay => k_is)
    (case tE_PastDay => k_is)
    (case hE_NoWay => k_is)
    (case sb_NoWay_NoWay => k_is)
    (case aC_Tariff => k_is)
    (case pC_Tariff => k_is)
    (case dC_Tariff => k_is)
    (case oC_Tariff => k_is)
    (case sC_Tariff => k_is)
    (case mC_Tariff => k_is)
    (case kC_Tariff => k_is)
    (case aC_Ledger => k_is)
    (case pC_Ledger => k_is)
    (case dC_Ledger => k_is)
    (case oC_Ledger => k_is)
    (case sC_Ledger => k_is)
    (case mC_Ledger => k_is)
    (case kC_Ledger => k_is)
    (case aC_Web => k_is)
    (case pC_Web => k_is)
    (case dC_Web => k_is)
    (case oC_Web => k_is)
    (case sC_Web => k_is)
    (case mC_Web => k_is)
    (case kC_Web => k_is)
    (case n_Ledger_cards => k_is)
    (case n_Ledger_tariff => k_is)
    (case n_Ledger_web => k_is)
    (case n_Tariff_days => k_is)
    (case n_Tariff_singles => k_is)
    (case n_Tariff_weeks => k_is)
    (case n_Web_links => k_is)
    (case n_Web_zones => k_is)
    (case a_need_zones => k_is)
    (case l_need_zones => k_is)
    (case c_need_zones => k_is)
    (case k_need_zones => k_is)
    (case a_cheapest => k_is)
    (case l_cheapest => k_is)
    (case c_cheapest => k_is)
    (case k_cheapest => k_is)
    (case a_Tariff_init => k_is)
    (case i_Tariff_init => k_is)
    (case l_Tariff_init => k_is)
    (case c_Tariff_init => k_is)
    (case k_Tariff_init => k_is)
    (case a_Tariff_single => k_is)
    (case i_Tariff_single => k_is)
    (case l_Tariff_single => k_is)
    (case c_Tariff_single => k_is)
    (case k_Tariff_single => k_is)
    (case a_Tariff_day => k_is)
    (case i_Tariff_day => k_is)
    (case l_Tariff_day => k_is)
    (case c_Tariff_day => k_is)
    (case k_Tariff_day => k_is)
    (case a_Tariff_week => k_is)
    (case i_Tariff_week => k_is)
    (case l_Tariff_week => k_is)
    (case c_Tariff_week => k_is)
    (case k_Tariff_week => k_is)
    (case a_cost_of => k_is)
    (case l_cost_of => k_is)
    (case c_cost_of => k_is)
    (case k_cost_of => k_is)
    (case a_for_day => k_is)
    (case l_for_day => k_is)
    (case c_for_day => k_is)
    (case k_for_day => k_is)
    (case a_for_week => k_is)
    (case l_for_week => k_is)
    (case c_for_week => k_is)
    (case k_for_week => k_is)
    (case a_least => k_is)
    (case l_least => k_is)
    (case c_least => k_is)
    (case k_least => k_is)
    (case a_Web_init => k_is)
    (case i_Web_init => k_is)
    (case l_Web_init => k_is)
    (case c_Web_init => k_is)
    (case k_Web_init => k_is)
    (case a_Web_need => k_is)
    (case i_Web_need => k_is)
    (case l_Web_need => k_is)
    (case c_Web_need => k_is)
    (case k_Web_need => k_is)
    (case a_Web_beside => k_is)
    (case i_Web_beside => k_is)
    (case l_Web_beside => k_is)
    (case c_Web_beside => k_is)
    (case k_Web_beside => k_is)
    (case a_Web_spread => k_is)
    (case i_Web_spread => k_is)
    (case l_Web_spread => k_is)
    (case c_Web_spread => k_is)
    (case k_Web_spread => k_is)
    (case a_Web_reached => k_is)
    (case i_Web_reached => k_is)
    (case l_Web_reached => k_is)
    (case c_Web_reached => k_is)
    (case k_Web_reached => k_is)
    (case a_Web_levels => k_is)
    (case i_Web_levels => k_is)
    (case l_Web_levels => k_is)
    (case c_Web_levels => k_is)
    (case k_Web_levels => k_is)
    (case a_Web_fewest => k_is)
    (case i_Web_fewest => k_is)
    (case l_Web_fewest => k_is)
    (case c_Web_fewest => k_is)
    (case k_Web_fewest => k_is)
    (case a_Web_way => k_is)
    (case i_Web_way => k_is)
    (case l_Web_way => k_is)
    (case c_Web_way => k_is)
    (case k_Web_way => k_is)
    (case a_Ledger_init => k_is)
    (case i_Ledger_init => k_is)
    (case l_Ledger_init => k_is)
    (case c_Ledger_init => k_is)
    (case k_Ledger_init => k_is)
    (case a_Ledger_rides => k_is)
    (case i_Ledger_rides => k_is)
    (case l_Ledger_rides => k_is)
    (case c_Ledger_rides => k_is)
    (case k_Ledger_rides => k_is)
    (case a_Ledger_week_sum => k_is)
    (case i_Ledger_week_sum => k_is)
    (case l_Ledger_week_sum => k_is)
    (case c_Ledger_week_sum => k_is)
    (case k_Ledger_week_sum => k_is)
    (case a_Ledger_in_week => k_is)
    (case i_Ledger_in_week => k_is)
    (case l_Ledger_in_week => k_is)
    (case c_Ledger_in_week => k_is)
    (case k_Ledger_in_week => k_is)
    (case a_Ledger_ride => k_is)
    (case i_Ledger_ride => k_is)
    (case l_Ledger_ride => k_is)
    (case c_Ledger_ride => k_is)
    (case k_Ledger_ride => k_is)
    (case a_Ledger_tickets => k_is)
    (case i_Ledger_tickets => k_is)
    (case l_Ledger_tickets => k_is)
    (case c_Ledger_tickets => k_is)
    (case k_Ledger_tickets => k_is)
    (case a_l_cell_at => k_is)
    (case l_l_cell_at => k_is)
    (case c_l_cell_at => k_is)
    (case k_l_cell_at => k_is)
    (case a_l_whole => k_is)
    (case l_l_whole => k_is)
    (case c_l_whole => k_is)
    (case k_l_whole => k_is)
    (case a_l_rows => k_is)
    (case l_l_rows => k_is)
    (case c_l_rows => k_is)
    (case k_l_rows => k_is)
    (case a_l_links_by => k_is)
    (case l_l_links_by => k_is)
    (case c_l_links_by => k_is)
    (case k_l_links_by => k_is)
    (case a_l_zones_of => k_is)
    (case l_l_zones_of => k_is)
    (case c_l_zones_of => k_is)
    (case k_l_zones_of => k_is)
    (case a_l_kept => k_is)
    (case l_l_kept => k_is)
    (case c_l_kept => k_is)
    (case k_l_kept => k_is)
    (case a_l_ridden => k_is)
    (case l_l_ridden => k_is)
    (case c_l_ridden => k_is)
    (case k_l_ridden => k_is)
    (case a_l_serves => k_is)
    (case l_l_serves => k_is)
    (case c_l_serves => k_is)
    (case k_l_serves => k_is)
    (case a_l_cost => k_is)
    (case l_l_cost => k_is)
    (case c_l_cost => k_is)
    (case k_l_cost => k_is)
    (case a_l_drawn => k_is)
    (case l_l_drawn => k_is)
    (case c_l_drawn => k_is)
    (case k_l_drawn => k_is)
    (case a_l_weeks => k_is)
    (case l_l_weeks => k_is)
    (case c_l_weeks => k_is)
    (case k_l_weeks => k_is)
    (case a_l_rides => k_is)
    (case l_l_rides => k_is)
    (case c_l_rides => k_is)
    (case k_l_rides => k_is)
    (case a_l_stays => k_is)
    (case l_l_stays => k_is)
    (case c_l_stays => k_is)
    (case k_l_stays => k_is)
    (case a_law => k_is)
    (case l_law => k_is)
    (case c_law => k_is)
    (case k_law => k_is)
    (case z_abs => k_is)
    (case z_bool => k_is)
    (case z_enumerate => k_is)
    (case z_int => k_is)
    (case z_isinstance => k_is)
    (case z_len => k_is)
    (case z_list => k_is)
    (case z_max => k_is)
    (case z_min => k_is)
    (case z_range => k_is)
    (case z_reversed => k_is)
    (case z_set => k_is)
    (case z_sorted => k_is)
    (case z_sum => k_is)
    (case z_tuple => k_is)
    (case v_MOST_ZONES => k_is)
    (case v_WEEK => k_is)
#print axioms PySem.Challenge.cw_fareweb_k10_whole_cards_pay_the_least_holds

