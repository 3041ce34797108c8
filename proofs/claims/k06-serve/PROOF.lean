import PyProof.Rows.All
import Wide.All
import OpenK.AllK
import Wide.FinOn
import HandS.ForMost
import HandS.Steps
import HandS.Exc
import HandS.TryOnly
import HandS.ExcOwn
import HandS.WordsExc
import HandS.IsInst
import HandS.More
import HandS.Flow
import HandS.Strs
import HandS.SetFor
import HandS.ExcIs
import PySem.Challenge.RW_fareweb_k06_tickets_that_serve
set_option Elab.async false
set_option linter.all false
set_option maxRecDepth 100000
set_option maxHeartbeats 4000000

/-! The base of these proofs: names for the operators' readings, small steps for readings, heaps. -/
namespace FW
open PySem PySem.Spec PyProof.Rows L2

/-! ### the operators' readings by short names -/
def rNeg : V → Hp → VK → Prop := rU fun i => .int (-i)
def rAddI : R2 := rI0 fun i j => .int (i + j)
def rSubI : R2 := rI0 fun i j => .int (i - j)
def rMulI : R2 := rI CMul fun i j => .int (i * j)
def rModI : R2 := rI (fun _ j => 0 < j) fun i j => .int (i % j)
def rDivI : R2 := rI CDiv fun i j => .int (i / j)
def rPowI : R2 := rI CPow fun i j => .int (i ^ j.toNat)
def rLtI : R2 := rI0 fun i j => .bl (decide (i < j))
def rLeI : R2 := rI0 fun i j => .bl (decide (i ≤ j))
def rGtI : R2 := rI0 fun i j => .bl (decide (j < i))
def rGeI : R2 := rI0 fun i j => .bl (decide (j ≤ i))
def rLenS (K : PySem.W.Frag) : List V → Hp → VK → Prop := fun xs H Q => ∃ p ys, xs = [.ref p] ∧ (SqL K H p ys ∨ SqT K H p ys) ∧ Q (.int ys.length) H
def rLenT : List V → Hp → VK → Prop := fun xs H Q => ∃ z, xs = [.str z] ∧ z.length ≤ sizeLine ∧ Q (.int z.length) H
def rListS (K : PySem.W.Frag) : List V → Hp → VK → Prop := fun xs H Q => ∃ p ys, xs = [.ref p] ∧ (SqL K H p ys ∨ SqT K H p ys) ∧ ∀ l, H l = none → Q (.ref l) (upd H l (.lst ys))
def rMin2 : List V → Hp → VK → Prop := fun xs H Q => ∃ i j, xs = [.int i, .int j] ∧ Q (.int (if j < i then j else i)) H
def rMax2 : List V → Hp → VK → Prop := fun xs H Q => ∃ i j, xs = [.int i, .int j] ∧ Q (.int (if j > i then j else i)) H
def rAbs : List V → Hp → VK → Prop := fun xs H Q => ∃ i, xs = [.int i] ∧ Q (.int (if i < 0 then -i else i)) H
def rInt1 : List V → Hp → VK → Prop := fun xs H Q => (∃ i, xs = [.int i] ∧ Q (.int i) H) ∨ ∃ k, xs = [.bl k] ∧ Q (.int (if k then 1 else 0)) H
def tTryOnly (K : PySem.W.Frag) (c : Value) (tb : WX → TS) (ts : Addr → Value → Option Addr → TS) : TS := fun D σ H => tb (wOnly K c ts (fun _ _ _ _ => False) D) D σ H


/-- a loop's word, closed: rd stops at it -/
structure Hold (P : Prop) : Prop where
  h : P
def rIsH (K : PySem.W.Frag) : List V → Hp → VK → Prop := fun xs H Q => Hold (rIsi K xs H Q)
theorem call_isH {X : Cx} : CallR X (.builtin "isinstance") (rIsH X.K) := fun pins s σ H xs us Q I r h => call_isi pins s σ H xs us Q I r h.h
def tIsi (K : PySem.W.Frag) (ta : TE) (c : V) : TE := fun σ H Q => ta σ H fun x H1 => rIsH K [x, c] H1 Q

/-! ### heaps -/
theorem _root_.L2.Same.new {H : Hp} {p : Addr} {o : HO} (h : H p = none) : Same H (upd H p o) := fun b x e => by
  rw [upd_ne (ne_of_none e h)]
  exact e
theorem _root_.L2.Same.mut {H H' : Hp} {p : Addr} {o : HO} (s : Same H H') (h : H p = none) : Same H (upd H' p o) := fun b x e => by
  rw [upd_ne (ne_of_none e h)]
  exact s b x e
theorem _root_.L2.Same.tup {K : PySem.W.Frag} {H H' : Hp} {a : Addr} {xs : List V} (e : Same H H') (h : SqT K H a xs) : SqT K H' a xs := by
  rcases h with (h | ⟨o, h⟩) | h
  · exact .inl (.inl (e _ _ h))
  · exact .inl (.inr ⟨o, e _ _ h⟩)
  · exact .inr h
theorem putF_le (f : Str) (v : V) : ∀ fs : List (Str × V), (putF f v fs).length ≤ fs.length + 1
  | [] => Nat.le_refl _
  | (g, w) :: r => by
    unfold putF
    split
    · simp
    · have := putF_le f v r
      simp only [List.length_cons]
      omega
theorem putF_1 {f : Str} {v : V} : (putF f v []).length < 1000 := by have := putF_le f v []; simp only [List.length_nil] at this; omega
theorem putF_2 {f g : Str} {v u : V} : (putF f v (putF g u [])).length < 1000 := by
  have h1 := putF_le f v (putF g u [])
  have h2 := putF_le g u []
  simp only [List.length_nil] at h2
  omega
theorem sq_ne {K : PySem.W.Frag} {H : Hp} {a b : Addr} {o : HO} {xs : List V} (n : b ≠ a) (h : SqL K H b xs) : SqL K (upd H a o) b xs := by
  rcases h with (h | ⟨u, h⟩) | h
  · exact .inl (.inl (by rw [upd_ne n]; exact h))
  · exact .inl (.inr ⟨u, by rw [upd_ne n]; exact h⟩)
  · exact .inr h
theorem st_ne {K : PySem.W.Frag} {H : Hp} {a b : Addr} {o : HO} {xs : List V} (n : b ≠ a) (h : SqT K H b xs) : SqT K (upd H a o) b xs := by
  rcases h with (h | ⟨u, h⟩) | h
  · exact .inl (.inl (by rw [upd_ne n]; exact h))
  · exact .inl (.inr ⟨u, by rw [upd_ne n]; exact h⟩)
  · exact .inr h
theorem sq_ins {K : PySem.W.Frag} {H : Hp} {a b C dx : Addr} {o : HO} {fs : List (Str × V)} {xs : List V} (e : H a = some (.ins C dx fs)) (h : SqL K H b xs) : SqL K (upd H a o) b xs := by
  rcases h with (h | ⟨u, h⟩) | h
  · exact .inl (.inl (by rw [upd_ne (ne_of h e (by intro z; cases z))]; exact h))
  · exact .inl (.inr ⟨u, by rw [upd_ne (ne_of h e (by intro z; cases z))]; exact h⟩)
  · exact .inr h
theorem st_ins {K : PySem.W.Frag} {H : Hp} {a b C dx : Addr} {o : HO} {fs : List (Str × V)} {xs : List V} (e : H a = some (.ins C dx fs)) (h : SqT K H b xs) : SqT K (upd H a o) b xs := by
  rcases h with (h | ⟨u, h⟩) | h
  · exact .inl (.inl (by rw [upd_ne (ne_of h e (by intro z; cases z))]; exact h))
  · exact .inl (.inr ⟨u, by rw [upd_ne (ne_of h e (by intro z; cases z))]; exact h⟩)
  · exact .inr h
theorem st_lst {K : PySem.W.Frag} {H : Hp} {a b : Addr} {o : HO} {ys xs : List V} (e : H a = some (.lst ys)) (h : SqT K H b xs) : SqT K (upd H a o) b xs := by
  rcases h with (h | ⟨u, h⟩) | h
  · exact .inl (.inl (by rw [upd_ne (ne_of h e (by intro z; cases z))]; exact h))
  · exact .inl (.inr ⟨u, by rw [upd_ne (ne_of h e (by intro z; cases z))]; exact h⟩)
  · exact .inr h
theorem sq_new {K : PySem.W.Frag} {H : Hp} {a b : Addr} {o : HO} {xs : List V} (e : H a = none) (h : SqL K H b xs) : SqL K (upd H a o) b xs := L2.Same.seq (Same.new e) h
theorem st_new {K : PySem.W.Frag} {H : Hp} {a b : Addr} {o : HO} {xs : List V} (e : H a = none) (h : SqT K H b xs) : SqT K (upd H a o) b xs := Same.tup (Same.new e) h
theorem ne_sym {a b : Addr} (h : a ≠ b) : b ≠ a := fun e => h e.symm
theorem upd_other {H : Hp} {a b : Addr} {o : HO} {u : Option HO} (h : b ≠ a) (e : H b = u) : upd H a o b = u := by rw [upd_ne h]; exact e
theorem ite_dT {p : Prop} [Decidable p] {A B : Prop} (h : p) (k : A) : if decide p = true then A else B := by
  rw [decide_eq_true h]
  exact iteT k
theorem ite_dF {p : Prop} [Decidable p] {A B : Prop} (h : ¬ p) (k : B) : if decide p = true then A else B := by
  rw [decide_eq_false h]
  exact iteF k
theorem ite_d {p : Prop} [Decidable p] {A B : Prop} (h1 : p → A) (h2 : ¬ p → B) : if decide p = true then A else B := by
  by_cases h : p
  · exact ite_dT h (h1 h)
  · exact ite_dF h (h2 h)
theorem ite_nT {p : Prop} [Decidable p] {A B : Prop} (h : ¬ p) (k : A) : if (!decide p) = true then A else B := by
  rw [decide_eq_false h]
  exact iteT k
theorem ite_nF {p : Prop} [Decidable p] {A B : Prop} (h : p) (k : B) : if (!decide p) = true then A else B := by
  rw [decide_eq_true h]
  exact iteF k
theorem ite_n {p : Prop} [Decidable p] {A B : Prop} (h1 : ¬ p → A) (h2 : p → B) : if (!decide p) = true then A else B := by
  by_cases h : p
  · exact ite_nF h (h2 h)
  · exact ite_nT h (h1 h)
theorem ite_b {b : Bool} {A B : Prop} (h1 : b = true → A) (h2 : b = false → B) : if b = true then A else B := by
  cases b with
  | true => exact iteT (h1 rfl)
  | false => exact iteF (h2 rfl)
theorem small {n m : Nat} (h : n ≤ 100000) : n ≤ sizeLine := Nat.le_trans h (by decide)
theorem small_lt {n : Nat} (h : n < 100000) : n < sizeLine := Nat.lt_of_lt_of_le h (by decide)
theorem small_le {n : Nat} (h : n ≤ 100000) : n ≤ sizeLine := Nat.le_trans h (by decide)
theorem atI_lt {α : Type} {xs : List α} {i : Int} {v : α} (h0 : 0 ≤ i) (h : xs[i.toNat]? = some v) : atI xs i = some v := by
  have e : i = ((i.toNat : Nat) : Int) := (Int.toNat_of_nonneg h0).symm
  rw [e]
  exact atI_nat h
theorem atI_map {ns : List Int} {i : Int} (h0 : 0 ≤ i) (h1 : i < ns.length) : atI (ns.map V.int) i = some (V.int (ns.getD i.toNat 0)) := by
  have h : i.toNat < ns.length := by omega
  refine atI_lt h0 ?_
  rw [List.getElem?_map, List.getElem?_eq_getElem h, List.getD_eq_getElem?_getD, List.getElem?_eq_getElem h]
  rfl


/-! ### a heap without one object: what is said of it stays when that object is changed -/
def del (H : Hp) (a : Addr) : Hp := fun b => if b = a then none else H b
theorem del_at {H : Hp} {a : Addr} : del H a a = none := by unfold del; rw [if_pos rfl]
theorem del_ne {H : Hp} {a b : Addr} (h : b ≠ a) : del H a b = H b := by unfold del; rw [if_neg h]
theorem del_get {H : Hp} {a b : Addr} {o : HO} (h : del H a b = some o) : H b = some o ∧ b ≠ a := by
  by_cases e : b = a
  · rw [e, del_at] at h
    cases h
  · exact ⟨by rw [del_ne e] at h; exact h, e⟩
theorem del_upd {H : Hp} {a : Addr} {o : HO} : del (upd H a o) a = del H a := by
  funext b
  by_cases e : b = a
  · rw [e, del_at, del_at]
  · rw [del_ne e, del_ne e, upd_ne e]
theorem upd_del {H : Hp} {a : Addr} {o : HO} : upd (del H a) a o = upd H a o := by
  funext b
  by_cases e : b = a
  · rw [e, upd_same, upd_same]
  · rw [upd_ne e, upd_ne e, del_ne e]
theorem upd_del_self {H : Hp} {a : Addr} {o : HO} (h : H a = some o) : upd (del H a) a o = H := by
  funext b
  by_cases e : b = a
  · rw [e, upd_same, h]
  · rw [upd_ne e, del_ne e]
theorem del_upd_ne {H : Hp} {a b : Addr} {o : HO} (n : b ≠ a) : del (upd H b o) a = upd (del H a) b o := by
  funext c
  by_cases e : c = a
  · rw [e, del_at, upd_ne (ne_sym n), del_at]
  · by_cases f : c = b
    · rw [f, del_ne n, upd_same, upd_same]
    · rw [del_ne e, upd_ne f, upd_ne f, del_ne e]
theorem del_sub (H : Hp) (a : Addr) : Same (del H a) H := fun b o e => (del_get e).1
theorem _root_.L2.Same.del2 {H H' : Hp} (a : Addr) (s : Same H H') : Same (del H a) (del H' a) := fun b o e => by
  obtain ⟨e1, n⟩ := del_get e
  rw [del_ne n]
  exact s _ _ e1
/-- what stood ahead of a's making stands still -/
theorem _root_.L2.Same.delN {H H' : Hp} {a : Addr} (s : Same H H') (h : H a = none) : Same H (del H' a) := fun b o e => by
  rw [del_ne (ne_of_none e h)]
  exact s _ _ e
theorem del_new {H : Hp} {a : Addr} {o : HO} (h : H a = none) : del (upd H a o) a = H := by
  rw [del_upd]
  funext b
  by_cases e : b = a
  · rw [e, del_at, h]
  · rw [del_ne e]

/-- a heap without the objects at hs -/
def dels (H : Hp) (hs : List Addr) : Hp := fun b => if b ∈ hs then none else H b
theorem dels_in {H : Hp} {hs : List Addr} {a : Addr} (h : a ∈ hs) : dels H hs a = none := by unfold dels; rw [if_pos h]
theorem dels_out {H : Hp} {hs : List Addr} {a : Addr} (h : a ∉ hs) : dels H hs a = H a := by unfold dels; rw [if_neg h]
theorem dels_get {H : Hp} {hs : List Addr} {a : Addr} {o : HO} (h : dels H hs a = some o) : H a = some o ∧ a ∉ hs := by
  by_cases c : a ∈ hs
  · rw [dels_in c] at h
    cases h
  · exact ⟨by rw [dels_out c] at h; exact h, c⟩
theorem dels_sub (H : Hp) (hs : List Addr) : Same (dels H hs) H := fun b o e => (dels_get e).1
theorem _root_.L2.Same.dels2 {H H' : Hp} (hs : List Addr) (s : Same H H') : Same (dels H hs) (dels H' hs) := fun b o e => by
  obtain ⟨e1, n⟩ := dels_get e
  rw [dels_out n]
  exact s _ _ e1
theorem _root_.L2.Same.delsN {H H' : Hp} {hs : List Addr} (s : Same H H') (h : ∀ a ∈ hs, H a = none) : Same H (dels H' hs) := fun b o e => by
  rw [dels_out fun m => ne_of_none e (h b m) rfl]
  exact s _ _ e

/-! ### comprehensions -/
/-- what turn i gives: a value, or nothing; the heap may grow -/
theorem lc_rangeF {lo : Int} {n : Nat} {g : TG} {tt : TT} {te : TE} {vs : List Nat} {σ : L2.St} {H1 : Hp} {D : Addr} {Qd : Hp → Prop} (hD : H1 D = none) (hn : n ≤ 50000) (F : Nat → Option V)
    (hs : ∀ (i : Nat) (H' : Hp), i < n → Same H1 H' → ∀ (G : V → Hp → Prop) (N : Hp → Prop), (∀ y H'', F i = some y → Same H' H'' → G y H'') → (∀ H'', F i = none → Same H' H'' → N H'') →
      g (.int (lo + i)) (wipe σ vs) H' fun σ2 H2 => wipe σ2 vs = wipe σ vs ∧ tt σ2 H2 fun b H3 => if b = true then te σ2 H3 G else N H3)
    (hd : ∀ H'', Same H1 (del H'' D) → H'' D = some (.lst ((List.range n).filterMap F)) → Qd H'') :
    ∃ W : Nat → Nat → Hp → Prop, (∃ m, W 0 m (upd H1 D (.lst []))) ∧ ∀ i m H, W i m H →
      ((Itr lo n).stop i H ∧ Qd H) ∨ ((Itr lo n).go i H ∧ ∃ Nx : Hp → Prop, (∀ H', Nx H' → ∃ m', m' < m ∧ W (i + 1) m' H') ∧ ∀ x H', (Itr lo n).yld i H x H' → g x (wipe σ vs) H' fun σ2 H2 => wipe σ2 vs = wipe σ vs ∧ tt σ2 H2 fun b H3 =>
        if b = true then te σ2 H3 fun y H4 => ∃ acc, H4 D = some (.lst acc) ∧ acc.length < sizeLine ∧ Nx (upd H4 D (.lst (acc ++ [y]))) else Nx H3) := by
  refine lc_range (fun i H' => Same H1 (del H' D) ∧ H' D = some (.lst ((List.range i).filterMap F))) ⟨by rw [del_new hD]; exact Same.refl _, upd_same⟩ (fun i H' hi ⟨p1, p2⟩ => ?_) (fun H' ⟨p1, p2⟩ => hd H' p1 p2)
  refine hs i H' hi (p1.trans (del_sub _ _)) _ _ (fun y H'' e s => ⟨_, s _ _ p2, ?_, p1.trans (by rw [del_upd]; exact s.del2 D), ?_⟩) (fun H'' e s => ⟨p1.trans (s.del2 D), ?_⟩)
  · refine small_lt ?_
    have h1 := List.length_filterMap_le F (List.range i)
    rw [List.length_range] at h1
    omega
  · rw [upd_same, List.range_succ, List.filterMap_append, List.filterMap_cons, e]
    rfl
  · rw [s _ _ p2, List.range_succ, List.filterMap_append, List.filterMap_cons, e, List.filterMap_nil, List.append_nil]
theorem filterMap_take {α β : Type} (f : α → Option β) {l : List α} {i : Nat} {x : α} (h : l[i]? = some x) : (l.take (i + 1)).filterMap f = (l.take i).filterMap f ++ (f x).toList := by
  rw [List.take_add_one, h, List.filterMap_append, Option.toList_some, List.filterMap_cons]
  cases f x <;> rfl
theorem lc_listF {K : PySem.W.Frag} {a : Addr} {xs : List V} {g : TG} {tt : TT} {te : TE} {vs : List Nat} {σ : L2.St} {H1 : Hp} {D : Addr} {Qd : Hp → Prop} (hD : H1 D = none) (hS : SqL K H1 a xs) (hn : xs.length ≤ 50000) (F : V → Option V)
    (hs : ∀ (i : Nat) (x : V) (H' : Hp), xs[i]? = some x → Same H1 H' → ∀ (G : V → Hp → Prop) (N : Hp → Prop), (∀ y H'', F x = some y → Same H' H'' → G y H'') → (∀ H'', F x = none → Same H' H'' → N H'') →
      g x (wipe σ vs) H' fun σ2 H2 => wipe σ2 vs = wipe σ vs ∧ tt σ2 H2 fun b H3 => if b = true then te σ2 H3 G else N H3)
    (hd : ∀ H'', Same H1 (del H'' D) → H'' D = some (.lst (xs.filterMap F)) → Qd H'') :
    ∃ W : Nat → Nat → Hp → Prop, (∃ m, W 0 m (upd H1 D (.lst []))) ∧ ∀ i m H, W i m H →
      ((Itl K a).stop i H ∧ Qd H) ∨ ((Itl K a).go i H ∧ ∃ Nx : Hp → Prop, (∀ H', Nx H' → ∃ m', m' < m ∧ W (i + 1) m' H') ∧ ∀ x H', (Itl K a).yld i H x H' → g x (wipe σ vs) H' fun σ2 H2 => wipe σ2 vs = wipe σ vs ∧ tt σ2 H2 fun b H3 =>
        if b = true then te σ2 H3 fun y H4 => ∃ acc, H4 D = some (.lst acc) ∧ acc.length < sizeLine ∧ Nx (upd H4 D (.lst (acc ++ [y]))) else Nx H3) := by
  refine lc_list (xs := xs) (fun i H' => Same H1 (del H' D) ∧ H' D = some (.lst ((xs.take i).filterMap F))) ⟨by rw [del_new hD]; exact Same.refl _, upd_same⟩ (fun i H' _ ⟨p1, p2⟩ => (p1.trans (del_sub _ _)).seq hS) (fun i x H' hx ⟨p1, p2⟩ => ?_) (fun H' ⟨p1, p2⟩ => hd H' p1 (by rw [List.take_length] at p2; exact p2))
  have hi : i < xs.length := (List.getElem?_eq_some_iff.mp hx).1
  refine hs i x H' hx (p1.trans (del_sub _ _)) _ _ (fun y H'' e s => ⟨_, s _ _ p2, ?_, p1.trans (by rw [del_upd]; exact s.del2 D), ?_⟩) (fun H'' e s => ⟨p1.trans (s.del2 D), ?_⟩)
  · refine small_lt ?_
    have h1 := List.length_filterMap_le F (xs.take i)
    rw [List.length_take] at h1
    omega
  · rw [upd_same, filterMap_take F hx, e]
    rfl
  · rw [s _ _ p2, filterMap_take F hx, e]
    simp
/-- each turn gives a value of which P holds (P stays while the heap grows) -/
theorem lc_rangeP {lo : Int} {n : Nat} {g : TG} {tt : TT} {te : TE} {vs : List Nat} {σ : L2.St} {H1 : Hp} {D : Addr} {Qd : Hp → Prop} (hD : H1 D = none) (hn : n ≤ 50000) (P : Nat → V → Hp → Prop) (hP : ∀ i y H H', P i y H → Same H H' → P i y H')
    (hs : ∀ (i : Nat) (H' : Hp), i < n → Same H1 H' → ∀ (G : V → Hp → Prop) (N : Hp → Prop), (∀ y H'', P i y (del H'' D) → Same H' H'' → G y H'') →
      g (.int (lo + i)) (wipe σ vs) H' fun σ2 H2 => wipe σ2 vs = wipe σ vs ∧ tt σ2 H2 fun b H3 => if b = true then te σ2 H3 G else N H3)
    (hd : ∀ H'' ys, Same H1 (del H'' D) → H'' D = some (.lst ys) → ys.length = n → (∀ (i : Nat) y, ys[i]? = some y → P i y (del H'' D)) → Qd H'') :
    ∃ W : Nat → Nat → Hp → Prop, (∃ m, W 0 m (upd H1 D (.lst []))) ∧ ∀ i m H, W i m H →
      ((Itr lo n).stop i H ∧ Qd H) ∨ ((Itr lo n).go i H ∧ ∃ Nx : Hp → Prop, (∀ H', Nx H' → ∃ m', m' < m ∧ W (i + 1) m' H') ∧ ∀ x H', (Itr lo n).yld i H x H' → g x (wipe σ vs) H' fun σ2 H2 => wipe σ2 vs = wipe σ vs ∧ tt σ2 H2 fun b H3 =>
        if b = true then te σ2 H3 fun y H4 => ∃ acc, H4 D = some (.lst acc) ∧ acc.length < sizeLine ∧ Nx (upd H4 D (.lst (acc ++ [y]))) else Nx H3) := by
  refine lc_range (fun i H' => Same H1 (del H' D) ∧ ∃ ys, H' D = some (.lst ys) ∧ ys.length = i ∧ ∀ (j : Nat) y, ys[j]? = some y → P j y (del H' D)) ⟨by rw [del_new hD]; exact Same.refl _, [], upd_same, rfl, fun j y h => by simp at h⟩ (fun i H' hi ⟨p1, ys, p2, p3, p4⟩ => ?_) (fun H' ⟨p1, ys, p2, p3, p4⟩ => hd H' ys p1 p2 p3 p4)
  refine hs i H' hi (p1.trans (del_sub _ _)) _ _ (fun y H'' hy s => ⟨_, s _ _ p2, small_lt (by omega), p1.trans (by rw [del_upd]; exact s.del2 D), ys ++ [y], upd_same, by simp [p3], fun j z hz => ?_⟩)
  rw [del_upd]
  by_cases e : j < ys.length
  · rw [List.getElem?_append_left e] at hz
    exact hP _ _ _ _ (p4 j z hz) (s.del2 D)
  · rw [List.getElem?_append_right (by omega)] at hz
    have e0 : j - ys.length = 0 := by
      cases q : j - ys.length with
      | zero => rfl
      | succ m => rw [q] at hz; simp at hz
    rw [e0] at hz
    have ez : y = z := Option.some.inj hz
    have ej : j = i := by omega
    rw [← ez, ej]
    exact hy
theorem lc_listP {K : PySem.W.Frag} {a : Addr} {xs : List V} {g : TG} {tt : TT} {te : TE} {vs : List Nat} {σ : L2.St} {H1 : Hp} {D : Addr} {Qd : Hp → Prop} (hD : H1 D = none) (hS : SqL K H1 a xs) (hn : xs.length ≤ 50000) (P : Nat → V → Hp → Prop) (hP : ∀ i y H H', P i y H → Same H H' → P i y H')
    (hs : ∀ (i : Nat) (x : V) (H' : Hp), xs[i]? = some x → Same H1 H' → H' D ≠ none → ∀ (G : V → Hp → Prop) (N : Hp → Prop), (∀ y H'', P i y (del H'' D) → Same H' H'' → G y H'') →
      g x (wipe σ vs) H' fun σ2 H2 => wipe σ2 vs = wipe σ vs ∧ tt σ2 H2 fun b H3 => if b = true then te σ2 H3 G else N H3)
    (hd : ∀ H'' ys, Same H1 (del H'' D) → H'' D = some (.lst ys) → ys.length = xs.length → (∀ (i : Nat) y, ys[i]? = some y → P i y (del H'' D)) → Qd H'') :
    ∃ W : Nat → Nat → Hp → Prop, (∃ m, W 0 m (upd H1 D (.lst []))) ∧ ∀ i m H, W i m H →
      ((Itl K a).stop i H ∧ Qd H) ∨ ((Itl K a).go i H ∧ ∃ Nx : Hp → Prop, (∀ H', Nx H' → ∃ m', m' < m ∧ W (i + 1) m' H') ∧ ∀ x H', (Itl K a).yld i H x H' → g x (wipe σ vs) H' fun σ2 H2 => wipe σ2 vs = wipe σ vs ∧ tt σ2 H2 fun b H3 =>
        if b = true then te σ2 H3 fun y H4 => ∃ acc, H4 D = some (.lst acc) ∧ acc.length < sizeLine ∧ Nx (upd H4 D (.lst (acc ++ [y]))) else Nx H3) := by
  refine lc_list (xs := xs) (fun i H' => Same H1 (del H' D) ∧ ∃ ys, H' D = some (.lst ys) ∧ ys.length = i ∧ ∀ (j : Nat) y, ys[j]? = some y → P j y (del H' D)) ⟨by rw [del_new hD]; exact Same.refl _, [], upd_same, rfl, fun j y h => by simp at h⟩ (fun i H' _ ⟨p1, p2⟩ => (p1.trans (del_sub _ _)).seq hS) (fun i x H' hx ⟨p1, ys, p2, p3, p4⟩ => ?_) (fun H' ⟨p1, ys, p2, p3, p4⟩ => hd H' ys p1 p2 p3 p4)
  have hi : i < xs.length := (List.getElem?_eq_some_iff.mp hx).1
  refine hs i x H' hx (p1.trans (del_sub _ _)) (by rw [p2]; intro z; cases z) _ _ (fun y H'' hy s => ⟨_, s _ _ p2, small_lt (by omega), p1.trans (by rw [del_upd]; exact s.del2 D), ys ++ [y], upd_same, by simp [p3], fun j z hz => ?_⟩)
  rw [del_upd]
  by_cases e : j < ys.length
  · rw [List.getElem?_append_left e] at hz
    exact hP _ _ _ _ (p4 j z hz) (s.del2 D)
  · rw [List.getElem?_append_right (by omega)] at hz
    have e0 : j - ys.length = 0 := by
      cases q : j - ys.length with
      | zero => rfl
      | succ m => rw [q] at hz; simp at hz
    rw [e0] at hz
    have ez : y = z := Option.some.inj hz
    have ej : j = i := by omega
    rw [← ez, ej]
    exact hy

theorem fm_some {α β : Type} {f : α → β} {l : List α} : l.filterMap (fun k => some (f k)) = l.map f := by
  induction l with
  | nil => rfl
  | cons a r ih => rw [List.filterMap_cons, ih]; rfl
/-- the new objects that a comprehension has made so far, at addrs -/
structure News (H1 : Hp) (D : Addr) (obj : Nat → HO) (addrs : List Addr) (H' : Hp) : Prop where
  same : Same H1 (del H' D)
  lst : H' D = some (.lst (addrs.map V.ref))
  nd : addrs.Nodup
  old : ∀ p ∈ addrs, H1 p = none
  at_ : ∀ (j : Nat) (p : Addr), addrs[j]? = some p → del H' D p = some (obj j)
theorem News.snoc {H1 H' H'' : Hp} {D l : Addr} {obj : Nat → HO} {addrs : List Addr} (N : News H1 D obj addrs H') (hl : H' l = none) (s : Same H' H'') (e : H'' l = some (obj addrs.length)) :
    News H1 D obj (addrs ++ [l]) (upd H'' D (.lst (addrs.map V.ref ++ [.ref l]))) where
  same := by rw [del_upd]; exact N.same.trans (s.del2 D)
  lst := by rw [upd_same, List.map_append]; rfl
  nd := by
    refine List.nodup_append.mpr ⟨N.nd, by simp, fun a ha b hb => ?_⟩
    have eb : b = l := by simpa using hb
    rw [eb]
    intro e2
    obtain ⟨j, hj⟩ := List.mem_iff_getElem?.mp ha
    have := (del_get (N.at_ j a hj)).1
    rw [e2, hl] at this
    cases this
  old := fun p hp => by
    rcases List.mem_append.mp hp with h | h
    · exact N.old p h
    · have ep : p = l := by simpa using h
      rw [ep]
      cases q : H1 l with
      | none => rfl
      | some o =>
        have := (del_get (N.same l o q)).1
        rw [hl] at this
        cases this
  at_ := fun j p hj => by
    rw [del_upd]
    by_cases c : j < addrs.length
    · rw [List.getElem?_append_left c] at hj
      exact s.del2 D _ _ (N.at_ j p hj)
    · have hjl : j < (addrs ++ [l]).length := (List.getElem?_eq_some_iff.mp hj).1
      rw [List.length_append, List.length_singleton] at hjl
      have ej : j = addrs.length := by omega
      rw [ej, List.getElem?_append_right (Nat.le_refl _), Nat.sub_self] at hj
      have ep : l = p := Option.some.inj hj
      have nlD : l ≠ D := fun z => by rw [z, N.lst] at hl; cases hl
      rw [← ep, del_ne nlD, e, ej]
theorem News.nil {H1 : Hp} {D : Addr} {obj : Nat → HO} (hD : H1 D = none) : News H1 D obj [] (upd H1 D (.lst [])) where
  same := by rw [del_new hD]; exact Same.refl _
  lst := upd_same
  nd := List.nodup_nil
  old := fun p hp => by simp at hp
  at_ := fun j p h => by simp at h
/-- each turn makes one new object -/
theorem lc_rangeN {lo : Int} {n : Nat} {g : TG} {tt : TT} {te : TE} {vs : List Nat} {σ : L2.St} {H1 : Hp} {D : Addr} {Qd : Hp → Prop} (hD : H1 D = none) (hn : n ≤ 50000) (obj : Nat → HO)
    (hs : ∀ (i : Nat) (H' : Hp), i < n → Same H1 H' → ∀ (G : V → Hp → Prop) (N : Hp → Prop), (∀ l H'', H' l = none → Same H' H'' → H'' l = some (obj i) → G (.ref l) H'') →
      g (.int (lo + i)) (wipe σ vs) H' fun σ2 H2 => wipe σ2 vs = wipe σ vs ∧ tt σ2 H2 fun b H3 => if b = true then te σ2 H3 G else N H3)
    (hd : ∀ H'' addrs, addrs.length = n → News H1 D obj addrs H'' → Qd H'') :
    ∃ W : Nat → Nat → Hp → Prop, (∃ m, W 0 m (upd H1 D (.lst []))) ∧ ∀ i m H, W i m H →
      ((Itr lo n).stop i H ∧ Qd H) ∨ ((Itr lo n).go i H ∧ ∃ Nx : Hp → Prop, (∀ H', Nx H' → ∃ m', m' < m ∧ W (i + 1) m' H') ∧ ∀ x H', (Itr lo n).yld i H x H' → g x (wipe σ vs) H' fun σ2 H2 => wipe σ2 vs = wipe σ vs ∧ tt σ2 H2 fun b H3 =>
        if b = true then te σ2 H3 fun y H4 => ∃ acc, H4 D = some (.lst acc) ∧ acc.length < sizeLine ∧ Nx (upd H4 D (.lst (acc ++ [y]))) else Nx H3) := by
  refine lc_range (fun i H' => ∃ addrs : List Addr, addrs.length = i ∧ News H1 D obj addrs H') ⟨[], rfl, News.nil hD⟩ (fun i H' hi ⟨addrs, hl, N⟩ => ?_) (fun H' ⟨addrs, hl, N⟩ => hd H' addrs hl N)
  refine hs i H' hi (N.same.trans (del_sub _ _)) _ _ (fun l H'' h1 s e => ⟨_, s _ _ N.lst, small_lt (by rw [List.length_map]; omega), addrs ++ [l], by simp [hl], N.snoc h1 s (by rw [hl]; exact e)⟩)
theorem lc_listN {K : PySem.W.Frag} {a : Addr} {xs : List V} {g : TG} {tt : TT} {te : TE} {vs : List Nat} {σ : L2.St} {H1 : Hp} {D : Addr} {Qd : Hp → Prop} (hD : H1 D = none) (hS : SqL K H1 a xs) (hn : xs.length ≤ 50000) (obj : Nat → HO)
    (hs : ∀ (i : Nat) (x : V) (H' : Hp), xs[i]? = some x → Same H1 H' → ∀ (G : V → Hp → Prop) (N : Hp → Prop), (∀ l H'', H' l = none → Same H' H'' → H'' l = some (obj i) → G (.ref l) H'') →
      g x (wipe σ vs) H' fun σ2 H2 => wipe σ2 vs = wipe σ vs ∧ tt σ2 H2 fun b H3 => if b = true then te σ2 H3 G else N H3)
    (hd : ∀ H'' addrs, addrs.length = xs.length → News H1 D obj addrs H'' → Qd H'') :
    ∃ W : Nat → Nat → Hp → Prop, (∃ m, W 0 m (upd H1 D (.lst []))) ∧ ∀ i m H, W i m H →
      ((Itl K a).stop i H ∧ Qd H) ∨ ((Itl K a).go i H ∧ ∃ Nx : Hp → Prop, (∀ H', Nx H' → ∃ m', m' < m ∧ W (i + 1) m' H') ∧ ∀ x H', (Itl K a).yld i H x H' → g x (wipe σ vs) H' fun σ2 H2 => wipe σ2 vs = wipe σ vs ∧ tt σ2 H2 fun b H3 =>
        if b = true then te σ2 H3 fun y H4 => ∃ acc, H4 D = some (.lst acc) ∧ acc.length < sizeLine ∧ Nx (upd H4 D (.lst (acc ++ [y]))) else Nx H3) := by
  refine lc_list (xs := xs) (fun i H' => ∃ addrs : List Addr, addrs.length = i ∧ News H1 D obj addrs H') ⟨[], rfl, News.nil hD⟩ (fun i H' _ ⟨addrs, hl, N⟩ => (N.same.trans (del_sub _ _)).seq hS) (fun i x H' hx ⟨addrs, hl, N⟩ => ?_) (fun H' ⟨addrs, hl, N⟩ => hd H' addrs hl N)
  have hi : i < xs.length := (List.getElem?_eq_some_iff.mp hx).1
  refine hs i x H' hx (N.same.trans (del_sub _ _)) _ _ (fun l H'' h1 s e => ⟨_, s _ _ N.lst, small_lt (by rw [List.length_map]; omega), addrs ++ [l], by simp [hl], N.snoc h1 s (by rw [hl]; exact e)⟩)

/-! ### data to be compared -/
mutual
theorem Dp.same {K : PySem.W.Frag} {H H' : Hp} (s : Same H H') : ∀ (d : PyData) (v : V), Dp K H v d → Dp K H' v d
  | .none, _, h => by cases h; exact .non
  | .bool b, _, h => by cases h; exact .bl b
  | .int i, _, h => by cases h; exact .int i
  | .str x, _, h => by cases h; exact .str x
  | .list ds, _, h => by
    cases h with
    | lst hs ha => exact .lst (s.seq hs) (DpAll.same s ds _ ha)
  | .tuple ds, _, h => by
    cases h with
    | tup hs ha => exact .tup (Same.tup s hs) (DpAll.same s ds _ ha)
  | .dict _, _, h => by cases h
theorem DpAll.same {K : PySem.W.Frag} {H H' : Hp} (s : Same H H') : ∀ (ds : List PyData) (vs : List V), DpAll K H vs ds → DpAll K H' vs ds
  | [], _, h => by cases h; exact .nil
  | d :: ds, _, h => by
    cases h with
    | cons h1 h2 => exact .cons (Dp.same s d _ h1) (DpAll.same s ds _ h2)
end
/-- shaped, and no deeper than n -/
def Shp (n : Nat) (d : PyData) : Prop := d.canLay0 = true ∧ d.depth ≤ n
theorem Shp.all {n : Nat} : ∀ {ds : List PyData}, (∀ d ∈ ds, Shp n d) → PyData.canLayAll0 ds = true ∧ PyData.depthAll ds ≤ n
  | [], _ => ⟨rfl, Nat.zero_le _⟩
  | d :: ds, h => by
    obtain ⟨h1, h2⟩ := h d List.mem_cons_self
    obtain ⟨h3, h4⟩ := Shp.all (ds := ds) fun x hx => h x (List.mem_cons_of_mem _ hx)
    refine ⟨?_, ?_⟩
    · show (d.canLay0 && PyData.canLayAll0 ds) = true
      rw [h1, h3]
      rfl
    · show max d.depth (PyData.depthAll ds) ≤ n
      omega
theorem Shp.list {n : Nat} {ds : List PyData} (h : ∀ d ∈ ds, Shp n d) : Shp (n + 1) (.list ds) := by
  obtain ⟨h1, h2⟩ := Shp.all h
  exact ⟨h1, Nat.succ_le_succ h2⟩
theorem Shp.tuple {n : Nat} {ds : List PyData} (h : ∀ d ∈ ds, Shp n d) : Shp (n + 1) (.tuple ds) := by
  obtain ⟨h1, h2⟩ := Shp.all h
  exact ⟨h1, Nat.succ_le_succ h2⟩
theorem Shp.int (n : Nat) (i : Int) : Shp n (.int i) := ⟨rfl, Nat.zero_le _⟩
theorem Shp.non (n : Nat) : Shp n .none := ⟨rfl, Nat.zero_le _⟩
theorem Shp.ok {n : Nat} {d : PyData} (h : Shp n d) (hn : n ≤ 64) : SeqAt.shaped d = true := by
  unfold SeqAt.shaped
  rw [h.1, decide_eq_true (Nat.le_trans h.2 hn)]
  rfl
theorem Shp.refl {n : Nat} {d : PyData} (h : Shp n d) : PyData.eqv d d = true := SeqAt.eqv_refl d h.1
theorem dpAll_ints {K : PySem.W.Frag} {H : Hp} : ∀ ns : List Int, DpAll K H (ns.map V.int) (ns.map PyData.int)
  | [] => .nil
  | n :: r => .cons (.int n) (dpAll_ints r)
theorem dp_ints {K : PySem.W.Frag} {H : Hp} {a : Addr} {ns : List Int} (h : SqL K H a (ns.map V.int)) : Dp K H (.ref a) (.list (ns.map PyData.int)) := .lst h (dpAll_ints ns)
theorem shp_ints (ns : List Int) : Shp 1 (.list (ns.map PyData.int)) := Shp.list fun d hd => by
  obtain ⟨i, _, rfl⟩ := List.mem_map.mp hd
  exact Shp.int 0 i
/-- == of equal data, as the reading of op_eqD, op_neD wants it -/
def rEqH (K : PySem.W.Frag) : R2 := fun x y H Q => Hold (rEqD K x y H Q)
def rNeH (K : PySem.W.Frag) : R2 := fun x y H Q => Hold (rNeD K x y H Q)
theorem op_eqH {X : Cx} (hu : X.A.units + 64 < cLine) : OpR X (compareOp .Eq) (rEqH X.K) := fun pins s σ H x y v u Q I rx ry h => op_eqD hu pins s σ H x y v u Q I rx ry h.h
theorem op_neH {X : Cx} (hu : X.A.units + 64 < cLine) : OpR X (compareOp .NotEq) (rNeH X.K) := fun pins s σ H x y v u Q I rx ry h => op_neD hu pins s σ H x y v u Q I rx ry h.h
theorem eqD_yes {K : PySem.W.Frag} {H : Hp} {x y : V} {d : PyData} {n : Nat} {Q : VK} (h1 : Dp K H x d) (h2 : Dp K H y d) (hs : Shp n d) (hn : n ≤ 64) (q : Q (.bl true) H) : rEqH K x y H Q :=
  .mk ⟨d, d, h1, h2, hs.ok hn, hs.ok hn, by rw [hs.refl]; exact q⟩
theorem neD_no {K : PySem.W.Frag} {H : Hp} {x y : V} {d : PyData} {n : Nat} {Q : VK} (h1 : Dp K H x d) (h2 : Dp K H y d) (hs : Shp n d) (hn : n ≤ 64) (q : Q (.bl false) H) : rNeH K x y H Q :=
  .mk ⟨d, d, h1, h2, hs.ok hn, hs.ok hn, by rw [hs.refl]; exact q⟩
/-! ### isinstance -/
theorem isi_yes {K : PySem.W.Frag} {H : Hp} {x : V} {T : String} {Q : VK} (h : TyOf K H x (.type T)) (hk : kitB T T = some true) (q : Q (.bl true) H) : rIsH K [x, .ty T] H Q :=
  .mk ⟨x, .ty T, .type T, .type T, true, rfl, .ty T, .base h, kit_ty hk, q⟩
theorem isi_no {K : PySem.W.Frag} {H : Hp} {x : V} {T U : String} {Q : VK} (h : TyOf K H x (.type T)) (hk : kitB T U = some false) (q : Q (.bl false) H) : rIsH K [x, .ty U] H Q :=
  .mk ⟨x, .ty U, .type T, .type U, false, rfl, .ty U, .base h, kit_ty hk, q⟩
theorem kb_int : kitB "int" "int" = some true := by decide +kernel
theorem kb_intbool : kitB "int" "bool" = some false := by decide +kernel
theorem kb_list : kitB "list" "list" = some true := by decide +kernel
theorem kb_tuple : kitB "tuple" "tuple" = some true := by decide +kernel
/-- a loop over enumerate(a list) -/
theorem for_enumL {K : PySem.W.Frag} {a : Addr} {xs : List V} {g : TG} {tb : TS} {D : Ends} {σ : L2.St} {H : Hp} (Pv : Nat → L2.St → Hp → Prop) (h0 : Pv 0 σ H) (hl : ∀ i σ H, i ≤ xs.length → Pv i σ H → SqL K H a xs)
    (hs : ∀ (i : Nat) (x : V) (σ : L2.St) (H : Hp) (T : Addr), xs[i]? = some x → Pv i σ H → H T = none → g (.ref T) σ (upd H T (.tup [.int (i : Nat), x])) fun σ2 H2 => tb { D with nx := Pv (i + 1), ct := Pv (i + 1), bk := D.nx } σ2 H2) (hd : ∀ σ H, Pv xs.length σ H → D.nx σ H) :
    ∃ W : Nat → Nat → L2.St → Hp → Prop, (∃ m, W 0 m σ H) ∧ ∀ i m σ H, W i m σ H →
      ((Ite K a).stop i H ∧ D.nx σ H) ∨ ((Ite K a).go i H ∧ ∃ N : L2.St → Hp → Prop, (∀ σ' H', N σ' H' → ∃ m', m' < m ∧ W (i + 1) m' σ' H') ∧ ∀ v H', (Ite K a).yld i H v H' → g v σ H' fun σ2 H2 => tb { D with nx := N, ct := N, bk := D.nx } σ2 H2) := by
  refine ⟨fun i m σ H => m = xs.length - i ∧ i ≤ xs.length ∧ Pv i σ H, ⟨xs.length, rfl, Nat.zero_le _, h0⟩, ?_⟩
  rintro i m σ H ⟨rfl, hi, p⟩
  have q := hl i σ H hi p
  by_cases c : i < xs.length
  · refine .inr ⟨⟨xs, xs[i], q, List.getElem?_eq_getElem c⟩, Pv (i + 1), fun σ' H' p' => ⟨xs.length - (i + 1), by omega, rfl, c, p'⟩, ?_⟩
    rintro v H' ⟨T, x, rfl, nT, rfl, hx⟩
    exact hs i x σ H T (hx xs q) p nT
  · have e : i = xs.length := by omega
    subst e
    exact .inl ⟨⟨xs, q, Nat.le_refl _⟩, hd σ H p⟩
theorem pe_gc {X : Cx} {x : Str} {pos : Pos} {v : V} (hg : Gl X x) (h : ∃ u, X.mg x = some u ∧ RelV v u) (hd : (x == ("__debug__" : Str)) = false := by decide) : PE X (.Name x pos) (tC v) := by
  obtain ⟨u, hm, r⟩ := h
  exact pe_glob hg hm r hd
theorem glob_int {mg : Str → Option Value} {x : Str} {i : Int} (h : ∃ t, mg x = some (.int i t)) : ∃ u, mg x = some u ∧ RelV (.int i) u := let ⟨t, e⟩ := h; ⟨_, e, t, rfl⟩
theorem cx_none {P : Program} {w : World} {H : Hp} {s s' : Shared} {e : Value} (z : L2.CX P w [] H s (fun _ _ _ => False) e s') : False := by
  obtain ⟨_, _, _, _, _, _, _, _, _, _, _, _, z⟩ := z
  exact z
/-! ### list.insert -/
def rInsert : V → List V → Hp → VK → Prop := fun x vs H Q => ∃ (l : Addr) (xs : List V) (i : Int) (y : V), x = .ref l ∧ vs = [.int i, y] ∧ H l = some (.lst xs) ∧ xs.length < sizeLine ∧ 0 ≤ i ∧ i < 2 ^ 63 ∧ Q .non (upd H l (.lst (xs.take i.toNat ++ [y] ++ xs.drop i.toNat)))
theorem mt_ins {X : Cx} : MtR X "list.insert" rInsert := mt_insert

/-! ### a caught exception's suite, isinstance of it -/
/-- the suite's word, where the exception is of an own class without attributes of its own -/
def tExc (K : PySem.W.Frag) (cls : Value) (d : Option Addr) (t : Addr → TS) : TS := fun D σ H => Hold (∃ C, cls = .ref C ∧ d = none ∧ ExcC K C ∧ t C D σ H)
theorem pss_exc {X : Cx} {cls : Value} {d : Option Addr} {ss : List Stmt} {t : Addr → TS} (h : ∀ C, cls = .ref C → d = none → ExcC X.K C → PSs X ss (t C)) : PSs X ss (tExc X.K cls d t) :=
  ⟨fun pins s σ H D I q => let ⟨C, e1, e2, c, q⟩ := q.h; (h C e1 e2 c).run pins s σ H D I q⟩
def rIsEH (K : PySem.W.Frag) (C a : Addr) : List V → Hp → VK → Prop := fun xs H Q => Hold (rIsE K C a xs H Q)
theorem call_isEH {X : Cx} {a : Addr} {C : Addr} {cls : Value} {d : Option Addr} {oe : Obj} {pn : List (Addr × Obj)} (hC : ExcC X.K C) (e1 : cls = .ref C) (e2 : d = none) (hz : Zc cls d oe) (hf : ∃ vs, oe.data = .fields vs) : CallR (X.suite a ((a, oe) :: pn)) (.builtin "isinstance") (rIsEH X.K C a) :=
  fun pins s σ H xs us Q I r h => call_isE hC (by rw [← e1, ← e2]; exact hz) hf pins s σ H xs us Q I r h.h
theorem isE_own {K : PySem.W.Frag} {C a c : Addr} {b : Bool} {H : Hp} {Q : VK} (h : PySem.W.kitOne K (.ref C) (.ref c) = some b) (q : Q (.bl b) H) : rIsEH K C a [.ref a, .ref c] H Q := .mk ⟨_, .ref c, b, rfl, fun _ r => r, h, q⟩
theorem isE_ty {K : PySem.W.Frag} {C a : Addr} {c : String} {b : Bool} {H : Hp} {Q : VK} (h : PySem.W.kitOne K (.ref C) (.type c) = some b) (q : Q (.bl b) H) : rIsEH K C a [.ref a, .ty c] H Q := .mk ⟨_, .type c, b, rfl, fun _ r => r, h, q⟩
def tTryAs (K : PySem.W.Frag) (c : Value) (i : Nat) (tb : WX → TS) (ts : Addr → Addr → TS) : TS := fun D σ H => tb (wAs K c i (fun a cls d => tExc K cls d (fun C => ts a C)) (fun _ _ _ _ => False) D) D σ H
/-- what is known of a class by its written part -/
structure ClsE (K : PySem.W.Frag) (C : Addr) : Prop where
  bx : PySem.W.subIn K (.ref C) (.type "BaseException") = some true
  hd : PySem.W.hasDictIn K C = true
  ty : PySem.W.typeIn K (.ref C) = some (.type "type")
theorem kit_own {K : PySem.W.Frag} {C D : Addr} {b : Bool} (c : ClsE K C) (h : PySem.W.subIn K (.ref D) (.ref C) = some b) (hs : PySem.W.subIn K (.ref D) (.ref D) = some true) : PySem.W.kitOne K (.ref D) (.ref C) = some b := by
  obtain ⟨cd, hc, _⟩ := PySem.W.any_some c.hd
  unfold PySem.W.kitOne
  by_cases e : D = C
  · subst e
    rw [hs] at h
    rw [if_pos (beq_iff_eq.mpr rfl)]
    exact h
  · rw [if_neg (fun z => e (Value.ref.inj (beq_iff_eq.mp z)))]
    show (if ((PySem.W.clsIn K C).isSome && PySem.W.typeIn K (.ref C) == some (.type "type")) = true then PySem.W.subIn K (.ref D) (.ref C) else none) = some b
    have e3 : ((PySem.W.clsIn K C).isSome && PySem.W.typeIn K (.ref C) == some (.type "type")) = true := by
      rw [hc, c.ty]
      exact beq_self_eq_true (some (Value.type "type"))
    rw [if_pos e3]
    exact h
theorem kit_type {K : PySem.W.Frag} {D : Addr} {T : String} {b : Bool} (hm : PySem.W.kitMeta T = true) (h : PySem.W.subIn K (.ref D) (.type T) = some b) : PySem.W.kitOne K (.ref D) (.type T) = some b := by
  unfold PySem.W.kitOne
  rw [if_neg (fun z => by have := beq_iff_eq.mp z; cases this)]
  show (if PySem.W.kitMeta T = true then PySem.W.subIn K (.ref D) (.type T) else none) = some b
  rw [if_pos hm]
  exact h
theorem meta_ve : PySem.W.kitMeta "ValueError" = true := by decide +kernel
/-- an except clause that meets an exception -/
theorem was {K : PySem.W.Frag} {C c : Addr} {i : Nat} {t : Addr → Addr → TS} {Wout : WX} {D : Ends} {σ : L2.St} {H : Hp} (hx : PySem.W.exmOne K (.ref C) (.ref c) = some true) (hC : ExcC K C)
    (q : ∀ a, H a = none → t a C { nx := fun σ' H' => D.nx (σ'.set i none) H', rt := D.rt, bk := fun σ' H' => D.bk (σ'.set i none) H', ct := fun σ' H' => D.ct (σ'.set i none) H' } (σ.set i (some (.ref a))) H) :
    wAs K (.ref c) i (fun a cls d => tExc K cls d (t a)) Wout D (.ref C) none σ H := ⟨true, hx, fun _ a ha => .mk ⟨C, rfl, rfl, hC, q a ha⟩, fun z => nomatch z⟩
end FW

local macro_rules | `(tactic| walk_at "ne") => `(tactic| first
  | (assumption)
  | (refine' FW.ne_sym ?_; assumption)
  | (refine' L2.ne_of_none ?ka ?kb; (case kb => assumption); (case ka => walk_at "hf"))
  | (refine' FW.ne_sym (L2.ne_of_none ?ka ?kb); (case kb => assumption); (case ka => walk_at "hf"))
  | (refine' L2.ne_of ?ka ?kb ?kc; (case ka => walk_at "hf"); (case kb => walk_at "hf"); (case kc => (intro z; cases z)))
  | (fail "ne"))
local macro_rules | `(tactic| walk_at "hf") => `(tactic| first
  | (assumption)
  | (exact L2.upd_same)
  | (refine' FW.upd_other ?ka ?kb; (case kb => walk_at "hf"); (case ka => walk_at "ne"))
  | (refine' (by assumption : L2.Same _ _) _ _ ?kc; (case kc => walk_at "hf"))
  | (fail "hf"))
local macro_rules | `(tactic| walk_at "sq") => `(tactic| first
  | (assumption)
  | (refine' L2.SqL.of ?ka; (case ka => walk_at "hf"))
  | (refine' FW.sq_new ?ka ?kb; (case ka => assumption); (case kb => walk_at "sq"))
  | (refine' FW.sq_ins ?ka ?kb; (case ka => walk_at "hf"); (case kb => walk_at "sq"))
  | (refine' FW.sq_ne ?ka ?kb; (case ka => walk_at "ne"); (case kb => walk_at "sq"))
  | (refine' L2.Same.seq (by assumption) ?kc; (case kc => walk_at "sq"))
  | (fail "sq"))
local macro_rules | `(tactic| walk_at "st") => `(tactic| first
  | (assumption)
  | (refine' L2.SqT.of ?ka; (case ka => walk_at "hf"))
  | (refine' FW.st_new ?ka ?kb; (case ka => assumption); (case kb => walk_at "st"))
  | (refine' FW.st_lst ?ka ?kb; (case ka => walk_at "hf"); (case kb => walk_at "st"))
  | (refine' FW.st_ins ?ka ?kb; (case ka => walk_at "hf"); (case kb => walk_at "st"))
  | (refine' FW.st_ne ?ka ?kb; (case ka => walk_at "ne"); (case kb => walk_at "st"))
  | (refine' L2.Same.tup (by assumption) ?kc; (case kc => walk_at "st"))
  | (fail "st"))
local macro_rules | `(tactic| walk_at "side") => `(tactic| first
  | (assumption)
  | (exact rfl)
  | (show L2.SqL _ _ _ _; walk_at "sq")
  | (show L2.SqT _ _ _ _; walk_at "st")
  | (show _ ∨ _; first | (refine' Or.inl ?_; walk_at "sq") | (refine' Or.inr ?_; walk_at "st"))
  | (show L2.tyV _ _ _ _; refine' Or.inl (And.intro rfl ?_); apply Exists.intro; walk_at "sq")
  | (show L2.TruV _ (L2.V.ref _) _ _; first | (refine' Or.inl ?_; apply Exists.intro; refine' And.intro ?kq rfl; (case kq => walk_at "sq")) | (refine' Or.inr (Or.inl ?_); apply Exists.intro; refine' And.intro ?kq rfl; (case kq => walk_at "st")))
  | ((with_reducible show _ = some _); walk_at "hf")
  | (apply Exists.intro; first | walk_at "sq" | walk_at "st")
  | ((with_reducible show L2.CPow _ _); exact ⟨by decide, by decide, by decide⟩)
  | ((with_reducible show L2.CDiv _ _); exact ⟨by omega, by omega⟩)
  | ((with_reducible show L2.CMul _ _); first | (exact Or.inr ⟨by omega, by omega⟩) | (exact Or.inl ⟨by omega, by omega⟩))
  | (exact FW.putF_1)
  | (exact FW.putF_2)
  | (decide)
  | (omega)
  | (dsimp only; omega)
  | (dsimp only; decide)
  | (simp only [List.length_cons, List.length_nil, List.length_append, List.length_map, List.length_set, List.length_range]; omega)
  | (refine' FW.small_le ?_; (try simp only [List.length_cons, List.length_nil, List.length_append, List.length_map]); omega)
  | (refine' FW.small_lt ?_; (try simp only [List.length_cons, List.length_nil, List.length_append, List.length_map]); omega))
local macro_rules | `(tactic| walk_at "rd1") => `(tactic| first
  | ((fail_if_success (show ∃ W : Nat → _, _)); apply Exists.intro)
  | (refine And.intro ?ks ?_; (case ks => walk_at "side"))
  | (refine FW.ite_dT ?ks ?_; (case ks => first | (assumption) | (exact rfl) | (omega) | (simp only [List.length_cons, List.length_nil]; omega)))
  | (refine FW.ite_dF ?ks ?_; (case ks => first | (assumption) | (intro z; cases z; done) | (omega) | (simp only [List.length_cons, List.length_nil]; omega)))
  | (refine FW.ite_nT ?ks ?_; (case ks => first | (assumption) | (intro z; cases z; done) | (omega) | (simp only [List.length_cons, List.length_nil]; omega)))
  | (refine FW.ite_nF ?ks ?_; (case ks => first | (assumption) | (exact rfl) | (omega) | (simp only [List.length_cons, List.length_nil]; omega)))
  | (refine L2.iteT ?_)
  | (refine L2.iteF ?_)
  | (refine FW.isi_yes (L2.TyOf.int _) FW.kb_int ?_)
  | (refine FW.isi_no (L2.TyOf.int _) FW.kb_intbool ?_)
  | (refine' FW.isi_yes (L2.TyOf.tup ?ks) FW.kb_tuple ?_; (case ks => walk_at "hf"))
  | (refine' FW.isi_yes (L2.TyOf.lst ?ks) FW.kb_list ?_; (case ks => walk_at "hf"))
  | (refine' FW.isE_own ?ks ?_; (case ks => assumption))
  | (refine' FW.isE_ty ?ks ?_; (case ks => assumption)))
local macro_rules | `(tactic| walk_at "rd") => `(tactic| repeat (walk_at "rd1"))
local macro_rules | `(tactic| walk_at "len") => `(tactic| (intro vs H Q E h; repeat (first | (obtain ⟨e, _⟩ := h; subst e; rfl) | (obtain ⟨_, h⟩ := h))))
/-! Prices: what the defs of fareweb/prices.py promise. -/
namespace FW
open PySem PySem.Spec PyProof.Rows L2

/-- the classes' addresses -/
structure Ad where
  c_FareError : Addr
  c_BadLink : Addr
  c_BadStop : Addr
  c_NoWay : Addr
  c_BadPrices : Addr
  c_BadZones : Addr
  c_PastDay : Addr
  c_Tariff : Addr
  c_Web : Addr
  c_Ledger : Addr

/-- the least of a list -/
def lowL : List Int → Int
  | [] => 0
  | [a] => a
  | a :: b :: r => min a (lowL (b :: r))
theorem lowL_le : ∀ {l : List Int} {x : Int}, x ∈ l → lowL l ≤ x
  | [], _, h => by simp at h
  | [a], x, h => by
    have e : x = a := by simpa using h
    subst e
    exact Int.le_refl _
  | a :: b :: r, x, h => by
    show min a (lowL (b :: r)) ≤ x
    rcases List.mem_cons.mp h with e | h
    · subst e
      omega
    · have := lowL_le (l := b :: r) h
      omega
theorem lowL_mem : ∀ {l : List Int}, l ≠ [] → lowL l ∈ l
  | [], h => absurd rfl h
  | [a], _ => by simp [lowL]
  | a :: b :: r, _ => by
    have ih := lowL_mem (l := b :: r) (by simp)
    show min a (lowL (b :: r)) ∈ _
    by_cases c : a ≤ lowL (b :: r)
    · rw [Int.min_eq_left c]
      exact List.mem_cons_self
    · rw [Int.min_eq_right (by omega)]
      exact List.mem_cons_of_mem _ ih
theorem lowL_is {l : List Int} {m : Int} (h : m ∈ l) (hl : ∀ x ∈ l, m ≤ x) : lowL l = m := by
  have h1 := lowL_le h
  have h2 := hl _ (lowL_mem (by intro e; rw [e] at h; cases h))
  omega
/-- the price at k in a row (from one) -/
def pr (row : List Int) (k : Int) : Int := row.getD (k - 1).toNat 0
/-- the least price for so many zones or more -/
def low (row : List Int) (z : Int) : Int := lowL (row.drop (z - 1).toNat)
theorem pr_mem {row : List Int} {z k : Int} (h1 : 1 ≤ z) (h2 : z ≤ k) (h3 : k ≤ row.length) : pr row k ∈ row.drop (z - 1).toNat := by
  have hk : (k - 1).toNat < row.length := by omega
  unfold pr
  rw [List.getD_eq_getElem?_getD, List.getElem?_eq_getElem hk]
  refine List.mem_iff_getElem?.mpr ⟨(k - 1).toNat - (z - 1).toNat, ?_⟩
  rw [List.getElem?_drop]
  have e : (z - 1).toNat + ((k - 1).toNat - (z - 1).toNat) = (k - 1).toNat := by omega
  rw [e, List.getElem?_eq_getElem hk]
  rfl
theorem mem_pr {row : List Int} {z x : Int} (h1 : 1 ≤ z) (h : x ∈ row.drop (z - 1).toNat) : ∃ k : Int, z ≤ k ∧ k ≤ row.length ∧ pr row k = x := by
  obtain ⟨i, hi⟩ := List.mem_iff_getElem?.mp h
  rw [List.getElem?_drop] at hi
  obtain ⟨hlt, e⟩ := List.getElem?_eq_some_iff.mp hi
  refine ⟨z + i, by omega, by omega, ?_⟩
  unfold pr
  have e2 : (z + (i : Int) - 1).toNat = (z - 1).toNat + i := by omega
  rw [e2, List.getD_eq_getElem?_getD, hi]
  rfl
theorem low_le {row : List Int} {z k : Int} (h1 : 1 ≤ z) (h2 : z ≤ k) (h3 : k ≤ row.length) : low row z ≤ pr row k := lowL_le (pr_mem h1 h2 h3)
theorem low_at {row : List Int} {z : Int} (h1 : 1 ≤ z) (h3 : z ≤ row.length) : ∃ k : Int, z ≤ k ∧ k ≤ row.length ∧ pr row k = low row z := by
  refine mem_pr h1 (lowL_mem fun e => ?_)
  have := pr_mem h1 (Int.le_refl z) h3
  rw [e] at this
  cases this
theorem low_is {row : List Int} {z b : Int} (h1 : 1 ≤ z) (h2 : z ≤ b) (h3 : b ≤ row.length) (hl : ∀ k : Int, z ≤ k → k ≤ row.length → pr row b ≤ pr row k) : low row z = pr row b :=
  lowL_is (pr_mem h1 h2 h3) fun x hx => by
    obtain ⟨k, a, b', rfl⟩ := mem_pr h1 hx
    exact hl k a b'
theorem low_mono {row : List Int} {z y : Int} (h1 : 1 ≤ z) (h2 : z ≤ y) (h3 : y ≤ row.length) : low row z ≤ low row y := by
  obtain ⟨k, a, b, e⟩ := low_at (row := row) (z := y) (by omega) h3
  rw [← e]
  exact low_le h1 (by omega) b
theorem low_nn {row : List Int} {z : Int} (h : ∀ x ∈ row, 0 ≤ x) : 0 ≤ low row z := by
  unfold low
  by_cases e : row.drop (z - 1).toNat = []
  · rw [e]
    exact Int.le_refl _
  · exact h _ (List.mem_of_mem_drop (lowL_mem e))

/-! ### promises -/
def sp_need_zones (K : PySem.W.Frag) (A : Ad) : Sp := fun vs H Q E => ∃ z : Int, vs = [.int z] ∧ (1 ≤ z ∧ z ≤ 5 → Q .non H) ∧ (¬ (1 ≤ z ∧ z ≤ 5) → E (.ref A.c_BadZones) none H)
/-- the row is read; b: for how many zones the cheapest ticket is -/
def sp_cheapest (K : PySem.W.Frag) (A : Ad) : Sp := fun vs H Q E => ∃ (a : Addr) (row : List Int) (z : Int), vs = [.ref a, .int z] ∧ SqL K H a (row.map V.int) ∧ row.length = 5 ∧
  (1 ≤ z ∧ z ≤ 5 → ∀ (b : Int) (p : Addr) (H' : Hp), z ≤ b → b ≤ 5 → pr row b = low row z → Same H H' → H p = none → H' p = some (.tup [.int b, .int (low row z)]) → Q (.ref p) H') ∧
  (¬ (1 ≤ z ∧ z ≤ 5) → E (.ref A.c_BadZones) none H)

theorem f_sd : ¬ (("singles" : Str) = "days") := by decide +kernel
theorem f_sw : ¬ (("singles" : Str) = "weeks") := by decide +kernel
theorem f_dw : ¬ (("days" : Str) = "weeks") := by decide +kernel
/-- the attributes, in the order in which __init__ stores them -/
def tarF (a b c : Addr) : List (Str × V) := putF "weeks" (.ref c) (putF "days" (.ref b) (putF "singles" (.ref a) []))
theorem tarF_s (a b c : Addr) : (tarF a b c).lookup ("singles" : Str) = some (.ref a) := by
  unfold tarF
  rw [lookup_putF, if_neg f_sw, lookup_putF, if_neg f_sd, lookup_putF, if_pos rfl]
theorem tarF_d (a b c : Addr) : (tarF a b c).lookup ("days" : Str) = some (.ref b) := by
  unfold tarF
  rw [lookup_putF, if_neg f_dw, lookup_putF, if_pos rfl]
theorem tarF_w (a b c : Addr) : (tarF a b c).lookup ("weeks" : Str) = some (.ref c) := by
  unfold tarF
  rw [lookup_putF, if_pos rfl]
theorem tarF_no (a b c : Addr) {m : Str} (h1 : ¬ m = "singles") (h2 : ¬ m = "days") (h3 : ¬ m = "weeks") : (tarF a b c).lookup m = none := by
  unfold tarF
  rw [lookup_putF, if_neg h3, lookup_putF, if_neg h2, lookup_putF, if_neg h1]
  rfl
/-- five prices from nought on -/
def Row5 (row : List Int) : Prop := row.length = 5 ∧ ∀ x ∈ row, 0 ≤ x
/-- a tariff stands at p: its three lists at a, b, c -/
structure TarAt (A : Ad) (H : Hp) (p a b c : Addr) (S D W : List Int) : Prop where
  ob : ∃ dx, H p = some (.ins A.c_Tariff dx (tarF a b c))
  hs : H a = some (.lst (S.map V.int))
  hd : H b = some (.lst (D.map V.int))
  hw : H c = some (.lst (W.map V.int))
  rs : Row5 S
  rd : Row5 D
  rw : Row5 W
theorem TarAt.same {A : Ad} {H H' : Hp} {p a b c : Addr} {S D W : List Int} (t : TarAt A H p a b c S D W) (s : Same H H') : TarAt A H' p a b c S D W :=
  ⟨let ⟨dx, e⟩ := t.ob; ⟨dx, s _ _ e⟩, s _ _ t.hs, s _ _ t.hd, s _ _ t.hw, t.rs, t.rd, t.rw⟩
theorem TarAt.dels {A : Ad} {H : Hp} {p a b c : Addr} {S D W : List Int} {hs : List Addr} (t : TarAt A H p a b c S D W) (np : p ∉ hs) (na : a ∉ hs) (nb : b ∉ hs) (nc : c ∉ hs) : TarAt A (dels H hs) p a b c S D W :=
  ⟨let ⟨dx, e⟩ := t.ob; ⟨dx, by rw [dels_out np]; exact e⟩, by rw [dels_out na]; exact t.hs, by rw [dels_out nb]; exact t.hd, by rw [dels_out nc]; exact t.hw, t.rs, t.rd, t.rw⟩
def Tar (A : Ad) (H : Hp) (p : Addr) (S D W : List Int) : Prop := ∃ a b c, TarAt A H p a b c S D W
theorem Tar.same {A : Ad} {H H' : Hp} {p : Addr} {S D W : List Int} (t : Tar A H p S D W) (s : Same H H') : Tar A H' p S D W :=
  let ⟨a, b, c, h⟩ := t; ⟨a, b, c, h.same s⟩
/-- Tariff(singles, days, weeks): three lists of whole numbers; a new tariff with lists of its own, or BadPrices -/
def sp_Tariff_init (K : PySem.W.Frag) (A : Ad) : Sp := fun vs H Q E => ∃ (p dx a b c : Addr) (S D W : List Int), vs = [.ref p, .ref a, .ref b, .ref c] ∧ H p = some (.ins A.c_Tariff dx []) ∧
  SqL K H a (S.map V.int) ∧ SqL K H b (D.map V.int) ∧ SqL K H c (W.map V.int) ∧
  (Row5 S ∧ Row5 D ∧ Row5 W → ∀ (a' b' c' : Addr) (H' : Hp), TarAt A H' p a' b' c' S D W → H a' = none → H b' = none → H c' = none → a' ≠ b' → a' ≠ c' → b' ≠ c' → (∀ x o, H x = some o → x ≠ p → H' x = some o) → Q .non H') ∧
  (¬ (Row5 S ∧ Row5 D ∧ Row5 W) → ∀ H', Same H H' → E (.ref A.c_BadPrices) none H')
def spPrice (K : PySem.W.Frag) (A : Ad) (f : List Int → List Int → List Int → List Int) : Sp := fun vs H Q E => ∃ (p : Addr) (S D W : List Int) (z : Int), vs = [.ref p, .int z] ∧ Tar A H p S D W ∧
  (1 ≤ z ∧ z ≤ 5 → ∀ H', Same H H' → Q (.int (low (f S D W) z)) H') ∧ (¬ (1 ≤ z ∧ z ≤ 5) → E (.ref A.c_BadZones) none H)
def sp_Tariff_single (K : PySem.W.Frag) (A : Ad) : Sp := spPrice K A fun S _ _ => S
def sp_Tariff_day (K : PySem.W.Frag) (A : Ad) : Sp := spPrice K A fun _ D _ => D
def sp_Tariff_week (K : PySem.W.Frag) (A : Ad) : Sp := spPrice K A fun _ _ W => W
/-- what the walk asks of the class -/
structure OkT (K : PySem.W.Frag) (A : Ad) : Prop where
  cl : Cls K A.c_Tariff
  nS : NoAttr K A.c_Tariff "singles"
  nD : NoAttr K A.c_Tariff "days"
  nW : NoAttr K A.c_Tariff "weeks"
theorem tar_s {A : Ad} {H : Hp} {p : Addr} {S D W : List Int} (T : Tar A H p S D W) : ∃ (dx a b c q : Addr), H p = some (.ins A.c_Tariff dx (tarF a b c)) ∧ (tarF a b c).lookup ("singles" : Str) = some (.ref q) ∧ H q = some (.lst (S.map V.int)) ∧ S.length = 5 :=
  let ⟨a, b, c, t⟩ := T; let ⟨dx, e⟩ := t.ob; ⟨dx, a, b, c, a, e, tarF_s a b c, t.hs, t.rs.1⟩
theorem tar_d {A : Ad} {H : Hp} {p : Addr} {S D W : List Int} (T : Tar A H p S D W) : ∃ (dx a b c q : Addr), H p = some (.ins A.c_Tariff dx (tarF a b c)) ∧ (tarF a b c).lookup ("days" : Str) = some (.ref q) ∧ H q = some (.lst (D.map V.int)) ∧ D.length = 5 :=
  let ⟨a, b, c, t⟩ := T; let ⟨dx, e⟩ := t.ob; ⟨dx, a, b, c, b, e, tarF_d a b c, t.hd, t.rd.1⟩
theorem tar_w {A : Ad} {H : Hp} {p : Addr} {S D W : List Int} (T : Tar A H p S D W) : ∃ (dx a b c q : Addr), H p = some (.ins A.c_Tariff dx (tarF a b c)) ∧ (tarF a b c).lookup ("weeks" : Str) = some (.ref q) ∧ H q = some (.lst (W.map V.int)) ∧ W.length = 5 :=
  let ⟨a, b, c, t⟩ := T; let ⟨dx, e⟩ := t.ob; ⟨dx, a, b, c, c, e, tarF_w a b c, t.hw, t.rw.1⟩
/-- isinstance of an exception of the class D: which of the classes take it (all of them FareError and ValueError) -/
structure IsX (K : PySem.W.Frag) (A : Ad) (D : Addr) (l s n p z d : Bool) : Prop where
  c : ExcC K D
  x : PySem.W.exmOne K (.ref D) (.ref A.c_FareError) = some true
  f : PySem.W.kitOne K (.ref D) (.ref A.c_FareError) = some true
  v : PySem.W.kitOne K (.ref D) (.type "ValueError") = some true
  l : PySem.W.kitOne K (.ref D) (.ref A.c_BadLink) = some l
  s : PySem.W.kitOne K (.ref D) (.ref A.c_BadStop) = some s
  n : PySem.W.kitOne K (.ref D) (.ref A.c_NoWay) = some n
  p : PySem.W.kitOne K (.ref D) (.ref A.c_BadPrices) = some p
  z : PySem.W.kitOne K (.ref D) (.ref A.c_BadZones) = some z
  d : PySem.W.kitOne K (.ref D) (.ref A.c_PastDay) = some d
end FW

namespace FW
open PySem PySem.Spec PyProof.Rows L2
def N_need_zones : List Str := ["zones"]
def t_need_zones (K : PySem.W.Frag) (A : Ad) (E : XK) : TS :=
 tIfS (tOr (tTest (tOp rLtI (tVar 0) (tC (.int 1)))) (tTest (tOp rGtI (tVar 0) (tC (.int 5))))) (tRaise E (.ref A.c_BadZones)) (tNext)
def N_cheapest : List Str := ["row", "zones", "best", "size"]
def t_cheapest (K : PySem.W.Frag) (A : Ad) (E : XK) : TS :=
 tSeq (tDrop (tCall (sp_need_zones K A) [] E (tCons (tVar 1) (tNil))))
 (tSeq (tAsg (tVar 1) (gName 2))
 (tSeq (tFor (iRng2 (tCons (tVar 1) (tCons (tOp rAdd (tC (.int 5)) (tC (.int 1))) (tNil)))) (gName 3) (tIfS (tTest (tOp rLtI (tOp (rIxL K) (tVar 0) (tOp rSub (tVar 3) (tC (.int 1)))) (tOp (rIxL K) (tVar 0) (tOp rSub (tVar 2) (tC (.int 1)))))) (tAsg (tVar 3) (gName 2)) (tNext)))
 (tRet (tTup (tCons (tVar 2) (tCons (tOp (rIxL K) (tVar 0) (tOp rSub (tVar 2) (tC (.int 1)))) (tNil)))))))
def N_Tariff_init : List Str := ["self", "singles", "days", "weeks", "row"]
def t_Tariff_init (K : PySem.W.Frag) (A : Ad) (E : XK) : TS :=
 tSeq (tFor (iList K (tLst (tCons (tVar 1) (tCons (tVar 2) (tCons (tVar 3) (tNil)))))) (gName 4) (tIfS (tOr (tTest (tOp rNe (tCB (rLenS K) (tCons (tVar 4) (tNil))) (tC (.int 5)))) (tTest (tOp rLtI (tCB (rMin K) (tCons (tVar 4) (tNil))) (tC (.int 0))))) (tRaise E (.ref A.c_BadPrices)) (tNext)))
 (tSeq (sFld K (tVar 0) (tCB (rListS K) (tCons (tVar 1) (tNil))) "singles")
 (tSeq (sFld K (tVar 0) (tCB (rListS K) (tCons (tVar 2) (tNil))) "days")
 (sFld K (tVar 0) (tCB (rListS K) (tCons (tVar 3) (tNil))) "weeks")))
def N_Tariff_single : List Str := ["self", "zones"]
def t_Tariff_single (K : PySem.W.Frag) (A : Ad) (E : XK) : TS :=
 tRet (tOp (rIxT K) (tCall (sp_cheapest K A) [] E (tCons (tFld K (tVar 0) "singles") (tCons (tVar 1) (tNil)))) (tC (.int 1)))
def N_Tariff_day : List Str := ["self", "zones"]
def t_Tariff_day (K : PySem.W.Frag) (A : Ad) (E : XK) : TS :=
 tRet (tOp (rIxT K) (tCall (sp_cheapest K A) [] E (tCons (tFld K (tVar 0) "days") (tCons (tVar 1) (tNil)))) (tC (.int 1)))
def N_Tariff_week : List Str := ["self", "zones"]
def t_Tariff_week (K : PySem.W.Frag) (A : Ad) (E : XK) : TS :=
 tRet (tOp (rIxT K) (tCall (sp_cheapest K A) [] E (tCons (tFld K (tVar 0) "weeks") (tCons (tVar 1) (tNil)))) (tC (.int 1)))
end FW

/-! Prices: the readings. -/
namespace FW
open PySem PySem.Spec PyProof.Rows L2
section
variable {K : PySem.W.Frag} {A : Ad} {vs : List V} {H : Hp} {Q : VK} {E : XK}
theorem rd_need_zones (h : sp_need_zones K A vs H Q E) : t_need_zones K A E { nx := fun _ H' => Q .non H', rt := Q } (start N_need_zones vs) H := by
  obtain ⟨z, rfl, k1, k2⟩ := h
  unfold t_need_zones
  walk_at "rd"
  refine ite_d (fun c => ?_) (fun c => ?_)
  · walk_at "rd"
    exact k2 (by omega)
  · walk_at "rd"
    refine ite_d (fun c2 => ?_) (fun c2 => ?_)
    · exact k2 (by omega)
    · exact k1 (by omega)
theorem rd_cheapest (h : sp_cheapest K A vs H Q E) : t_cheapest K A E { nx := fun _ H' => Q .non H', rt := Q } (start N_cheapest vs) H := by
  obtain ⟨a, row, z, rfl, hS, hl, k1, k2⟩ := h
  unfold t_cheapest
  walk_at "rd"
  refine ⟨fun hz => ?_, k2⟩
  walk_at "rd"
  refine for_range (lo := z) (n := (5 + 1 - z).toNat) (fun i σ H' => H' = H ∧ ∃ (b : Int) (o : Option V), σ = [some (.ref a), some (.int z), some (.int b), o] ∧ z ≤ b ∧ b ≤ 5 ∧ ∀ k : Int, z ≤ k → k < z + i → pr row b ≤ pr row k) ⟨rfl, z, none, rfl, Int.le_refl _, hz.2, fun k h1 h2 => absurd h2 (by omega)⟩ ?_ ?_
  · rintro i σ H' hi ⟨rfl, b, o, rfl, h1, h2, h3⟩
    have e1 : atI (row.map V.int) (z + (i : Int) - 1) = some (V.int (pr row (z + i))) := atI_map (by omega) (by omega)
    have e2 : atI (row.map V.int) (b - 1) = some (V.int (pr row b)) := atI_map (by omega) (by omega)
    walk_at "rd"
    refine ite_d (fun c => ?_) (fun c => ?_)
    · refine ⟨_, rfl, rfl, z + i, _, rfl, by omega, by omega, fun k g1 g2 => ?_⟩
      by_cases e : k = z + i
      · rw [e]
        exact Int.le_refl _
      · have := h3 k g1 (by omega)
        omega
    · refine ⟨rfl, b, _, rfl, by omega, by omega, fun k g1 g2 => ?_⟩
      by_cases e : k = z + i
      · rw [e]
        omega
      · exact h3 k g1 (by omega)
  · rintro σ H' ⟨rfl, b, o, rfl, h1, h2, h3⟩
    have e2 : atI (row.map V.int) (b - 1) = some (V.int (pr row b)) := atI_map (by omega) (by omega)
    have el : low row z = pr row b := low_is hz.1 h1 (by omega) fun k g1 g2 => h3 k g1 (by omega)
    walk_at "rd"
    intro p hp
    refine k1 hz b p _ h1 h2 el.symm (Same.new hp) hp ?_
    rw [el]
    exact upd_same
/-- is the row good? asked of each of the three rows -/
theorem rd_Tariff_init (O : OkT K A) (h : sp_Tariff_init K A vs H Q E) : t_Tariff_init K A E { nx := fun _ H' => Q .non H', rt := Q } (start N_Tariff_init vs) H := by
  obtain ⟨p, dx, a, b, c, S, D, W, rfl, hp, hS, hD, hW, k1, k2⟩ := h
  unfold t_Tariff_init
  walk_at "rd"
  intro l hl
  walk_at "rd"
  have nlp : p ≠ l := ne_of_none hp hl
  have aux : ∀ (i : Nat) (x : V), ([.ref a, .ref b, .ref c] : List V)[i]? = some x → ∃ (q : Addr) (r : List Int), x = V.ref q ∧ SqL K H q (r.map V.int) ∧ [S, D, W][i]? = some r := by
    intro i x hx
    match i, hx with
    | 0, hx => cases hx; exact ⟨a, S, rfl, hS, rfl⟩
    | 1, hx => cases hx; exact ⟨b, D, rfl, hD, rfl⟩
    | 2, hx => cases hx; exact ⟨c, W, rfl, hW, rfl⟩
    | i + 3, hx => simp at hx
  have all : (∀ r ∈ [S, D, W], Row5 r) ↔ (Row5 S ∧ Row5 D ∧ Row5 W) := by simp
  have S1 : Same H (upd H l (.lst [.ref a, .ref b, .ref c])) := Same.new hl
  generalize hH1 : upd H l (.lst [.ref a, .ref b, .ref c]) = H1 at *
  have hl1 : H1 l = some (.lst [.ref a, .ref b, .ref c]) := by rw [← hH1]; exact upd_same
  refine for_list (K := K) (a := l) (xs := [.ref a, .ref b, .ref c]) (fun i σ H' => H' = H1 ∧ ∃ o : Option V, σ = [some (.ref p), some (.ref a), some (.ref b), some (.ref c), o] ∧ ∀ r ∈ [S, D, W].take i, Row5 r) ⟨rfl, none, rfl, fun r hr => by simp at hr⟩ ?_ ?_ ?_
  · rintro i σ H' _ ⟨rfl, _⟩
    walk_at "sq"
  · rintro i x σ H' hx ⟨rfl, o, rfl, hr⟩
    obtain ⟨q, r, rfl, hq, hri⟩ := aux i x hx
    have hq1 := S1.seq hq
    have mem : r ∈ [S, D, W] := List.mem_iff_getElem?.mpr ⟨i, hri⟩
    have nx : Row5 r → ∀ r' ∈ [S, D, W].take (i + 1), Row5 r' := fun h5 r' h' => by
      rw [List.take_add_one, hri] at h'
      rcases List.mem_append.mp h' with h' | h'
      · exact hr r' h'
      · have : r' = r := by simpa using h'
        rw [this]
        exact h5
    walk_at "rd"
    refine ite_n (fun c1 => ?_) (fun c1 => ?_)
    · refine k2 (fun z => ?_) _ S1
      have h5 := (all.mpr z r mem).1
      exact c1 (by rw [List.length_map, h5]; rfl)
    · have h5 : r.length = 5 := by
        have := V.int.inj c1
        rw [List.length_map] at this
        omega
      walk_at "rd"
      intro m hm hle
      walk_at "rd"
      refine ite_d (fun c2 => ?_) (fun c2 => ?_)
      · refine k2 (fun z => ?_) _ S1
        have := (all.mpr z r mem).2 m hm
        omega
      · exact ⟨rfl, _, rfl, nx ⟨h5, fun x hx => by have := hle x hx; omega⟩⟩
  · rintro σ H' ⟨rfl, o, rfl, hr⟩
    have all5 := all.mp hr
    have hp1 : H' p = some (.ins A.c_Tariff dx []) := S1 _ _ hp
    have hS1 := S1.seq hS
    have hD1 := S1.seq hD
    have hW1 := S1.seq hW
    have clT := O.cl
    have nS := O.nS
    have nD := O.nD
    have nW := O.nW
    walk_at "rd"
    intro a' ha'
    have npa : p ≠ a' := ne_of_none hp1 ha'
    walk_at "rd"
    intro b' hb'
    have nba : b' ≠ a' := fun e => by
      rw [e, upd_ne (ne_sym npa), upd_same] at hb'
      cases hb'
    have npb : p ≠ b' := fun e => by
      rw [← e, upd_same] at hb'
      cases hb'
    have hb0 : H' b' = none := by rw [upd_ne (ne_sym npb), upd_ne nba] at hb'; exact hb'
    walk_at "rd"
    intro c' hc'
    have npc : p ≠ c' := fun e => by
      rw [← e, upd_same] at hc'
      cases hc'
    rw [upd_ne (ne_sym npc)] at hc'
    have nbc : c' ≠ b' := fun e => by
      rw [e, upd_same] at hc'
      cases hc'
    rw [upd_ne nbc, upd_ne (ne_sym npc)] at hc'
    have nac : c' ≠ a' := fun e => by
      rw [e, upd_same] at hc'
      cases hc'
    rw [upd_ne nac] at hc'
    have nap := ne_sym npa
    have nbp := ne_sym npb
    have ncp := ne_sym npc
    have nab := ne_sym nba
    have ncb := ne_sym nbc
    have nca := ne_sym nac
    walk_at "rd"
    refine k1 all5 a' b' c' _ ⟨⟨dx, upd_same⟩, by walk_at "hf", by walk_at "hf", by walk_at "hf", all5.1, all5.2.1, all5.2.2⟩ (S1.free ha') (S1.free hb0) (S1.free hc') nab nca ncb fun x o hx hxp => ?_
    have h1 := S1 _ _ hx
    have n1 := ne_of_none h1 ha'
    have n2 := ne_of_none h1 hb0
    have n3 := ne_of_none h1 hc'
    walk_at "hf"
theorem rd_price {f : List Int → List Int → List Int → List Int} {n : Str} (O : OkT K A) (hf : ∀ {H : Hp} {p : Addr} {S D W : List Int}, Tar A H p S D W → ∃ (dx a b c q : Addr), H p = some (.ins A.c_Tariff dx (tarF a b c)) ∧ (tarF a b c).lookup n = some (.ref q) ∧ H q = some (.lst ((f S D W).map V.int)) ∧ (f S D W).length = 5)
    (nn : NoAttr K A.c_Tariff n) (h : spPrice K A f vs H Q E) :
    tRet (tOp (rIxT K) (tCall (sp_cheapest K A) [] E (tCons (tFld K (tVar 0) n) (tCons (tVar 1) (tNil)))) (tC (.int 1))) { nx := fun _ H' => Q .non H', rt := Q } (start ["self", "zones"] vs) H := by
  obtain ⟨p, S, D, W, z, rfl, T, k1, k2⟩ := h
  obtain ⟨dx, a, b, c, q, h1, h2, h3, h4⟩ := hf T
  have cl := O.cl
  walk_at "rd"
  refine ⟨fun hz b p2 H' g1 g2 g3 g4 g5 g6 => ?_, k2⟩
  walk_at "rd"
  exact k1 hz _ g4
theorem rd_Tariff_single (O : OkT K A) (h : sp_Tariff_single K A vs H Q E) : t_Tariff_single K A E { nx := fun _ H' => Q .non H', rt := Q } (start N_Tariff_single vs) H := rd_price O tar_s O.nS h
theorem rd_Tariff_day (O : OkT K A) (h : sp_Tariff_day K A vs H Q E) : t_Tariff_day K A E { nx := fun _ H' => Q .non H', rt := Q } (start N_Tariff_day vs) H := rd_price O tar_d O.nD h
theorem rd_Tariff_week (O : OkT K A) (h : sp_Tariff_week K A vs H Q E) : t_Tariff_week K A E { nx := fun _ H' => Q .non H', rt := Q } (start N_Tariff_week vs) H := rd_price O tar_w O.nW h
end
end FW

/-! set(xs) of a list of whole numbers; list(reversed(xs)). -/
namespace FW
open PySem PySem.Spec PyProof.Rows L2
section
variable {P : Program} {w : World} {A : Around} {E : Value → Shared → Prop} {s : Shared}
/-- the empty set's object, as the model makes it -/
abbrev set0 (w : World) : Obj := { cls := .type "set", dict := none, data := .set #[] 0 (.fresh 0 0 (!w.params.followText "set-order")) }
set_option maxHeartbeats 6400000 in
theorem call_setL {l : Addr} {xs : Array Value} (ns : List Int) {Q : Value → Shared → Prop} (calm : A.handled = none) (isl : s.heap.IsList l xs) (wh : IntsAre xs.toList ns) (few : ns.length + 1 < scanBound)
    (fin : ∀ (g : Heap) (tk c : Nat), SetR w g s.heap.objs.size (fun j => decide (j ∈ ns)) c → (∀ b o, s.heap.get? b = some o → g.get? b = some o) → Q (.ref s.heap.objs.size) { s with heap := g, toks := tk }) :
    wpAny (model P w) A (call (.type "set") [.ref l]) Q E s := by
  have esz : xs.size = ns.length := by have q := IntsAre.length wh; rw [Array.length_toList] at q; exact q
  have mro := PySem.F.called_set.mro
  obtain ⟨mc, mt, hmro⟩ := mro
  have made := PySem.F.called_set.made
  have subs := PySem.F.called_set.sub
  refine wpAny_call (codeAny_of_tree ?_)
  show wpAny _ _ (callAny (Value.type "set") _) _ _ _
  refine wpAny_pure ⟨Code.quiet_builtin _ (by decide +kernel), codeAny_builtin PySem.F.entry_type_call ?_⟩
  rw [Around.under_plain (weight_type_call_type "set" [Value.ref l] []) rfl]
  have nt := PySem.F.called_set.notType
  have cc := PySem.F.called_set.canCreate
  have tc := PySem.F.typeCall_set_1 (.ref l)
  repeat (any_goals (first | assumption | wp_step))
  refine codeAny_mono (code_set_led1 (w := w) (.ref l) (E := E) (Q₁ := fun v s1 => v = .ref s.heap.objs.size ∧ s1 = { s with heap := s.heap.push (set0 w) }) ⟨rfl, rfl⟩) fun r s1 hr => ?_
  cases r with
  | error e => exact hr
  | ok fl =>
    cases fl with
    | ret ob =>
      obtain ⟨rfl, rfl⟩ := hr
      have at0 : (s.heap.push (set0 w)).get? s.heap.objs.size = some (set0 w) := Heap.get?_push_size _ rfl
      have ty0 : Shared.TypeIs { s with heap := s.heap.push (set0 w) } (.ref s.heap.objs.size) "set" := ⟨_, at0, rfl⟩
      have lk0 := PySem.F.called_set.init.lookup
      have bd0 := PySem.F.called_set.init.bind (.ref s.heap.objs.size)
      repeat (any_goals (first | assumption | wp_step))
      refine codeAny_mono (codeAny_call_builtin (R := wants (fun r s2 => r = .none ∧ ∃ g tk c, s2 = { s with heap := g, toks := tk } ∧ SetR w g s.heap.objs.size (fun j => decide (j ∈ ns)) c ∧ ∀ b o, s.heap.get? b = some o → g.get? b = some o) E)
        PySem.F.called_set.init.plain PySem.F.entry_set_init (check_set_init_1 ty0 ?_)) fun r2 s2 hr2 => ?_
      · obtain ⟨ol, atl, ccl, nl, dtl⟩ := isl
        obtain ⟨k1, k2, k3, k4⟩ := ol
        simp only at ccl dtl
        subst ccl dtl
        have at1 : (s.heap.push (set0 w)).get? l = some { cls := .type "list", dict := k2, data := .seq xs nl, slots := k4 } := Heap.get?_push_of_some _ atl
        have sub1 := PySem.F.sub_list_set
        have sub2 := PySem.F.sub_list_frozenset
        have ned : (Value.type "list" == Value.type "dict") = false := by decide
        have isl1 : (s.heap.push (set0 w)).IsList l xs := ⟨_, at1, rfl, nl, rfl⟩
        unfold Builtin.«set.__init__» noKeywords Builtin.Frozenset.updateFrom
        generalize hPI : pyIter = PI
        wp_walk
        subst hPI
        refine wpAny_pyIter_list isl1 ?_
        refine wpAny_bind (wpAny_runValue ?_)
        have ltl : l < s.heap.objs.size := Heap.lt_size atl
        have calm3 : A.in1.in1.in1.handled = none := by simp [calm]
        have szp : (s.heap.push (set0 w)).objs.size = s.heap.objs.size + 1 := Heap.size_push ..
        have nel : l ≠ (s.heap.push (set0 w)).objs.size := by rw [szp]; exact Nat.ne_of_lt (Nat.lt_succ_of_lt ltl)
        have nin : s.heap.objs.size ∉ [(s.heap.push (set0 w)).objs.size, l] := by
          intro m
          rcases List.mem_cons.mp m with m | m
          · rw [szp] at m; omega
          · have : s.heap.objs.size = l := by simpa using m
            exact Nat.ne_of_gt ltl this
        have vals : ∀ (i : Nat) (v : Value), xs[i]? = some v → ∃ k t, ns[i]? = some k ∧ v = .int k t := fun i v hv => by
          have hi : i < ns.length := by rw [← esz]; exact (Array.getElem?_eq_some_iff.mp hv).1
          obtain ⟨t, e⟩ := PyProof.Rows.IntsAre.int_at wh i v (by rw [Array.getElem?_toList]; exact hv)
          refine ⟨ns[i], t, List.getElem?_eq_getElem hi, ?_⟩
          rw [e, List.getD_eq_getElem?_getD, List.getElem?_eq_getElem hi]
          rfl
        refine set_update_ints ((Walks.list calm3 _ l nel xs).toS) s.heap.objs.size nin ns esz few vals (xs.size - 0) 0 _ (by omega) (Nat.zero_le _) ⟨⟨_, Heap.get?_push_size _ rfl, rfl, rfl⟩, isl1.push _⟩ ?c0 ?c1
        case c0 => exact ⟨0, Nat.le_refl 0, setR_new_at (Heap.get?_push_of_some _ at0)⟩
        case c1 =>
          intro s9 c9 mv _ R9
          obtain ⟨g9, gn9, dr9, tk9, os9⟩ := s9
          have q1 : gn9 = s.gens := mv.gens
          have q2 : dr9 = s.drawn := mv.drawn
          have q3 : os9 = s.os := mv.os
          subst q1 q2 q3
          show wpAny _ _ _ _ _ _
          refine wpAny_pure ?_
          show wpAny _ _ (ret Value.none) _ _ _
          refine wpAny_pure ⟨rfl, g9, tk9, c9, rfl, R9, fun b o e => ?_⟩
          have lb : b < s.heap.objs.size := Heap.lt_size e
          refine mv.heap b o (fun m => ?_) (Heap.get?_push_of_some _ (Heap.get?_push_of_some _ e))
          rcases List.mem_cons.mp m with m | m
          · exact Nat.ne_of_lt lb m
          · have : b = (s.heap.push (set0 w)).objs.size := by simpa using m
            rw [szp] at this
            exact Nat.ne_of_lt (Nat.lt_succ_of_lt lb) this
      · cases r2 with
        | error e => exact hr2
        | ok fl2 =>
          cases fl2 with
          | ret r =>
            obtain ⟨rfl, g, tk, c, rfl, R, kp⟩ := hr2
            repeat (any_goals (first | assumption | wp_step))
            exact fin _ _ _ R kp
          | _ => exact hr2.elim
    | _ => exact hr.elim
end
/-- set(xs): its members once each in out -/
def rSetI (K : PySem.W.Frag) (w : World) : List V → Hp → VK → Prop := fun vs H Q => ∃ (a : Addr) (ns : List Int), vs = [.ref a] ∧ SqL K H a (ns.map V.int) ∧ ns.length ≤ 1000 ∧
  ∀ (p : Addr) (out : List Int), H p = none → out.Nodup → (∀ k, k ∈ out ↔ k ∈ ns) → Q (.ref p) (upd H p (SetO w p (fun j => decide (j ∈ ns)) out.length))
theorem cr_setI {X : Cx} (hc : X.calm = true) : CallR X (.type "set") (rSetI X.K X.w) := by
  intro pins s σ H vs us Q I r h
  obtain ⟨a, ns, rfl, hS, hl, q⟩ := h
  rw [Vals.ref1 r]
  obtain ⟨its, rv, pl, hz⟩ := I.list hS
  refine call_setL ns (I.ok.hd hc) pl.isList (by simpa using ints_of_vals rv) (by unfold scanBound; omega) fun g tk c R kp => ?_
  obtain ⟨o, es, ep, t, ho, ex, hd, good, nd, mem, sz, fits, en, ris, led⟩ := id R
  have nn : H s.heap.objs.size = none := I.hok.fresh (Nat.le_refl _)
  have e1 : c = (es.toList.map keyOf).length := by rw [List.length_map, Array.length_toList, en]
  rw [e1] at R
  have J : Inv X pins σ (upd H s.heap.objs.size (SetO X.w s.heap.objs.size (fun j => decide (j ∈ ns)) (es.toList.map keyOf).length)) { s with heap := g, gens := s.gens, drawn := s.drawn, toks := tk } :=
    I.call (ch := []) (Un.laid kp (Nat.le_refl _) nn) (I.hok.laid kp (Nat.le_refl _) (setO_new R)) I.bare (fun _ z => nomatch z)
  exact ⟨.ref _, _, J, rfl, q _ _ nn nd fun k => by rw [← mem k]; simp⟩
end FW

/-! Covers: what the defs of fareweb/covers.py promise. -/
namespace FW
open PySem PySem.Spec PyProof.Rows L2

/-- a ticket: of a week, of a day, a single -/
inductive Tk where
  | wk (z p : Int)
  | dy (d z p : Int)
  | sg (d r z p : Int)
def Tk.vals : Tk → List V
  | .wk z p => [.str "week", .int z, .int p]
  | .dy d z p => [.str "day", .int d, .int z, .int p]
  | .sg d r z p => [.str "single", .int d, .int r, .int z, .int p]
def Tk.price : Tk → Int
  | .wk _ p => p
  | .dy _ _ p => p
  | .sg _ _ _ p => p
def tkCost (ts : List Tk) : Int := (ts.map Tk.price).sum
theorem tkCost_nil : tkCost [] = 0 := rfl
theorem tkCost_cons (t : Tk) (ts : List Tk) : tkCost (t :: ts) = t.price + tkCost ts := by
  unfold tkCost
  rw [List.map_cons, List.sum_cons]
theorem tkCost_append (a b : List Tk) : tkCost (a ++ b) = tkCost a + tkCost b := by
  unfold tkCost
  rw [List.map_append, List.sum_append]
/-- the tickets stand at these places -/
abbrev TkL (H : Hp) (xs : List V) (ts : List Tk) : Prop := Paired (fun v t => ∃ q, v = V.ref q ∧ H q = some (.tup t.vals)) xs ts
theorem TkL.same {H H' : Hp} (s : Same H H') : ∀ {xs : List V} {ts : List Tk}, TkL H xs ts → TkL H' xs ts
  | _, _, .nil => .nil
  | _, _, .cons ⟨q, e, h⟩ r => .cons ⟨q, e, s _ _ h⟩ (TkL.same s r)
theorem TkL.upd {H : Hp} {R : Addr} {ys : List V} {o : HO} (hR : H R = some (.lst ys)) : ∀ {xs : List V} {ts : List Tk}, TkL H xs ts → TkL (L2.upd H R o) xs ts
  | _, _, .nil => .nil
  | _, _, .cons ⟨q, e, h⟩ r => .cons ⟨q, e, by rw [upd_ne (ne_of h hR (by intro z; cases z))]; exact h⟩ (TkL.upd hR r)
theorem TkL.del {H : Hp} {R : Addr} {ys : List V} (hR : H R = some (.lst ys)) : ∀ {xs : List V} {ts : List Tk}, TkL H xs ts → TkL (FW.del H R) xs ts
  | _, _, .nil => .nil
  | _, _, .cons ⟨q, e, h⟩ r => .cons ⟨q, e, by rw [del_ne (ne_of h hR (by intro z; cases z))]; exact h⟩ (TkL.del hR r)
theorem TkL.snoc {H : Hp} {xs : List V} {ts : List Tk} {q : Addr} {t : Tk} (a : TkL H xs ts) (h : H q = some (.tup t.vals)) : TkL H (xs ++ [.ref q]) (ts ++ [t]) := Paired.snoc a ⟨q, rfl, h⟩
theorem TkL.app {H : Hp} : ∀ {xs ys : List V} {ts us : List Tk}, TkL H xs ts → TkL H ys us → TkL H (xs ++ ys) (ts ++ us)
  | _, _, _, _, .nil, b => b
  | _, _, _, _, .cons h r, b => .cons h (TkL.app r b)
theorem TkL.len {H : Hp} {xs : List V} {ts : List Tk} (a : TkL H xs ts) : xs.length = ts.length := Paired.length a
theorem Tk.inj {t u : Tk} (h : t.vals = u.vals) : t = u := by
  cases t <;> cases u <;> simp only [Tk.vals, List.cons.injEq, V.int.injEq, and_true, true_and, reduceCtorEq, and_false, false_and] at h
  · obtain ⟨a, b⟩ := h; rw [a, b]
  · obtain ⟨a, b, c⟩ := h; rw [a, b, c]
  · obtain ⟨a, b, c, d⟩ := h; rw [a, b, c, d]
theorem TkL.inj {H : Hp} : ∀ {xs : List V} {ts us : List Tk}, TkL H xs ts → TkL H xs us → ts = us
  | _, _, _, .nil, .nil => rfl
  | _, _, _, .cons ⟨q, e, h⟩ r, .cons ⟨q2, e2, h2⟩ r2 => by
    rw [e] at e2
    cases e2
    have e3 := h.symm.trans h2
    rw [Tk.inj (HO.tup.inj (Option.some.inj e3)), TkL.inj r r2]
theorem TkL.get {H : Hp} : ∀ {xs : List V} {ts : List Tk} {i : Nat} {x : V}, TkL H xs ts → xs[i]? = some x → ∃ t q, ts[i]? = some t ∧ x = .ref q ∧ H q = some (.tup t.vals)
  | _, _, _, _, .nil, h => by simp at h
  | _, _, 0, x, .cons ⟨q, e, h⟩ r, hx => ⟨_, q, rfl, by rw [← e]; exact (Option.some.inj hx).symm, h⟩
  | _, _, i + 1, x, .cons _ r, hx => TkL.get (i := i) r hx

/-! ### the least cost -/
/-- what the singles cost of the rides that are not served up to m zones -/
def sgSum (S : List Int) (m : Int) (rides : List Int) : Int := ((rides.filter fun z => decide (m < z)).map (low S)).sum
def ownCost (D : List Int) (own : Int) : Int := if 0 < own then low D own else 0
def dayCost (S D : List Int) (held : Int) (rides : List Int) (own : Int) : Int := ownCost D own + sgSum S (max held own) rides
def dayBest (S D : List Int) (held : Int) (rides : List Int) : Int := lowL ((0 :: rides).map (dayCost S D held rides))
def weekCost (S D W : List Int) (days : List (List Int)) (held : Int) : Int := ownCost W held + (days.map (dayBest S D held)).sum
def weekBest (S D W : List Int) (days : List (List Int)) : Int := lowL ((0 :: days.flatten).map (weekCost S D W days))
def In5 (z : Int) : Prop := 1 ≤ z ∧ z ≤ 5
instance (z : Int) : Decidable (In5 z) := by unfold In5; infer_instance

/-! ### which tickets are told -/
structure DayOk (S D : List Int) (d held : Int) (rides : List Int) (ts : List Tk) : Prop where
  ok : ∀ t ∈ ts, (∃ z, t = .dy d z (pr D z) ∧ In5 z) ∨ ∃ (r : Nat) (z : Int), t = .sg d r z (pr S z) ∧ r < rides.length ∧ In5 z
  served : ∀ (r : Nat) (z : Int), rides[r]? = some z → z ≤ held ∨ (∃ y, .dy d y (pr D y) ∈ ts ∧ z ≤ y) ∨ ∃ y, .sg d r y (pr S y) ∈ ts ∧ z ≤ y
structure WeekOk (S D W : List Int) (days : List (List Int)) (ts : List Tk) : Prop where
  ok : ∀ t ∈ ts, (∃ z, t = .wk z (pr W z) ∧ In5 z) ∨ (∃ (d : Nat) (z : Int), t = .dy d z (pr D z) ∧ d < days.length ∧ In5 z) ∨
    ∃ (d r : Nat) (z : Int) (rides : List Int), t = .sg d r z (pr S z) ∧ days[d]? = some rides ∧ r < rides.length ∧ In5 z
  served : ∀ (d r : Nat) (rides : List Int) (z : Int), days[d]? = some rides → rides[r]? = some z → (∃ y, .wk y (pr W y) ∈ ts ∧ z ≤ y) ∨ (∃ y, .dy d y (pr D y) ∈ ts ∧ z ≤ y) ∨ ∃ y, .sg d r y (pr S y) ∈ ts ∧ z ≤ y

/-! ### the heap: a list of lists of whole numbers -/
structure LLAt (K : PySem.W.Frag) (H : Hp) (a : Addr) (ps : List Addr) (days : List (List Int)) : Prop where
  sq : SqL K H a (ps.map V.ref)
  len : ps.length = days.length
  at_ : ∀ (i : Nat) (p : Addr) (r : List Int), ps[i]? = some p → days[i]? = some r → H p = some (.lst (r.map V.int))
theorem LLAt.same {K : PySem.W.Frag} {H H' : Hp} {a : Addr} {ps : List Addr} {days : List (List Int)} (l : LLAt K H a ps days) (s : Same H H') : LLAt K H' a ps days :=
  ⟨s.seq l.sq, l.len, fun i p r h1 h2 => s _ _ (l.at_ i p r h1 h2)⟩
def LL (K : PySem.W.Frag) (H : Hp) (a : Addr) (days : List (List Int)) : Prop := ∃ ps, LLAt K H a ps days
theorem LL.same {K : PySem.W.Frag} {H H' : Hp} {a : Addr} {days : List (List Int)} (l : LL K H a days) (s : Same H H') : LL K H' a days := let ⟨ps, h⟩ := l; ⟨ps, h.same s⟩

/-! ### promises -/
def sp_cost_of (K : PySem.W.Frag) (A : Ad) : Sp := fun vs H Q _ => ∃ (a : Addr) (xs : List V) (ts : List Tk), vs = [.ref a] ∧ SqL K H a xs ∧ TkL H xs ts ∧ xs.length ≤ 40000 ∧ ∀ H', Same H H' → Q (.int (tkCost ts)) H'
def sp_for_day (K : PySem.W.Frag) (A : Ad) : Sp := fun vs H Q _ => ∃ (p a : Addr) (d held : Int) (S D W rides : List Int), vs = [.ref p, .int d, .ref a, .int held] ∧ Tar A H p S D W ∧ SqL K H a (rides.map V.int) ∧ (∀ z ∈ rides, In5 z) ∧ rides.length ≤ 1000 ∧
  ∀ (l : Addr) (xs : List V) (ts : List Tk) (H' : Hp), Same H H' → H l = none → H' l = some (.lst xs) → TkL H' xs ts → DayOk S D d held rides ts → tkCost ts = dayBest S D held rides → ts.length ≤ rides.length + 1 → Q (.ref l) H'
def sp_for_week (K : PySem.W.Frag) (A : Ad) : Sp := fun vs H Q _ => ∃ (p a : Addr) (held : Int) (S D W : List Int) (days : List (List Int)), vs = [.ref p, .ref a, .int held] ∧ Tar A H p S D W ∧ LL K H a days ∧ (∀ r ∈ days, ∀ z ∈ r, In5 z) ∧ (∀ r ∈ days, r.length ≤ 1000) ∧ days.length ≤ 20 ∧ 0 ≤ held ∧ held ≤ 5 ∧
  ∀ (l : Addr) (xs : List V) (ts : List Tk) (H' : Hp), Same H H' → H l = none → H' l = some (.lst xs) → TkL H' xs ts → WeekOk S D W days ts → tkCost ts = weekCost S D W days held → ts.length ≤ 30000 → Q (.ref l) H'
def sp_least (K : PySem.W.Frag) (A : Ad) : Sp := fun vs H Q E => ∃ (p a : Addr) (S D W : List Int) (days : List (List Int)), vs = [.ref p, .ref a] ∧ Tar A H p S D W ∧ LL K H a days ∧ days.flatten.length ≤ 1000 ∧ days.length ≤ 20 ∧
  ((∀ r ∈ days, ∀ z ∈ r, In5 z) → ∀ (t l : Addr) (xs : List V) (ts : List Tk) (H' : Hp), Same H H' → H l = none → H t = none → H' t = some (.tup [.int (weekBest S D W days), .ref l]) → H' l = some (.lst xs) → TkL H' xs ts → WeekOk S D W days ts →
    tkCost ts = weekBest S D W days → ts.length ≤ 30000 → Q (.ref t) H') ∧
  (¬ (∀ r ∈ days, ∀ z ∈ r, In5 z) → E (.ref A.c_BadZones) none H)
end FW

namespace FW
open PySem PySem.Spec PyProof.Rows L2
def N_cost_of : List Str := ["tickets", "ticket"]
def t_cost_of (K : PySem.W.Frag) (A : Ad) (E : XK) : TS :=
 tRet (tCB (rSum K) (tCons (tLc (iList K (tVar 0)) (gName 1) (tYes) (tOp (rIxT K) (tVar 1) (tUn rNeg (tC (.int 1)))) [1]) (tNil)))
@[irreducible] def t_for_day_b1_s3 (K : PySem.W.Frag) (A : Ad) (w : World) (E : XK) : TS :=
 tIfS (tOr (tTest (tOp rIsN (tVar 4) (tC .non))) (tTest (tOp rLtI (tCall (sp_cost_of K A) [] E0 (tCons (tVar 6) (tNil))) (tCall (sp_cost_of K A) [] E0 (tCons (tVar 4) (tNil)))))) (tAsg (tVar 6) (gName 4)) (tNext)
@[irreducible] def t_for_day_b1_s2 (K : PySem.W.Frag) (A : Ad) (w : World) (E : XK) : TS :=
 tSeq (tFor (iEnum K (tCons (tVar 2) (tNil))) (gTup K 2 (gCons (gName 8) (gCons (gName 9) (gNil)))) (tIfS (tTest (tOp rGtI (tVar 9) (tCB rMax2 (tCons (tVar 3) (tCons (tVar 5) (tNil)))))) (tSeq (tAsg (tCall (sp_cheapest K A) [] E0 (tCons (tFld K (tVar 0) "singles") (tCons (tVar 9) (tNil)))) (gName 7))
 (tDrop (tBM K "list" rAppend (tVar 6) (tCons (tTup (tCons (tC (.str "single")) (tCons (tVar 1) (tCons (tVar 8) (tCons (tOp (rIxT K) (tVar 7) (tC (.int 0))) (tCons (tOp (rIxT K) (tVar 7) (tC (.int 1))) (tNil))))))) (tNil))))) (tNext)))
 (t_for_day_b1_s3 K A w E)
@[irreducible] def t_for_day_b1_s1 (K : PySem.W.Frag) (A : Ad) (w : World) (E : XK) : TS :=
 tSeq (tIfS (tTest (tOp rGtI (tVar 5) (tC (.int 0)))) (tSeq (tAsg (tCall (sp_cheapest K A) [] E0 (tCons (tFld K (tVar 0) "days") (tCons (tVar 5) (tNil)))) (gName 7))
 (tDrop (tBM K "list" rAppend (tVar 6) (tCons (tTup (tCons (tC (.str "day")) (tCons (tVar 1) (tCons (tOp (rIxT K) (tVar 7) (tC (.int 0))) (tCons (tOp (rIxT K) (tVar 7) (tC (.int 1))) (tNil)))))) (tNil))))) (tNext))
 (t_for_day_b1_s2 K A w E)
@[irreducible] def t_for_day_b1 (K : PySem.W.Frag) (A : Ad) (w : World) (E : XK) : TS :=
 tSeq (tAsg (tLst (tNil)) (gName 6))
 (t_for_day_b1_s1 K A w E)
@[irreducible] def t_for_day_s3 (K : PySem.W.Frag) (A : Ad) (w : World) (E : XK) : TS :=
 tRet (tVar 4)
@[irreducible] def t_for_day_s2 (K : PySem.W.Frag) (A : Ad) (w : World) (E : XK) : TS :=
 tSeq (tFor (iList K (tOp rCat (tLst (tCons (tC (.int 0)) (tNil))) (tCB (rSortedSet w) (tCons (tCB (rSetI K w) (tCons (tVar 2) (tNil))) (tNil))))) (gName 5) (t_for_day_b1 K A w E))
 (t_for_day_s3 K A w E)
@[irreducible] def t_for_day_s1 (K : PySem.W.Frag) (A : Ad) (w : World) (E : XK) : TS :=
 tSeq (tAsg (tC .non) (gName 4))
 (t_for_day_s2 K A w E)
def N_for_day : List Str := ["tariff", "day", "rides", "held", "best", "own", "row", "pair", "ride", "zones"]
def t_for_day (K : PySem.W.Frag) (A : Ad) (w : World) (E : XK) : TS :=
 tSeq (tIfS (tNot (tTru K (tVar 2))) (tRet (tLst (tNil))) (tNext))
 (t_for_day_s1 K A w E)
@[irreducible] def t_for_week_s3 (K : PySem.W.Frag) (A : Ad) (E : XK) : TS :=
 tRet (tVar 3)
@[irreducible] def t_for_week_s2 (K : PySem.W.Frag) (A : Ad) (E : XK) : TS :=
 tSeq (tFor (iEnum K (tCons (tVar 1) (tNil))) (gTup K 2 (gCons (gName 5) (gCons (gName 6) (gNil)))) (tDrop (tBM K "list" rExtend (tVar 3) (tCons (tCall (sp_for_day K A) [] E0 (tCons (tVar 0) (tCons (tVar 5) (tCons (tVar 6) (tCons (tVar 2) (tNil)))))) (tNil)))))
 (t_for_week_s3 K A E)
@[irreducible] def t_for_week_s1 (K : PySem.W.Frag) (A : Ad) (E : XK) : TS :=
 tSeq (tIfS (tTest (tOp rGtI (tVar 2) (tC (.int 0)))) (tSeq (tAsg (tCall (sp_cheapest K A) [] E0 (tCons (tFld K (tVar 0) "weeks") (tCons (tVar 2) (tNil)))) (gName 4))
 (tDrop (tBM K "list" rAppend (tVar 3) (tCons (tTup (tCons (tC (.str "week")) (tCons (tOp (rIxT K) (tVar 4) (tC (.int 0))) (tCons (tOp (rIxT K) (tVar 4) (tC (.int 1))) (tNil))))) (tNil))))) (tNext))
 (t_for_week_s2 K A E)
def N_for_week : List Str := ["tariff", "days", "held", "row", "pair", "day", "rides"]
def t_for_week (K : PySem.W.Frag) (A : Ad) (E : XK) : TS :=
 tSeq (tAsg (tLst (tNil)) (gName 3))
 (t_for_week_s1 K A E)
@[irreducible] def t_least_b1_s1 (K : PySem.W.Frag) (A : Ad) (w : World) (E : XK) : TS :=
 tIfS (tOr (tTest (tOp rIsN (tVar 5) (tC .non))) (tTest (tOp rLtI (tCall (sp_cost_of K A) [] E0 (tCons (tVar 7) (tNil))) (tCall (sp_cost_of K A) [] E0 (tCons (tVar 5) (tNil)))))) (tAsg (tVar 7) (gName 5)) (tNext)
@[irreducible] def t_least_b1 (K : PySem.W.Frag) (A : Ad) (w : World) (E : XK) : TS :=
 tSeq (tAsg (tCall (sp_for_week K A) [] E0 (tCons (tVar 0) (tCons (tVar 1) (tCons (tVar 6) (tNil))))) (gName 7))
 (t_least_b1_s1 K A w E)
@[irreducible] def t_least_s5 (K : PySem.W.Frag) (A : Ad) (w : World) (E : XK) : TS :=
 tRet (tTup (tCons (tCall (sp_cost_of K A) [] E0 (tCons (tVar 5) (tNil))) (tCons (tVar 5) (tNil))))
@[irreducible] def t_least_s4 (K : PySem.W.Frag) (A : Ad) (w : World) (E : XK) : TS :=
 tSeq (tFor (iList K (tOp rCat (tLst (tCons (tC (.int 0)) (tNil))) (tCB (rSortedSet w) (tCons (tCB (rSetI K w) (tCons (tVar 4) (tNil))) (tNil))))) (gName 6) (t_least_b1 K A w E))
 (t_least_s5 K A w E)
@[irreducible] def t_least_s3 (K : PySem.W.Frag) (A : Ad) (w : World) (E : XK) : TS :=
 tSeq (tAsg (tC .non) (gName 5))
 (t_least_s4 K A w E)
@[irreducible] def t_least_s2 (K : PySem.W.Frag) (A : Ad) (w : World) (E : XK) : TS :=
 tSeq (tFor (iList K (tVar 1)) (gName 2) (tDrop (tBM K "list" rExtend (tVar 4) (tCons (tVar 2) (tNil)))))
 (t_least_s3 K A w E)
@[irreducible] def t_least_s1 (K : PySem.W.Frag) (A : Ad) (w : World) (E : XK) : TS :=
 tSeq (tAsg (tLst (tNil)) (gName 4))
 (t_least_s2 K A w E)
def N_least : List Str := ["tariff", "days", "rides", "zones", "found", "best", "held", "row"]
def t_least (K : PySem.W.Frag) (A : Ad) (w : World) (E : XK) : TS :=
 tSeq (tFor (iList K (tVar 1)) (gName 2) (tFor (iList K (tVar 2)) (gName 3) (tDrop (tCall (sp_need_zones K A) [] E (tCons (tVar 3) (tNil))))))
 (t_least_s1 K A w E)
end FW

/-! Covers: the readings. -/
namespace FW
open PySem PySem.Spec PyProof.Rows L2
section
variable {K : PySem.W.Frag} {A : Ad} {w : World} {vs : List V} {H : Hp} {Q : VK} {E : XK}
theorem tk_last (t : Tk) : atI t.vals (-1) = some (.int t.price) := by
  cases t <;> rfl
theorem filterMap_tk {H : Hp} {F : V → Option V} : ∀ {xs : List V} {ts : List Tk}, TkL H xs ts → (∀ (q : Addr) (t : Tk), H q = some (.tup t.vals) → F (.ref q) = some (.int t.price)) → xs.filterMap F = (ts.map Tk.price).map V.int
  | _, _, .nil, _ => rfl
  | _, _, .cons ⟨q, e, h⟩ r, hF => by
    subst e
    rw [List.filterMap_cons, hF q _ h, filterMap_tk r hF]
    rfl
/-- what a ticket's place gives -/
theorem rd_cost_of (h : sp_cost_of K A vs H Q E) : t_cost_of K A E { nx := fun _ H' => Q .non H', rt := Q } (start N_cost_of vs) H := by
  obtain ⟨a, xs, ts, rfl, hS, hT, hl, q⟩ := h
  unfold t_cost_of
  walk_at "rd"
  intro D hD
  refine lc_listF (F := fun v => match v with
    | .ref p => (match H p with
      | some (.tup ys) => atI ys (-1)
      | _ => none)
    | _ => none) hD hS (by omega) ?_ ?_
  · intro i x H2 hx s2 G N hG hN
    obtain ⟨t, p, ht, rfl, hp⟩ := hT.get hx
    have hp2 := s2 _ _ hp
    have el := tk_last t
    walk_at "rd"
    refine hG _ _ ?_ (Same.refl _)
    dsimp only
    rw [hp]
    exact el
  · intro H2 s2 e2
    rw [filterMap_tk hT fun p t hp => by dsimp only; rw [hp]; exact tk_last t] at e2
    have s2' := s2.trans (del_sub _ _)
    walk_at "rd"
    exact q _ s2'
/-! ### one day -/
/-- the tickets of a row that is being filled: the first n rides are looked at -/
structure RowOk (S D : List Int) (d held own : Int) (rides : List Int) (n : Nat) (ts : List Tk) : Prop where
  ok : ∀ t ∈ ts, (∃ z, t = .dy d z (pr D z) ∧ In5 z) ∨ ∃ (r : Nat) (z : Int), t = .sg d r z (pr S z) ∧ r < rides.length ∧ In5 z
  served : ∀ (r : Nat) (z : Int), r < n → rides[r]? = some z → z ≤ held ∨ (∃ y, .dy d y (pr D y) ∈ ts ∧ z ≤ y) ∨ ∃ y, .sg d r y (pr S y) ∈ ts ∧ z ≤ y
  owns : own ≤ 0 ∨ ∃ y, .dy d y (pr D y) ∈ ts ∧ own ≤ y
  cost : tkCost ts = ownCost D own + sgSum S (max held own) (rides.take n)
  len : ts.length ≤ n + 1
theorem sgSum_take {S : List Int} {m : Int} {rides : List Int} {n : Nat} {z : Int} (h : rides[n]? = some z) : sgSum S m (rides.take (n + 1)) = sgSum S m (rides.take n) + if m < z then low S z else 0 := by
  unfold sgSum
  rw [List.take_add_one, h, Option.toList_some, List.filter_append, List.map_append, List.sum_append]
  congr 1
  by_cases c : m < z
  · rw [if_pos c, List.filter_cons, if_pos (by simpa using c)]
    simp
  · rw [if_neg c, List.filter_cons, if_neg (by simpa using c)]
    rfl
theorem max_if (a b : Int) : (if b > a then b else a) = max a b := by
  by_cases c : b > a
  · rw [if_pos c]; omega
  · rw [if_neg c]; omega
theorem nodup_le5 {l : List Int} (nd : l.Nodup) (h : ∀ z ∈ l, In5 z) : l.length ≤ 5 := by
  have h2 : l ⊆ [1, 2, 3, 4, 5] := fun z hz => by
    have := h z hz
    unfold In5 at this
    have : z = 1 ∨ z = 2 ∨ z = 3 ∨ z = 4 ∨ z = 5 := by omega
    simpa using this
  exact List.Nodup.length_le_of_subset nd h2
theorem rowOk_skip {S D : List Int} {d held own : Int} {rides : List Int} {n : Nat} {ts : List Tk} {z : Int} (o : RowOk S D d held own rides n ts) (h : rides[n]? = some z) (hz : In5 z) (c : ¬ max held own < z) : RowOk S D d held own rides (n + 1) ts where
  ok := o.ok
  served := fun r y hr hy => by
    by_cases e : r < n
    · exact o.served r y e hy
    · have er : r = n := by omega
      rw [er, h] at hy
      cases hy
      have hz1 : 1 ≤ z := hz.1
      rcases o.owns with g | ⟨x, g1, g2⟩
      · exact .inl (by omega)
      · by_cases e2 : z ≤ held
        · exact .inl e2
        · exact .inr (.inl ⟨x, g1, by omega⟩)
  owns := o.owns
  cost := by rw [sgSum_take h, if_neg c, Int.add_zero]; exact o.cost
  len := by have := o.len; omega
theorem rowOk_sg {S D : List Int} {d held own : Int} {rides : List Int} {n : Nat} {ts : List Tk} {z b : Int} (o : RowOk S D d held own rides n ts) (h : rides[n]? = some z) (hb : In5 b) (hzb : z ≤ b) (e : pr S b = low S z) (c : max held own < z) :
    RowOk S D d held own rides (n + 1) (ts ++ [.sg d (n : Nat) b (pr S b)]) where
  ok := fun t ht => by
    rcases List.mem_append.mp ht with g | g
    · exact o.ok t g
    · have g : t = .sg d (n : Nat) b (pr S b) := by simpa using g
      exact .inr ⟨n, b, g, (List.getElem?_eq_some_iff.mp h).1, hb⟩
  served := fun r y hr hy => by
    by_cases e : r < n
    · rcases o.served r y e hy with g | ⟨x, g1, g2⟩ | ⟨x, g1, g2⟩
      · exact .inl g
      · exact .inr (.inl ⟨x, List.mem_append.mpr (.inl g1), g2⟩)
      · exact .inr (.inr ⟨x, List.mem_append.mpr (.inl g1), g2⟩)
    · have er : r = n := by omega
      rw [er, h] at hy
      cases hy
      exact .inr (.inr ⟨b, List.mem_append.mpr (.inr (by rw [er]; exact List.mem_singleton.mpr rfl)), hzb⟩)
  owns := by
    rcases o.owns with g | ⟨x, g1, g2⟩
    · exact .inl g
    · exact .inr ⟨x, List.mem_append.mpr (.inl g1), g2⟩
  cost := by
    rw [tkCost_append, sgSum_take h, if_pos c, o.cost, tkCost_cons, tkCost_nil, ← e]
    show _ + (pr S b + 0) = _
    omega
  len := by have := o.len; rw [List.length_append, List.length_singleton]; omega
/-- two heaps' Same, from what stood ahead of the loop -/
theorem rd_for_day_b3 {p a R : Addr} {d held own : Int} {S D W rides : List Int} {H0 HL H : Hp} {Dn : Ends} {o4 : V} {o7 o8 o9 : Option V} (hR : H R = none) {xs : List V} {ts : List Tk}
    (hx : TkL H xs ts) (ok : RowOk S D d held own rides rides.length ts) (sm : xs.length ≤ 2000)
    (hbest : o4 = .non ∨ ∃ (b : Addr) (ys : List V) (us : List Tk), o4 = .ref b ∧ H b = some (.lst ys) ∧ TkL H ys us ∧ ys.length ≤ 2000)
    (k1 : (o4 = .non ∨ ∃ (b : Addr) (ys : List V) (us : List Tk), o4 = .ref b ∧ H b = some (.lst ys) ∧ TkL H ys us ∧ tkCost ts < tkCost us) → ∀ H', Same (upd H R (.lst xs)) H' → Dn.nx [some (.ref p), some (.int d), some (.ref a), some (.int held), some (.ref R), some (.int own), some (.ref R), o7, o8, o9] H')
    (k2 : (∃ (b : Addr) (ys : List V) (us : List Tk), o4 = .ref b ∧ H b = some (.lst ys) ∧ TkL H ys us ∧ tkCost us ≤ tkCost ts) → ∀ H', Same (upd H R (.lst xs)) H' → Dn.nx [some (.ref p), some (.int d), some (.ref a), some (.int held), some o4, some (.int own), some (.ref R), o7, o8, o9] H') :
    t_for_day_b1_s3 K A w E Dn [some (.ref p), some (.int d), some (.ref a), some (.int held), some o4, some (.int own), some (.ref R), o7, o8, o9] (upd H R (.lst xs)) := by
  unfold t_for_day_b1_s3
  rcases hbest with rfl | ⟨b, ys, us, rfl, hb, hu, sm2⟩
  · walk_at "rd"
    exact k1 (.inl rfl) _ (Same.refl _)
  · have hx' : TkL (upd H R (.lst xs)) xs ts := hx.same (Same.new hR)
    have hu' : TkL (upd H R (.lst xs)) ys us := hu.same (Same.new hR)
    walk_at "rd"
    intro H2 s2
    have hu2 := hu'.same s2
    walk_at "rd"
    intro H3 s3
    walk_at "rd"
    refine ite_d (fun c => ?_) (fun c => ?_)
    · walk_at "rd"
      exact k1 (.inr ⟨b, ys, us, rfl, hb, hu, c⟩) _ (s2.trans s3)
    · exact k2 ⟨b, ys, us, rfl, hb, hu, by omega⟩ _ (s2.trans s3)
/-- the rides one by one -/
theorem rd_for_day_b2 {p a R : Addr} {d held own : Int} {S D W rides : List Int} {H : Hp} {Dn : Ends} {o4 : V} {o7 o8 o9 : Option V} (O : OkT K A) (hR : H R = none) {xs : List V} {ts : List Tk} (hT : Tar A H p S D W) (hS : SqL K H a (rides.map V.int)) (h5 : ∀ z ∈ rides, In5 z) (hl : rides.length ≤ 1000)
    (hx : TkL H xs ts) (ok : RowOk S D d held own rides 0 ts)
    (q : ∀ (H' : Hp) (xs' : List V) (ts' : List Tk) (o7 o8 o9 : Option V), Same H (del H' R) → H' R = some (.lst xs') → TkL (del H' R) xs' ts' → RowOk S D d held own rides rides.length ts' →
      t_for_day_b1_s3 K A w E Dn [some (.ref p), some (.int d), some (.ref a), some (.int held), some o4, some (.int own), some (.ref R), o7, o8, o9] H') :
    t_for_day_b1_s2 K A w E Dn [some (.ref p), some (.int d), some (.ref a), some (.int held), some o4, some (.int own), some (.ref R), o7, o8, o9] (upd H R (.lst xs)) := by
  unfold t_for_day_b1_s2
  have hS' : SqL K (upd H R (.lst xs)) a (rides.map V.int) := sq_new hR hS
  walk_at "rd"
  refine for_enumL (K := K) (a := a) (xs := rides.map V.int) (fun i σ H' => Hold (∃ (o7 o8 o9 : Option V) (xs' : List V) (ts' : List Tk), σ = [some (.ref p), some (.int d), some (.ref a), some (.int held), some o4, some (.int own), some (.ref R), o7, o8, o9] ∧ Same H (del H' R) ∧ H' R = some (.lst xs') ∧ TkL (del H' R) xs' ts' ∧ RowOk S D d held own rides i ts')) ⟨o7, o8, o9, xs, ts, rfl, ?_, upd_same, ?_, ok⟩ ?_ ?_ ?_
  · rw [del_new hR]; exact Same.refl _
  · rw [del_new hR]; exact hx
  · rintro i σ H' _ ⟨o7, o8, o9, xs', ts', rfl, s1, r1, hx, ok⟩
    exact (s1.trans (del_sub _ _)).seq hS
  · rintro i x σ H' T hi ⟨o7, o8, o9, xs', ts', rfl, s1, r1, hx, ok⟩ hT0
    rw [List.getElem?_map] at hi
    obtain ⟨z, hz, rfl⟩ := Option.map_eq_some_iff.mp hi
    have hz5 : In5 z := h5 z (List.mem_iff_getElem?.mpr ⟨i, hz⟩)
    have hir : i < rides.length := (List.getElem?_eq_some_iff.mp hz).1
    walk_at "rd"
    have sT : Same H' (upd H' T (.tup [V.int (i : Nat), V.int z])) := Same.new hT0
    have r2 := sT _ _ r1
    have hx2 := hx.same (sT.del2 R)
    have s2 := s1.trans (sT.del2 R)
    generalize upd H' T (.tup [V.int (i : Nat), V.int z]) = H2 at *
    rw [max_if]
    refine ite_d (fun c => ?_) (fun c => ?_)
    · have s2' := s2.trans (del_sub _ _)
      have hT2 := hT.same s2'
      obtain ⟨dx, a1, b1, c1, u, e1, e2, e3, e4⟩ := tar_s hT2
      have cl := O.cl
      have nS := O.nS
      walk_at "rd"
      refine ⟨fun _ b u2 H3 g1 g2 g3 g4 g5 g6 => ?_, fun c => absurd hz5 c⟩
      walk_at "rd"
      intro v hv
      have r3 := g4 _ _ r2
      have sv : Same H3 (upd H3 v (.tup [V.str "single", V.int d, V.int (i : Nat), V.int b, V.int (low S z)])) := Same.new hv
      have nv : v ≠ R := ne_sym (ne_of_none r3 hv)
      have lx := hx2.len
      have lt := ok.len
      walk_at "rd"
      refine ⟨_, _, _, xs' ++ [.ref v], ts' ++ [.sg d (i : Nat) b (pr S b)], rfl, ?_, upd_same, ?_, rowOk_sg ok hz ⟨by have := hz5.1; omega, g2⟩ g1 g3 c⟩
      · rw [del_upd]
        exact s2.trans ((g4.trans sv).del2 R)
      · rw [del_upd]
        refine (hx2.same ((g4.trans sv).del2 R)).snoc ?_
        rw [del_ne nv, upd_same, g3]
        rfl
    · exact ⟨_, _, _, xs', ts', rfl, s2, r2, hx2, rowOk_skip ok hz hz5 c⟩
  · rintro σ H' ⟨o7, o8, o9, xs', ts', rfl, s1, r1, hx, ok⟩
    rw [List.length_map] at ok
    exact q H' xs' ts' _ _ _ s1 r1 hx ok
/-- one turn: a day ticket for so many zones, or none -/
theorem rd_for_day_b1 {p a : Addr} {d held own : Int} {S D W rides : List Int} {H : Hp} {Dn : Ends} {o4 : V} {o6 o7 o8 o9 : Option V} (O : OkT K A) (hT : Tar A H p S D W) (hS : SqL K H a (rides.map V.int)) (h5 : ∀ z ∈ rides, In5 z) (hl : rides.length ≤ 1000) (ho : own = 0 ∨ In5 own)
    (hbest : o4 = .non ∨ ∃ (b : Addr) (ys : List V) (us : List Tk), o4 = .ref b ∧ H b = some (.lst ys) ∧ TkL H ys us ∧ ys.length ≤ 2000)
    (q : ∀ (H' : Hp) (R : Addr) (xs : List V) (ts : List Tk) (o7 o8 o9 : Option V) (v : V), Same H H' → H R = none → H' R = some (.lst xs) → TkL H' xs ts → RowOk S D d held own rides rides.length ts →
      ((v = .ref R ∧ (o4 = .non ∨ ∃ (b : Addr) (ys : List V) (us : List Tk), o4 = .ref b ∧ H b = some (.lst ys) ∧ TkL H ys us ∧ tkCost ts < tkCost us)) ∨ (v = o4 ∧ ∃ (b : Addr) (ys : List V) (us : List Tk), o4 = .ref b ∧ H b = some (.lst ys) ∧ TkL H ys us ∧ tkCost us ≤ tkCost ts)) →
      Dn.nx [some (.ref p), some (.int d), some (.ref a), some (.int held), some v, some (.int own), some (.ref R), o7, o8, o9] H') :
    t_for_day_b1 K A w E Dn [some (.ref p), some (.int d), some (.ref a), some (.int held), some o4, some (.int own), o6, o7, o8, o9] H := by
  unfold t_for_day_b1 t_for_day_b1_s1
  walk_at "rd"
  intro R hR
  have fin : ∀ (Hb : Hp) (xs : List V) (ts : List Tk) (o7 o8 o9 : Option V), Same H Hb → Hb R = none → TkL Hb xs ts → RowOk S D d held own rides 0 ts →
      t_for_day_b1_s2 K A w E Dn [some (.ref p), some (.int d), some (.ref a), some (.int held), some o4, some (.int own), some (.ref R), o7, o8, o9] (upd Hb R (.lst xs)) := by
    intro Hb xs ts o7 o8 o9 sb hb hx ok
    refine rd_for_day_b2 (p := p) (W := W) O hb (hT.same sb) (sb.seq hS) h5 hl hx ok fun H' xs' ts' o7 o8 o9 s1 r1 hx1 ok1 => ?_
    have e : H' = upd (del H' R) R (.lst xs') := (upd_del_self r1).symm
    rw [e]
    have s2 : Same H (del H' R) := sb.trans s1
    have sx : Same (del H' R) (upd (del H' R) R (.lst xs')) := Same.new del_at
    have lx := hx1.len
    have lt := ok1.len
    refine rd_for_day_b3 (H0 := H) (HL := H) (S := S) (D := D) (W := W) (rides := rides) del_at hx1 ok1 (by omega) ?_ (fun g H'' s => ?_) (fun g H'' s => ?_)
    · rcases hbest with g | ⟨b, ys, us, g1, g2, g3, g4⟩
      · exact .inl g
      · exact .inr ⟨b, ys, us, g1, s2 _ _ g2, g3.same s2, g4⟩
    · refine q H'' R xs' ts' _ _ _ _ ((s2.trans sx).trans s) hR (s _ _ upd_same) (hx1.same (sx.trans s)) ok1 (.inl ⟨rfl, ?_⟩)
      rcases g with g | ⟨b, ys, us, g1, g2, g3, g4⟩
      · exact .inl g
      · rcases hbest with z | ⟨b', ys', us', z1, z2, z3, z4⟩
        · exact .inl z
        · exact .inr ⟨b', ys', us', z1, z2, z3, by
            rw [z1] at g1
            cases g1
            have e1 := (s2 _ _ z2).symm.trans g2
            cases e1
            rw [(z3.same s2).inj g3]
            exact g4⟩
    · refine q H'' R xs' ts' _ _ _ _ ((s2.trans sx).trans s) hR (s _ _ upd_same) (hx1.same (sx.trans s)) ok1 (.inr ⟨rfl, ?_⟩)
      obtain ⟨b, ys, us, g1, g2, g3, g4⟩ := g
      rcases hbest with z | ⟨b', ys', us', z1, z2, z3, z4⟩
      · rw [z] at g1
        cases g1
      · exact ⟨b', ys', us', z1, z2, z3, by
          rw [z1] at g1
          cases g1
          have e1 := (s2 _ _ z2).symm.trans g2
          cases e1
          rw [(z3.same s2).inj g3]
          exact g4⟩
  walk_at "rd"
  refine ite_d (fun c => ?_) (fun c => ?_)
  · have ho5 : In5 own := by
      rcases ho with g | g
      · omega
      · exact g
    have sR : Same H (upd H R (.lst [])) := Same.new hR
    have hT2 := hT.same sR
    obtain ⟨dx, a1, b1, c1, u, e1, e2, e3, e4⟩ := tar_d hT2
    have cl := O.cl
    have nD := O.nD
    walk_at "rd"
    refine ⟨fun _ b u2 H3 g1 g2 g3 g4 g5 g6 => ?_, fun c => absurd ho5 c⟩
    walk_at "rd"
    intro v hv
    have r3 := g4 _ _ (upd_same (H := H) (a := R) (o := .lst []))
    have sv : Same H3 (upd H3 v (.tup [V.str "day", V.int d, V.int b, V.int (low D own)])) := Same.new hv
    have nv : v ≠ R := ne_sym (ne_of_none r3 hv)
    walk_at "rd"
    rw [← upd_del]
    refine fin _ [.ref v] [.dy d b (pr D b)] _ _ _ ?_ del_at ?_ ?_
    · have := (g4.trans sv).del2 R
      rw [del_new hR] at this
      exact this
    · refine .cons ⟨v, rfl, ?_⟩ .nil
      rw [del_ne nv, upd_same, g3]
      rfl
    · refine ⟨fun t ht => .inl ⟨b, by simpa using ht, by have := ho5.1; omega, g2⟩, fun r z hr => absurd hr (Nat.not_lt_zero _), .inr ⟨b, List.mem_singleton.mpr rfl, g1⟩, ?_, by simp⟩
      rw [tkCost_cons, tkCost_nil]
      unfold ownCost
      rw [if_pos c]
      show pr D b + 0 = low D own + 0
      rw [g3]
  · have ho0 : own = 0 := by
      rcases ho with g | g
      · exact g
      · have := g.1; omega
    walk_at "rd"
    refine fin H [] [] _ _ _ (Same.refl _) hR .nil ⟨fun t ht => by simp at ht, fun r z hr => absurd hr (Nat.not_lt_zero _), .inl (by omega), ?_, by simp⟩
    unfold ownCost
    rw [if_neg c]
    rfl
theorem rowOk_day {S D : List Int} {d held own : Int} {rides : List Int} {ts : List Tk} (o : RowOk S D d held own rides rides.length ts) : DayOk S D d held rides ts :=
  ⟨o.ok, fun r z h => o.served r z (List.getElem?_eq_some_iff.mp h).1 h⟩
theorem rowOk_cost {S D : List Int} {d held own : Int} {rides : List Int} {ts : List Tk} (o : RowOk S D d held own rides rides.length ts) : tkCost ts = dayCost S D held rides own := by
  have := o.cost
  rw [List.take_length] at this
  exact this
theorem lowL_snoc {l : List Int} {x : Int} (h : l ≠ []) : lowL (l ++ [x]) = min (lowL l) x := by
  by_cases c : x < lowL l
  · rw [Int.min_eq_right (by omega)]
    refine lowL_is (by simp) fun y hy => ?_
    rcases List.mem_append.mp hy with g | g
    · have := lowL_le g
      omega
    · have : y = x := by simpa using g
      omega
  · rw [Int.min_eq_left (by omega)]
    refine lowL_is (List.mem_append.mpr (.inl (lowL_mem h))) fun y hy => ?_
    rcases List.mem_append.mp hy with g | g
    · exact lowL_le g
    · have : y = x := by simpa using g
      omega
/-- the same members, the same least value -/
theorem lowL_same {l m : List Int} (hl : l ≠ []) (h : ∀ x, x ∈ l ↔ x ∈ m) : lowL l = lowL m :=
  (lowL_is ((h _).mp (lowL_mem hl)) fun x hx => lowL_le ((h x).mpr hx)).symm
theorem rd_for_day (O : OkT K A) (h : sp_for_day K A vs H Q E) : t_for_day K A w E { nx := fun _ H' => Q .non H', rt := Q } (start N_for_day vs) H := by
  obtain ⟨p, a, d, held, S, D, W, rides, rfl, hT, hS, h5, hl, q⟩ := h
  unfold t_for_day
  walk_at "rd"
  by_cases e : rides = []
  · subst e
    walk_at "rd"
    intro l hl
    refine q l [] [] _ (Same.new hl) hl upd_same .nil ⟨fun t ht => by simp at ht, fun r z h => by simp at h⟩ ?_ (Nat.zero_le _)
    rfl
  · have en : (rides.map V.int).isEmpty = false := by
      cases rides with
      | nil => exact absurd rfl e
      | cons _ _ => rfl
    rw [en]
    unfold t_for_day_s1 t_for_day_s2
    walk_at "rd"
    intro l0 hl0
    have s0 : Same H (upd H l0 (.lst [V.int 0])) := Same.new hl0
    walk_at "rd"
    intro g out hg nd mem
    have l5 := nodup_le5 nd fun z hz => h5 z ((mem z).mp hz)
    have sg : Same (upd H l0 (.lst [V.int 0])) (upd (upd H l0 (.lst [V.int 0])) g (SetO w g (fun j => decide (j ∈ rides)) out.length)) := Same.new hg
    walk_at "rd"
    intro ns u hns hmem hlen hu
    have su : Same (upd (upd H l0 (.lst [V.int 0])) g (SetO w g (fun j => decide (j ∈ rides)) out.length)) (upd (upd (upd H l0 (.lst [V.int 0])) g (SetO w g (fun j => decide (j ∈ rides)) out.length)) u (.lst (ns.map V.int))) := Same.new hu
    have f0 := su _ _ (sg _ _ (upd_same (H := H) (a := l0) (o := .lst [V.int 0])))
    walk_at "rd"
    intro v hv
    have sL : Same H (upd (upd (upd (upd H l0 (.lst [V.int 0])) g (SetO w g (fun j => decide (j ∈ rides)) out.length)) u (.lst (ns.map V.int))) v (.lst ([V.int 0] ++ ns.map V.int))) := ((s0.trans sg).trans su).trans (Same.new hv)
    have eL : (upd (upd (upd (upd H l0 (.lst [V.int 0])) g (SetO w g (fun j => decide (j ∈ rides)) out.length)) u (.lst (ns.map V.int))) v (.lst ([V.int 0] ++ ns.map V.int))) v = some (.lst ((0 :: ns).map V.int)) := upd_same
    generalize upd (upd (upd (upd H l0 (.lst [V.int 0])) g (SetO w g (fun j => decide (j ∈ rides)) out.length)) u (.lst (ns.map V.int))) v (.lst ([V.int 0] ++ ns.map V.int)) = HL at *
    walk_at "rd"
    refine for_list (K := K) (a := v) (xs := (0 :: ns).map V.int) (fun i σ H' => Hold (∃ (o4 : V) (o5 o6 o7 o8 o9 : Option V), σ = [some (.ref p), some (.int d), some (.ref a), some (.int held), some o4, o5, o6, o7, o8, o9] ∧ Same HL H' ∧
      ((i = 0 ∧ o4 = .non) ∨ ∃ (b : Addr) (ys : List V) (us : List Tk), o4 = .ref b ∧ H b = none ∧ H' b = some (.lst ys) ∧ TkL H' ys us ∧ DayOk S D d held rides us ∧ tkCost us = lowL (((0 :: ns).take i).map (dayCost S D held rides)) ∧ us.length ≤ rides.length + 1 ∧ 0 < i)))
      ⟨.non, _, _, _, _, _, rfl, Same.refl _, .inl ⟨rfl, rfl⟩⟩ (fun i σ H' _ ⟨_, _, _, _, _, _, _, s, _⟩ => SqL.of (s _ _ eL)) ?_ ?_
    · rintro i x σ H' hx ⟨o4, o5, o6, o7, o8, o9, rfl, s, hb⟩
      rw [List.getElem?_map] at hx
      obtain ⟨own, hown, rfl⟩ := Option.map_eq_some_iff.mp hx
      have mo : own ∈ 0 :: ns := List.mem_iff_getElem?.mpr ⟨i, hown⟩
      have ho : own = 0 ∨ In5 own := by
        rcases List.mem_cons.mp mo with g | g
        · exact .inl g
        · exact .inr (h5 _ (by simpa using (hmem own).mp g))
      have sH := sL.trans s
      have et : (0 :: ns).take (i + 1) = (0 :: ns).take i ++ [own] := by rw [List.take_add_one, hown]; rfl
      refine rd_for_day_b1 (p := p) (S := S) (D := D) (W := W) (rides := rides) O (hT.same sH) (sH.seq hS) h5 hl ho ?_ ?_
      · rcases hb with ⟨_, g⟩ | ⟨b, ys, us, g1, _, g2, g3, _, _, g6, _⟩
        · exact .inl g
        · exact .inr ⟨b, ys, us, g1, g2, g3, by rw [g3.len]; omega⟩
      · intro H2 R xs ts o7 o8 o9 v4 s2 hR r2 hx ok hv
        refine ⟨v4, _, _, _, _, _, rfl, s.trans s2, .inr ?_⟩
        have hR0 : H R = none := sH.free hR
        rcases hv with ⟨rfl, hv⟩ | ⟨rfl, b', ys', us', z1, z2, z3, z4⟩
        · refine ⟨R, xs, ts, rfl, hR0, r2, hx, rowOk_day ok, ?_, ok.len, Nat.succ_pos _⟩
          rw [et, List.map_append, rowOk_cost ok]
          rcases hb with ⟨g0, _⟩ | ⟨b, ys, us, g1, g1', g2, g3, g4, g5, g6, g7⟩
          · rw [g0]; rfl
          · have hne : ((0 :: ns).take i).map (dayCost S D held rides) ≠ [] := by
              cases i with
              | zero => exact absurd g7 (Nat.lt_irrefl _)
              | succ _ => simp
            show _ = lowL (_ ++ [dayCost S D held rides own])
            rw [lowL_snoc hne, ← g5]
            rcases hv with z | ⟨b', ys', us', z1, z2, z3, z4⟩
            · rw [z] at g1; cases g1
            · rw [z1] at g1
              cases g1
              cases z2.symm.trans g2
              rw [z3.inj g3, rowOk_cost ok] at z4
              omega
        · rcases hb with ⟨_, g⟩ | ⟨b, ys, us, g1, g1', g2, g3, g4, g5, g6, g7⟩
          · rw [z1] at g; cases g
          · have hne : ((0 :: ns).take i).map (dayCost S D held rides) ≠ [] := by
              cases i with
              | zero => exact absurd g7 (Nat.lt_irrefl _)
              | succ _ => simp
            refine ⟨b, ys, us, g1, g1', s2 _ _ g2, g3.same s2, g4, ?_, g6, Nat.succ_pos _⟩
            rw [et, List.map_append]
            show _ = lowL (_ ++ [dayCost S D held rides own])
            rw [lowL_snoc hne, ← g5]
            rw [z1] at g1
            cases g1
            cases z2.symm.trans g2
            rw [z3.inj g3, rowOk_cost ok] at z4
            omega
    · rintro σ H' ⟨o4, o5, o6, o7, o8, o9, rfl, s, hb⟩
      unfold t_for_day_s3
      rcases hb with ⟨g0, _⟩ | ⟨b, ys, us, rfl, g1', g2, g3, g4, g5, g6, g7⟩
      · simp at g0
      · walk_at "rd"
        refine q b ys us H' (sL.trans s) g1' g2 g3 g4 ?_ g6
        rw [List.length_map, List.take_length] at g5
        rw [g5]
        unfold dayBest
        refine lowL_same (by simp) fun x => ?_
        have mm : ∀ k, k ∈ 0 :: ns ↔ k ∈ 0 :: rides := fun k => by
          rw [List.mem_cons, List.mem_cons, hmem k]
          simp
        constructor
        · intro hx
          obtain ⟨k, hk, rfl⟩ := List.mem_map.mp hx
          exact List.mem_map.mpr ⟨k, (mm k).mp hk, rfl⟩
        · intro hx
          obtain ⟨k, hk, rfl⟩ := List.mem_map.mp hx
          exact List.mem_map.mpr ⟨k, (mm k).mpr hk, rfl⟩
/-! ### a week -/
structure WRow (S D W : List Int) (held : Int) (days : List (List Int)) (n : Nat) (ts : List Tk) : Prop where
  ok : ∀ t ∈ ts, (∃ z, t = .wk z (pr W z) ∧ In5 z) ∨ (∃ (d : Nat) (z : Int), t = .dy d z (pr D z) ∧ d < days.length ∧ In5 z) ∨
    ∃ (d r : Nat) (z : Int) (rides : List Int), t = .sg d r z (pr S z) ∧ days[d]? = some rides ∧ r < rides.length ∧ In5 z
  served : ∀ (d r : Nat) (rides : List Int) (z : Int), d < n → days[d]? = some rides → rides[r]? = some z → z ≤ held ∨ (∃ y, .dy d y (pr D y) ∈ ts ∧ z ≤ y) ∨ ∃ y, .sg d r y (pr S y) ∈ ts ∧ z ≤ y
  owns : held ≤ 0 ∨ ∃ y, .wk y (pr W y) ∈ ts ∧ held ≤ y
  cost : tkCost ts = ownCost W held + ((days.take n).map (dayBest S D held)).sum
  len : ts.length ≤ n * 1001 + 1
theorem wRow_next {S D W : List Int} {held : Int} {days : List (List Int)} {n : Nat} {ts us : List Tk} {rides : List Int} (o : WRow S D W held days n ts) (h : days[n]? = some rides) (g : DayOk S D (n : Nat) held rides us) (c : tkCost us = dayBest S D held rides) (l : us.length ≤ rides.length + 1) (l2 : rides.length ≤ 1000) :
    WRow S D W held days (n + 1) (ts ++ us) where
  ok := fun t ht => by
    rcases List.mem_append.mp ht with m | m
    · exact o.ok t m
    · rcases g.ok t m with ⟨z, e, h5⟩ | ⟨r, z, e, hr, h5⟩
      · exact .inr (.inl ⟨n, z, e, (List.getElem?_eq_some_iff.mp h).1, h5⟩)
      · exact .inr (.inr ⟨n, r, z, rides, e, h, hr, h5⟩)
  served := fun d r rs z hd hrs hz => by
    by_cases e : d < n
    · rcases o.served d r rs z e hrs hz with m | ⟨y, m1, m2⟩ | ⟨y, m1, m2⟩
      · exact .inl m
      · exact .inr (.inl ⟨y, List.mem_append.mpr (.inl m1), m2⟩)
      · exact .inr (.inr ⟨y, List.mem_append.mpr (.inl m1), m2⟩)
    · have ed : d = n := by omega
      subst ed
      rw [h] at hrs
      cases hrs
      rcases g.served r z hz with m | ⟨y, m1, m2⟩ | ⟨y, m1, m2⟩
      · exact .inl m
      · exact .inr (.inl ⟨y, List.mem_append.mpr (.inr m1), m2⟩)
      · exact .inr (.inr ⟨y, List.mem_append.mpr (.inr m1), m2⟩)
  owns := by
    rcases o.owns with m | ⟨y, m1, m2⟩
    · exact .inl m
    · exact .inr ⟨y, List.mem_append.mpr (.inl m1), m2⟩
  cost := by
    rw [tkCost_append, o.cost, c, List.take_add_one, h, Option.toList_some, List.map_append, List.sum_append]
    simp only [List.map_cons, List.map_nil, List.sum_cons, List.sum_nil]
    omega
  len := by
    have := o.len
    rw [List.length_append]
    omega
theorem rd_for_week3 {p a R : Addr} {held : Int} {S D W : List Int} {days : List (List Int)} {H : Hp} {o4 o5 o6 : Option V} {Dn : Ends} (O : OkT K A) (hR : H R = none) {xs : List V} {ts : List Tk} (hT : Tar A H p S D W) (hL : LL K H a days) (h5 : ∀ r ∈ days, ∀ z ∈ r, In5 z) (hl : ∀ r ∈ days, r.length ≤ 1000) (hd : days.length ≤ 20)
    (hx : TkL H xs ts) (ok : WRow S D W held days 0 ts)
    (q : ∀ (H' : Hp) (xs' : List V) (ts' : List Tk), Same H (del H' R) → H' R = some (.lst xs') → TkL (del H' R) xs' ts' → WRow S D W held days days.length ts' → Dn.rt (.ref R) H') :
    t_for_week_s2 K A E Dn [some (.ref p), some (.ref a), some (.int held), some (.ref R), o4, o5, o6] (upd H R (.lst xs)) := by
  unfold t_for_week_s2
  obtain ⟨ps, hps⟩ := hL
  have sq0 := sq_new (o := .lst xs) hR hps.sq
  walk_at "rd"
  refine for_enumL (K := K) (a := a) (xs := ps.map V.ref) (fun i σ H' => Hold (∃ (o5 o6 : Option V) (xs' : List V) (ts' : List Tk), σ = [some (.ref p), some (.ref a), some (.int held), some (.ref R), o4, o5, o6] ∧ Same H (del H' R) ∧ H' R = some (.lst xs') ∧ TkL (del H' R) xs' ts' ∧ WRow S D W held days i ts')) ⟨o5, o6, xs, ts, rfl, ?_, upd_same, ?_, ok⟩ ?_ ?_ ?_
  · rw [del_new hR]; exact Same.refl _
  · rw [del_new hR]; exact hx
  · rintro i σ H' _ ⟨o5, o6, xs', ts', rfl, s1, r1, hx, ok⟩
    exact (s1.trans (del_sub _ _)).seq hps.sq
  · rintro i x σ H' T hi ⟨o5, o6, xs', ts', rfl, s1, r1, hx, ok⟩ hT0
    rw [List.getElem?_map] at hi
    obtain ⟨u, hu, rfl⟩ := Option.map_eq_some_iff.mp hi
    have hil : i < days.length := by rw [← hps.len]; exact (List.getElem?_eq_some_iff.mp hu).1
    have hr : days[i]? = some days[i] := List.getElem?_eq_getElem hil
    have hrm : days[i] ∈ days := List.getElem_mem hil
    have hdu := hps.at_ i u _ hu hr
    have sT : Same H' (upd H' T (.tup [V.int (i : Nat), V.ref u])) := Same.new hT0
    have s2 : Same H (del (upd H' T (.tup [V.int (i : Nat), V.ref u])) R) := s1.trans (sT.del2 R)
    have s2' := s2.trans (del_sub _ _)
    have hT2 := hT.same s2'
    have hdu2 := SqL.of (K := K) (s2' _ _ hdu)
    have r2 := sT _ _ r1
    have lx := hx.len
    have lt := ok.len
    have b5 := h5 _ hrm
    have b6 := hl _ hrm
    walk_at "rd"
    intro l ys us H3 s3 hl3 e3 hy dok dc dl
    have r3 := s3 _ _ r2
    have ly := hy.len
    walk_at "rd"
    refine ⟨_, _, xs' ++ ys, ts' ++ us, rfl, ?_, upd_same, ?_, wRow_next ok hr dok dc dl b6⟩
    · rw [del_upd]
      exact s2.trans (s3.del2 R)
    · rw [del_upd]
      exact (hx.same ((sT.trans s3).del2 R)).app (hy.del r3)
  · rintro σ H' ⟨o5, o6, xs', ts', rfl, s1, r1, hx, ok⟩
    rw [List.length_map, hps.len] at ok
    unfold t_for_week_s3
    walk_at "rd"
    exact q H' xs' ts' s1 r1 hx ok
theorem wRow_week {S D W : List Int} {held : Int} {days : List (List Int)} {ts : List Tk} (o : WRow S D W held days days.length ts) (h5 : ∀ r ∈ days, ∀ z ∈ r, In5 z) : WeekOk S D W days ts :=
  ⟨o.ok, fun d r rides z hd hr => by
    rcases o.served d r rides z (List.getElem?_eq_some_iff.mp hd).1 hd hr with m | m | m
    · have z1 : 1 ≤ z := (h5 _ (List.mem_of_getElem? hd) _ (List.mem_of_getElem? hr)).1
      rcases o.owns with g | ⟨y, g1, g2⟩
      · omega
      · exact .inl ⟨y, g1, by omega⟩
    · exact .inr (.inl m)
    · exact .inr (.inr m)⟩
theorem rd_for_week (O : OkT K A) (h : sp_for_week K A vs H Q E) : t_for_week K A E { nx := fun _ H' => Q .non H', rt := Q } (start N_for_week vs) H := by
  obtain ⟨p, a, held, S, D, W, days, rfl, hT, hL, h5, hl, hd, h0, hh, q⟩ := h
  unfold t_for_week t_for_week_s1
  walk_at "rd"
  intro R hR
  have fin : ∀ (Hb : Hp) (xs : List V) (ts : List Tk) (o4 o5 o6 : Option V), Same H Hb → Hb R = none → TkL Hb xs ts → WRow S D W held days 0 ts →
      t_for_week_s2 K A E { nx := fun _ H' => Q .non H', rt := Q } [some (.ref p), some (.ref a), some (.int held), some (.ref R), o4, o5, o6] (upd Hb R (.lst xs)) := by
    intro Hb xs ts o4 o5 o6 sb hb hx ok
    refine rd_for_week3 O hb (hT.same sb) (hL.same sb) h5 hl hd hx ok fun H' xs' ts' s1 r1 hx1 ok1 => ?_
    have s2 := sb.trans s1
    have lt := ok1.len
    have cost := ok1.cost
    rw [List.take_length] at cost
    exact q R xs' ts' H' (s2.trans (del_sub _ _)) hR r1 (hx1.same (del_sub _ _)) (wRow_week ok1 h5) cost (by omega)
  walk_at "rd"
  refine ite_d (fun c => ?_) (fun c => ?_)
  · have sR : Same H (upd H R (.lst [])) := Same.new hR
    have hT2 := hT.same sR
    obtain ⟨dx, a1, b1, c1, u, e1, e2, e3, e4⟩ := tar_w hT2
    have cl := O.cl
    have nW := O.nW
    walk_at "rd"
    refine ⟨fun _ b u2 H3 g1 g2 g3 g4 g5 g6 => ?_, fun c => absurd (show 1 ≤ held ∧ held ≤ 5 by omega) c⟩
    walk_at "rd"
    intro v hv
    have r3 := g4 _ _ (upd_same (H := H) (a := R) (o := .lst []))
    have sv : Same H3 (upd H3 v (.tup [V.str "week", V.int b, V.int (low W held)])) := Same.new hv
    have nv : v ≠ R := ne_sym (ne_of_none r3 hv)
    walk_at "rd"
    rw [← upd_del]
    refine fin _ [.ref v] [.wk b (pr W b)] _ _ _ ?_ del_at ?_ ?_
    · have := (g4.trans sv).del2 R
      rw [del_new hR] at this
      exact this
    · refine .cons ⟨v, rfl, ?_⟩ .nil
      rw [del_ne nv, upd_same, g3]
      rfl
    · refine ⟨fun t ht => .inl ⟨b, by simpa using ht, by omega, g2⟩, fun d r rs z hr => absurd hr (Nat.not_lt_zero _), .inr ⟨b, List.mem_singleton.mpr rfl, g1⟩, ?_, by simp⟩
      rw [tkCost_cons, tkCost_nil]
      unfold ownCost
      rw [if_pos c]
      show pr W b + 0 = low W held + 0
      rw [g3]
  · walk_at "rd"
    refine fin H [] [] _ _ _ (Same.refl _) hR .nil ⟨fun t ht => by simp at ht, fun d r rs z hr => absurd hr (Nat.not_lt_zero _), .inl (by omega), ?_, by simp⟩
    unfold ownCost
    rw [if_neg c]
    rfl
/-! ### the least -/
theorem len_flatten {days : List (List Int)} {r : List Int} (h : r ∈ days) : r.length ≤ days.flatten.length := by
  induction days with
  | nil => simp at h
  | cons a l ih =>
    rw [List.flatten_cons, List.length_append]
    rcases List.mem_cons.mp h with e | h
    · rw [e]; omega
    · have := ih h; omega
/-- the best of all weeks' tickets -/
theorem rd_least3 {p a F : Addr} {S D W : List Int} {days : List (List Int)} {H : Hp} {o2 o3 o5 o6 o7 : Option V} {Dn : Ends} (O : OkT K A) (hT : Tar A H p S D W) (hL : LL K H a days) (hF : SqL K H F (days.flatten.map V.int)) (h5 : ∀ r ∈ days, ∀ z ∈ r, In5 z) (hl : days.flatten.length ≤ 1000) (hd : days.length ≤ 20)
    (q : ∀ (t l : Addr) (xs : List V) (ts : List Tk) (H' : Hp), Same H H' → H l = none → H t = none → H' t = some (.tup [.int (weekBest S D W days), .ref l]) → H' l = some (.lst xs) → TkL H' xs ts → WeekOk S D W days ts → tkCost ts = weekBest S D W days → ts.length ≤ 30000 → Dn.rt (.ref t) H') :
    t_least_s3 K A w E Dn [some (.ref p), some (.ref a), o2, o3, some (.ref F), o5, o6, o7] H := by
  unfold t_least_s3 t_least_s4
  have hl' : ∀ r ∈ days, r.length ≤ 1000 := fun r hr => Nat.le_trans (len_flatten hr) hl
  have f5 : ∀ z ∈ days.flatten, In5 z := fun z hz => by
    obtain ⟨r, hr, hz⟩ := List.mem_flatten.mp hz
    exact h5 r hr z hz
  walk_at "rd"
  intro l0 hl0
  have s0 : Same H (upd H l0 (.lst [V.int 0])) := Same.new hl0
  walk_at "rd"
  intro g out hg nd mem
  have l5 := nodup_le5 nd fun z hz => f5 z ((mem z).mp hz)
  have sg : Same (upd H l0 (.lst [V.int 0])) (upd (upd H l0 (.lst [V.int 0])) g (SetO w g (fun j => decide (j ∈ days.flatten)) out.length)) := Same.new hg
  walk_at "rd"
  intro ns u hns hmem hlen hu
  have su : Same (upd (upd H l0 (.lst [V.int 0])) g (SetO w g (fun j => decide (j ∈ days.flatten)) out.length)) (upd (upd (upd H l0 (.lst [V.int 0])) g (SetO w g (fun j => decide (j ∈ days.flatten)) out.length)) u (.lst (ns.map V.int))) := Same.new hu
  have f0 := su _ _ (sg _ _ (upd_same (H := H) (a := l0) (o := .lst [V.int 0])))
  walk_at "rd"
  intro v hv
  have sL : Same H (upd (upd (upd (upd H l0 (.lst [V.int 0])) g (SetO w g (fun j => decide (j ∈ days.flatten)) out.length)) u (.lst (ns.map V.int))) v (.lst ([V.int 0] ++ ns.map V.int))) := ((s0.trans sg).trans su).trans (Same.new hv)
  have eL : (upd (upd (upd (upd H l0 (.lst [V.int 0])) g (SetO w g (fun j => decide (j ∈ days.flatten)) out.length)) u (.lst (ns.map V.int))) v (.lst ([V.int 0] ++ ns.map V.int))) v = some (.lst ((0 :: ns).map V.int)) := upd_same
  generalize upd (upd (upd (upd H l0 (.lst [V.int 0])) g (SetO w g (fun j => decide (j ∈ days.flatten)) out.length)) u (.lst (ns.map V.int))) v (.lst ([V.int 0] ++ ns.map V.int)) = HL at *
  walk_at "rd"
  refine for_list (K := K) (a := v) (xs := (0 :: ns).map V.int) (fun i σ H' => Hold (∃ (o5 : V) (o6 o7 : Option V), σ = [some (.ref p), some (.ref a), o2, o3, some (.ref F), some o5, o6, o7] ∧ Same HL H' ∧
    ((i = 0 ∧ o5 = .non) ∨ ∃ (b : Addr) (ys : List V) (us : List Tk), o5 = .ref b ∧ H b = none ∧ H' b = some (.lst ys) ∧ TkL H' ys us ∧ WeekOk S D W days us ∧ tkCost us = lowL (((0 :: ns).take i).map (weekCost S D W days)) ∧ us.length ≤ 30000 ∧ 0 < i)))
    ⟨.non, _, _, rfl, Same.refl _, .inl ⟨rfl, rfl⟩⟩ (fun i σ H' _ ⟨_, _, _, _, s, _⟩ => SqL.of (s _ _ eL)) ?_ ?_
  · rintro i x σ H' hx ⟨o5, o6, o7, rfl, s, hb⟩
    rw [List.getElem?_map] at hx
    obtain ⟨own, hown, rfl⟩ := Option.map_eq_some_iff.mp hx
    have mo : own ∈ 0 :: ns := List.mem_iff_getElem?.mpr ⟨i, hown⟩
    have ho : 0 ≤ own ∧ own ≤ 5 := by
      rcases List.mem_cons.mp mo with g | g
      · omega
      · have := f5 _ (by simpa using (hmem own).mp g)
        exact ⟨by have := this.1; omega, this.2⟩
    have sH := sL.trans s
    have et : (0 :: ns).take (i + 1) = (0 :: ns).take i ++ [own] := by rw [List.take_add_one, hown]; rfl
    have hT2 := hT.same sH
    have hL2 := hL.same sH
    unfold t_least_b1 t_least_b1_s1
    obtain ⟨ho0, ho1⟩ := ho
    walk_at "rd"
    intro R xs ts H2 s2 hR r2 hx wok wc wl
    have lx := hx.len
    have hR0 : H R = none := sH.free hR
    rcases hb with ⟨g0, rfl⟩ | ⟨b, ys, us, rfl, g1', g2, g3, g4, g5, g6, g7⟩
    · walk_at "rd"
      refine ⟨_, _, _, rfl, s.trans s2, .inr ⟨R, xs, ts, rfl, hR0, r2, hx, wok, ?_, wl, Nat.succ_pos _⟩⟩
      rw [et, List.map_append, wc, g0]
      rfl
    · have hne : ((0 :: ns).take i).map (weekCost S D W days) ≠ [] := by
        cases i with
        | zero => exact absurd g7 (Nat.lt_irrefl _)
        | succ _ => simp
      have b2 := s2 _ _ g2
      have g3' := g3.same s2
      have ly := g3.len
      walk_at "rd"
      intro H3 s3
      have g3'' := g3'.same s3
      walk_at "rd"
      intro H4 s4
      have s24 := s3.trans s4
      walk_at "rd"
      refine ite_d (fun c => ?_) (fun c => ?_)
      · walk_at "rd"
        refine ⟨_, _, _, rfl, (s.trans s2).trans s24, .inr ⟨R, xs, ts, rfl, hR0, s24 _ _ r2, hx.same s24, wok, ?_, wl, Nat.succ_pos _⟩⟩
        rw [et, List.map_append]
        show _ = lowL (_ ++ [weekCost S D W days own])
        rw [lowL_snoc hne, ← g5, ← wc]
        omega
      · refine ⟨_, _, _, rfl, (s.trans s2).trans s24, .inr ⟨b, ys, us, rfl, g1', s24 _ _ b2, g3'.same s24, g4, ?_, g6, Nat.succ_pos _⟩⟩
        rw [et, List.map_append]
        show _ = lowL (_ ++ [weekCost S D W days own])
        rw [lowL_snoc hne, ← g5, ← wc]
        omega
  · rintro σ H' ⟨o5, o6, o7, rfl, s, hb⟩
    unfold t_least_s5
    rcases hb with ⟨g0, _⟩ | ⟨b, ys, us, rfl, g1', g2, g3, g4, g5, g6, g7⟩
    · simp at g0
    · have ly := g3.len
      walk_at "rd"
      intro H2 s2
      walk_at "rd"
      intro t ht
      have st : Same H2 (upd H2 t (.tup [V.int (tkCost us), V.ref b])) := Same.new ht
      have ec : tkCost us = weekBest S D W days := by
        rw [List.length_map, List.take_length] at g5
        rw [g5]
        unfold weekBest
        refine lowL_same (by simp) fun x => ?_
        have mm : ∀ k, k ∈ 0 :: ns ↔ k ∈ 0 :: days.flatten := fun k => by
          rw [List.mem_cons, List.mem_cons, hmem k]
          simp
        constructor
        · intro hx
          obtain ⟨k, hk, rfl⟩ := List.mem_map.mp hx
          exact List.mem_map.mpr ⟨k, (mm k).mp hk, rfl⟩
        · intro hx
          obtain ⟨k, hk, rfl⟩ := List.mem_map.mp hx
          exact List.mem_map.mpr ⟨k, (mm k).mpr hk, rfl⟩
      have sall := (sL.trans s).trans (s2.trans st)
      refine q t b ys us _ sall g1' (((sL.trans s).trans s2).free ht) (by rw [upd_same, ec]) ((s2.trans st) _ _ g2) (g3.same (s2.trans st)) g4 ec g6
theorem rd_least (O : OkT K A) (h : sp_least K A vs H Q E) : t_least K A w E { nx := fun _ H' => Q .non H', rt := Q } (start N_least vs) H := by
  obtain ⟨p, a, S, D, W, days, rfl, hT, hL, hl, hd, k1, k2⟩ := h
  obtain ⟨ps, hps⟩ := id hL
  have psq := hps.sq
  have bad : ∀ r ∈ days, ∀ z ∈ r, ¬ In5 z → E (.ref A.c_BadZones) none H := fun r hr z hz c => k2 fun all => c (all r hr z hz)
  unfold t_least t_least_s1
  walk_at "rd"
  refine for_list (K := K) (a := a) (xs := ps.map V.ref) (fun i σ H' => Hold (H' = H ∧ ∃ (o2 o3 : Option V), σ = [some (.ref p), some (.ref a), o2, o3, none, none, none, none] ∧ ∀ r ∈ days.take i, ∀ z ∈ r, In5 z)) ⟨rfl, none, none, rfl, fun r hr => by simp at hr⟩ (fun i σ H' _ ⟨e, _⟩ => by rw [e]; exact psq) ?_ ?_
  · rintro i x σ H' hx ⟨rfl, o2, o3, rfl, h5⟩
    rw [List.getElem?_map] at hx
    obtain ⟨u, hu, rfl⟩ := Option.map_eq_some_iff.mp hx
    have hil : i < days.length := by rw [← hps.len]; exact (List.getElem?_eq_some_iff.mp hu).1
    have hr : days[i]? = some days[i] := List.getElem?_eq_getElem hil
    have hrm : days[i] ∈ days := List.getElem_mem hil
    have hdu := hps.at_ i u _ hu hr
    have b2 := bad _ hrm
    generalize days[i] = rides at *
    walk_at "rd"
    refine for_list (K := K) (a := u) (xs := rides.map V.int) (fun j σ H2 => Hold (H2 = H' ∧ ∃ o3 : Option V, σ = [some (.ref p), some (.ref a), some (.ref u), o3, none, none, none, none] ∧ ∀ z ∈ rides.take j, In5 z)) ⟨rfl, o3, rfl, fun z hz => by simp at hz⟩ (fun j σ H2 _ ⟨e, _⟩ => by rw [e]; exact SqL.of hdu) ?_ ?_
    · rintro j y σ H2 hy ⟨rfl, o3, rfl, g5⟩
      rw [List.getElem?_map] at hy
      obtain ⟨z, hz, rfl⟩ := Option.map_eq_some_iff.mp hy
      have hzm : z ∈ rides := List.mem_iff_getElem?.mpr ⟨j, hz⟩
      walk_at "rd"
      refine ⟨fun c => ?_, fun c => b2 z hzm c⟩
      refine ⟨rfl, _, rfl, fun y hy => ?_⟩
      rw [List.take_add_one, hz] at hy
      rcases List.mem_append.mp hy with g | g
      · exact g5 y g
      · have : y = z := by simpa using g
        rw [this]
        exact c
    · rintro σ H2 ⟨rfl, o3, rfl, g5⟩
      rw [List.length_map, List.take_length] at g5
      refine ⟨rfl, _, _, rfl, fun r hr' => ?_⟩
      rw [List.take_add_one, hr] at hr'
      rcases List.mem_append.mp hr' with g | g
      · exact h5 r g
      · have : r = rides := by simpa using g
        rw [this]
        exact g5
  · rintro σ H' ⟨rfl, o2, o3, rfl, h5⟩
    rw [List.length_map, hps.len, List.take_length] at h5
    walk_at "rd"
    intro F hF
    unfold t_least_s2
    have psq1 := sq_new (o := .lst []) hF psq
    walk_at "rd"
    refine for_list (K := K) (a := a) (xs := ps.map V.ref) (fun i σ H2 => Hold (Same H' (del H2 F) ∧ H2 F = some (.lst ((days.take i).flatten.map V.int)) ∧ ∃ (o2 : Option V), σ = [some (.ref p), some (.ref a), o2, o3, some (.ref F), none, none, none])) ⟨by rw [del_new hF]; exact Same.refl _, upd_same, o2, rfl⟩ (fun i σ H2 _ ⟨s, _⟩ => (s.trans (del_sub _ _)).seq psq) ?_ ?_
    · rintro i x σ H2 hx ⟨s, f1, o2, rfl⟩
      rw [List.getElem?_map] at hx
      obtain ⟨u, hu, rfl⟩ := Option.map_eq_some_iff.mp hx
      have hil : i < days.length := by rw [← hps.len]; exact (List.getElem?_eq_some_iff.mp hu).1
      have hr : days[i]? = some days[i] := List.getElem?_eq_getElem hil
      have hrm : days[i] ∈ days := List.getElem_mem hil
      have hdu := (s.trans (del_sub _ _)) _ _ (hps.at_ i u _ hu hr)
      have lf : (days.take (i + 1)).flatten.length ≤ 1000 := by
        have e : days.flatten = (days.take (i + 1)).flatten ++ (days.drop (i + 1)).flatten := by rw [← List.flatten_append, List.take_append_drop]
        rw [e, List.length_append] at hl
        omega
      have et : (days.take (i + 1)).flatten = (days.take i).flatten ++ days[i] := by
        rw [List.take_add_one, hr, Option.toList_some, List.flatten_append]
        simp only [List.flatten_cons, List.flatten_nil, List.append_nil]
      rw [et, List.length_append] at lf
      walk_at "rd"
      refine ⟨?_, ?_, _, rfl⟩
      · rw [del_upd]; exact s
      · rw [upd_same, et, List.map_append]
    · rintro σ H2 ⟨s, f1, o2, rfl⟩
      rw [List.length_map, hps.len, List.take_length] at f1
      have s2 := s.trans (del_sub _ _)
      walk_at "rd"
      exact rd_least3 O (hT.same s2) (hL.same s2) (SqL.of f1) h5 hl hd fun t l xs ts H3 s3 hl3 ht3 e1 e2 e3 e4 e5 e6 => k1 h5 t l xs ts H3 (s2.trans s3) (s2.free hl3) (s2.free ht3) e1 e2 e3 e4 e5 e6
end
end FW

/-! What the laws' helpers promise that many laws have. -/
namespace FW
open PySem PySem.Spec PyProof.Rows L2
/-- a cell of the script, nought beyond it -/
def cell (ns : List Int) (k : Int) : Int := ns.getD k.toNat 0
def sp_l_cell_at (K : PySem.W.Frag) (A : Ad) : Sp := fun vs H Q _ => ∃ (a : Addr) (ns : List Int) (k : Int), vs = [.ref a, .int k] ∧ SqL K H a (ns.map V.int) ∧ 0 ≤ k ∧ Q (.int (cell ns k)) H
def sp_l_whole (K : PySem.W.Frag) (A : Ad) : Sp := fun vs H Q _ => ∃ i : Int, vs = [.int i] ∧ Q (.bl true) H
/-- the least price of a row from its zones on -/
def sp_l_least (K : PySem.W.Frag) (A : Ad) : Sp := fun vs H Q _ => ∃ (a : Addr) (row : List Int) (z : Int), vs = [.ref a, .int z] ∧ SqL K H a (row.map V.int) ∧ row.length = 5 ∧ 1 ≤ z ∧ z ≤ 5 ∧ ∀ H', Same H H' → Q (.int (low row z)) H'
/-- a list that is made holds the same whole numbers as another -/
def sp_l_same (K : PySem.W.Frag) (A : Ad) : Sp := fun vs H Q _ => ∃ (a b : Addr) (xs : List Int), vs = [.ref a, .ref b] ∧ H a = some (.lst (xs.map V.int)) ∧ SqL K H b (xs.map V.int) ∧ xs.length ≤ 50000 ∧ Q (.bl true) H
/-- a law: of at most 63 numbers it says True -/
def spLaw (K : PySem.W.Frag) : Sp := fun vs H Q _ => ∃ (a : Addr) (ns : List Int), vs = [.ref a] ∧ SqL K H a (ns.map V.int) ∧ ns.length ≤ 63 ∧ ∀ H', Q (.bl true) H'
end FW

/-! A new list of new lists of whole numbers. -/
namespace FW
open PySem PySem.Spec PyProof.Rows L2
structure NewLL (H H' : Hp) (l : Addr) (ps : List Addr) (days : List (List Int)) : Prop where
  same : Same H H'
  lst : H' l = some (.lst (ps.map V.ref))
  len : ps.length = days.length
  nd : ps.Nodup
  ln : l ∉ ps
  l0 : H l = none
  p0 : ∀ p ∈ ps, H p = none
  at_ : ∀ (i : Nat) (p : Addr) (r : List Int), ps[i]? = some p → days[i]? = some r → H' p = some (.lst (r.map V.int))
theorem NewLL.ll {K : PySem.W.Frag} {H H' : Hp} {l : Addr} {ps : List Addr} {days : List (List Int)} (n : NewLL H H' l ps days) : LLAt K H' l ps days := ⟨SqL.of n.lst, n.len, n.at_⟩
theorem NewLL.ext {H H' H'' : Hp} {l : Addr} {ps : List Addr} {days : List (List Int)} (n : NewLL H H' l ps days) (s : Same H' H'') : NewLL H H'' l ps days :=
  ⟨n.same.trans s, s _ _ n.lst, n.len, n.nd, n.ln, n.l0, n.p0, fun i p r h1 h2 => s _ _ (n.at_ i p r h1 h2)⟩
theorem NewLL.pre {H0 H H' : Hp} {l : Addr} {ps : List Addr} {days : List (List Int)} (n : NewLL H H' l ps days) (s : Same H0 H) : NewLL H0 H' l ps days :=
  ⟨s.trans n.same, n.lst, n.len, n.nd, n.ln, s.free n.l0, fun p hp => s.free (n.p0 p hp), n.at_⟩
theorem NewLL.nil {H : Hp} {l : Addr} (h : H l = none) : NewLL H (upd H l (.lst [])) l [] [] :=
  ⟨Same.new h, upd_same, rfl, List.nodup_nil, by simp, h, fun p hp => by simp at hp, fun i p r h => by simp at h⟩
theorem get_snoc {α : Type} {l : List α} {x y : α} {i : Nat} (h : (l ++ [x])[i]? = some y) : (i < l.length ∧ l[i]? = some y) ∨ (i = l.length ∧ y = x) := by
  by_cases c : i < l.length
  · rw [List.getElem?_append_left c] at h
    exact .inl ⟨c, h⟩
  · have hi : i < (l ++ [x]).length := (List.getElem?_eq_some_iff.mp h).1
    rw [List.length_append, List.length_singleton] at hi
    have e : i = l.length := by omega
    rw [e, List.getElem?_append_right (Nat.le_refl _), Nat.sub_self] at h
    exact .inr ⟨e, (Option.some.inj h).symm⟩
theorem NewLL.snoc {H H' H'' : Hp} {l D : Addr} {ps : List Addr} {days : List (List Int)} {r : List Int} (n : NewLL H H' l ps days) (hD : H' D = none) (s : Same H' H'') (e : H'' D = some (.lst (r.map V.int))) :
    NewLL H (upd H'' l (.lst (ps.map V.ref ++ [.ref D]))) l (ps ++ [D]) (days ++ [r]) where
  same := (n.same.trans s).mut n.l0
  lst := by rw [upd_same, List.map_append]; rfl
  len := by rw [List.length_append, List.length_append, n.len]; rfl
  nd := List.nodup_append.mpr ⟨n.nd, by simp, fun a ha b hb => by
    have eb : b = D := by simpa using hb
    rw [eb]
    intro e2
    obtain ⟨j, hj⟩ := List.mem_iff_getElem?.mp ha
    have hjl : j < days.length := by rw [← n.len]; exact (List.getElem?_eq_some_iff.mp hj).1
    have := n.at_ j a _ hj (List.getElem?_eq_getElem hjl)
    rw [e2, hD] at this
    cases this⟩
  ln := fun m => by
    rcases List.mem_append.mp m with g | g
    · exact n.ln g
    · have : l = D := by simpa using g
      rw [← this, n.lst] at hD
      cases hD
  l0 := n.l0
  p0 := fun p hp => by
    rcases List.mem_append.mp hp with g | g
    · exact n.p0 p g
    · have : p = D := by simpa using g
      rw [this]
      exact n.same.free hD
  at_ := fun i p q h1 h2 => by
    rcases get_snoc h1 with ⟨c, g⟩ | ⟨c, g⟩
    · rcases get_snoc h2 with ⟨c2, g2⟩ | ⟨c2, g2⟩
      · have np : p ≠ l := fun z => n.ln (by rw [← z]; exact List.mem_iff_getElem?.mpr ⟨i, g⟩)
        rw [upd_ne np]
        exact s _ _ (n.at_ i p q g g2)
      · have := n.len
        omega
    · rcases get_snoc h2 with ⟨c2, g2⟩ | ⟨c2, g2⟩
      · have := n.len
        omega
      · have np : D ≠ l := fun z => by rw [z, n.lst] at hD; cases hD
        rw [g, g2, upd_ne np]
        exact e
theorem NewLL.put {H H' : Hp} {l p : Addr} {ps : List Addr} {days : List (List Int)} {j : Nat} {r r' : List Int} (n : NewLL H H' l ps days) (hp : ps[j]? = some p) (hr : days[j]? = some r) :
    NewLL H (upd H' p (.lst (r'.map V.int))) l ps (days.set j r') where
  same := n.same.mut (n.p0 p (List.mem_iff_getElem?.mpr ⟨j, hp⟩))
  lst := by
    have nl : l ≠ p := fun z => n.ln (by rw [z]; exact List.mem_iff_getElem?.mpr ⟨j, hp⟩)
    rw [upd_ne nl]
    exact n.lst
  len := by rw [List.length_set]; exact n.len
  nd := n.nd
  ln := n.ln
  l0 := n.l0
  p0 := n.p0
  at_ := fun i q s h1 h2 => by
    by_cases e : i = j
    · subst e
      rw [hp] at h1
      cases h1
      have hj : i < days.length := (List.getElem?_eq_some_iff.mp hr).1
      rw [List.getElem?_set_self hj] at h2
      cases h2
      exact upd_same
    · rw [List.getElem?_set_ne (fun z => e z.symm)] at h2
      have nq : q ≠ p := fun z => by
        rw [z] at h1
        exact e (nd_ix n.nd h1 hp)
      rw [upd_ne nq]
      exact n.at_ i q s h1 h2
theorem NewLL.of_news {H H' : Hp} {D : Addr} {addrs : List Addr} {days : List (List Int)} {obj : Nat → HO} (n : News H D obj addrs H') (hD : H D = none) (hl : addrs.length = days.length) (ho : ∀ (i : Nat) (r : List Int), days[i]? = some r → obj i = .lst (r.map V.int)) : NewLL H H' D addrs days :=
  ⟨n.same.trans (del_sub _ _), n.lst, hl, n.nd, fun m => by
    obtain ⟨j, hj⟩ := List.mem_iff_getElem?.mp m
    exact (del_get (n.at_ j D hj)).2 rfl, hD, n.old, fun i p r h1 h2 => by rw [(del_get (n.at_ i p h1)).1, ho i r h2]⟩
/-- how many numbers there are -/
def llen (days : List (List Int)) : Nat := (days.map List.length).sum
theorem llen_flatten (days : List (List Int)) : days.flatten.length = llen days := by
  unfold llen
  rw [List.length_flatten]
theorem llen_set : ∀ {days : List (List Int)} {j : Nat} {r r' : List Int}, days[j]? = some r → llen (days.set j r') + r.length = llen days + r'.length
  | [], j, r, r', h => by simp at h
  | a :: l, 0, r, r', h => by
    have e : a = r := Option.some.inj h
    subst e
    simp only [llen, List.set_cons_zero, List.map_cons, List.sum_cons]
    omega
  | a :: l, j + 1, r, r', h => by
    have ih := llen_set (days := l) (j := j) (r := r) (r' := r') h
    simp only [llen, List.set_cons_succ, List.map_cons, List.sum_cons] at ih ⊢
    omega
theorem all_set {P : Int → Prop} {days : List (List Int)} {j : Nat} {r' : List Int} (h : ∀ r ∈ days, ∀ z ∈ r, P z) (h' : ∀ z ∈ r', P z) : ∀ r ∈ days.set j r', ∀ z ∈ r, P z := fun r hr => by
  rcases List.mem_or_eq_of_mem_set hr with g | g
  · exact h r g
  · rw [g]
    exact h'
end FW

/-! Covers: no tickets cost less than the least. -/
namespace FW
open PySem PySem.Spec PyProof.Rows L2
theorem ex_max (b : Int) : ∀ {l : List Int}, (∃ x ∈ l, x ≤ b) → ∃ m ∈ l, m ≤ b ∧ ∀ y ∈ l, y ≤ b → y ≤ m
  | [], h => by obtain ⟨x, hx, _⟩ := h; cases hx
  | a :: r, h => by
    by_cases c : ∃ x ∈ r, x ≤ b
    · obtain ⟨m, hm, h1, h2⟩ := ex_max b c
      by_cases e : a ≤ b ∧ m < a
      · refine ⟨a, List.mem_cons_self, e.1, fun y hy hb => ?_⟩
        rcases List.mem_cons.mp hy with g | g
        · omega
        · have := h2 y g hb
          omega
      · refine ⟨m, List.mem_cons_of_mem _ hm, h1, fun y hy hb => ?_⟩
        rcases List.mem_cons.mp hy with g | g
        · omega
        · exact h2 y g hb
    · obtain ⟨x, hx, hb⟩ := h
      rcases List.mem_cons.mp hx with g | g
      · subst g
        refine ⟨x, List.mem_cons_self, hb, fun y hy hyb => ?_⟩
        rcases List.mem_cons.mp hy with g | g
        · omega
        · exact absurd ⟨y, g, hyb⟩ c
      · exact absurd ⟨x, g, hb⟩ c
theorem ownCost_nn {D : List Int} {own : Int} (h : Row5 D) : 0 ≤ ownCost D own := by
  unfold ownCost
  split
  · exact low_nn h.2
  · exact Int.le_refl _
theorem ownCost_mono {D : List Int} {a b : Int} (h : Row5 D) (hab : a ≤ b) (hb : b ≤ 5) : ownCost D a ≤ ownCost D b := by
  unfold ownCost
  by_cases c : 0 < a
  · rw [if_pos c, if_pos (by omega)]
    exact low_mono (by omega) hab (by rw [h.1]; omega)
  · rw [if_neg c]
    exact ownCost_nn h
theorem sgSum_cut {S : List Int} {m n : Int} {rides : List Int} (h : ∀ z ∈ rides, (m < z ↔ n < z)) : sgSum S m rides = sgSum S n rides := by
  unfold sgSum
  have e : rides.filter (fun z => decide (m < z)) = rides.filter (fun z => decide (n < z)) := List.filter_congr fun z hz => by simp only [h z hz]
  rw [e]
theorem dayBest_le {S D : List Int} {held own : Int} {rides : List Int} (hD : Row5 D) (h0 : 0 ≤ own) (h5 : own ≤ 5) : dayBest S D held rides ≤ dayCost S D held rides own := by
  obtain ⟨m, hm, h1, h2⟩ := ex_max own (l := 0 :: rides) ⟨0, List.mem_cons_self, h0⟩
  have e : dayCost S D held rides m ≤ dayCost S D held rides own := by
    unfold dayCost
    have e1 := ownCost_mono hD h1 h5
    have e2 : sgSum S (max held m) rides = sgSum S (max held own) rides := sgSum_cut fun z hz => by
      have := h2 z (List.mem_cons_of_mem _ hz)
      omega
    omega
  have := lowL_le (List.mem_map.mpr ⟨m, hm, rfl⟩ : dayCost S D held rides m ∈ (0 :: rides).map (dayCost S D held rides))
  unfold dayBest
  omega
theorem weekBest_le {S D W : List Int} {held : Int} {days : List (List Int)} (hW : Row5 W) (h0 : 0 ≤ held) (h5 : held ≤ 5) : weekBest S D W days ≤ weekCost S D W days held := by
  obtain ⟨m, hm, h1, h2⟩ := ex_max held (l := 0 :: days.flatten) ⟨0, List.mem_cons_self, h0⟩
  have e : weekCost S D W days m ≤ weekCost S D W days held := by
    unfold weekCost
    have e1 := ownCost_mono hW h1 h5
    have e2 : days.map (dayBest S D m) = days.map (dayBest S D held) := List.map_congr_left fun rides hr => by
      unfold dayBest
      have e3 : dayCost S D m rides = dayCost S D held rides := by
        funext own
        unfold dayCost
        have e4 : sgSum S (max m own) rides = sgSum S (max held own) rides := sgSum_cut fun z hz => by
          have := h2 z (List.mem_cons_of_mem _ (List.mem_flatten.mpr ⟨rides, hr, hz⟩))
          omega
        rw [e4]
      rw [e3]
    rw [e2]
    omega
  have := lowL_le (List.mem_map.mpr ⟨m, hm, rfl⟩ : weekCost S D W days m ∈ (0 :: days.flatten).map (weekCost S D W days))
  unfold weekBest
  omega
theorem sum_nn : ∀ {l : List Int}, (∀ x ∈ l, 0 ≤ x) → 0 ≤ l.sum
  | [], _ => Int.le_refl _
  | a :: r, h => by
    rw [List.sum_cons]
    have h1 := h a List.mem_cons_self
    have h2 := sum_nn (l := r) fun x hx => h x (List.mem_cons_of_mem _ hx)
    omega
theorem sgSum_nn {S : List Int} {m : Int} {rides : List Int} (h : Row5 S) : 0 ≤ sgSum S m rides := sum_nn fun x hx => by
  obtain ⟨z, _, rfl⟩ := List.mem_map.mp hx
  exact low_nn h.2
theorem dayCost_nn {S D : List Int} {held own : Int} {rides : List Int} (hS : Row5 S) (hD : Row5 D) : 0 ≤ dayCost S D held rides own := by
  unfold dayCost
  have := ownCost_nn (own := own) hD
  have := sgSum_nn (m := max held own) (rides := rides) hS
  omega
theorem dayBest_nn {S D : List Int} {held : Int} {rides : List Int} (hS : Row5 S) (hD : Row5 D) : 0 ≤ dayBest S D held rides := by
  unfold dayBest
  obtain ⟨k, _, e⟩ := List.mem_map.mp (lowL_mem (l := (0 :: rides).map (dayCost S D held rides)) (by simp))
  rw [← e]
  exact dayCost_nn hS hD
theorem weekBest_nn {S D W : List Int} {days : List (List Int)} (hS : Row5 S) (hD : Row5 D) (hW : Row5 W) : 0 ≤ weekBest S D W days := by
  unfold weekBest
  obtain ⟨k, _, e⟩ := List.mem_map.mp (lowL_mem (l := (0 :: days.flatten).map (weekCost S D W days)) (by simp))
  rw [← e]
  unfold weekCost
  have h1 := ownCost_nn (own := k) hW
  have h2 : 0 ≤ (days.map (dayBest S D k)).sum := sum_nn fun x hx => by
    obtain ⟨r, _, rfl⟩ := List.mem_map.mp hx
    exact dayBest_nn hS hD
  omega
end FW

/-! What the laws' helpers promise that make rows of prices, days of rides. -/
namespace FW
open PySem PySem.Spec PyProof.Rows L2
def sp_l_rows (K : PySem.W.Frag) (A : Ad) : Sp := fun vs H Q _ => ∃ (a : Addr) (ns : List Int), vs = [.ref a] ∧ SqL K H a (ns.map V.int) ∧ ns.length ≤ 63 ∧
  ∀ (l : Addr) (ps : List Addr) (S D W : List Int) (H' : Hp), Row5 S → Row5 D → Row5 W → NewLL H H' l ps [S, D, W] → Q (.ref l) H'
def sp_l_days (K : PySem.W.Frag) (A : Ad) : Sp := fun vs H Q _ => ∃ (a : Addr) (ns : List Int), vs = [.ref a] ∧ SqL K H a (ns.map V.int) ∧ ns.length ≤ 63 ∧
  ∀ (l : Addr) (ps : List Addr) (days : List (List Int)) (H' : Hp), (∀ r ∈ days, ∀ z ∈ r, In5 z) → llen days ≤ 200 → days.length ≤ 7 → NewLL H H' l ps days → Q (.ref l) H'
def sp_l_paid (K : PySem.W.Frag) (A : Ad) : Sp := fun vs H Q _ => ∃ (n o : Int) (R L : Addr) (S D W : List Int) (days : List (List Int)), vs = [.int n, .int o, .ref R, .ref L] ∧ LL K H R [S, D, W] ∧ LL K H L days ∧ Row5 S ∧ Row5 D ∧ Row5 W ∧
  (∀ r ∈ days, ∀ z ∈ r, In5 z) ∧ days.length ≤ 20 ∧ llen days ≤ 1000 ∧ ∀ v : Int, weekBest S D W days ≤ v → Q (.int v) H
/-- the s-th row of prices -/
def rowOf (ns : List Int) (most : Int) (first : Int) (s : Nat) : List Int := (List.range 5).map fun (k : Nat) => cell ns (first + 5 * (s : Int) + (k : Int)) % most
theorem rowOf_len (ns : List Int) (most first : Int) (s : Nat) : (rowOf ns most first s).length = 5 := by
  unfold rowOf
  rw [List.length_map, List.length_range]
theorem rowOf_ok {ns : List Int} {most first : Int} {s : Nat} (h : 0 < most) : Row5 (rowOf ns most first s) := ⟨rowOf_len _ _ _ _, fun x hx => by
  obtain ⟨k, _, rfl⟩ := List.mem_map.mp hx
  exact Int.emod_nonneg _ (by omega)⟩
theorem at_ref {addrs : List Addr} {i : Nat} {p : Addr} (h : addrs[i]? = some p) : atI (addrs.map V.ref) (0 + (i : Int)) = some (.ref p) := by
  rw [Int.zero_add]
  exact atI_nat (by rw [List.getElem?_map, h]; rfl)
theorem at_refi {addrs : List Addr} {i : Int} {p : Addr} (h0 : 0 ≤ i) (h : addrs[i.toNat]? = some p) : atI (addrs.map V.ref) i = some (.ref p) := atI_lt h0 (by rw [List.getElem?_map, h]; rfl)
theorem get_some {α : Type} {l : List α} {i : Nat} (h : i < l.length) : ∃ x, l[i]? = some x := ⟨l[i], List.getElem?_eq_getElem h⟩
theorem LLAt.get {K : PySem.W.Frag} {H : Hp} {a : Addr} {ps : List Addr} {days : List (List Int)} {i : Int} {r : List Int} (l : LLAt K H a ps days) (h0 : 0 ≤ i) (h : days[i.toNat]? = some r) : ∃ p, atI (ps.map V.ref) i = some (.ref p) ∧ H p = some (.lst (r.map V.int)) := by
  have hi : i.toNat < ps.length := by rw [l.len]; exact (List.getElem?_eq_some_iff.mp h).1
  obtain ⟨p, hp⟩ := get_some hi
  exact ⟨p, at_refi h0 hp, l.at_ _ _ _ hp h⟩
/-- one of some whole numbers by its place -/
theorem pick {ns : List Int} {i : Int} (h0 : 0 ≤ i) (h : i < ns.length) : ∃ m : Int, atI (ns.map V.int) i = some (.int m) ∧ m ∈ ns := ⟨_, atI_map h0 h, by
  rw [List.getD_eq_getElem?_getD, List.getElem?_eq_getElem (by omega)]
  exact List.getElem_mem _⟩
end FW

namespace FW
open PySem PySem.Spec PyProof.Rows L2
/-- Tariff(..): a new one -/
theorem mk_tariff {K : PySem.W.Frag} {A : Ad} {H : Hp} {T dx a b c : Addr} {S D W : List Int} {Q : VK} {E : XK} (nT : H T = none) (nd : H dx = none) (ha : SqL K H a (S.map V.int)) (hb : SqL K H b (D.map V.int)) (hc : SqL K H c (W.map V.int)) (rS : Row5 S) (rD : Row5 D) (rW : Row5 W)
    (q : ∀ H', Same H H' → Tar A H' T S D W → Q .non H') : sp_Tariff_init K A [.ref T, .ref a, .ref b, .ref c] (upd (upd H dx (.own T)) T (.ins A.c_Tariff dx [])) Q E := by
  have sN : Same H (upd (upd H dx (.own T)) T (.ins A.c_Tariff dx [])) := (Same.new nd).mut nT
  refine ⟨T, dx, a, b, c, S, D, W, rfl, upd_same, sN.seq ha, sN.seq hb, sN.seq hc, fun _ a' b' c' H' t _ _ _ _ _ _ kp => ?_, fun n => absurd ⟨rS, rD, rW⟩ n⟩
  exact q H' (fun x o e => kp x o (sN x o e) (ne_of_none e nT)) ⟨_, _, _, t⟩
theorem mk_tariff2 {K : PySem.W.Frag} {A : Ad} {H : Hp} {T dx a b c : Addr} {S D W : List Int} {Q : VK} {E : XK} (nT : H T = none) (nd : H dx = none) (ha : SqL K H a (S.map V.int)) (hb : SqL K H b (D.map V.int)) (hc : SqL K H c (W.map V.int)) (rS : Row5 S) (rD : Row5 D) (rW : Row5 W)
    (q : ∀ H' a' b' c', Same H H' → TarAt A H' T a' b' c' S D W → H a' = none → H b' = none → H c' = none → Q .non H') : sp_Tariff_init K A [.ref T, .ref a, .ref b, .ref c] (upd (upd H dx (.own T)) T (.ins A.c_Tariff dx [])) Q E := by
  have sN : Same H (upd (upd H dx (.own T)) T (.ins A.c_Tariff dx [])) := (Same.new nd).mut nT
  refine ⟨T, dx, a, b, c, S, D, W, rfl, upd_same, sN.seq ha, sN.seq hb, sN.seq hc, fun _ a' b' c' H' t na nb nc _ _ _ kp => ?_, fun n => absurd ⟨rS, rD, rW⟩ n⟩
  exact q H' a' b' c' (fun x o e => kp x o (sN x o e) (ne_of_none e nT)) t (sN.free na) (sN.free nb) (sN.free nc)
end FW

/-! Tickets, as the laws look at them. -/
namespace FW
open PySem PySem.Spec PyProof.Rows L2
/-- a ticket as the document tells it -/
def TkOk (S D W : List Int) (days : List (List Int)) (t : Tk) : Prop := (∃ z, t = .wk z (pr W z) ∧ In5 z) ∨ (∃ (d : Nat) (z : Int), t = .dy d z (pr D z) ∧ d < days.length ∧ In5 z) ∨
    ∃ (d r : Nat) (z : Int) (rides : List Int), t = .sg d r z (pr S z) ∧ days[d]? = some rides ∧ r < rides.length ∧ In5 z
/-- does the ticket serve ride r of day d, of z zones -/
def serves (d r z : Int) : Tk → Bool
  | .wk y _ => decide (z ≤ y)
  | .dy e y _ => decide (z ≤ y) && decide (e = d)
  | .sg e q y _ => decide (z ≤ y) && (decide (e = d) && decide (q = r))
theorem WeekOk.serve {S D W : List Int} {days : List (List Int)} {ts : List Tk} (w : WeekOk S D W days ts) {d r : Nat} {rides : List Int} {z : Int} (h1 : days[d]? = some rides) (h2 : rides[r]? = some z) : ∃ t ∈ ts, serves d r z t = true := by
  rcases w.served d r rides z h1 h2 with ⟨y, h, e⟩ | ⟨y, h, e⟩ | ⟨y, h, e⟩
  · exact ⟨_, h, decide_eq_true e⟩
  · exact ⟨_, h, by simp [serves, e]⟩
  · exact ⟨_, h, by simp [serves, e]⟩
def sp_l_serves (K : PySem.W.Frag) (A : Ad) : Sp := fun vs H Q _ => ∃ (q : Addr) (t : Tk) (d r z : Int), vs = [.ref q, .int d, .int r, .int z] ∧ H q = some (.tup t.vals) ∧ Q (.bl (serves d r z t)) H
def sp_l_served (K : PySem.W.Frag) (A : Ad) : Sp := fun vs H Q _ => ∃ (l : Addr) (xs : List V) (ts : List Tk) (d r z : Int), vs = [.ref l, .int d, .int r, .int z] ∧ SqL K H l xs ∧ TkL H xs ts ∧ (∃ t ∈ ts, serves d r z t = true) ∧ Q (.bl true) H
theorem st_week : ¬ (V.str "day" = V.str "week") := fun z => by
  have : ¬ (("day" : Str) = "week") := by decide +kernel
  exact this (V.str.inj z)
theorem st_week2 : ¬ (V.str "single" = V.str "week") := fun z => by
  have : ¬ (("single" : Str) = "week") := by decide +kernel
  exact this (V.str.inj z)
theorem st_day : ¬ (V.str "single" = V.str "day") := fun z => by
  have : ¬ (("single" : Str) = "day") := by decide +kernel
  exact this (V.str.inj z)
theorem pr_nn {S : List Int} {z : Int} (h : Row5 S) : 0 ≤ pr S z := by
  unfold pr
  rw [List.getD_eq_getElem?_getD]
  cases e : S[(z - 1).toNat]? with
  | none => exact Int.le_refl _
  | some x => exact h.2 x (List.mem_of_getElem? e)
/-- t[1:] is not t -/
theorem cut1 {xs : List V} (h : 1 ≤ xs.length) (u : Option Int) : ¬ (HT.sIx xs.length 0 (some 1) = 0 ∧ HT.sIx xs.length xs.length u = xs.length) := by
  have e : HT.sIx xs.length 0 (some ((1 : Nat) : Int)) = min 1 xs.length := HT.sIx_nat xs.length 0 1
  intro z
  have e2 := e.symm.trans z.1
  omega
theorem cut_from {xs : List V} {z : Int} (h0 : 0 ≤ z) : cutV xs (some z) none = xs.drop z.toNat := by
  obtain ⟨n, rfl⟩ := Int.eq_ofNat_of_zero_le h0
  unfold cutV
  rw [HT.sIx_nat xs.length 0 n, HT.sIx_none]
  by_cases c : n ≤ xs.length
  · rw [Nat.min_eq_left c, Int.toNat_natCast]
    exact List.take_of_length_le (by rw [List.length_drop]; exact Nat.le_refl _)
  · rw [Nat.min_eq_right (by omega), List.drop_of_length_le (Nat.le_refl _), List.drop_of_length_le (by omega)]
    simp
end FW

namespace FW
open PySem PySem.Spec PyProof.Rows L2
/-- rows, days and what they hold -/
structure RD (K : PySem.W.Frag) (H : Hp) (R L : Addr) (rs ps : List Addr) (S D W : List Int) (days : List (List Int)) : Prop where
  hR : LLAt K H R rs [S, D, W]
  hL : LLAt K H L ps days
  rS : Row5 S
  rD : Row5 D
  rW : Row5 W
  h5 : ∀ r ∈ days, ∀ z ∈ r, In5 z
  hll : llen days ≤ 1000
  hdl : days.length ≤ 20
theorem RD.same {K : PySem.W.Frag} {H H' : Hp} {R L : Addr} {rs ps : List Addr} {S D W : List Int} {days : List (List Int)} (c : RD K H R L rs ps S D W days) (s : Same H H') : RD K H' R L rs ps S D W days :=
  ⟨c.hR.same s, c.hL.same s, c.rS, c.rD, c.rW, c.h5, c.hll, c.hdl⟩
def sp_l_shaped (K : PySem.W.Frag) (A : Ad) : Sp := fun vs H Q _ => ∃ (q R L : Addr) (rs ps : List Addr) (S D W : List Int) (days : List (List Int)) (t : Tk), vs = [.ref q, .ref R, .ref L] ∧ RD K H R L rs ps S D W days ∧ H q = some (.tup t.vals) ∧ TkOk S D W days t ∧
  ∀ H', Same H H' → Q (.bl true) H'
def sp_l_good (K : PySem.W.Frag) (A : Ad) : Sp := fun vs H Q _ => ∃ (t R L l : Addr) (rs ps : List Addr) (S D W : List Int) (days : List (List Int)) (xs : List V) (ts : List Tk), vs = [.ref t, .ref R, .ref L] ∧ RD K H R L rs ps S D W days ∧
  H t = some (.tup [.int (tkCost ts), .ref l]) ∧ H l = some (.lst xs) ∧ TkL H xs ts ∧ WeekOk S D W days ts ∧ ts.length ≤ 30000 ∧ ∀ H', Same H H' → Q (.bl true) H'
def sp_l_refused (K : PySem.W.Frag) (A : Ad) : Sp := fun vs H Q _ => ∃ (T L : Addr) (ps : List Addr) (S D W : List Int) (days : List (List Int)) (c : Int) (H0 : Hp), vs = [.ref T, .ref L, .int c] ∧ NewLL H0 H L ps days ∧ Tar A H0 T S D W ∧
  days ≠ [] ∧ (∀ r ∈ days, ∀ z ∈ r, In5 z) ∧ llen days ≤ 900 ∧ days.length ≤ 20 ∧ ∀ H', Q (.bl true) H'
theorem NewLL.cut {H H' : Hp} {l : Addr} {ps : List Addr} {days : List (List Int)} (n : NewLL H H' l ps days) : NewLL (dels H' (l :: ps)) H' l ps days :=
  ⟨dels_sub _ _, n.lst, n.len, n.nd, n.ln, dels_in List.mem_cons_self, fun p hp => dels_in (List.mem_cons_of_mem _ hp), n.at_⟩
theorem dpAll_ll {K : PySem.W.Frag} {H : Hp} : ∀ {ps : List Addr} {days : List (List Int)}, ps.length = days.length → (∀ (i : Nat) (p : Addr) (r : List Int), ps[i]? = some p → days[i]? = some r → H p = some (.lst (r.map V.int))) →
    DpAll K H (ps.map V.ref) (days.map fun r => PyData.list (r.map PyData.int))
  | [], [], _, _ => .nil
  | p :: ps, r :: days, hl, h => .cons (dp_ints (SqL.of (h 0 p r rfl rfl))) (dpAll_ll (by simpa using hl) fun i p' r' h1 h2 => h (i + 1) p' r' h1 h2)
  | [], _ :: _, hl, _ => by simp at hl
  | _ :: _, [], hl, _ => by simp at hl
theorem dp_ll {K : PySem.W.Frag} {H : Hp} {a : Addr} {ps : List Addr} {days : List (List Int)} (l : LLAt K H a ps days) : Dp K H (.ref a) (.list (days.map fun r => PyData.list (r.map PyData.int))) := .lst l.sq (dpAll_ll l.len l.at_)
theorem shp_ll (days : List (List Int)) : Shp 2 (.list (days.map fun r => PyData.list (r.map PyData.int))) := Shp.list fun d hd => by
  obtain ⟨r, _, rfl⟩ := List.mem_map.mp hd
  exact shp_ints r
def sp_law (K : PySem.W.Frag) (A : Ad) : Sp := spLaw K
end FW

namespace FW
open PySem PySem.Spec PyProof.Rows L2
def N_l_cell_at : List Str := ["_law_script", "_law_k"]
def t_l_cell_at (K : PySem.W.Frag) (A : Ad) (E : XK) : TS :=
 tSeq (tIfS (tTest (tOp rLtI (tVar 1) (tCB (rLenS K) (tCons (tVar 0) (tNil))))) (tRet (tOp (rIxL K) (tVar 0) (tVar 1))) (tNext))
 (tRet (tC (.int 0)))
def N_l_whole : List Str := ["_law_found"]
def t_l_whole (K : PySem.W.Frag) (A : Ad) (E : XK) : TS :=
 tRet (tAndV (tIsi K (tVar 0) (.ty "int")) (tNotV (tIsi K (tVar 0) (.ty "bool"))))
def N_l_rows : List Str := ["_law_script", "_law_most", "_law_rows_here", "_law_sort", "_law_k"]
def t_l_rows (K : PySem.W.Frag) (A : Ad) (E : XK) : TS :=
 tSeq (tAsg (tOp (rIxL K) (tLst (tCons (tC (.int 1000)) (tCons (tC (.int 7)) (tCons (tOp rPowI (tC (.int 10)) (tC (.int 12))) (tNil))))) (tOp rModI (tOp rDivI (tCall (sp_l_cell_at K A) [] E0 (tCons (tVar 0) (tCons (tC (.int 0)) (tNil)))) (tC (.int 16))) (tC (.int 3)))) (gName 1))
 (tSeq (tAsg (tLst (tNil)) (gName 2))
 (tSeq (tFor (iRng1 (tCons (tC (.int 3)) (tNil))) (gName 3) (tDrop (tBM K "list" rAppend (tVar 2) (tCons (tLc (iRng1 (tCons (tC (.int 5)) (tNil))) (gName 4) (tYes) (tOp rModI (tCall (sp_l_cell_at K A) [] E0 (tCons (tVar 0) (tCons (tOp rAdd (tOp rAdd (tC (.int 3)) (tOp rMulI (tC (.int 5)) (tVar 3))) (tVar 4)) (tNil)))) (tVar 1)) [4]) (tNil)))))
 (tRet (tVar 2))))
def N_l_days : List Str := ["_law_script", "_law_many", "_law_days_here", "_law_cell", "_law_number", "_law_k"]
def t_l_days (K : PySem.W.Frag) (A : Ad) (E : XK) : TS :=
 tSeq (tAsg (tOp (rIxL K) (tLst (tCons (tC (.int 0)) (tCons (tC (.int 1)) (tCons (tC (.int 1)) (tCons (tC (.int 2)) (tCons (tC (.int 1)) (tCons (tC (.int 2)) (tCons (tC (.int 3)) (tCons (tC (.int 1)) (tCons (tC (.int 4)) (tCons (tC (.int 1)) (tCons (tC (.int 5)) (tCons (tC (.int 2)) (tCons (tC (.int 6)) (tCons (tC (.int 1)) (tCons (tC (.int 7)) (tCons (tC (.int 2)) (tNil)))))))))))))))))) (tOp rModI (tCall (sp_l_cell_at K A) [] E0 (tCons (tVar 0) (tCons (tC (.int 0)) (tNil)))) (tC (.int 16)))) (gName 1))
 (tSeq (tAsg (tLc (iRng1 (tCons (tVar 1) (tNil))) (gName 5) (tYes) (tLst (tNil)) [5]) (gName 2))
 (tSeq (tIfS (tTest (tOp rGtI (tVar 1) (tC (.int 0)))) (tSeq (tFor (iList K (tSl (rSlL K) (tVar 0) (tPart (tC (.int 18))) (tPart (tOp rAdd (tC (.int 18)) (tOp (rIxL K) (tLst (tCons (tC (.int 2)) (tCons (tC (.int 3)) (tCons (tC (.int 5)) (tCons (tC (.int 9)) (tCons (tC (.int 82)) (tNil))))))) (tOp rModI (tCall (sp_l_cell_at K A) [] E0 (tCons (tVar 0) (tCons (tC (.int 2)) (tNil)))) (tC (.int 5)))))))) (gName 3) (tDrop (tBM K "list" rAppend (tOp (rIxL K) (tVar 2) (tOp rModI (tOp rModI (tVar 3) (tC (.int 7))) (tVar 1))) (tCons (tOp rAdd (tC (.int 1)) (tOp rModI (tOp rDivI (tVar 3) (tC (.int 7))) (tC (.int 5)))) (tNil)))))
 (tIfS (tTest (tOp rEq (tOp rModI (tOp rDivI (tCall (sp_l_cell_at K A) [] E0 (tCons (tVar 0) (tCons (tC (.int 0)) (tNil)))) (tC (.int 48))) (tC (.int 8))) (tC (.int 1)))) (tSeq (tAsg (tCall (sp_l_cell_at K A) [] E0 (tCons (tVar 0) (tCons (tC (.int 1)) (tNil)))) (gName 4))
 (tFor (iRng1 (tCons (tC (.int 40)) (tNil))) (gName 5) (tSeq (tDrop (tBM K "list" rAppend (tOp (rIxL K) (tVar 2) (tC (.int 0))) (tCons (tOp rAdd (tC (.int 1)) (tOp rModI (tOp rAdd (tVar 4) (tVar 5)) (tC (.int 5)))) (tNil))))
 (tAsg (tOp rDivI (tVar 4) (tC (.int 5))) (gName 4))))) (tNext))) (tNext))
 (tRet (tVar 2))))
@[irreducible] def t_l_shaped_s6 (K : PySem.W.Frag) (A : Ad) (E : XK) : TS :=
 tRet (tOrV (tOp rGtI (tVar 4) (tC (.int 0))) (tOp rLtI (tOp (rIxT K) (tVar 0) (tC (.int 2))) (tCB (rLenS K) (tCons (tOp (rIxL K) (tVar 2) (tOp (rIxT K) (tVar 0) (tC (.int 1)))) (tNil)))))
@[irreducible] def t_l_shaped_s5 (K : PySem.W.Frag) (A : Ad) (E : XK) : TS :=
 tSeq (tIfS (tAnd (tTest (tOp rLtI (tVar 4) (tC (.int 2)))) (tTest (tOp rGeI (tOp (rIxT K) (tVar 0) (tC (.int 1))) (tCB (rLenS K) (tCons (tVar 2) (tNil)))))) (tRet (tC (.bl false))) (tNext))
 (t_l_shaped_s6 K A E)
@[irreducible] def t_l_shaped_s4 (K : PySem.W.Frag) (A : Ad) (E : XK) : TS :=
 tSeq (tIfS (tTest (tOp rNe (tOp (rIxT K) (tVar 0) (tUn rNeg (tC (.int 1)))) (tOp (rIxL K) (tOp (rIxL K) (tVar 1) (tVar 4)) (tOp rSub (tOp (rIxT K) (tVar 0) (tUn rNeg (tC (.int 2)))) (tC (.int 1)))))) (tRet (tC (.bl false))) (tNext))
 (t_l_shaped_s5 K A E)
@[irreducible] def t_l_shaped_s3 (K : PySem.W.Frag) (A : Ad) (E : XK) : TS :=
 tSeq (tIfS (tOr (tTest (tOp rNe (tOp (rIxT K) (tVar 0) (tC (.int 0))) (tOp (rIxL K) (tLst (tCons (tC (.str "single")) (tCons (tC (.str "day")) (tCons (tC (.str "week")) (tNil))))) (tVar 4)))) (tOr (tTest (tOp rLtI (tOp (rIxT K) (tVar 0) (tUn rNeg (tC (.int 2)))) (tC (.int 1)))) (tTest (tOp rGtI (tOp (rIxT K) (tVar 0) (tUn rNeg (tC (.int 2)))) (tC (.int 5)))))) (tRet (tC (.bl false))) (tNext))
 (t_l_shaped_s4 K A E)
@[irreducible] def t_l_shaped_s2 (K : PySem.W.Frag) (A : Ad) (E : XK) : TS :=
 tSeq (tAsg (tOp rSub (tC (.int 5)) (tCB (rLenS K) (tCons (tVar 0) (tNil)))) (gName 4))
 (t_l_shaped_s3 K A E)
@[irreducible] def t_l_shaped_s1 (K : PySem.W.Frag) (A : Ad) (E : XK) : TS :=
 tSeq (tFor (iTup K (tSl (rSlT K) (tVar 0) (tPart (tC (.int 1))) (tNoPart))) (gName 3) (tIfS (tOr (tNot (tB (tCall (sp_l_whole K A) [] E0 (tCons (tVar 3) (tNil))))) (tTest (tOp rLtI (tVar 3) (tC (.int 0))))) (tRet (tC (.bl false))) (tNext)))
 (t_l_shaped_s2 K A E)
def N_l_shaped : List Str := ["_law_ticket", "_law_rows_here", "_law_days_here", "_law_part", "_law_sort"]
def t_l_shaped (K : PySem.W.Frag) (A : Ad) (E : XK) : TS :=
 tSeq (tIfS (tOr (tNot (tB (tIsi K (tVar 0) (.ty "tuple")))) (tOr (tTest (tOp rLtI (tCB (rLenS K) (tCons (tVar 0) (tNil))) (tC (.int 3)))) (tTest (tOp rGtI (tCB (rLenS K) (tCons (tVar 0) (tNil))) (tC (.int 5)))))) (tRet (tC (.bl false))) (tNext))
 (t_l_shaped_s1 K A E)
def N_l_serves : List Str := ["_law_ticket", "_law_day", "_law_ride", "_law_zones"]
def t_l_serves (K : PySem.W.Frag) (A : Ad) (E : XK) : TS :=
 tSeq (tIfS (tTest (tOp rLtI (tOp (rIxT K) (tVar 0) (tUn rNeg (tC (.int 2)))) (tVar 3))) (tRet (tC (.bl false))) (tNext))
 (tSeq (tIfS (tTest (tOp rEq (tOp (rIxT K) (tVar 0) (tC (.int 0))) (tC (.str "week")))) (tRet (tC (.bl true))) (tNext))
 (tRet (tAndV (tOp rEq (tOp (rIxT K) (tVar 0) (tC (.int 1))) (tVar 1)) (tOrV (tOp rEq (tOp (rIxT K) (tVar 0) (tC (.int 0))) (tC (.str "day"))) (tOp rEq (tOp (rIxT K) (tVar 0) (tC (.int 2))) (tVar 2))))))
def N_l_served : List Str := ["_law_tickets", "_law_day", "_law_ride", "_law_zones", "_law_ticket"]
def t_l_served (K : PySem.W.Frag) (A : Ad) (E : XK) : TS :=
 tSeq (tFor (iList K (tVar 0)) (gName 4) (tIfS (tB (tCall (sp_l_serves K A) [] E0 (tCons (tVar 4) (tCons (tVar 1) (tCons (tVar 2) (tCons (tVar 3) (tNil))))))) (tRet (tC (.bl true))) (tNext)))
 (tRet (tC (.bl false)))
@[irreducible] def t_l_good_b1_s1 (K : PySem.W.Frag) (A : Ad) (E : XK) : TS :=
 tAsg (tOp rAdd (tVar 3) (tOp (rIxT K) (tVar 4) (tUn rNeg (tC (.int 1))))) (gName 3)
@[irreducible] def t_l_good_b1 (K : PySem.W.Frag) (A : Ad) (E : XK) : TS :=
 tSeq (tIfS (tNot (tB (tCall (sp_l_shaped K A) [] E0 (tCons (tVar 4) (tCons (tVar 1) (tCons (tVar 2) (tNil))))))) (tRet (tC (.bl false))) (tNext))
 (t_l_good_b1_s1 K A E)
@[irreducible] def t_l_good_s5 (K : PySem.W.Frag) (A : Ad) (E : XK) : TS :=
 tRet (tOp rEq (tVar 3) (tOp (rIxT K) (tVar 0) (tC (.int 0))))
@[irreducible] def t_l_good_s4 (K : PySem.W.Frag) (A : Ad) (E : XK) : TS :=
 tSeq (tFor (iRng1 (tCons (tCB (rLenS K) (tCons (tVar 2) (tNil))) (tNil))) (gName 5) (tFor (iRng1 (tCons (tCB (rLenS K) (tCons (tOp (rIxL K) (tVar 2) (tVar 5)) (tNil))) (tNil))) (gName 6) (tIfS (tNot (tB (tCall (sp_l_served K A) [] E0 (tCons (tOp (rIxT K) (tVar 0) (tC (.int 1))) (tCons (tVar 5) (tCons (tVar 6) (tCons (tOp (rIxL K) (tOp (rIxL K) (tVar 2) (tVar 5)) (tVar 6)) (tNil)))))))) (tRet (tC (.bl false))) (tNext))))
 (t_l_good_s5 K A E)
@[irreducible] def t_l_good_s3 (K : PySem.W.Frag) (A : Ad) (E : XK) : TS :=
 tSeq (tFor (iList K (tOp (rIxT K) (tVar 0) (tC (.int 1)))) (gName 4) (t_l_good_b1 K A E))
 (t_l_good_s4 K A E)
@[irreducible] def t_l_good_s2 (K : PySem.W.Frag) (A : Ad) (E : XK) : TS :=
 tSeq (tAsg (tC (.int 0)) (gName 3))
 (t_l_good_s3 K A E)
@[irreducible] def t_l_good_s1 (K : PySem.W.Frag) (A : Ad) (E : XK) : TS :=
 tSeq (tIfS (tOr (tNot (tB (tCall (sp_l_whole K A) [] E0 (tCons (tOp (rIxT K) (tVar 0) (tC (.int 0))) (tNil))))) (tNot (tB (tIsi K (tOp (rIxT K) (tVar 0) (tC (.int 1))) (.ty "list"))))) (tRet (tC (.bl false))) (tNext))
 (t_l_good_s2 K A E)
def N_l_good : List Str := ["_law_found", "_law_rows_here", "_law_days_here", "_law_cost", "_law_ticket", "_law_day", "_law_ride"]
def t_l_good (K : PySem.W.Frag) (A : Ad) (E : XK) : TS :=
 tSeq (tIfS (tOr (tNot (tB (tIsi K (tVar 0) (.ty "tuple")))) (tTest (tOp rNe (tCB (rLenS K) (tCons (tVar 0) (tNil))) (tC (.int 2))))) (tRet (tC (.bl false))) (tNext))
 (t_l_good_s1 K A E)
@[irreducible] def t_l_refused_s5 (K : PySem.W.Frag) (A : Ad) (E : XK) : TS :=
 tRet (tC (.bl false))
@[irreducible] def t_l_refused_s4 (K : PySem.W.Frag) (A : Ad) (E : XK) : TS :=
 tSeq (tTryAs K (.ref A.c_FareError) 6 (fun W => tDrop (tCallS (sp_least K A) (WE W) (tCons (tVar 0) (tCons (tVar 5) (tNil))))) (fun a C => tSeq (tAsg (tLst (tCons (tCB (rIsEH K C a) (tCons (tVar 6) (tCons (tC (.ref A.c_BadLink)) (tNil)))) (tCons (tCB (rIsEH K C a) (tCons (tVar 6) (tCons (tC (.ref A.c_BadStop)) (tNil)))) (tCons (tCB (rIsEH K C a) (tCons (tVar 6) (tCons (tC (.ref A.c_NoWay)) (tNil)))) (tCons (tCB (rIsEH K C a) (tCons (tVar 6) (tCons (tC (.ref A.c_BadPrices)) (tNil)))) (tNil)))))) (gName 7))
 (tSeq (tIfS (tOr (tTest (tOp (rIn K false) (tC (.bl true)) (tVar 7))) (tOr (tB (tCB (rIsEH K C a) (tCons (tVar 6) (tCons (tC (.ref A.c_PastDay)) (tNil))))) (tNot (tB (tCB (rIsEH K C a) (tCons (tVar 6) (tCons (tC (.ty "ValueError")) (tNil)))))))) (tRet (tC (.bl false))) (tNext))
 (tRet (tAndV (tCB (rIsEH K C a) (tCons (tVar 6) (tCons (tC (.ref A.c_BadZones)) (tNil)))) (tOp (rEqH K) (tVar 5) (tVar 1)))))))
 (t_l_refused_s5 K A E)
@[irreducible] def t_l_refused_s3 (K : PySem.W.Frag) (A : Ad) (E : XK) : TS :=
 tSeq (tAsg (tLc (iList K (tVar 1)) (gName 8) (tYes) (tCB (rListS K) (tCons (tVar 8) (tNil))) [8]) (gName 5))
 (t_l_refused_s4 K A E)
@[irreducible] def t_l_refused_s2 (K : PySem.W.Frag) (A : Ad) (E : XK) : TS :=
 tSeq (tDrop (tBM K "list" rInsert (tOp (rIxL K) (tVar 1) (tVar 4)) (tCons (tOp rModI (tOp rDivI (tVar 2) (tC (.int 28))) (tOp rAdd (tCB (rLenS K) (tCons (tOp (rIxL K) (tVar 1) (tVar 4)) (tNil))) (tC (.int 1)))) (tCons (tVar 3) (tNil)))))
 (t_l_refused_s3 K A E)
@[irreducible] def t_l_refused_s1 (K : PySem.W.Frag) (A : Ad) (E : XK) : TS :=
 tSeq (tAsg (tOp rModI (tOp rDivI (tVar 2) (tC (.int 4))) (tCB (rLenS K) (tCons (tVar 1) (tNil)))) (gName 4))
 (t_l_refused_s2 K A E)
def N_l_refused : List Str := ["_law_tariff", "_law_days_here", "_law_cell", "_law_zones", "_law_day", "_law_handed", "e", "_law_others", "_law_row"]
def t_l_refused (K : PySem.W.Frag) (A : Ad) (E : XK) : TS :=
 tSeq (tAsg (tOp (rIxL K) (tLst (tCons (tC (.int 0)) (tCons (tC (.int 6)) (tCons (tOp rSub (tUn rNeg (tC (.int 1))) (tOp rModI (tOp rDivI (tVar 2) (tC (.int 5))) (tC (.int 1000)))) (tCons (tOp rAdd (tC (.int 6)) (tOp rModI (tOp rDivI (tVar 2) (tC (.int 5))) (tOp rPowI (tC (.int 10)) (tC (.int 6))))) (tNil)))))) (tOp rModI (tVar 2) (tC (.int 4)))) (gName 3))
 (t_l_refused_s1 K A E)
@[irreducible] def t_law_s11 (K : PySem.W.Frag) (A : Ad) (E : XK) : TS :=
 tRet (tAndV (tCall (sp_l_good K A) [] E0 (tCons (tVar 5) (tCons (tVar 1) (tCons (tVar 2) (tNil))))) (tOp rEq (tOp (rIxT K) (tVar 5) (tC (.int 0))) (tVar 6)))
@[irreducible] def t_law_s10 (K : PySem.W.Frag) (A : Ad) (E : XK) : TS :=
 tSeq (tAsg (tCall (sp_least K A) [] E0 (tCons (tVar 4) (tCons (tVar 3) (tNil)))) (gName 5))
 (t_law_s11 K A E)
@[irreducible] def t_law_s9 (K : PySem.W.Frag) (A : Ad) (E : XK) : TS :=
 tSeq (tDrop (tBM0 K "list" rClear (tOp (rIxT K) (tVar 5) (tC (.int 1)))))
 (t_law_s10 K A E)
@[irreducible] def t_law_s8 (K : PySem.W.Frag) (A : Ad) (E : XK) : TS :=
 tSeq (tAsg (tOp (rIxT K) (tVar 5) (tC (.int 0))) (gName 6))
 (t_law_s9 K A E)
@[irreducible] def t_law_s7 (K : PySem.W.Frag) (A : Ad) (E : XK) : TS :=
 tSeq (tIfS (tTest (tOp (rNeH K) (tLst (tCons (tFld K (tVar 4) "singles") (tCons (tFld K (tVar 4) "days") (tCons (tFld K (tVar 4) "weeks") (tNil))))) (tVar 1))) (tRet (tC (.bl false))) (tNext))
 (t_law_s8 K A E)
@[irreducible] def t_law_s6 (K : PySem.W.Frag) (A : Ad) (E : XK) : TS :=
 tSeq (tIfS (tOr (tTest (tOp (rNeH K) (tVar 3) (tVar 2))) (tNot (tB (tCall (sp_l_good K A) [] E0 (tCons (tVar 5) (tCons (tVar 1) (tCons (tVar 2) (tNil)))))))) (tRet (tC (.bl false))) (tNext))
 (t_law_s7 K A E)
@[irreducible] def t_law_s5 (K : PySem.W.Frag) (A : Ad) (E : XK) : TS :=
 tSeq (tAsg (tCall (sp_least K A) [] E0 (tCons (tVar 4) (tCons (tVar 3) (tNil)))) (gName 5))
 (t_law_s6 K A E)
@[irreducible] def t_law_s4 (K : PySem.W.Frag) (A : Ad) (E : XK) : TS :=
 tSeq (tAsg (tMake A.c_Tariff (sp_Tariff_init K A) [] E0 (tCons (tCB (rListS K) (tCons (tOp (rIxL K) (tVar 1) (tC (.int 0))) (tNil))) (tCons (tCB (rListS K) (tCons (tOp (rIxL K) (tVar 1) (tC (.int 1))) (tNil))) (tCons (tCB (rListS K) (tCons (tOp (rIxL K) (tVar 1) (tC (.int 2))) (tNil))) (tNil))))) (gName 4))
 (t_law_s5 K A E)
@[irreducible] def t_law_s3 (K : PySem.W.Frag) (A : Ad) (E : XK) : TS :=
 tSeq (tAsg (tLc (iList K (tVar 2)) (gName 7) (tYes) (tCB (rListS K) (tCons (tVar 7) (tNil))) [7]) (gName 3))
 (t_law_s4 K A E)
@[irreducible] def t_law_s2 (K : PySem.W.Frag) (A : Ad) (E : XK) : TS :=
 tSeq (tIfS (tAnd (tTru K (tVar 2)) (tTest (tOp rEq (tOp rModI (tCall (sp_l_cell_at K A) [] E0 (tCons (tVar 0) (tCons (tC (.int 2)) (tNil)))) (tC (.int 8))) (tC (.int 1))))) (tRet (tCall (sp_l_refused K A) [] E0 (tCons (tMake A.c_Tariff (sp_Tariff_init K A) [] E0 (tCons (tOp (rIxL K) (tVar 1) (tC (.int 0))) (tCons (tOp (rIxL K) (tVar 1) (tC (.int 1))) (tCons (tOp (rIxL K) (tVar 1) (tC (.int 2))) (tNil))))) (tCons (tVar 2) (tCons (tOp rDivI (tCall (sp_l_cell_at K A) [] E0 (tCons (tVar 0) (tCons (tC (.int 2)) (tNil)))) (tC (.int 8))) (tNil)))))) (tNext))
 (t_law_s3 K A E)
@[irreducible] def t_law_s1 (K : PySem.W.Frag) (A : Ad) (E : XK) : TS :=
 tSeq (tAsg (tCall (sp_l_days K A) [] E0 (tCons (tVar 0) (tNil))) (gName 2))
 (t_law_s2 K A E)
def N_law : List Str := ["_law_script", "_law_rows_here", "_law_days_here", "_law_handed", "_law_tariff", "_law_found", "_law_kept", "_law_day"]
def t_law (K : PySem.W.Frag) (A : Ad) (E : XK) : TS :=
 tSeq (tAsg (tCall (sp_l_rows K A) [] E0 (tCons (tVar 0) (tNil))) (gName 1))
 (t_law_s1 K A E)
end FW

namespace FW
open PySem PySem.Spec PyProof.Rows L2
section
variable {K : PySem.W.Frag} {A : Ad} {vs : List V} {H : Hp} {Q : VK} {E : XK}
theorem rd_l_serves (h : sp_l_serves K A vs H Q E) : t_l_serves K A E { nx := fun _ H' => Q .non H', rt := Q } (start N_l_serves vs) H := by
  obtain ⟨q, t, d, r, z, rfl, hq, k⟩ := h
  have n1 := st_week
  have n2 := st_week2
  have n3 := st_day
  unfold t_l_serves
  cases t with
  | wk y p =>
    have hq : H q = some (.tup [.str "week", .int y, .int p]) := hq
    walk_at "rd"
    refine ite_d (fun c => ?_) (fun c => ?_)
    · have e : serves d r z (.wk y p) = false := by unfold serves; exact decide_eq_false (by omega)
      rw [e] at k
      exact k
    · have e : serves d r z (.wk y p) = true := by unfold serves; exact decide_eq_true (by omega)
      rw [e] at k
      walk_at "rd"
      exact k
  | dy e y p =>
    have hq : H q = some (.tup [.str "day", .int e, .int y, .int p]) := hq
    walk_at "rd"
    refine ite_d (fun c => ?_) (fun c => ?_)
    · have e : serves d r z (.dy e y p) = false := by simp [serves, show ¬ z ≤ y by omega]
      rw [e] at k
      exact k
    · walk_at "rd"
      refine ite_d (fun c2 => ?_) (fun c2 => ?_)
      · have e : serves d r z (.dy e y p) = true := by simp [serves, show z ≤ y by omega, V.int.inj c2]
        rw [e] at k
        walk_at "rd"
        exact k
      · have e : serves d r z (.dy e y p) = false := by simp [serves, show ¬ e = d from fun z => c2 (by rw [z])]
        rw [e] at k
        walk_at "rd"
        exact k
  | sg e q2 y p =>
    have hq : H q = some (.tup [.str "single", .int e, .int q2, .int y, .int p]) := hq
    walk_at "rd"
    refine ite_d (fun c => ?_) (fun c => ?_)
    · have e : serves d r z (.sg e q2 y p) = false := by simp [serves, show ¬ z ≤ y by omega]
      rw [e] at k
      exact k
    · walk_at "rd"
      refine ite_d (fun c2 => ?_) (fun c2 => ?_)
      · have e : serves d r z (.sg e q2 y p) = decide (V.int q2 = V.int r) := by simp [serves, show z ≤ y by omega, V.int.inj c2]
        rw [e] at k
        walk_at "rd"
        exact k
      · have e : serves d r z (.sg e q2 y p) = false := by simp [serves, show ¬ e = d from fun z => c2 (by rw [z])]
        rw [e] at k
        walk_at "rd"
        exact k
theorem rd_l_served (h : sp_l_served K A vs H Q E) : t_l_served K A E { nx := fun _ H' => Q .non H', rt := Q } (start N_l_served vs) H := by
  obtain ⟨l, xs, ts, d, r, z, rfl, hl, hT, ⟨t, ht, hs⟩, k⟩ := h
  unfold t_l_served
  walk_at "rd"
  refine for_list (K := K) (a := l) (xs := xs) (fun i σ H' => Hold (∃ o : Option V, σ = [some (.ref l), some (.int d), some (.int r), some (.int z), o] ∧ H' = H ∧ ∀ (j : Nat) (u : Tk), j < i → ts[j]? = some u → serves d r z u = false)) ⟨none, rfl, rfl, fun j u h => absurd h (by omega)⟩ ?_ ?_ ?_
  · rintro i σ H' _ ⟨o, rfl, rfl, _⟩
    exact hl
  · rintro i x σ H' hx ⟨o, rfl, rfl, hv⟩
    obtain ⟨u, p, hu, rfl, hp⟩ := hT.get hx
    walk_at "rd"
    refine ite_b (fun c => ?_) (fun c => ?_)
    · exact k
    · refine ⟨_, rfl, rfl, fun j w hj hw => ?_⟩
      by_cases e : j = i
      · rw [e, hu] at hw
        cases hw
        exact c
      · exact hv j w (by omega) hw
  · rintro σ H' ⟨o, rfl, rfl, hv⟩
    obtain ⟨j, hj⟩ := List.mem_iff_getElem?.mp ht
    have := hv j t (by rw [hT.len]; exact (List.getElem?_eq_some_iff.mp hj).1) hj
    rw [hs] at this
    cases this
end
end FW

namespace FW
open PySem PySem.Spec PyProof.Rows L2
section
variable {K : PySem.W.Frag} {A : Ad} {vs : List V} {H : Hp} {Q : VK} {E : XK}
theorem rd_l_whole (h : sp_l_whole K A vs H Q E) : t_l_whole K A E { nx := fun _ H' => Q .non H', rt := Q } (start N_l_whole vs) H := by
  obtain ⟨i, rfl, q⟩ := h
  unfold t_l_whole
  refine ⟨_, rfl, isi_yes (.int i) kb_int ⟨_, rfl, iteT ⟨_, rfl, isi_no (.int i) kb_intbool ⟨_, rfl, q⟩⟩⟩⟩
end
end FW

namespace FW
open PySem PySem.Spec PyProof.Rows L2
section
variable {K : PySem.W.Frag} {A : Ad} {vs : List V} {H : Hp} {Q : VK} {E : XK}
theorem rd_l_cell_at (h : sp_l_cell_at K A vs H Q E) : t_l_cell_at K A E { nx := fun _ H' => Q .non H', rt := Q } (start N_l_cell_at vs) H := by
  obtain ⟨a, ns, k, rfl, hS, h0, q⟩ := h
  unfold t_l_cell_at
  walk_at "rd"
  rw [List.length_map]
  refine ite_d (fun c => ?_) (fun c => ?_)
  · have e : atI (ns.map V.int) k = some (.int (cell ns k)) := atI_map h0 c
    walk_at "rd"
    exact q
  · have e : cell ns k = 0 := by
      unfold cell
      rw [List.getD_eq_getElem?_getD, List.getElem?_eq_none (by omega)]
      rfl
    rw [e] at q
    exact q
end
end FW

namespace FW
open PySem PySem.Spec PyProof.Rows L2
theorem cutV_mem {xs : List V} {a b : Option Int} {x : V} (h : x ∈ cutV xs a b) : x ∈ xs := by
  unfold cutV at h
  exact List.mem_of_mem_drop (List.mem_of_mem_take h)
theorem cutV_len (xs : List V) (a b : Option Int) : (cutV xs a b).length ≤ xs.length := by
  unfold cutV
  rw [List.length_take, List.length_drop]
  omega
theorem llen_mem : ∀ {days : List (List Int)} {r : List Int}, r ∈ days → r.length ≤ llen days
  | a :: l, r, h => by
    unfold llen
    rw [List.map_cons, List.sum_cons]
    rcases List.mem_cons.mp h with g | g
    · rw [g]
      omega
    · have := llen_mem g
      unfold llen at this
      omega
section
variable {K : PySem.W.Frag} {A : Ad} {vs : List V} {H : Hp} {Q : VK} {E : XK}
theorem rd_l_days (h : sp_l_days K A vs H Q E) : t_l_days K A E { nx := fun _ H' => Q .non H', rt := Q } (start N_l_days vs) H := by
  obtain ⟨a, ns, rfl, hS, hl, q⟩ := h
  unfold t_l_days
  walk_at "rd"
  intro p hp
  obtain ⟨m, hm, hmm⟩ := pick (ns := [0, 1, 1, 2, 1, 2, 3, 1, 4, 1, 5, 2, 6, 1, 7, 2]) (i := cell ns 0 % 16) (Int.emod_nonneg _ (by decide)) (Int.emod_lt_of_pos _ (by decide))
  have hm : atI ([.int 0, .int 1, .int 1, .int 2, .int 1, .int 2, .int 3, .int 1, .int 4, .int 1, .int 5, .int 2, .int 6, .int 1, .int 7, .int 2] : List V) (cell ns 0 % 16) = some (.int m) := hm
  have hm0 : 0 ≤ m ∧ m ≤ 7 := by
    simp only [List.mem_cons, List.not_mem_nil, or_false] at hmm
    omega
  clear hmm
  have s0 : Same H (upd H p (.lst [.int 0, .int 1, .int 1, .int 2, .int 1, .int 2, .int 3, .int 1, .int 4, .int 1, .int 5, .int 2, .int 6, .int 1, .int 7, .int 2])) := Same.new hp
  have p1 : upd H p (.lst [.int 0, .int 1, .int 1, .int 2, .int 1, .int 2, .int 3, .int 1, .int 4, .int 1, .int 5, .int 2, .int 6, .int 1, .int 7, .int 2]) p = some (.lst [.int 0, .int 1, .int 1, .int 2, .int 1, .int 2, .int 3, .int 1, .int 4, .int 1, .int 5, .int 2, .int 6, .int 1, .int 7, .int 2]) := upd_same
  generalize hH1 : upd H p (.lst [.int 0, .int 1, .int 1, .int 2, .int 1, .int 2, .int 3, .int 1, .int 4, .int 1, .int 5, .int 2, .int 6, .int 1, .int 7, .int 2]) = H1 at *
  walk_at "rd"
  intro R hR
  refine lc_rangeN hR (by omega) (fun _ => .lst []) ?_ ?_
  · intro i H2 hi s2 G N hG
    walk_at "rd"
    intro l hl
    exact hG _ _ hl (Same.new hl) upd_same
  intro H2 ps hpl N
  have n0 : NewLL H1 H2 R ps (List.replicate m.toNat []) := NewLL.of_news N hR (by rw [List.length_replicate]; omega) fun i r hr => by
    rw [List.getElem?_replicate] at hr
    split at hr
    · cases hr
      rfl
    · cases hr
  have R2 := N.lst
  have s2 := n0.same
  walk_at "rd"
  refine ite_d (fun c => ?_) (fun c => ?_)
  · walk_at "rd"
    intro p1 hp1
    obtain ⟨w, hw, _⟩ := pick (ns := [2, 3, 5, 9, 82]) (i := cell ns 2 % 5) (Int.emod_nonneg _ (by decide)) (Int.emod_lt_of_pos _ (by decide))
    have hw : atI ([.int 2, .int 3, .int 5, .int 9, .int 82] : List V) (cell ns 2 % 5) = some (.int w) := hw
    have n1 : NewLL H1 (upd H2 p1 (.lst [.int 2, .int 3, .int 5, .int 9, .int 82])) R ps (List.replicate m.toNat []) := n0.ext (Same.new hp1)
    have s3 : Same H2 (upd H2 p1 (.lst [.int 2, .int 3, .int 5, .int 9, .int 82])) := Same.new hp1
    walk_at "rd"
    intro p2 hp2
    have n2 := n1.ext (Same.new (o := .lst (cutV (ns.map V.int) (some 18) (some (18 + w)))) hp2)
    have np2 : p2 ∉ ps := fun mm => by
      obtain ⟨j, hj⟩ := List.mem_iff_getElem?.mp mm
      have hj2 : j < (List.replicate m.toNat ([] : List Int)).length := by rw [← n1.len]; exact (List.getElem?_eq_some_iff.mp hj).1
      have := n1.at_ j p2 _ hj (List.getElem?_eq_getElem hj2)
      rw [hp2] at this
      cases this
    have e2 : (upd (upd H2 p1 (.lst [.int 2, .int 3, .int 5, .int 9, .int 82])) p2 (.lst (cutV (ns.map V.int) (some 18) (some (18 + w))))) p2 = some (.lst (cutV (ns.map V.int) (some 18) (some (18 + w)))) := upd_same
    have lc := cutV_len (ns.map V.int) (some 18) (some (18 + w))
    rw [List.length_map] at lc
    have mc : ∀ x ∈ cutV (ns.map V.int) (some 18) (some (18 + w)), ∃ z : Int, x = .int z := fun x hx => by
      obtain ⟨z, _, e⟩ := List.mem_map.mp (cutV_mem hx)
      exact ⟨z, e.symm⟩
    generalize cutV (ns.map V.int) (some 18) (some (18 + w)) = xs at *
    generalize upd (upd H2 p1 (.lst [.int 2, .int 3, .int 5, .int 9, .int 82])) p2 (.lst xs) = H3 at *
    walk_at "rd"
    refine for_list (K := K) (a := p2) (xs := xs) (fun i σ H' => Hold (∃ (o : Option V) (days : List (List Int)), σ = [some (.ref a), some (.int m), some (.ref R), o, none, none] ∧ NewLL H1 H' R ps days ∧ H' p2 = some (.lst xs) ∧ days.length = m.toNat ∧ llen days ≤ i ∧ ∀ r ∈ days, ∀ z ∈ r, In5 z)) ⟨none, _, rfl, n2, e2, by rw [List.length_replicate], by unfold llen; rw [List.map_replicate]; simp, fun r hr => by rw [(List.mem_replicate.mp hr).2]; intro z hz; cases hz⟩ ?_ ?_ ?_
    · rintro i σ H' _ ⟨o, days, rfl, N, e, _⟩
      exact SqL.of e
    · rintro i x σ H' hx ⟨o, days, rfl, N, e, hd, hll, h5⟩
      have hix : i < xs.length := (List.getElem?_eq_some_iff.mp hx).1
      obtain ⟨z, rfl⟩ := mc x (List.mem_of_getElem? hx)
      have d1 : 0 ≤ z % 7 % m := Int.emod_nonneg _ (by omega)
      have d2 : z % 7 % m < m := Int.emod_lt_of_pos _ (by omega)
      obtain ⟨r, hr⟩ := get_some (l := days) (i := (z % 7 % m).toNat) (by omega)
      obtain ⟨q1, hq1⟩ := get_some (l := ps) (i := (z % 7 % m).toNat) (by rw [N.len]; omega)
      have a1 := at_refi d1 hq1
      have a2 := N.at_ _ _ _ hq1 hr
      have rl := llen_mem (List.mem_of_getElem? hr)
      have R3 := N.lst
      have v1 : In5 (1 + z / 7 % 5) := ⟨by have := Int.emod_nonneg (z / 7) (by decide : (5 : Int) ≠ 0); omega, by have := Int.emod_lt_of_pos (z / 7) (by decide : (0 : Int) < 5); omega⟩
      walk_at "rd"
      refine ⟨_, days.set (z % 7 % m).toNat (r ++ [1 + z / 7 % 5]), rfl, ?_, ?_, by rw [List.length_set]; exact hd, ?_, all_set h5 fun y hy => ?_⟩
      · have := N.put (r' := r ++ [1 + z / 7 % 5]) hq1 hr
        rw [List.map_append] at this
        exact this
      · rw [upd_ne (fun e9 => np2 (by rw [e9]; exact List.mem_of_getElem? hq1))]
        exact e
      · have := llen_set (r' := r ++ [1 + z / 7 % 5]) hr
        rw [List.length_append, List.length_singleton] at this
        omega
      · rcases List.mem_append.mp hy with g | g
        · exact h5 r (List.mem_of_getElem? hr) y g
        · have : y = 1 + z / 7 % 5 := by simpa using g
          rw [this]
          exact v1
    · rintro σ H' ⟨o, days, rfl, N, e, hd, hll, h5⟩
      have s4 := N.same
      have R3 := N.lst
      walk_at "rd"
      refine ite_d (fun c2 => ?_) (fun c2 => ?_)
      · walk_at "rd"
        refine for_range (lo := 0) (fun i σ H' => Hold (∃ (o5 : Option V) (y : Int) (days : List (List Int)), σ = [some (.ref a), some (.int m), some (.ref R), o, some (.int y), o5] ∧ NewLL H1 H' R ps days ∧ days.length = m.toNat ∧ llen days ≤ 63 + i ∧ ∀ r ∈ days, ∀ z ∈ r, In5 z)) ⟨none, _, days, rfl, N, hd, by omega, h5⟩ ?_ ?_
        · rintro i σ H' hi ⟨o5, y, days, rfl, N, hd, hll, h5⟩
          have hi : i < 40 := hi
          obtain ⟨r, hr⟩ := get_some (l := days) (i := (0 : Int).toNat) (by omega)
          obtain ⟨q1, hq1⟩ := get_some (l := ps) (i := (0 : Int).toNat) (by rw [N.len]; omega)
          have a1 := at_refi (by decide) hq1
          have a2 := N.at_ _ _ _ hq1 hr
          have rl := llen_mem (List.mem_of_getElem? hr)
          have R3 := N.lst
          have v1 : In5 (1 + (y + (0 + (i : Int))) % 5) := ⟨by have := Int.emod_nonneg (y + (0 + (i : Int))) (by decide : (5 : Int) ≠ 0); omega, by have := Int.emod_lt_of_pos (y + (0 + (i : Int))) (by decide : (0 : Int) < 5); omega⟩
          walk_at "rd"
          refine ⟨_, _, days.set (0 : Int).toNat (r ++ [1 + (y + (0 + (i : Int))) % 5]), rfl, ?_, by rw [List.length_set]; exact hd, ?_, all_set h5 fun y hy => ?_⟩
          · have := N.put (r' := r ++ [1 + (y + (0 + (i : Int))) % 5]) hq1 hr
            rw [List.map_append] at this
            exact this
          · have := llen_set (r' := r ++ [1 + (y + (0 + (i : Int))) % 5]) hr
            rw [List.length_append, List.length_singleton] at this
            omega
          · rcases List.mem_append.mp hy with g | g
            · exact h5 r (List.mem_of_getElem? hr) _ g
            · have := List.mem_singleton.mp g
              rw [this]
              exact v1
        · rintro σ H' ⟨o5, y, days, rfl, N, hd, hll, h5⟩
          exact ⟨_, rfl, q R ps days H' h5 (by have : llen days ≤ 63 + 40 := hll; omega) (by omega) (N.pre s0)⟩
      · exact ⟨_, rfl, q R ps days H' h5 (by omega) (by omega) (N.pre s0)⟩
  · refine ⟨_, rfl, q R ps _ H2 (fun r hr => by rw [(List.mem_replicate.mp hr).2]; intro z hz; cases hz) (by unfold llen; rw [List.map_replicate]; simp) (by rw [List.length_replicate]; omega) (n0.pre s0)⟩
end
end FW

namespace FW
open PySem PySem.Spec PyProof.Rows L2
section
variable {K : PySem.W.Frag} {A : Ad} {vs : List V} {H : Hp} {Q : VK} {E : XK}
theorem rd_l_rows (h : sp_l_rows K A vs H Q E) : t_l_rows K A E { nx := fun _ H' => Q .non H', rt := Q } (start N_l_rows vs) H := by
  obtain ⟨a, ns, rfl, hS, hl, q⟩ := h
  unfold t_l_rows
  walk_at "rd"
  intro p hp
  obtain ⟨m, hm, hmm⟩ := pick (ns := [1000, 7, 10 ^ (12 : Int).toNat]) (i := cell ns 0 / 16 % 3) (Int.emod_nonneg _ (by decide)) (Int.emod_lt_of_pos _ (by decide))
  have hm : atI ([V.int 1000, V.int 7, V.int (10 ^ (12 : Int).toNat)] : List V) (cell ns 0 / 16 % 3) = some (.int m) := hm
  have hm0 : 0 < m := by
    have : m = 1000 ∨ m = 7 ∨ m = 10 ^ (12 : Int).toNat := by simpa using hmm
    rcases this with e | e | e <;> rw [e] <;> decide
  have s0 : Same H (upd H p (.lst [.int 1000, .int 7, .int (10 ^ (12 : Int).toNat)])) := Same.new hp
  walk_at "rd"
  intro R hR
  have nR := NewLL.nil hR
  generalize hH1 : upd H p (.lst [.int 1000, .int 7, .int (10 ^ (12 : Int).toNat)]) = H1 at *
  walk_at "rd"
  refine for_range (lo := 0) (fun i σ H' => Hold (∃ (o : Option V) (ps : List Addr), σ = [some (.ref a), some (.int m), some (.ref R), o, none] ∧ NewLL H1 H' R ps ((List.range i).map (rowOf ns m 3)))) ⟨none, [], rfl, nR⟩ ?_ ?_
  · rintro i σ H' hi ⟨o, ps, rfl, N⟩
    have s1 := N.same
    have r1 := N.lst
    have hpl := N.len
    rw [List.length_map, List.length_range] at hpl
    have hi3 : i < 3 := hi
    walk_at "rd"
    intro D1 hD1
    refine lc_rangeF hD1 (by decide) (fun k => some (V.int (cell ns (3 + 5 * (0 + (i : Int)) + (0 + (k : Int))) % m))) ?_ ?_
    · intro k H2 hk s2 G N2 hG hN
      walk_at "rd"
      exact hG _ _ rfl (Same.refl _)
    · intro H2 s2 e2
      have s2' := s2.trans (del_sub _ _)
      have e3 : H2 D1 = some (.lst ((rowOf ns m 3 i).map V.int)) := by
        rw [e2]
        unfold rowOf
        rw [List.map_map]
        simp only [Int.zero_add]
        rw [fm_some]
        rfl
      walk_at "rd"
      refine ⟨_, ps ++ [D1], rfl, ?_⟩
      rw [List.range_succ, List.map_append]
      exact N.snoc hD1 s2' e3
  · rintro σ H' ⟨o, ps, rfl, N⟩
    refine ⟨_, rfl, q R ps (rowOf ns m 3 0) (rowOf ns m 3 1) (rowOf ns m 3 2) H' (rowOf_ok hm0) (rowOf_ok hm0) (rowOf_ok hm0) (N.pre s0)⟩
end
end FW

namespace FW
open PySem PySem.Spec PyProof.Rows L2
section
variable {K : PySem.W.Frag} {A : Ad} {vs : List V} {H : Hp} {Q : VK} {E : XK}
/-- the parts of a ticket -/
theorem rd_shaped_s1 {q R L : Addr} {rs ps : List Addr} {S D W : List Int} {days : List (List Int)} {t : Tk} {Dn : Ends} (C : RD K H R L rs ps S D W days) (hq : H q = some (.tup t.vals)) (ok : TkOk S D W days t) (k : ∀ H', Same H H' → Dn.rt (.bl true) H') :
    t_l_shaped_s1 K A E Dn [some (.ref q), some (.ref R), some (.ref L), none, none] H := by
  unfold t_l_shaped_s1
  obtain ⟨v0, ns, hv, hnn, hln, hle⟩ : ∃ (v0 : V) (ns : List Int), t.vals = v0 :: ns.map V.int ∧ (∀ n ∈ ns, 0 ≤ n) ∧ 2 ≤ ns.length ∧ ns.length ≤ 4 := by
    rcases ok with ⟨z, rfl, z5⟩ | ⟨d, z, rfl, hd, z5⟩ | ⟨d, r, z, rides, rfl, hd, hr, z5⟩
    · refine ⟨_, [z, pr W z], rfl, fun n hn => ?_, by simp, by simp⟩
      have := pr_nn (z := z) C.rW
      have := z5.1
      rcases List.mem_cons.mp hn with e | hn
      · omega
      · rw [List.mem_singleton.mp hn]; omega
    · refine ⟨_, [(d : Int), z, pr D z], rfl, fun n hn => ?_, by simp, by simp⟩
      have := pr_nn (z := z) C.rD
      have := z5.1
      simp only [List.mem_cons, List.not_mem_nil, or_false] at hn
      omega
    · refine ⟨_, [(d : Int), (r : Int), z, pr S z], rfl, fun n hn => ?_, by simp, by simp⟩
      have := pr_nn (z := z) C.rS
      have := z5.1
      simp only [List.mem_cons, List.not_mem_nil, or_false] at hn
      omega
  have c1 := cut1 (xs := t.vals) (by rw [hv, List.length_cons]; omega)
  have st : SqT K H q t.vals := SqT.of hq
  have c2 := c1 none
  walk_at "rd"
  intro p hp
  have s1 : Same H (upd H p (.tup (cutV t.vals (some 1) none))) := Same.new hp
  have hp1 : upd H p (.tup (cutV t.vals (some 1) none)) p = some (.tup (ns.map V.int)) := by
    rw [upd_same, cut_from (by decide), hv]
    rfl
  have C1 := C.same s1
  have hq1 := s1 _ _ hq
  have k1 : ∀ H', Same (upd H p (.tup (cutV t.vals (some 1) none))) H' → Dn.rt (.bl true) H' := fun H' s => k H' (s1.trans s)
  generalize upd H p (.tup (cutV t.vals (some 1) none)) = H1 at *
  walk_at "rd"
  refine for_tup (K := K) (a := p) (xs := ns.map V.int) (fun i σ H' => Hold (∃ o : Option V, σ = [some (.ref q), some (.ref R), some (.ref L), o, none] ∧ H' = H1)) ⟨none, rfl, rfl⟩ ?_ ?_ ?_
  · rintro i σ H' _ ⟨o, rfl, rfl⟩
    exact SqT.of hp1
  · rintro i x σ H' hx ⟨o, rfl, rfl⟩
    rw [List.getElem?_map] at hx
    obtain ⟨n, hn, rfl⟩ := Option.map_eq_some_iff.mp hx
    have n0 := hnn n (List.mem_of_getElem? hn)
    walk_at "rd"
    exact ⟨_, rfl, rfl⟩
  · rintro σ H' ⟨o, rfl, rfl⟩
    have lR := C1.rS.1
    have lD := C1.rD.1
    have lW := C1.rW.1
    obtain ⟨p0, g0, f0⟩ := C1.hR.get (i := 0) (by decide) rfl
    obtain ⟨p1, g1, f1⟩ := C1.hR.get (i := 1) (by decide) rfl
    obtain ⟨p2, g2, f2⟩ := C1.hR.get (i := 2) (by decide) rfl
    have hRs := C1.hR.sq
    have hLs := C1.hL.sq
    unfold t_l_shaped_s2
    rcases ok with ⟨z, rfl, z5⟩ | ⟨d, z, rfl, hd, z5⟩ | ⟨d, r, z, rides, rfl, hd, hr, z5⟩
    · have hq2 : H' q = some (.tup [.str "week", .int z, .int (pr W z)]) := hq1
      have e1 : atI (W.map V.int) (z - 1) = some (.int (pr W z)) := atI_map (by have := z5.1; omega) (by have := z5.2; omega)
      have z1 := z5.1
      have z2 := z5.2
      walk_at "rd"
      show t_l_shaped_s3 K A E Dn [some (.ref q), some (.ref R), some (.ref L), o, some (.int 2)] H'
      unfold t_l_shaped_s3
      walk_at "rd"
      intro b hb
      have s2 : Same H' (upd H' b (.lst [.str "single", .str "day", .str "week"])) := Same.new hb
      walk_at "rd"
      show t_l_shaped_s4 K A E Dn _ _
      unfold t_l_shaped_s4
      walk_at "rd"
      show t_l_shaped_s5 K A E Dn _ _
      unfold t_l_shaped_s5 t_l_shaped_s6
      walk_at "rd"
      exact k1 _ s2
    · have hq2 : H' q = some (.tup [.str "day", .int d, .int z, .int (pr D z)]) := hq1
      have e1 : atI (D.map V.int) (z - 1) = some (.int (pr D z)) := atI_map (by have := z5.1; omega) (by have := z5.2; omega)
      have z1 := z5.1
      have z2 := z5.2
      have dl : (d : Int) < ps.length := by rw [C1.hL.len]; omega
      walk_at "rd"
      show t_l_shaped_s3 K A E Dn [some (.ref q), some (.ref R), some (.ref L), o, some (.int 1)] H'
      unfold t_l_shaped_s3
      walk_at "rd"
      intro b hb
      have s2 : Same H' (upd H' b (.lst [.str "single", .str "day", .str "week"])) := Same.new hb
      walk_at "rd"
      show t_l_shaped_s4 K A E Dn _ _
      unfold t_l_shaped_s4
      walk_at "rd"
      show t_l_shaped_s5 K A E Dn _ _
      unfold t_l_shaped_s5 t_l_shaped_s6
      walk_at "rd"
      rw [List.length_map]
      walk_at "rd"
      exact k1 _ s2
    · have hq2 : H' q = some (.tup [.str "single", .int d, .int r, .int z, .int (pr S z)]) := hq1
      have e1 : atI (S.map V.int) (z - 1) = some (.int (pr S z)) := atI_map (by have := z5.1; omega) (by have := z5.2; omega)
      have z1 := z5.1
      have z2 := z5.2
      have dl : (d : Int) < ps.length := by rw [C1.hL.len]; have := (List.getElem?_eq_some_iff.mp hd).1; omega
      obtain ⟨p3, g3, f3⟩ := C1.hL.get (i := (d : Int)) (by omega) hd
      walk_at "rd"
      show t_l_shaped_s3 K A E Dn [some (.ref q), some (.ref R), some (.ref L), o, some (.int 0)] H'
      unfold t_l_shaped_s3
      walk_at "rd"
      intro b hb
      have s2 : Same H' (upd H' b (.lst [.str "single", .str "day", .str "week"])) := Same.new hb
      walk_at "rd"
      show t_l_shaped_s4 K A E Dn _ _
      unfold t_l_shaped_s4
      walk_at "rd"
      show t_l_shaped_s5 K A E Dn _ _
      unfold t_l_shaped_s5 t_l_shaped_s6
      walk_at "rd"
      rw [List.length_map]
      walk_at "rd"
      have e5 : decide ((r : Int) < ((rides.map V.int).length : Int)) = true := decide_eq_true (by rw [List.length_map]; omega)
      show Dn.rt (.bl (decide ((r : Int) < ((rides.map V.int).length : Int)))) _
      rw [e5]
      exact k1 _ s2
theorem rd_l_shaped (h : sp_l_shaped K A vs H Q E) : t_l_shaped K A E { nx := fun _ H' => Q .non H', rt := Q } (start N_l_shaped vs) H := by
  obtain ⟨q, R, L, rs, ps, S, D, W, days, t, rfl, C, hq, ok, k⟩ := h
  unfold t_l_shaped
  have hl : 3 ≤ t.vals.length ∧ t.vals.length ≤ 5 := by cases t <;> simp [Tk.vals]
  have st : SqT K H q t.vals := SqT.of hq
  walk_at "rd"
  exact rd_shaped_s1 C hq ok k
theorem tk_take {ts : List Tk} {i : Nat} {t : Tk} (h : ts[i]? = some t) : tkCost (ts.take (i + 1)) = tkCost (ts.take i) + t.price := by
  rw [List.take_add_one, h, tkCost_append]
  show _ + tkCost [t] = _
  rw [tkCost_cons, tkCost_nil]
  omega
theorem tk_last6 {t : Tk} : atI t.vals (-(1 : Int)) = some (.int t.price) := by cases t <;> rfl
/-- each ride is served -/
theorem rd_good_s4 {t R L l : Addr} {rs ps : List Addr} {S D W : List Int} {days : List (List Int)} {xs : List V} {ts : List Tk} {o4 : Option V} {Dn : Ends} (C : RD K H R L rs ps S D W days) (ht : H t = some (.tup [.int (tkCost ts), .ref l])) (hl : H l = some (.lst xs)) (hT : TkL H xs ts) (w : WeekOk S D W days ts)
    (k : Dn.rt (.bl true) H) : t_l_good_s4 K A E Dn [some (.ref t), some (.ref R), some (.ref L), some (.int (tkCost ts)), o4, none, none] H := by
  unfold t_l_good_s4
  have hLs := C.hL.sq
  have hll := C.hll
  have hpl : ps.length ≤ 20 := by rw [C.hL.len]; exact C.hdl
  walk_at "rd"
  refine for_range (lo := 0) (fun i σ H' => Hold (∃ o5 o6 : Option V, σ = [some (.ref t), some (.ref R), some (.ref L), some (.int (tkCost ts)), o4, o5, o6] ∧ H' = H)) ⟨none, none, rfl, rfl⟩ ?_ ?_
  · rintro i σ H' hi ⟨o5, o6, rfl, rfl⟩
    rw [List.length_map] at hi
    have hi : i < ps.length := by omega
    obtain ⟨rides, hd⟩ := get_some (l := days) (i := i) (by rw [← C.hL.len]; exact hi)
    obtain ⟨p3, g3, f3⟩ := C.hL.get (i := 0 + (i : Int)) (by omega) (by rw [Int.zero_add]; exact hd)
    have rl := llen_mem (List.mem_of_getElem? hd)
    walk_at "rd"
    refine for_range (lo := 0) (fun j σ H'' => Hold (∃ o6 : Option V, σ = [some (.ref t), some (.ref R), some (.ref L), some (.int (tkCost ts)), o4, some (.int (0 + (i : Int))), o6] ∧ H'' = H')) ⟨o6, rfl, rfl⟩ ?_ ?_
    · rintro j σ H'' hj ⟨o6, rfl, rfl⟩
      rw [List.length_map] at hj
      have hj : j < rides.length := by omega
      obtain ⟨z, hz⟩ := get_some hj
      have e1 : atI (rides.map V.int) (0 + (j : Int)) = some (.int z) := by
        rw [Int.zero_add]
        exact atI_nat (by rw [List.getElem?_map, hz]; rfl)
      have sv := w.serve hd hz
      rw [← Int.zero_add (i : Int), ← Int.zero_add (j : Int)] at sv
      walk_at "rd"
      exact ⟨_, rfl, rfl⟩
    · rintro σ H'' ⟨o6, rfl, rfl⟩
      exact ⟨_, _, rfl, rfl⟩
  · rintro σ H' ⟨o5, o6, rfl, rfl⟩
    unfold t_l_good_s5
    walk_at "rd"
    show Dn.rt (.bl (decide (V.int (tkCost ts) = V.int (tkCost ts)))) _
    rw [decide_eq_true rfl]
    exact k
theorem rd_l_good (h : sp_l_good K A vs H Q E) : t_l_good K A E { nx := fun _ H' => Q .non H', rt := Q } (start N_l_good vs) H := by
  obtain ⟨t, R, L, l, rs, ps, S, D, W, days, xs, ts, rfl, C, ht, hl, hT, w, hts, k⟩ := h
  unfold t_l_good
  walk_at "rd"
  show t_l_good_s1 K A E _ _ H
  unfold t_l_good_s1
  walk_at "rd"
  show t_l_good_s2 K A E _ _ H
  unfold t_l_good_s2 t_l_good_s3
  walk_at "rd"
  refine for_list (K := K) (a := l) (xs := xs) (fun i σ H' => Hold (∃ o4 : Option V, σ = [some (.ref t), some (.ref R), some (.ref L), some (.int (tkCost (ts.take i))), o4, none, none] ∧ Same H H')) ⟨none, rfl, Same.refl _⟩ ?_ ?_ ?_
  · rintro i σ H' _ ⟨o, rfl, s⟩
    exact SqL.of (s _ _ hl)
  · rintro i x σ H' hx ⟨o, rfl, s⟩
    obtain ⟨u, p, hu, rfl, hp⟩ := (hT.same s).get hx
    have C1 := C.same s
    have ok := w.ok u (List.mem_of_getElem? hu)
    have la := tk_last6 (t := u)
    unfold t_l_good_b1
    walk_at "rd"
    intro H2 s2
    have hp2 := s2 _ _ hp
    walk_at "rd"
    show t_l_good_b1_s1 K A E _ _ _
    unfold t_l_good_b1_s1
    walk_at "rd"
    refine ⟨some (.ref p), ?_, s.trans s2⟩
    rw [tk_take hu]
    rfl
  · rintro σ H' ⟨o, rfl, s⟩
    rw [hT.len, List.take_length]
    exact rd_good_s4 (C.same s) (s _ _ ht) (s _ _ hl) (hT.same s) w (k _ s)
end
end FW

namespace FW
open PySem PySem.Spec PyProof.Rows L2
section
variable {K : PySem.W.Frag} {A : Ad} {vs : List V} {H : Hp} {Q : VK} {E : XK}
/-- the refusal -/
theorem rd_refused_s4 {T L N : Addr} {ps qs : List Addr} {S D W : List Int} {days : List (List Int)} {c m : Int} {d : V} {Dn : Ends} (X : IsX K A A.c_BadZones false false false false true false) (hT : Tar A H T S D W) (hL : LLAt K H L ps days) (hN : LLAt K H N qs days)
    (bad : ¬ ∀ r ∈ days, ∀ z ∈ r, In5 z) (hll : llen days ≤ 1000) (hdl : days.length ≤ 20) (k : ∀ H', Dn.rt (.bl true) H') :
    t_l_refused_s4 K A E Dn [some (.ref T), some (.ref L), some (.int c), some (.int m), some d, some (.ref N), none, none, none] H := by
  unfold t_l_refused_s4
  have x1 := X.l
  have x2 := X.s
  have x3 := X.n
  have x4 := X.p
  have x5 := X.z
  have x6 := X.d
  have x7 := X.v
  have f1 := llen_flatten days
  refine ⟨_, rfl, _, rfl, T, N, S, D, W, days, rfl, hT, ⟨_, hN⟩, by omega, hdl, fun g => absurd g bad, fun _ => was X.x X.c fun a ha => ?_⟩
  walk_at "rd"
  intro p hp
  have s1 : Same H (upd H p (.lst [.bl false, .bl false, .bl false, .bl false])) := Same.new hp
  walk_at "rd"
  refine eqD_yes (dp_ll (hN.same s1)) (dp_ll (hL.same s1)) (shp_ll days) (by decide) ?_
  exact k _
theorem rd_l_refused (O : OkT K A) (IX : IsX K A A.c_BadZones false false false false true false) (h : sp_l_refused K A vs H Q E) : t_l_refused K A E { nx := fun _ H' => Q .non H', rt := Q } (start N_l_refused vs) H := by
  obtain ⟨T, L, ps, S, D, W, days, c, H0, rfl, nL, hT, hne, h5, hll, hdl, k⟩ := h
  unfold t_l_refused
  walk_at "rd"
  intro p hp
  obtain ⟨m, hm, hmm⟩ := pick (ns := [0, 6, -1 - c / 5 % 1000, 6 + c / 5 % 10 ^ (6 : Int).toNat]) (i := c % 4) (Int.emod_nonneg _ (by decide)) (Int.emod_lt_of_pos _ (by decide))
  have hm : atI ([.int 0, .int 6, .int (-1 - c / 5 % 1000), .int (6 + c / 5 % 10 ^ (6 : Int).toNat)] : List V) (c % 4) = some (.int m) := hm
  have bad : ¬ In5 m := fun b => by
    obtain ⟨b1, b2⟩ := b
    have c1 : 0 ≤ c / 5 % 1000 := Int.emod_nonneg _ (by decide)
    have c2 : 0 ≤ c / 5 % 10 ^ (6 : Int).toNat := Int.emod_nonneg _ (by decide)
    generalize c / 5 % 10 ^ (6 : Int).toNat = y at *
    simp only [List.mem_cons, List.not_mem_nil, or_false] at hmm
    omega
  have nL1 := nL.ext (Same.new (o := .lst [.int 0, .int 6, .int (-1 - c / 5 % 1000), .int (6 + c / 5 % 10 ^ (6 : Int).toNat)]) hp)
  have dl : 0 < days.length := by cases days with | nil => exact absurd rfl hne | cons => simp
  have hpl := nL.len
  have d1 : 0 ≤ c / 4 % (days.length : Int) := Int.emod_nonneg _ (by omega)
  have d2 : c / 4 % (days.length : Int) < days.length := Int.emod_lt_of_pos _ (by omega)
  obtain ⟨r, hr⟩ := get_some (l := days) (i := (c / 4 % (days.length : Int)).toNat) (by omega)
  obtain ⟨q, hq⟩ := get_some (l := ps) (i := (c / 4 % (days.length : Int)).toNat) (by omega)
  have a1 := at_refi d1 hq
  have a2 := nL1.at_ _ _ _ hq hr
  have a3 := nL1.lst
  have rl := llen_mem (List.mem_of_getElem? hr)
  have e1 : ((ps.map V.ref).length : Int) = days.length := by rw [List.length_map, hpl]
  generalize hH1 : upd H p (.lst [.int 0, .int 6, .int (-1 - c / 5 % 1000), .int (6 + c / 5 % 10 ^ (6 : Int).toNat)]) = H1 at *
  have f1 : H1 p = some (.lst [.int 0, .int 6, .int (-1 - c / 5 % 1000), .int (6 + c / 5 % 10 ^ (6 : Int).toNat)]) := by rw [← hH1]; exact upd_same
  walk_at "rd"
  show t_l_refused_s1 K A E _ [some (.ref T), some (.ref L), some (.int c), some (.int m), none, none, none, none, none] H1
  unfold t_l_refused_s1
  walk_at "rd"
  rw [e1]
  show t_l_refused_s2 K A E _ [some (.ref T), some (.ref L), some (.int c), some (.int m), some (.int (c / 4 % (days.length : Int))), none, none, none, none] H1
  unfold t_l_refused_s2
  have z0 : 0 ≤ c / 28 % (((r.map V.int).length : Int) + 1) := Int.emod_nonneg _ (by omega)
  have z1 : c / 28 % (((r.map V.int).length : Int) + 1) < ((r.map V.int).length : Int) + 1 := Int.emod_lt_of_pos _ (by omega)
  have z2 : c / 28 % (((r.map V.int).length : Int) + 1) < 2 ^ 63 := by
    rw [List.length_map] at z1
    rw [List.length_map]
    omega
  walk_at "rd"
  generalize (c / 28 % (((r.map V.int).length : Int) + 1)).toNat = j at *
  have n2 := nL1.put (r' := r.take j ++ [m] ++ r.drop j) hq hr
  rw [List.map_append, List.map_append, List.map_take, List.map_drop] at n2
  have ns := n2.same
  have hT2 := hT.same ns
  have bad2 : ¬ ∀ r' ∈ days.set (c / 4 % (days.length : Int)).toNat (r.take j ++ [m] ++ r.drop j), ∀ z ∈ r', In5 z := fun g => bad (g _ (List.mem_set (by omega) _) m (by simp))
  have ll2 := llen_set (r' := r.take j ++ [m] ++ r.drop j) hr
  have lr : (r.take j ++ [m] ++ r.drop j).length = r.length + 1 := by
    rw [List.length_append, List.length_append, List.length_take, List.length_drop, List.length_singleton]
    omega
  rw [lr] at ll2
  have ld2 : (days.set (c / 4 % (days.length : Int)).toNat (r.take j ++ [m] ++ r.drop j)).length ≤ 20 := by rw [List.length_set]; exact hdl
  have lL := n2.ll (K := K)
  have hpl2 := n2.len
  generalize days.set (c / 4 % (days.length : Int)).toNat (r.take j ++ [m] ++ r.drop j) = days2 at *
  have l2 := n2.lst
  show t_l_refused_s3 K A E _ [some (.ref T), some (.ref L), some (.int c), some (.int m), some (.int (c / 4 % (days.length : Int))), none, none, none, none] (upd H1 q _)
  unfold t_l_refused_s3
  walk_at "rd"
  intro X hX
  refine lc_listN (a := L) hX lL.sq (by rw [List.length_map]; omega) (fun j => .lst ((days2.getD j []).map V.int)) ?_ ?_
  · intro i x H4 hx s6 G N hG
    rw [List.getElem?_map] at hx
    obtain ⟨p, hp, rfl⟩ := Option.map_eq_some_iff.mp hx
    obtain ⟨r, hr⟩ := get_some (l := days2) (i := i) (by rw [← hpl2]; exact (List.getElem?_eq_some_iff.mp hp).1)
    have rp := s6 _ _ (lL.at_ _ _ _ hp hr)
    have rl := llen_mem (List.mem_of_getElem? hr)
    walk_at "rd"
    intro l hl
    refine hG _ _ hl (Same.new hl) ?_
    rw [upd_same, List.getD_eq_getElem?_getD, hr]
    rfl
  · intro H4 qs hqs N
    rw [List.length_map, hpl2] at hqs
    have n4 := NewLL.of_news (days := days2) N hX hqs fun i r hr => by
      show HO.lst ((days2.getD i []).map V.int) = _
      rw [List.getD_eq_getElem?_getD, hr]
      rfl
    have hT4 := hT2.same n4.same
    exact rd_refused_s4 IX hT4 (lL.same n4.same) n4.ll bad2 (by omega) ld2 k
end
end FW

namespace FW
open PySem PySem.Spec PyProof.Rows L2
section
variable {K : PySem.W.Frag} {A : Ad} {vs : List V} {H : Hp} {Q : VK} {E : XK}
theorem rd_law7 (O : OkT K A) {a R L N T t l : Addr} {rs ps qs : List Addr} {S D W : List Int} {days : List (List Int)} {xs : List V} {ts : List Tk} {Dn : Ends} (C : RD K H R L rs ps S D W days) (hN : LLAt K H N qs days) (hT : Tar A H T S D W)
    (hl0 : ∀ x, x = l → H x = some (.lst xs)) (ht : H t = some (.tup [.int (weekBest S D W days), .ref l])) (CB : ∃ B, Same B H ∧ B l = none ∧ RD K B R L rs ps S D W days ∧ LLAt K B N qs days ∧ Tar A B T S D W) (k : ∀ H', Dn.rt (.bl true) H') :
    t_law_s7 K A E Dn [some (.ref a), some (.ref R), some (.ref L), some (.ref N), some (.ref T), some (.ref t), none, none] H := by
  unfold t_law_s7
  obtain ⟨a', b', c', tt⟩ := id hT
  obtain ⟨dx, hT1⟩ := tt.ob
  have e1 := tarF_s a' b' c'
  have e2 := tarF_d a' b' c'
  have e3 := tarF_w a' b' c'
  have cl := O.cl
  have nS := O.nS
  have nD := O.nD
  have nW := O.nW
  walk_at "rd"
  intro p hp
  have s1 : Same H (upd H p (.lst [.ref a', .ref b', .ref c'])) := Same.new hp
  walk_at "rd"
  have dl : LLAt K (upd H p (.lst [.ref a', .ref b', .ref c'])) p [a', b', c'] [S, D, W] := ⟨SqL.of upd_same, rfl, fun i q r h1 h2 => by
    match i, h1, h2 with
    | 0, h1, h2 => cases h1; cases h2; exact s1 _ _ tt.hs
    | 1, h1, h2 => cases h1; cases h2; exact s1 _ _ tt.hd
    | 2, h1, h2 => cases h1; cases h2; exact s1 _ _ tt.hw
    | i + 3, h1, h2 => simp at h1⟩
  refine neD_no (dp_ll dl) (dp_ll (C.hR.same s1)) (shp_ll _) (by decide) ?_
  walk_at "rd"
  show t_law_s8 K A E Dn _ _
  unfold t_law_s8
  walk_at "rd"
  show t_law_s9 K A E Dn _ _
  unfold t_law_s9
  have hl1 := s1 _ _ (hl0 l rfl)
  walk_at "rd"
  show t_law_s10 K A E Dn [some (.ref a), some (.ref R), some (.ref L), some (.ref N), some (.ref T), some (.ref t), some (.int (weekBest S D W days)), none] _
  unfold t_law_s10
  obtain ⟨B, sB, bl, CB, NB, TB⟩ := CB
  have s2 : Same B (upd (upd H p (.lst [.ref a', .ref b', .ref c'])) l (.lst [])) := (sB.trans s1).mut bl
  generalize upd (upd H p (.lst [.ref a', .ref b', .ref c'])) l (.lst []) = H2 at *
  have fl := llen_flatten days
  have g1 := CB.hll
  have g2 := CB.hdl
  refine ⟨_, rfl, _, rfl, T, N, S, D, W, days, rfl, TB.same s2, ⟨_, NB.same s2⟩, by omega, g2, fun _ t2 l2 xs2 ts2 H3 s3 h1 h2 h3 h4 h5 h6 h7 h8 => ?_, fun n => absurd CB.h5 n⟩
  show t_law_s11 K A E Dn [some (.ref a), some (.ref R), some (.ref L), some (.ref N), some (.ref T), some (.ref t2), some (.int (weekBest S D W days)), none] _
  unfold t_law_s11
  refine ⟨_, rfl, _, rfl, _, rfl, t2, R, L, l2, rs, ps, S, D, W, days, xs2, ts2, rfl, CB.same (s2.trans s3), by rw [h7]; exact h3, h4, h5, h6, h8, fun H4 s4 => ?_⟩
  have h3' := s4 _ _ h3
  walk_at "rd"
  show Dn.rt (.bl (decide (V.int (weekBest S D W days) = V.int (weekBest S D W days)))) _
  rw [decide_eq_true rfl]
  exact k _
theorem rd_law (O : OkT K A) (h : sp_law K A vs H Q E) : t_law K A E { nx := fun _ H' => Q .non H', rt := Q } (start N_law vs) H := by
  obtain ⟨a, ns, rfl, hS, hl, q⟩ := h
  unfold t_law t_law_s1
  walk_at "rd"
  intro R rs S D W H1 rS rD rW nR
  have s1 := nR.same
  walk_at "rd"
  intro L ps days H2 h5 hll hdl nL
  have s2 := nL.same
  have C : RD K H2 R L rs ps S D W days := ⟨(nR.ll (K := K)).same s2, nL.ll, rS, rD, rW, h5, by omega, by omega⟩
  have lL := C.hL
  have lR := C.hR
  obtain ⟨p0, g0, f0⟩ := lR.get (i := 0) (by decide) rfl
  obtain ⟨p1, g1, f1⟩ := lR.get (i := 1) (by decide) rfl
  obtain ⟨p2, g2, f2⟩ := lR.get (i := 2) (by decide) rfl
  have lRs := lR.sq
  have lLs := lL.sq
  have lS := rS.1
  have lD := rD.1
  have lW := rW.1
  have hpl := lL.len
  have s12 := s1.trans s2
  have hS2 := s12.seq hS
  show t_law_s2 K A E _ [some (.ref a), some (.ref R), some (.ref L), none, none, none, none, none] H2
  have rest : t_law_s3 K A E { nx := fun _ H' => Q .non H', rt := Q } [some (.ref a), some (.ref R), some (.ref L), none, none, none, none, none] H2 := by
    unfold t_law_s3
    walk_at "rd"
    intro X hX
    refine lc_listN (a := L) hX lLs (by rw [List.length_map]; omega) (fun j => .lst ((days.getD j []).map V.int)) ?_ ?_
    · intro i x H4 hx s6 G N hG
      rw [List.getElem?_map] at hx
      obtain ⟨p, hp, rfl⟩ := Option.map_eq_some_iff.mp hx
      obtain ⟨r, hr⟩ := get_some (l := days) (i := i) (by rw [← hpl]; exact (List.getElem?_eq_some_iff.mp hp).1)
      have rp := s6 _ _ (lL.at_ _ _ _ hp hr)
      have rl := llen_mem (List.mem_of_getElem? hr)
      walk_at "rd"
      intro l hl
      refine hG _ _ hl (Same.new hl) ?_
      rw [upd_same, List.getD_eq_getElem?_getD, hr]
      rfl
    · intro H4 qs hqs N
      rw [List.length_map, hpl] at hqs
      have n4 := NewLL.of_news (days := days) N hX hqs fun i r hr => by
        show HO.lst ((days.getD i []).map V.int) = _
        rw [List.getD_eq_getElem?_getD, hr]
        rfl
      have s4 := n4.same
      have C4 := C.same s4
      have l4R := C4.hR.sq
      have f0' := s4 _ _ f0
      have f1' := s4 _ _ f1
      have f2' := s4 _ _ f2
      show t_law_s4 K A E _ [some (.ref a), some (.ref R), some (.ref L), some (.ref X), none, none, none, none] H4
      unfold t_law_s4
      walk_at "rd"
      intro b0 hb0
      walk_at "rd"
      intro b1 hb1
      walk_at "rd"
      intro b2 hb2
      walk_at "rd"
      intro T dx nT ndx nex
      have s5 : Same H4 (upd (upd (upd H4 b0 (.lst (S.map V.int))) b1 (.lst (D.map V.int))) b2 (.lst (W.map V.int))) := ((Same.new hb0).trans (Same.new hb1)).trans (Same.new hb2)
      refine mk_tariff nT ndx (by walk_at "sq") (by walk_at "sq") (by walk_at "sq") rS rD rW fun H5 s6 hT => ?_
      have s46 := s5.trans s6
      have C5 := C4.same s46
      have N5 := (n4.ll (K := K)).same s46
      refine ⟨rfl, ?_⟩
      show t_law_s5 K A E _ [some (.ref a), some (.ref R), some (.ref L), some (.ref X), some (.ref T), none, none, none] H5
      unfold t_law_s5
      refine ⟨_, rfl, _, rfl, T, X, S, D, W, days, rfl, hT, ⟨_, N5⟩, by rw [llen_flatten]; omega, by omega, fun _ t l xs ts H6 s7 k1 k2 k3 k4 k5 k6 k7 k8 => ?_, fun n => absurd h5 n⟩
      show t_law_s6 K A E _ [some (.ref a), some (.ref R), some (.ref L), some (.ref X), some (.ref T), some (.ref t), none, none] H6
      unfold t_law_s6
      have C6 := C5.same s7
      have N6 := N5.same s7
      refine ⟨_, rfl, _, rfl, neD_no (dp_ll N6) (dp_ll C6.hL) (shp_ll days) (by decide) ?_⟩
      have k3' : H6 t = some (.tup [.int (tkCost ts), .ref l]) := by rw [k7]; exact k3
      walk_at "rd"
      intro H7 s8
      walk_at "rd"
      exact rd_law7 (ts := ts) O (C6.same s8) (N6.same s8) ((hT.same s7).same s8) (fun x e => by rw [e]; exact s8 _ _ k4) (s8 _ _ k3) ⟨H5, s7.trans s8, k1, C5, N5, hT⟩ q
  unfold t_law_s2
  walk_at "rd"
  refine ite_b (fun c => ?_) (fun c => ?_)
  · walk_at "rd"
    refine ite_d (fun c2 => ?_) (fun c2 => ?_)
    · walk_at "rd"
      intro T dx nT ndx nex
      refine mk_tariff2 nT ndx (by walk_at "sq") (by walk_at "sq") (by walk_at "sq") rS rD rW fun H5 a' b' c' s6 t na nb nc => ?_
      have nL6 := (nL.ext s6).cut
      have out : ∀ x, H2 x = none → x ∉ L :: ps := fun x hx m => by
        rcases List.mem_cons.mp m with e | m
        · rw [e, nL.lst] at hx
          cases hx
        · obtain ⟨j, hj⟩ := List.mem_iff_getElem?.mp m
          have hjl : j < days.length := by rw [← hpl]; exact (List.getElem?_eq_some_iff.mp hj).1
          have := nL.at_ j x _ hj (List.getElem?_eq_getElem hjl)
          rw [hx] at this
          cases this
      have t6 : Tar A (dels H5 (L :: ps)) T S D W := ⟨_, _, _, t.dels (out _ nT) (out _ na) (out _ nb) (out _ nc)⟩
      have hS5 := s6.seq hS2
      have dne : days ≠ [] := fun e => by
        rw [e] at hpl
        have : ps = [] := List.length_eq_zero_iff.mp hpl
        rw [this] at c
        cases c
      walk_at "rd"
      exact ⟨_, rfl, nL6, t6, dne, h5, by omega, by omega, q⟩
    · exact rest
  · exact rest
end
end FW

namespace FW
open PySem PySem.Spec PyProof.Rows L2
def topS (i : Nat) : Stmt := PySem.Challenge.pw_fareweb_k06_tickets_that_serve.main.body.getD i (.Pass ⟨0, 0, 0, 0⟩)
abbrev s_need_zones : Stmt := topS 10
abbrev s_cheapest : Stmt := topS 11
abbrev s_Tariff_init : Stmt := inClass (topS 12) 0
abbrev s_Tariff_single : Stmt := inClass (topS 12) 1
abbrev s_Tariff_day : Stmt := inClass (topS 12) 2
abbrev s_Tariff_week : Stmt := inClass (topS 12) 3
abbrev s_cost_of : Stmt := topS 14
abbrev s_for_day : Stmt := topS 15
abbrev s_for_week : Stmt := topS 16
abbrev s_least : Stmt := topS 17
abbrev s_l_cell_at : Stmt := topS 19
abbrev s_l_whole : Stmt := topS 20
abbrev s_l_rows : Stmt := topS 21
abbrev s_l_days : Stmt := topS 22
abbrev s_l_shaped : Stmt := topS 23
abbrev s_l_serves : Stmt := topS 24
abbrev s_l_served : Stmt := topS 25
abbrev s_l_good : Stmt := topS 26
abbrev s_l_refused : Stmt := topS 27
abbrev s_law : Stmt := topS 28
theorem sc_need_zones : FnScope N_need_zones ["zones"] (defScope s_need_zones) := ⟨rfl, rfl, rfl, by decide +kernel, rfl, by decide +kernel, by decide +kernel⟩
theorem sc_cheapest : FnScope N_cheapest ["row", "zones"] (defScope s_cheapest) := ⟨rfl, rfl, rfl, by decide +kernel, rfl, by decide +kernel, by decide +kernel⟩
theorem sc_Tariff_init : FnScope N_Tariff_init ["self", "singles", "days", "weeks"] (defScope s_Tariff_init) := ⟨rfl, rfl, rfl, by decide +kernel, rfl, by decide +kernel, by decide +kernel⟩
theorem sc_Tariff_single : FnScope N_Tariff_single ["self", "zones"] (defScope s_Tariff_single) := ⟨rfl, rfl, rfl, by decide +kernel, rfl, by decide +kernel, by decide +kernel⟩
theorem sc_Tariff_day : FnScope N_Tariff_day ["self", "zones"] (defScope s_Tariff_day) := ⟨rfl, rfl, rfl, by decide +kernel, rfl, by decide +kernel, by decide +kernel⟩
theorem sc_Tariff_week : FnScope N_Tariff_week ["self", "zones"] (defScope s_Tariff_week) := ⟨rfl, rfl, rfl, by decide +kernel, rfl, by decide +kernel, by decide +kernel⟩
theorem sc_cost_of : FnScope N_cost_of ["tickets"] (defScope s_cost_of) := ⟨rfl, rfl, rfl, by decide +kernel, rfl, by decide +kernel, by decide +kernel⟩
theorem sc_for_day : FnScope N_for_day ["tariff", "day", "rides", "held"] (defScope s_for_day) := ⟨rfl, rfl, rfl, by decide +kernel, rfl, by decide +kernel, by decide +kernel⟩
theorem sc_for_week : FnScope N_for_week ["tariff", "days", "held"] (defScope s_for_week) := ⟨rfl, rfl, rfl, by decide +kernel, rfl, by decide +kernel, by decide +kernel⟩
theorem sc_least : FnScope N_least ["tariff", "days"] (defScope s_least) := ⟨rfl, rfl, rfl, by decide +kernel, rfl, by decide +kernel, by decide +kernel⟩
theorem sc_l_cell_at : FnScope N_l_cell_at ["_law_script", "_law_k"] (defScope s_l_cell_at) := ⟨rfl, rfl, rfl, by decide +kernel, rfl, by decide +kernel, by decide +kernel⟩
theorem sc_l_whole : FnScope N_l_whole ["_law_found"] (defScope s_l_whole) := ⟨rfl, rfl, rfl, by decide +kernel, rfl, by decide +kernel, by decide +kernel⟩
theorem sc_l_rows : FnScope N_l_rows ["_law_script"] (defScope s_l_rows) := ⟨rfl, rfl, rfl, by decide +kernel, rfl, by decide +kernel, by decide +kernel⟩
theorem sc_l_days : FnScope N_l_days ["_law_script"] (defScope s_l_days) := ⟨rfl, rfl, rfl, by decide +kernel, rfl, by decide +kernel, by decide +kernel⟩
theorem sc_l_shaped : FnScope N_l_shaped ["_law_ticket", "_law_rows_here", "_law_days_here"] (defScope s_l_shaped) := ⟨rfl, rfl, rfl, by decide +kernel, rfl, by decide +kernel, by decide +kernel⟩
theorem sc_l_serves : FnScope N_l_serves ["_law_ticket", "_law_day", "_law_ride", "_law_zones"] (defScope s_l_serves) := ⟨rfl, rfl, rfl, by decide +kernel, rfl, by decide +kernel, by decide +kernel⟩
theorem sc_l_served : FnScope N_l_served ["_law_tickets", "_law_day", "_law_ride", "_law_zones"] (defScope s_l_served) := ⟨rfl, rfl, rfl, by decide +kernel, rfl, by decide +kernel, by decide +kernel⟩
theorem sc_l_good : FnScope N_l_good ["_law_found", "_law_rows_here", "_law_days_here"] (defScope s_l_good) := ⟨rfl, rfl, rfl, by decide +kernel, rfl, by decide +kernel, by decide +kernel⟩
theorem sc_l_refused : FnScope N_l_refused ["_law_tariff", "_law_days_here", "_law_cell"] (defScope s_l_refused) := ⟨rfl, rfl, rfl, by decide +kernel, rfl, by decide +kernel, by decide +kernel⟩
theorem sc_law : FnScope N_law ["_law_script"] (defScope s_law) := ⟨rfl, rfl, rfl, by decide +kernel, rfl, by decide +kernel, by decide +kernel⟩
structure Txt (K : PySem.W.Frag) (mg : Str → Option Value) (A : Ad) where
  a_need_zones : Addr
  d_need_zones : FuncData
  F_need_zones : Fun K "need_zones" "need_zones" s_need_zones a_need_zones d_need_zones
  b_need_zones : Binds K d_need_zones ["zones"] []
  g_need_zones : mg "need_zones" = some (.ref a_need_zones)
  k_need_zones : PySem.W.keepIn K (.ref a_need_zones) = true
  a_cheapest : Addr
  d_cheapest : FuncData
  F_cheapest : Fun K "cheapest" "cheapest" s_cheapest a_cheapest d_cheapest
  b_cheapest : Binds K d_cheapest ["row", "zones"] []
  g_cheapest : mg "cheapest" = some (.ref a_cheapest)
  k_cheapest : PySem.W.keepIn K (.ref a_cheapest) = true
  a_Tariff_init : Addr
  d_Tariff_init : FuncData
  F_Tariff_init : Fun K "__init__" "Tariff.__init__" s_Tariff_init a_Tariff_init d_Tariff_init
  b_Tariff_init : Binds K d_Tariff_init ["self", "singles", "days", "weeks"] []
  M_Tariff : Mk K A.c_Tariff a_Tariff_init
  a_Tariff_single : Addr
  d_Tariff_single : FuncData
  F_Tariff_single : Fun K "single" "Tariff.single" s_Tariff_single a_Tariff_single d_Tariff_single
  b_Tariff_single : Binds K d_Tariff_single ["self", "zones"] []
  h_Tariff_single : Meth K A.c_Tariff "single" a_Tariff_single
  a_Tariff_day : Addr
  d_Tariff_day : FuncData
  F_Tariff_day : Fun K "day" "Tariff.day" s_Tariff_day a_Tariff_day d_Tariff_day
  b_Tariff_day : Binds K d_Tariff_day ["self", "zones"] []
  h_Tariff_day : Meth K A.c_Tariff "day" a_Tariff_day
  a_Tariff_week : Addr
  d_Tariff_week : FuncData
  F_Tariff_week : Fun K "week" "Tariff.week" s_Tariff_week a_Tariff_week d_Tariff_week
  b_Tariff_week : Binds K d_Tariff_week ["self", "zones"] []
  h_Tariff_week : Meth K A.c_Tariff "week" a_Tariff_week
  a_cost_of : Addr
  d_cost_of : FuncData
  F_cost_of : Fun K "cost_of" "cost_of" s_cost_of a_cost_of d_cost_of
  b_cost_of : Binds K d_cost_of ["tickets"] []
  g_cost_of : mg "cost_of" = some (.ref a_cost_of)
  k_cost_of : PySem.W.keepIn K (.ref a_cost_of) = true
  a_for_day : Addr
  d_for_day : FuncData
  F_for_day : Fun K "for_day" "for_day" s_for_day a_for_day d_for_day
  b_for_day : Binds K d_for_day ["tariff", "day", "rides", "held"] []
  g_for_day : mg "for_day" = some (.ref a_for_day)
  k_for_day : PySem.W.keepIn K (.ref a_for_day) = true
  a_for_week : Addr
  d_for_week : FuncData
  F_for_week : Fun K "for_week" "for_week" s_for_week a_for_week d_for_week
  b_for_week : Binds K d_for_week ["tariff", "days", "held"] []
  g_for_week : mg "for_week" = some (.ref a_for_week)
  k_for_week : PySem.W.keepIn K (.ref a_for_week) = true
  a_least : Addr
  d_least : FuncData
  F_least : Fun K "least" "least" s_least a_least d_least
  b_least : Binds K d_least ["tariff", "days"] []
  g_least : mg "least" = some (.ref a_least)
  k_least : PySem.W.keepIn K (.ref a_least) = true
  a_l_cell_at : Addr
  d_l_cell_at : FuncData
  F_l_cell_at : Fun K "_law_cell_at" "_law_cell_at" s_l_cell_at a_l_cell_at d_l_cell_at
  b_l_cell_at : Binds K d_l_cell_at ["_law_script", "_law_k"] []
  g_l_cell_at : mg "_law_cell_at" = some (.ref a_l_cell_at)
  k_l_cell_at : PySem.W.keepIn K (.ref a_l_cell_at) = true
  a_l_whole : Addr
  d_l_whole : FuncData
  F_l_whole : Fun K "_law_whole" "_law_whole" s_l_whole a_l_whole d_l_whole
  b_l_whole : Binds K d_l_whole ["_law_found"] []
  g_l_whole : mg "_law_whole" = some (.ref a_l_whole)
  k_l_whole : PySem.W.keepIn K (.ref a_l_whole) = true
  a_l_rows : Addr
  d_l_rows : FuncData
  F_l_rows : Fun K "_law_rows" "_law_rows" s_l_rows a_l_rows d_l_rows
  b_l_rows : Binds K d_l_rows ["_law_script"] []
  g_l_rows : mg "_law_rows" = some (.ref a_l_rows)
  k_l_rows : PySem.W.keepIn K (.ref a_l_rows) = true
  a_l_days : Addr
  d_l_days : FuncData
  F_l_days : Fun K "_law_days" "_law_days" s_l_days a_l_days d_l_days
  b_l_days : Binds K d_l_days ["_law_script"] []
  g_l_days : mg "_law_days" = some (.ref a_l_days)
  k_l_days : PySem.W.keepIn K (.ref a_l_days) = true
  a_l_shaped : Addr
  d_l_shaped : FuncData
  F_l_shaped : Fun K "_law_shaped" "_law_shaped" s_l_shaped a_l_shaped d_l_shaped
  b_l_shaped : Binds K d_l_shaped ["_law_ticket", "_law_rows_here", "_law_days_here"] []
  g_l_shaped : mg "_law_shaped" = some (.ref a_l_shaped)
  k_l_shaped : PySem.W.keepIn K (.ref a_l_shaped) = true
  a_l_serves : Addr
  d_l_serves : FuncData
  F_l_serves : Fun K "_law_serves" "_law_serves" s_l_serves a_l_serves d_l_serves
  b_l_serves : Binds K d_l_serves ["_law_ticket", "_law_day", "_law_ride", "_law_zones"] []
  g_l_serves : mg "_law_serves" = some (.ref a_l_serves)
  k_l_serves : PySem.W.keepIn K (.ref a_l_serves) = true
  a_l_served : Addr
  d_l_served : FuncData
  F_l_served : Fun K "_law_served" "_law_served" s_l_served a_l_served d_l_served
  b_l_served : Binds K d_l_served ["_law_tickets", "_law_day", "_law_ride", "_law_zones"] []
  g_l_served : mg "_law_served" = some (.ref a_l_served)
  k_l_served : PySem.W.keepIn K (.ref a_l_served) = true
  a_l_good : Addr
  d_l_good : FuncData
  F_l_good : Fun K "_law_good" "_law_good" s_l_good a_l_good d_l_good
  b_l_good : Binds K d_l_good ["_law_found", "_law_rows_here", "_law_days_here"] []
  g_l_good : mg "_law_good" = some (.ref a_l_good)
  k_l_good : PySem.W.keepIn K (.ref a_l_good) = true
  a_l_refused : Addr
  d_l_refused : FuncData
  F_l_refused : Fun K "_law_refused" "_law_refused" s_l_refused a_l_refused d_l_refused
  b_l_refused : Binds K d_l_refused ["_law_tariff", "_law_days_here", "_law_cell"] []
  g_l_refused : mg "_law_refused" = some (.ref a_l_refused)
  k_l_refused : PySem.W.keepIn K (.ref a_l_refused) = true
  a_law : Addr
  d_law : FuncData
  F_law : Fun K "law" "law" s_law a_law d_law
  b_law : Binds K d_law ["_law_script"] []
  g_law : mg "law" = some (.ref a_law)
  k_law : PySem.W.keepIn K (.ref a_law) = true
  L_Tariff : Cls K A.c_Tariff
  g_Tariff : mg "Tariff" = some (.ref A.c_Tariff)
  n_Tariff_days : NoAttr K A.c_Tariff "days"
  n_Tariff_singles : NoAttr K A.c_Tariff "singles"
  n_Tariff_weeks : NoAttr K A.c_Tariff "weeks"
  z_ValueError : mg "ValueError" = none
  z_bool : mg "bool" = none
  z_enumerate : mg "enumerate" = none
  z_int : mg "int" = none
  z_isinstance : mg "isinstance" = none
  z_len : mg "len" = none
  z_list : mg "list" = none
  z_max : mg "max" = none
  z_min : mg "min" = none
  z_range : mg "range" = none
  z_set : mg "set" = none
  z_sorted : mg "sorted" = none
  z_sum : mg "sum" = none
  z_tuple : mg "tuple" = none
  c_MOST_ZONES : ∃ t, mg "MOST_ZONES" = some (.int 5 t)
  g_FareError : mg "FareError" = some (.ref A.c_FareError)
  x_FareError : PySem.W.excIn K A.c_FareError [.type "ValueError", .type "Exception", .type "BaseException", .type "object"] "ValueError.__new__" = true
  k_FareError : PySem.W.keepIn K (.ref A.c_FareError) = true
  y_FareError : PySem.W.subIn K (.ref A.c_FareError) (.type "BaseException") = some true
  t_FareError : PySem.W.typeIn K (.ref A.c_FareError) = some (.type "type")
  g_BadLink : mg "BadLink" = some (.ref A.c_BadLink)
  x_BadLink : PySem.W.excIn K A.c_BadLink [.type "ValueError", .type "Exception", .type "BaseException", .type "object"] "ValueError.__new__" = true
  k_BadLink : PySem.W.keepIn K (.ref A.c_BadLink) = true
  y_BadLink : PySem.W.subIn K (.ref A.c_BadLink) (.type "BaseException") = some true
  t_BadLink : PySem.W.typeIn K (.ref A.c_BadLink) = some (.type "type")
  g_BadStop : mg "BadStop" = some (.ref A.c_BadStop)
  x_BadStop : PySem.W.excIn K A.c_BadStop [.type "ValueError", .type "Exception", .type "BaseException", .type "object"] "ValueError.__new__" = true
  k_BadStop : PySem.W.keepIn K (.ref A.c_BadStop) = true
  y_BadStop : PySem.W.subIn K (.ref A.c_BadStop) (.type "BaseException") = some true
  t_BadStop : PySem.W.typeIn K (.ref A.c_BadStop) = some (.type "type")
  g_NoWay : mg "NoWay" = some (.ref A.c_NoWay)
  x_NoWay : PySem.W.excIn K A.c_NoWay [.type "ValueError", .type "Exception", .type "BaseException", .type "object"] "ValueError.__new__" = true
  k_NoWay : PySem.W.keepIn K (.ref A.c_NoWay) = true
  y_NoWay : PySem.W.subIn K (.ref A.c_NoWay) (.type "BaseException") = some true
  t_NoWay : PySem.W.typeIn K (.ref A.c_NoWay) = some (.type "type")
  g_BadPrices : mg "BadPrices" = some (.ref A.c_BadPrices)
  x_BadPrices : PySem.W.excIn K A.c_BadPrices [.type "ValueError", .type "Exception", .type "BaseException", .type "object"] "ValueError.__new__" = true
  k_BadPrices : PySem.W.keepIn K (.ref A.c_BadPrices) = true
  y_BadPrices : PySem.W.subIn K (.ref A.c_BadPrices) (.type "BaseException") = some true
  t_BadPrices : PySem.W.typeIn K (.ref A.c_BadPrices) = some (.type "type")
  g_BadZones : mg "BadZones" = some (.ref A.c_BadZones)
  x_BadZones : PySem.W.excIn K A.c_BadZones [.type "ValueError", .type "Exception", .type "BaseException", .type "object"] "ValueError.__new__" = true
  k_BadZones : PySem.W.keepIn K (.ref A.c_BadZones) = true
  y_BadZones : PySem.W.subIn K (.ref A.c_BadZones) (.type "BaseException") = some true
  t_BadZones : PySem.W.typeIn K (.ref A.c_BadZones) = some (.type "type")
  g_PastDay : mg "PastDay" = some (.ref A.c_PastDay)
  x_PastDay : PySem.W.excIn K A.c_PastDay [.type "ValueError", .type "Exception", .type "BaseException", .type "object"] "ValueError.__new__" = true
  k_PastDay : PySem.W.keepIn K (.ref A.c_PastDay) = true
  y_PastDay : PySem.W.subIn K (.ref A.c_PastDay) (.type "BaseException") = some true
  t_PastDay : PySem.W.typeIn K (.ref A.c_PastDay) = some (.type "type")
  I_BadZones : IsX K A A.c_BadZones false false false false true false
theorem Txt.okT {K : PySem.W.Frag} {mg : Str → Option Value} {A : Ad} (T : Txt K mg A) : OkT K A := ⟨T.L_Tariff, T.n_Tariff_singles, T.n_Tariff_days, T.n_Tariff_weeks⟩
section
variable {P : Program} {w : World} {K : PySem.W.Frag} {mg : Str → Option Value} {base : Heap} {A : Ad}
theorem ok_need_zones (T : Txt K mg A) : FnOk P w K mg base (L2.CX P w) 1 T.a_need_zones T.d_need_zones ["zones"] (sp_need_zones K A) := by
  refine T.F_need_zones.okX sc_need_zones (by unfold sp_need_zones; walk_at "len") (fun cdv B outer s H vs Q E hr h => ⟨t_need_zones K A E, ?_, rd_need_zones h⟩)
  exact pss_one (ps_if (PW.pt (pw_or (pt_cmpR op_lt (pv 0) (pe_int) (nomark _)) (pw_or1 (pt_cmpR op_gt (pv 0) (pe_gc rfl (glob_int T.c_MOST_ZONES)) (nomark _))))) (pss_one (ps_raise rfl (takes_of rfl rfl rfl rfl) (pmk_own PySem.F.excBase_ValueError T.x_BadZones T.g_BadZones T.k_BadZones (raises_own T.y_BadZones T.t_BadZones) (by exact rfl)))) (pss_nil))
theorem ok_cheapest (T : Txt K mg A) : FnOk P w K mg base (L2.CX P w) 2 T.a_cheapest T.d_cheapest ["row", "zones"] (sp_cheapest K A) := by
  refine T.F_cheapest.okX sc_cheapest (by unfold sp_cheapest; walk_at "len") (fun cdv B outer s H vs Q E hr h => ⟨t_cheapest K A E, ?_, rd_cheapest h⟩)
  exact pss_cons (ps_expr (pe_call (ok_need_zones T) (hr.mono (by decide)) (by rfl) T.g_need_zones T.k_need_zones T.b_need_zones .nil (passes_call (takes_of rfl rfl rfl rfl) (fun _ _ _ _ h => h)) (pa_cons (pv 1) (pa_nil))))  (pss_cons (ps_set (i := 2) sc_cheapest.nd rfl (by first | exact Or.inl rfl | exact Or.inr rfl) (pv 1))  (pss_cons (ps_for (passes_of rfl) rfl (pi_range2 (by rfl) T.z_range (pa_cons (pv 1) (pa_cons (pe_op op_add (pe_gc rfl (glob_int T.c_MOST_ZONES)) (pe_int)) (pa_nil)))) (pg_name (i := 3) sc_cheapest.nd rfl (by first | exact Or.inl rfl | exact Or.inr rfl)) (pss_one (ps_if (pt_cmpR op_lt (pe_ix ix_list (pv 0) (pe_op op_sub (pv 3) (pe_int)) (fun _ _ => rfl)) (pe_ix ix_list (pv 0) (pe_op op_sub (pv 2) (pe_int)) (fun _ _ => rfl)) (nomark _)) (pss_one (ps_set (i := 2) sc_cheapest.nd rfl (by first | exact Or.inl rfl | exact Or.inr rfl) (pv 3))) (pss_nil))))  (pss_one (ps_ret (pe_tup (pa_cons (pv 2) (pa_cons (pe_ix ix_list (pv 0) (pe_op op_sub (pv 2) (pe_int)) (fun _ _ => rfl)) (pa_nil))))))))
theorem ok_Tariff_init (T : Txt K mg A) : FnOk P w K mg base (L2.CX P w) 1 T.a_Tariff_init T.d_Tariff_init ["self", "singles", "days", "weeks"] (sp_Tariff_init K A) := by
  refine T.F_Tariff_init.okX sc_Tariff_init (by unfold sp_Tariff_init; walk_at "len") (fun cdv B outer s H vs Q E hr h => ⟨t_Tariff_init K A E, ?_, rd_Tariff_init T.okT h⟩)
  exact pss_cons (ps_for (passes_of rfl) rfl (pi_list (pe_lst (pa_cons (pv 1) (pa_cons (pv 2) (pa_cons (pv 3) (pa_nil)))))) (pg_name (i := 4) sc_Tariff_init.nd rfl (by first | exact Or.inl rfl | exact Or.inr rfl)) (pss_one (ps_if (PW.pt (pw_or (pt_cmpR op_ne (pe_callB call_len_seq (by rfl) T.z_len (by decide +kernel) (pa_cons (pv 4) (pa_nil))) (pe_gc rfl (glob_int T.c_MOST_ZONES)) (nomark _)) (pw_or1 (pt_cmpR op_lt (pe_callB (cr_min rfl) (by rfl) T.z_min (by decide +kernel) (pa_cons (pv 4) (pa_nil))) (pe_int) (nomark _))))) (pss_one (ps_raise rfl (takes_of rfl rfl rfl rfl) (pmk_own PySem.F.excBase_ValueError T.x_BadPrices T.g_BadPrices T.k_BadPrices (raises_own T.y_BadPrices T.t_BadPrices) (by exact rfl)))) (pss_nil))))  (pss_cons (ps_fld (pv 0) (pe_callTy call_list_of (by rfl) T.z_list (by decide +kernel) (pa_cons (pv 1) (pa_nil))) rfl)  (pss_cons (ps_fld (pv 0) (pe_callTy call_list_of (by rfl) T.z_list (by decide +kernel) (pa_cons (pv 2) (pa_nil))) rfl)  (pss_one (ps_fld (pv 0) (pe_callTy call_list_of (by rfl) T.z_list (by decide +kernel) (pa_cons (pv 3) (pa_nil))) rfl))))
theorem ok_Tariff_single (T : Txt K mg A) : FnOk P w K mg base (L2.CX P w) 3 T.a_Tariff_single T.d_Tariff_single ["self", "zones"] (sp_Tariff_single K A) := by
  refine T.F_Tariff_single.okX sc_Tariff_single (by unfold sp_Tariff_single; walk_at "len") (fun cdv B outer s H vs Q E hr h => ⟨t_Tariff_single K A E, ?_, rd_Tariff_single T.okT h⟩)
  exact pss_one (ps_ret (pe_ix ix_tup (pe_call (ok_cheapest T) (hr.mono (by decide)) (by rfl) T.g_cheapest T.k_cheapest T.b_cheapest .nil (passes_call (takes_of rfl rfl rfl rfl) (fun _ _ _ _ h => h)) (pa_cons (pe_fld (pv 0) rfl) (pa_cons (pv 1) (pa_nil)))) (pe_int) (fun _ _ => rfl)))
theorem ok_Tariff_day (T : Txt K mg A) : FnOk P w K mg base (L2.CX P w) 3 T.a_Tariff_day T.d_Tariff_day ["self", "zones"] (sp_Tariff_day K A) := by
  refine T.F_Tariff_day.okX sc_Tariff_day (by unfold sp_Tariff_day; walk_at "len") (fun cdv B outer s H vs Q E hr h => ⟨t_Tariff_day K A E, ?_, rd_Tariff_day T.okT h⟩)
  exact pss_one (ps_ret (pe_ix ix_tup (pe_call (ok_cheapest T) (hr.mono (by decide)) (by rfl) T.g_cheapest T.k_cheapest T.b_cheapest .nil (passes_call (takes_of rfl rfl rfl rfl) (fun _ _ _ _ h => h)) (pa_cons (pe_fld (pv 0) rfl) (pa_cons (pv 1) (pa_nil)))) (pe_int) (fun _ _ => rfl)))
theorem ok_Tariff_week (T : Txt K mg A) : FnOk P w K mg base (L2.CX P w) 3 T.a_Tariff_week T.d_Tariff_week ["self", "zones"] (sp_Tariff_week K A) := by
  refine T.F_Tariff_week.okX sc_Tariff_week (by unfold sp_Tariff_week; walk_at "len") (fun cdv B outer s H vs Q E hr h => ⟨t_Tariff_week K A E, ?_, rd_Tariff_week T.okT h⟩)
  exact pss_one (ps_ret (pe_ix ix_tup (pe_call (ok_cheapest T) (hr.mono (by decide)) (by rfl) T.g_cheapest T.k_cheapest T.b_cheapest .nil (passes_call (takes_of rfl rfl rfl rfl) (fun _ _ _ _ h => h)) (pa_cons (pe_fld (pv 0) rfl) (pa_cons (pv 1) (pa_nil)))) (pe_int) (fun _ _ => rfl)))
theorem ok_cost_of (T : Txt K mg A) : FnOk P w K mg base (L2.CX P w) 1 T.a_cost_of T.d_cost_of ["tickets"] (sp_cost_of K A) := by
  refine T.F_cost_of.okX sc_cost_of (by unfold sp_cost_of; walk_at "len") (fun cdv B outer s H vs Q E hr h => ⟨t_cost_of K A E, ?_, rd_cost_of h⟩)
  exact pss_one (ps_ret (pe_callB (cr_sum rfl) (by rfl) T.z_sum (by decide +kernel) (pa_cons (pe_lc (own := [("ticket", 1)]) rfl sc_cost_of.nd (pi_list (pv 0)) (blkOk_by (N := N_cost_of) (sc := defScope s_cost_of) (by decide +kernel)) (fun _ _ _ _ _ => pg_name (i := 1) sc_cost_of.nd rfl (by first | exact Or.inl rfl | exact Or.inr rfl)) (fun _ _ _ _ _ => pts_nil) (fun _ _ _ _ _ => pe_ix ix_tup (pv 1) (pe_un un_neg (pe_int)) (fun _ _ => rfl))) (pa_nil))))
theorem ok_for_day (T : Txt K mg A) : FnOk P w K mg base (L2.CX P w) 3 T.a_for_day T.d_for_day ["tariff", "day", "rides", "held"] (sp_for_day K A) := by
  refine T.F_for_day.okX sc_for_day (by unfold sp_for_day; walk_at "len") (fun cdv B outer s H vs Q E hr h => ⟨t_for_day K A w E, ?_, rd_for_day T.okT h⟩)
  unfold t_for_day t_for_day_s1 t_for_day_s2 t_for_day_s3 t_for_day_b1 t_for_day_b1_s1 t_for_day_b1_s2 t_for_day_b1_s3
  exact pss_cons (ps_if (pt_not (pt_truth (pv 2) (by intro _; rfl))) (pss_one (ps_ret (pe_lst pa_nil))) (pss_nil))  (pss_cons (ps_set (i := 4) sc_for_day.nd rfl (by first | exact Or.inl rfl | exact Or.inr rfl) (pe_non))  (pss_cons (ps_for (passes_of rfl) rfl (pi_list (pe_op op_cat (pe_lst (pa_cons (pe_int) (pa_nil))) (pe_callB (cr_sortedSet rfl) (by rfl) T.z_sorted (by decide +kernel) (pa_cons (pe_callTy (cr_setI rfl) (by rfl) T.z_set (by decide +kernel) (pa_cons (pv 2) (pa_nil))) (pa_nil))))) (pg_name (i := 5) sc_for_day.nd rfl (by first | exact Or.inl rfl | exact Or.inr rfl)) (pss_cons (ps_set (i := 6) sc_for_day.nd rfl (by first | exact Or.inl rfl | exact Or.inr rfl) (pe_lst pa_nil))  (pss_cons (ps_if (pt_cmpR op_gt (pv 5) (pe_int) (nomark _)) (pss_cons (ps_set (i := 7) sc_for_day.nd rfl (by first | exact Or.inl rfl | exact Or.inr rfl) (pe_call (ok_cheapest T) (hr.mono (by decide)) (by rfl) T.g_cheapest T.k_cheapest T.b_cheapest .nil passL (pa_cons (pe_fld (pv 0) rfl) (pa_cons (pv 5) (pa_nil)))))  (pss_one (ps_expr (pe_bm PySem.F.plainAttrs_list PySem.F.slot_list_append PySem.F.type_list_append mt_append (pv 6) (pa_cons (pe_tup (pa_cons (pe_str) (pa_cons (pv 1) (pa_cons (pe_ix ix_tup (pv 7) (pe_int) (fun _ _ => rfl)) (pa_cons (pe_ix ix_tup (pv 7) (pe_int) (fun _ _ => rfl)) (pa_nil)))))) (pa_nil)))))) (pss_nil))  (pss_cons (ps_for (passes_of rfl) rfl (pi_enum (by rfl) T.z_enumerate (pa_cons (pv 2) (pa_nil))) (pg_tup rfl (pgs_cons (pg_name (i := 8) sc_for_day.nd rfl (by first | exact Or.inl rfl | exact Or.inr rfl)) (pgs_cons (pg_name (i := 9) sc_for_day.nd rfl (by first | exact Or.inl rfl | exact Or.inr rfl)) (pgs_nil)))) (pss_one (ps_if (pt_cmpR op_gt (pv 9) (pe_callB (call_max2 rfl) (by rfl) T.z_max (by decide +kernel) (pa_cons (pv 3) (pa_cons (pv 5) (pa_nil)))) (nomark _)) (pss_cons (ps_set (i := 7) sc_for_day.nd rfl (by first | exact Or.inl rfl | exact Or.inr rfl) (pe_call (ok_cheapest T) (hr.mono (by decide)) (by rfl) T.g_cheapest T.k_cheapest T.b_cheapest .nil passL (pa_cons (pe_fld (pv 0) rfl) (pa_cons (pv 9) (pa_nil)))))  (pss_one (ps_expr (pe_bm PySem.F.plainAttrs_list PySem.F.slot_list_append PySem.F.type_list_append mt_append (pv 6) (pa_cons (pe_tup (pa_cons (pe_str) (pa_cons (pv 1) (pa_cons (pv 8) (pa_cons (pe_ix ix_tup (pv 7) (pe_int) (fun _ _ => rfl)) (pa_cons (pe_ix ix_tup (pv 7) (pe_int) (fun _ _ => rfl)) (pa_nil))))))) (pa_nil)))))) (pss_nil))))  (pss_one (ps_if (PW.pt (pw_or (pt_cmpR op_isN (pv 4) (pe_non) (nomark _)) (pw_or1 (pt_cmpR op_lt (pe_call (ok_cost_of T) (hr.mono (by decide)) (by rfl) T.g_cost_of T.k_cost_of T.b_cost_of .nil passL (pa_cons (pv 6) (pa_nil))) (pe_call (ok_cost_of T) (hr.mono (by decide)) (by rfl) T.g_cost_of T.k_cost_of T.b_cost_of .nil passL (pa_cons (pv 4) (pa_nil))) (nomark _))))) (pss_one (ps_set (i := 4) sc_for_day.nd rfl (by first | exact Or.inl rfl | exact Or.inr rfl) (pv 6))) (pss_nil)))))))  (pss_one (ps_ret (pv 4)))))
theorem ok_for_week (T : Txt K mg A) : FnOk P w K mg base (L2.CX P w) 4 T.a_for_week T.d_for_week ["tariff", "days", "held"] (sp_for_week K A) := by
  refine T.F_for_week.okX sc_for_week (by unfold sp_for_week; walk_at "len") (fun cdv B outer s H vs Q E hr h => ⟨t_for_week K A E, ?_, rd_for_week T.okT h⟩)
  unfold t_for_week t_for_week_s1 t_for_week_s2 t_for_week_s3
  exact pss_cons (ps_set (i := 3) sc_for_week.nd rfl (by first | exact Or.inl rfl | exact Or.inr rfl) (pe_lst pa_nil))  (pss_cons (ps_if (pt_cmpR op_gt (pv 2) (pe_int) (nomark _)) (pss_cons (ps_set (i := 4) sc_for_week.nd rfl (by first | exact Or.inl rfl | exact Or.inr rfl) (pe_call (ok_cheapest T) (hr.mono (by decide)) (by rfl) T.g_cheapest T.k_cheapest T.b_cheapest .nil passL (pa_cons (pe_fld (pv 0) rfl) (pa_cons (pv 2) (pa_nil)))))  (pss_one (ps_expr (pe_bm PySem.F.plainAttrs_list PySem.F.slot_list_append PySem.F.type_list_append mt_append (pv 3) (pa_cons (pe_tup (pa_cons (pe_str) (pa_cons (pe_ix ix_tup (pv 4) (pe_int) (fun _ _ => rfl)) (pa_cons (pe_ix ix_tup (pv 4) (pe_int) (fun _ _ => rfl)) (pa_nil))))) (pa_nil)))))) (pss_nil))  (pss_cons (ps_for (passes_of rfl) rfl (pi_enum (by rfl) T.z_enumerate (pa_cons (pv 1) (pa_nil))) (pg_tup rfl (pgs_cons (pg_name (i := 5) sc_for_week.nd rfl (by first | exact Or.inl rfl | exact Or.inr rfl)) (pgs_cons (pg_name (i := 6) sc_for_week.nd rfl (by first | exact Or.inl rfl | exact Or.inr rfl)) (pgs_nil)))) (pss_one (ps_expr (pe_bm PySem.F.plainAttrs_list PySem.F.slot_list_extend PySem.F.type_list_extend mt_extend (pv 3) (pa_cons (pe_call (ok_for_day T) (hr.mono (by decide)) (by rfl) T.g_for_day T.k_for_day T.b_for_day .nil passL (pa_cons (pv 0) (pa_cons (pv 5) (pa_cons (pv 6) (pa_cons (pv 2) (pa_nil)))))) (pa_nil))))))  (pss_one (ps_ret (pv 3)))))
theorem ok_least (T : Txt K mg A) : FnOk P w K mg base (L2.CX P w) 5 T.a_least T.d_least ["tariff", "days"] (sp_least K A) := by
  refine T.F_least.okX sc_least (by unfold sp_least; walk_at "len") (fun cdv B outer s H vs Q E hr h => ⟨t_least K A w E, ?_, rd_least T.okT h⟩)
  unfold t_least t_least_s1 t_least_s2 t_least_s3 t_least_s4 t_least_s5 t_least_b1 t_least_b1_s1
  exact pss_cons (ps_for (passes_of rfl) rfl (pi_list (pv 1)) (pg_name (i := 2) sc_least.nd rfl (by first | exact Or.inl rfl | exact Or.inr rfl)) (pss_one (ps_for (passes_of rfl) rfl (pi_list (pv 2)) (pg_name (i := 3) sc_least.nd rfl (by first | exact Or.inl rfl | exact Or.inr rfl)) (pss_one (ps_expr (pe_call (ok_need_zones T) (hr.mono (by decide)) (by rfl) T.g_need_zones T.k_need_zones T.b_need_zones .nil (passes_call (takes_of rfl rfl rfl rfl) (fun _ _ _ _ h => h)) (pa_cons (pv 3) (pa_nil))))))))  (pss_cons (ps_set (i := 4) sc_least.nd rfl (by first | exact Or.inl rfl | exact Or.inr rfl) (pe_lst pa_nil))  (pss_cons (ps_for (passes_of rfl) rfl (pi_list (pv 1)) (pg_name (i := 2) sc_least.nd rfl (by first | exact Or.inl rfl | exact Or.inr rfl)) (pss_one (ps_expr (pe_bm PySem.F.plainAttrs_list PySem.F.slot_list_extend PySem.F.type_list_extend mt_extend (pv 4) (pa_cons (pv 2) (pa_nil))))))  (pss_cons (ps_set (i := 5) sc_least.nd rfl (by first | exact Or.inl rfl | exact Or.inr rfl) (pe_non))  (pss_cons (ps_for (passes_of rfl) rfl (pi_list (pe_op op_cat (pe_lst (pa_cons (pe_int) (pa_nil))) (pe_callB (cr_sortedSet rfl) (by rfl) T.z_sorted (by decide +kernel) (pa_cons (pe_callTy (cr_setI rfl) (by rfl) T.z_set (by decide +kernel) (pa_cons (pv 4) (pa_nil))) (pa_nil))))) (pg_name (i := 6) sc_least.nd rfl (by first | exact Or.inl rfl | exact Or.inr rfl)) (pss_cons (ps_set (i := 7) sc_least.nd rfl (by first | exact Or.inl rfl | exact Or.inr rfl) (pe_call (ok_for_week T) (hr.mono (by decide)) (by rfl) T.g_for_week T.k_for_week T.b_for_week .nil passL (pa_cons (pv 0) (pa_cons (pv 1) (pa_cons (pv 6) (pa_nil))))))  (pss_one (ps_if (PW.pt (pw_or (pt_cmpR op_isN (pv 5) (pe_non) (nomark _)) (pw_or1 (pt_cmpR op_lt (pe_call (ok_cost_of T) (hr.mono (by decide)) (by rfl) T.g_cost_of T.k_cost_of T.b_cost_of .nil passL (pa_cons (pv 7) (pa_nil))) (pe_call (ok_cost_of T) (hr.mono (by decide)) (by rfl) T.g_cost_of T.k_cost_of T.b_cost_of .nil passL (pa_cons (pv 5) (pa_nil))) (nomark _))))) (pss_one (ps_set (i := 5) sc_least.nd rfl (by first | exact Or.inl rfl | exact Or.inr rfl) (pv 7))) (pss_nil)))))  (pss_one (ps_ret (pe_tup (pa_cons (pe_call (ok_cost_of T) (hr.mono (by decide)) (by rfl) T.g_cost_of T.k_cost_of T.b_cost_of .nil passL (pa_cons (pv 5) (pa_nil))) (pa_cons (pv 5) (pa_nil))))))))))
theorem ok_l_cell_at (T : Txt K mg A) : FnOk P w K mg base (L2.CX P w) 1 T.a_l_cell_at T.d_l_cell_at ["_law_script", "_law_k"] (sp_l_cell_at K A) := by
  refine T.F_l_cell_at.okX sc_l_cell_at (by unfold sp_l_cell_at; walk_at "len") (fun cdv B outer s H vs Q E hr h => ⟨t_l_cell_at K A E, ?_, rd_l_cell_at h⟩)
  exact pss_cons (ps_if (pt_cmpR op_lt (pv 1) (pe_callB call_len_seq (by rfl) T.z_len (by decide +kernel) (pa_cons (pv 0) (pa_nil))) (nomark _)) (pss_one (ps_ret (pe_ix ix_list (pv 0) (pv 1) (fun _ _ => rfl)))) (pss_nil))  (pss_one (ps_ret (pe_int)))
theorem ok_l_whole (T : Txt K mg A) : FnOk P w K mg base (L2.CX P w) 1 T.a_l_whole T.d_l_whole ["_law_found"] (sp_l_whole K A) := by
  refine T.F_l_whole.okX sc_l_whole (by unfold sp_l_whole; walk_at "len") (fun cdv B outer s H vs Q E hr h => ⟨t_l_whole K A E, ?_, rd_l_whole h⟩)
  exact pss_one (ps_ret (pe_and (pe_callB call_isH (by rfl) T.z_isinstance (by decide +kernel) (pa_cons (pv 0) (pa_cons (pe_bltn (v := .ty "int") (by rfl) T.z_int (by decide +kernel) rfl) (pa_nil)))) (pe_one (pe_not (pe_callB call_isH (by rfl) T.z_isinstance (by decide +kernel) (pa_cons (pv 0) (pa_cons (pe_bltn (v := .ty "bool") (by rfl) T.z_bool (by decide +kernel) rfl) (pa_nil))))))))
theorem ok_l_rows (T : Txt K mg A) : FnOk P w K mg base (L2.CX P w) 2 T.a_l_rows T.d_l_rows ["_law_script"] (sp_l_rows K A) := by
  refine T.F_l_rows.okX sc_l_rows (by unfold sp_l_rows; walk_at "len") (fun cdv B outer s H vs Q E hr h => ⟨t_l_rows K A E, ?_, rd_l_rows h⟩)
  exact pss_cons (ps_set (i := 1) sc_l_rows.nd rfl (by first | exact Or.inl rfl | exact Or.inr rfl) (pe_ix ix_list (pe_lst (pa_cons (pe_int) (pa_cons (pe_int) (pa_cons (pe_op op_pow (pe_int) (pe_int)) (pa_nil))))) (pe_op op_mod (pe_op op_fdiv (pe_call (ok_l_cell_at T) (hr.mono (by decide)) (by rfl) T.g_l_cell_at T.k_l_cell_at T.b_l_cell_at .nil passL (pa_cons (pv 0) (pa_cons (pe_int) (pa_nil)))) (pe_int)) (pe_int)) (fun _ _ => rfl)))  (pss_cons (ps_set (i := 2) sc_l_rows.nd rfl (by first | exact Or.inl rfl | exact Or.inr rfl) (pe_lst pa_nil))  (pss_cons (ps_for (passes_of rfl) rfl (pi_range1 (by rfl) T.z_range (pa_cons (pe_int) (pa_nil))) (pg_name (i := 3) sc_l_rows.nd rfl (by first | exact Or.inl rfl | exact Or.inr rfl)) (pss_one (ps_expr (pe_bm PySem.F.plainAttrs_list PySem.F.slot_list_append PySem.F.type_list_append mt_append (pv 2) (pa_cons (pe_lc (own := [("_law_k", 4)]) rfl sc_l_rows.nd (pi_range1 (by rfl) T.z_range (pa_cons (pe_int) (pa_nil))) (blkOk_by (N := N_l_rows) (sc := defScope s_l_rows) (by decide +kernel)) (fun _ _ _ _ _ => pg_name (i := 4) sc_l_rows.nd rfl (by first | exact Or.inl rfl | exact Or.inr rfl)) (fun _ _ _ _ _ => pts_nil) (fun _ _ _ _ _ => pe_op op_mod (pe_call (ok_l_cell_at T) (hr.mono (by decide)) (by rfl) T.g_l_cell_at T.k_l_cell_at T.b_l_cell_at .nil passL (pa_cons (pv 0) (pa_cons (pe_op op_add (pe_op op_add (pe_int) (pe_op op_mul (pe_int) (pv 3))) (pv 4)) (pa_nil)))) (pv 1))) (pa_nil))))))  (pss_one (ps_ret (pv 2)))))
theorem ok_l_days (T : Txt K mg A) : FnOk P w K mg base (L2.CX P w) 2 T.a_l_days T.d_l_days ["_law_script"] (sp_l_days K A) := by
  refine T.F_l_days.okX sc_l_days (by unfold sp_l_days; walk_at "len") (fun cdv B outer s H vs Q E hr h => ⟨t_l_days K A E, ?_, rd_l_days h⟩)
  exact pss_cons (ps_set (i := 1) sc_l_days.nd rfl (by first | exact Or.inl rfl | exact Or.inr rfl) (pe_ix ix_list (pe_lst (pa_cons (pe_int) (pa_cons (pe_int) (pa_cons (pe_int) (pa_cons (pe_int) (pa_cons (pe_int) (pa_cons (pe_int) (pa_cons (pe_int) (pa_cons (pe_int) (pa_cons (pe_int) (pa_cons (pe_int) (pa_cons (pe_int) (pa_cons (pe_int) (pa_cons (pe_int) (pa_cons (pe_int) (pa_cons (pe_int) (pa_cons (pe_int) (pa_nil)))))))))))))))))) (pe_op op_mod (pe_call (ok_l_cell_at T) (hr.mono (by decide)) (by rfl) T.g_l_cell_at T.k_l_cell_at T.b_l_cell_at .nil passL (pa_cons (pv 0) (pa_cons (pe_int) (pa_nil)))) (pe_int)) (fun _ _ => rfl)))  (pss_cons (ps_setLc (i := 2) (own := [("_law_k", 5)]) rfl sc_l_days.nd rfl rfl (sw_true rfl rfl rfl (by decide +kernel)) (pi_range1 (by rfl) T.z_range (pa_cons (pv 1) (pa_nil))) (blkOk_by (N := N_l_days) (sc := defScope s_l_days) (by decide +kernel)) (fun _ _ _ _ _ => pg_name (i := 5) sc_l_days.nd rfl (by first | exact Or.inl rfl | exact Or.inr rfl)) (fun _ _ _ _ _ => pts_nil) (fun _ _ _ _ _ => pe_lst pa_nil))  (pss_cons (ps_if (pt_cmpR op_gt (pv 1) (pe_int) (nomark _)) (pss_cons (ps_for (passes_of rfl) rfl (pi_list (pe_slice sl_list (pv 0) (po_some (pe_int)) (po_some (pe_op op_add (pe_int) (pe_ix ix_list (pe_lst (pa_cons (pe_int) (pa_cons (pe_int) (pa_cons (pe_int) (pa_cons (pe_int) (pa_cons (pe_int) (pa_nil))))))) (pe_op op_mod (pe_call (ok_l_cell_at T) (hr.mono (by decide)) (by rfl) T.g_l_cell_at T.k_l_cell_at T.b_l_cell_at .nil passL (pa_cons (pv 0) (pa_cons (pe_int) (pa_nil)))) (pe_int)) (fun _ _ => rfl)))))) (pg_name (i := 3) sc_l_days.nd rfl (by first | exact Or.inl rfl | exact Or.inr rfl)) (pss_one (ps_expr (pe_bm PySem.F.plainAttrs_list PySem.F.slot_list_append PySem.F.type_list_append mt_append (pe_ix ix_list (pv 2) (pe_op op_mod (pe_op op_mod (pv 3) (pe_int)) (pv 1)) (fun _ _ => rfl)) (pa_cons (pe_op op_add (pe_int) (pe_op op_mod (pe_op op_fdiv (pv 3) (pe_int)) (pe_int))) (pa_nil))))))  (pss_one (ps_if (pt_cmpR op_eq (pe_op op_mod (pe_op op_fdiv (pe_call (ok_l_cell_at T) (hr.mono (by decide)) (by rfl) T.g_l_cell_at T.k_l_cell_at T.b_l_cell_at .nil passL (pa_cons (pv 0) (pa_cons (pe_int) (pa_nil)))) (pe_int)) (pe_int)) (pe_int) (nomark _)) (pss_cons (ps_set (i := 4) sc_l_days.nd rfl (by first | exact Or.inl rfl | exact Or.inr rfl) (pe_call (ok_l_cell_at T) (hr.mono (by decide)) (by rfl) T.g_l_cell_at T.k_l_cell_at T.b_l_cell_at .nil passL (pa_cons (pv 0) (pa_cons (pe_int) (pa_nil)))))  (pss_one (ps_for (passes_of rfl) rfl (pi_range1 (by rfl) T.z_range (pa_cons (pe_int) (pa_nil))) (pg_name (i := 5) sc_l_days.nd rfl (by first | exact Or.inl rfl | exact Or.inr rfl)) (pss_cons (ps_expr (pe_bm PySem.F.plainAttrs_list PySem.F.slot_list_append PySem.F.type_list_append mt_append (pe_ix ix_list (pv 2) (pe_int) (fun _ _ => rfl)) (pa_cons (pe_op op_add (pe_int) (pe_op op_mod (pe_op op_add (pv 4) (pv 5)) (pe_int))) (pa_nil))))  (pss_one (ps_set (i := 4) sc_l_days.nd rfl (by first | exact Or.inl rfl | exact Or.inr rfl) (pe_op op_fdiv (pv 4) (pe_int)))))))) (pss_nil)))) (pss_nil))  (pss_one (ps_ret (pv 2)))))
theorem ok_l_shaped (T : Txt K mg A) : FnOk P w K mg base (L2.CX P w) 2 T.a_l_shaped T.d_l_shaped ["_law_ticket", "_law_rows_here", "_law_days_here"] (sp_l_shaped K A) := by
  refine T.F_l_shaped.okX sc_l_shaped (by unfold sp_l_shaped; walk_at "len") (fun cdv B outer s H vs Q E hr h => ⟨t_l_shaped K A E, ?_, rd_l_shaped h⟩)
  unfold t_l_shaped t_l_shaped_s1 t_l_shaped_s2 t_l_shaped_s3 t_l_shaped_s4 t_l_shaped_s5 t_l_shaped_s6
  exact pss_cons (ps_if (PW.pt (pw_or (pt_not (pt_val (pe_callB call_isH (by rfl) T.z_isinstance (by decide +kernel) (pa_cons (pv 0) (pa_cons (pe_bltn (v := .ty "tuple") (by rfl) T.z_tuple (by decide +kernel) rfl) (pa_nil)))))) (pw_or (pt_cmpR op_lt (pe_callB call_len_seq (by rfl) T.z_len (by decide +kernel) (pa_cons (pv 0) (pa_nil))) (pe_int) (nomark _)) (pw_or1 (pt_cmpR op_gt (pe_callB call_len_seq (by rfl) T.z_len (by decide +kernel) (pa_cons (pv 0) (pa_nil))) (pe_int) (nomark _)))))) (pss_one (ps_ret (pe_bl))) (pss_nil))  (pss_cons (ps_for (passes_of rfl) rfl (pi_tup (pe_slice sl_tup (pv 0) (po_some (pe_int)) (po_none))) (pg_name (i := 3) sc_l_shaped.nd rfl (by first | exact Or.inl rfl | exact Or.inr rfl)) (pss_one (ps_if (PW.pt (pw_or (pt_not (pt_val (pe_call (ok_l_whole T) (hr.mono (by decide)) (by rfl) T.g_l_whole T.k_l_whole T.b_l_whole .nil passL (pa_cons (pv 3) (pa_nil))))) (pw_or1 (pt_cmpR op_lt (pv 3) (pe_int) (nomark _))))) (pss_one (ps_ret (pe_bl))) (pss_nil))))  (pss_cons (ps_set (i := 4) sc_l_shaped.nd rfl (by first | exact Or.inl rfl | exact Or.inr rfl) (pe_op op_sub (pe_int) (pe_callB call_len_seq (by rfl) T.z_len (by decide +kernel) (pa_cons (pv 0) (pa_nil)))))  (pss_cons (ps_if (PW.pt (pw_or (pt_cmpR op_ne (pe_ix ix_tup (pv 0) (pe_int) (fun _ _ => rfl)) (pe_ix ix_list (pe_lst (pa_cons (pe_str) (pa_cons (pe_str) (pa_cons (pe_str) (pa_nil))))) (pv 4) (fun _ _ => rfl)) (nomark _)) (pw_or (pt_cmpR op_lt (pe_ix ix_tup (pv 0) (pe_un un_neg (pe_int)) (fun _ _ => rfl)) (pe_int) (nomark _)) (pw_or1 (pt_cmpR op_gt (pe_ix ix_tup (pv 0) (pe_un un_neg (pe_int)) (fun _ _ => rfl)) (pe_int) (nomark _)))))) (pss_one (ps_ret (pe_bl))) (pss_nil))  (pss_cons (ps_if (pt_cmpR op_ne (pe_ix ix_tup (pv 0) (pe_un un_neg (pe_int)) (fun _ _ => rfl)) (pe_ix ix_list (pe_ix ix_list (pv 1) (pv 4) (fun _ _ => rfl)) (pe_op op_sub (pe_ix ix_tup (pv 0) (pe_un un_neg (pe_int)) (fun _ _ => rfl)) (pe_int)) (fun _ _ => rfl)) (nomark _)) (pss_one (ps_ret (pe_bl))) (pss_nil))  (pss_cons (ps_if (PW.pt (pw_and (pt_cmpR op_lt (pv 4) (pe_int) (nomark _)) (pw_and1 (pt_cmpR op_ge (pe_ix ix_tup (pv 0) (pe_int) (fun _ _ => rfl)) (pe_callB call_len_seq (by rfl) T.z_len (by decide +kernel) (pa_cons (pv 2) (pa_nil))) (nomark _))))) (pss_one (ps_ret (pe_bl))) (pss_nil))  (pss_one (ps_ret (pe_or (pe_cmpR op_gt (pv 4) (pe_int) (nomark _)) (pe_one (pe_cmpR op_lt (pe_ix ix_tup (pv 0) (pe_int) (fun _ _ => rfl)) (pe_callB call_len_seq (by rfl) T.z_len (by decide +kernel) (pa_cons (pe_ix ix_list (pv 2) (pe_ix ix_tup (pv 0) (pe_int) (fun _ _ => rfl)) (fun _ _ => rfl)) (pa_nil))) (nomark _)))))))))))
theorem ok_l_serves (T : Txt K mg A) : FnOk P w K mg base (L2.CX P w) 1 T.a_l_serves T.d_l_serves ["_law_ticket", "_law_day", "_law_ride", "_law_zones"] (sp_l_serves K A) := by
  refine T.F_l_serves.okX sc_l_serves (by unfold sp_l_serves; walk_at "len") (fun cdv B outer s H vs Q E hr h => ⟨t_l_serves K A E, ?_, rd_l_serves h⟩)
  exact pss_cons (ps_if (pt_cmpR op_lt (pe_ix ix_tup (pv 0) (pe_un un_neg (pe_int)) (fun _ _ => rfl)) (pv 3) (nomark _)) (pss_one (ps_ret (pe_bl))) (pss_nil))  (pss_cons (ps_if (pt_cmpR op_eq (pe_ix ix_tup (pv 0) (pe_int) (fun _ _ => rfl)) (pe_str) (nomark _)) (pss_one (ps_ret (pe_bl))) (pss_nil))  (pss_one (ps_ret (pe_and (pe_cmpR op_eq (pe_ix ix_tup (pv 0) (pe_int) (fun _ _ => rfl)) (pv 1) (nomark _)) (pe_one (pe_or (pe_cmpR op_eq (pe_ix ix_tup (pv 0) (pe_int) (fun _ _ => rfl)) (pe_str) (nomark _)) (pe_one (pe_cmpR op_eq (pe_ix ix_tup (pv 0) (pe_int) (fun _ _ => rfl)) (pv 2) (nomark _)))))))))
theorem ok_l_served (T : Txt K mg A) : FnOk P w K mg base (L2.CX P w) 2 T.a_l_served T.d_l_served ["_law_tickets", "_law_day", "_law_ride", "_law_zones"] (sp_l_served K A) := by
  refine T.F_l_served.okX sc_l_served (by unfold sp_l_served; walk_at "len") (fun cdv B outer s H vs Q E hr h => ⟨t_l_served K A E, ?_, rd_l_served h⟩)
  exact pss_cons (ps_for (passes_of rfl) rfl (pi_list (pv 0)) (pg_name (i := 4) sc_l_served.nd rfl (by first | exact Or.inl rfl | exact Or.inr rfl)) (pss_one (ps_if (pt_val (pe_call (ok_l_serves T) (hr.mono (by decide)) (by rfl) T.g_l_serves T.k_l_serves T.b_l_serves .nil passL (pa_cons (pv 4) (pa_cons (pv 1) (pa_cons (pv 2) (pa_cons (pv 3) (pa_nil))))))) (pss_one (ps_ret (pe_bl))) (pss_nil))))  (pss_one (ps_ret (pe_bl)))
theorem ok_l_good (T : Txt K mg A) : FnOk P w K mg base (L2.CX P w) 3 T.a_l_good T.d_l_good ["_law_found", "_law_rows_here", "_law_days_here"] (sp_l_good K A) := by
  refine T.F_l_good.okX sc_l_good (by unfold sp_l_good; walk_at "len") (fun cdv B outer s H vs Q E hr h => ⟨t_l_good K A E, ?_, rd_l_good h⟩)
  unfold t_l_good t_l_good_s1 t_l_good_s2 t_l_good_s3 t_l_good_s4 t_l_good_s5 t_l_good_b1 t_l_good_b1_s1
  exact pss_cons (ps_if (PW.pt (pw_or (pt_not (pt_val (pe_callB call_isH (by rfl) T.z_isinstance (by decide +kernel) (pa_cons (pv 0) (pa_cons (pe_bltn (v := .ty "tuple") (by rfl) T.z_tuple (by decide +kernel) rfl) (pa_nil)))))) (pw_or1 (pt_cmpR op_ne (pe_callB call_len_seq (by rfl) T.z_len (by decide +kernel) (pa_cons (pv 0) (pa_nil))) (pe_int) (nomark _))))) (pss_one (ps_ret (pe_bl))) (pss_nil))  (pss_cons (ps_if (PW.pt (pw_or (pt_not (pt_val (pe_call (ok_l_whole T) (hr.mono (by decide)) (by rfl) T.g_l_whole T.k_l_whole T.b_l_whole .nil passL (pa_cons (pe_ix ix_tup (pv 0) (pe_int) (fun _ _ => rfl)) (pa_nil))))) (pw_or1 (pt_not (pt_val (pe_callB call_isH (by rfl) T.z_isinstance (by decide +kernel) (pa_cons (pe_ix ix_tup (pv 0) (pe_int) (fun _ _ => rfl)) (pa_cons (pe_bltn (v := .ty "list") (by rfl) T.z_list (by decide +kernel) rfl) (pa_nil))))))))) (pss_one (ps_ret (pe_bl))) (pss_nil))  (pss_cons (ps_set (i := 3) sc_l_good.nd rfl (by first | exact Or.inl rfl | exact Or.inr rfl) (pe_int))  (pss_cons (ps_for (passes_of rfl) rfl (pi_list (pe_ix ix_tup (pv 0) (pe_int) (fun _ _ => rfl))) (pg_name (i := 4) sc_l_good.nd rfl (by first | exact Or.inl rfl | exact Or.inr rfl)) (pss_cons (ps_if (pt_not (pt_val (pe_call (ok_l_shaped T) (hr.mono (by decide)) (by rfl) T.g_l_shaped T.k_l_shaped T.b_l_shaped .nil passL (pa_cons (pv 4) (pa_cons (pv 1) (pa_cons (pv 2) (pa_nil))))))) (pss_one (ps_ret (pe_bl))) (pss_nil))  (pss_one (ps_set (i := 3) sc_l_good.nd rfl (by first | exact Or.inl rfl | exact Or.inr rfl) (pe_op op_add (pv 3) (pe_ix ix_tup (pv 4) (pe_un un_neg (pe_int)) (fun _ _ => rfl)))))))  (pss_cons (ps_for (passes_of rfl) rfl (pi_range1 (by rfl) T.z_range (pa_cons (pe_callB call_len_seq (by rfl) T.z_len (by decide +kernel) (pa_cons (pv 2) (pa_nil))) (pa_nil))) (pg_name (i := 5) sc_l_good.nd rfl (by first | exact Or.inl rfl | exact Or.inr rfl)) (pss_one (ps_for (passes_of rfl) rfl (pi_range1 (by rfl) T.z_range (pa_cons (pe_callB call_len_seq (by rfl) T.z_len (by decide +kernel) (pa_cons (pe_ix ix_list (pv 2) (pv 5) (fun _ _ => rfl)) (pa_nil))) (pa_nil))) (pg_name (i := 6) sc_l_good.nd rfl (by first | exact Or.inl rfl | exact Or.inr rfl)) (pss_one (ps_if (pt_not (pt_val (pe_call (ok_l_served T) (hr.mono (by decide)) (by rfl) T.g_l_served T.k_l_served T.b_l_served .nil passL (pa_cons (pe_ix ix_tup (pv 0) (pe_int) (fun _ _ => rfl)) (pa_cons (pv 5) (pa_cons (pv 6) (pa_cons (pe_ix ix_list (pe_ix ix_list (pv 2) (pv 5) (fun _ _ => rfl)) (pv 6) (fun _ _ => rfl)) (pa_nil)))))))) (pss_one (ps_ret (pe_bl))) (pss_nil))))))  (pss_one (ps_ret (pe_cmpR op_eq (pv 3) (pe_ix ix_tup (pv 0) (pe_int) (fun _ _ => rfl)) (nomark _))))))))
theorem ok_l_refused (T : Txt K mg A) : FnOk P w K mg base (L2.CX P w) 6 T.a_l_refused T.d_l_refused ["_law_tariff", "_law_days_here", "_law_cell"] (sp_l_refused K A) := by
  refine T.F_l_refused.okX sc_l_refused (by unfold sp_l_refused; walk_at "len") (fun cdv B outer s H vs Q E hr h => ⟨t_l_refused K A E, ?_, rd_l_refused T.okT T.I_BadZones h⟩)
  unfold t_l_refused t_l_refused_s1 t_l_refused_s2 t_l_refused_s3 t_l_refused_s4 t_l_refused_s5
  exact pss_cons (ps_set (i := 3) sc_l_refused.nd rfl (by first | exact Or.inl rfl | exact Or.inr rfl) (pe_ix ix_list (pe_lst (pa_cons (pe_int) (pa_cons (pe_int) (pa_cons (pe_op op_sub (pe_un un_neg (pe_int)) (pe_op op_mod (pe_op op_fdiv (pv 2) (pe_int)) (pe_int))) (pa_cons (pe_op op_add (pe_int) (pe_op op_mod (pe_op op_fdiv (pv 2) (pe_int)) (pe_op op_pow (pe_int) (pe_int)))) (pa_nil)))))) (pe_op op_mod (pv 2) (pe_int)) (fun _ _ => rfl)))  (pss_cons (ps_set (i := 4) sc_l_refused.nd rfl (by first | exact Or.inl rfl | exact Or.inr rfl) (pe_op op_mod (pe_op op_fdiv (pv 2) (pe_int)) (pe_callB call_len_seq (by rfl) T.z_len (by decide +kernel) (pa_cons (pv 1) (pa_nil)))))  (pss_cons (ps_expr (pe_bm PySem.F.plainAttrs_list PySem.F.slot_list_insert PySem.F.type_list_insert mt_ins (pe_ix ix_list (pv 1) (pv 4) (fun _ _ => rfl)) (pa_cons (pe_op op_mod (pe_op op_fdiv (pv 2) (pe_int)) (pe_op op_add (pe_callB call_len_seq (by rfl) T.z_len (by decide +kernel) (pa_cons (pe_ix ix_list (pv 1) (pv 4) (fun _ _ => rfl)) (pa_nil))) (pe_int))) (pa_cons (pv 3) (pa_nil)))))  (pss_cons (ps_setLc (i := 5) (own := [("_law_row", 8)]) rfl sc_l_refused.nd rfl rfl (sw_true rfl rfl rfl (by decide +kernel)) (pi_list (pv 1)) (blkOk_by (N := N_l_refused) (sc := defScope s_l_refused) (by decide +kernel)) (fun _ _ _ _ _ => pg_name (i := 8) sc_l_refused.nd rfl (by first | exact Or.inl rfl | exact Or.inr rfl)) (fun _ _ _ _ _ => pts_nil) (fun _ _ _ _ _ => pe_callTy call_list_of (by rfl) T.z_list (by decide +kernel) (pa_cons (pv 8) (pa_nil))))  (pss_cons (ps_try_as (i := 6) (tb := fun W => tDrop (tCallS (sp_least K A) (WE W) (tCons (tVar 0) (tCons (tVar 5) (tNil))))) (ts := fun a cls d => tExc K cls d (fun C => tSeq (tAsg (tLst (tCons (tCB (rIsEH K C a) (tCons (tVar 6) (tCons (tC (.ref A.c_BadLink)) (tNil)))) (tCons (tCB (rIsEH K C a) (tCons (tVar 6) (tCons (tC (.ref A.c_BadStop)) (tNil)))) (tCons (tCB (rIsEH K C a) (tCons (tVar 6) (tCons (tC (.ref A.c_NoWay)) (tNil)))) (tCons (tCB (rIsEH K C a) (tCons (tVar 6) (tCons (tC (.ref A.c_BadPrices)) (tNil)))) (tNil)))))) (gName 7))  (tSeq (tIfS (tOr (tTest (tOp (rIn K false) (tC (.bl true)) (tVar 7))) (tOr (tB (tCB (rIsEH K C a) (tCons (tVar 6) (tCons (tC (.ref A.c_PastDay)) (tNil))))) (tNot (tB (tCB (rIsEH K C a) (tCons (tVar 6) (tCons (tC (.ty "ValueError")) (tNil)))))))) (tRet (tC (.bl false))) (tNext))  (tRet (tAndV (tCB (rIsEH K C a) (tCons (tVar 6) (tCons (tC (.ref A.c_BadZones)) (tNil)))) (tOp (rEqH K) (tVar 5) (tVar 1))))))) (Wout := fun _ _ _ _ => False) rfl rfl sc_l_refused.nd rfl rfl ⟨rfl, by decide, Or.inl T.g_FareError⟩ takes0 (fun W pn xe tk _ => pss_one (ps_expr (pe_callS (ok_least T) (hr.mono (by decide)) (by rfl) T.g_least T.k_least T.b_least (fun σ => passAt tk σ) (pa_cons (pv 0) (pa_cons (pv 5) (pa_nil)))))) (fun a oe cls d pn hz hf => pss_exc fun C e1 e2 hC => pss_cons (ps_set (i := 7) sc_l_refused.nd rfl (by first | exact Or.inl rfl | exact Or.inr rfl) (pe_lst (pa_cons (pe_callB (call_isEH hC e1 e2 hz hf) (by rfl) T.z_isinstance (by decide +kernel) (pa_cons (pv 6) (pa_cons (pe_glob (v := .ref A.c_BadLink) rfl T.g_BadLink rfl) (pa_nil)))) (pa_cons (pe_callB (call_isEH hC e1 e2 hz hf) (by rfl) T.z_isinstance (by decide +kernel) (pa_cons (pv 6) (pa_cons (pe_glob (v := .ref A.c_BadStop) rfl T.g_BadStop rfl) (pa_nil)))) (pa_cons (pe_callB (call_isEH hC e1 e2 hz hf) (by rfl) T.z_isinstance (by decide +kernel) (pa_cons (pv 6) (pa_cons (pe_glob (v := .ref A.c_NoWay) rfl T.g_NoWay rfl) (pa_nil)))) (pa_cons (pe_callB (call_isEH hC e1 e2 hz hf) (by rfl) T.z_isinstance (by decide +kernel) (pa_cons (pv 6) (pa_cons (pe_glob (v := .ref A.c_BadPrices) rfl T.g_BadPrices rfl) (pa_nil)))) (pa_nil)))))))  (pss_cons (ps_if (PW.pt (pw_or (pt_cmpR op_in_seq (pe_bl) (pv 7) (by rfl)) (pw_or (pt_val (pe_callB (call_isEH hC e1 e2 hz hf) (by rfl) T.z_isinstance (by decide +kernel) (pa_cons (pv 6) (pa_cons (pe_glob (v := .ref A.c_PastDay) rfl T.g_PastDay rfl) (pa_nil))))) (pw_or1 (pt_not (pt_val (pe_callB (call_isEH hC e1 e2 hz hf) (by rfl) T.z_isinstance (by decide +kernel) (pa_cons (pv 6) (pa_cons (pe_bltn (v := .ty "ValueError") (by rfl) T.z_ValueError (by decide +kernel) rfl) (pa_nil)))))))))) (pss_one (ps_ret (pe_bl))) (pss_nil))  (pss_one (ps_ret (pe_and (pe_callB (call_isEH hC e1 e2 hz hf) (by rfl) T.z_isinstance (by decide +kernel) (pa_cons (pv 6) (pa_cons (pe_glob (v := .ref A.c_BadZones) rfl T.g_BadZones rfl) (pa_nil)))) (pe_one (pe_cmpR (op_eqH (hr.units)) (pv 5) (pv 1) (nomark _)))))))))  (pss_one (ps_ret (pe_bl)))))))
theorem ok_law (T : Txt K mg A) : FnOk P w K mg base (L2.CX P w) 7 T.a_law T.d_law ["_law_script"] (sp_law K A) := by
  refine T.F_law.okX sc_law (by unfold sp_law; walk_at "len") (fun cdv B outer s H vs Q E hr h => ⟨t_law K A E, ?_, rd_law T.okT h⟩)
  unfold t_law t_law_s1 t_law_s2 t_law_s3 t_law_s4 t_law_s5 t_law_s6 t_law_s7 t_law_s8 t_law_s9 t_law_s10 t_law_s11
  exact pss_cons (ps_set (i := 1) sc_law.nd rfl (by first | exact Or.inl rfl | exact Or.inr rfl) (pe_call (ok_l_rows T) (hr.mono (by decide)) (by rfl) T.g_l_rows T.k_l_rows T.b_l_rows .nil passL (pa_cons (pv 0) (pa_nil))))  (pss_cons (ps_set (i := 2) sc_law.nd rfl (by first | exact Or.inl rfl | exact Or.inr rfl) (pe_call (ok_l_days T) (hr.mono (by decide)) (by rfl) T.g_l_days T.k_l_days T.b_l_days .nil passL (pa_cons (pv 0) (pa_nil))))  (pss_cons (ps_if (PW.pt (pw_and (pt_truth (pv 2) (by intro _; rfl)) (pw_and1 (pt_cmpR op_eq (pe_op op_mod (pe_call (ok_l_cell_at T) (hr.mono (by decide)) (by rfl) T.g_l_cell_at T.k_l_cell_at T.b_l_cell_at .nil passL (pa_cons (pv 0) (pa_cons (pe_int) (pa_nil)))) (pe_int)) (pe_int) (nomark _))))) (pss_one (ps_ret (pe_call (ok_l_refused T) (hr.mono (by decide)) (by rfl) T.g_l_refused T.k_l_refused T.b_l_refused .nil passL (pa_cons (pe_make T.M_Tariff (ok_Tariff_init T) (hr.mono (by decide)) (by rfl) T.g_Tariff T.b_Tariff_init .nil passL (pa_cons (pe_ix ix_list (pv 1) (pe_int) (fun _ _ => rfl)) (pa_cons (pe_ix ix_list (pv 1) (pe_int) (fun _ _ => rfl)) (pa_cons (pe_ix ix_list (pv 1) (pe_int) (fun _ _ => rfl)) (pa_nil))))) (pa_cons (pv 2) (pa_cons (pe_op op_fdiv (pe_call (ok_l_cell_at T) (hr.mono (by decide)) (by rfl) T.g_l_cell_at T.k_l_cell_at T.b_l_cell_at .nil passL (pa_cons (pv 0) (pa_cons (pe_int) (pa_nil)))) (pe_int)) (pa_nil))))))) (pss_nil))  (pss_cons (ps_setLc (i := 3) (own := [("_law_day", 7)]) rfl sc_law.nd rfl rfl (sw_true rfl rfl rfl (by decide +kernel)) (pi_list (pv 2)) (blkOk_by (N := N_law) (sc := defScope s_law) (by decide +kernel)) (fun _ _ _ _ _ => pg_name (i := 7) sc_law.nd rfl (by first | exact Or.inl rfl | exact Or.inr rfl)) (fun _ _ _ _ _ => pts_nil) (fun _ _ _ _ _ => pe_callTy call_list_of (by rfl) T.z_list (by decide +kernel) (pa_cons (pv 7) (pa_nil))))  (pss_cons (ps_set (i := 4) sc_law.nd rfl (by first | exact Or.inl rfl | exact Or.inr rfl) (pe_make T.M_Tariff (ok_Tariff_init T) (hr.mono (by decide)) (by rfl) T.g_Tariff T.b_Tariff_init .nil passL (pa_cons (pe_callTy call_list_of (by rfl) T.z_list (by decide +kernel) (pa_cons (pe_ix ix_list (pv 1) (pe_int) (fun _ _ => rfl)) (pa_nil))) (pa_cons (pe_callTy call_list_of (by rfl) T.z_list (by decide +kernel) (pa_cons (pe_ix ix_list (pv 1) (pe_int) (fun _ _ => rfl)) (pa_nil))) (pa_cons (pe_callTy call_list_of (by rfl) T.z_list (by decide +kernel) (pa_cons (pe_ix ix_list (pv 1) (pe_int) (fun _ _ => rfl)) (pa_nil))) (pa_nil))))))  (pss_cons (ps_set (i := 5) sc_law.nd rfl (by first | exact Or.inl rfl | exact Or.inr rfl) (pe_call (ok_least T) (hr.mono (by decide)) (by rfl) T.g_least T.k_least T.b_least .nil passL (pa_cons (pv 4) (pa_cons (pv 3) (pa_nil)))))  (pss_cons (ps_if (PW.pt (pw_or (pt_cmpR (op_neH (hr.units)) (pv 3) (pv 2) (nomark _)) (pw_or1 (pt_not (pt_val (pe_call (ok_l_good T) (hr.mono (by decide)) (by rfl) T.g_l_good T.k_l_good T.b_l_good .nil passL (pa_cons (pv 5) (pa_cons (pv 1) (pa_cons (pv 2) (pa_nil)))))))))) (pss_one (ps_ret (pe_bl))) (pss_nil))  (pss_cons (ps_if (pt_cmpR (op_neH (hr.units)) (pe_lst (pa_cons (pe_fld (pv 4) rfl) (pa_cons (pe_fld (pv 4) rfl) (pa_cons (pe_fld (pv 4) rfl) (pa_nil))))) (pv 1) (nomark _)) (pss_one (ps_ret (pe_bl))) (pss_nil))  (pss_cons (ps_set (i := 6) sc_law.nd rfl (by first | exact Or.inl rfl | exact Or.inr rfl) (pe_ix ix_tup (pv 5) (pe_int) (fun _ _ => rfl)))  (pss_cons (ps_expr (pe_bm0 PySem.F.plainAttrs_list PySem.F.slot_list_clear PySem.F.type_list_clear mt_clear (pe_ix ix_tup (pv 5) (pe_int) (fun _ _ => rfl))))  (pss_cons (ps_set (i := 5) sc_law.nd rfl (by first | exact Or.inl rfl | exact Or.inr rfl) (pe_call (ok_least T) (hr.mono (by decide)) (by rfl) T.g_least T.k_least T.b_least .nil passL (pa_cons (pv 4) (pa_cons (pv 3) (pa_nil)))))  (pss_one (ps_ret (pe_and (pe_call (ok_l_good T) (hr.mono (by decide)) (by rfl) T.g_l_good T.k_l_good T.b_l_good .nil passL (pa_cons (pv 5) (pa_cons (pv 1) (pa_cons (pv 2) (pa_nil))))) (pe_one (pe_cmpR op_eq (pe_ix ix_tup (pv 5) (pe_int) (fun _ _ => rfl)) (pv 6) (nomark _))))))))))))))))
end
end FW

namespace FW
open PySem PySem.Spec PyProof.Rows L2
theorem all_mk {l : PySem.W.OpenLaw} {w : World} {K : PySem.W.Frag} {h : Heap} {mg : Str → Option Value} {fa : Addr} (X : K.In h) (G : h.Ns mainGlobals mg) (hfa : mg "law" = some (.ref fa))
  {C_FareError C_BadLink C_BadStop C_NoWay C_BadPrices C_BadZones C_PastDay C_Tariff f_need_zones f_cheapest f_Tariff_init f_Tariff_single f_Tariff_day f_Tariff_week f_cost_of f_for_day f_for_week f_least f_l_cell_at f_l_whole f_l_rows f_l_days f_l_shaped f_l_serves f_l_served f_l_good f_l_refused f_law : Addr} {od_need_zones an_need_zones od_cheapest an_cheapest od_Tariff_init an_Tariff_init od_Tariff_single an_Tariff_single od_Tariff_day an_Tariff_day od_Tariff_week an_Tariff_week od_cost_of an_cost_of od_for_day an_for_day od_for_week an_for_week od_least an_least od_l_cell_at an_l_cell_at od_l_whole an_l_whole od_l_rows an_l_rows od_l_days an_l_days od_l_shaped an_l_shaped od_l_serves an_l_serves od_l_served an_l_served od_l_good an_l_good od_l_refused an_l_refused od_law an_law : Option Addr} {sl_need_zones sl_cheapest sl_Tariff_init sl_Tariff_single sl_Tariff_day sl_Tariff_week sl_cost_of sl_for_day sl_for_week sl_least sl_l_cell_at sl_l_whole sl_l_rows sl_l_days sl_l_shaped sl_l_serves sl_l_served sl_l_good sl_l_refused sl_law : Array (Option Value)} {oc_need_zones kV_need_zones dc_need_zones pm_need_zones cd_need_zones ct_need_zones oc_cheapest kV_cheapest dc_cheapest pm_cheapest cd_cheapest ct_cheapest oc_Tariff_init kV_Tariff_init dc_Tariff_init pm_Tariff_init cd_Tariff_init ct_Tariff_init oc_Tariff_single kV_Tariff_single dc_Tariff_single pm_Tariff_single cd_Tariff_single ct_Tariff_single oc_Tariff_day kV_Tariff_day dc_Tariff_day pm_Tariff_day cd_Tariff_day ct_Tariff_day oc_Tariff_week kV_Tariff_week dc_Tariff_week pm_Tariff_week cd_Tariff_week ct_Tariff_week oc_cost_of kV_cost_of dc_cost_of pm_cost_of cd_cost_of ct_cost_of oc_for_day kV_for_day dc_for_day pm_for_day cd_for_day ct_for_day oc_for_week kV_for_week dc_for_week pm_for_week cd_for_week ct_for_week oc_least kV_least dc_least pm_least cd_least ct_least oc_l_cell_at kV_l_cell_at dc_l_cell_at pm_l_cell_at cd_l_cell_at ct_l_cell_at oc_l_whole kV_l_whole dc_l_whole pm_l_whole cd_l_whole ct_l_whole oc_l_rows kV_l_rows dc_l_rows pm_l_rows cd_l_rows ct_l_rows oc_l_days kV_l_days dc_l_days pm_l_days cd_l_days ct_l_days oc_l_shaped kV_l_shaped dc_l_shaped pm_l_shaped cd_l_shaped ct_l_shaped oc_l_serves kV_l_serves dc_l_serves pm_l_serves cd_l_serves ct_l_serves oc_l_served kV_l_served dc_l_served pm_l_served cd_l_served ct_l_served oc_l_good kV_l_good dc_l_good pm_l_good cd_l_good ct_l_good oc_l_refused kV_l_refused dc_l_refused pm_l_refused cd_l_refused ct_l_refused oc_law kV_law dc_law pm_law cd_law ct_law : Value} {tk_MOST_ZONES : Tok}
  (aE_FareError : PySem.W.nsIn K mainGlobals "FareError" = some (some (.ref C_FareError)))
  (xE_FareError : PySem.W.excIn K C_FareError [.type "ValueError", .type "Exception", .type "BaseException", .type "object"] "ValueError.__new__" = true)
  (kE_FareError : PySem.W.keepIn K (.ref C_FareError) = true)
  (yE_FareError : PySem.W.subIn K (.ref C_FareError) (.type "BaseException") = some true)
  (tE_FareError : PySem.W.typeIn K (.ref C_FareError) = some (.type "type"))
  (aE_BadLink : PySem.W.nsIn K mainGlobals "BadLink" = some (some (.ref C_BadLink)))
  (xE_BadLink : PySem.W.excIn K C_BadLink [.type "ValueError", .type "Exception", .type "BaseException", .type "object"] "ValueError.__new__" = true)
  (kE_BadLink : PySem.W.keepIn K (.ref C_BadLink) = true)
  (yE_BadLink : PySem.W.subIn K (.ref C_BadLink) (.type "BaseException") = some true)
  (tE_BadLink : PySem.W.typeIn K (.ref C_BadLink) = some (.type "type"))
  (aE_BadStop : PySem.W.nsIn K mainGlobals "BadStop" = some (some (.ref C_BadStop)))
  (xE_BadStop : PySem.W.excIn K C_BadStop [.type "ValueError", .type "Exception", .type "BaseException", .type "object"] "ValueError.__new__" = true)
  (kE_BadStop : PySem.W.keepIn K (.ref C_BadStop) = true)
  (yE_BadStop : PySem.W.subIn K (.ref C_BadStop) (.type "BaseException") = some true)
  (tE_BadStop : PySem.W.typeIn K (.ref C_BadStop) = some (.type "type"))
  (aE_NoWay : PySem.W.nsIn K mainGlobals "NoWay" = some (some (.ref C_NoWay)))
  (xE_NoWay : PySem.W.excIn K C_NoWay [.type "ValueError", .type "Exception", .type "BaseException", .type "object"] "ValueError.__new__" = true)
  (kE_NoWay : PySem.W.keepIn K (.ref C_NoWay) = true)
  (yE_NoWay : PySem.W.subIn K (.ref C_NoWay) (.type "BaseException") = some true)
  (tE_NoWay : PySem.W.typeIn K (.ref C_NoWay) = some (.type "type"))
  (aE_BadPrices : PySem.W.nsIn K mainGlobals "BadPrices" = some (some (.ref C_BadPrices)))
  (xE_BadPrices : PySem.W.excIn K C_BadPrices [.type "ValueError", .type "Exception", .type "BaseException", .type "object"] "ValueError.__new__" = true)
  (kE_BadPrices : PySem.W.keepIn K (.ref C_BadPrices) = true)
  (yE_BadPrices : PySem.W.subIn K (.ref C_BadPrices) (.type "BaseException") = some true)
  (tE_BadPrices : PySem.W.typeIn K (.ref C_BadPrices) = some (.type "type"))
  (aE_BadZones : PySem.W.nsIn K mainGlobals "BadZones" = some (some (.ref C_BadZones)))
  (xE_BadZones : PySem.W.excIn K C_BadZones [.type "ValueError", .type "Exception", .type "BaseException", .type "object"] "ValueError.__new__" = true)
  (kE_BadZones : PySem.W.keepIn K (.ref C_BadZones) = true)
  (yE_BadZones : PySem.W.subIn K (.ref C_BadZones) (.type "BaseException") = some true)
  (tE_BadZones : PySem.W.typeIn K (.ref C_BadZones) = some (.type "type"))
  (aE_PastDay : PySem.W.nsIn K mainGlobals "PastDay" = some (some (.ref C_PastDay)))
  (xE_PastDay : PySem.W.excIn K C_PastDay [.type "ValueError", .type "Exception", .type "BaseException", .type "object"] "ValueError.__new__" = true)
  (kE_PastDay : PySem.W.keepIn K (.ref C_PastDay) = true)
  (yE_PastDay : PySem.W.subIn K (.ref C_PastDay) (.type "BaseException") = some true)
  (tE_PastDay : PySem.W.typeIn K (.ref C_PastDay) = some (.type "type"))
  (cl_ha : PySem.W.specialIn K (.builtin "object.__class__") "__get__" = some (some (.builtin "getset_descriptor.__get__")))
  (cl_ht : PySem.W.takesIn K (.builtin "object.__class__") = some true)
  (hE_FareError : PySem.W.hasDictIn K C_FareError = true)
  (hE_BadLink : PySem.W.hasDictIn K C_BadLink = true)
  (hE_BadStop : PySem.W.hasDictIn K C_BadStop = true)
  (hE_NoWay : PySem.W.hasDictIn K C_NoWay = true)
  (hE_BadPrices : PySem.W.hasDictIn K C_BadPrices = true)
  (hE_BadZones : PySem.W.hasDictIn K C_BadZones = true)
  (hE_PastDay : PySem.W.hasDictIn K C_PastDay = true)
  (gg_BadZones : PySem.W.findIn K (.ref C_BadZones) "__getattribute__" = some (some (.builtin "BaseException.__getattribute__")))
  (gk_BadZones : PySem.W.findIn K (.ref C_BadZones) "__getattr__" = some none)
  (gc_BadZones : PySem.W.findIn K (.ref C_BadZones) "__class__" = some (some (.builtin "object.__class__")))
  (gm_BadZones : PySem.W.mroIn K C_BadZones (.type "object") = some true)
  (gv_BadZones : PySem.W.subIn K (.ref C_BadZones) (.type "ValueError") = some true)
  (sb_BadZones_BadLink : PySem.W.subIn K (.ref C_BadZones) (.ref C_BadLink) = some false)
  (sb_BadZones_BadStop : PySem.W.subIn K (.ref C_BadZones) (.ref C_BadStop) = some false)
  (sb_BadZones_NoWay : PySem.W.subIn K (.ref C_BadZones) (.ref C_NoWay) = some false)
  (sb_BadZones_BadPrices : PySem.W.subIn K (.ref C_BadZones) (.ref C_BadPrices) = some false)
  (sb_BadZones_BadZones : PySem.W.subIn K (.ref C_BadZones) (.ref C_BadZones) = some true)
  (sb_BadZones_PastDay : PySem.W.subIn K (.ref C_BadZones) (.ref C_PastDay) = some false)
  (sb_BadZones_FareError : PySem.W.subIn K (.ref C_BadZones) (.ref C_FareError) = some true)
  (aC_Tariff : PySem.W.nsIn K mainGlobals "Tariff" = some (some (.ref C_Tariff)))
  (pC_Tariff : PySem.W.plainGet K C_Tariff Str.empty = true)
  (dC_Tariff : PySem.W.hasDictIn K C_Tariff = true)
  (oC_Tariff : PySem.W.plainOver K C_Tariff = true)
  (sC_Tariff : PySem.W.findIn K (.ref C_Tariff) "__setattr__" = some (some (.builtin "object.__setattr__")))
  (mC_Tariff : PySem.W.makesIn K C_Tariff = true)
  (kC_Tariff : PySem.W.keepIn K (.ref C_Tariff) = true)
  (n_Tariff_days : PySem.W.findIn K (.ref C_Tariff) "days" = some none)
  (n_Tariff_singles : PySem.W.findIn K (.ref C_Tariff) "singles" = some none)
  (n_Tariff_weeks : PySem.W.findIn K (.ref C_Tariff) "weeks" = some none)
  (a_need_zones : PySem.W.nsIn K mainGlobals "need_zones" = some (some (.ref f_need_zones)))
  (l_need_zones : K.lookup f_need_zones = some ⟨oc_need_zones, od_need_zones, .func (PySem.W.fnOf "need_zones" "need_zones" (defArgs s_need_zones) (defBody s_need_zones) (defScope s_need_zones) .none kV_need_zones dc_need_zones pm_need_zones an_need_zones cd_need_zones ct_need_zones), sl_need_zones⟩)
  (c_need_zones : PySem.W.codeIn K cd_need_zones "need_zones" = true)
  (k_need_zones : PySem.W.keepIn K (.ref f_need_zones) = true)
  (a_cheapest : PySem.W.nsIn K mainGlobals "cheapest" = some (some (.ref f_cheapest)))
  (l_cheapest : K.lookup f_cheapest = some ⟨oc_cheapest, od_cheapest, .func (PySem.W.fnOf "cheapest" "cheapest" (defArgs s_cheapest) (defBody s_cheapest) (defScope s_cheapest) .none kV_cheapest dc_cheapest pm_cheapest an_cheapest cd_cheapest ct_cheapest), sl_cheapest⟩)
  (c_cheapest : PySem.W.codeIn K cd_cheapest "cheapest" = true)
  (k_cheapest : PySem.W.keepIn K (.ref f_cheapest) = true)
  (a_Tariff_init : PySem.W.findIn K (.ref C_Tariff) "__init__" = some (some (.ref f_Tariff_init)))
  (i_Tariff_init : PySem.W.isFn K (.ref f_Tariff_init) = true)
  (l_Tariff_init : K.lookup f_Tariff_init = some ⟨oc_Tariff_init, od_Tariff_init, .func (PySem.W.fnOf "__init__" "Tariff.__init__" (defArgs s_Tariff_init) (defBody s_Tariff_init) (defScope s_Tariff_init) .none kV_Tariff_init dc_Tariff_init pm_Tariff_init an_Tariff_init cd_Tariff_init ct_Tariff_init), sl_Tariff_init⟩)
  (c_Tariff_init : PySem.W.codeIn K cd_Tariff_init "Tariff.__init__" = true)
  (k_Tariff_init : PySem.W.keepIn K (.ref f_Tariff_init) = true)
  (a_Tariff_single : PySem.W.findIn K (.ref C_Tariff) "single" = some (some (.ref f_Tariff_single)))
  (i_Tariff_single : PySem.W.isFn K (.ref f_Tariff_single) = true)
  (l_Tariff_single : K.lookup f_Tariff_single = some ⟨oc_Tariff_single, od_Tariff_single, .func (PySem.W.fnOf "single" "Tariff.single" (defArgs s_Tariff_single) (defBody s_Tariff_single) (defScope s_Tariff_single) .none kV_Tariff_single dc_Tariff_single pm_Tariff_single an_Tariff_single cd_Tariff_single ct_Tariff_single), sl_Tariff_single⟩)
  (c_Tariff_single : PySem.W.codeIn K cd_Tariff_single "Tariff.single" = true)
  (k_Tariff_single : PySem.W.keepIn K (.ref f_Tariff_single) = true)
  (a_Tariff_day : PySem.W.findIn K (.ref C_Tariff) "day" = some (some (.ref f_Tariff_day)))
  (i_Tariff_day : PySem.W.isFn K (.ref f_Tariff_day) = true)
  (l_Tariff_day : K.lookup f_Tariff_day = some ⟨oc_Tariff_day, od_Tariff_day, .func (PySem.W.fnOf "day" "Tariff.day" (defArgs s_Tariff_day) (defBody s_Tariff_day) (defScope s_Tariff_day) .none kV_Tariff_day dc_Tariff_day pm_Tariff_day an_Tariff_day cd_Tariff_day ct_Tariff_day), sl_Tariff_day⟩)
  (c_Tariff_day : PySem.W.codeIn K cd_Tariff_day "Tariff.day" = true)
  (k_Tariff_day : PySem.W.keepIn K (.ref f_Tariff_day) = true)
  (a_Tariff_week : PySem.W.findIn K (.ref C_Tariff) "week" = some (some (.ref f_Tariff_week)))
  (i_Tariff_week : PySem.W.isFn K (.ref f_Tariff_week) = true)
  (l_Tariff_week : K.lookup f_Tariff_week = some ⟨oc_Tariff_week, od_Tariff_week, .func (PySem.W.fnOf "week" "Tariff.week" (defArgs s_Tariff_week) (defBody s_Tariff_week) (defScope s_Tariff_week) .none kV_Tariff_week dc_Tariff_week pm_Tariff_week an_Tariff_week cd_Tariff_week ct_Tariff_week), sl_Tariff_week⟩)
  (c_Tariff_week : PySem.W.codeIn K cd_Tariff_week "Tariff.week" = true)
  (k_Tariff_week : PySem.W.keepIn K (.ref f_Tariff_week) = true)
  (a_cost_of : PySem.W.nsIn K mainGlobals "cost_of" = some (some (.ref f_cost_of)))
  (l_cost_of : K.lookup f_cost_of = some ⟨oc_cost_of, od_cost_of, .func (PySem.W.fnOf "cost_of" "cost_of" (defArgs s_cost_of) (defBody s_cost_of) (defScope s_cost_of) .none kV_cost_of dc_cost_of pm_cost_of an_cost_of cd_cost_of ct_cost_of), sl_cost_of⟩)
  (c_cost_of : PySem.W.codeIn K cd_cost_of "cost_of" = true)
  (k_cost_of : PySem.W.keepIn K (.ref f_cost_of) = true)
  (a_for_day : PySem.W.nsIn K mainGlobals "for_day" = some (some (.ref f_for_day)))
  (l_for_day : K.lookup f_for_day = some ⟨oc_for_day, od_for_day, .func (PySem.W.fnOf "for_day" "for_day" (defArgs s_for_day) (defBody s_for_day) (defScope s_for_day) .none kV_for_day dc_for_day pm_for_day an_for_day cd_for_day ct_for_day), sl_for_day⟩)
  (c_for_day : PySem.W.codeIn K cd_for_day "for_day" = true)
  (k_for_day : PySem.W.keepIn K (.ref f_for_day) = true)
  (a_for_week : PySem.W.nsIn K mainGlobals "for_week" = some (some (.ref f_for_week)))
  (l_for_week : K.lookup f_for_week = some ⟨oc_for_week, od_for_week, .func (PySem.W.fnOf "for_week" "for_week" (defArgs s_for_week) (defBody s_for_week) (defScope s_for_week) .none kV_for_week dc_for_week pm_for_week an_for_week cd_for_week ct_for_week), sl_for_week⟩)
  (c_for_week : PySem.W.codeIn K cd_for_week "for_week" = true)
  (k_for_week : PySem.W.keepIn K (.ref f_for_week) = true)
  (a_least : PySem.W.nsIn K mainGlobals "least" = some (some (.ref f_least)))
  (l_least : K.lookup f_least = some ⟨oc_least, od_least, .func (PySem.W.fnOf "least" "least" (defArgs s_least) (defBody s_least) (defScope s_least) .none kV_least dc_least pm_least an_least cd_least ct_least), sl_least⟩)
  (c_least : PySem.W.codeIn K cd_least "least" = true)
  (k_least : PySem.W.keepIn K (.ref f_least) = true)
  (a_l_cell_at : PySem.W.nsIn K mainGlobals "_law_cell_at" = some (some (.ref f_l_cell_at)))
  (l_l_cell_at : K.lookup f_l_cell_at = some ⟨oc_l_cell_at, od_l_cell_at, .func (PySem.W.fnOf "_law_cell_at" "_law_cell_at" (defArgs s_l_cell_at) (defBody s_l_cell_at) (defScope s_l_cell_at) .none kV_l_cell_at dc_l_cell_at pm_l_cell_at an_l_cell_at cd_l_cell_at ct_l_cell_at), sl_l_cell_at⟩)
  (c_l_cell_at : PySem.W.codeIn K cd_l_cell_at "_law_cell_at" = true)
  (k_l_cell_at : PySem.W.keepIn K (.ref f_l_cell_at) = true)
  (a_l_whole : PySem.W.nsIn K mainGlobals "_law_whole" = some (some (.ref f_l_whole)))
  (l_l_whole : K.lookup f_l_whole = some ⟨oc_l_whole, od_l_whole, .func (PySem.W.fnOf "_law_whole" "_law_whole" (defArgs s_l_whole) (defBody s_l_whole) (defScope s_l_whole) .none kV_l_whole dc_l_whole pm_l_whole an_l_whole cd_l_whole ct_l_whole), sl_l_whole⟩)
  (c_l_whole : PySem.W.codeIn K cd_l_whole "_law_whole" = true)
  (k_l_whole : PySem.W.keepIn K (.ref f_l_whole) = true)
  (a_l_rows : PySem.W.nsIn K mainGlobals "_law_rows" = some (some (.ref f_l_rows)))
  (l_l_rows : K.lookup f_l_rows = some ⟨oc_l_rows, od_l_rows, .func (PySem.W.fnOf "_law_rows" "_law_rows" (defArgs s_l_rows) (defBody s_l_rows) (defScope s_l_rows) .none kV_l_rows dc_l_rows pm_l_rows an_l_rows cd_l_rows ct_l_rows), sl_l_rows⟩)
  (c_l_rows : PySem.W.codeIn K cd_l_rows "_law_rows" = true)
  (k_l_rows : PySem.W.keepIn K (.ref f_l_rows) = true)
  (a_l_days : PySem.W.nsIn K mainGlobals "_law_days" = some (some (.ref f_l_days)))
  (l_l_days : K.lookup f_l_days = some ⟨oc_l_days, od_l_days, .func (PySem.W.fnOf "_law_days" "_law_days" (defArgs s_l_days) (defBody s_l_days) (defScope s_l_days) .none kV_l_days dc_l_days pm_l_days an_l_days cd_l_days ct_l_days), sl_l_days⟩)
  (c_l_days : PySem.W.codeIn K cd_l_days "_law_days" = true)
  (k_l_days : PySem.W.keepIn K (.ref f_l_days) = true)
  (a_l_shaped : PySem.W.nsIn K mainGlobals "_law_shaped" = some (some (.ref f_l_shaped)))
  (l_l_shaped : K.lookup f_l_shaped = some ⟨oc_l_shaped, od_l_shaped, .func (PySem.W.fnOf "_law_shaped" "_law_shaped" (defArgs s_l_shaped) (defBody s_l_shaped) (defScope s_l_shaped) .none kV_l_shaped dc_l_shaped pm_l_shaped an_l_shaped cd_l_shaped ct_l_shaped), sl_l_shaped⟩)
  (c_l_shaped : PySem.W.codeIn K cd_l_shaped "_law_shaped" = true)
  (k_l_shaped : PySem.W.keepIn K (.ref f_l_shaped) = true)
  (a_l_serves : PySem.W.nsIn K mainGlobals "_law_serves" = some (some (.ref f_l_serves)))
  (l_l_serves : K.lookup f_l_serves = some ⟨oc_l_serves, od_l_serves, .func (PySem.W.fnOf "_law_serves" "_law_serves" (defArgs s_l_serves) (defBody s_l_serves) (defScope s_l_serves) .none kV_l_serves dc_l_serves pm_l_serves an_l_serves cd_l_serves ct_l_serves), sl_l_serves⟩)
  (c_l_serves : PySem.W.codeIn K cd_l_serves "_law_serves" = true)
  (k_l_serves : PySem.W.keepIn K (.ref f_l_serves) = true)
  (a_l_served : PySem.W.nsIn K mainGlobals "_law_served" = some (some (.ref f_l_served)))
  (l_l_served : K.lookup f_l_served = some ⟨oc_l_served, od_l_served, .func (PySem.W.fnOf "_law_served" "_law_served" (defArgs s_l_served) (defBody s_l_served) (defScope s_l_served) .none kV_l_served dc_l_served pm_l_served an_l_served cd_l_served ct_l_served), sl_l_served⟩)
  (c_l_served : PySem.W.codeIn K cd_l_served "_law_served" = true)
  (k_l_served : PySem.W.keepIn K (.ref f_l_served) = true)
  (a_l_good : PySem.W.nsIn K mainGlobals "_law_good" = some (some (.ref f_l_good)))
  (l_l_good : K.lookup f_l_good = some ⟨oc_l_good, od_l_good, .func (PySem.W.fnOf "_law_good" "_law_good" (defArgs s_l_good) (defBody s_l_good) (defScope s_l_good) .none kV_l_good dc_l_good pm_l_good an_l_good cd_l_good ct_l_good), sl_l_good⟩)
  (c_l_good : PySem.W.codeIn K cd_l_good "_law_good" = true)
  (k_l_good : PySem.W.keepIn K (.ref f_l_good) = true)
  (a_l_refused : PySem.W.nsIn K mainGlobals "_law_refused" = some (some (.ref f_l_refused)))
  (l_l_refused : K.lookup f_l_refused = some ⟨oc_l_refused, od_l_refused, .func (PySem.W.fnOf "_law_refused" "_law_refused" (defArgs s_l_refused) (defBody s_l_refused) (defScope s_l_refused) .none kV_l_refused dc_l_refused pm_l_refused an_l_refused cd_l_refused ct_l_refused), sl_l_refused⟩)
  (c_l_refused : PySem.W.codeIn K cd_l_refused "_law_refused" = true)
  (k_l_refused : PySem.W.keepIn K (.ref f_l_refused) = true)
  (a_law : PySem.W.nsIn K mainGlobals "law" = some (some (.ref f_law)))
  (l_law : K.lookup f_law = some ⟨oc_law, od_law, .func (PySem.W.fnOf "law" "law" (defArgs s_law) (defBody s_law) (defScope s_law) .none kV_law dc_law pm_law an_law cd_law ct_law), sl_law⟩)
  (c_law : PySem.W.codeIn K cd_law "law" = true)
  (k_law : PySem.W.keepIn K (.ref f_law) = true)
  (z_ValueError : PySem.W.nsIn K mainGlobals "ValueError" = some none)
  (z_bool : PySem.W.nsIn K mainGlobals "bool" = some none)
  (z_enumerate : PySem.W.nsIn K mainGlobals "enumerate" = some none)
  (z_int : PySem.W.nsIn K mainGlobals "int" = some none)
  (z_isinstance : PySem.W.nsIn K mainGlobals "isinstance" = some none)
  (z_len : PySem.W.nsIn K mainGlobals "len" = some none)
  (z_list : PySem.W.nsIn K mainGlobals "list" = some none)
  (z_max : PySem.W.nsIn K mainGlobals "max" = some none)
  (z_min : PySem.W.nsIn K mainGlobals "min" = some none)
  (z_range : PySem.W.nsIn K mainGlobals "range" = some none)
  (z_set : PySem.W.nsIn K mainGlobals "set" = some none)
  (z_sorted : PySem.W.nsIn K mainGlobals "sorted" = some none)
  (z_sum : PySem.W.nsIn K mainGlobals "sum" = some none)
  (z_tuple : PySem.W.nsIn K mainGlobals "tuple" = some none)
  (v_MOST_ZONES : PySem.W.nsIn K mainGlobals "MOST_ZONES" = some (some (.int 5 tk_MOST_ZONES))) :
  ∃ fd : FuncData, (∀ (s : Shared) (v : Value), BindsTo s fd ⟨[v], []⟩ [("_law_script", v)]) ∧ ∀ base : Heap, K.In base → base.Ns mainGlobals mg → FnOk l.prog w K mg base (L2.CX l.prog w) 7 fa fd ["_law_script"] (spLaw K) := by
  have e := hfa.symm.trans (PySem.W.mg_of X G a_law)
  cases e
  let A : Ad := { c_FareError := C_FareError, c_BadLink := C_BadLink, c_BadStop := C_BadStop, c_NoWay := C_NoWay, c_BadPrices := C_BadPrices, c_BadZones := C_BadZones, c_PastDay := C_PastDay, c_Tariff := C_Tariff, c_Web := fa, c_Ledger := fa }
  have F_need_zones := fun_mk (st := s_need_zones) l_need_zones c_need_zones k_need_zones
  have b_need_zones := F_need_zones.binds (ps := ["zones"]) fun _ _ _ _ _ _ us hl => match us, hl with | [_], _ => rfl
  have F_cheapest := fun_mk (st := s_cheapest) l_cheapest c_cheapest k_cheapest
  have b_cheapest := F_cheapest.binds (ps := ["row", "zones"]) fun _ _ _ _ _ _ us hl => match us, hl with | [_, _], _ => rfl
  have F_Tariff_init := fun_mk (st := s_Tariff_init) l_Tariff_init c_Tariff_init k_Tariff_init
  have b_Tariff_init := F_Tariff_init.binds (ps := ["self", "singles", "days", "weeks"]) fun _ _ _ _ _ _ us hl => match us, hl with | [_, _, _, _], _ => rfl
  have F_Tariff_single := fun_mk (st := s_Tariff_single) l_Tariff_single c_Tariff_single k_Tariff_single
  have b_Tariff_single := F_Tariff_single.binds (ps := ["self", "zones"]) fun _ _ _ _ _ _ us hl => match us, hl with | [_, _], _ => rfl
  have F_Tariff_day := fun_mk (st := s_Tariff_day) l_Tariff_day c_Tariff_day k_Tariff_day
  have b_Tariff_day := F_Tariff_day.binds (ps := ["self", "zones"]) fun _ _ _ _ _ _ us hl => match us, hl with | [_, _], _ => rfl
  have F_Tariff_week := fun_mk (st := s_Tariff_week) l_Tariff_week c_Tariff_week k_Tariff_week
  have b_Tariff_week := F_Tariff_week.binds (ps := ["self", "zones"]) fun _ _ _ _ _ _ us hl => match us, hl with | [_, _], _ => rfl
  have F_cost_of := fun_mk (st := s_cost_of) l_cost_of c_cost_of k_cost_of
  have b_cost_of := F_cost_of.binds (ps := ["tickets"]) fun _ _ _ _ _ _ us hl => match us, hl with | [_], _ => rfl
  have F_for_day := fun_mk (st := s_for_day) l_for_day c_for_day k_for_day
  have b_for_day := F_for_day.binds (ps := ["tariff", "day", "rides", "held"]) fun _ _ _ _ _ _ us hl => match us, hl with | [_, _, _, _], _ => rfl
  have F_for_week := fun_mk (st := s_for_week) l_for_week c_for_week k_for_week
  have b_for_week := F_for_week.binds (ps := ["tariff", "days", "held"]) fun _ _ _ _ _ _ us hl => match us, hl with | [_, _, _], _ => rfl
  have F_least := fun_mk (st := s_least) l_least c_least k_least
  have b_least := F_least.binds (ps := ["tariff", "days"]) fun _ _ _ _ _ _ us hl => match us, hl with | [_, _], _ => rfl
  have F_l_cell_at := fun_mk (st := s_l_cell_at) l_l_cell_at c_l_cell_at k_l_cell_at
  have b_l_cell_at := F_l_cell_at.binds (ps := ["_law_script", "_law_k"]) fun _ _ _ _ _ _ us hl => match us, hl with | [_, _], _ => rfl
  have F_l_whole := fun_mk (st := s_l_whole) l_l_whole c_l_whole k_l_whole
  have b_l_whole := F_l_whole.binds (ps := ["_law_found"]) fun _ _ _ _ _ _ us hl => match us, hl with | [_], _ => rfl
  have F_l_rows := fun_mk (st := s_l_rows) l_l_rows c_l_rows k_l_rows
  have b_l_rows := F_l_rows.binds (ps := ["_law_script"]) fun _ _ _ _ _ _ us hl => match us, hl with | [_], _ => rfl
  have F_l_days := fun_mk (st := s_l_days) l_l_days c_l_days k_l_days
  have b_l_days := F_l_days.binds (ps := ["_law_script"]) fun _ _ _ _ _ _ us hl => match us, hl with | [_], _ => rfl
  have F_l_shaped := fun_mk (st := s_l_shaped) l_l_shaped c_l_shaped k_l_shaped
  have b_l_shaped := F_l_shaped.binds (ps := ["_law_ticket", "_law_rows_here", "_law_days_here"]) fun _ _ _ _ _ _ us hl => match us, hl with | [_, _, _], _ => rfl
  have F_l_serves := fun_mk (st := s_l_serves) l_l_serves c_l_serves k_l_serves
  have b_l_serves := F_l_serves.binds (ps := ["_law_ticket", "_law_day", "_law_ride", "_law_zones"]) fun _ _ _ _ _ _ us hl => match us, hl with | [_, _, _, _], _ => rfl
  have F_l_served := fun_mk (st := s_l_served) l_l_served c_l_served k_l_served
  have b_l_served := F_l_served.binds (ps := ["_law_tickets", "_law_day", "_law_ride", "_law_zones"]) fun _ _ _ _ _ _ us hl => match us, hl with | [_, _, _, _], _ => rfl
  have F_l_good := fun_mk (st := s_l_good) l_l_good c_l_good k_l_good
  have b_l_good := F_l_good.binds (ps := ["_law_found", "_law_rows_here", "_law_days_here"]) fun _ _ _ _ _ _ us hl => match us, hl with | [_, _, _], _ => rfl
  have F_l_refused := fun_mk (st := s_l_refused) l_l_refused c_l_refused k_l_refused
  have b_l_refused := F_l_refused.binds (ps := ["_law_tariff", "_law_days_here", "_law_cell"]) fun _ _ _ _ _ _ us hl => match us, hl with | [_, _, _], _ => rfl
  have F_law := fun_mk (st := s_law) l_law c_law k_law
  have b_law := F_law.binds (ps := ["_law_script"]) fun _ _ _ _ _ _ us hl => match us, hl with | [_], _ => rfl
  let T : Txt K mg A := {
    a_need_zones := f_need_zones, d_need_zones := _, F_need_zones := F_need_zones, b_need_zones := b_need_zones,
    g_need_zones := PySem.W.mg_of X G a_need_zones, k_need_zones := k_need_zones,
    a_cheapest := f_cheapest, d_cheapest := _, F_cheapest := F_cheapest, b_cheapest := b_cheapest,
    g_cheapest := PySem.W.mg_of X G a_cheapest, k_cheapest := k_cheapest,
    a_Tariff_init := f_Tariff_init, d_Tariff_init := _, F_Tariff_init := F_Tariff_init, b_Tariff_init := b_Tariff_init,
    M_Tariff := ⟨mC_Tariff, a_Tariff_init, i_Tariff_init, kC_Tariff⟩,
    a_Tariff_single := f_Tariff_single, d_Tariff_single := _, F_Tariff_single := F_Tariff_single, b_Tariff_single := b_Tariff_single,
    h_Tariff_single := ⟨a_Tariff_single, i_Tariff_single, k_Tariff_single⟩,
    a_Tariff_day := f_Tariff_day, d_Tariff_day := _, F_Tariff_day := F_Tariff_day, b_Tariff_day := b_Tariff_day,
    h_Tariff_day := ⟨a_Tariff_day, i_Tariff_day, k_Tariff_day⟩,
    a_Tariff_week := f_Tariff_week, d_Tariff_week := _, F_Tariff_week := F_Tariff_week, b_Tariff_week := b_Tariff_week,
    h_Tariff_week := ⟨a_Tariff_week, i_Tariff_week, k_Tariff_week⟩,
    a_cost_of := f_cost_of, d_cost_of := _, F_cost_of := F_cost_of, b_cost_of := b_cost_of,
    g_cost_of := PySem.W.mg_of X G a_cost_of, k_cost_of := k_cost_of,
    a_for_day := f_for_day, d_for_day := _, F_for_day := F_for_day, b_for_day := b_for_day,
    g_for_day := PySem.W.mg_of X G a_for_day, k_for_day := k_for_day,
    a_for_week := f_for_week, d_for_week := _, F_for_week := F_for_week, b_for_week := b_for_week,
    g_for_week := PySem.W.mg_of X G a_for_week, k_for_week := k_for_week,
    a_least := f_least, d_least := _, F_least := F_least, b_least := b_least,
    g_least := PySem.W.mg_of X G a_least, k_least := k_least,
    a_l_cell_at := f_l_cell_at, d_l_cell_at := _, F_l_cell_at := F_l_cell_at, b_l_cell_at := b_l_cell_at,
    g_l_cell_at := PySem.W.mg_of X G a_l_cell_at, k_l_cell_at := k_l_cell_at,
    a_l_whole := f_l_whole, d_l_whole := _, F_l_whole := F_l_whole, b_l_whole := b_l_whole,
    g_l_whole := PySem.W.mg_of X G a_l_whole, k_l_whole := k_l_whole,
    a_l_rows := f_l_rows, d_l_rows := _, F_l_rows := F_l_rows, b_l_rows := b_l_rows,
    g_l_rows := PySem.W.mg_of X G a_l_rows, k_l_rows := k_l_rows,
    a_l_days := f_l_days, d_l_days := _, F_l_days := F_l_days, b_l_days := b_l_days,
    g_l_days := PySem.W.mg_of X G a_l_days, k_l_days := k_l_days,
    a_l_shaped := f_l_shaped, d_l_shaped := _, F_l_shaped := F_l_shaped, b_l_shaped := b_l_shaped,
    g_l_shaped := PySem.W.mg_of X G a_l_shaped, k_l_shaped := k_l_shaped,
    a_l_serves := f_l_serves, d_l_serves := _, F_l_serves := F_l_serves, b_l_serves := b_l_serves,
    g_l_serves := PySem.W.mg_of X G a_l_serves, k_l_serves := k_l_serves,
    a_l_served := f_l_served, d_l_served := _, F_l_served := F_l_served, b_l_served := b_l_served,
    g_l_served := PySem.W.mg_of X G a_l_served, k_l_served := k_l_served,
    a_l_good := f_l_good, d_l_good := _, F_l_good := F_l_good, b_l_good := b_l_good,
    g_l_good := PySem.W.mg_of X G a_l_good, k_l_good := k_l_good,
    a_l_refused := f_l_refused, d_l_refused := _, F_l_refused := F_l_refused, b_l_refused := b_l_refused,
    g_l_refused := PySem.W.mg_of X G a_l_refused, k_l_refused := k_l_refused,
    a_law := fa, d_law := _, F_law := F_law, b_law := b_law,
    g_law := PySem.W.mg_of X G a_law, k_law := k_law,
    L_Tariff := ⟨pC_Tariff, dC_Tariff, oC_Tariff, sC_Tariff⟩, g_Tariff := PySem.W.mg_of X G aC_Tariff,
    n_Tariff_days := n_Tariff_days,
    n_Tariff_singles := n_Tariff_singles,
    n_Tariff_weeks := n_Tariff_weeks,
    z_ValueError := PySem.W.mg_none_of X G z_ValueError,
    z_bool := PySem.W.mg_none_of X G z_bool,
    z_enumerate := PySem.W.mg_none_of X G z_enumerate,
    z_int := PySem.W.mg_none_of X G z_int,
    z_isinstance := PySem.W.mg_none_of X G z_isinstance,
    z_len := PySem.W.mg_none_of X G z_len,
    z_list := PySem.W.mg_none_of X G z_list,
    z_max := PySem.W.mg_none_of X G z_max,
    z_min := PySem.W.mg_none_of X G z_min,
    z_range := PySem.W.mg_none_of X G z_range,
    z_set := PySem.W.mg_none_of X G z_set,
    z_sorted := PySem.W.mg_none_of X G z_sorted,
    z_sum := PySem.W.mg_none_of X G z_sum,
    z_tuple := PySem.W.mg_none_of X G z_tuple,
    c_MOST_ZONES := ⟨_, PySem.W.mg_of X G v_MOST_ZONES⟩,
    g_FareError := PySem.W.mg_of X G aE_FareError, x_FareError := xE_FareError, k_FareError := kE_FareError, y_FareError := yE_FareError, t_FareError := tE_FareError,
    g_BadLink := PySem.W.mg_of X G aE_BadLink, x_BadLink := xE_BadLink, k_BadLink := kE_BadLink, y_BadLink := yE_BadLink, t_BadLink := tE_BadLink,
    g_BadStop := PySem.W.mg_of X G aE_BadStop, x_BadStop := xE_BadStop, k_BadStop := kE_BadStop, y_BadStop := yE_BadStop, t_BadStop := tE_BadStop,
    g_NoWay := PySem.W.mg_of X G aE_NoWay, x_NoWay := xE_NoWay, k_NoWay := kE_NoWay, y_NoWay := yE_NoWay, t_NoWay := tE_NoWay,
    g_BadPrices := PySem.W.mg_of X G aE_BadPrices, x_BadPrices := xE_BadPrices, k_BadPrices := kE_BadPrices, y_BadPrices := yE_BadPrices, t_BadPrices := tE_BadPrices,
    g_BadZones := PySem.W.mg_of X G aE_BadZones, x_BadZones := xE_BadZones, k_BadZones := kE_BadZones, y_BadZones := yE_BadZones, t_BadZones := tE_BadZones,
    g_PastDay := PySem.W.mg_of X G aE_PastDay, x_PastDay := xE_PastDay, k_PastDay := kE_PastDay, y_PastDay := yE_PastDay, t_PastDay := tE_PastDay,
    I_BadZones := ⟨⟨gg_BadZones, gk_BadZones, yE_BadZones, hE_BadZones, gc_BadZones, cl_ha, cl_ht, gm_BadZones⟩, PySem.W.exm_ref yE_FareError hE_FareError tE_FareError sb_BadZones_FareError, kit_own ⟨yE_FareError, hE_FareError, tE_FareError⟩ sb_BadZones_FareError sb_BadZones_BadZones, kit_type meta_ve gv_BadZones, kit_own ⟨yE_BadLink, hE_BadLink, tE_BadLink⟩ sb_BadZones_BadLink sb_BadZones_BadZones, kit_own ⟨yE_BadStop, hE_BadStop, tE_BadStop⟩ sb_BadZones_BadStop sb_BadZones_BadZones, kit_own ⟨yE_NoWay, hE_NoWay, tE_NoWay⟩ sb_BadZones_NoWay sb_BadZones_BadZones, kit_own ⟨yE_BadPrices, hE_BadPrices, tE_BadPrices⟩ sb_BadZones_BadPrices sb_BadZones_BadZones, kit_own ⟨yE_BadZones, hE_BadZones, tE_BadZones⟩ sb_BadZones_BadZones sb_BadZones_BadZones, kit_own ⟨yE_PastDay, hE_PastDay, tE_PastDay⟩ sb_BadZones_PastDay sb_BadZones_BadZones⟩ }
  exact ⟨PySem.W.fnOf "law" "law" (defArgs s_law) (defBody s_law) (defScope s_law) .none kV_law dc_law pm_law an_law cd_law ct_law, fun s v => .of_eq rfl, fun base _ _ => ok_law (A := A) (P := l.prog) (w := w) (base := base) T⟩
theorem walk {l : PySem.W.OpenLaw} {q : Program} {loose : List Str} {XP : (Str → Option Value) → Heap → Prop} {YP : World → Heap → Prop} {d : DefRec} {K : Params → PySem.W.Frag} (hn : l.most = some 63) (hdf : d.params.defaults = [])
    (hY : ∀ (w : World) (h : Heap), YP w h → (K w.params).In h)
    (F : ∀ (w : World) (mg : Str → Option Value) (fa : Addr) (h : Heap), (K w.params).In h → h.Ns mainGlobals mg → mg d.name = some (.ref fa) →
      ∃ fd : FuncData, (∀ (s : Shared) (u : Value), BindsTo s fd ⟨[u], []⟩ [("_law_script", u)]) ∧ ∀ base : Heap, (K w.params).In base → base.Ns mainGlobals mg → FnOk l.prog w (K w.params) mg base (L2.CX l.prog w) 7 fa fd ["_law_script"] (spLaw (K w.params))) :
    PySem.W.WalkO q loose XP YP l.row.toRowW d [] (fun f vs => PySem.call f vs) :=
  L2.walk_of (n := 63) (k := 7) (x := "_law_script") (CX := fun w => L2.CX l.prog w) (sp := fun w => spLaw (K w.params)) hn (by decide) hdf ⟨rfl, by decide, by decide⟩ hY F (fun _ _ a ns hl _ hS => ⟨a, ns, rfl, hS, hl, fun _ => rfl⟩) fun _ _ _ _ _ z => cx_none z
end FW
open PySem PySem.W PyProof.Rows
set_option maxRecDepth 100000 in
set_option maxHeartbeats 0 in
theorem PySem.Challenge.cw_fareweb_k06_tickets_that_serve_holds : PySem.Challenge.rw_fareweb_k06_tickets_that_serve.Holds := by
  w_on; o_law; k_head; (case hw => w_witness2)
  k_fill
  refine FW.walk (l := PySem.Challenge.rw_fareweb_k06_tickets_that_serve) rfl rfl (fun w h Y => PySem.W.kIn_of Y) ?F
  case F =>
    intro w mg fa h KX G hmg
    refine' FW.all_mk KX G hmg ?aE_FareError ?xE_FareError ?kE_FareError ?yE_FareError ?tE_FareError ?aE_BadLink ?xE_BadLink ?kE_BadLink ?yE_BadLink ?tE_BadLink ?aE_BadStop ?xE_BadStop ?kE_BadStop ?yE_BadStop ?tE_BadStop ?aE_NoWay ?xE_NoWay ?kE_NoWay ?yE_NoWay ?tE_NoWay ?aE_BadPrices ?xE_BadPrices ?kE_BadPrices ?yE_BadPrices ?tE_BadPrices ?aE_BadZones ?xE_BadZones ?kE_BadZones ?yE_BadZones ?tE_BadZones ?aE_PastDay ?xE_PastDay ?kE_PastDay ?yE_PastDay ?tE_PastDay ?cl_ha ?cl_ht ?hE_FareError ?hE_BadLink ?hE_BadStop ?hE_NoWay ?hE_BadPrices ?hE_BadZones ?hE_PastDay ?gg_BadZones ?gk_BadZones ?gc_BadZones ?gm_BadZones ?gv_BadZones ?sb_BadZones_BadLink ?sb_BadZones_BadStop ?sb_BadZones_NoWay ?sb_BadZones_BadPrices ?sb_BadZones_BadZones ?sb_BadZones_PastDay ?sb_BadZones_FareError ?aC_Tariff ?pC_Tariff ?dC_Tariff ?oC_Tariff ?sC_Tariff ?mC_Tariff ?kC_Tariff ?n_Tariff_days ?n_Tariff_singles ?n_Tariff_weeks ?a_need_zones ?l_need_zones ?c_need_zones ?k_need_zones ?a_cheapest ?l_cheapest ?c_cheapest ?k_cheapest ?a_Tariff_init ?i_Tariff_init ?l_Tariff_init ?c_Tariff_init ?k_Tariff_init ?a_Tariff_single ?i_Tariff_single ?l_Tariff_single ?c_Tariff_single ?k_Tariff_single ?a_Tariff_day ?i_Tariff_day ?l_Tariff_day ?c_Tariff_day ?k_Tariff_day ?a_Tariff_week ?i_Tariff_week ?l_Tariff_week ?c_Tariff_week ?k_Tariff_week ?a_cost_of ?l_cost_of ?c_cost_of ?k_cost_of ?a_for_day ?l_for_day ?c_for_day ?k_for_day ?a_for_week ?l_for_week ?c_for_week ?k_for_week ?a_least ?l_least ?c_least ?k_least ?a_l_cell_at ?l_l_cell_at ?c_l_cell_at ?k_l_cell_at ?a_l_whole ?l_l_whole ?c_l_whole ?k_l_whole ?a_l_rows ?l_l_rows ?c_l_rows ?k_l_rows ?a_l_days ?l_l_days ?c_l_days ?k_l_days ?a_l_shaped ?l_l_shaped ?c_l_shaped ?k_l_shaped ?a_l_serves ?l_l_serves ?c_l_serves ?k_l_serves ?a_l_served ?l_l_served ?c_l_served ?k_l_served ?a_l_good ?l_l_good ?c_l_good ?k_l_good ?a_l_refused ?l_l_refused ?c_l_refused ?k_l_refused ?a_law ?l_law ?c_law ?k_law ?z_ValueError ?z_bool ?z_enumerate ?z_int ?z_isinstance ?z_len ?z_list ?z_max ?z_min ?z_range ?z_set ?z_sorted ?z_sum ?z_tuple ?v_MOST_ZONES
    (case aE_FareError => k_is)
    (case xE_FareError => k_exc)
    (case kE_FareError => k_is)
    (case yE_FareError => k_is)
    (case tE_FareError => k_is)
    (case aE_BadLink => k_is)
    (case xE_BadLink => k_exc)
    (case kE_BadLink => k_is)
    (case yE_BadLink => k_is)
    (case tE_BadLink => k_is)
    (case aE_BadStop => k_is)
    (case xE_BadStop => k_exc)
    (case kE_BadStop => k_is)
    (case yE_BadStop => k_is)
    (case tE_BadStop => k_is)
    (case aE_NoWay => k_is)
    (case xE_NoWay => k_exc)
    (case kE_NoWay => k_is)
    (case yE_NoWay => k_is)
    (case tE_NoWay => k_is)
    (case aE_BadPrices => k_is)
    (case xE_BadPrices => k_exc)
    (case kE_BadPrices => k_is)
    (case yE_BadPrices => k_is)
    (case tE_BadPrices => k_is)
    (case aE_BadZones => k_is)
    (case xE_BadZones => k_exc)
    (case kE_BadZones => k_is)
    (case yE_BadZones => k_is)
    (case tE_BadZones => k_is)
    (case aE_PastDay => k_is)
    (case xE_PastDay => k_exc)
    (case kE_PastDay => k_is)
    (case yE_PastDay => k_is)
    (case tE_PastDay => k_is)
    (case cl_ha => k_is)
    (case cl_ht => k_is)
    (case hE_FareError => k_is)
    (case hE_BadLink => k_is)
    (case hE_BadStop => k_is)
    (case hE_NoWay => k_is)
    (case hE_BadPrices => k_is)
    (case hE_BadZones => k_is)
    (case hE_PastDay => k_is)
    (case gg_BadZones => k_is)
    (case gk_BadZones => k_is)
    (case gc_BadZones => k_is)
    (case gm_BadZones => k_is)
    (case gv_BadZones => k_is)
    (case sb_BadZones_BadLink => k_is)
    (case sb_BadZones_BadStop => k_is)
    (case sb_BadZones_NoWay => k_is)
    (case sb_BadZones_BadPrices => k_is)
    (case sb_BadZones_BadZones => k_is)
    (case sb_BadZones_PastDay => k_is)
    (case sb_BadZones_FareError => k_is)
    (case aC_Tariff => k_is)
    (case pC_Tariff => k_is)
    (case dC_Tariff => k_is)
    (case oC_Tariff => k_is)
    (case sC_Tariff => k_is)
    (case mC_Tariff => k_is)
    (case kC_Tariff => k_is)
    (case n_Tariff_days => k_is)
    (case n_Tariff_singles => k_is)
    (case n_Tariff_weeks => k_is)
    (case a_need_zones => k_is)
    (case l_need_zones => k_is)
    (case c_need_zones => k_is)
    (case k_need_zones => k_is)
    (case a_cheapest => k_is)
    (case l_cheapest => k_is)
    (case c_cheapest => k_is)
    (case k_cheapest => k_is)
    (case a_Tariff_init => k_is)
    (case i_Tariff_init => k_is)
    (case l_Tariff_init => k_is)
    (case c_Tariff_init => k_is)
    (case k_Tariff_init => k_is)
    (case a_Tariff_single => k_is)
    (case i_Tariff_single => k_is)
    (case l_Tariff_single => k_is)
    (case c_Tariff_single => k_is)
    (case k_Tariff_single => k_is)
    (case a_Tariff_day => k_is)
    (case i_Tariff_day => k_is)
    (case l_Tariff_day => k_is)
    (case c_Tariff_day => k_is)
    (case k_Tariff_day => k_is)
    (case a_Tariff_week => k_is)
    (case i_Tariff_week => k_is)
    (case l_Tariff_week => k_is)
    (case c_Tariff_week => k_is)
    (case k_Tariff_week => k_is)
    (case a_cost_of => k_is)
    (case l_cost_of => k_is)
    (case c_cost_of => k_is)
    (case k_cost_of => k_is)
    (case a_for_day => k_is)
    (case l_for_day => k_is)
    (case c_for_day => k_is)
    (case k_for_day => k_is)
    (case a_for_week => k_is)
    (case l_for_week => k_is)
    (case c_for_week => k_is)
    (case k_for_week => k_is)
    (case a_least => k_is)
    (case l_least => k_is)
    (case c_least => k_is)
    (case k_least => k_is)
    (case a_l_cell_at => k_is)
    (case l_l_cell_at => k_is)
    (case c_l_cell_at => k_is)
    (case k_l_cell_at => k_is)
    (case a_l_whole => k_is)
    (case l_l_whole => k_is)
    (case c_l_whole => k_is)
    (case k_l_whole => k_is)
    (case a_l_rows => k_is)
    (case l_l_rows => k_is)
    (case c_l_rows => k_is)
    (case k_l_rows => k_is)
    (case a_l_days => k_is)
    (case l_l_days => k_is)
    (case c_l_days => k_is)
    (case k_l_days => k_is)
    (case a_l_shaped => k_is)
    (case l_l_shaped => k_is)
    (case c_l_shaped => k_is)
    (case k_l_shaped => k_is)
    (case a_l_serves => k_is)
    (case l_l_serves => k_is)
    (case c_l_serves => k_is)
    (case k_l_serves => k_is)
    (case a_l_served => k_is)
    (case l_l_served => k_is)
    (case c_l_served => k_is)
    (case k_l_served => k_is)
    (case a_l_good => k_is)
    (case l_l_good => k_is)
    (case c_l_good => k_is)
    (case k_l_good => k_is)
    (case a_l_refused => k_is)
    (case l_l_refused => k_is)
    (case c_l_refused => k_is)
    (case k_l_refused => k_is)
    (case a_law => k_is)
    (case l_law => k_is)
    (case c_law => k_is)
    (case k_law => k_is)
    (case z_ValueError => k_is)
    (case z_bool => k_is)
    (case z_enumerate => k_is)
    (case z_int => k_is)
    (case z_isinstance => k_is)
    (case z_len => k_is)
    (case z_list => k_is)
    (case z_max => k_is)
    (case z_min => k_is)
    (case z_range => k_is)
    (case z_set => k_is)
    (case z_sorted => k_is)
    (case z_sum => k_is)
    (case z_tuple => k_is)
    (case v_MOST_ZONES => k_is)
#print axioms PySem.Challenge.cw_fareweb_k06_tickets_that_serve_holds

